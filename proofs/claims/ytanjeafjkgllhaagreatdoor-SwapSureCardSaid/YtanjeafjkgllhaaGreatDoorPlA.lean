/- lemmas -/
import Derived.Test.YtanjeafjkgllhaaGreatDoorMdPA
import Derived.Test.YtanjeafjkgllhaaGreatDoorMdTA
import Derived.Test.YtanjeafjkgllhaaGreatDoorAmC
import Derived.Laws.Strings
import Derived.Lib.SplitLaws
import Derived.Lib.AtoiAllCases
set_option linter.all false
noncomputable section
namespace Go.Proofs.ZzM
open Go Go.Am
abbrev BL:Type:=w9 UInt8
abbrev toL (s:ByteArray):BL:=s.data.toList
abbrev ofL (l:BL):ByteArray:=⟨l.toArray⟩
def TV {s t:ByteArray} (h:toL s=toL t):s=t:=by
 obtain⟨⟨s⟩⟩:=s; obtain⟨⟨t⟩⟩:=t; cases h; rfl
def tT (s:ByteArray):ofL (toL s)=s:=TV rfl
def iu (a b:BL):ofL a++ofL b=ofL (a++b):=TV (by rw[toL,ByteArray.toList_data_append])
def ã (l:BL):(ofL l).size=l.length:=by rw[Lib.size_eq]
def B0 (s:ByteArray):s.size=(toL s).length:=Lib.size_eq s
def aao {a b:BL} (h:ofL a=ofL b):a=b:=by have:=congrArg toL h; simpa using this
def j9 (l:BL) (i j:Nat):(ofL l).extract i j=ofL ((l.take j).drop i):=by
 apply TV;have:=Lib.extract_toList (ofL l) i j;rw[ByteArray.toList_eq] at this;rw[toL,this,List.drop_take]
def FE (a b:BL):((ofL a).toList==(ofL b).toList)=decide (a=b):=by
 rw[ByteArray.toList_eq,ByteArray.toList_eq]
 by_cases h:a=b
 ·simp[h]
 ·simp[h]
def xU (a b:BL):T5 (ofL a) (ofL b)=decide (a=b):=rfl
open Lib in
def abX {u k:Nat} (h:u<10 ^ (k+1)):(decDigits u).length<=k+1:=by
 induction k generalizing u with
 |zero=>rw[decDigits,dif_pos (by simpa using h)]; simp
 |succ k a =>
  rw[decDigits]
  split
  ·simp
  ·have:=a (u:=u / 10) (by rw[Nat.pow_succ] at h; omega);simp; omega
def Lc (u:Nat):∀c∈Lib.decDigits u,48<=c.toNat/\c.toNat<=57:=by
 induction u using Nat.strongRecOn with
 |ind u ih =>
  rw[Lib.decDigits]
  have one:∀d:Nat,d<10->48<=(UInt8.ofNat (48+d)).toNat/\(UInt8.ofNat (48+d)).toNat<=57:=fun d hd=>by
   rw[UInt8.toNat_ofNat']; omega
  split
  ·intro c a; rw[cT.1 a]; exact one u (by omega)
  ·intro c a;rcases cO.1 a with a|a
   ·exact ih (u / 10) (by omega) c a
   ·rw[cT.1 a]; exact one (u % 10) (by omega)
def afq (u:Nat):Lib.decDigits u≠[]:=by
 rw[Lib.decDigits]; split<;>simp
def YA (n:Int):∀c∈Lib.itoa n,c.toNat=45\/48<=c.toNat/\c.toNat<=57:=by
 unfold Lib.itoa
 split
 ·intro c a;rcases cP.1 a with rfl|a
  ·exact .inl rfl
  ·exact .inr (Lc _ c a)
 ·exact fun c a=>.inr (Lc _ c a)
def aeb {n:Int} {k:Nat} (h:n.natAbs<10 ^ (k+1)):(Lib.itoa n).length<=k+2:=by
 unfold Lib.itoa
 split
 ·have:=abX h; simp; omega
 ·have:=abX (u:=n.toNat) (k:=k) (by omega); omega
def tz {n:Int} (h:I64 n):(Lib.itoa n).length<=20:=aeb (k:=18) (by obtain⟨a,h2⟩:=h; omega)
def Vr {n:Int} (h:I64 n):jM n=some (ofL (Lib.itoa n)):=by
 unfold jM abt i64B;simp[h.1,h.2,ofL]
def adj (u:Nat) (a:u<18446744073709551616):∀(acc:Nat) (r:BL),acc=0->Lib.parseUint10 acc (Lib.decDigits u++r)=Lib.parseUint10 u r:=by
 induction u using Nat.strongRecOn with
 |ind u ih =>
  intro acc r ha;subst ha
  have one:∀d:Nat,d<10->(UInt8.ofNat (48+d)).toNat=48+d:=fun d hd=>by rw[UInt8.toNat_ofNat']; omega
  rw[Lib.decDigits]
  split
  ·rename_i h;simp only[dV,dC,Lib.parseUint10,one u h];rw[if_pos (by omega),if_neg (by omega),if_neg (by omega)];congr 1; omega
  ·rename_i h;rw[cS,ih (u / 10) (by omega) (by omega) 0 _ rfl];simp only[dV,dC,Lib.parseUint10,one (u % 10) (by omega)];rw[if_pos (by omega),if_neg (by omega),if_neg (by omega)];congr 1; omega
def aaJ {u:Nat} (a:u<18446744073709551616):Lib.parseMag (Lib.decDigits u)=.ok u:=by
 unfold Lib.parseMag;rw[if_neg (afq u)];have:=adj u a 0 [] rfl;rw[List.append_nil] at this;rw[this]; rfl
def Tz {n:Int} (h:I64 n):Lib.atoiAll (Lib.itoa n)=.ok n:=by
 obtain⟨d,h2⟩:=h;unfold Lib.itoa
 split
 ·rename_i h0;rw[Lib.atoiAll_minus,aaJ (by omega)];unfold Lib.signed;simp only;rw[if_neg (by omega)];congr 1; omega
 ·rename_i h0
  obtain⟨c,r,a⟩:∃c r,Lib.decDigits n.toNat=c::r:=by
   cases h:Lib.decDigits n.toNat with
   |nil=>exact absurd h (afq _)
   |cons c r=>exact⟨c,r,rfl⟩
  have hd:=Lc n.toNat c (by rw[a]; simp);rw[a,Lib.atoiAll_plain c r (by omega) (by omega),<-a,aaJ (by omega)];unfold Lib.signless;simp only;rw[if_neg (by omega)];congr 1; omega
def BJ (w:BL):Int:=match Lib.atoiAll w with|.ok v=>v|_=>0
def acK (w:BL):I64 (BJ w):=by
 unfold BJ
 split
 ·exact Lib.atoiAll_bounds (by assumption)
 ·exact⟨by omega,by omega⟩
def Oz {n:Int} (h:I64 n):BJ (Lib.itoa n)=n:=by unfold BJ; rw[Tz h]
end Go.Proofs.ZzM
end

noncomputable section
namespace Go.Proofs.ZzM
open Go Go.Am
def Ti (c:UInt8):BL->BL->w9 BL
 |acc,[]=>[acc]
 |acc,b::l=>if b=c then acc::Ti c [] l else Ti c (acc++[b]) l
abbrev YT (c:UInt8) (l:BL):w9 BL:=Ti c [] l
def HZ (c:UInt8):∀(w acc l:BL),(∀b∈w,b≠c)->Ti c acc (w++l)=Ti c (acc++w) l
 |[],acc,l,_=>by simp
 |b::w,acc,l,h=>by
  rw[dV,Ti,if_neg (h b (by simp)),HZ c w _ l fun x a=>h x (by simp[a])];simp
def H5 (c:UInt8):∀(l acc:BL),(Ti c acc l).length<=l.length+1
 |[],_=>by simp[Ti]
 |b::l,acc=>by
  rw[Ti]
  split
  ·have:=H5 c l []; simp; omega
  ·have:=H5 c l (acc++[b]); simp; omega
def H4 (c:UInt8):∀(l acc:BL),∀w∈Ti c acc l,w.length<=acc.length+l.length
 |[],acc,w,h=>by rw[cT.1 h]; simp
 |b::l,acc,w,h=>by
  rw[Ti] at h
  split at h
  ·rcases cP.1 h with rfl|h
   ·simp
   ·have:=H4 c l [] w h; simp at this ⊢; omega
  ·have:=H4 c l _ w h; simp at this ⊢; omega
def Xe (c:UInt8):∀(l acc:BL),∃w ws,Ti c acc l=w::ws
 |[],acc=>⟨_,_,rfl⟩
 |b::l,acc=>by
  rw[Ti]
  split
  ·exact⟨_,_,rfl⟩
  ·exact Xe c l _
def spL (c:UInt8) (ws:w9 BL):BL:=ws.flatMap fun w=>c::w
def P1 (c:UInt8):∀(ws:w9 BL) (w:BL),(∀b∈w,b≠c)->(∀v∈ws,∀b∈v,b≠c)->YT c (w++spL c ws)=w::ws
 |[],w,h,_=>by
  have:=HZ c w [] [] h;rw[df] at this;simp only[spL,gJ,df];rw[YT,this]; rfl
 |v::ws,w,h,a=>by
  rw[YT,HZ c w [] _ h]
  have:spL c (v::ws)=c::(v++spL c ws):=by simp[spL]
  rw[this,Ti,if_pos rfl,dC];rw[show Ti c [] (v++spL c ws)=_ from P1 c ws v (a v (by simp)) fun x d=>a x (by simp[d])]
open Lib in
def SO (c:UInt8):∀l:BL,(index l [c] = -1/\∀b∈l,b≠c)\/∃w r,l=w++c::r/\(∀b∈w,b≠c)/\index l [c]=w.length
 |[]=>.inl ⟨rfl,by simp⟩
 |b::l=>by
  by_cases h:b=c
  ·subst h;refine .inr ⟨[],l,rfl,by simp,?_⟩;unfold index; rw[if_pos (by simp[List.isPrefixOf])]; rfl
  ·have d:List.isPrefixOf [c] (b::l)=false:=by simp[List.isPrefixOf,Ne.symm h]
   rcases SO c l with⟨f,h2⟩|⟨w,r,rfl,h2,e⟩
   ·refine .inl ⟨by unfold index; rw[d,f]; rfl,fun x a=>?_⟩;rcases List.mem_cons.1 a with rfl|a
    ·exact h
    ·exact h2 x a
   ·refine .inr ⟨b::w,r,rfl,fun x a=>?_,?_⟩
    ·rcases cP.1 a with rfl|a
     ·exact h
     ·exact h2 x a
    ·unfold index;rw[d,e]
     have:(((w.length:Nat):Int)==-1)=false:=by rw[beq_eq_false_iff_ne]; omega
     simp[this]
def Nf (c:UInt8):∀(k:Nat) (l:BL),l.count c=k->Lib.splitK [c] 0 k l=YT c l
 |0,l,h=>by
  have h0:∀b∈l,b≠c:=fun b hb e=>List.count_eq_zero.1 h (e▸hb);have:=P1 c [] l h0 (by simp);rw[show spL c []=[] from rfl,df] at this;rw[this]; rfl
 |k+1,l,h=>by
  rcases SO c l with⟨_,h2⟩|⟨w,r,rfl,h2,g⟩
  ·exact absurd (List.count_eq_zero.2 fun a=>h2 _ a rfl) (by omega)
  ·have d:w.count c=0:=List.count_eq_zero.2 fun a=>h2 _ a rfl
   have f:r.count c=k:=by rw[List.count_append,List.count_cons,d] at h; simp at h; omega
   rw[Lib.splitK,g,if_neg (by rw[beq_iff_eq]; omega),dc,fK,List.take_left,show w.length+[c].length=w.length+1 from rfl,YT,HZ c w [] _ h2,Ti,if_pos rfl,dC];congr 1;rw[show(w++c::r).drop (w.length+1)=r by simp,Nf c k r f]
def YU (l:BL) (c:UInt8):Lib.countB (ofL l) (ofL [c])=l.count c:=by
 have:Lib.countB (ofL l) (ofL [c])=Lib.count l [c]:=by
  first
   |exact Lib.countB_data _ _
   |rfl
   |(unfold Lib.countB; simp)
 rw[this,Lib.count_one]
def Xy (l:BL) (c:UInt8) (a:l.length<=1000000):pH (ofL l) (ofL [c])=some ((YT c l).map ofL):=by
 unfold pH yZ;rw[if_pos (by rw[ã,ã]; simp; omega),YU];congr 1;have h:=Lib.splitB_data (ofL [c]) 0 (l.count c) (ofL l);rw[show Lib.splitK (ofL [c]).data.toList 0 (l.count c) (ofL l).data.toList=YT c l from Nf c _ l rfl] at h;rw[<-h,List.map_map];exact(List.map_id' _).symm.trans (List.map_congr_left fun s _=>(tT s).symm)
def acS (l p:BL) (a:l.length<=1000000):Θ (ofL l) (ofL p)=some (ofL (Lib.trimSuffix l p)):=by
 unfold Θ ZC;rw[if_pos (by rw[ã]; omega)]
def ZB (l p:BL):Lib.trimSuffix (l++p) p=l:=by
 unfold Lib.trimSuffix Lib.hasSuffix;rw[if_pos (by simp[List.isSuffixOf_iff_suffix])];simp
def OI (l p:BL):(Lib.trimSuffix l p).length<=l.length:=by
 unfold Lib.trimSuffix; split<;>simp
def ahe (xs:w9 BL) (c:UInt8) (a:xs.length<=1000000) (h2:(Lib.join xs [c]).length<=100000000):rS (xs.map ofL) (ofL [c])=some (ofL (Lib.join xs [c])):=by
 unfold rS abq
 have e:(xs.map ofL).map (·.data.toList)=xs:=by rw[List.map_map]; exact(eG fun x _=>rfl).trans (List.map_id _)
 rw[e,if_pos];rw[dP];simp only[cM,decide_eq_true_eq];exact⟨by omega,by show(Lib.join xs [c]).length<=_; omega⟩
def abr (c:UInt8) (r:BL):∀w:BL,(∀b∈w,b≠c)->Lib.indexByte (w++c::r) c=w.length
 |[],_=>by rw[List.nil_append]; unfold Lib.indexByte; rw[if_pos (by simp)]; rfl
 |b::w,h=>by
  rw[List.cons_append];unfold Lib.indexByte;rw[if_neg (by simpa using h b (by simp)),abr c r w fun x a=>h x (by simp[a]),if_neg (by rw[beq_iff_eq]; omega)];simp
def yc:∀(n:Nat) (s:ByteArray),(nN n s).length<=n/\∀y∈nN n s,y.size<=s.size
 |0,s=>⟨cJ _,by simp[nN]⟩
 |n+1,s=>by
  obtain⟨l,rfl⟩:∃l,s=ofL l:=⟨_,(tT s).symm⟩;rw[nN]
  split
  ·exact⟨dI _,by simp⟩
  ·split
   ·rw[j9,j9];have c:=yc n (ofL ((l.take (ofL l).size).drop (Lib.indexByte (ofL l).data.toList 10+1).toNat))
    have h2:(ofL ((l.take (ofL l).size).drop (Lib.indexByte (ofL l).data.toList 10+1).toNat)).size<=(ofL l).size:=by rw[ã,ã]; simp
    refine⟨by have:=c.1; rw[cV]; omega,fun y a=>?_⟩;rcases cP.1 a with rfl|a
    ·rw[ã,ã]; simp; omega
    ·exact cW (c.2 y a) h2
   ·exact⟨by simp,fun y a=>by rw[cT.1 a]; exact cJ _⟩
def Kt:∀(n:Nat) (a:w9 BL),(∀l∈a,∀b∈l,b≠10)->(a.flatMap fun l=>l++[10]).length<=n->nN n (ofL (a.flatMap fun l=>l++[10]))=a.map fun l=>ofL (l++[10])
 |n,[],_,_=>by
  cases n with
  |zero=>rfl
  |succ n=>rw[nN,if_pos (by rw[ã]; rfl)]; rfl
 |0,l::a,_,c=>by simp at c
 |n+1,l::a,h,c=>by
  have e:((l::a).flatMap fun l=>l++[10])=l++10::a.flatMap fun l=>l++[10]:=by simp
  rw[e] at c ⊢;rw[nN,if_neg (by rw[ã]; simp)]
  have hi:Lib.indexByte (ofL (l++10::a.flatMap fun l=>l++[10])).data.toList 10=l.length:=by
   exact abr 10 _ l (h l (by simp))
  rw[hi,if_pos (by omega),show((l.length:Int)+1).toNat=l.length+1 by omega,j9,j9,ã,dY]
  have g:((l++10::a.flatMap fun l=>l++[10]).take (l.length+1)).drop 0=l++[10]:=by
   rw[f6,show l++10::(a.flatMap fun l=>l++[10])=(l++[10])++a.flatMap fun l=>l++[10] by simp];rw[eE (by simp),dN (by simp)]
  have f:((l++10::a.flatMap fun l=>l++[10]).take (l++10::a.flatMap fun l=>l++[10]).length).drop (l.length+1)=a.flatMap fun l=>l++[10]:=by
   rw[gH,show l++10::(a.flatMap fun l=>l++[10])=(l++[10])++a.flatMap fun l=>l++[10] by simp];rw[fZ (by simp),fH (by simp)]; rfl
  rw[g,f,Kt n a (fun x d=>h x (by simp[d])) (by simp at c ⊢; omega)]
end Go.Proofs.ZzM
end

noncomputable section
namespace Go.Proofs.ZzM
open Go Go.Am
def vL (p:w8 Int):w9 Int->w9 Int
 |[]=>[]
 |a::t=>if p=some a then vL (some a) t else a::vL (some a) t
def XO (l:w9 Int):w9 Int:=vL none (jK l)
def insI_perm (a:Int):∀l,(Zg a l).Perm (a::l)
 |[]=>f8 _
 |b::t=>by
  unfold Zg
  split
  ·exact f8 _
  ·exact((insI_perm a t).cons b).trans (List.Perm.swap a b t)
def isortI_perm:∀l,(jK l).Perm l
 |[]=>f8 _
 |a::t=>(insI_perm a _).trans ((isortI_perm t).cons a)
def insI_sorted (a:Int):∀{l:w9 Int},l.Pairwise (·<=·)->(Zg a l).Pairwise (·<=·)
 |[],_=>by simp[Zg]
 |b::t,h=>by
  rw[List.pairwise_cons] at h;unfold Zg
  split
  ·rename_i d;refine dD.2 ⟨fun x c=>?_,dD.2 h⟩;rcases cP.1 c with rfl|c
   ·exact d
   ·have:=h.1 x c; omega
  ·rename_i d;refine dD.2 ⟨fun x c=>?_,insI_sorted a h.2⟩;rcases cP.1 ((insI_perm a t).mem_iff.1 c) with rfl|c
   ·omega
   ·exact h.1 x c
def isortI_sorted:∀l:w9 Int,(jK l).Pairwise (·<=·)
 |[]=>List.Pairwise.nil
 |a::t=>insI_sorted a (isortI_sorted t)
def OQ (l:w9 Int):Ex l=jK l:=rfl
def M8 (a:Int):∀(l:w9 Int) (p:w8 Int),vL p (l++[a])=vL p l++(if (match l.getLast? with|some b=>some b|none=>p)=some a then[] else[a])
 |[],p=>by simp only[dC,vL,List.getLast?_nil]; rfl
 |b::t,p=>by
  have d:=M8 a t (some b)
  have e:(match (b::t).getLast? with|some c=>some c|none=>p)=(match t.getLast? with|some c=>some c|none=>some b):=by
   cases t with
   |nil=>rfl
   |cons c t =>
    rw[List.getLast?_cons_cons]
    cases h:(c::t).getLast? with
    |none=>simp at h
    |some x=>rfl
  rw[e];simp only[dV,vL,d]
  split<;>simp
def AJ (l:w9 Int):∀m,m<=l.length->Lib.compactUpTo l.toArray m=vL none (l.take m)
 |0,_=>by simp[Lib.compactUpTo,vL]
 |m+1,h=>by
  have d:m<l.length:=h;rw[Lib.compactUpTo_succ,AJ l m (by omega),take_succ (cI d),M8];congr 1
  have e:l.toArray[m]! = l[m]:=by simp[getElem!_pos,d]
  rw[e];unfold Lib.keeps;rw[e]
  cases m with
  |zero=>simp
  |succ m =>
   have c:m<l.length:=by omega
   have g:l.toArray[m+1-1]! = l[m]:=by simp[getElem!_pos,c]
   rw[g]
   have f:(l.take (m+1)).getLast?=some l[m]:=by rw[take_succ (cI c),List.getLast?_append]; rfl
   rw[f]
   by_cases a:l[m+1]=l[m]
   ·simp[a]
   ·have:¬l[m]=l[m+1]:=fun h=>a h.symm;simp[a,this]
def U4 (l:w9 Int):yA l=vL none l:=by
 unfold yA Lib.compact;rw[AJ l l.length (Nat.le_refl _),List.take_length]
def ZU (l:w9 Int):yA (Ex l)=XO l:=by rw[OQ,U4]; rfl
def QD:∀{l:w9 Int} {p:w8 Int} {x:Int},p≠some x->(x∈vL p l↔x∈l)
 |[],_,_,_=>Iff.rfl
 |a::t,p,x,f=>by
  unfold vL
  by_cases c:x=a
  ·subst c;rw[if_neg f]; simp
  ·have d:=QD (l:=t) (p:=some a) (x:=x) (fun e=>c (by cases e; rfl))
   split<;>simp[d,c]
def Vy:∀{l:w9 Int} {p:w8 Int},l.Pairwise (·<=·)->(∀q,p=some q->∀x∈l,q<=x)->(vL p l).Pairwise (·<·)/\∀q,p=some q->∀x∈vL p l,q<x
 |[],p,_,_=>⟨List.Pairwise.nil,fun _ _ _ h=>by cases h⟩
 |a::t,p,h,i=>by
  rw[List.pairwise_cons] at h;obtain⟨g,f⟩:=Vy (l:=t) (p:=some a) h.2 (fun q d x c=>by cases d; exact h.1 x c);unfold vL
  split
  ·rename_i e;exact⟨g,fun q d x c=>by rw[e] at d; cases d; exact f _ rfl x c⟩
  ·rename_i e;refine⟨dD.2 ⟨fun x c=>f _ rfl x c,g⟩,fun q d x c=>?_⟩;have:=i q d a (by simp);have j:q≠a:=fun h=>e (by rw[d,h]);rcases cP.1 c with rfl|c
   ·omega
   ·have:=f _ rfl x c; omega
def adv {l:w9 Int} {x:Int}:x∈XO l↔x∈l:=by
 unfold XO;rw[QD (by simp),(isortI_perm l).mem_iff]
def afV (l:w9 Int):(XO l).Pairwise (·<·):=(Vy (isortI_sorted l) (fun q a=>by cases a)).1
def QE:∀(l:w9 Int) (p:w8 Int),(vL p l).length<=l.length
 |[],_=>cJ _
 |a::t,p=>by
  have:=QE t (some a);unfold vL
  split<;>simp<;>omega
def HE (l:w9 Int):(XO l).length<=l.length:=by
 unfold XO;have:=QE (jK l) none
 rwa [(isortI_perm l).length_eq] at this
def vT (b:ċ) (s:w9 (Int×Ą)) (c:Cmp):Int :=
 if (c.2.2.1++c.2.2.2.1).any (fun id=>lU s id c.2.1==5) then 5 else
 if (c.2.2.1++c.2.2.2.1).any (fun id=>lU s id c.2.1==4) then 4 else
 if (c.2.2.1++c.2.2.2.1).any (fun id=>(ow b id c.2.1).isSome) then 9 else
 if 1<(ğ c.2.2.1 c.2.2.2.1).length then 1 else if 1<(ğ c.2.2.2.1 c.2.2.1).length then 1 else
 if (ğ c.2.2.1 c.2.2.2.1).length+(ğ c.2.2.2.1 c.2.2.1).length=0 then 1 else 0
def O7 (c:Cmp):Bool :=
 inP c.1 1 1099511627776&&(Le c.2.1&&(inP c.2.2.2.2.1 (-1125899906842624) 1125899906842624&&(inP c.2.2.2.2.2.1 0 1073741824&&(lP c.2.2.2.2.2.2 (-10000) 10000&&(yI c.2.2.1&&yI c.2.2.2.1)))))
def ol (b:ċ) (s:w9 (Int×Ą)) (i:Nat) (c:Cmp):Int :=
 if !O7 c then 1 else if (b.2.2.2.2.1.take i).any (fun x=>x.1==c.1) then 6 else vT b s c
def SI (a b:w9 Int):(ğ a b).length<=a.length:=ej _ _
set_option maxHeartbeats 1000000 in
def Lj {b:ċ} (W:b.2.2.2.2.1.length<=1000) (R:b.2.2.2.1.length<=1000) (s:w9 (Int×Ą)) {i:Nat} {c:Cmp} (Y:c.2.2.1.length<=100000) (X:c.2.2.2.1.length<=100000)
 (I:b.2.2.2.2.1[i]?=some c):Ľ b s i=some (ol b s i c):=by
 have hi:i<b.2.2.2.2.1.length:=(List.getElem?_eq_some_iff.1 I).1;unfold Ľ nA ol O7;rw[È I,Κ,Á]
 cases inP c.1 1 1099511627776 with
 |false=>rfl
 |true =>
 rw[HP,Á]
 cases Le c.2.1 with
 |false=>rfl
 |true =>
 rw[Κ,Á]
 cases inP c.2.2.2.2.1 (-1125899906842624) 1125899906842624 with
 |false=>rfl
 |true =>
 rw[Κ,Á]
 cases inP c.2.2.2.2.2.1 0 1073741824 with
 |false=>rfl
 |true =>
 rw[DS,Á]
 cases lP c.2.2.2.2.2.2 (-10000) 10000 with
 |false=>rfl
 |true =>
 rw[SL (by omega),Á]
 cases yI c.2.2.1 with
 |false=>rfl
 |true =>
 rw[SL (by omega),Á]
 cases yI c.2.2.2.1 with
 |false=>rfl
 |true =>
 have T:((ile (0:Int) (i:Int))&&(ile (i:Int) (ï b.2.2.2.2.1)))=true:=by simp[ile,ï]; omega
 simp only[dJ,ê,Bool.and_self,dj,if_false];rw[Į T,dc]
 -- what comes behind the IDs
 have rest:(Ã (ĝ ([c.2.2.1,c.2.2.2.1])) fun g=>É (fun(D:Int) o=>ń s g (Ô ([(5:Int),(4:Int)])) c.2.1 ([(5:Int),(4:Int)]) D (fun F=>o F) (fun z=>some z) (fun _=>É (fun(E:Int) r=>Ń g (Ô g) b.1.1 b.1.2 b.2.1 b.2.2.1 b.2.2.2.1 b.2.2.2.2.1 b.2.2.2.2.2 c.2.1 E (fun G=>r G) (fun y=>some y) (fun _=>Ã (ŵ c.2.2.1 c.2.2.2.1) fun f=>Ã (ŵ c.2.2.2.1 c.2.2.1) fun e=>ifb (igt (Ô f) (1:Int)) (some (1:Int)) (ifb (igt (Ô e) (1:Int)) (some (1:Int)) (ck ((Ô f)+(Ô e)) fun h=>ifb (ieq h (0:Int)) (some (1:Int)) (some (0:Int)))))) (0:Int))) (0:Int))=some (vT b s c):=by
  rw[TH (by omega) (by omega),Á]
  have J:(c.2.2.1++c.2.2.2.1).length<=200000:=by simp; omega
  have last:(Ã (ŵ c.2.2.1 c.2.2.2.1) fun f=>Ã (ŵ c.2.2.2.1 c.2.2.1) fun e=>ifb (igt (Ô f) (1:Int)) (some (1:Int)) (ifb (igt (Ô e) (1:Int)) (some (1:Int)) (ck ((Ô f)+(Ô e)) fun h=>ifb (ieq h (0:Int)) (some (1:Int)) (some (0:Int))))) =
   some (if 1<(ğ c.2.2.1 c.2.2.2.1).length then 1 else if 1<(ğ c.2.2.2.1 c.2.2.1).length then 1 else if (ğ c.2.2.1 c.2.2.2.1).length+(ğ c.2.2.2.1 c.2.2.1).length=0 then 1 else 0):=by
   rw[Ff (by omega) (by omega),Á,Ff (by omega) (by omega),Á];have V:=SI c.2.2.1 c.2.2.2.1;have U:=SI c.2.2.2.1 c.2.2.1;rw[â,â,Ù (by omega) (by omega)]
   by_cases P:1<(ğ c.2.2.1 c.2.2.2.1).length
   ·rw[æ (by simp[igt]; omega),if_pos P]
   rw[Õ (by simp[igt]; omega),if_neg P]
   by_cases O:1<(ğ c.2.2.2.1 c.2.2.1).length
   ·rw[æ (by simp[igt]; omega),if_pos O]
   rw[Õ (by simp[igt]; omega),if_neg O]
   by_cases K:(ğ c.2.2.1 c.2.2.2.1).length+(ğ c.2.2.2.1 c.2.2.1).length=0
   ·rw[æ (by simp[ieq]; omega),if_pos K]
   rw[Õ (by simp[ieq]; omega),if_neg K]
  refine fe (oC [(5:Int),4] (fun _ d=>if (c.2.2.1++c.2.2.2.1).any (fun id=>lU s id c.2.1==d) then some d else none) some (some (if (c.2.2.1++c.2.2.2.1).any (fun id=>(ow b id c.2.1).isSome) then 9 else if 1<(ğ c.2.2.1 c.2.2.2.1).length then 1 else if 1<(ğ c.2.2.2.1 c.2.2.1).length then 1 else if (ğ c.2.2.1 c.2.2.2.1).length+(ğ c.2.2.2.1 c.2.2.1).length=0 then 1 else 0)) (fun j d n Q v=>?_) (fun v=>?_)) ?_
  ·try dsimp only
   unfold ń;rw[Ñ n,mc n,Μ Q];refine Eq.trans (gS (c.2.2.1++c.2.2.2.1) (fun id=>lU s id c.2.1==d) (fun _=>some d) (some d) (v ((j:Int)+1)) (fun _=>rfl) (fun k a u ha l=>?_) (fun l=>?_)) ?_
   ·try dsimp only
    unfold ω;rw[Ñ u,È ha,Ut,Á,Î u (by omega),Ġ]
   ·try dsimp only
    unfold ω;rw[é,Î n (by simp)]
   ·cases List.any (c.2.2.1++c.2.2.2.1) (fun id=>lU s id c.2.1==d)<;>rfl
  ·try dsimp only
   unfold ń;rw[é];refine Eq.trans (gS (c.2.2.1++c.2.2.2.1) (fun id=>(ow b id c.2.1).isSome) (fun _=>some 9) (some 9) (some (if 1<(ğ c.2.2.1 c.2.2.2.1).length then 1 else if 1<(ğ c.2.2.2.1 c.2.2.1).length then 1 else if (ğ c.2.2.1 c.2.2.2.1).length+(ğ c.2.2.2.1 c.2.2.1).length=0 then 1 else 0)) (fun _=>rfl) (fun k a u ha l=>?_) (fun l=>?_)) ?_
   ·try dsimp only
    unfold Ń;have H:=acJ R a c.2.1;rw[Ñ u,È ha,Î u (by omega)];rw[show uK ((b.1.1,b.1.2),b.2.1,b.2.2.1,b.2.2.2.1,b.2.2.2.2.1,b.2.2.2.2.2) a c.2.1=uK b a c.2.1 from rfl,H,Á]
    cases ow b a c.2.1<;>rfl
   ·try dsimp only
    unfold Ń;rw[é,last]
   ·cases List.any (c.2.2.1++c.2.2.2.1) (fun id=>(ow b id c.2.1).isSome)<;>rfl
  ·unfold vT ņ ņ ņ
   try dsimp only
   cases List.any (c.2.2.1++c.2.2.2.1) (fun id=>lU s id c.2.1==5) with
   |true=>rfl
   |false =>
   cases List.any (c.2.2.1++c.2.2.2.1) (fun id=>lU s id c.2.1==4)<;>rfl
 refine fe (gS (b.2.2.2.2.1.take i) (fun x=>x.1==c.1) (fun C=>ifb (ige C (0:Int)) (some 6) (some (vT b s c))) (some 6) (some (vT b s c)) (fun j=>?_) (fun j a n ha v=>?_) (fun v=>?_)) ?_
 ·have:ige (j:Int) 0=true:=by simp[ige]
  rw[æ this]
 ·try dsimp only
  unfold gQ;rw[rest,Ñ n,È ha,Î n (by rw[List.length_take]; omega),Ġ]
 ·try dsimp only
  unfold gQ;rw[é,rest]
 ·cases List.any (b.2.2.2.2.1.take i) (fun x=>x.1==c.1)<;>rfl
def U0 (b:ċ) (g:Ą):w9 Int :=
 [g.2.1]++(b.2.2.2.2.1.filter fun c=>!(c.2.2.1.contains g.1==c.2.2.2.1.contains g.1)).map (fun c=>c.2.1)++(b.2.2.2.2.2.filter fun n=>n.1==g.1).map (fun n=>n.2)
def Ğ (b:ċ) (g:Ą):w9 Int:=XO (U0 b g)
structure rD (b:ċ):Prop where
 gauges:b.2.1.length<=1000
 uses:b.2.2.1.length<=1000
 loans:b.2.2.2.1.length<=1000
 compares:b.2.2.2.2.1.length<=1000
 looks:b.2.2.2.2.2.length<=1000
 piles:∀c∈b.2.2.2.2.1,c.2.2.1.length<=1000/\c.2.2.2.1.length<=1000
def QN (l:w9 Int):(Ex l).length=l.length:=(isortI_perm l).length_eq
def Td {b:ċ} (a:rD b) (g:Ą):(U0 b g).length<=2001:=by
 have f:=a.compares;have h2:=a.looks;have e:=ej (fun c:Cmp=>!(c.2.2.1.contains g.1==c.2.2.2.1.contains g.1)) b.2.2.2.2.1;have d:=ej (fun n:Int×Int=>n.1==g.1) b.2.2.2.2.2;simp only[U0,cN,dP,eo];omega
def abY {b:ċ} (d:rD b) (g:Ą):oj b g=some (Ğ b g):=by
 unfold oj WB;have y:=Td d g
 have hd:(Ğ b g).length<=2001:=by
  unfold Ğ;have:=HE (U0 b g);omega
 have r:=d.compares;have o:=d.looks;refine Ζ b.2.2.2.2.1 (fun i=>[g.2.1]++((b.2.2.2.2.1.take i).filter fun c=>!(c.2.2.1.contains g.1==c.2.2.2.1.contains g.1)).map (fun c=>c.2.1)) _ rfl (fun i c hi f e=>?_) (fun e=>?_)
 ·try dsimp only
  unfold uA;obtain⟨v,u⟩:=d.piles c (List.mem_of_getElem? f);rw[Ñ hi,È f,np (by omega),Á,np (by omega),Á,Î hi (by omega),Î hi (by omega),take_succ f,List.filter_append,List.map_append]
  have a:([g.2.1]++((b.2.2.2.2.1.take i).filter fun c=>!(c.2.2.1.contains g.1==c.2.2.2.1.contains g.1)).map (fun c=>c.2.1)).length<=1001:=by
   have l:=ej (fun c:Cmp=>!(c.2.2.1.contains g.1==c.2.2.2.1.contains g.1)) (b.2.2.2.2.1.take i);rw[dh] at l;simp only[cN,dP,eo];omega
  rw[Ð (by simp only[eo]; omega),Am.iff_true]
  cases h:(c.2.2.1.contains g.1==c.2.2.2.1.contains g.1) with
  |true=>simp only[dJ,ê,eD,h,dj,if_false,fw,fp,df]
  |false=>simp only[gA,mq,eD,h,if_true,fw,dY,fp,cS]
 ·try dsimp only
  unfold uA;rw[é,List.take_length];refine Ζ b.2.2.2.2.2 (fun i=>[g.2.1]++(b.2.2.2.2.1.filter fun c=>!(c.2.2.1.contains g.1==c.2.2.2.1.contains g.1)).map (fun c=>c.2.1)++((b.2.2.2.2.2.take i).filter fun n=>n.1==g.1).map (fun n=>n.2)) _ (by simp) (fun i n hi j e=>?_) (fun e=>?_)
  ·try dsimp only
   unfold uz;rw[Ñ hi,È j,Î hi (by omega),Î hi (by omega),take_succ j,List.filter_append,List.map_append]
   have a:([g.2.1]++(b.2.2.2.2.1.filter fun c=>!(c.2.2.1.contains g.1==c.2.2.2.1.contains g.1)).map (fun c=>c.2.1)++((b.2.2.2.2.2.take i).filter fun n=>n.1==g.1).map (fun n=>n.2)).length<=2001:=by
    have l:=ej (fun c:Cmp=>!(c.2.2.1.contains g.1==c.2.2.2.1.contains g.1)) b.2.2.2.2.1;have s:=ej (fun n:Int×Int=>n.1==g.1) (b.2.2.2.2.2.take i);rw[dh] at s;simp only[cN,dP,eo];omega
   rw[Ð (by simp only[eo]; omega),Am.iff_true]
   cases h:(n.1==g.1) with
   |true =>
    have:ieq n.1 g.1=true:=h;simp[h,this]
   |false =>
    have:ieq n.1 g.1=false:=h;simp[h,this]
  ·try dsimp only
   unfold uz;rw[é,List.take_length];rw[show([g.2.1]++(b.2.2.2.2.1.filter fun c=>!(c.2.2.1.contains g.1==c.2.2.2.1.contains g.1)).map (fun c=>c.2.1)++(b.2.2.2.2.2.filter fun n=>n.1==g.1).map (fun n=>n.2))=U0 b g from rfl];dsimp only;rw[Ð (by omega),Am.iff_true,Ð (by rw[QN]; omega),Am.iff_true,ZU];rfl
def î (b:ċ):w9 (Int×Int):=b.2.1.flatMap fun g=>(Ğ b g).map fun d=>((g.1,d):Int×Int)
def Ld {b:ċ} (a:rD b) (g:Ą):(Ğ b g).length<=2001:=by
 unfold Ğ;have:=HE (U0 b g);have:=Td a g;omega
def BC {α β:Type} (f:α->w9 β) (n:Nat) (h:∀a,(f a).length<=n):∀l:w9 α,(l.flatMap f).length<=l.length*n
 |[]=>by simp
 |a::l=>by
  have:=BC f n h l;have:=h a;simp only[dE,cN,cV,dm,fj];omega
def Wg {b:ċ} (f:rD b):pK b=some (î b):=by
 unfold pK Sk;have u:=f.gauges
 have a:∀l:w9 Ą,(l.flatMap fun g=>(Ğ b g).map fun d=>((g.1,d):Int×Int)).length<=l.length*2001:=fun l =>
  BC _ 2001 (fun g=>by rw[dP]; exact Ld f g) l
 refine Ζ b.2.1 (fun i=>(b.2.1.take i).flatMap fun g=>(Ğ b g).map fun d=>((g.1,d):Int×Int)) _ rfl (fun i g hi c o=>?_) (fun o=>?_)
 ·try dsimp only
  unfold qW;rw[Ñ hi,È c];rw[show oj ((b.1.1,b.1.2),b.2.1,b.2.2.1,b.2.2.2.1,b.2.2.2.2.1,b.2.2.2.2.2) g=oj b g from rfl,abY f,Á];have hd:=Ld f g;have s:=a (b.2.1.take i)
  have r:(b.2.1.take i).length<=1000:=by rw[dh]; omega
  refine Ζ (Ğ b g) (fun j=>((b.2.1.take i).flatMap fun g=>(Ğ b g).map fun d=>((g.1,d):Int×Int))++((Ğ b g).take j).map fun d=>((g.1,d):Int×Int)) _ (by simp) (fun j d n e h=>?_) (fun h=>?_)
  ·try dsimp only
   unfold qV;rw[Ñ n,È e,Î n (by omega),take_succ e,List.map_append];rw[Ð (by simp only[List.length_append,List.length_map,List.length_take,List.length_singleton]; omega),Am.iff_true];simp
  ·try dsimp only
   unfold qV;rw[é,List.take_length];dsimp only;rw[Î hi (by omega),take_succ c,List.flatMap_append];simp
 ·try dsimp only
  unfold qW;rw[é,List.take_length];rfl
def B9 (b:ċ) (s:w9 (Int×Ą)):w9 Int :=
 b.2.2.1.map (fun u=>Zw s u.1 u.2)++(b.2.2.2.1.mapIdx (fun i l=>Sz b s i l)++(b.2.2.2.2.1.mapIdx (fun i c=>ol b s i c)++b.2.2.2.2.2.map (fun u=>Zw s u.1 u.2)))
def RG {α:Type} {f:Int->w8 Int} {g:Nat->α->Int} (l:w9 α) (h:∀(i:Nat) (a:α),l[i]?=some a->f i=some (g i a)):IP f (vJ l.length)=some (l.mapIdx g):=by
 have j:∀i,i<l.length->f (i:Int)=some ((l.mapIdx g)[i]?.getD 0):=by
  intro i hi;rw[h i l[i] (cI hi)];simp[hi]
 have h2:∀x∈vJ l.length,f x=some ((l.mapIdx g)[x.toNat]?.getD 0):=by
  intro x c;unfold vJ at c;obtain⟨i,hi,rfl⟩:=List.mem_map.1 c;rw[j i (by simpa using hi)];rfl
 rw[Cp h2];congr 1;refine List.ext_getElem (by simp[vJ]) fun i n e=>?_
 have d:i<l.length:=by simpa using e
 simp[vJ,d]
def aeW (b:ċ):Prop:=∀c∈b.2.2.2.2.1,c.2.2.1.length<=100000/\c.2.2.2.1.length<=100000
def rD.w {b:ċ} (h:rD b):aeW b:=fun c a=>by have:=h.piles c a; omega
def g9 {l:w9 Int} (h:yI l=true):l.length<=6:=by
 unfold yI at h
 split at h
 ·cases h
 ·exact of_decide_eq_true h
def aas {c:Cmp} (h:O7 c=true):c.2.2.1.length<=6/\c.2.2.2.1.length<=6:=by
 simp only[O7,cM] at h;exact⟨g9 h.2.2.2.2.2.1,g9 h.2.2.2.2.2.2⟩
def adH {b:ċ} (g:b.2.2.1.length<=1000) (e:b.2.2.2.1.length<=1000) (h:b.2.2.2.2.1.length<=1000) (d:aeW b) (s:w9 (Int×Ą)):nf b s=some (B9 b s):=by
 unfold nf B9
 rw[Cp (fun u _=>Q7 s u.1 u.2),Á,RG b.2.2.2.1 (fun i l f=>Tm e g s f),Á,
  RG b.2.2.2.2.1 (fun i c a=>Lj h e s (d c (cY a)).1 (d c (cY a)).2 a),Á,Cp (fun u _=>Q7 s u.1 u.2),Á]
def il (b:ċ):Int :=
 if !lP b.1 0 1000000 then 1 else
 if 12<b.2.1.length then 2 else if 40<b.2.2.1.length then 2 else if 12<b.2.2.2.1.length then 2 else if 40<b.2.2.2.2.1.length then 2 else if 10<b.2.2.2.2.2.length then 2 else
 if nE b != 0 then nE b else
 match (B9 b (κ b)).find? (fun e=>e != 0) with
 |some e=>e
 |none=>if 59<(î b).length then 2 else if 300<2*b.2.1.length+2*((î b).length-b.2.1.length:Int)+2*b.2.2.2.2.1.length then 2 else 0
def Ya {b:ċ} (a:rD b):(î b).length<=2001000:=by
 have:=BC (fun g:Ą=>(Ğ b g).map fun d=>((g.1,d):Int×Int)) 2001 (fun g=>by rw[List.length_map]; exact Ld a g) b.2.1;have h2:=a.gauges;unfold î;omega
def TI {b:ċ} (a:aeW b) (s:∀g∈b.2.1,I64 g.2.2.2.2.1.1):ŧ b=some (il b):=by
 unfold ŧ Ko il;rw[DS,Á]
 cases lP b.1 0 1000000 with
 |false=>rfl
 |true =>
 rw[Õ (show(!true)=false from rfl),if_neg (by simp)];simp only[â]
 by_cases c0:12<b.2.1.length
 ·rw[æ (by simp[igt]; omega),if_pos c0]
 rw[Õ (by simp[igt]; omega),if_neg c0]
 by_cases r:40<b.2.2.1.length
 ·rw[æ (by simp[igt]; omega),if_pos r]
 rw[Õ (by simp[igt]; omega),if_neg r]
 by_cases o:12<b.2.2.2.1.length
 ·rw[æ (by simp[igt]; omega),if_pos o]
 rw[Õ (by simp[igt]; omega),if_neg o]
 by_cases n:40<b.2.2.2.2.1.length
 ·rw[æ (by simp[igt]; omega),if_pos n]
 rw[Õ (by simp[igt]; omega),if_neg n]
 by_cases l:10<b.2.2.2.2.2.length
 ·rw[æ (by simp[igt]; omega),if_pos l]
 rw[Õ (by simp[igt]; omega),if_neg l]
 have f:b.2.1.length<=1000:=by omega
 rw[MV s f,Á]
 cases d:(nE b != 0) with
 |true =>
  have:ine (nE b) 0=true:=d;rw[æ this,if_pos rfl]
 |false =>
 have:ine (nE b) 0=false:=d;rw[Õ this,if_neg (by simp)];rw[EC f,Á];unfold QY;rw[adH (by omega) (by omega) (by omega) a,Á]
 cases v:(B9 b (κ b)).find? (fun e=>e != 0) with
 |some e=>rfl
 |none =>
 dsimp only
 have a:rD b:=⟨by omega,by omega,by omega,by omega,by omega,fun c y=>by
  obtain⟨i,hi,rfl⟩:=dg.1 y
  have:=eZ.1 v (ol b (κ b) i b.2.2.2.2.1[i]) (by
   unfold B9
   exact dl _ (dl _ (dH _ (gO.2 ⟨i,hi,rfl⟩))))
  unfold ol at this
  split at this
  ·simp at this
  ·rename_i u;have:=aas (by simpa using u)
   omega⟩
 have z:=Ya a;rw[Wg a,Á]
 by_cases j:59<(î b).length
 ·rw[æ (by simp[igt]; omega),if_pos j]
 rw[Õ (by simp[igt]; omega),if_neg j];rw[Ù (by omega) (by omega),Ù (by omega) (by omega),Ù (by omega) (by omega),Ù (by omega) (by omega),Ù (by omega) (by omega),Ù (by omega) (by omega)]
 by_cases h:300<2*b.2.1.length+2*((î b).length-b.2.1.length:Int)+2*b.2.2.2.2.1.length
 ·rw[æ (by simp[igt]; omega),if_pos h]
 rw[Õ (by simp[igt]; omega),if_neg h]
def Qp {b:ċ} (a:rD b) (c:∀g∈b.2.1,I64 g.2.2.2.2.1.1):ŧ b=some (il b):=TI a.w c
def wrapU {n:Nat} (h:n<18446744073709551616):IntKind.wrap .u64 (n:Int)=n:=by
 simp only[IntKind.wrap,IntKind.bits,IntKind.signed];simp;omega
def wrapI {n:Nat} (h:n<9223372036854775808):IntKind.wrap .i64 (n:Int)=n:=by
 simp only[IntKind.wrap,IntKind.bits,IntKind.signed];simp;omega
def oT (l:w9 (Int×Int)) (x d:Int):w8 Nat:=l.findIdx? fun n=>decide (x=n.1)&&decide (d=n.2)
def ac1 {l:w9 (Int×Int)} (e:l.length<=100000000) (x d:Int):Ę l (x,d)=some (match oT l x d with|some j=>(j:Int)|none=>-1):=by
 unfold Ę iN;refine Eq.trans (lm l (fun n=>decide (x=n.1)&&decide (d=n.2)) some (some (-1)) (fun i a hi ha c=>?_) (fun c=>?_)) ?_
 ·try dsimp only
  unfold Ĝ;rw[Ñ hi,È ha,Î hi (by omega),Ġ,Bool.and_true]
 ·try dsimp only
  unfold Ĝ;rw[é]
 ·unfold oT
  cases List.findIdx? (fun n=>decide (x=n.1)&&decide (d=n.2)) l<;>rfl
def atP (l:w9 (Int×Int)) (p:w9 Int) (d:Int):Int :=
 match p with
 |[]=>0
 |x::_=>match oT l x d with|some j=>(j:Int)+1|none=>0
def sg {l:w9 (Int×Int)} {x d:Int} {j:Nat} (h:oT l x d=some j):j<l.length/\l[j]?=some (x,d):=by
 unfold oT at h;obtain⟨c,a,_⟩:=List.findIdx?_eq_some_iff_getElem.1 h;refine⟨c,?_⟩;rw[List.getElem?_eq_getElem c];simp only[Bool.and_eq_true,decide_eq_true_eq] at a;congr 1;exact Prod.ext a.1.symm a.2.symm
def ag9 (m:Maker) (p:w9 Int) (d:Int) (e:m.2.1.length<=100000000):ky m p d=some (atP m.2.1 p d):=by
 unfold ky Gr atP
 cases p with
 |nil=>simp[â,ieq]
 |cons x p =>
  have h:ieq (Ô (x::p)) 0=false:=by
   rw[â];simp only[ieq,cV,beq_eq_false_iff_ne,ne_eq];omega
  rw[h,ê,show(0:Int)=((0:Nat):Int) from rfl,È (a:=x) rfl,ac1 e,Á]
  cases c:oT m.2.1 x d with
  |none=>dsimp only; rw[Ù (by omega) (by omega)]; simp only[c]; rfl
  |some j =>
   have:=(sg c).1;dsimp only;rw[Ù (by omega) (by omega)];simp only[c]
def LS (s:w9 (Int×Ą)) (p:w9 Int):Int×Int :=
 match p with
 |[]=>(0,1)
 |x::_=>match vd (k:=tI) (v:=Ö) x s with
  |some g=>g.2.2.2.2.1
  |none=>(0,0)
def QX (s:w9 (Int×Ą)) (p:w9 Int):ik s p=some (LS s p):=by
 unfold ik vr LS
 cases p with
 |nil=>simp[â,ieq]
 |cons x p =>
  have h:ieq (Ô (x::p)) 0=false:=by
   rw[â];simp only[ieq,cV,beq_eq_false_iff_ne,ne_eq];omega
  rw[h,ê,show(0:Int)=((0:Nat):Int) from rfl,È (a:=x) rfl]
  cases c:vd (k:=tI) (v:=Ö) x s with
  |none=>simp only[N8,c]
  |some g=>simp only[N8,c]
def Vw {l:w9 (Int×Int)} (d:∀r∈l,I64 r.1) (e:l.length<=1000):jO l=some (if l.any (fun r=>!LN r) then 1 else 0):=by
 unfold jO Sb;refine Eq.trans (gS l (fun r=>!LN r) (fun _=>some 1) (some 1) (some 0) (fun _=>rfl) (fun i a hi ha c=>?_) (fun c=>?_)) ?_
 ·try dsimp only
  unfold qU;rw[Ñ hi,È ha,Qk (d a (List.mem_of_getElem? ha)),Á,Î hi (by omega),Ġ]
 ·try dsimp only
  unfold qU;rw[é]
 ·cases l.any (fun r=>!LN r)<;>rfl
def uX (n d:Int):Int×Int:=(n / (Nat.gcd n.natAbs d.natAbs:Nat),d / (Nat.gcd n.natAbs d.natAbs:Nat))
def nQ (r:Int×Int):LN r=true↔1<=r.2/\r.2<=2147483647/\(r.1.natAbs:Int)<=2147483647/\Nat.gcd r.1.natAbs r.2.natAbs=1:=by
 simp[LN]
def OW {n d:Int} (hd:0<d):∃g:Nat,0<g/\g=Nat.gcd n.natAbs d.natAbs/\n=(uX n d).1*g/\d=(uX n d).2*g:=by
 have a:0<Nat.gcd n.natAbs d.natAbs:=Nat.gcd_pos_of_pos_right _ (by omega);refine⟨_,a,rfl,?_,?_⟩
 ·exact(Int.ediv_mul_cancel (Int.ofNat_dvd_left.2 (Nat.gcd_dvd_left _ _))).symm
 ·exact(Int.ediv_mul_cancel (Int.ofNat_dvd_left.2 (Nat.gcd_dvd_right _ _))).symm
def Uc {n d:Int} (hd:0<d) (o:n.natAbs<=2147483647) (f:d<=2147483647):LN (uX n d)=true:=by
 obtain⟨g,h0,e,j,h2⟩:=OW (n:=n) hd;rw[nQ]
 have c:n.natAbs=(uX n d).1.natAbs*g:=by conv=>lhs; rw[j]; rw[fF,fJ]
 have a:d.natAbs=(uX n d).2.natAbs*g:=by conv=>lhs; rw[h2]; rw[fF,fJ]
 have l:0<(uX n d).2:=by
  rcases Int.lt_trichotomy (uX n d).2 0 with h|h|h
  ·have:=Int.mul_neg_of_neg_of_pos h (show(0:Int)<g by omega); omega
  ·rw[h] at h2; simp at h2; omega
  ·exact h
 have s:(uX n d).1.natAbs<=n.natAbs:=by rw[c]; exact fU _ h0
 have r:(uX n d).2.natAbs<=d.natAbs:=by rw[a]; exact fU _ h0
 refine⟨by omega,by omega,by omega,?_⟩;have:=Nat.gcd_mul_right (uX n d).1.natAbs g (uX n d).2.natAbs;rw[<-c,<-a,<-e] at this
 have i:(Nat.gcd (uX n d).1.natAbs (uX n d).2.natAbs)*g=1*g:=by omega
 exact Nat.eq_of_mul_eq_mul_right h0 i
def Nn {n d:Int} (hd:0<d) (l:n.natAbs<=2147483647) (e:d<=2147483647):pJ n d=some (uX n d,0):=by
 obtain⟨g,h0,o,r,h2⟩:=OW (n:=n) hd;have D:=(nQ _).1 (Uc hd l e);unfold pJ JV;rw[OS ⟨by omega,by omega⟩,Á,OS ⟨by omega,by omega⟩,Á,afm,Á,<-o]
 have C:n.natAbs=(uX n d).1.natAbs*g:=by conv=>lhs; rw[r]; rw[fF,fJ]
 have y:d.natAbs=(uX n d).2.natAbs*g:=by conv=>lhs; rw[h2]; rw[fF,fJ]
 have j:Int.tdiv (n.natAbs:Int) (g:Int)=((uX n d).1.natAbs:Int):=by
  rw[C,gM]; exact Int.mul_tdiv_cancel _ (by omega)
 have i:Int.tdiv (d.natAbs:Int) (g:Int)=((uX n d).2.natAbs:Int):=by
  rw[y,gM]; exact Int.mul_tdiv_cancel _ (by omega)
 have z:kI (g:Int) 0=false:=by simp[kI]; omega
 have u:igt ((uX n d).1.natAbs:Int) 2147483647=false:=by simp[igt]; omega
 have s:igt ((uX n d).2.natAbs:Int) 2147483647=false:=by simp[igt]; omega
 rw[Õ z,Õ z,j,i,wrapU (by omega),wrapU (by omega),wrapI (by omega),wrapI (by omega),Õ u,Õ s]
 have f:ilt d 0=false:=by simp[ilt]; omega
 rw[f]
 have v:((uX n d).2.natAbs:Int)=(uX n d).2:=by omega
 rw[v]
 by_cases c:n<0
 ·have a:ilt n 0=true:=by simp[ilt,c]
  have:(uX n d).1<=0:=by
   rcases Int.lt_or_le 0 (uX n d).1 with h|h
   ·have:=Int.mul_pos h (show(0:Int)<g by omega); omega
   ·exact h
  rw[a];rw[show(!true==false)=true from rfl,mq,Ù (by omega) (by omega)]
  have:0-((uX n d).1.natAbs:Int)=(uX n d).1:=by omega
  rw[this]
 ·have a:ilt n 0=false:=by simp[ilt]; omega
  have:0<=(uX n d).1:=by
   rcases Int.lt_or_le (uX n d).1 0 with h|h
   ·have:=Int.mul_neg_of_neg_of_pos h (show(0:Int)<g by omega); omega
   ·exact h
  rw[a];rw[show(!false==false)=false from rfl,ê]
  have:((uX n d).1.natAbs:Int)=(uX n d).1:=by omega
  rw[this]
structure xO (r:Int×Int) (n d:Int):Prop where
 rat:LN r=true
 num : -n<=r.1/\r.1<=n
 den:r.2<=d
def xO.pos {r:Int×Int} {n d:Int} (h:xO r n d):1<=r.2:=((nQ r).1 h.rat).1
def xO.i64 {r:Int×Int} {n d:Int} (h:xO r n d):I64 r.1:=by
 have:=((nQ r).1 h.rat).2.2.1;exact⟨by omega,by omega⟩
def Zv {x y:Int×Int} (d:LN x=true) (c:LN y=true):jO [x,y]=some 0:=by
 rw[Vw]
 ·simp[d,c]
 ·intro r a
  have:LN r=true:=by simp at a; rcases a with rfl|rfl<;>assumption
  have:=((nQ r).1 this).2.2.1;exact⟨by omega,by omega⟩
 ·simp
def ql {a b m n:Int} (g : -m<=a/\a<=m) (h2 : -n<=b/\b<=n) : -(m*n)<=a*b/\a*b<=m*n:=by
 have d:0<=m:=by omega
 have c:0<=n:=by omega
 have f:(a*b).natAbs<=(m*n).natAbs:=by
  rw[fF,fF];exact fQ (by omega) (by omega)
 have e:0<=m*n:=gz d c;omega
def subP (x y:Int×Int):Int×Int:=uX (x.1*y.2-y.1*x.2) (x.2*y.2)
def Nc {x y:Int×Int} (c:xO x 1000 100) (a:xO y 1000 100):(x.1*y.2-y.1*x.2).natAbs<=200000/\0<x.2*y.2/\x.2*y.2<=10000:=by
 have f:=ql c.num (show -100<=y.2/\y.2<=100 from⟨by have:=a.pos; omega,a.den⟩);have h2:=ql a.num (show -100<=x.2/\x.2<=100 from⟨by have:=c.pos; omega,c.den⟩);have e:=ql (show -100<=x.2/\x.2<=100 from⟨by have:=c.pos; omega,c.den⟩) (show -100<=y.2/\y.2<=100 from⟨by have:=a.pos; omega,a.den⟩);have d:=Int.mul_pos (show 0<x.2 by have:=c.pos; omega) (show 0<y.2 by have:=a.pos; omega);refine⟨by omega,d,by omega⟩
def Sub_ok {x y:Int×Int} (c:xO x 1000 100) (a:xO y 1000 100):PX x y=some (subP x y,0):=by
 obtain⟨f,d,b3⟩:=Nc c a;have e:=ql c.num (show -100<=y.2/\y.2<=100 from⟨by have:=a.pos; omega,a.den⟩);have h2:=ql a.num (show -100<=x.2/\x.2<=100 from⟨by have:=c.pos; omega,c.den⟩);unfold PX aa0;rw[Zv c.rat a.rat,Á];rw[show ine (0:Int) 0=false from rfl,ê,Ù (by omega) (by omega),Ù (by omega) (by omega),Ù (by omega) (by omega),Ù (by omega) (by omega),Nn d (by omega) (by omega),Á];rfl
def Z3 {n d:Int} (hd:0<d):(uX n d).1.natAbs<=n.natAbs/\(uX n d).2<=d:=by
 obtain⟨g,h0,h,a,h2⟩:=OW (n:=n) hd
 have f:n.natAbs=(uX n d).1.natAbs*g:=by conv=>lhs; rw[a]; rw[fF,fJ]
 have e:d.natAbs=(uX n d).2.natAbs*g:=by conv=>lhs; rw[h2]; rw[fF,fJ]
 have c:(uX n d).1.natAbs<=n.natAbs:=by rw[f]; exact fU _ h0
 have i:(uX n d).2.natAbs<=d.natAbs:=by rw[e]; exact fU _ h0
 exact⟨c,by omega⟩
def TX {x y:Int×Int} (d:xO x 1000 100) (c:xO y 1000 100):xO (subP x y) 200000 10000:=by
 obtain⟨g,a,b3⟩:=Nc d c;obtain⟨f,e⟩:=Z3 (n:=x.1*y.2-y.1*x.2) a;exact⟨Uc a (by omega) (by omega),by unfold subP; omega,by unfold subP; omega⟩
def Zf (k:Int×Int) (n:Int):Int×Int:=uX (k.1*n) k.2
def NC {k:Int×Int} (c:xO k 200000 10000) {n:Int} (a : -10000<=n/\n<=10000):(k.1*n).natAbs<=2000000000:=by
 have:=ql c.num a;omega
def UP {n:Int} (a : -10000<=n/\n<=10000):LN (n,1)=true:=by
 rw[nQ];exact⟨by simp,by simp,by simp; omega,by simp⟩
def afA {k:Int×Int} (a:xO k 200000 10000) {n:Int} (c : -10000<=n/\n<=10000):K6 k (n,1)=some (Zf k n,0):=by
 have b:=NC a c;have p:=a.pos;have q:=a.den;unfold K6 aa2;rw[Zv a.rat (UP c),Á];rw[show ine (0:Int) 0=false from rfl,ê,Ù (by simp only; omega) (by simp only; omega),Int.mul_one,Ù (by omega) (by omega),Nn (by omega) (by simp only; omega) (by omega),Á];rfl
def Pa {k:Int×Int} (a:xO k 200000 10000) {n:Int} (c : -10000<=n/\n<=10000):xO (Zf k n) 2000000000 10000:=by
 have b:=NC a c;have p:=a.pos;have q:=a.den;obtain⟨e,d⟩:=Z3 (n:=k.1*n) (show 0<k.2 by omega);exact⟨Uc (by omega) (by omega) (by omega),by unfold Zf; omega,by unfold Zf; omega⟩
def cmpP (x y:Int×Int):Int:=if x=y then 0 else if x.1*y.2<y.1*x.2 then -1 else if y.1*x.2<x.1*y.2 then 1 else 0
def afs {x y:Int×Int} {m d:Int} (a:xO x m d) (c:xO y m d) (e:m<=2000000000) (hd:d<=10000):K4 x y=some (cmpP x y):=by
 have g:=ql a.num (show -d<=y.2/\y.2<=d from⟨by have:=c.pos; have:=c.den; omega,c.den⟩);have h2:=ql c.num (show -d<=x.2/\x.2<=d from⟨by have:=a.pos; have:=a.den; omega,a.den⟩);have h0:0<=m/\0<=d:=⟨by have:=a.num; omega,by have:=a.pos; have:=a.den; omega⟩;have f:m*d<=2000000000*10000:=Int.mul_le_mul e hd h0.2 (by omega);unfold K4 aaY cmpP;rw[Ù (by omega) (by omega),Ù (by omega) (by omega)];simp only[Ġ,Bool.and_true,Bool.and_eq_true,decide_eq_true_eq,kI,ilt,igt,gt_iff_lt];have:(x.1=y.1/\x.2=y.2)↔x=y:=⟨fun h=>Prod.ext h.1 h.2,fun h=>by rw[h]; exact⟨rfl,rfl⟩⟩;simp only[this]
 (repeat' split)<;>rfl
def X0 (k:Int×Int) (a:Int×Int):(Int×Int)×(Int×Int) :=
 if 0<cmpP (Zf k a.1) (Zf k a.2) then(Zf k a.2,Zf k a.1) else(Zf k a.1,Zf k a.2)
def af9 {k a:Int×Int} (c:xO k 200000 10000) (g:lP a (-10000) 10000=true):oi k a=some (X0 k a):=by
 simp only[lP,Bool.and_eq_true,decide_eq_true_eq] at g;obtain⟨l,h2,j⟩:=g;have n1 : -10000<=a.1/\a.1<=10000:=⟨by omega,by omega⟩;have d : -10000<=a.2/\a.2<=10000:=⟨by omega,by omega⟩;have f:xO (a.1,1) 10000 10000:=⟨UP n1,n1,by simp⟩;have e:xO (a.2,1) 10000 10000:=⟨UP d,d,by simp⟩;unfold oi Dl K5 JW rU Af;rw[Zv f.rat e.rat,Á];have:ieq 0 0=true:=rfl;rw[æ this,afs f e (by omega) (by omega),Á]
 have i:ile (cmpP (a.1,1) (a.2,1)) 0=true:=by
  unfold cmpP;simp only[ile,decide_eq_true_eq,Int.mul_one]
  split
  ·omega
  ·split
   ·omega
   ·rw[if_neg (by omega)]; omega
 rw[i,Á];simp only[Bool.not_true,ê];rw[Qk c.i64,c.rat,Á];simp only[Bool.not_true,ê];rw[afA c n1,Á,afA c d,Á];simp only[show ine (0:Int) 0=false from rfl,ê];rw[afs (Pa c n1) (Pa c d) (by omega) (by omega),Á];unfold X0;rw[Ġ]
 by_cases h:0<cmpP (Zf k a.1) (Zf k a.2)
 ·rw[if_pos h,if_pos (by simpa[igt] using h)]; rfl
 ·rw[if_neg h,if_neg (by simpa[igt] using h)]; rfl
def rateK (s:w9 (Int×Ą)) (c:Cmp):Int×Int:=subP (LS s (ğ c.2.2.1 c.2.2.2.1)) (LS s (ğ c.2.2.2.1 c.2.2.1))
def uF (b:ċ) (c:Cmp):(Int×Int)×(Int×Int):=X0 (rateK (κ b) c) c.2.2.2.2.2.2
def abB {b:ċ} (d:rD b) {c:Cmp} (g:c.2.2.1.length<=1000) (f:c.2.2.2.1.length<=1000)
 (a:xO (LS (κ b) (ğ c.2.2.1 c.2.2.2.1)) 1000 100) (h2:xO (LS (κ b) (ğ c.2.2.2.1 c.2.2.1)) 1000 100) (e:lP c.2.2.2.2.2.2 (-10000) 10000=true):tG b c=some (uF b c):=by
 unfold tG NZ;rw[EC d.gauges,Á,Ff (by omega) (by omega),Á,QX,Á,Ff (by omega) (by omega),Á,QX,Á];unfold uI Dm;rw[Sub_ok a h2,Á,Á]
 try dsimp only
 rw[af9 (TX a h2) e,Á];rfl
def AH (b:ċ) (c:Cmp):Int×Int :=
 (((c.2.2.1.length-1:Nat):Int)*b.1.1-((c.2.2.2.1.length-1:Nat):Int)*b.1.2,((c.2.2.1.length-1:Nat):Int)*b.1.2-((c.2.2.2.1.length-1:Nat):Int)*b.1.1)
def ael {b:ċ} {c:Cmp} (d:c.2.2.1.length<=1000) (a:c.2.2.2.1.length<=1000) (h:0<=b.1.1) (h2:b.1.1<=1000000) (g:0<=b.1.2) (f:b.1.2<=1000000):xB b c=some (AH b c):=by
 unfold xB Sr AH
 have e:∀n:Nat,US 0 ((n:Int)-1)=((n-1:Nat):Int):=by
  intro n;unfold US
  split<;>omega
 have bd:∀(n:Nat) (x:Int),n<=1000->0<=x->x<=1000000->0<=((n-1:Nat):Int)*x/\((n-1:Nat):Int)*x<=1000000000:=by
  intro n x j h0 i;refine⟨gz (by omega) h0,?_⟩;have:=fP (show((n-1:Nat):Int)<=1000 by omega) i h0 (by omega);omega
 have r:=bd _ _ d h h2;have o:=bd _ _ d g f;have b3:=bd _ _ a h h2;have l:=bd _ _ a g f;simp only[â];rw[Ù (by omega) (by omega),Ù (by omega) (by omega)];simp only[e];rw[Ù (by omega) (by omega),Ù (by omega) (by omega),Ù (by omega) (by omega),Ù (by omega) (by omega),Ù (by omega) (by omega),Ù (by omega) (by omega)]
def YI {n d:Int} (hd:1<=d) (g : -4000000000<=n/\n<=4000000000):ifb (kI d 0) (none) (ck (Int.tdiv n d) fun n1=>ifb (kI d 0) (none) (ifb (ilt (Int.tmod n d) (0:Int)) (ck (n1-(1:Int)) fun a=>some a) (some n1)))=some (n / d):=by
 have z:kI d 0=false:=by simp[kI]; omega
 rw[Õ z];have t:=Int.mul_tdiv_add_tmod n d
 have i : -4000000000<=Int.tdiv n d/\Int.tdiv n d<=4000000000:=by
  have:=Int.natAbs_tdiv_le_natAbs n d;omega
 rw[Ù (by omega) (by omega),Õ z,Ġ]
 by_cases h:Int.tmod n d<0
 ·rw[if_pos (by simpa[ilt] using h),Ù (by omega) (by omega)];congr 1
  have f : -d<Int.tmod n d:=by
   have e:=Int.natAbs_tmod n d;have c:=Nat.mod_lt n.natAbs (show 0<d.natAbs by omega);omega
  refine(Int.ediv_eq_iff_of_pos (by omega)).2 ⟨?_,?_⟩ |>.symm
  ·rw[Int.sub_mul,gN]; omega
  ·rw[Int.sub_mul,gN (Int.tdiv n d)]; omega
 ·rw[if_neg (by simpa[ilt] using h)];congr 1
  have f:Int.tmod n d<d:=by
   have e:=Int.natAbs_tmod n d;have c:=Nat.mod_lt n.natAbs (show 0<d.natAbs by omega);omega
  refine(Int.ediv_eq_iff_of_pos (by omega)).2 ⟨?_,?_⟩ |>.symm
  ·rw[gN]; omega
  ·rw[gN (Int.tdiv n d)]; omega
def WY {n d:Int} (hd:1<=d) (a : -4000000000<=n/\n<=4000000000):D5 n d=some (n / d):=YI hd a
def ae4 {x:Int×Int} (c:LN x=true):jO [x]=some 0:=by
 rw[Vw]
 ·simp[c]
 ·intro r a
  have:LN r=true:=by simp at a; subst a; assumption
  have:=((nQ r).1 this).2.2.1;exact⟨by omega,by omega⟩
 ·simp
def Y3 (r:Int×Int):Int:=-(-r.1 / r.2)
def ae1 {r:Int×Int} (h:LN r=true):D6 r=some (r.1 / r.2,0):=by
 unfold D6 Sh;have:=(nQ r).1 h;rw[ae4 h,Á];rw[show ine (0:Int) 0=false from rfl,ê,WY (by omega) (by omega),Á]
def Fz {n d:Int} (hd:1<=d):(n / d).natAbs<=n.natAbs:=by
 exact Int.natAbs_ediv_le_natAbs n d
def ahf {r:Int×Int} (h:LN r=true):HW r=some (Y3 r,0):=by
 unfold HW Wu Y3;have:=(nQ r).1 h;rw[ae4 h,Á];rw[show ine (0:Int) 0=false from rfl,ê,Ù (by omega) (by omega),WY (by omega) (by omega),Á];have hb:=Fz (n:=0-r.1) (show 1<=r.2 by omega);rw[Ù (by omega) (by omega),Int.zero_sub,Int.zero_sub]
def Il (b:ċ) (c:Cmp):Int×Int :=
 (c.2.2.2.2.1-c.2.2.2.2.2.1-(AH b c).2-(uF b c).2.1 / (uF b c).2.2,c.2.2.2.2.1+c.2.2.2.2.2.1-(AH b c).1-Y3 (uF b c).1)
structure kE (b:ċ):Prop where
 film:0<=b.1.1/\b.1.1<=b.1.2/\b.1.2<=1000000
 nG:b.2.1.length<=12
 nU:b.2.2.1.length<=40
 nL:b.2.2.2.1.length<=12
 nC:b.2.2.2.2.1.length<=40
 nK:b.2.2.2.2.2.length<=10
 gauge:∀g∈b.2.1,vv g=true
 ids:b.2.1.Pairwise fun a b=>a.1<b.1
 uses:∀u∈b.2.2.1,Zw (κ b) u.1 u.2=0
 loans:∀i l,b.2.2.2.1[i]?=some l->Sz b (κ b) i l=0
 compares:∀i c,b.2.2.2.2.1[i]?=some c->ol b (κ b) i c=0
 looks:∀u∈b.2.2.2.2.2,Zw (κ b) u.1 u.2=0
 nodes:(î b).length<=59
 links:2*(î b).length+2*b.2.2.2.2.1.length<=300
def KH (b:ċ):nE b=0↔(∀g∈b.2.1,vv g=true)/\b.2.1.Pairwise fun a b=>a.1<b.1:=by
 have h0:ņ (xw b.2.1) 0 b.2.1=none↔(∀g∈b.2.1,vv g=true)/\b.2.1.Pairwise fun a b=>a.1<b.1:=by
  rw[gW,<-H7 (fun g:Ą=>g.1) b.2.1];constructor
  ·intro h
   have d:∀(j:Nat) (a:Ą),b.2.1[j]?=some a->vv a=true/\tO (fun g:Ą=>g.1) b.2.1 j a=false:=by
    intro j a ha;have:=h j a ha;rw[Nat.zero_add] at this;unfold xw at this
    split at this
    ·cases this
    ·split at this
     ·cases this
     ·rename_i d h2;exact⟨by simpa using d,by simpa using h2⟩
   refine⟨fun x l=>?_,fun i a ha=>(d i a ha).2⟩;obtain⟨j,n,rfl⟩:=dg.1 l;exact(d j _ (cI n)).1
  ·rintro⟨d,h2⟩ j a ha;rw[dB];simp[xw,d a (cY ha),h2 j a ha]
 rw[<-h0];unfold nE
 cases h:ņ (xw b.2.1) 0 b.2.1 with
 |none=>simp
 |some e =>
  have:∀(m:w9 Ą) (j:Nat) (x:Int),ņ (xw b.2.1) j m=some x->x≠0:=by
   intro m
   induction m with
   |nil=>intro j x h; cases h
   |cons a m f =>
    intro j x h;unfold ņ at h
    cases c:xw b.2.1 j a with
    |none=>rw[c] at h; exact f _ _ h
    |some y =>
     rw[c] at h;cases h;unfold xw at c
     split at c
     ·cases c; omega
     ·split at c
      ·cases c; omega
      ·cases c
  simp[this _ _ _ h]
def iy (b:ċ):il b=0↔kE b:=by
 unfold il;constructor
 ·intro h
  split at h
  ·omega
  rename_i H
  (repeat' split at h)<;>try omega
  ·rename_i g
   have o:nE b≠0:=by simpa using g
   exact(o h).elim
  ·rename_i r;have:=List.find?_some r;rename_i e;simp at this;exact(this h).elim
  ·rename_i E D C z y g e r v s
   have n:nE b=0:=by simpa using g
   obtain⟨J,I⟩:=(KH b).1 n
   have a:∀x∈B9 b (κ b),x=0:=fun x j=>by
    have:=eZ.1 r x j;simpa using this
   simp only[B9,cO] at a
   have f:lP b.1 0 1000000=true:=by simpa using H
   simp only[lP,cM,decide_eq_true_eq] at f;refine⟨⟨f.1,f.2.1,f.2.2⟩,by omega,by omega,by omega,by omega,by omega,J,I,fun u d=>a _ (.inl (dG.2 ⟨u,d,rfl⟩)),fun i l F=>?_,fun i c G=>?_,fun u d=>a _ (.inr (.inr (.inr (dG.2 ⟨u,d,rfl⟩)))),by omega,by omega⟩
   ·obtain⟨hi,rfl⟩:=cQ.1 F;exact a _ (.inr (.inl (gO.2 ⟨i,hi,rfl⟩)))
   ·obtain⟨hi,rfl⟩:=cQ.1 G;exact a _ (.inr (.inr (.inl (gO.2 ⟨i,hi,rfl⟩))))
 ·intro h
  have f:lP b.1 0 1000000=true:=by simp[lP,h.film.1,h.film.2.1,h.film.2.2]
  have g:nE b=0:=(KH b).2 ⟨h.gauge,h.ids⟩
  have a:(B9 b (κ b)).find? (fun e=>e != 0)=none:=by
   rw[eZ];intro x j;simp only[B9,cO,dG,gO] at j
   have:x=0:=by
    rcases j with⟨u,d,rfl⟩|⟨i,hi,rfl⟩|⟨i,hi,rfl⟩|⟨u,d,rfl⟩
    ·exact h.uses u d
    ·exact h.loans i _ (cI hi)
    ·exact h.compares i _ (cI hi)
    ·exact h.looks u d
   simp[this]
  have:=h.nG; have:=h.nU; have:=h.nL; have:=h.nC; have:=h.nK; have:=h.nodes; have:=h.links;rw[f,g,a];simp only[dJ,dj,if_false,bne_self_eq_false];rw[if_neg (by omega),if_neg (by omega),if_neg (by omega),if_neg (by omega),if_neg (by omega),if_neg (by omega),if_neg (by omega)]
section
variable {b:ċ}
def kE.nums (h:kE b) {c:Cmp} (a:c∈b.2.2.2.2.1):O7 c=true:=by
 obtain⟨i,hi,rfl⟩:=List.mem_iff_getElem.1 a;have:=h.compares i _ (List.getElem?_eq_getElem hi);unfold ol at this
 split at this
 ·omega
 ·rename_i h; simpa using h
def kE.pilesOf (h:kE b) {c:Cmp} (a:c∈b.2.2.2.2.1):vT b (κ b) c=0:=by
 obtain⟨i,hi,rfl⟩:=List.mem_iff_getElem.1 a;have:=h.compares i _ (List.getElem?_eq_getElem hi);unfold ol at this
 split at this
 ·omega
 ·split at this
  ·omega
  ·exact this
def mz (c:Cmp):O7 c=true↔(1<=c.1/\c.1<=1099511627776)/\(0<=c.2.1/\c.2.1<=20000)/\(-1125899906842624<=c.2.2.2.2.1/\c.2.2.2.2.1<=1125899906842624)/\(0<=c.2.2.2.2.2.1/\c.2.2.2.2.2.1<=1073741824)/\lP c.2.2.2.2.2.2 (-10000) 10000=true/\yI c.2.2.1=true/\yI c.2.2.2.1=true:=by
 simp[O7,inP,Le,and_assoc]
def kE.size (h:kE b):rD b:=by
 have i:=h.nG; have h2:=h.nU; have g:=h.nL; have f:=h.nC; have e:=h.nK;refine⟨by omega,by omega,by omega,by omega,by omega,fun c d=>?_⟩;have:=(mz c).1 (h.nums d);have a:=g9 this.2.2.2.2.2.1;have b:=g9 this.2.2.2.2.2.2;omega
def Od (g:Ą):vv g=true↔LN g.2.2.2.2.1=true/\(-1000<=g.2.2.2.2.1.1/\g.2.2.2.2.1.1<=1000)/\g.2.2.2.2.1.2<=100/\(1<=g.1/\g.1<=1099511627776)/\(0<=g.2.1/\g.2.1<=20000)/\(1<=g.2.2.1/\g.2.2.1<=1125899906842624)/\(-1073741824<=g.2.2.2.1.1/\g.2.2.2.1.1<=g.2.2.2.1.2/\g.2.2.2.1.2<=1073741824)/\(0<=g.2.2.2.2.2/\g.2.2.2.2.2<=1048576):=by
 simp[vv,inP,Le,lP,and_assoc]
def ku {id:Int} {g:Ą} (h:Ă b id=some g):g∈b.2.1/\g.1=id:=by
 unfold Ă at h;exact⟨List.mem_of_find?_eq_some h,by simpa using List.find?_some h⟩
def md (hi:b.2.1.Pairwise fun a b=>a.1<b.1) {g:Ą} (c:g∈b.2.1):Ă b g.1=some g:=by
 unfold Ă
 induction d:b.2.1 generalizing b with
 |nil=>rw[d] at c; cases c
 |cons a t e =>
  rw[d] at c hi;rw[dD] at hi;rw[gj];rcases cP.1 c with rfl|c
  ·simp
  ·have f:=hi.1 g c
   have:(a.1==g.1)=false:=by simp; omega
   rw[this];have:=e (b:=(b.1,t,b.2.2)) hi.2 c rfl;exact this
def EP (h:kE b) {id day:Int} (a:lU (κ b) id day=0):∃g,Ă b id=some g/\g.2.1<=day:=by
 unfold lU at a;rw[xX h.ids] at a
 split at a
 ·rename_i g c
  split at a
  ·omega
  ·exact⟨g,c,by omega⟩
 ·omega
def IR (s:w9 (Int×Ą)) (id day:Int):lU s id day=0\/lU s id day=4\/lU s id day=5:=by
 unfold lU
 split
 ·split<;>simp
 ·simp
def kE.pile (h:kE b) {c:Cmp} (j:c∈b.2.2.2.2.1) {x:Int} (d:x∈c.2.2.1++c.2.2.2.1):(∃g,Ă b x=some g/\g.2.1<=c.2.1)/\ow b x c.2.1=none:=by
 have a:=h.pilesOf j;unfold vT at a
 split at a
 ·omega
 rename_i n
 split at a
 ·omega
 rename_i o
 split at a
 ·omega
 rename_i l;have f:=(eV.1 (fO.2 n)) x d;have i:=(eV.1 (fO.2 o)) x d;have e:=(eV.1 (fO.2 l)) x d;simp at f i e;refine⟨EP h ?_,e⟩;rcases IR (κ b) x c.2.1 with h0|h0|h0
 ·exact h0
 ·exact(i h0).elim
 ·exact(f h0).elim
def kE.lefts (h:kE b) {c:Cmp} (d:c∈b.2.2.2.2.1):(ğ c.2.2.1 c.2.2.2.1).length<=1/\(ğ c.2.2.2.1 c.2.2.1).length<=1/\(ğ c.2.2.1 c.2.2.2.1).length+(ğ c.2.2.2.1 c.2.2.1).length≠0:=by
 have a:=h.pilesOf d;unfold vT at a
 (repeat' split at a)<;>first|omega|exact⟨by omega,by omega,by omega⟩
def tv {a c:w9 Int} {x:Int}:x∈ğ a c↔x∈a/\x∉c:=by
 simp[ğ]
def kE.rate (h:kE b) {p:w9 Int} (c:∀x∈p,∃g,Ă b x=some g):xO (LS (κ b) p) 1000 100:=by
 unfold LS
 cases p with
 |nil =>
  have:xO (0,1) 1000 100:=⟨by decide,by decide,by decide⟩;exact this
 |cons x t =>
  obtain⟨g,a⟩:=c x (by simp)
  try dsimp only
  rw[xX h.ids,a];have:=(Od g).1 (h.gauge g (ku a).1);exact⟨this.1,this.2.1,this.2.2.1⟩
def kE.rates (h:kE b) {c:Cmp} (e:c∈b.2.2.2.2.1):xO (LS (κ b) (ğ c.2.2.1 c.2.2.2.1)) 1000 100/\xO (LS (κ b) (ğ c.2.2.2.1 c.2.2.1)) 1000 100:=by
 constructor
 ·exact h.rate fun x a=>by
   obtain⟨⟨g,d,_⟩,_⟩:=h.pile e (dH _ (tv.1 a).1);exact⟨g,d⟩
 ·exact h.rate fun x a=>by
   obtain⟨⟨g,d,_⟩,_⟩:=h.pile e (dl _ (tv.1 a).1);exact⟨g,d⟩
def kE.growth (h:kE b) {c:Cmp} (e:c∈b.2.2.2.2.1):tG b c=some (uF b c):=by
 obtain⟨g,f⟩:=h.rates e;have d:=(mz c).1 (h.nums e);have a:=g9 d.2.2.2.2.2.1;have b:=g9 d.2.2.2.2.2.2;exact abB h.size (by omega) (by omega) g f d.2.2.2.2.1
def kE.films (h:kE b) {c:Cmp} (d:c.2.2.1.length<=1000) (a:c.2.2.2.1.length<=1000):xB b c=some (AH b c):=by
 have:=h.film;exact ael d a (by omega) (by omega) (by omega) (by omega)
def Wd {k a:Int×Int} (e:xO k 200000 10000) (f:lP a (-10000) 10000=true):xO (X0 k a).1 2000000000 10000/\xO (X0 k a).2 2000000000 10000:=by
 simp only[lP,Bool.and_eq_true,decide_eq_true_eq] at f;have d:=Pa e (n:=a.1) ⟨by omega,by omega⟩;have c:=Pa e (n:=a.2) ⟨by omega,by omega⟩;unfold X0
 split
 ·exact⟨c,d⟩
 ·exact⟨d,c⟩
def KW {c:Cmp} (d:c.2.2.1.length<=1000) (a:c.2.2.2.1.length<=1000) (g:0<=b.1.1) (h2:b.1.1<=1000000) (f:0<=b.1.2) (e:b.1.2<=1000000) :
 (-1000000000<=(AH b c).1/\(AH b c).1<=1000000000)/\(-1000000000<=(AH b c).2/\(AH b c).2<=1000000000):=by
 have bd:∀(n:Nat) (x:Int),n<=1000->0<=x->x<=1000000->0<=((n-1:Nat):Int)*x/\((n-1:Nat):Int)*x<=1000000000:=by
  intro n x i h0 h;refine⟨gz (by omega) h0,?_⟩;have:=fP (show((n-1:Nat):Int)<=1000 by omega) h h0 (by omega);omega
 have o:=bd _ _ d g h2;have l:=bd _ _ d f e;have b3:=bd _ _ a g h2;have j:=bd _ _ a f e;unfold AH
 try dsimp only
 omega
def KS {r:Int×Int} (h:xO r 2000000000 10000) : -2000000000<=r.1 / r.2/\r.1 / r.2<=2000000000:=by
 have:=Fz (n:=r.1) h.pos;have:=h.num;omega
def Ow {r:Int×Int} (h:xO r 2000000000 10000) : -2000000000<=Y3 r/\Y3 r<=2000000000:=by
 have:=Fz (n:=-r.1) h.pos;have:=h.num;unfold Y3;omega
def kE.says (h:kE b) {c:Cmp} (d:c∈b.2.2.2.2.1):yu b c=some (Il b c):=by
 obtain⟨i,g⟩:=h.rates d;have a:=(mz c).1 (h.nums d);have ha:=g9 a.2.2.2.2.2.1;have hb:=g9 a.2.2.2.2.2.2;have o:=h.film;obtain⟨l,j⟩:=Wd (TX i g) a.2.2.2.2.1;have r:=KW (b:=b) (c:=c) (by omega) (by omega) (by omega) (by omega) (by omega) (by omega);have f:xO (uF b c).1 2000000000 10000:=l;have e:xO (uF b c).2 2000000000 10000:=j;have u:=Ow f;have s:=KS e;unfold yu Wv Il;rw[h.growth d,Á,h.films (by omega) (by omega),Á,ae1 e.rat,Á,ahf f.rat,Á]
 try dsimp only
 have n:=a.2.2.1;have n4:=a.2.2.2.1;rw[Ù (by omega) (by omega),Ù (by omega) (by omega),Ù (by omega) (by omega),Ù (by omega) (by omega),Ù (by omega) (by omega),Ù (by omega) (by omega)]
end
def mo (l:Ep) (f t:Int):Int:=min l.2.1.2 (t-1)-max l.2.1.1 f+1
def ũ (id f t:Int):w9 Ep->Int
 |[]=>0
 |l::r=>(if l.1=id/\0<mo l f t then mo l f t*l.2.2 else 0)+ũ id f t r
def xr (id f t:Int):∀(x y:w9 Ep),ũ id f t (x++y)=ũ id f t x+ũ id f t y
 |[],y=>by simp[ũ]
 |l::r,y=>by
  simp only[dV,ũ,xr id f t r y];omega
def nq (b:ċ) (id f t:Int):w9 Int:=(b.2.2.1.filter fun u=>u.1==id&&inP u.2 f (t-1)).map fun u=>u.2
def PA (b:ċ) (g:Ą) (f t:Int):Int:=ũ g.1 f t b.2.2.2.1+(XO (nq b g.1 f t)).length*g.2.2.2.2.2
def agx (a c:Int):WN a c=min a c:=by unfold WN; split<;>omega
def agy (a c:Int):US a c=max a c:=by unfold US; split<;>omega
def tp {b:ċ} (h:kE b) {l:Ep} (c:l∈b.2.2.2.1):(0<=l.2.1.1/\l.2.1.1<=l.2.1.2/\l.2.1.2<=20000)/\(0<=l.2.2/\l.2.2<=1048576):=by
 obtain⟨i,hi,rfl⟩:=List.mem_iff_getElem.1 c;have:=h.loans i _ (List.getElem?_eq_getElem hi);unfold Sz at this
 split at this
 ·omega
 rename_i a
 split at this
 ·omega
 rename_i h2;simp only[dW,Bool.not_eq_false,lP,inP,cM,decide_eq_true_eq] at a h2;exact⟨a,h2⟩
def N4 {l:Ep} (h:(0<=l.2.1.1/\l.2.1.1<=l.2.1.2/\l.2.1.2<=20000)/\(0<=l.2.2/\l.2.2<=1048576)) {f t:Int} (a:0<=f) (hd:0<mo l f t):0<=mo l f t*l.2.2/\mo l f t*l.2.2<=20001*1048576:=by
 refine⟨Int.mul_nonneg (by omega) h.2.1,Int.mul_le_mul ?_ h.2.2 h.2.1 (by omega)⟩;unfold mo;omega
def rQ {id f t:Int} (a:0<=f):∀{x:w9 Ep},(∀l∈x,(0<=l.2.1.1/\l.2.1.1<=l.2.1.2/\l.2.1.2<=20000)/\(0<=l.2.2/\l.2.2<=1048576))->0<=ũ id f t x/\ũ id f t x<=x.length*(20001*1048576)
 |[],_=>by simp[ũ]
 |l::r,h=>by
  have e:=rQ (id:=id) (t:=t) a (x:=r) fun l c=>h l (by simp[c]);simp only[ũ,cV,gI,Int.add_mul,Int.one_mul]
  split
  ·rename_i d;have:=N4 (h l (by simp)) a d.2;omega
  ·omega
def agt {b:ċ} (h:kE b) {g:Ą} (s:0<=g.2.2.2.2.2/\g.2.2.2.2.2<=1048576) {f t:Int} (C:0<=f/\f<=100000) (O:0<=t/\t<=100000):yv b g f t=some (PA b g f t):=by
 have Q:=h.nL;have I:=h.nU
 have d:∀i,0<=ũ g.1 f t (b.2.2.2.1.take i)/\ũ g.1 f t (b.2.2.2.1.take i)<=12*(20001*1048576):=by
  intro i;have e:=rQ (id:=g.1) (t:=t) C.1 (x:=b.2.2.2.1.take i) fun l o=>tp h (fg o);have h2:((b.2.2.2.1.take i).length:Int)*(20001*1048576)<=12*(20001*1048576):=ft (by rw[dh]; omega) (by omega);omega
 unfold yv Wx;refine ġ (fun x:Int×Int=>∃i:Nat,i<=b.2.2.2.1.length/\x=(ũ g.1 f t (b.2.2.2.1.take i),(i:Int))) (fun x=>b.2.2.2.1.length-x.2.toNat) ?_ ⟨0,by omega,rfl⟩;rintro x ⟨i,hi,rfl⟩;rcases Nat.lt_or_ge i b.2.2.2.1.length with a|H
 ·have o:b.2.2.2.1[i]?=some b.2.2.2.1[i]:=cI a;have G:=tp h (cY o);refine .inr ⟨(ũ g.1 f t (b.2.2.2.1.take (i+1)),(i:Int)+1),⟨i+1,a,by simp⟩,by simp; omega,fun F=>?_⟩
  try dsimp only
  unfold ut;have E:=d i;have R:=d (i+1)
  have j:ũ g.1 f t (b.2.2.2.1.take (i+1))=ũ g.1 f t (b.2.2.2.1.take i)+(if b.2.2.2.1[i].1=g.1/\0<mo b.2.2.2.1[i] f t then mo b.2.2.2.1[i] f t*b.2.2.2.1[i].2.2 else 0):=by
   rw[take_succ o,xr]; simp[ũ]
  rw[Ñ a,È o,Ù (by omega) (by omega),agx,agy,Ù (by omega) (by omega),Ù (by omega) (by omega)];rw[show min b.2.2.2.1[i].2.1.2 (t-1)-max b.2.2.2.1[i].2.1.1 f+1=mo b.2.2.2.1[i] f t from rfl,Ġ]
  by_cases c:b.2.2.2.1[i].1=g.1
  ·rw[if_pos (by simpa[ieq] using c),Ġ]
   by_cases hd:0<mo b.2.2.2.1[i] f t
   ·have K:=N4 G C.1 hd;rw[if_pos ⟨c,hd⟩] at j;rw[if_pos (by simpa[igt] using hd),Ù (by omega) (by omega),Ù (by omega) (by omega),Î a (by omega),j]
   ·rw[if_neg (fun v=>hd v.2)] at j;rw[if_neg (by simpa[igt] using hd),Î a (by omega),j,Int.add_zero]
  ·rw[if_neg (fun v=>c v.1)] at j;rw[if_neg (by simpa[ieq] using c),Î a (by omega),j,Int.add_zero]
 ·refine .inl fun F=>?_
  have:i=b.2.2.2.1.length:=by omega
  subst this
  try dsimp only
  unfold ut;rw[é,List.take_length]
  have n:∀x:w9 (Int×Int),x.length<=40->((x.filter fun u=>u.1==g.1&&inP u.2 f (t-1)).map fun u=>u.2).length<=40:=by
   intro x y;rw[dP];exact cW (ej _ _) y
  refine Ζ b.2.2.1 (fun i=>((b.2.2.1.take i).filter fun u=>u.1==g.1&&inP u.2 f (t-1)).map fun u=>u.2) _ rfl (fun i u hi z r=>?_) (fun r=>?_)
  ·try dsimp only
   unfold ur;have y:=n (b.2.2.1.take i) (by rw[List.length_take]; omega);rw[Ñ hi,È z,Ù (by omega) (by omega),Κ,Á,Ð (by simp only[List.length_singleton]; omega),Am.iff_true,Î hi (by omega),Î hi (by omega),take_succ z,List.filter_append,List.map_append]
   cases e:(u.1==g.1) with
   |false =>
    have:ieq u.1 g.1=false:=e;simp only[this,ê,eD,e,gu,dj,if_false,fw,fp,df]
   |true =>
    have:ieq u.1 g.1=true:=e;rw[this]
    cases h2:inP u.2 f (t-1) with
    |false=>simp only[mq,ê,eD,e,h2,eJ,dj,if_false,fw,fp,df]
    |true=>simp only[mq,eD,e,h2,eJ,if_true,fw,fp,dY]
  ·try dsimp only
   unfold ur;rw[é,List.take_length];rw[show((b.2.2.1.filter fun u=>u.1==g.1&&inP u.2 f (t-1)).map fun u=>u.2)=nq b g.1 f t from rfl];have J:(nq b g.1 f t).length<=40:=n _ I
   have D:(XO (nq b g.1 f t)).length<=40:=by
    have:=HE (nq b g.1 f t);omega
   have P:0<=((XO (nq b g.1 f t)).length:Int)*g.2.2.2.2.2/\((XO (nq b g.1 f t)).length:Int)*g.2.2.2.2.2<=40*1048576 :=
    ⟨gz (by omega) s.1,fP (by omega) s.2 s.1 (by omega)⟩
   have E:=d b.2.2.2.1.length;rw[List.take_length] at E;dsimp only;rw[Ð (by omega),Am.iff_true,Ð (by rw[QN]; omega),Am.iff_true,ZU,â,Ù (by omega) (by omega),Ù (by omega) (by omega)];rfl
abbrev Lk:Type:=Int×Int×Int
inductive Wl (L:List Lk) (S:Int->Prop):List Int->Int->Int->Prop
 |nil {v:Int}:S v->Wl L S [] v 0
 |step {vs:List Int} {u v m d:Int}:Wl L S vs u d->(u,v,m)∈L->Wl L S (u::vs) v (d+m)
def Pot (L:w9 Lk) (p:Int->Int):Prop:=∀u v m,(u,v,m)∈L->p v<=p u+m
def InR (L:w9 Lk) (N:Nat):Prop:=∀l∈L,(0<=l.1/\l.1<N)/\(0<=l.2.1/\l.2.1<N)
section
variable {L:w9 Lk} {S:Int->Prop} {N:Nat} {p:Int->Int}
def Wl.cut (g:Pot L p) {vs:w9 Int} {v d:Int} (h:Wl L S vs v d):∀x∈vs,∃a e,Wl L S a x e/\(x::a) <:+ vs/\e+(p v-p x)<=d:=by
 induction h with
 |nil h=>intro x c; cases c
 | @step vs u v m d f i ih =>
  intro x c;have n:=g u v m i;rcases cP.1 c with rfl|c
  ·exact⟨vs,d,f,List.suffix_refl _,by omega⟩
  ·obtain⟨a,e,l,j,o⟩:=ih x c;exact⟨a,e,l,j.trans (List.suffix_cons _ _),by omega⟩
def Wl.simple (o:Pot L p) {vs:w9 Int} {v d:Int} (h:Wl L S vs v d):∃c j,Wl L S c v j/\j<=d/\(v::c).Nodup:=by
 induction h with
 |nil h=>exact⟨[],0,.nil h,eN _,by simp⟩
 | @step vs u v m d D r ih =>
  obtain⟨a,z,s,E,i⟩:=ih;have e:=Wl.step s r
  by_cases g:v∈u::a
  ·obtain⟨f,y,n,l,C⟩:=e.cut o v g;exact⟨f,y,n,by omega,i.sublist l.sublist⟩
  ·exact⟨u::a,z+m,e,by omega,fA.2 ⟨g,i⟩⟩
def Wl.range (g:InR L N) (f:∀v,S v->0<=v/\v<N) {vs:w9 Int} {v d:Int} (h:Wl L S vs v d):(0<=v/\v<N)/\∀u∈vs,0<=u/\u<N:=by
 induction h with
 |nil h=>exact⟨f _ h,fun u c=>by cases c⟩
 | @step vs u v m d i e ih =>
  refine⟨(g _ e).2,fun w a=>?_⟩;rcases cP.1 a with rfl|h
  ·exact ih.1
  ·exact ih.2 w h
def VU:∀(N:Nat) (l:w9 Int),l.Nodup->(∀x∈l,0<=x/\x<N)->l.length<=N
 |0,l,_,h=>by
  cases l with
  |nil=>simp
  |cons a l=>have:=h a (by simp); omega
 |N+1,l,c,h=>by
  have e:(l.erase (N:Int)).length<=N:=VU N _ (c.erase _) fun x d=>by
   have h2:=(c.mem_erase_iff).1 d;have:=h x h2.2;have:=h2.1;omega
  have:=List.length_erase (a:=(N:Int)) (l:=l)
  split at this<;>omega
def Wl.short (f:InR L N) (e:∀v,S v->0<=v/\v<N) {vs:w9 Int} {v d:Int} (h:Wl L S vs v d) (c:(v::vs).Nodup):vs.length+1<=N:=by
 have:=h.range f e
 exact VU N (v::vs) c fun x a=>by
  rcases cP.1 a with rfl|a
  ·exact this.1
  ·exact this.2 x a
def GO (f:Lk->Bool):w9 Lk->Int
 |[]=>0
 |l::t=>(if f l then min l.2.2 0 else 0)+GO f t
def aaB (f:Lk->Bool):∀L:w9 Lk,GO (fun _=>true) L<=GO f L
 |[]=>eN _
 |l::t=>by
  have:=aaB f t;simp only[GO,if_true]
  split<;>omega
def tU (f:Lk->Bool):∀L:w9 Lk,GO f L<=0
 |[]=>eN _
 |l::t=>by
  have:=tU f t;simp only[GO]
  split<;>omega
def Wh {f:Lk->Bool} {l:Lk} (c:f l=true):∀{L:w9 Lk},l∈L->GO f L<=l.2.2
 |a::t,h=>by
  simp only[GO];rcases cP.1 h with rfl|h
  ·have:=tU f t;rw[if_pos c]; omega
  ·have:=Wh c h
   split<;>omega
def aaA {f g:Lk->Bool} (h:∀l,f l=true->g l=false):∀L:w9 Lk,GO (fun l=>f l||g l) L=GO f L+GO g L
 |[]=>rfl
 |l::t=>by
  have e:=aaA h t;simp only[GO,e]
  by_cases c:f l=true
  ·simp[c,h l c]; omega
  ·have a:f l=false:=by simpa using c
   by_cases d:g l=true
   ·simp[a,d]; omega
   ·simp[a,d]
def Wl.low {vs:w9 Int} {v d:Int} (h:Wl L S vs v d):vs.Nodup->GO (fun l=>vs.contains l.1) L<=d:=by
 induction h with
 |nil h=>intro _; exact tU _ _
 | @step vs u v m d n e ih =>
  intro a;rw[fA] at a;have o:=ih a.2;have h2:GO (fun l=>l.1==u) L<=m:=Wh (f:=fun l=>l.1==u) (l:=(u,v,m)) (by simp) e
  have j:=aaA (f:=fun l:Lk=>l.1==u) (g:=fun l=>vs.contains l.1) (fun l c=>by
   simp only[beq_iff_eq] at c;rw[c]
   simpa using a.1) L
  have i:(fun l:Lk=>(u::vs).contains l.1)=fun l=>(l.1==u)||vs.contains l.1:=by funext l; rw[List.contains_cons]
  rw[i,j];omega
def HK (L:w9 Lk):Int:=GO (fun _=>true) L
def Wl.low' (c:Pot L p) {vs:w9 Int} {v d:Int} (h:Wl L S vs v d):HK L<=d:=by
 obtain⟨a,g,f,h2,e⟩:=h.simple c;have:=f.low (List.nodup_cons.1 e).2;have:=aaB (fun l=>a.contains l.1) L;unfold HK;omega
def Wl.high {M:Int} (c:∀l∈L,l.2.2<=M) {vs:w9 Int} {v d:Int} (h:Wl L S vs v d):d<=vs.length*M:=by
 induction h with
 |nil h=>simp
 | @step vs u v m d e a ih =>
  have:=c _ a;simp only[cV,gI,Int.add_mul,Int.one_mul];simp only at this;omega
end
abbrev rX:Int:=1152921504606846976
structure ac3 (L:w9 Lk) (S:Int->Prop) (N:Nat) (x:Int->Int):Prop where
 att:∀v:Int,0<=v->v<N->x v≠rX->∃vs,Wl L S vs v (x v)
 low:∀v vs d,Wl L S vs v d->x v<=d
 bd:∀v:Int,0<=v->v<N->x v<=rX
def ac3.uniq {L:w9 Lk} {S:Int->Prop} {N:Nat} {x y:Int->Int} (a:ac3 L S N x) (c:ac3 L S N y) {v:Int} (h0:0<=v) (d:v<N):x v=y v:=by
 have key:∀{x y:Int->Int},ac3 L S N x->ac3 L S N y->x v<=y v:=by
  intro x y a c
  by_cases h:y v=rX
  ·rw[h]; exact a.bd v h0 d
  ·obtain⟨vs,e⟩:=c.att v h0 d h;exact a.low v vs _ e
 exact Int.le_antisymm (key a c) (key c a)
def gv (x:w9 Int) (v:Int):Int:=x[v.toNat]?.getD 0
def abA {x:w9 Int} {v:Int} (h:v.toNat<x.length):x[v.toNat]?=some (gv x v):=by
 unfold gv; rw[List.getElem?_eq_getElem h]; rfl
def AF {x:w9 Int} {u v:Int} (d:0<=u) (c:0<=v) (h:u.toNat<x.length) (y:Int):gv (x.set u.toNat y) v=if v=u then y else gv x v:=by
 unfold gv;rw[List.getElem?_set]
 by_cases a:v=u
 ·subst a; simp[h]
 ·have:¬u.toNat=v.toNat:=by omega
  simp[a,this]
def afl {x y:w9 Int} (a:x.length=y.length) (h:∀v:Int,0<=v->v<x.length->gv x v=gv y v):x=y:=by
 refine List.ext_getElem a fun i c h2=>?_;have:=h i (by omega) (by omega);unfold gv at this;simpa[c,h2] using this
def lL (x:w9 Int) (l:Lk):w9 Int:=if gv x l.1<rX/\gv x l.1+l.2.2<gv x l.2.1 then x.set l.2.1.toNat (gv x l.1+l.2.2) else x
def GK (L:w9 Lk) (x:w9 Int):w9 Int:=L.foldl lL x
def lM (L:w9 Lk):Nat->w9 Int->w9 Int
 |0,x=>x
 |n+1,x=>lM L n (GK L x)
def nP (x:w9 Int) (l:Lk):(lL x l).length=x.length:=by unfold lL; split<;>simp
def vV (L:w9 Lk):∀x:w9 Int,(GK L x).length=x.length:=by
 induction L with
 |nil=>intro x; rfl
 |cons l t a=>intro x; show(GK t (lL x l)).length=_; rw[a,nP]
def ο (L:w9 Lk):∀(n:Nat) (x:w9 Int),(lM L n x).length=x.length
 |0,x=>rfl
 |n+1,x=>by rw[lM,ο L n,vV]
def A2 (L:w9 Lk):∀(n:Nat) (x:w9 Int),lM L (n+1) x=GK L (lM L n x)
 |0,x=>rfl
 |n+1,x=>by rw[lM,A2 L n]; rfl
section
variable {L0:w9 Lk} {S:Int->Prop} {N:Nat}
def QW {x:w9 Int} {l:Lk} (c:(0<=l.1/\l.1<N)/\(0<=l.2.1/\l.2.1<N)) (d:x.length=N) (v:Int) (a:0<=v):gv (lL x l) v<=gv x v:=by
 unfold lL
 split
 ·rename_i h;rw[AF c.2.1 a (by omega)]
  split
  ·rename_i h2; subst h2; omega
  ·exact eN _
 ·exact eN _
def B7:∀{L:w9 Lk},InR L N->∀{x:w9 Int},x.length=N->∀v,0<=v->gv (GK L x) v<=gv x v
 |[],_,x,_,v,_=>eN _
 |l::t,d,x,a,v,c=>by
  have f:=QW (d l (by simp)) a v c;have h2:=B7 (L:=t) (fun l e=>d l (by simp[e])) (x:=lL x l) (by rw[nP,a]) v c;show gv (GK t (lL x l)) v<=_;omega
def EI:∀{L:w9 Lk},InR L N->∀{x:w9 Int},x.length=N->∀u v m,(u,v,m)∈L->gv x u<rX->gv (GK L x) v<=gv x u+m
 |l::t,e,x,f,u,v,m,d,i=>by
  have g:InR t N:=fun l a=>e l (by simp[a])
  have c:(lL x l).length=N:=by rw[nP,f]
  show gv (GK t (lL x l)) v<=_;rcases cP.1 d with rfl|d
  ·have a:=e (u,v,m) (by simp);have h2:=B7 g c v a.2.1
   have j:gv (lL x (u,v,m)) v<=gv x u+m:=by
    unfold lL
    split
    ·rw[AF a.2.1 a.2.1 (by simp only at a; simp only; omega),if_pos rfl]; exact eN _
    ·rename_i h; simp only[not_and,Int.not_lt] at h; exact h i
   omega
  ·have a:=e (u,v,m) (by simp[d]);have n:=QW (e l (by simp)) f u a.1.1;have:=EI g c u v m d (by omega);omega
def Att (L0:w9 Lk) (S:Int->Prop) (N:Nat) (x:w9 Int):Prop:=∀v:Int,0<=v->v<N->gv x v<rX->∃vs,Wl L0 S vs v (gv x v)
def XS {x:w9 Int} {l:Lk} (a:(0<=l.1/\l.1<N)/\(0<=l.2.1/\l.2.1<N)) (e:l∈L0) (i:x.length=N) (h:Att L0 S N x):Att L0 S N (lL x l):=by
 unfold lL
 split
 ·rename_i f;intro v h0 g c;rw[AF a.2.1 h0 (by omega)] at c ⊢
  split
  ·rename_i h2;obtain⟨vs,d⟩:=h l.1 a.1.1 a.1.2 f.1;exact⟨_,h2▸Wl.step d e⟩
  ·rename_i h2;rw[if_neg h2] at c;exact h v h0 g c
 ·exact h
def Q6:∀{L:w9 Lk},InR L N->(∀l∈L,l∈L0)->∀{x:w9 Int},x.length=N->Att L0 S N x->Att L0 S N (GK L x)
 |[],_,_,_,_,h=>h
 |l::t,d,hsub,x,c,h=>Q6 (L:=t) (fun l a=>d l (by simp[a])) (fun l a=>hsub l (by simp[a])) (x:=lL x l) (by rw[nP,c]) (XS (d l (by simp)) (hsub l (by simp)) c h)
def Nq (c:InR L0 N):∀(n:Nat) {x:w9 Int},x.length=N->Att L0 S N x->Att L0 S N (lM L0 n x)
 |0,_,_,h=>h
 |n+1,x,a,h=>Nq c n (by rw[vV,a]) (Q6 c (fun _ h=>h) a h)
def B6 (d:InR L0 N):∀(n:Nat) {x:w9 Int},x.length=N->∀v,0<=v->gv (lM L0 n x) v<=gv x v
 |0,_,_,_,_=>eN _
 |n+1,x,a,v,c=>Int.le_trans (B6 d n (by rw[vV,a]) v c) (B7 d a v c)
def start (S:Int->Bool) (N:Nat):w9 Int:=(List.range N).map fun(i:Nat)=>if S i then 0 else rX
def i8 (S:Int->Bool) {N:Nat} {v:Int} (h0:0<=v) (a:v<N):gv (start S N) v=if S v then 0 else rX:=by
 unfold gv start
 have:v.toNat<N:=by omega
 rw[eI,gg this];simp only[dQ,gD];rw[gi h0]
def ĥ (S:Int->Bool) (N:Nat):(start S N).length=N:=by simp[start]
end
def EH {L:w9 Lk} {S:Int->Bool} {N:Nat} {M:Int} (j:InR L N) (i:∀v,S v=true->0<=v/\v<N) (r:∀l∈L,l.2.2<=M):∀(n:Nat),n*M<rX->0<=M->∀vs v d,Wl L (fun v=>S v=true) vs v d->vs.length<=n->gv (lM L n (start S N)) v<=d
 |0,_,_,vs,v,d,e,g=>by
  cases e with
  |nil h =>
   have:=i v h;rw[lM,i8 S this.1 this.2,if_pos h]; exact eN _
  |step=>simp at g
 |n+1,s,c,vs,v,d,e,g=>by
  have f:n*M<rX:=by rw[gI,Int.add_mul,Int.one_mul] at s; omega
  have a:(lM L n (start S N)).length=N:=by rw[ο,ĥ]
  rw[A2]
  cases e with
  |nil h =>
   have C:=B7 j a v (i v h).1;have h2:=EH j i r n f c [] v 0 (.nil h) (by simp);omega
  | @step vs u _ m d e o =>
   have h2:=EH j i r n f c vs u d e (by simpa using g);have z:=e.high r;have y:(vs.length:Int)*M<=n*M:=ft (by simp at g; omega) c;have:=EI j a u v m o (by omega);omega
def Ue {L:w9 Lk} {S:Int->Bool} {N:Nat} {M:Int} {p:Int->Int} (C:Pot L p) (c:InR L N) (o:∀v,S v=true->0<=v/\v<N) (G:∀l∈L,l.2.2<=M) (r:0<=M) (F:N*M<rX) (n:Nat) (u:N<=n+1):ac3 L (fun v=>S v=true) N (gv (lM L n (start S N))):=by
 have g:Att L (fun v=>S v=true) N (start S N):=fun v h0 a y=>by
  rw[i8 S h0 a] at y ⊢
  split
  ·rename_i h; exact⟨[],.nil h⟩
  ·rename_i h; rw[if_neg h] at y; omega
 have f:∀v:Int,0<=v->v<N->gv (lM L n (start S N)) v<=rX:=fun v h0 a=>by
  have:=B6 c n (ĥ S N) v h0;rw[i8 S h0 a] at this
  have O:(0:Int)<=rX:=by decide
  split at this<;>omega
 have e:∀(n:Nat),N<=n+1->∀v vs d,Wl L (fun v=>S v=true) vs v d->gv (lM L n (start S N)) v<=d:=by
  intro n u v vs d z;obtain⟨i,J,a,h2,I⟩:=z.simple C;have Q:=a.short c o I
  have s:0<N:=by omega
  obtain⟨k,rfl⟩:∃k,N=k+1:=⟨N-1,by omega⟩
  have E:(k:Int)*M<rX:=by rw[gI,Int.add_mul,Int.one_mul] at F; omega
  have P:=EH c o G k E r i v J a (by omega);obtain⟨j,rfl⟩:∃j,n=k+j:=⟨n-k,by omega⟩
  have H:∀(j:Nat),gv (lM L (k+j) (start S (k+1))) v<=gv (lM L k (start S (k+1))) v:=by
   intro j
   induction j with
   |zero=>exact eN _
   |succ j K =>
    rw[<-Nat.add_assoc,A2];have:=B7 c (x:=lM L (k+j) (start S (k+1))) (by rw[ο,ĥ]) v (a.range c o).1.1;omega
  have:=H j;omega
 exact⟨fun v h0 a D=>Nq c n (ĥ S N) g v h0 a (by have:=f v h0 a; omega),e n u,f⟩
def ac3.pot {L:w9 Lk} {S:Int->Prop} {N:Nat} {x:Int->Int} (h:ac3 L S N x) (c:InR L N) {u v m:Int} (a:(u,v,m)∈L) (e:x u≠rX):x v<=x u+m:=by
 obtain⟨vs,d⟩:=h.att u (c _ a).1.1 (c _ a).1.2 e;exact h.low v _ _ (.step d a)
def ŝ (b:ċ) (g:Ą):w9 Lk :=
 [(0,atP (î b) [g.1] g.2.1,g.2.2.1+g.2.2.2.1.2),(atP (î b) [g.1] g.2.1,0,-(g.2.2.1+g.2.2.2.1.1))] ++
 (List.range ((Ğ b g).length-1)).flatMap fun(k:Nat)=>[(atP (î b) [g.1] g.2.1+k,atP (î b) [g.1] g.2.1+k+1,0),(atP (î b) [g.1] g.2.1+k+1,atP (î b) [g.1] g.2.1+k,PA b g ((Ğ b g)[k]?.getD 0) ((Ğ b g)[k+1]?.getD 0))]
def cx (b:ċ) (c:Cmp):Int:=atP (î b) (ğ c.2.2.1 c.2.2.2.1) c.2.1
def cy (b:ċ) (c:Cmp):Int:=atP (î b) (ğ c.2.2.2.1 c.2.2.1) c.2.1
def iW (b:ċ) (c:Cmp):w9 Lk:=[(cy b c,cx b c,(Il b c).2),(cx b c,cy b c,-(Il b c).1)]
def AD (b:ċ):w9 Lk:=b.2.1.flatMap (ŝ b)++b.2.2.2.2.1.flatMap (iW b)
def η (b:ċ) (i:Nat) (g:Ą):w9 (Int×Int):=[(1,(i:Int)),(1,(i:Int))]++(List.range ((Ğ b g).length-1)).flatMap fun _=>[(2,(i:Int)),(2,(i:Int))]
def OO (b:ċ):w9 (Int×Int):=(b.2.1.mapIdx (η b)).flatten++(b.2.2.2.2.1.mapIdx fun i _=>[(3,(i:Int)),(3,(i:Int))]).flatten
section
variable {b:ċ}
def Qx (h:kE b) {id day:Int} (a:Zw (κ b) id day=0):(0<=day/\day<=20000)/\∃g,Ă b id=some g/\g.2.1<=day:=by
 unfold Zw at a
 split at a
 ·omega
 ·rename_i hd;simp only[dW,Bool.not_eq_false,Le,inP,cM,decide_eq_true_eq] at hd;exact⟨hd,EP h a⟩
def nh {g:Ą} {d:Int}:d∈Ğ b g↔d=g.2.1\/(∃c∈b.2.2.2.2.1,(c.2.2.1.contains g.1)≠(c.2.2.2.1.contains g.1)/\c.2.1=d)\/(∃n∈b.2.2.2.2.2,n.1=g.1/\n.2=d):=by
 unfold Ğ;rw[adv,U0];simp only[List.mem_append,List.mem_singleton,List.mem_map,List.mem_filter];constructor
 ·rintro((h|⟨c,⟨e,h2⟩,a⟩)|⟨n,⟨e,h2⟩,a⟩)
  ·exact .inl h
  ·exact .inr (.inl ⟨c,e,by simpa using h2,a⟩)
  ·exact .inr (.inr ⟨n,e,by simpa using h2,a⟩)
 ·rintro(h|⟨c,e,h2,a⟩|⟨n,e,h2,a⟩)
  ·exact .inl (.inl h)
  ·exact .inl (.inr ⟨c,⟨e,by simpa using h2⟩,a⟩)
  ·exact .inr ⟨n,⟨e,by simpa using h2⟩,a⟩
def kE.gaugeR (h:kE b) {g:Ą} (a:g∈b.2.1):LN g.2.2.2.2.1=true/\(-1000<=g.2.2.2.2.1.1/\g.2.2.2.2.1.1<=1000)/\g.2.2.2.2.1.2<=100/\(1<=g.1/\g.1<=1099511627776)/\(0<=g.2.1/\g.2.1<=20000)/\(1<=g.2.2.1/\g.2.2.1<=1125899906842624)/\(-1073741824<=g.2.2.2.1.1/\g.2.2.2.1.1<=g.2.2.2.1.2/\g.2.2.2.1.2<=1073741824)/\(0<=g.2.2.2.2.2/\g.2.2.2.2.2<=1048576):=(Od g).1 (h.gauge g a)
def kE.day (h:kE b) {g:Ą} (j:g∈b.2.1) {d:Int} (hd:d∈Ğ b g):g.2.1<=d/\0<=d/\d<=20000:=by
 have r:=h.gaugeR j;have a:=md h.ids j;rcases nh.1 hd with rfl|⟨c,l,i,rfl⟩|⟨n,f,i,rfl⟩
 ·have:=r.2.2.2.2.1; omega
 ·have f:=(mz c).1 (h.nums l)
  have o:g.1∈c.2.2.1++c.2.2.2.1:=by
   rw[cO]
   by_cases h2:g.1∈c.2.2.1
   ·exact .inl h2
   ·refine .inr ?_
    have u:c.2.2.1.contains g.1=false:=by simpa using h2
    rw[u] at i
    have:c.2.2.2.1.contains g.1=true:=by cases v:c.2.2.2.1.contains g.1<;>simp_all
    simpa using this
  obtain⟨⟨g',e,s⟩,_⟩:=h.pile l o;rw[a] at e; cases e;have:=f.2.1;omega
 ·obtain⟨h2,g',e,s⟩:=Qx h (h.looks n f);rw[i,a] at e; cases e;omega
def Eb (g:Ą):g.2.1∈Ğ b g:=nh.2 (.inl rfl)
def Xb (h:kE b) {g:Ą} (c:g∈b.2.1):(Ğ b g).length<=59:=by
 have f:∀l:w9 Ą,g∈l->(Ğ b g).length<=(l.flatMap fun g=>(Ğ b g).map fun d=>((g.1,d):Int×Int)).length:=by
  intro l
  induction l with
  |nil=>intro c; cases c
  |cons a t e =>
   intro c;rw[dE,cN,dP];rcases cP.1 c with rfl|c
   ·omega
   ·have:=e c; omega
 have:=f b.2.1 c;have:=h.nodes;unfold î at this;omega
def acL {p:w9 Int} {d:Int}:0<=atP (î b) p d/\atP (î b) p d<=(î b).length:=by
 unfold atP
 cases p with
 |nil=>simp
 |cons x t =>
  try dsimp only
  cases h:oT (î b) x d with
  |none=>simp
  |some j=>have:=(sg h).1; dsimp only; omega
def Ik (h:kE b) {c:Cmp} (d:c∈b.2.2.2.2.1):(-1125904000000000<=(Il b c).1/\(Il b c).1<=1125904000000000)/\(-1125904000000000<=(Il b c).2/\(Il b c).2<=1125904000000000):=by
 obtain⟨f,e⟩:=h.rates d;have a:=(mz c).1 (h.nums d);have ha:=g9 a.2.2.2.2.2.1;have hb:=g9 a.2.2.2.2.2.2;have o:=h.film;obtain⟨l,j⟩:=Wd (TX f e) a.2.2.2.2.1;have r:=KW (b:=b) (c:=c) (by omega) (by omega) (by omega) (by omega) (by omega) (by omega);have i:xO (uF b c).1 2000000000 10000:=l;have g:xO (uF b c).2 2000000000 10000:=j;have u:=Ow i;have s:=KS g;have n:=a.2.2.1;have n4:=a.2.2.2.1;unfold Il
 try dsimp only
 omega
def Kq (h:kE b) {g:Ą} (d:g∈b.2.1) {f t:Int} (e:0<=f):0<=PA b g f t/\PA b g f t<=12*(20001*1048576)+40*1048576:=by
 have a:=(h.gaugeR d).2.2.2.2.2.2.2;have o:=rQ (id:=g.1) (t:=t) e (x:=b.2.2.2.1) fun l c=>tp h c;have h2:(b.2.2.2.1.length:Int)*(20001*1048576)<=12*(20001*1048576):=ft (by have:=h.nL; omega) (by omega)
 have n:(nq b g.1 f t).length<=40:=by
  unfold nq;rw[List.length_map];exact Nat.le_trans (List.length_filter_le _ _) h.nU
 have j:=HE (nq b g.1 f t)
 have i:0<=((XO (nq b g.1 f t)).length:Int)*g.2.2.2.2.2/\((XO (nq b g.1 f t)).length:Int)*g.2.2.2.2.2<=40*1048576 :=
  ⟨gz (by omega) a.1,fP (by omega) a.2 a.1 (by omega)⟩
 unfold PA;omega
end
def tY {α β:Type} (f:Nat->α->β) {l:w9 α} {i:Nat} {a:α} (h:l[i]?=some a):(l.take (i+1)).mapIdx f=(l.take i).mapIdx f++[f i a]:=by
 have hi:i<l.length:=(cQ.1 h).1
 have:(l.take i).length=i:=by rw[dh]; omega
 rw[take_succ h,List.mapIdx_append];simp[this]
def ED {α:Type} (f:Nat->w9 α) (j:Nat):(List.range (j+1)).flatMap f=(List.range j).flatMap f++f j:=by
 rw[gP,fC]; simp
def oM {α:Type} (f:Nat->w9 α) (n:Nat) (h:∀k,(f k).length=2):((List.range n).flatMap f).length=2*n:=by
 induction n with
 |zero=>rfl
 |succ n a=>rw[ED,cN,a,h]; omega
set_option maxHeartbeats 2000000 in
def adW {b:ċ} (h:kE b):HX b=some (b,î b,(((î b).length:Int)+1,AD b),OO b):=by
 unfold HX Ww;have hN:=h.nodes;have hG:=h.nG;have hC:=h.nC;rw[Wg h.size,Á,â,Ù (by omega) (by omega)]
 -- lengths of what comes
 have gl:∀g∈b.2.1,(ŝ b g).length<=120/\∀i,(η b i g).length<=120:=by
  intro g a;have:=Xb h a;constructor
  ·unfold ŝ;rw[List.length_append,oM _ _ (fun _=>rfl)];simp only[List.length_cons,List.length_nil]; omega
  ·intro i;unfold η;rw[List.length_append,oM _ _ (fun _=>rfl)];simp only[List.length_cons,List.length_nil]; omega
 have s:∀i,((b.2.1.take i).flatMap (ŝ b)).length<=1440/\(((b.2.1.take i).mapIdx (η b)).flatten).length<=1440:=by
  intro i
  induction i with
  |zero=>simp
  |succ i o =>
   have key:∀i,i<=b.2.1.length->((b.2.1.take i).flatMap (ŝ b)).length<=i*120/\(((b.2.1.take i).mapIdx (η b)).flatten).length<=i*120:=by
    intro i
    induction i with
    |zero=>intro _; simp
    |succ i o =>
     intro hi;have o:=o (by omega);have a:b.2.1[i]?=some b.2.1[i]:=cI hi;have h2:=gl _ (cY a);have h3:=h2.2 i;rw[tY _ a,take_succ a,fC,List.flatten_append,cN,cN];simp only[dE,gJ,df,List.flatten_cons,List.flatten_nil];omega
   rcases dA b.2.1.length (i+1) with G|G
   ·rw[dN (by omega)];have:=key b.2.1.length (cJ _);rw[gH] at this;omega
   ·have:=key (i+1) G;omega
 refine Ζ b.2.1 (fun i=>((b.2.1.take i).flatMap (ŝ b),((b.2.1.take i).mapIdx (η b)).flatten)) _ rfl (fun i g hi a P=>?_) (fun P=>?_)
 ·try dsimp only
  unfold uq;have e:=List.mem_of_getElem? a;have z:=h.gaugeR e;have hd:=Xb h e;have r:=s i;have R:=acL (b:=b) (p:=[g.1]) (d:=g.2.1);rw[Ñ hi,È a];rw[show oj ((b.1.1,b.1.2),b.2.1,b.2.2.1,b.2.2.2.1,b.2.2.2.2.1,b.2.2.2.2.2) g=oj b g from rfl,abY h.size,Á];rw[ag9 _ _ _ (by dsimp only; omega),Á]
  try dsimp only
  have r1:=z.2.2.2.2.2.1;have r2:=z.2.2.2.2.2.2.1;rw[Ù (by omega) (by omega),Ù (by omega) (by omega),Ù (by omega) (by omega),Ð (by simp only[cV,dk]; omega),Am.iff_true,Ð (by simp only[cV,dk]; omega),Am.iff_true]
  refine ġ (fun x:Int×w9 Lk×w9 (Int×Int)=>∃j:Nat,j+1<=(Ğ b g).length/\x.1=(j:Int)+1 /\
   x.2.1=(b.2.1.take i).flatMap (ŝ b)++([(0,atP (î b) [g.1] g.2.1,g.2.2.1+g.2.2.2.1.2),(atP (î b) [g.1] g.2.1,0,-(g.2.2.1+g.2.2.2.1.1))] ++
    (List.range j).flatMap fun(k:Nat)=>[(atP (î b) [g.1] g.2.1+k,atP (î b) [g.1] g.2.1+k+1,0),(atP (î b) [g.1] g.2.1+k+1,atP (î b) [g.1] g.2.1+k,PA b g ((Ğ b g)[k]?.getD 0) ((Ğ b g)[k+1]?.getD 0))]) /\
   x.2.2=((b.2.1.take i).mapIdx (η b)).flatten++([(1,(i:Int)),(1,(i:Int))]++(List.range j).flatMap fun _=>[(2,(i:Int)),(2,(i:Int))])) (fun x=>(Ğ b g).length-x.1.toNat) ?_
   ⟨0,List.length_pos_of_mem (Eb g),rfl,by simp,by simp⟩
  rintro⟨Y,O,K⟩ ⟨j,hj,J,y,v⟩;dsimp only at J y v ⊢;subst J
  have F:O.length<=1562:=by
   rw[y,cN,cN,oM _ _ (fun _=>rfl)];simp only[cV,dk]; omega
  have E:K.length<=1562:=by
   rw[v,cN,cN,oM _ _ (fun _=>rfl)];simp only[cV,dk]; omega
  rcases dA (j+1) (Ğ b g).length with f|Q
  ·refine .inr ⟨((j:Int)+1+1,_,_),⟨j+1,f,by push_cast; rfl,rfl,rfl⟩,by dsimp only; omega,fun l=>?_⟩
   try dsimp only
   unfold un
   have I:(Ğ b g)[j]?=some ((Ğ b g)[j]?.getD 0):=by rw[cI (by omega)]; rfl
   have H:(Ğ b g)[j+1]?=some ((Ğ b g)[j+1]?.getD 0):=by rw[cI f]; rfl
   have U:=h.day e (cY I);have d2:=h.day e (cY H);have lb:=Kq h e (t:=(Ğ b g)[j+1]?.getD 0) U.2.1
   have T:((j:Int)+1)=((j+1:Nat):Int):=by push_cast; rfl
   rw[T,Ñ f,Ù (by omega) (by omega),Ù (by omega) (by omega),Ù (by omega) (by omega),Ù (by omega) (by omega)];rw[show(((j+1:Nat):Int)-1)=((j:Nat):Int) by omega,È I,È H];rw[show yv ((b.1.1,b.1.2),b.2.1,b.2.2.1,b.2.2.2.1,b.2.2.2.2.1,b.2.2.2.2.2) (g.1,g.2.1,g.2.2.1,(g.2.2.2.1.1,g.2.2.2.1.2),(g.2.2.2.2.1.1,g.2.2.2.2.1.2),g.2.2.2.2.2) ((Ğ b g)[j]?.getD 0) ((Ğ b g)[j+1]?.getD 0)=yv b g ((Ğ b g)[j]?.getD 0) ((Ğ b g)[j+1]?.getD 0) from rfl];rw[agt h z.2.2.2.2.2.2.2 ⟨by omega,by omega⟩ ⟨by omega,by omega⟩,Á,Ù (by omega) (by omega),Ù (by omega) (by omega),Ð (by simp only[cV,dk]; omega),Am.iff_true,Ð (by simp only[cV,dk]; omega),Am.iff_true,Î f (by omega)];rw[ED,ED,y,v]
   have X:atP (î b) [g.1] g.2.1+((j+1:Nat):Int)-1=atP (î b) [g.1] g.2.1+(j:Int):=by push_cast; omega
   have W:atP (î b) [g.1] g.2.1+((j+1:Nat):Int)=atP (î b) [g.1] g.2.1+(j:Int)+1:=by push_cast; omega
   have a3:0-(0-PA b g ((Ğ b g)[j]?.getD 0) ((Ğ b g)[j+1]?.getD 0))=PA b g ((Ğ b g)[j]?.getD 0) ((Ğ b g)[j+1]?.getD 0):=by omega
   rw[X,W,a3];simp only[cS]
  ·refine .inl fun l=>?_
   have C:j+1=(Ğ b g).length:=by omega
   unfold un;rw[show((j:Int)+1)=(((Ğ b g).length:Nat):Int) by rw[<-C]; push_cast; rfl,é];dsimp only;rw[Î hi (by omega)];rw[tY _ a,take_succ a,List.flatMap_append,List.flatten_append,y,v,show j=(Ğ b g).length-1 by omega];simp only[List.flatMap_cons,List.flatMap_nil,List.append_nil,List.flatten_cons,List.flatten_nil];rfl
 ·try dsimp only
  unfold uq;rw[é,List.take_length];have r:=s b.2.1.length;rw[List.take_length] at r
  have V:∀i,i<=b.2.2.2.2.1.length->((b.2.2.2.2.1.take i).flatMap (iW b)).length=2*i/\(((b.2.2.2.2.1.take i).mapIdx fun i _=>[((3:Int),(i:Int)),((3:Int),(i:Int))]).flatten).length=2*i:=by
   intro i
   induction i with
   |zero=>intro _; simp
   |succ i o =>
    intro hi;have o:=o (by omega);have a:b.2.2.2.2.1[i]?=some b.2.2.2.2.1[i]:=cI hi;rw[tY _ a,take_succ a,fC,List.flatten_append,cN,cN];simp only[dE,gJ,df,List.flatten_cons,List.flatten_nil,iW,cV,dk];omega
  refine Ζ b.2.2.2.2.1 (fun i=>(b.2.1.flatMap (ŝ b)++(b.2.2.2.2.1.take i).flatMap (iW b),(b.2.1.mapIdx (η b)).flatten++((b.2.2.2.2.1.take i).mapIdx fun i _=>[((3:Int),(i:Int)),((3:Int),(i:Int))]).flatten)) _ (by simp) (fun i c hi u l=>?_) (fun l=>?_)
  ·try dsimp only
   unfold uk;have n:=List.mem_of_getElem? u;have D:=(mz c).1 (h.nums n);have ha:=g9 D.2.2.2.2.2.1;have hb:=g9 D.2.2.2.2.2.2;have Z:=Ik h n;have c1:=V i (by omega);rw[Ñ hi,È u,Ff (by omega) (by omega),Á,ag9 _ _ _ (by dsimp only; omega),Á,Ff (by omega) (by omega),Á,ag9 _ _ _ (by dsimp only; omega),Á];rw[show yu ((b.1.1,b.1.2),b.2.1,b.2.2.1,b.2.2.2.1,b.2.2.2.2.1,b.2.2.2.2.2) c=yu b c from rfl,h.says n,Á];rw[Ù (by omega) (by omega),Ð (by simp only[List.length_append,List.length_cons,List.length_nil]; omega),Am.iff_true,Ð (by simp only[List.length_append,List.length_cons,List.length_nil]; omega),Am.iff_true,Î hi (by omega),tY _ u,take_succ u,List.flatMap_append,List.flatten_append];simp only[List.flatMap_cons,List.flatMap_nil,List.append_nil,List.flatten_cons,List.flatten_nil,List.append_assoc,Int.zero_sub];rfl
  ·try dsimp only
   unfold uk;rw[é,List.take_length];rfl
section
variable {ρ:Type}
def wv (w:w9 Bool) (v:Int):Bool:=w[v.toNat]?.getD false
def Vu {w:w9 Bool} {u v:Int} (d:0<=u) (c:0<=v) (h:u.toNat<w.length) (y:Bool):wv (w.set u.toNat y) v=if v=u then y else wv w v:=by
 unfold wv;rw[List.getElem?_set]
 by_cases a:v=u
 ·subst a; simp[h]
 ·have:¬u.toNat=v.toNat:=by omega
  simp[a,this]
def rI {x:w9 Int} {v:Int} (h:v.toNat<x.length) (f:Int->w8 ρ):ĵ x v.toNat f=f (gv x v):=xW (abA h) f
def O8 {w:w9 Bool} {v:Int} (h:v.toNat<w.length) (f:Bool->w8 ρ):ĵ w v.toNat f=f (wv w v):=by
 refine xW ?_ f;unfold wv; rw[List.getElem?_eq_getElem h]; rfl
def pE {v:Int} {n:Nat} (h0:0<=v) (a:v<n) (x:w8 ρ):Ú ((ile 0 v)&&(ilt v (n:Int))) x=x:=by
 have:((ile 0 v)&&(ilt v (n:Int)))=true:=by simp[ile,ilt,h0,a]
 rw[this,Am.iff_true]
end
def pw (n least:Int):w9 Lk->w9 Int->w9 Bool->w9 Int->Bool×w9 Int×w9 Bool×w9 Int
 |[],x,w,q=>(true,x,w,q)
 |l::t,x,w,q =>
  if l.1≠n then pw n least t x w q else
  if gv x l.2.1<=gv x n+l.2.2 then pw n least t x w q else
  if gv x n+l.2.2<least then(false,x.set l.2.1.toNat (gv x n+l.2.2),w,q) else
  if wv w l.2.1 then pw n least t (x.set l.2.1.toNat (gv x n+l.2.2)) w q else pw n least t (x.set l.2.1.toNat (gv x n+l.2.2)) (w.set l.2.1.toNat true) (q++[l.2.1])
structure iZ (L:w9 Lk) (N:Nat) (M:Int):Prop where
 inr:InR L N
 noloop:∀l∈L,l.1≠l.2.1
 most:∀l∈L,-M<=l.2.2/\l.2.2<=M
 len:L.length<=400
 nodes:N<=1000
 m0:0<=M
 m1:M<=4503599627370496
set_option maxHeartbeats 1000000 in
def aeg {ρ:Type} {L:w9 Lk} {N:Nat} {M:Int} (G:iZ L N M) {n least:Int} (R:0<=n/\n<N) {x:w9 Int} {w:w9 Bool} {q:w9 Int} (hx:x.length=N) (hw:w.length=N) (hq:q.length<=1000000)
 (hb : -2305843009213693952<=gv x n/\gv x n<=2305843009213693952) (V:(Val (.pair .bool (.pair (.slice tI) (.pair (.slice .bool) (.slice tI)))))->w8 ρ) (U:(Val (.pair (.slice tI) (.pair (.slice .bool) (.slice tI))))->w8 ρ) :
 É (fun(d:(Val (.pair tI (.pair (.slice tI) (.pair (.slice .bool) (.slice tI)))))) E=>iP [] least n L (Ô L) d.1 d.2.1 d.2.2.1 d.2.2.2 (fun P O K J=>E (P,O,K,J)) V U) ((0:Int),x,w,q) =
  match pw n least L x w q with
  |(true,r)=>U r
  |(false,r)=>V (false,r):=by
 have Y:=G.len
 refine PB L (fun i (s:w9 Int×w9 Bool×w9 Int) t=>match pw n least t s.1 s.2.1 s.2.2 with|(true,r)=>U r|(false,r)=>V (false,r))
  (fun i s=>s.1.length=N/\s.2.1.length=N/\gv s.1 n=gv x n/\s.2.2.length<=1000000+i) (fun s hs kn=>?_) (fun i l t s hd hi Z hI kn F=>?_) (s:=(x,w,q)) ⟨hx,hw,rfl,by simpa using hq⟩
 ·try dsimp only
  unfold iP;rw[é];rfl
 ·obtain⟨y,u,p⟩:=s;obtain⟨H,h2,I,h4⟩:=hI;dsimp only at H h2 I h4 F ⊢;have a:l∈L:=List.mem_of_getElem? Z;have z:=G.inr l a;have hm:=G.most l a;have hm1:=G.m1;have Q:=G.noloop l a;unfold iP;rw[Ñ hi,È Z];unfold pw
  by_cases c:l.1=n
  ·have T:ine l.1 n=false:=by simp[ine,c]
   rw[Õ T];have e1:∀(f:Bool->w8 ρ) (g:w8 ρ),N8 (k:=tI) (v:=.bool) (i:Int) [] f g=g:=fun f g=>rfl;rw[e1,if_neg (by simp[c])]
   have X:n.toNat<y.length:=by omega
   have D:l.2.1.toNat<y.length:=by omega
   have W:l.2.1.toNat<u.length:=by omega
   rw[pE R.1 (by omega),rI X,Ù (by omega) (by omega),pE z.2.1 (by omega),rI D,Ġ]
   by_cases j:gv y l.2.1<=gv y n+l.2.2
   ·rw[if_pos (by simpa[ige] using j),if_pos j,Î hi (by omega)];exact F (y,u,p) ⟨H,h2,I,by dsimp only; omega⟩
   ·rw[if_neg (by simpa[ige] using j),if_neg j]
    have o:gv (y.set l.2.1.toNat (gv y n+l.2.2)) n=gv x n:=by
     rw[AF z.2.1 R.1 D,if_neg (fun h=>Q (c.trans h)),I]
    have C:gv (y.set l.2.1.toNat (gv y n+l.2.2)) l.2.1=gv y n+l.2.2:=by
     rw[AF z.2.1 z.2.1 D,if_pos rfl]
    rw[pE R.1 (by omega),rI X,Ù (by omega) (by omega),pE z.2.1 (by omega),rI D];rw[show(ï (List.set y l.2.1.toNat (gv y n+l.2.2)))=((y.length:Nat):Int) by simp[ï]];rw[pE z.2.1 (by omega),rI (by simpa using D),C,Ġ]
    by_cases e:gv y n+l.2.2<least
    ·rw[if_pos (by simpa[ilt] using e),if_pos e]
    ·rw[if_neg (by simpa[ilt] using e),if_neg e,pE z.2.1 (by omega),O8 W,Ġ]
     cases hwv:wv u l.2.1 with
     |true =>
      rw[if_neg (by simp),if_pos rfl,Î hi (by omega)];exact F (y.set l.2.1.toNat (gv y n+l.2.2),u,p) ⟨by simpa using H,h2,o,by dsimp only; omega⟩
     |false =>
      rw[if_pos (by simp),if_neg (by simp),Ð (by simp only[eo]; omega),Am.iff_true,pE z.2.1 (by omega),O8 W,Î hi (by omega)];exact F (y.set l.2.1.toNat (gv y n+l.2.2),u.set l.2.1.toNat true,p++[l.2.1]) ⟨by simpa using H,by simpa using h2,o,by simp only[cN,eo]; omega⟩
  ·have T:ine l.1 n=true:=by simp[ine,c]
   rw[æ T,if_pos c,Î hi (by omega)];exact F (y,u,p) ⟨H,h2,I,by dsimp only; omega⟩
structure ae3 (N:Nat) (n least:Int) (L:w9 Lk) (x:w9 Int) (q:w9 Int) (x':w9 Int) (w':w9 Bool) (q':w9 Int):Prop where
 lx:x'.length=N
 lw:w'.length=N
 same:gv x' n=gv x n
 le:∀v:Int,0<=v->v<N->gv x' v<=gv x v
 link:∀v m,(n,v,m)∈L->gv x' v<=gv x n+m
 chg:∀v:Int,0<=v->v<N->gv x' v=gv x v\/(v∈q'/\gv x' v<gv x v/\∃m,(n,v,m)∈L/\gv x' v=gv x n+m/\least<=gv x' v)
 new:∃l,q'=q++l/\∀v∈l,(0<=v/\v<N)/\gv x' v<gv x v
 nodup:q'.Nodup
 waits:∀v:Int,0<=v->v<N->(wv w' v=true↔v∈q')
def kr {N:Nat} {n least:Int} (P:0<=n/\n<N):∀{L:w9 Lk},InR L N->(∀l∈L,l.1≠l.2.1)->∀{x:w9 Int} {w:w9 Bool} {q:w9 Int},x.length=N->w.length=N->q.Nodup->(∀v:Int,0<=v->v<N->(wv w v=true↔v∈q)) ->
 ∀{C:w9 Int} {w':w9 Bool} {G:w9 Int},pw n least L x w q=(true,C,w',G)->ae3 N n least L x q C w' G
 |[],_,_,x,w,q,K,H,I,c,C,w',G,h=>by
  cases h;exact⟨K,H,rfl,fun _ _ _=>eN _,fun _ _ h=>(by cases h),fun _ _ _=>.inl rfl,⟨[],by simp,fun _ h=>by cases h⟩,I,c⟩
 |l::t,hL,O,x,w,q,K,H,I,c,C,w',G,h=>by
  have s:InR t N:=fun l hl=>hL l (by simp[hl]);have r:∀l∈t,l.1≠l.2.1:=fun l hl=>O l (by simp[hl]);have d:=hL l (by simp);have hl0:=O l (by simp);unfold pw at h
  split at h
  ·rename_i F;have a:=kr P s r K H I c h
   exact⟨a.lx,a.lw,a.same,a.le,fun v m i=>by
    rcases cP.1 i with rfl|i
    ·exact(F rfl).elim
    ·exact a.link v m i,fun v h0 u=>(a.chg v h0 u).imp id fun⟨z,j,m,T,J⟩=>⟨z,j,m,by simp[T],J⟩,a.new,a.nodup,a.waits⟩
  ·rename_i F
   have R:l.1=n:=by simpa using F
   split at h
   ·rename_i hle;have a:=kr P s r K H I c h
    exact⟨a.lx,a.lw,a.same,a.le,fun v m i=>by
     rcases cP.1 i with rfl|i
     ·have:=a.le v d.2.1 d.2.2; simp only at hle; omega
     ·exact a.link v m i,fun v h0 u=>(a.chg v h0 u).imp id fun⟨z,j,m,T,J⟩=>⟨z,j,m,by simp[T],J⟩,a.new,a.nodup,a.waits⟩
   ·rename_i hgt
    split at h
    ·cases h
    ·rename_i hls
     have tt:l.2.1.toNat<x.length:=by omega
     have tw:l.2.1.toNat<w.length:=by omega
     have hy:(x.set l.2.1.toNat (gv x n+l.2.2)).length=N:=by simpa using K
     have D:gv (x.set l.2.1.toNat (gv x n+l.2.2)) n=gv x n:=by
      rw[AF d.2.1 P.1 tt,if_neg (fun h=>hl0 (R.trans h))]
     have f:∀v,0<=v->gv (x.set l.2.1.toNat (gv x n+l.2.2)) v=if v=l.2.1 then gv x n+l.2.2 else gv x v:=fun v h0=>AF d.2.1 h0 tt _
     have hlm:(n,l.2.1,l.2.2)∈l::t:=by rw[<-R]; simp
     -- what both ways have in common
     have fin:∀{w1:w9 Bool} {U:w9 Int},ae3 N n least t (x.set l.2.1.toNat (gv x n+l.2.2)) U C w' G->l.2.1∈U->(∃V,U=q++V/\∀v∈V,v=l.2.1)->ae3 N n least (l::t) x q C w' G:=by
      intro w1 U a Q X;obtain⟨new,y,Y⟩:=a.new;obtain⟨V,hl',hlv⟩:=X
      have W:gv C l.2.1<=gv x n+l.2.2:=by
       have:=a.le l.2.1 d.2.1 d.2.2;rw[f _ d.2.1,if_pos rfl] at this;exact this
      refine⟨a.lx,a.lw,a.same.trans D,fun v h0 u=>?_,fun v m i=>?_,fun v h0 u=>?_,⟨V++new,by rw[y,hl',cS],fun v o=>?_⟩,a.nodup,a.waits⟩
      ·have:=a.le v h0 u;rw[f v h0] at this
       split at this
       ·rename_i e; subst e; omega
       ·exact this
      ·rcases cP.1 i with rfl|i
       ·exact W
       ·have:=a.link v m i
        rwa [D] at this
      ·rcases a.chg v h0 u with g|⟨z,j,m,T,J,g5⟩
       ·rw[f v h0] at g
        split at g
        ·rename_i e;subst e;exact .inr ⟨by rw[y]; exact dH _ Q,by omega,l.2.2,hlm,g,by omega⟩
        ·exact .inl g
       ·rw[f v h0] at j;rw[D] at J;refine .inr ⟨z,?_,m,by simp[T],J,g5⟩
        split at j
        ·rename_i e; subst e; omega
        ·exact j
      ·rcases cO.1 o with o|o
       ·rw[hlv v o]; exact⟨d.2,by omega⟩
       ·obtain⟨z,j⟩:=Y v o;rw[f v z.1] at j;refine⟨z,?_⟩
        split at j
        ·rename_i e; subst e; omega
        ·exact j
     split at h
     ·rename_i E;exact fin (w1:=w) (kr P s r hy H I c h) ((c _ d.2.1 d.2.2).1 E) ⟨[],by simp,fun _ h=>by cases h⟩
     ·rename_i E;have Z:l.2.1∉q:=fun hc=>E ((c _ d.2.1 d.2.2).2 hc);refine fin (w1:=w.set l.2.1.toNat true) (kr P s r hy (by simpa using H) ?_ ?_ h) (by simp) ⟨[l.2.1],rfl,fun v o=>by simpa using o⟩
      ·rw[gB];exact⟨I,by simp,fun a ha b hb=>by simp at hb; subst hb; exact fun e=>Z (e▸ha)⟩
      ·intro v h0 u;rw[Vu d.2.1 h0 tw]
       by_cases o:v=l.2.1
       ·simp[o]
       ·simp only[o,if_false,cO,cT,or_false];exact c v h0 u
def m9 {n least:Int}:∀{L:w9 Lk},(∀l∈L,l.1≠l.2.1)->(∀l∈L,0<=l.2.1)->0<=n->∀{x:w9 Int} {w:w9 Bool} {q:w9 Int} {r},pw n least L x w q=(false,r)->∃v m,(n,v,m)∈L/\gv x n+m<least
 |[],_,_,_,x,w,q,r,h=>by cases h
 |l::t,e,h0,g,x,w,q,r,h=>by
  have a:∀l∈t,l.1≠l.2.1:=fun l s=>e l (by simp[s]);have c:∀l∈t,0<=l.2.1:=fun l s=>h0 l (by simp[s]);have f:(∃v m,(n,v,m)∈t/\gv x n+m<least)->∃v m,(n,v,m)∈l::t/\gv x n+m<least:=fun⟨v,m,y,u⟩=>⟨v,m,by simp[y],u⟩;unfold pw at h
  split at h
  ·exact f (m9 a c g h)
  ·rename_i i
   have o:l.1=n:=by simpa using i
   split at h
   ·exact f (m9 a c g h)
   ·split at h
    ·rename_i j;exact⟨l.2.1,l.2.2,by rw[<-o]; simp,j⟩
    ·have d:gv (x.set l.2.1.toNat (gv x n+l.2.2)) n=gv x n:=by
      unfold gv;rw[List.getElem?_set];have z:=e l (by simp);have h2:=h0 l (by simp)
      have:¬l.2.1.toNat=n.toNat:=by omega
      simp[this]
     split at h
     ·have:=m9 a c g h;rw[d] at this;exact f this
     ·have:=m9 a c g h;rw[d] at this;exact f this
def We {ρ:Type} {L:w9 Lk} {N:Nat} {M:Int} (i:iZ L N M) {n least:Int} (c:0<=n/\n<N) {x:w9 Int} {w:w9 Bool} {t rest:w9 Int} (l:x.length=N) (o:w.length=N) (E:t.length=N) (u:rest.length<=1000000)
 (hb : -2305843009213693952<=gv x n/\gv x n<=2305843009213693952) (s:0<=gv t n/\gv t n<=1000000) (h:w9 Int->w9 Bool->w9 Int->w9 Int->w8 ρ) (k0:(Val (.pair .bool (.pair (.slice tI) (.pair (.slice .bool) (.pair (.slice tI) (.slice tI))))))->w8 ρ) :
 ķ [] least (N:Int) L x w t (n::rest) h k0 =
  if (N:Int)+1<gv t n+1 then k0 (false,x,w.set n.toNat false,t.set n.toNat (gv t n+1),rest) else
  match pw n least L x (w.set n.toNat false) rest with
  |(true,d,w',g)=>h d w' (t.set n.toNat (gv t n+1)) g
  |(false,d,w',g)=>k0 (false,d,w',t.set n.toNat (gv t n+1),g):=by
 have F:=i.nodes
 have D:n.toNat<x.length:=by omega
 have j:n.toNat<w.length:=by omega
 have e:n.toNat<t.length:=by omega
 unfold ķ
 have C:ieq (Ô (n::rest)) 0=false:=by
  rw[â];simp only[ieq,cV,beq_eq_false_iff_ne,ne_eq];omega
 have z:ilt (0:Int) (ï (n::rest))=true:=by simp[ilt,ï]
 have y:ile (1:Int) (ï (n::rest))=true:=by simp[ile,ï]; omega
 have v:decide (1+(List.length (n::rest)-1)=List.length (n::rest))=true:=by simp; omega
 rw[Õ C,Į z];rw[show ĵ (n::rest) 0=fun(f:Int->w8 ρ)=>f n from rfl]
 try dsimp only
 rw[Į y,Į v,pE c.1 (by omega),O8 j,pE c.1 (by omega),rI e,Ù (by omega) (by omega),pE c.1 (by omega),rI e];rw[show(ï (List.set t n.toNat (gv t n+1)))=((t.length:Nat):Int) by simp[ï]];rw[pE c.1 (by omega),rI (by simpa using e),AF c.1 c.1 e,if_pos rfl,Ù (by omega) (by omega),Ġ];rw[show List.drop 1 (n::rest)=rest from rfl]
 by_cases a:(N:Int)+1<gv t n+1
 ·rw[if_pos (by simpa[igt] using a),if_pos a]
 ·rw[if_neg (by simpa[igt] using a),if_neg a];rw[aeg i c l (w:=w.set n.toNat false) (by simpa using o) u hb];generalize pw n least L x (w.set n.toNat false) rest=r;obtain⟨b,d,w',g⟩:=r
  cases b<;>rfl
def aaf {ρ:Type} {L:w9 Lk} {N:Int} {least:Int} {x:w9 Int} {w:w9 Bool} {t:w9 Int} (a:w9 Int->w9 Bool->w9 Int->w9 Int->w8 ρ) (k0:(Val (.pair .bool (.pair (.slice tI) (.pair (.slice .bool) (.pair (.slice tI) (.slice tI))))))->w8 ρ) :
 ķ [] least N L x w t [] a k0=k0 (true,x,w,t,[]):=by
 unfold ķ
 have c:ieq (Ô ([]:w9 Int)) 0=true:=by rw[â]; rfl
 rw[æ c]
def PG (N:Nat) (t:w9 Int):Nat:=(t.map fun a=>((N:Int)+2-a).toNat).sum
def WK (N:Nat):∀(t:w9 Int) (i:Nat) (a b:Int),t[i]?=some a->a<b->a<(N:Int)+2->PG N (t.set i b)<PG N t
 |a0::t,0,a,b,h,c,h2=>by
  simp at h; subst h;simp only[PG,List.set_cons_zero,dY,List.sum_cons];omega
 |a0::t,i+1,a,b,h,c,h2=>by
  have:=WK N t i a b (by simpa using h) c h2;simp only[PG] at this;simp only[PG,List.set_cons_succ,dY,List.sum_cons];omega
def SH {N:Nat} {t:w9 Int} {n:Int} (a:n.toNat<t.length) (h:gv t n<=(N:Int)+1):PG N (t.set n.toNat (gv t n+1))<PG N t :=
 WK N t n.toNat (gv t n) _ (abA a) (by omega) (by omega)
structure Zi (L:w9 Lk) (S:Int->Prop) (N:Nat) (M:Int) (k:Nat) (A B:w9 Int) (x:w9 Int) (w:w9 Bool) (t q:w9 Int):Prop where
 q_eq:q=A++B
 lx:x.length=N
 lw:w.length=N
 lt:t.length=N
 nodup:q.Nodup
 rng:∀v∈q,0<=v/\v<N
 waits:∀v:Int,0<=v->v<N->(wv w v=true↔v∈q)
 t0:∀v:Int,0<=v->v<N->0<=gv t v/\gv t v<=(k:Int)+1
 tA:∀v∈A,gv t v<=k
 low:∀vs v d,Wl L S vs v d->vs.length<=k->gv x v<=d
 nxt:∀vs u d,Wl L S vs u d->vs.length<=k->u∉A->∀v m,(u,v,m)∈L->gv x v<=d+m
 rel:∀u:Int,0<=u->u<N->u∉q->gv x u≠rX->∀v m,(u,v,m)∈L->gv x v<=gv x u+m
 att:∀v:Int,0<=v->v<N->gv x v≠rX->∃vs,Wl L S vs v (gv x v)
 bd:∀v:Int,0<=v->v<N->gv x v=rX\/gv x v<=((k:Int)+1)*M
 bA:∀v∈A,gv x v<=(k:Int)*M
 fin:∀v∈q,gv x v<rX
 kN:k+1<=N
 last:k+1=N->B=[]
section
variable {L:w9 Lk} {S:Int->Prop} {N:Nat} {M:Int} {p:Int->Int} {k:Nat} {A B x:w9 Int} {w:w9 Bool} {t q:w9 Int}
def HL {a b:Nat} {M:Int} (h:a<=b) (c:0<=M):(a:Int)*M<=(b:Int)*M:=ft (by omega) c
def Wl.lt_free (a:iZ L N M) (f:N*M<rX) {vs:w9 Int} {v d:Int} (c:Wl L S vs v d) (h:vs.length<=N):d<rX:=by
 have g:=c.high fun l e=>(a.most l e).2;have h2:=HL h a.m0;omega
def Zi.next (r:iZ L N M) (o:N*M<rX) (C:∀v,S v->0<=v/\v<N) (h:Zi L S N M k [] B x w t q) (E:B≠[]):Zi L S N M (k+1) B [] x w t q:=by
 have D:=r.m0
 have i:q=B:=by simpa using h.q_eq
 have F:k+1≠N:=fun e=>E (h.last e);have z:=h.kN
 have a:∀vs v d,Wl L S vs v d->vs.length<=k+1->gv x v<=d:=by
  intro vs v d f n
  cases f with
  |nil y=>exact h.low [] v 0 (.nil y) (by simp)
  | @step vs u _ m d f g=>exact h.nxt vs u d f (by simpa using n) (by simp) v m g
 refine⟨by simp[i],h.lx,h.lw,h.lt,h.nodup,h.rng,h.waits,fun v h0 c=>⟨(h.t0 v h0 c).1,by have:=(h.t0 v h0 c).2; push_cast; omega⟩,fun v l=>?_,a,fun vs u d f n s v m g=>?_,h.rel,h.att,fun v h0 c=>?_,fun v l=>?_,h.fin,by omega,fun _=>rfl⟩
 ·have:=h.rng v (by rw[i]; exact l);have:=(h.t0 v this.1 this.2).2;push_cast; omega
 ·have c:=a vs u d f n;have h2:=f.lt_free r o (by omega);have j:=(f.range r.inr C).1;have:=h.rel u j.1 j.2 (by rw[i]; exact s) (by omega) v m g;omega
 ·rcases h.bd v h0 c with h2|h2
  ·exact .inl h2
  ·refine .inr ?_;have:=HL (show k+1<=k+1+1 by omega) D;push_cast at this ⊢;omega
 ·have c:=h.rng v (by rw[i]; exact l);have h2:=h.fin v (by rw[i]; exact l);rcases h.bd v c.1 c.2 with j|j
  ·omega
  ·push_cast; exact j
def Zi.step {n:Int} {K:w9 Int} {least:Int} {H:w9 Int} {w':w9 Bool} {Z:w9 Int} (F:iZ L N M) (hNM:N*M<rX) (hp:Pot L p) (hS:∀v,S v->0<=v/\v<N) (h:Zi L S N M k (n::K) B x w t q)
 (ha:ae3 N n least L x (K++B) H w' Z):∃B',Zi L S N M k K B' H w' (t.set n.toNat (gv t n+1)) Z:=by
 have hM:=F.m0
 have y:q=n::(K++B):=by simpa using h.q_eq
 have J:=h.kN;have r:=h.rng n (by rw[y]; simp);have hnf:=h.fin n (by rw[y]; simp)
 have U:n∉K++B:=by have:=h.nodup; rw[y,fA] at this; exact this.1
 have T:n.toNat<t.length:=by have:=h.lt; omega
 have z:∀v,0<=v->gv (t.set n.toNat (gv t n+1)) v=if v=n then gv t n+1 else gv t v:=fun v h0=>AF r.1 h0 T _
 have hkM:((k:Int)+1)*M<rX:=by
  have:=HL J hM;push_cast at this;omega
 have G:∀v:Int,0<=v->v<N->gv x v<=rX:=fun v h0 a=>by rcases h.bd v h0 a with h2|h2<;>omega
 obtain⟨l,P,D⟩:=ha.new
 have C:∀v:Int,0<=v->v<N->gv H v≠rX->∃vs,Wl L S vs v (gv H v):=by
  intro v h0 a I;rcases ha.chg v h0 a with g|⟨_,_,m,Y,X,_⟩
  ·rw[g] at I ⊢; exact h.att v h0 a I
  ·obtain⟨vs,s⟩:=h.att n r.1 r.2 (by omega);rw[X]; exact⟨_,s.step Y⟩
 refine⟨B++l,by rw[P,cS],ha.lx,ha.lw,by rw[fh]; exact h.lt,ha.nodup,fun v c=>?_,ha.waits,fun v h0 a=>?_,fun v c=>?_,fun vs v d s i=>?_,fun vs u d s i O v m f=>?_,
  fun u h0 a O hf v m f=>?_,C,fun v h0 a=>?_,fun v c=>?_,fun v c=>?_,J,fun hk=>?_⟩
 ·rw[P] at c;rcases cO.1 c with c|c
  ·exact h.rng v (by rw[y]; simp only[cP]; exact .inr c)
  ·exact(D v c).1
 ·rw[z v h0];have h2:=h.t0 v h0 a
  split
  ·have h3:=h.tA n (by simp);have h4:=h.t0 n r.1 r.2;omega
  ·exact h2
 ·have a:=h.rng v (by rw[y]; simp[c]);rw[z v a.1,if_neg (fun e=>U (by rw[<-e]; simp[c]))];exact h.tA v (by simp[c])
 ·have a:=h.low vs v d s i;have h2:=(s.range F.inr hS).1;have:=ha.le v h2.1 h2.2;omega
 ·have j:=(F.inr _ f).2
  by_cases o:u=n
  ·subst o;have a:=ha.link v m f;have h2:=h.low vs u d s i;omega
  ·have a:=h.nxt vs u d s i (by simp[o,O]) v m f;have:=ha.le v j.1 j.2;omega
 ·have j:=(F.inr _ f).2
  have V:gv H u=gv x u:=by
   rcases ha.chg u h0 a with g|⟨g,_⟩
   ·exact g
   ·exact(O g).elim
  by_cases o:u=n
  ·subst o;have a:=ha.link v m f;omega
  ·have R:u∉q:=by
    rw[y];intro W;rcases cP.1 W with e|W
    ·exact o e
    ·exact O (by rw[P]; exact dH _ W)
   have h2:=h.rel u h0 a R (by rw[<-V]; exact hf) v m f;have:=ha.le v j.1 j.2;omega
 ·rcases ha.chg v h0 a with g|⟨_,_,m,Y,X,_⟩
  ·rw[g]; exact h.bd v h0 a
  ·have h2:=h.bA n (by simp);have h3:=(F.most _ Y).2;simp only at h3;refine .inr ?_;rw[X,Int.add_mul,Int.one_mul];omega
 ·have a:=h.rng v (by rw[y]; simp[c]);have h2:=h.bA v (by simp[c]);have:=ha.le v a.1 a.2;omega
 ·rw[P] at c;rcases cO.1 c with c|c
  ·have a:=h.rng v (by rw[y]; simp only[cP]; exact .inr c);have h2:=h.fin v (by rw[y]; simp only[cP]; exact .inr c);have:=ha.le v a.1 a.2;omega
  ·obtain⟨E,g2⟩:=D v c;have:=G v E.1 E.2;omega
 ·rw[h.last hk]
  cases l with
  |nil=>rfl
  |cons v l =>
   exfalso;obtain⟨E,g2⟩:=D v (by simp);have:=G v E.1 E.2;obtain⟨vs,s⟩:=C v E.1 E.2 (by omega);obtain⟨Q,d',k1,k2,k3⟩:=s.simple hp;have k4:=k1.short F.inr hS k3;have:=h.low Q v d' k1 (by omega);omega
def Zi.done (e:iZ L N M) (j:N*M<rX) (z:Pot L p) (n:∀v,S v->0<=v/\v<N) (h:Zi L S N M k A B x w t []):ac3 L S N (gv x):=by
 have i:=h.kN;have D:=e.m0
 have C:((k:Int)+1)*M<rX:=by
  have:=HL i D;push_cast at this;omega
 have key:∀vs v d,Wl L S vs v d->vs.length+1<=N->gv x v<=d:=by
  intro vs v d a
  induction a with
  |nil y=>intro _; exact h.low [] _ 0 (.nil y) (by simp)
  | @step vs u v m d a g ih =>
   intro c;simp only[cV] at c;have r:=ih (by omega);have h2:=a.lt_free e j (by omega);have o:=(a.range e.inr n).1;have:=h.rel u o.1 o.2 (by simp) (by omega) v m g;omega
 refine⟨h.att,fun v vs d a=>?_,fun v h0 r=>?_⟩
 ·obtain⟨f,E,l,F,s⟩:=a.simple z;have:=key f v E l (l.short e.inr n s);omega
 ·rcases h.bd v h0 r with h2|h2<;>omega
def ZQ {ρ:Type} {r:w8 ρ} (d:iZ L N M) (i:N*M<rX) (z:Pot L p) (O:∀v,S v->0<=v/\v<N) (k0:(Val (.pair .bool (.pair (.slice tI) (.pair (.slice .bool) (.pair (.slice tI) (.slice tI))))))->w8 ρ)
 (hK:∀x w t q,x.length=N->ac3 L S N (gv x)->k0 (true,x,w,t,q)=r) (h:Zi L S N M k A B x w t q) :
 É (fun(e:(Val (.pair (.slice tI) (.pair (.slice .bool) (.pair (.slice tI) (.slice tI)))))) o=>ķ [] (HK L) (N:Int) L e.1 e.2.1 e.2.2.1 e.2.2.2 (fun F E D C=>o (F,E,D,C)) k0) (x,w,t,q)=r:=by
 refine ġ (fun s:w9 Int×w9 Bool×w9 Int×w9 Int=>∃k A B,Zi L S N M k A B s.1 s.2.1 s.2.2.1 s.2.2.2) (fun s=>PG N s.2.2.1) ?_ ⟨k,A,B,h⟩;rintro⟨x,w,t,q⟩ ⟨k,A,B,h⟩;dsimp only at h ⊢;have hN:=d.nodes
 cases q with
 |nil=>exact .inl fun Z=>by rw[aaf]; exact hK x w t [] h.lx (h.done d i z O)
 |cons n rest =>
  -- the phase in which the first one is
  have K:∃k j B,Zi L S N M k (n::j) B x w t (n::rest):=by
   cases A with
   |nil =>
    have hB:B=n::rest:=by simpa using h.q_eq.symm
    subst hB;exact⟨k+1,rest,[],h.next d i O (by simp)⟩
   |cons a j =>
    have:=h.q_eq;simp only[dV,List.cons.injEq] at this;obtain⟨rfl,_⟩:=this;exact⟨k,j,B,h⟩
  clear h k A B;obtain⟨k,j,B,h⟩:=K
  have f:rest=j++B:=by have:=h.q_eq; simpa using this
  have c:=h.rng n (by simp);have hnf:=h.fin n (by simp);have hkN:=h.kN;have V:=h.tA n (by simp);have h2:=h.t0 n c.1 c.2;obtain⟨vs,Q⟩:=h.att n c.1 c.2 (by omega);have T:=Q.low' z
  have R : -(400*4503599627370496)<=HK L:=by
   have:∀y:w9 Lk,(∀l∈y,-M<=l.2.2)->-((y.length:Int)*M)<=HK y:=by
    intro y
    induction y with
    |nil=>intro _; simp[HK,GO]
    |cons l t ih =>
     intro U;have i1:=ih fun l u=>U l (by simp[u]);have i2:=U l (by simp);have i3:=d.m0;unfold HK at i1 ⊢;simp only[GO,if_true,List.length_cons,Int.natCast_succ,Int.add_mul,Int.one_mul];omega
   have h3:=this L fun l u=>(d.most l u).1;have h4:(L.length:Int)*M<=400*4503599627370496:=fP (by have:=d.len; omega) d.m1 d.m0 (by omega);omega
  have I:rest.length<=1000000:=by
   have:=VU N (n::rest) h.nodup h.rng;simp only[cV] at this;omega
  refine .inr ?_
  have G:(w.set n.toNat false).length=N:=by rw[fh]; exact h.lw
  cases J:pw n (HK L) L x (w.set n.toNat false) rest with
  |mk b X =>
  obtain⟨W,w',Y⟩:=X
  cases b with
  |false =>
   exfalso;obtain⟨v,m,g1,g2⟩:=m9 d.noloop (fun l u=>(d.inr l u).2.1) c.1 J;have:=(Q.step g1).low' z;omega
  |true =>
   have g:=h.nodup;rw[fA] at g
   have ha:=kr c d.inr d.noloop h.lx G g.2 (fun v h0 V=>by
    rw[Vu c.1 h0 (by have:=h.lw; omega)]
    by_cases H:v=n
    ·subst H; simp[g.1]
    ·rw[if_neg H,h.waits v h0 V]
     simp[H]) J
   rw[f] at ha;obtain⟨B',P⟩:=h.step d i z O ha;refine⟨(W,w',t.set n.toNat (gv t n+1),Y),⟨k,j,B',P⟩,SH (by have:=h.lt; omega) (by omega),fun Z=>?_⟩;have hF:rX=1152921504606846976:=rfl
   rw[We d c h.lx h.lw h.lt I (by constructor<;>omega) (by constructor<;>omega),if_neg (by omega),J]
end
def II (f:Lk->Bool):∀(L a:w9 Lk),GO f (L++a)=GO f L+GO f a
 |[],a=>by simp[GO]
 |l::t,a=>by
  simp only[dV,GO,II f t a];omega
def Ry {L:w9 Lk} {i:Nat} {l:Lk} (h:L[i]?=some l):HK (L.take (i+1))=HK (L.take i)+min l.2.2 0:=by
 rw[take_succ h,HK,HK,II];simp[GO]
def imin0 (e:Int):WN e 0=min e 0:=by
 unfold WN
 split<;>omega
def Uq {L:w9 Lk} {M:Int} (h:∀l∈L,-M<=l.2.2) (f:0<=M) : -((L.length:Int)*M)<=HK L:=by
 induction L with
 |nil=>simp[HK,GO]
 |cons l t a =>
  have c:=a fun l d=>h l (by simp[d]);have e:=h l (by simp);unfold HK at c ⊢;simp only[GO,if_true,List.length_cons,Int.natCast_succ,Int.add_mul,Int.one_mul];omega
def agp (L:w9 Lk):HK L<=0:=tU _ L
section
variable {ρ:Type} {L:w9 Lk} {N:Nat} {M:Int}
def ad8 (e:iZ L N M) (k0:Int->w8 ρ):É (fun(a:bl) c=>iQ L (Ô L) a.1 a.2 (fun g f=>c (g,f)) k0) ((0:Int),(0:Int))=k0 (HK L):=by
 refine ġ (fun x:Int×Int=>∃i:Nat,i<=L.length/\x=(HK (L.take i),(i:Int))) (fun x=>L.length-x.2.toNat) ?_ ⟨0,by omega,rfl⟩;rintro x ⟨i,hi,rfl⟩;have n:=e.len;rcases dA i L.length with h|h
 ·have d:L[i]?=some L[i]:=cI h;refine .inr ⟨(HK (L.take (i+1)),(i:Int)+1),⟨i+1,h,by simp⟩,by simp; omega,fun o=>?_⟩
  try dsimp only
  unfold iQ
  have hb:∀j,j<=L.length->-(400*4503599627370496)<=HK (L.take j):=by
   intro j s;have r:=Uq (L:=L.take j) (fun l d=>(e.most l (fg d)).1) e.m0;have h2:((L.take j).length:Int)*M<=400*4503599627370496:=fP (by rw[dh]; omega) e.m1 e.m0 (by omega);omega
  have r:=hb i hi;have h2:=hb (i+1) h;have u:=agp (L.take i);rw[Ry d] at h2;rw[Ñ h,È d,imin0,Ù (by omega) (by omega),Î h (by omega),Ry d]
 ·refine .inl fun o=>?_
  have:i=L.length:=by omega
  subst this
  try dsimp only
  unfold iQ;rw[é,List.take_length]
def afR {x:w9 Int} (P:x.length=N) (Q:N<=1000) {r:w8 ρ} (k0:(Val (.pair (.slice .bool) (.slice tI)))->w8 ρ)
 (K:∀(w:w9 Bool) (q:w9 Int),w.length=N->q.Nodup->(∀v∈q,0<=v/\v<N)->(∀v:Int,0<=v->v<N->(wv w v=true↔v∈q))->(∀v:Int,0<=v->v<N->(v∈q↔gv x v≠rX))->k0 (w,q)=r) :
 É (fun(g:(Val (.pair tI (.pair (.slice .bool) (.slice tI))))) n=>Ť (N:Int) x g.1 g.2.1 g.2.2 (fun G F E=>n (G,F,E)) k0) ((0:Int),(List.replicate N false),([]:w9 Int))=r:=by
 refine ġ (fun s:Int×w9 Bool×w9 Int=>∃i:Nat,i<=N/\s.1=i/\s.2.1.length=N/\s.2.2.Nodup/\s.2.2.length<=i/\(∀v∈s.2.2,0<=v/\v<i)/\(∀v:Int,0<=v->v<N->(wv s.2.1 v=true↔v∈s.2.2))/\(∀v:Int,0<=v->v<i->(v∈s.2.2↔gv x v≠rX))) (fun s=>N-s.1.toNat) ?_
  ⟨0,by omega,rfl,by simp,by simp,by simp,by simp,fun v h0 d=>?_,fun v h0 d=>by omega⟩
 ·rintro⟨s,w,q⟩ ⟨i,hi,d,h2,D,O,l,C,z⟩;simp only at d h2 D O l C z;subst d;rcases dA i N with h|h
  ·refine .inr ?_
   have f:i<x.length:=by omega
   have j:i<w.length:=by omega
   have o:((i:Int))∉q:=fun J=>by have:=(l _ J).2; omega
   by_cases y:gv x i=rX
   ·refine⟨((i:Int)+1,w,q),⟨i+1,h,by simp,h2,D,by simp only; omega,fun v c=>⟨(l v c).1,by have:=(l v c).2; push_cast; omega⟩,C,fun v h0 d=>?_⟩,by simp; omega,fun I=>?_⟩
    ·by_cases c:v=i
     ·subst c; simp[y,o]
     ·exact z v h0 (by push_cast at d; omega)
    ·try dsimp only
     unfold Ť
     have e:ilt (i:Int) (N:Int)=true:=by simp[ilt,h]
     rw[æ e,mc f,rI (by simpa using f)]
     have H:ine (gv x i) 1152921504606846976=false:=by simp[ine,y]
     rw[Õ H,Î h (by omega)]
   ·refine⟨((i:Int)+1,w.set i true,q++[(i:Int)]),⟨i+1,h,by simp,by simpa using h2,?_,by simp; omega,fun v c=>?_,fun v h0 d=>?_,fun v h0 d=>?_⟩,by simp; omega,fun I=>?_⟩
    ·rw[gB];exact⟨D,by simp,fun a ha b hb=>by simp at hb; subst hb; exact fun e=>o (e▸ha)⟩
    ·rcases cO.1 c with c|c
     ·exact⟨(l v c).1,by have:=(l v c).2; push_cast; omega⟩
     ·simp at c; subst c; push_cast; omega
    ·have:=Vu (w:=w) (u:=(i:Int)) (by omega) h0 (by simpa using j) true;rw[dc] at this;show wv (w.set i true) v=true↔v∈q++[(i:Int)];rw[this]
     by_cases c:v=i
     ·simp[c]
     ·simp only[c,if_false,cO,cT,or_false];exact C v h0 d
    ·show v∈q++[(i:Int)]↔_
     by_cases c:v=i
     ·subst c; simp[y]
     ·simp only[cO,cT,c,or_false];exact z v h0 (by push_cast at d; omega)
    ·try dsimp only
     unfold Ť
     have e:ilt (i:Int) (N:Int)=true:=by simp[ilt,h]
     rw[æ e,mc f,rI (by simpa using f)]
     have H:ine (gv x i) 1152921504606846976=true:=by simp[ine,y]
     rw[æ H,Ð (by simp only[eo]; omega),Am.iff_true,mc j,O8 (by simpa using j),Î h (by omega),dc]
  ·refine .inl fun I=>?_
   have:i=N:=by omega
   subst this
   try dsimp only
   unfold Ť
   have e:ilt (i:Int) (i:Int)=false:=by simp[ilt]
   rw[Õ e];exact K w q h2 D l C z
 ·have:wv (List.replicate N false) v=false:=by
   unfold wv;rw[List.getElem?_replicate]
   split<;>rfl
  simp[this]
def XM (D:iZ L N M) (E:1<=N) {S:Int->Bool} (y:∀v,S v=true->0<=v/\v<N) {w:w9 Bool} {q:w9 Int} (g:w.length=N) (z:q.Nodup) (h:∀v∈q,0<=v/\v<N) (j:∀v:Int,0<=v->v<N->(wv w v=true↔v∈q)) (n:∀v:Int,0<=v->v<N->(v∈q↔gv (start S N) v≠rX)) :
 Zi L (fun v=>S v=true) N M 0 q [] (start S N) w (List.replicate N 0) q:=by
 have s:∀v:Int,0<=v->v<N->gv (List.replicate N (0:Int)) v=0:=by
  intro v h0 a;unfold gv;rw[List.getElem?_replicate]
  split<;>rfl
 have i:∀v:Int,0<=v->v<N->(v∈q↔S v=true):=by
  intro v h0 a;rw[n v h0 a,i8 S h0 a]
  cases S v<;>simp[rX]
 have C:=D.m0;refine⟨by simp,ĥ S N,g,by simp,z,h,j,fun v h0 a=>?_,fun v e=>?_,fun vs v d g r=>?_,fun vs u d g r l v m o=>?_,fun u h0 a l f v m o=>?_,fun v h0 a f=>?_,fun v h0 a=>?_,fun v e=>?_,fun v e=>?_,by omega,fun _=>rfl⟩
 ·rw[s v h0 a]; omega
 ·have:=h v e;rw[s v this.1 this.2]; omega
 ·cases g with
  |nil c =>
   have:=y v c;rw[i8 S this.1 this.2,if_pos c]; omega
  |step=>simp at r
 ·cases g with
  |nil c =>
   have:=y u c;exact(l ((i u this.1 this.2).2 c)).elim
  |step=>simp at r
 ·rw[i8 S h0 a] at f;have:=mt (i u h0 a).2 l;rw[if_neg this] at f;exact(f rfl).elim
 ·rw[i8 S h0 a] at f ⊢
  split at f
  ·rename_i c;rw[if_pos c]; exact⟨[],.nil c⟩
  ·exact(f rfl).elim
 ·rw[i8 S h0 a]
  split
  ·exact .inr (by simp[C])
  ·exact .inl rfl
 ·have a:=h v e;rw[i8 S a.1 a.2,if_pos ((i v a.1 a.2).1 e)]; simp
 ·have a:=h v e;rw[i8 S a.1 a.2,if_pos ((i v a.1 a.2).1 e)]; simp[rX]
structure Bad (L:w9 Lk) (N:Nat) (x:w9 Int) (w:w9 Bool) (t q:w9 Int):Prop where
 lx:x.length=N
 lw:w.length=N
 lt:t.length=N
 nodup:q.Nodup
 rng:∀v∈q,0<=v/\v<N
 waits:∀v:Int,0<=v->v<N->(wv w v=true↔v∈q)
 t0:∀v:Int,0<=v->v<N->0<=gv t v/\gv t v<=(N:Int)+1
 bd:∀v:Int,0<=v->v<N->-2305843009213693952<=gv x v/\gv x v<=0
 rel:∀u:Int,0<=u->u<N->u∉q->∀v m,(u,v,m)∈L->gv x v<=gv x u+m
def adq {r:w8 ρ} {x:w9 Int} {w:w9 Bool} {t q:w9 Int} (c:iZ L N M) (hp:¬∃p,Pot L p) (k0:(Val (.pair .bool (.pair (.slice tI) (.pair (.slice .bool) (.pair (.slice tI) (.slice tI))))))->w8 ρ)
 (Y:∀x w t q,k0 (false,x,w,t,q)=r) (h:Bad L N x w t q) :
 É (fun(j:(Val (.pair (.slice tI) (.pair (.slice .bool) (.pair (.slice tI) (.slice tI)))))) D=>ķ [] (HK L) (N:Int) L j.1 j.2.1 j.2.2.1 j.2.2.2 (fun O K J I=>D (O,K,J,I)) k0) (x,w,t,q)=r:=by
 refine ġ (fun s:w9 Int×w9 Bool×w9 Int×w9 Int=>Bad L N s.1 s.2.1 s.2.2.1 s.2.2.2) (fun s=>PG N s.2.2.1) ?_ h;rintro⟨x,w,t,q⟩ h;dsimp only at h ⊢;have hN:=c.nodes
 cases q with
 |nil =>
  exfalso;exact hp ⟨gv x,fun u v m o=>h.rel u (c.inr _ o).1.1 (c.inr _ o).1.2 (by simp) v m o⟩
 |cons n rest =>
  have a:=h.rng n (by simp);have hb:=h.bd n a.1 a.2;have ht:=h.t0 n a.1 a.2
  have T:rest.length<=1000000:=by
   have:=VU N (n::rest) h.nodup h.rng;simp only[cV] at this;omega
  have f:=fun(H:w9 Int->w9 Bool->w9 Int->w9 Int->w8 ρ)=>We (ρ:=ρ) c (least:=HK L) a h.lx h.lw h.lt T ⟨hb.1,by omega⟩ ⟨ht.1,by omega⟩ H k0
  by_cases z:(N:Int)+1<gv t n+1
  ·exact .inl fun H=>by rw[f,if_pos z]; exact Y _ _ _ _
  ·have P:(w.set n.toNat false).length=N:=by rw[fh]; exact h.lw
   cases U:pw n (HK L) L x (w.set n.toNat false) rest with
   |mk b Z =>
   obtain⟨X,w',q'⟩:=Z
   cases b with
   |false=>exact .inl fun H=>by rw[f,if_neg z,U]; exact Y _ _ _ _
   |true =>
    have y:=h.nodup;rw[fA] at y
    have G:n.toNat<t.length:=by have:=h.lt; omega
    have ha:=kr a c.inr c.noloop h.lx P y.2 (fun v h0 i=>by
     rw[Vu a.1 h0 (by have:=h.lw; omega)]
     by_cases d:v=n
     ·subst d; simp[y.1]
     ·rw[if_neg d,h.waits v h0 i]
      simp[d]) U
    obtain⟨l,o,V⟩:=ha.new;refine .inr ⟨(X,w',t.set n.toNat (gv t n+1),q'),⟨ha.lx,ha.lw,by rw[fh]; exact h.lt,ha.nodup,fun v d=>?_,ha.waits,fun v h0 i=>?_,fun v h0 i=>?_,fun u h0 i R v m C=>?_⟩,SH G (by omega),fun H=>by rw[f,if_neg z,U]⟩
    ·dsimp only at d;rw[o] at d;rcases List.mem_append.1 d with d|d
     ·exact h.rng v (by simp[d])
     ·exact(V v d).1
    ·try dsimp only
     rw[AF a.1 h0 G];have:=h.t0 v h0 i
     split<;>omega
    ·try dsimp only
     have h2:=h.bd v h0 i;rcases ha.chg v h0 i with g|⟨_,g2,m,g3,g4,g5⟩
     ·rw[g]; exact h2
     ·have h3:=Uq (L:=L) (fun l o=>(c.most l o).1) c.m0;have h4:(L.length:Int)*M<=400*4503599627370496:=fP (by have:=c.len; omega) c.m1 c.m0 (by omega);omega
    ·dsimp only at R ⊢;have E:=(c.inr _ C).2
     have heq:gv X u=gv x u:=by
      rcases ha.chg u h0 i with g|⟨g,_⟩
      ·exact g
      ·exact(R g).elim
     by_cases F:u=n
     ·subst F;have i:=ha.link v m C;omega
     ·have Q:u∉n::rest:=by
       intro W;rcases cP.1 W with e|W
       ·exact F e
       ·exact R (by rw[o]; exact dH _ W)
      have h2:=h.rel u h0 i Q v m C;have:=ha.le v E.1 E.2;omega
end
def Zh (N:Nat) (v:Int):Bool:=decide (0<=v)&&decide (v<(N:Int))
def QL (N:Nat):start (Zh N) N=List.replicate N 0:=by
 refine afl (by simp[ĥ]) fun v h0 a=>?_;rw[ĥ] at a;rw[i8 _ h0 a]
 have:Zh N v=true:=by simp[Zh,h0,a]
 rw[if_pos this];unfold gv;rw[List.getElem?_replicate]
 split<;>rfl
def iD (L:w9 Lk) (N:Nat):w9 Int:=lM L N (start (Zh N) N)
def IE (L:w9 Lk) (N:Nat):Bool:=decide (GK L (iD L N)=iD L N)
section
variable {L:w9 Lk} {N:Nat} {M:Int}
def nm_lt (a:iZ L N M) (c:N<=200):N*M<rX:=by
 have:(N:Int)*M<=200*4503599627370496:=Int.mul_le_mul (by omega) a.m1 a.m0 (by omega);unfold rX;omega
def Ey {p:Int->Int} (a:iZ L N M) (e:N<=200) (c:Pot L p):ac3 L (fun v=>Zh N v=true) N (gv (iD L N)) :=
 Ue c a.inr (fun v h=>by simpa[Zh] using h) (fun l d=>(a.most l d).2) a.m0 (nm_lt a e) N (by omega)
def Q5:∀{L:w9 Lk} {x:w9 Int},(∀u v m,(u,v,m)∈L->gv x u<rX->gv x v<=gv x u+m)->GK L x=x
 |[],x,_=>rfl
 |l::t,x,h=>by
  have d:lL x l=x:=by
   unfold lL
   split
   ·rename_i c;have:=h l.1 l.2.1 l.2.2 (by simp) c.1;omega
   ·rfl
  show GK t (lL x l)=x;rw[d];exact Q5 fun u v m a=>h u v m (by simp[a])
def IC (a:iZ L N M) (i:N<=200):IE L N=true↔∃p,Pot L p:=by
 unfold IE;rw[decide_eq_true_eq]
 have d:∀v:Int,0<=v->v<N->gv (iD L N) v<=0:=by
  intro v h0 f;have:=B6 a.inr N (ĥ (Zh N) N) v h0;rw[i8 _ h0 f,if_pos (by simp[Zh,h0,f])] at this;exact this
 constructor
 ·intro h;refine⟨gv (iD L N),fun u v m c=>?_⟩;have e:=(a.inr _ c).1;have:=EI a.inr (x:=iD L N) (by unfold iD; rw[ο,ĥ]) u v m c (by have:=d u e.1 e.2; unfold rX; omega)
  rwa [h] at this
 ·rintro⟨p,g⟩;have hd:=Ey a i g;exact Q5 fun u v m c j=>hd.pot a.inr c (by omega)
end
section
variable {ρ:Type} {L:w9 Lk} {N:Nat} {M:Int}
def PK (a:N<=1000) (x:w8 ρ):Ú ((ile (0:Int) (N:Int))&&(Ý (Int.toNat (N:Int)))) x=x:=by
 rw[dc,Ð (by omega)]
 have:((ile (0:Int) (N:Int))&&true)=true:=by simp[ile]
 rw[this,Am.iff_true]
def Ua (e:iZ L N M) (U:1<=N) (o:N<=200) (k0:(Val (.pair .bool (.pair (.slice tI) (.pair (.slice .bool) (.pair (.slice tI) (.slice tI))))))->w8 ρ) {rT rF:w8 ρ}
 (R:IE L N=true->∀w t q,k0 (true,iD L N,w,t,q)=rT) (T:∀x w t q,k0 (false,x,w,t,q)=rF) :
 (É (fun(d:(Val (.pair tI (.pair (.slice .bool) (.slice tI))))) f=>Ť (N:Int) (List.replicate N (0:Int)) d.1 d.2.1 d.2.2 (fun y s r=>f (y,s,r)) (fun G=>É (fun(c:(Val (.pair (.slice tI) (.pair (.slice .bool) (.pair (.slice tI) (.slice tI)))))) g=>ķ [] (HK L) (N:Int) L c.1 c.2.1 c.2.2.1 c.2.2.2 (fun E D C z=>g (E,D,C,z)) k0) ((List.replicate N (0:Int)),G.1,(List.replicate N (0:Int)),G.2))) ((0:Int),(List.replicate N false),([]:w9 Int)))=if IE L N then rT else rF:=by
 refine afR (by simp) (by omega) _ fun w q H K J i j=>?_
 try dsimp only
 have O:∀v,Zh N v=true->0<=v/\v<N:=fun v h=>by simpa[Zh] using h
 by_cases l:IE L N=true
 ·rw[if_pos l];obtain⟨p,n⟩:=(IC e o).1 l;have I:=XM e U O H K J i (fun v a b=>by rw[QL]; exact j v a b);rw[QL] at I;refine ZQ e (nm_lt e o) n O k0 (fun x w t q P hd=>?_) I
  have:x=iD L N:=by
   refine afl (by rw[P]; unfold iD; rw[ο,ĥ]) fun v a b=>?_;exact hd.uniq (Ey e o n) a (by omega)
  rw[this]; exact R l w t q
 ·rw[if_neg l];refine adq e (fun n=>l ((IC e o).2 n)) k0 T ?_
  have F:∀v,gv (List.replicate N (0:Int)) v=0:=by
   intro v;unfold gv;rw[List.getElem?_replicate]
   split<;>rfl
  refine⟨by simp,H,by simp,K,J,i,fun v a b=>?_,fun v a b=>?_,fun u a b Q v m V=>?_⟩
  ·rw[F]; omega
  ·rw[F]; omega
  ·exact(Q ((j u a b).2 (by rw[F]; unfold rX; omega))).elim
end
def shift_ok {ρ:Type} {x:w9 Int} (f:Int) (s:x.length<=1000) (u : -2305843009213693952<=f/\f<=2305843009213693952) (hb:∀a∈x,-2305843009213693952<=a/\a<=2305843009213693952) (k0:w9 Int->w8 ρ) :
 É (fun(d:pg) e=>iO f (Ô x) d.1 d.2 (fun j h=>e (j,h)) k0) ((0:Int),x)=k0 (x.map fun a=>a-f):=by
 refine Ζ x (fun i=>(x.take i).map (fun a=>a-f)++x.drop i) _ (by simp) (fun i a hi ha n=>?_) (fun n=>?_)
 ·try dsimp only
  unfold iO
  have l:((x.take i).map (fun a=>a-f)++x.drop i).length=x.length:=by simp; omega
  have c:((x.take i).map (fun a=>a-f)++x.drop i)[i]?=some a:=by
   rw[List.getElem?_append_right (by simp; omega)];simp only[dP,dh,eA];rw[<-ha]; congr 1; omega
  have g:i<((x.take i).map (fun a=>a-f)++x.drop i).length:=by omega
  have o:=hb a (cY ha);rw[Ñ hi,mc g,Μ c,Ù (by omega) (by omega),mc g,Μ c,Î hi (by omega),dc,take_succ ha];congr 2;rw[du hi,fW,cS,List.set_append_right _ _ (by simp; omega)]
  have:i-(List.map (fun a=>a-f) (List.take i x)).length=0:=by simp; omega
  rw[this]
  have r:x[i]=a:=by rw[cI hi] at ha; simpa using ha
  simp[r]
 ·try dsimp only
  unfold iO;rw[é];simp
section
variable {L:w9 Lk} {N:Nat} {M:Int}
def adt (c:iZ L N M) (h:N<=200) (n:IE L N=true):∀a∈iD L N,-2305843009213693952<=a/\a<=0:=by
 obtain⟨p,e⟩:=(IC c h).1 n;have hd:=Ey c h e;intro a ha;obtain⟨i,hi,rfl⟩:=dg.1 ha
 have f:(iD L N).length=N:=by unfold iD; rw[ο,ĥ]
 have h0:gv (iD L N) i=(iD L N)[i]:=by unfold gv; simp[hi]
 have d:=B6 c.inr N (ĥ (Zh N) N) (i:Int) (by omega);rw[i8 _ (by omega) (by omega),if_pos (by simp[Zh]; omega)] at d;have g:gv (iD L N) i<=0:=d;obtain⟨vs,j⟩:=hd.att i (by omega) (by omega) (by unfold rX; omega);have u:=j.low' e;have s:=Uq (L:=L) (fun l o=>(c.most l o).1) c.m0;have r:(L.length:Int)*M<=400*4503599627370496:=Int.mul_le_mul (by have:=c.len; omega) c.m1 c.m0 (by omega);omega
def solP (L:w9 Lk) (N:Nat):w9 Int:=(iD L N).map fun a=>a-gv (iD L N) 0
def T0 (c:iZ L N M) (i:1<=N) (f:N<=200):kv ((N:Int),L) []=some (if IE L N then(solP L N,true) else([],false)):=by
 unfold kv wZ
 try dsimp only
 rw[PK (by omega),PK (by omega),PK (by omega),dc];refine fe (ad8 c _) ?_;refine fe (Ua c i f _ (rT:=some (solP L N,true)) (rF:=some ([],false)) (fun g w t q=>?_) (fun x w t q=>?_)) ?_
 ·try dsimp only
  have d:(iD L N).length=N:=by unfold iD; rw[ο,ĥ]
  have hb:=adt c f g;have h0:ilt (0:Int) (ï (iD L N))=true:=decide_eq_true (show(0:Int)<((iD L N).length:Int) by omega);have e:(iD L N)[0]?=some (gv (iD L N) 0):=abA (v:=0) (show 0<_ by omega);have h:=hb _ (cY e);rw[show(!true)=false from rfl,ê,Į h0,xW e];exact shift_ok _ (by omega) ⟨h.1,by omega⟩ (fun a ha=>⟨(hb a ha).1,by have:=(hb a ha).2; omega⟩) _
 ·rfl
 ·cases IE L N<;>rfl
structure acV (L:w9 Lk) (N:Nat):Prop where
 n1:1<=N
 n60:N<=60
 len:L.length<=300
 inr:InR L N
 noloop:∀l∈L,l.1≠l.2.1
 most:∀l∈L,-4503599627370496<=l.2.2/\l.2.2<=4503599627370496
def acV.links (h:acV L N):iZ L N 4503599627370496 :=
 ⟨h.inr,h.noloop,h.most,by have:=h.len; omega,by have:=h.n60; omega,by omega,by omega⟩
def aau (n:Int) (L:w9 Lk) (v:Int):yr (n,L) v=some (decide (0<=v)&&decide (v<n)):=by
 unfold yr Wo ige
 by_cases h:0<=v
 ·have:decide (v>=0)=true:=by simpa using h
  rw[æ this]; simp[h]
 ·have:decide (v>=0)=false:=by simpa using h
  rw[Õ this]; simp[h]
def Qq (h:acV L N):pI ((N:Int),L)=some (0,-1):=by
 have o:=h.n1;have h2:=h.n60;have n:=h.len;unfold pI Sa
 try dsimp only
 rw[Õ (by simp[ilt]; omega),Õ (by simp[igt]; omega),Õ (by rw[â]; simp[igt]; omega)];refine fe (lm L (fun _=>false) (fun i=>some (1,i)) (some (0,-1)) (fun i l hi e f=>?_) (fun f=>?_)) ?_
 ·try dsimp only
  unfold qT;have d:=List.mem_of_getElem? e;have a:=h.inr l d;have b:=h.noloop l d;have c:=h.most l d
  have j:(decide (0<=l.1)&&decide (l.1<(N:Int)))=true:=by simp[a.1.1,a.1.2]
  have g:(decide (0<=l.2.1)&&decide (l.2.1<(N:Int)))=true:=by simp[a.2.1,a.2.2]
  rw[Ñ hi,È e,aau,Á,j,aau,Á,g];simp only[dJ,ê,dj,if_false];rw[Õ (by simp[ieq,b]),Õ (by simp[ilt]; omega),Õ (by simp[igt]; omega),Î hi (by omega)]
 ·try dsimp only
  unfold qT;rw[é]
 ·rw[d8.2 (by simp)]
end
section
variable {b:ċ}
def UZ (b:ċ) (g:Ą):(Ğ b g).Pairwise (·<·):=afV _
def abZ (h:kE b) {g:Ą} (i:g∈b.2.1):∃t,Ğ b g=g.2.1::t:=by
 have c:=UZ b g;have h2:=Eb (b:=b) g;have f:∀d∈Ğ b g,g.2.1<=d:=fun d hd=>(h.day i hd).1
 cases hd:Ğ b g with
 |nil=>rw[hd] at h2; cases h2
 |cons a t =>
  rw[hd] at c h2 f;rw[dD] at c;rcases cP.1 h2 with e|e
  ·exact⟨t,by rw[e]⟩
  ·have:=c.1 _ e;have:=f a (by simp);omega
def off (b:ċ) (i:Nat):Nat:=((b.2.1.take i).flatMap fun g=>(Ğ b g).map fun d=>((g.1,d):Int×Int)).length
def IF {i:Nat} {g:Ą} (a:b.2.1[i]?=some g):î b=((b.2.1.take i).flatMap fun g=>(Ğ b g).map fun d=>((g.1,d):Int×Int))++(((Ğ b g).map fun d=>((g.1,d):Int×Int))++((b.2.1.drop (i+1)).flatMap fun g=>(Ğ b g).map fun d=>((g.1,d):Int×Int))):=by
 obtain⟨hi,rfl⟩:=cQ.1 a
 have c:b.2.1=b.2.1.take i++(b.2.1[i]::b.2.1.drop (i+1)):=by
  rw[<-du hi,dT]
 unfold î
 conv=>lhs; rw[c]
 rw[fC,dE]
def aav (h:kE b) {i:Nat} {g:Ą} (r:b.2.1[i]?=some g) {k:Nat} {d:Int} (s:(Ğ b g)[k]?=some d):oT (î b) g.1 d=some (off b i+k):=by
 obtain⟨hi,l⟩:=List.getElem?_eq_some_iff.1 r;obtain⟨a,c⟩:=List.getElem?_eq_some_iff.1 s;unfold oT;rw[IF r,List.findIdx?_append,List.findIdx?_append]
 have u:List.findIdx? (fun n:Int×Int=>decide (g.1=n.1)&&decide (d=n.2)) ((b.2.1.take i).flatMap fun g=>(Ğ b g).map fun d=>((g.1,d):Int×Int))=none:=by
  rw[d8];intro x e;obtain⟨g',o,e⟩:=dz.1 e;obtain⟨v,_,rfl⟩:=dG.1 e;obtain⟨j,f,rfl⟩:=dg.1 o;rw[dh] at f;rw[f0];have:=(eX.1 h.ids) j i (by omega) hi (by omega);rw[l] at this;simp only[fm,decide_eq_false_iff_not];exact .inl (by omega)
 have h2:List.findIdx? (fun n:Int×Int=>decide (g.1=n.1)&&decide (d=n.2)) ((Ğ b g).map fun d=>((g.1,d):Int×Int))=some k:=by
  rw[dK];refine⟨by simpa using a,by simp[c],fun j f=>?_⟩;have:=(eX.1 (UZ b g)) j k (by omega) a f;rw[c] at this;simp only[List.getElem_map,cM,decide_eq_true_eq,not_and];intro _;omega
 rw[u,h2];simp only[Option.map_some,Option.some_or,Option.none_or];unfold off;congr 1;omega
def aeQ (h:kE b) {i:Nat} {g:Ą} (a:b.2.1[i]?=some g):atP (î b) [g.1] g.2.1=(off b i:Int)+1:=by
 obtain⟨t,c⟩:=abZ h (List.mem_of_getElem? a);have:=aav h a (k:=0) (d:=g.2.1) (by rw[c]; rfl);unfold atP;simp only[this];rfl
def agb (h:kE b) {i:Nat} {g:Ą} (a:b.2.1[i]?=some g):off b i+(Ğ b g).length<=(î b).length:=by
 rw[IF a];unfold off;simp only[List.length_append,List.length_map];omega
def Rw (h:kE b) {c:Cmp} (u:c∈b.2.2.2.2.1) {x:Int} (s:(x∈c.2.2.1/\x∉c.2.2.2.1)\/(x∈c.2.2.2.1/\x∉c.2.2.1)):∃j,oT (î b) x c.2.1=some j:=by
 have v:x∈c.2.2.1++c.2.2.2.1:=by rw[cO]; exact s.imp (·.1) (·.1)
 obtain⟨⟨g,z,_⟩,_⟩:=h.pile u v;obtain⟨f,a⟩:=ku z;obtain⟨i,hi,l⟩:=dg.1 f
 have hd:c.2.1∈Ğ b g:=nh.2 (.inr (.inl ⟨c,u,by
  rw[a];rcases s with⟨n,h2⟩|⟨n,h2⟩
  ·have r:c.2.2.1.contains x=true:=by simpa using n
   have o:c.2.2.2.1.contains x=false:=by simpa using h2
   rw[r,o]; simp
  ·have r:c.2.2.2.1.contains x=true:=by simpa using n
   have o:c.2.2.1.contains x=false:=by simpa using h2
   rw[r,o]; simp,rfl⟩))
 obtain⟨k,y,e⟩:=dg.1 hd;have:=aav h (g:=g) (i:=i) (by rw[cI hi,l]) (k:=k) (d:=c.2.1) (by rw[cI y,e]);rw[a] at this;exact⟨_,this⟩
inductive Ze (b:ċ) (p:List Int) (d:Int) (n:Int):Prop
 |none:p=[]->n=0->Ze b p d n
 |one (x:Int) (j:Nat):p=[x]->oT (î b) x d=some j->n=(j:Int)+1->Ze b p d n
def ab0 (h:kE b) {c:Cmp} (f:c∈b.2.2.2.2.1):Ze b (ğ c.2.2.1 c.2.2.2.1) c.2.1 (cx b c):=by
 have d:=(h.lefts f).1
 cases a:ğ c.2.2.1 c.2.2.2.1 with
 |nil=>exact .none rfl (by unfold cx atP; rw[a])
 |cons x t =>
  rw[a] at d
  have:t=[]:=by cases t with|nil=>rfl|cons=>simp at d
  subst this;obtain⟨j,e⟩:=Rw h f (x:=x) (.inl (tv.1 (by rw[a]; simp)));exact .one x j rfl e (by unfold cx atP; rw[a]; simp only[e])
def U3 (h:kE b) {c:Cmp} (f:c∈b.2.2.2.2.1):Ze b (ğ c.2.2.2.1 c.2.2.1) c.2.1 (cy b c):=by
 have d:=(h.lefts f).2.1
 cases a:ğ c.2.2.2.1 c.2.2.1 with
 |nil=>exact .none rfl (by unfold cy atP; rw[a])
 |cons x t =>
  rw[a] at d
  have:t=[]:=by cases t with|nil=>rfl|cons=>simp at d
  subst this;obtain⟨j,e⟩:=Rw h f (x:=x) (.inr (tv.1 (by rw[a]; simp)));exact .one x j rfl e (by unfold cy atP; rw[a]; simp only[e])
def Ze.rng {p:w9 Int} {d n:Int} (h:Ze b p d n):0<=n/\n<((î b).length+1:Nat):=by
 rcases h with⟨_,h⟩|⟨x,j,_,a,h2⟩
 ·omega
 ·have:=(sg a).1;omega
def aeu (h:kE b) {c:Cmp} (d:c∈b.2.2.2.2.1):cx b c≠cy b c:=by
 have l:=(h.lefts d).2.2;rcases ab0 h d with⟨g,h2⟩|⟨x,j,g,h2,s⟩
 ·rcases U3 h d with⟨a,f⟩|⟨y,k,a,f,o⟩
  ·rw[g,a] at l; simp at l
  ·omega
 ·rcases U3 h d with⟨a,f⟩|⟨y,k,a,f,o⟩
  ·omega
  ·intro e
   have:j=k:=by omega
   subst this;have r:=(sg h2).2;have i:=(sg f).2;rw[r] at i;simp only[Option.some.injEq,Prod.mk.injEq] at i
   have m1:x∈ğ c.2.2.1 c.2.2.2.1:=by rw[g]; simp
   have n:y∈ğ c.2.2.2.1 c.2.2.1:=by rw[a]; simp
   rw[i.1] at m1;exact(tv.1 m1).2 (tv.1 n).1
def abh (h:kE b):(AD b).length=2*(î b).length+2*b.2.2.2.2.1.length:=by
 have i:∀l:w9 Ą,(∀g∈l,g∈b.2.1)->(l.flatMap (ŝ b)).length=2*(l.flatMap fun g=>(Ğ b g).map fun d=>((g.1,d):Int×Int)).length:=by
  intro l
  induction l with
  |nil=>intro _; rfl
  |cons g t a =>
   intro e;have:=a fun g f=>e g (by simp[f]);have j:=List.length_pos_of_mem (Eb (b:=b) g);simp only[List.flatMap_cons,List.length_append,List.length_map,this];unfold ŝ;rw[List.length_append,oM _ _ (fun _=>rfl)];simp only[List.length_cons,List.length_nil];omega
 have h2:∀l:w9 Cmp,(l.flatMap (iW b)).length=2*l.length:=by
  intro l
  induction l with
  |nil=>rfl
  |cons c t a =>
   simp only[dE,cN,a,iW,cV,dk];omega
 unfold AD;rw[List.length_append,i _ fun _ h=>h,h2];rfl
def MT (h:kE b) {i:Nat} {g:Ą} (n:b.2.1[i]?=some g) {l:Lk}:l∈ŝ b g ↔
 l=(0,(off b i:Int)+1,g.2.2.1+g.2.2.2.1.2)\/l=((off b i:Int)+1,0,-(g.2.2.1+g.2.2.2.1.1)) \/
 ∃(k:Nat) (d e:Int),(Ğ b g)[k]?=some d/\(Ğ b g)[k+1]?=some e/\(l=((off b i:Int)+k+1,(off b i:Int)+k+2,0)\/l=((off b i:Int)+k+2,(off b i:Int)+k+1,PA b g d e)):=by
 unfold ŝ;rw[aeQ h n];simp only[List.mem_append,List.mem_cons,List.not_mem_nil,or_false,List.mem_flatMap,List.mem_range];constructor
 ·rintro((a|a)|⟨k,o,a⟩)
  ·exact .inl a
  ·exact .inr (.inl a)
  ·refine .inr (.inr ⟨k,(Ğ b g)[k],(Ğ b g)[k+1],cI (by omega),cI (by omega),?_⟩);rw[cI (show k<(Ğ b g).length by omega),cI (show k+1<(Ğ b g).length by omega)] at a;simp only[gD] at a
   have f:(off b i:Int)+1+k=(off b i:Int)+k+1:=by omega
   have c:(off b i:Int)+k+1+1=(off b i:Int)+k+2:=by omega
   rw[f,c] at a;exact a
 ·rintro(a|a|⟨k,d,e,hd,j,a⟩)
  ·exact .inl (.inl a)
  ·exact .inl (.inr a)
  ·obtain⟨h2,rfl⟩:=cQ.1 hd;obtain⟨r,rfl⟩:=cQ.1 j;refine .inr ⟨k,by omega,?_⟩;rw[hd,j];simp only[gD]
   have f:(off b i:Int)+1+k=(off b i:Int)+k+1:=by omega
   have c:(off b i:Int)+k+1+1=(off b i:Int)+k+2:=by omega
   rw[f,c];exact a
def Yy {l:Lk}:l∈AD b↔(∃(i:Nat) (g:Ą),b.2.1[i]?=some g/\l∈ŝ b g)\/∃c∈b.2.2.2.2.1,l=(cy b c,cx b c,(Il b c).2)\/l=(cx b c,cy b c,-(Il b c).1):=by
 unfold AD;simp only[List.mem_append,List.mem_flatMap,iW,List.mem_cons,List.not_mem_nil,or_false];constructor
 ·rintro(⟨g,a,h⟩|h)
  ·obtain⟨i,hi,rfl⟩:=dg.1 a;exact .inl ⟨i,_,cI hi,h⟩
  ·exact .inr h
 ·rintro(⟨i,g,a,h⟩|h)
  ·exact .inl ⟨g,cY a,h⟩
  ·exact .inr h
def kE.sys (h:kE b):acV (AD b) ((î b).length+1):=by
 have H:=h.nodes;have I:=h.links
 have key:∀l∈AD b,((0<=l.1/\l.1<((î b).length+1:Nat))/\(0<=l.2.1/\l.2.1<((î b).length+1:Nat)))/\l.1≠l.2.1/\(-4503599627370496<=l.2.2/\l.2.2<=4503599627370496):=by
  intro l f;rcases Yy.1 f with⟨i,g,o,f⟩|⟨c,n,f⟩
  ·have j:=cY o;have r:=h.gaugeR j;have G:=agb h o;have F:=List.length_pos_of_mem (Eb (b:=b) g);have C:=r.2.2.2.2.2.1;have z:=r.2.2.2.2.2.2.1;rcases(MT h o).1 f with rfl|rfl|⟨k,d,e,hd,s,u⟩
   ·dsimp only; omega
   ·dsimp only; omega
   ·obtain⟨h2,_⟩:=cQ.1 s;have v:=h.day j (cY hd);have E:=Kq h j (t:=e) v.2.1;rcases u with rfl|rfl
    ·dsimp only; omega
    ·dsimp only; omega
  ·have a:=(ab0 h n).rng;have J:=(U3 h n).rng;have D:=aeu h n;have y:=Ik h n;rcases f with rfl|rfl
   ·dsimp only; omega
   ·dsimp only; omega
 exact⟨by omega,by omega,by rw[abh h]; omega,fun l f=>(key l f).1,fun l f=>(key l f).2.1,fun l f=>(key l f).2.2⟩
end
structure In (b:ċ):Prop where
 size:rD b
 num:∀g∈b.2.1,I64 g.2.2.2.2.1.1
def Vk (b:ċ):Sys×w9 (Int×Int)×Int:=if il b≠0 then((0,[]),[],il b) else((((î b).length:Int)+1,AD b),OO b,0)
def acU {b:ċ} (h:In b):jk b=some (Vk b):=by
 unfold jk N1 Vk;rw[Qp h.size h.num,Á]
 by_cases a:il b=0
 ·rw[Õ (by simp[ine,a]),adW ((iy b).1 a),Á,if_neg (show ¬(il b≠0) from fun h=>h a)]
 ·rw[æ (by simp[ine,a]),if_pos a]
def LB (b:ċ) (g:Int) (a:w9 Int):Int:=if il b≠0 then il b else if a.any (fun d=>!Le d) then 1 else if (vd (k:=tI) (v:=Ö) g (κ b)).isNone then 5 else 0
def acN {b:ċ} (h:In b) (g:Int) {a:w9 Int} (hd:a.length<=1000):D8 b g a=some (LB b g a):=by
 unfold D8 Ss LB;rw[Qp h.size h.num,Á]
 by_cases c:il b=0
 ·rw[Õ (by simp[ine,c]),if_neg (show ¬(il b≠0) from fun h=>h c)]
  have last:(Ã (ĸ b) fun n=>N8 (k:=tI) (v:=Ö) g n (fun l=>some (0:Int)) (some (5:Int)))=some (if (vd (k:=tI) (v:=Ö) g (κ b)).isNone then 5 else 0):=by
   rw[EC h.size.gauges,Á];unfold N8
   cases vd (k:=tI) (v:=Ö) g (κ b)<;>rfl
  refine fe (gS a (fun d=>!Le d) (fun f=>ifb (ige f (0:Int)) (some (1:Int)) (Ã (ĸ b) fun o=>N8 (k:=tI) (v:=Ö) g o (fun s=>some (0:Int)) (some (5:Int)))) (some 1) (some (if (vd (k:=tI) (v:=Ö) g (κ b)).isNone then 5 else 0)) (fun j=>?_) (fun i d hi e r=>?_) (fun r=>?_)) ?_
  ·rw[æ (by simp[ige])]
  ·try dsimp only
   unfold rh;rw[Ñ hi,È e,HP,Á,Î hi (by omega),Ġ]
  ·try dsimp only
   unfold rh;rw[é,last]
  ·cases a.any (fun d=>!Le d)<;>rfl
 ·rw[æ (by simp[ine,c]),if_pos c]
def FS (b:ċ) (id day:Int):Int:=match Ă b id with|some g=>if day<g.2.1 then 4 else 0|none=>5
def T3 {b:ċ} (hi:b.2.1.Pairwise fun a b=>a.1<b.1) (id day:Int):FS b id day=lU (κ b) id day:=by
 unfold FS lU;rw[xX hi]
 cases Ă b id<;>rfl
def agM (e:Int):w8 Int:=if e=0 then none else some e
section
variable {ρ:Type}
def Yu {α σ:Type} (l:w9 α) (g:σ->α->σ) (I:Nat->σ->Prop) {K:σ->w8 ρ} {f:Int×σ->(Int×σ->w8 ρ)->w8 ρ} {s0:σ} (h0:I 0 s0)
 (h:∀(i:Nat) (a:α) (s:σ),i<l.length->l[i]?=some a->I i s->I (i+1) (g s a)/\∀c,f ((i:Int),s) c=c ((i:Int)+1,g s a)) (j:∀s c,I l.length s->f ((l.length:Int),s) c=K s):É f (0,s0)=K (l.foldl g s0):=by
 refine ġ (fun x=>∃(i:Nat) (s:σ),x=((i:Int),s)/\i<=l.length/\I i s/\(l.drop i).foldl g s=l.foldl g s0) (fun x=>l.length-x.1.toNat) ?_ ⟨0,s0,rfl,dI _,h0,rfl⟩;rintro x ⟨i,s,rfl,hi,hI,e⟩
 by_cases d:i<l.length
 ·obtain⟨n,h2⟩:=h i l[i] s d (cI d) hI;refine .inr ⟨((i:Int)+1,g s l[i]),⟨i+1,_,rfl,d,n,?_⟩,by simp; omega,h2⟩;rw[<-e,du d,eO]
 ·obtain rfl:i=l.length:=by omega
  rw[gF,List.foldl_nil] at e;rw[<-e];exact .inl fun c=>j s c hI
def tk {α σ:Type} (l:w9 α) (g:σ->α->σ) (I:Nat->σ->Prop) {K:σ->w8 ρ} {f:σ×Int->(σ×Int->w8 ρ)->w8 ρ} {s0:σ} (h0:I 0 s0)
 (h:∀(i:Nat) (a:α) (s:σ),i<l.length->l[i]?=some a->I i s->I (i+1) (g s a)/\∀c,f (s,(i:Int)) c=c (g s a,(i:Int)+1)) (j:∀s c,I l.length s->f (s,(l.length:Int)) c=K s):É f (s0,0)=K (l.foldl g s0):=by
 refine ġ (fun x=>∃(i:Nat) (s:σ),x=(s,(i:Int))/\i<=l.length/\I i s/\(l.drop i).foldl g s=l.foldl g s0) (fun x=>l.length-x.2.toNat) ?_ ⟨0,s0,rfl,dI _,h0,rfl⟩;rintro x ⟨i,s,rfl,hi,hI,e⟩
 by_cases d:i<l.length
 ·obtain⟨n,h2⟩:=h i l[i] s d (cI d) hI;refine .inr ⟨(g s l[i],(i:Int)+1),⟨i+1,_,rfl,d,n,?_⟩,by simp; omega,h2⟩;rw[<-e,du d,eO]
 ·obtain rfl:i=l.length:=by omega
  rw[gF,List.foldl_nil] at e;rw[<-e];exact .inl fun c=>j s c hI
def tg {α β:Type} (l:w9 α) (g:α->β) {K:w9 β->w8 ρ} {f:Int×w9 β->(Int×w9 β->w8 ρ)->w8 ρ} {out:w9 β} (j:out.length+l.length<=1000000)
 (h:∀(i:Nat) (a:α) (s:w9 β),i<l.length->l[i]?=some a->s.length<1000000->∀c,f ((i:Int),s) c=c ((i:Int)+1,s++[g a])) (d:∀s c,f ((l.length:Int),s) c=K s):É f (0,out)=K (out++l.map g):=by
 have:=Yu l (fun s a=>s++[g a]) (fun i s=>s.length=out.length+i) (K:=K) (f:=f) (s0:=out) rfl (fun i a s hi ha n=>⟨by simp; omega,h i a s hi ha (by omega)⟩) (fun s c _=>d s c);rw[this];congr 1;clear this d h j
 induction l generalizing out with
 |nil=>simp
 |cons a l e=>rw[eO,e]; simp
def aa7 {α:Type} (l:w9 α) (g:α->BL) {K:ByteArray->w8 ρ} {f:ByteArray×Int->(ByteArray×Int->w8 ρ)->w8 ρ} {out:BL} (u:l.length<=1000000) (e:∀a∈l,(g a).length<=1000) (o:out.length<=1000000000)
 (h:∀(i:Nat) (a:α) (s:BL),i<l.length->l[i]?=some a->s.length<=2000000000->∀c,f (ofL s,(i:Int)) c=c (ofL (s++g a),(i:Int)+1)) (d:∀s c,f (s,(l.length:Int)) c=K s):É f (ofL out,0)=K (ofL (out++l.flatMap g)):=by
 have:=tk l (fun s a=>ofL (toL s++g a)) (fun i s=>(toL s).length<=out.length+1000*i) (K:=K) (f:=f) (s0:=ofL out) (by simp) (fun i a s hi ha n=>?_) (fun s c _=>d s c)
 ·rw[this];congr 1;clear this d h u e o
  induction l generalizing out with
  |nil=>simp
  |cons a l j=>rw[eO,j]; simp
 ·have r:=e a (cY ha);refine⟨by simp at n ⊢; omega,fun c=>?_⟩;have:=h i a (toL s) hi ha (by omega) c
  rwa [tT] at this
end
abbrev kM (ns:w9 Int):w9 BL:=ns.map Lib.itoa
abbrev Hs (w:BL) (ws:w9 BL):BL:=w++spL 32 ws
def ads (c:UInt8) (w:BL) (ws:w9 BL):spL c (w::ws)=c::w++spL c ws:=by simp[spL]
def PF {ns:w9 Int} (a:∀n∈ns,I64 n):(spL 32 (kM ns)).length<=21*ns.length:=by
 induction ns with
 |nil=>simp[spL]
 |cons n ns c =>
  have f:=tz (a n (by simp));have h2:=c fun x d=>a x (by simp[d]);have e:spL 32 (kM (n::ns))=32::Lib.itoa n++spL 32 (kM ns):=ads _ _ _;rw[e];simp only[cN,cV]; omega
def YH (ns:w9 Int):∀w:BL,ns.foldl (fun s n=>ofL (toL s++32::Lib.itoa n)) (ofL w)=ofL (Hs w (kM ns)):=by
 induction ns with
 |nil=>intro w; simp[spL]
 |cons n ns a =>
  intro w;rw[eO,a];simp[spL]
def xu {w:BL} {ns:w9 Int} (f:w.length<=1000) (j:ns.length<=1000) (g:∀n∈ns,I64 n):lr (ofL w) ns=some (ofL (Hs w (kM ns))):=by
 unfold lr Wy;rw[tk ns (fun s n=>ofL (toL s++32::Lib.itoa n)) (fun i s=>s.size<=1000+21*i) (K:=some) (by rw[ã]; exact f) (fun i n s hi ha a=>?_) (fun s d _=>?_),YH]
 ·have c:=g n (List.mem_of_getElem? ha);have h:=tz c;refine⟨by rw[ã]; rw[B0] at a; simp at a ⊢; omega,fun d=>?_⟩;unfold uu;rw[Ñ hi,È ha,Vr c,Á,show ByteArray.mk #[32]=ofL [32] from rfl,Ð (by simp only[ã,List.length_append,List.length_cons,List.length_nil]; omega),Am.iff_true,iu,Ð (by simp only[ã,List.length_append,List.length_cons,List.length_nil]; omega),Am.iff_true,Ù (by omega) (by omega)]
  have e:s++ofL ([32]++Lib.itoa n)=ofL (toL s++32::Lib.itoa n):=by rw[<-tT s,iu]; rfl
  rw[e]
 ·unfold uu;rw[é]
abbrev WQ (g:Ą):w9 Int:=[g.1,g.2.1,g.2.2.1,g.2.2.2.1.1,g.2.2.2.1.2,g.2.2.2.2.1.1,g.2.2.2.2.1.2,g.2.2.2.2.2]
abbrev agu (l:Ep):w9 Int:=[l.1,l.2.1.1,l.2.1.2,l.2.2]
abbrev cmpN (c:Cmp):w9 Int:=[c.1,c.2.1,c.2.2.2.2.1,c.2.2.2.2.2.1,c.2.2.2.2.2.2.1,c.2.2.2.2.2.2.2]
def YL (s:Int×Int):BL×w9 BL:=([102,105,108,109],kM [s.1,s.2])
def KI (g:Ą):BL×w9 BL:=([103,97,117,103,101],kM (WQ g))
def afH (u:Int×Int):BL×w9 BL:=([117,115,101],kM [u.1,u.2])
def UK (l:Ep):BL×w9 BL:=([108,111,97,110],kM (agu l))
def adb (c:Cmp):BL×w9 BL:=([99,111,109,112,97,114,101],kM (cmpN c)++([97]::kM c.2.2.1++[98]::kM c.2.2.2.1))
def UJ (u:Int×Int):BL×w9 BL:=([108,111,111,107],kM [u.1,u.2])
def iB (b:ċ):w9 (BL×w9 BL):=YL b.1::(b.2.1.map KI++(b.2.2.1.map afH++(b.2.2.2.1.map UK++(b.2.2.2.2.1.map adb++b.2.2.2.2.2.map UJ))))
abbrev iA (p:BL×w9 BL):BL:=Hs p.1 p.2
def g8 (b:ċ):BL:=(iB b).flatMap fun p=>iA p++[10]
structure rW (I64:Int->Prop) (b:ċ):Prop where
 film:I64 b.1.1/\I64 b.1.2
 gauges:∀g∈b.2.1,∀n∈WQ g,I64 n
 uses:∀u∈b.2.2.1,I64 u.1/\I64 u.2
 loans:∀l∈b.2.2.2.1,∀n∈agu l,I64 n
 cmps:∀c∈b.2.2.2.2.1,(∀n∈cmpN c,I64 n)/\(∀n∈c.2.2.1,I64 n)/\(∀n∈c.2.2.2.1,I64 n)/\c.2.2.1.length<=6/\c.2.2.2.1.length<=6
 looks:∀u∈b.2.2.2.2.2,I64 u.1/\I64 u.2
 nG:b.2.1.length<=12
 nU:b.2.2.1.length<=40
 nL:b.2.2.2.1.length<=12
 nC:b.2.2.2.2.1.length<=40
 nK:b.2.2.2.2.2.length<=10
abbrev acY:ċ->Prop:=rW I64
def rW.mono {P Q:Int->Prop} (a:∀n,P n->Q n) {b:ċ} (h:rW P b):rW Q b :=
 ⟨⟨a _ h.film.1,a _ h.film.2⟩,fun g j n d=>a _ (h.gauges g j n d),fun u e=>⟨a _ (h.uses u e).1,a _ (h.uses u e).2⟩,fun l i n d=>a _ (h.loans l i n d),fun c f=>⟨fun n d=>a _ ((h.cmps c f).1 n d),fun n d=>a _ ((h.cmps c f).2.1 n d),fun n d=>a _ ((h.cmps c f).2.2.1 n d),(h.cmps c f).2.2.2⟩,fun u e=>⟨a _ (h.looks u e).1,a _ (h.looks u e).2⟩,h.nG,h.nU,h.nL,h.nC,h.nK⟩
def Et {u:Int×Int} (h:I64 u.1/\I64 u.2):∀n∈[u.1,u.2],I64 n:=by
 intro n a;simp only[cP,ff,or_false] at a;rcases a with rfl|rfl
 ·exact h.1
 ·exact h.2
def Xg {c:Cmp}:iA (adb c)=(Hs [99,111,109,112,97,114,101] (kM (cmpN c))++Hs [32,97] (kM c.2.2.1))++Hs [32,98] (kM c.2.2.2.1):=by
 simp[iA,adb,spL]
def Yz (ps:w9 BL) (p:BL):Lib.join (p::ps) [10]++[10]=(p::ps).flatMap fun l=>l++[10]:=by
 rw[Lib.join_cons]
 have:∀(ps:w9 BL),Lib.joinTail [10] ps++[10]=[10]++ps.flatMap fun l=>l++[10]:=by
  intro ps
  induction ps with
  |nil=>simp[Lib.joinTail]
  |cons q ps a =>
   have e:Lib.joinTail [10] (q::ps)=10::q++Lib.joinTail [10] ps:=by simp[Lib.joinTail]
   rw[e,cS,a]; simp
 rw[cS,this]; simp
def iS {w:BL} {ns:w9 Int} (a:∀n∈ns,I64 n):(Hs w (kM ns)).length<=w.length+21*ns.length:=by
 have:=PF a;rw[Hs,cN]; omega
def rW.len {b:ċ} (h:acY b):∀p∈iB b,(iA p).length<=500:=by
 intro p d;unfold iB at d;simp only[List.mem_cons,List.mem_append,List.mem_map] at d;rcases d with rfl|⟨g,f,rfl⟩|⟨u,a,rfl⟩|⟨l,e,rfl⟩|⟨c,i,rfl⟩|⟨u,a,rfl⟩
 ·have:=iS (w:=[102,105,108,109]) (Et h.film); simp[YL] at this ⊢; omega
 ·have:=iS (w:=[103,97,117,103,101]) (h.gauges g f); simp[KI] at this ⊢; omega
 ·have:=iS (w:=[117,115,101]) (Et (h.uses u a)); simp[afH] at this ⊢; omega
 ·have:=iS (w:=[108,111,97,110]) (h.loans l e); simp[UK] at this ⊢; omega
 ·obtain⟨n,h2,j,v,s⟩:=h.cmps c i;have r:=iS (w:=[99,111,109,112,97,114,101]) n;have o:=iS (w:=[32,97]) h2;have a3:=iS (w:=[32,98]) j;rw[Xg,cN,cN];simp only[cV,dk] at r o a3; omega
 ·have:=iS (w:=[108,111,111,107]) (Et (h.looks u a)); simp[UJ] at this ⊢; omega
def rW.count {P:Int->Prop} {b:ċ} (h:rW P b):(iB b).length<=115:=by
 have e:=h.nG; have h2:=h.nU; have d:=h.nL; have c:=h.nC; have a:=h.nK;unfold iB;simp; omega
def adF {b:ċ} (h:acY b) (D:ŧ b=some 0):lB b=some (ofL (g8 b),0):=by
 have E:=h.nG; have h2:=h.nU; have O:=h.nL; have K:=h.nC; have J:=h.nK;unfold lB DH;rw[D,Á,Õ (by simp[ine]),show ByteArray.mk #[102,105,108,109]=ofL [102,105,108,109] from rfl,xu (by simp) (by simp) (Et h.film),Á]
 rw[tg b.2.1 (fun g=>ofL (iA (KI g))) (by simp; omega) (fun i g s hi a j d=>by
  unfold ro;dsimp only
  rw[Ñ hi,È a,show ByteArray.mk #[103,97,117,103,101]=ofL [103,97,117,103,101] from rfl,xu (by simp) (by simp) (h.gauges g (List.mem_of_getElem? a)),Á,Ð (by simp; omega),Am.iff_true,Î hi (by omega)]; rfl) (fun s d=>by unfold ro; rw[é])]
 dsimp only
 rw[tg b.2.2.1 (fun u=>ofL (iA (afH u))) (by simp; omega) (fun i g s hi a j d=>by
  unfold rl;dsimp only
  rw[Ñ hi,È a,show ByteArray.mk #[117,115,101]=ofL [117,115,101] from rfl,xu (by simp) (by simp) (Et (h.uses g (List.mem_of_getElem? a))),Á,Ð (by simp; omega),Am.iff_true,Î hi (by omega)]; rfl) (fun s d=>by unfold rl; rw[é])]
 dsimp only
 rw[tg b.2.2.2.1 (fun u=>ofL (iA (UK u))) (by simp; omega) (fun i g s hi a j d=>by
  unfold rk;dsimp only
  rw[Ñ hi,È a,show ByteArray.mk #[108,111,97,110]=ofL [108,111,97,110] from rfl,xu (by simp) (by simp) (h.loans g (List.mem_of_getElem? a)),Á,Ð (by simp; omega),Am.iff_true,Î hi (by omega)]; rfl) (fun s d=>by unfold rk; rw[é])]
 dsimp only
 rw[tg b.2.2.2.2.1 (fun u=>ofL (iA (adb u))) (by simp; omega) (fun i c s hi a j d=>by
  obtain⟨r,o,n,I,H⟩:=h.cmps c (List.mem_of_getElem? a);have G:=iS (w:=[99,111,109,112,97,114,101]) r;have F:=iS (w:=[32,97]) o;have a3:=iS (w:=[32,98]) n;simp only[List.length_cons,List.length_nil] at G F a3;unfold rj;dsimp only
  rw[Ñ hi,È a,show ByteArray.mk #[99,111,109,112,97,114,101]=ofL [99,111,109,112,97,114,101] from rfl,xu (by simp) (by simp) r,Á,show ByteArray.mk #[32,97]=ofL [32,97] from rfl,xu (by simp) (by omega) o,Á,ã,ã,Ð (by omega),Am.iff_true,
   show ByteArray.mk #[32,98]=ofL [32,98] from rfl,xu (by simp) (by omega) n,Á,iu,ã,ã,Ð (by rw[List.length_append]; omega),Am.iff_true,iu,Ð (by simp; omega),Am.iff_true,Î hi (by omega),Xg]) (fun s d=>by unfold rj; rw[é])]
 dsimp only
 rw[tg b.2.2.2.2.2 (fun u=>ofL (iA (UJ u))) (by simp; omega) (fun i g s hi a j d=>by
  unfold ri;dsimp only
  rw[Ñ hi,È a,show ByteArray.mk #[108,111,111,107]=ofL [108,111,111,107] from rfl,xu (by simp) (by simp) (Et (h.looks g (List.mem_of_getElem? a))),Á,Ð (by simp; omega),Am.iff_true,Î hi (by omega)]; rfl) (fun s d=>by unfold ri; rw[é])]
 dsimp only
 have e:[ofL (Hs [102,105,108,109] (kM [b.1.1,b.1.2]))]++b.2.1.map (fun g=>ofL (iA (KI g)))++b.2.2.1.map (fun u=>ofL (iA (afH u)))++b.2.2.2.1.map (fun u=>ofL (iA (UK u)))++b.2.2.2.2.1.map (fun u=>ofL (iA (adb u)))++b.2.2.2.2.2.map (fun u=>ofL (iA (UJ u)))=((iB b).map iA).map ofL:=by
  unfold iB;simp only[List.map_cons,List.map_append,List.map_map,List.append_assoc];rfl
 have y:Lib.join ((iB b).map iA) [10]++[10]=g8 b:=by
  have:=Yz ((iB b).tail.map iA) (iA (YL b.1));rw[show iA (YL b.1)::(iB b).tail.map iA=(iB b).map iA from rfl] at this;rw[this];unfold g8;rw[List.flatMap_map]
 have v:(g8 b).length<=115*501:=by
  unfold g8;refine Nat.le_trans ?_ (Nat.mul_le_mul_right 501 h.count);have l:=h.len;generalize iB b=L at l
  induction L with
  |nil=>simp
  |cons p L z =>
   have E:=l p (by simp);have h2:=z fun x C=>l x (by simp[C]);rw[dE,cN,cN,cV];simp only[cV,dk] at *;omega
 have f:=congrArg List.length y;rw[cN] at f;simp only[cV,dk] at f;rw[e,show ByteArray.mk #[10]=ofL [10] from rfl,ahe _ _ (by have:=h.count; simp; omega) (by omega),Á,ã,ã,Ð (by simp only[cV,dk]; omega),Am.iff_true,iu,y]
def Us {ws:w9 BL} {i:Nat} {a:ByteArray} (h:(ws.map ofL)[i]?=some a):∃w,ws[i]?=some w/\a=ofL w:=by
 rw[eI] at h
 cases c:ws[i]? with
 |none=>rw[c] at h; cases h
 |some w=>rw[c] at h; cases h; exact⟨w,rfl,rfl⟩
def EN (ws:w9 BL) (g:ws.length<=1000000) (f:∀w∈ws,w.length<=1000000):Ŏ (ws.map ofL)=some (ws.map BJ):=by
 unfold Ŏ Bv;rw[tg (ws.map ofL) (fun s=>BJ (toL s)) (out:=[]) (K:=some) (by simpa using g) (fun i a s hi ha h d=>?_) (fun s d=>by unfold mn; rw[é])]
 ·rw[dC,List.map_map]; rfl
 ·obtain⟨w,c,rfl⟩:=Us ha;have e:=f w (List.mem_of_getElem? c);rw[List.length_map] at hi;unfold mn;dsimp only;rw[Ñ (by simpa using hi),È ha];unfold Vi;rw[show decide ((ofL w).size<=281474976710656)=true by rw[ã]; exact decide_eq_true (by omega)];simp only[Á];unfold BJ
  cases Lib.atoiAll w with
  |ok v=>simp only[ê]; rw[Ð (by simp; omega),Am.iff_true,Ù (by omega) (by omega)]
  |range=>simp only[mq]; rw[Ð (by simp; omega),Am.iff_true,Ù (by omega) (by omega)]
  | _ => simp only [mq]; rw [Ð (by simp; omega), Am.iff_true, Ù (by omega) (by omega)]
def SP {α ρ:Type} (a:α) (l:w9 α) (f:α->w8 ρ):ø (a::l) 0 f=f a:=rfl
def zc (ws:w9 BL):w9 Int×w9 Int :=
 match ws with
 |[]=>([],[])
 |w::_=>if w=[97] then match ws.findIdx? (fun v=>decide (v=[98])) with
  |some j=>(((ws.drop 1).take (j-1)).map BJ,(ws.drop (j+1)).map BJ)
  |none=>([],[]) else([],[])
def adG (ws:w9 BL) (y:ws.length<=1000000) (D:∀w∈ws,w.length<=1000000):D7 (ws.map ofL)=some (zc ws):=by
 unfold D7 Sj zc
 cases ws with
 |nil=>rw[æ (by simp[ieq,â])]
 |cons w r =>
 dsimp only;rw[Õ (by simp[ieq,â]; omega)];rw[show((w::r).map ofL)=ofL w::r.map ofL from rfl,SP,show ByteArray.mk #[97]=ofL [97] from rfl,FE]
 by_cases h:w=[97]
 case neg=>rw[if_neg h,æ (by simp[h])]
 rw[if_pos h,Õ (by simp[h])];have key:=lm (ρ:=w9 Int×w9 Int) (ofL w::r.map ofL) (fun s=>decide (toL s=[98])) (fun j=>some (((((w::r).drop 1).take (j.toNat-1)).map BJ,((w::r).drop (j.toNat+1)).map BJ))) (some ([],[])) (f:=fun z c=>mR (ofL w::r.map ofL) (ofL w::r.map ofL) (Ô (ofL w::r.map ofL)) z (fun g=>c g) (fun n=>some (n.1,n.2)) (fun _=>some ([],[]))) (fun i a hi ha C=>?_) (fun C=>?_)
 ·rw[key]
  have e:(ofL w::r.map ofL).findIdx? (fun s=>decide (toL s=[98]))=(w::r).findIdx? (fun v=>decide (v=[98])):=by
   rw[show ofL w::r.map ofL=(w::r).map ofL from rfl,List.findIdx?_map]; rfl
  rw[e]
  cases(w::r).findIdx? (fun v=>decide (v=[98]))<;>simp
 ·obtain⟨v,o,rfl⟩:=Us (ws:=w::r) ha;unfold mR;dsimp only
  have l:(ofL w::r.map ofL).length=(w::r).length:=by simp
  rw[Ñ hi,È ha,show ByteArray.mk #[98]=ofL [98] from rfl,FE,Ġ]
  by_cases hb:v=[98]
  ·have F:i≠0:=fun e=>by subst e; simp only[eQ,Option.some.injEq] at o; rw[<-o,h] at hb; cases hb
   rw[l] at hi;have u:∀(m:w9 BL),m ⊆ w::r->∀x∈m,x.length<=1000000:=fun m E x d=>D x (E d)
   rw[if_pos (by simp[hb]),if_pos (by simp[hb]),show(ile (1:Int) (i:Int)&&ile (i:Int) (ï (ofL w::r.map ofL)))=true by simp[ile,ï] at hi ⊢; omega,Am.iff_true,show((i:Int)-1).toNat=i-1 by omega,
    show(ofL w::r.map ofL).drop 1=((w::r).drop 1).map ofL by simp,<-List.map_take,EN _ (by simp at y hi ⊢; omega) (u _ fun x d=>f9 (fg d)),Á,Ù (by omega) (by omega),show(ile (0:Int) ((i:Int)+1)&&ile ((i:Int)+1) (ï (ofL w::r.map ofL)))=true by simp[ile,ï] at hi ⊢; omega,Am.iff_true,show((i:Int)+1).toNat=i+1 by omega,
    show ofL w::r.map ofL=(w::r).map ofL from rfl,<-List.map_drop,EN _ (by simp at y hi ⊢; omega) (u _ fun x d=>f9 d),Á,dc]
  ·rw[if_neg (by simp[hb]),if_neg (by simp[hb]),Ù (by omega) (by omega)]
 ·unfold mR;rw[é]
def tN:ċ:=((0,0),[],[],[],[],[])
def readW (n:Nat->Int) (ps:w9 Int×w9 Int) (b:ċ) (w:BL):ċ :=
 if w=[102,105,108,109] then((n 0,n 1),b.2)
 else if w=[103,97,117,103,101] then(b.1,b.2.1++[(n 0,n 1,n 2,(n 3,n 4),(n 5,n 6),n 7)],b.2.2)
 else if w=[117,115,101] then(b.1,b.2.1,b.2.2.1++[(n 0,n 1)],b.2.2.2)
 else if w=[108,111,97,110] then(b.1,b.2.1,b.2.2.1,b.2.2.2.1++[(n 0,(n 1,n 2),n 3)],b.2.2.2.2)
 else if w=[99,111,109,112,97,114,101] then(b.1,b.2.1,b.2.2.1,b.2.2.2.1,b.2.2.2.2.1++[(n 0,n 1,ps.1,ps.2,n 2,n 3,n 4,n 5)],b.2.2.2.2.2)
 else if w=[108,111,111,107] then(b.1,b.2.1,b.2.2.1,b.2.2.2.1,b.2.2.2.2.1,b.2.2.2.2.2++[(n 0,n 1)])
 else b
def adP (w:BL):w8 Nat :=
 if w=[102,105,108,109] then some 2 else if w=[103,97,117,103,101] then some 8 else if w=[117,115,101] then some 2
 else if w=[108,111,97,110] then some 4 else if w=[99,111,109,112,97,114,101] then some 6 else if w=[108,111,111,107] then some 2 else none
def nC (r:w9 BL) (i:Nat):Int:=BJ (r.getD i [])
def vz (b:ċ) (l:BL):w8 ċ :=
 match YT 32 (Lib.trimSuffix l [10]) with
 |[]=>none
 |w::r=>match adP w with
  |none=>none
  |some k=>if r.length<k then none else some (readW (nC r) (zc (r.drop 6)) b w)
section
variable {ρ:Type}
def XW (w:BL) (r:w9 BL) {c:Int} {n:Nat} (g:c=n) (i:r.length<=100000) (d:∀v∈r,v.length<=100000) (A:w8 ρ) (K:w9 Int->w8 ρ) :
 (Ú (ile (1:Int) (ï ((w::r).map ofL))) (ifb (ilt (Ô (List.drop 1 ((w::r).map ofL))) c) A (Ú ((ile (0:Int) c)&&(ile c (ï (List.drop 1 ((w::r).map ofL))))) (Ã (Ŏ (List.take (Int.toNat c) (List.drop 1 ((w::r).map ofL)))) fun a=>Ú ((ile (0:Int) c)&&(ile c (ï (List.drop 1 ((w::r).map ofL))))) (K a)))))=if r.length<n then A else K ((r.take n).map BJ):=by
 subst g;rw[show ile (1:Int) (ï ((w::r).map ofL))=true by simp[ile,ï]; omega,Am.iff_true,show List.drop 1 ((w::r).map ofL)=r.map ofL from rfl,Ġ]
 by_cases h:r.length<n
 ·rw[if_pos (by simpa[ilt,â] using h),if_pos h]
 ·have e:(ile (0:Int) (n:Int)&&ile (n:Int) (ï (r.map ofL)))=true:=by simp[ile,ï]; omega
  rw[if_neg (by simpa[ilt,â] using h),if_neg h,e,Am.iff_true,dc,<-List.map_take,EN _ (by simp; omega) (fun v f=>by have:=d v (fg f); omega),Á,Am.iff_true]
def oe {r:w9 BL} {n:Nat} {c:Int} (i:Nat) (a:c=i) (hi:i<n) (d:n<=r.length) (f:Int->w8 ρ):ø ((r.take n).map BJ) c f=f (nC r i):=by
 subst a;refine È ?_ f;rw[eI,List.getElem?_take_of_lt hi,cI (by omega)];simp[nC,show i<r.length by omega]
end
abbrev StC:Type:=Int×Int×w9 Ą×w9 (Int×Int)×w9 Ep×w9 Cmp×w9 (Int×Int)×Int×Int×Int×w9 Ą×w9 (Int×Int)×w9 Ep×w9 Cmp×w9 (Int×Int)
abbrev EndC:Type:=Int×Int×w9 Ą×w9 (Int×Int)×w9 Ep×w9 Cmp×w9 (Int×Int)×Int
def stC (b:ċ):StC:=(0,0,[],[],[],[],[],0,b.1.1,b.1.2,b.2.1,b.2.2.1,b.2.2.2.1,b.2.2.2.2.1,b.2.2.2.2.2)
def endC:EndC:=(0,0,[],[],[],[],[],7)
structure Lens (b:ċ) (n:Nat):Prop where
 g:b.2.1.length<=n
 u:b.2.2.1.length<=n
 l:b.2.2.2.1.length<=n
 c:b.2.2.2.2.1.length<=n
 k:b.2.2.2.2.2.length<=n
def Xd {l:BL} (d:l.length<=100000):∃w r,YT 32 l=w::r/\r.length<=100000/\(∀v∈r,v.length<=100000):=by
 obtain⟨w,r,h⟩:=Xe 32 l [];have a:=H5 32 l [];rw[h] at a;refine⟨w,r,h,by simp at a; omega,fun v c=>?_⟩;have:=H4 32 l [] v (by rw[h]; exact dF _ c);simp at this; omega
def st_ok {b:ċ} {l:BL} (J:l.length<=100000) (hb:Lens b 1000000):ť 2 8 2 4 6 2 (stC b) (ofL l)=some (match vz b l with|some H=>Sum.inl (stC H)|none=>Sum.inr endC):=by
 obtain⟨Q,h2,P,O,K⟩:=hb;unfold ť m8 vz;rw[show ByteArray.mk #[10]=ofL [10] from rfl,acS l [10] (by omega),Á];have s:=OI l [10];generalize Lib.trimSuffix l [10]=t at s;rw[show ByteArray.mk #[32]=ofL [32] from rfl,Xy t 32 (by omega),Á];obtain⟨w,r,y,I,u⟩:=Xd (l:=t) (by omega);rw[y];dsimp only;rw[show List.map ofL (w::r)=ofL w::r.map ofL from rfl,SP];have G:=xU w [102,105,108,109];have F:=xU w [103,97,117,103,101];have E:=xU w [117,115,101];have D:=xU w [108,111,97,110];have C:=xU w [99,111,109,112,97,114,101];have z:=xU w [108,111,111,107]
 rw[show ByteArray.mk #[102,105,108,109]=ofL [102,105,108,109] from rfl,show ByteArray.mk #[103,97,117,103,101]=ofL [103,97,117,103,101] from rfl,show ByteArray.mk #[117,115,101]=ofL [117,115,101] from rfl,show ByteArray.mk #[108,111,97,110]=ofL [108,111,97,110] from rfl,show ByteArray.mk #[99,111,109,112,97,114,101]=ofL [99,111,109,112,97,114,101] from rfl,show ByteArray.mk #[108,111,111,107]=ofL [108,111,111,107] from rfl,
  G,F,E,D,C,z]
 have d:∀v∈r,v.length<=100000:=fun v o=>by have:=u v o; omega
 unfold adP readW
 by_cases i:w=[102,105,108,109]
 ·rw[æ (decide_eq_true i),if_pos i,if_pos i];refine(XW w r (c:=2) (n:=2) rfl (by omega) d _ _).trans ?_;dsimp only
  by_cases a:r.length<2
  ·rw[if_pos a,if_pos a]; rfl
  ·rw[if_neg a,if_neg a,oe 0 (c:=0) rfl (by omega) (by omega),oe 1 (c:=1) rfl (by omega) (by omega)]; rfl
 rw[Õ (decide_eq_false i),if_neg i,if_neg i]
 by_cases h:w=[103,97,117,103,101]
 ·rw[æ (decide_eq_true h),if_pos h,if_pos h];refine(XW w r (c:=8) (n:=8) rfl (by omega) d _ _).trans ?_;dsimp only
  by_cases a:r.length<8
  ·rw[if_pos a,if_pos a]; rfl
  ·rw[if_neg a,if_neg a,oe 0 (c:=0) rfl (by omega) (by omega),oe 1 (c:=1) rfl (by omega) (by omega),oe 2 (c:=2) rfl (by omega) (by omega),oe 3 (c:=3) rfl (by omega) (by omega),oe 4 (c:=4) rfl (by omega) (by omega),oe 5 (c:=5) rfl (by omega) (by omega),oe 6 (c:=6) rfl (by omega) (by omega),oe 7 (c:=7) rfl (by omega) (by omega),Ð (by show b.2.1.length+1<=_; omega),Am.iff_true]; rfl
 rw[Õ (decide_eq_false h),if_neg h,if_neg h]
 by_cases g:w=[117,115,101]
 ·rw[æ (decide_eq_true g),if_pos g,if_pos g];refine(XW w r (c:=2) (n:=2) rfl (by omega) d _ _).trans ?_;dsimp only
  by_cases a:r.length<2
  ·rw[if_pos a,if_pos a]; rfl
  ·rw[if_neg a,if_neg a,oe 0 (c:=0) rfl (by omega) (by omega),oe 1 (c:=1) rfl (by omega) (by omega),Ð (by show b.2.2.1.length+1<=_; omega),Am.iff_true]; rfl
 rw[Õ (decide_eq_false g),if_neg g,if_neg g]
 by_cases f:w=[108,111,97,110]
 ·rw[æ (decide_eq_true f),if_pos f,if_pos f];refine(XW w r (c:=4) (n:=4) rfl (by omega) d _ _).trans ?_;dsimp only
  by_cases a:r.length<4
  ·rw[if_pos a,if_pos a]; rfl
  ·rw[if_neg a,if_neg a,oe 0 (c:=0) rfl (by omega) (by omega),oe 1 (c:=1) rfl (by omega) (by omega),oe 2 (c:=2) rfl (by omega) (by omega),oe 3 (c:=3) rfl (by omega) (by omega),Ð (by show b.2.2.2.1.length+1<=_; omega),Am.iff_true]; rfl
 rw[Õ (decide_eq_false f),if_neg f,if_neg f]
 by_cases e:w=[99,111,109,112,97,114,101]
 ·rw[æ (decide_eq_true e),if_pos e,if_pos e];refine(XW w r (c:=6) (n:=6) rfl (by omega) d _ _).trans ?_;dsimp only
  by_cases a:r.length<6
  ·rw[if_pos a,if_pos a]; rfl
  ·rw[if_neg a,if_neg a,oe 0 (c:=0) rfl (by omega) (by omega),oe 1 (c:=1) rfl (by omega) (by omega),oe 2 (c:=2) rfl (by omega) (by omega),oe 3 (c:=3) rfl (by omega) (by omega),oe 4 (c:=4) rfl (by omega) (by omega),oe 5 (c:=5) rfl (by omega) (by omega)];rw[show List.drop (Int.toNat 6) (List.drop 1 (ofL w::r.map ofL))=(r.drop 6).map ofL by rw[List.map_drop]; rfl,adG _ (by simp; omega) (fun v o=>by have:=u v (f9 o); omega),Á,Ð (by show b.2.2.2.2.1.length+1<=_; omega),Am.iff_true]; rfl
 rw[Õ (decide_eq_false e),if_neg e,if_neg e]
 by_cases j:w=[108,111,111,107]
 ·rw[æ (decide_eq_true j),if_pos j,if_pos j];refine(XW w r (c:=2) (n:=2) rfl (by omega) d _ _).trans ?_;dsimp only
  by_cases a:r.length<2
  ·rw[if_pos a,if_pos a]; rfl
  ·rw[if_neg a,if_neg a,oe 0 (c:=0) rfl (by omega) (by omega),oe 1 (c:=1) rfl (by omega) (by omega),Ð (by show b.2.2.2.2.2.length+1<=_; omega),Am.iff_true]; rfl
 rw[Õ (decide_eq_false j),if_neg j];rfl
def Z6 {n:Nat->Int} {ps:w9 Int×w9 Int} {b:ċ} {w:BL} {k:Nat} (h:Lens b k):Lens (readW n ps b w) (k+1):=by
 obtain⟨e,h2,d,c,a⟩:=h;unfold readW
 (repeat' split)<;>constructor<;>(try simp only[cN,cV,dk])<;>omega
def Z7 {b a:ċ} {l:BL} {k:Nat} (h:Lens b k) (e:vz b l=some a):Lens a (k+1):=by
 unfold vz at e
 (repeat' split at e)<;>first|(cases e; done)|(cases e; exact Z6 h)
def ZX {ρ:Type} {f:StC->w8 ρ} {e:EndC->w8 ρ}:∀(a:w9 BL) (b:ċ) (k:Nat),Lens b k->k+a.length<=1000000->(∀l∈a,l.length<=100000) ->
 runX (ť 2 8 2 4 6 2) (a.map ofL) (stC b) f e=match a.foldlM vz b with|some d=>f (stC d)|none=>e endC
 |[],b,k,_,_,_=>rfl
 |l::a,b,k,hb,n,h=>by
  simp only[cV] at n;rw[dY,ZY,st_ok (h l (by simp)) ⟨by have:=hb.g; omega,by have:=hb.u; omega,by have:=hb.l; omega,by have:=hb.c; omega,by have:=hb.k; omega⟩,Á,gE]
  cases j:vz b l with
  |none=>rfl
  |some d=>exact ZX a d (k+1) (Z7 hb j) (by omega) fun x i=>h x (by simp[i])
def ζ (t:BL):w9 BL:=(ks (ofL t)).map toL
def aeZ {t:BL} (i:t.length<=60000):pL (ofL t)=match (ζ t).foldlM vz tN with
 |none=>some (tN,7)
 |some b=>Ã (lB b) fun r=>if r.2≠0\/r.1≠ofL t then some (tN,7) else some (b,0):=by
 obtain⟨g,h2⟩:=yc (ofL t).size (ofL t);unfold pL Kl;rw[Ð (by rw[ã]; omega),show(true&&true)=true from rfl,Am.iff_true]
 have c:ks (ofL t)=(ζ t).map ofL:=by
  unfold ζ; rw[List.map_map]; exact(List.map_id _).symm.trans (List.map_congr_left fun s _=>(tT s).symm)
 rw[c];have hb:((0:Int),(0:Int),([]:w9 Ą),([]:w9 (Int×Int)),([]:w9 Ep),([]:w9 Cmp),([]:w9 (Int×Int)),(0:Int),(0:Int),(0:Int),([]:w9 Ą),([]:w9 (Int×Int)),([]:w9 Ep),([]:w9 Cmp),([]:w9 (Int×Int)))=stC tN:=rfl;refine(ZX (ζ t) tN 0 ⟨Nat.le_refl _,Nat.le_refl _,Nat.le_refl _,Nat.le_refl _,Nat.le_refl _⟩ (by unfold ζ ks; rw[ã] at g ⊢; simp; omega) (fun l c=>?_)).trans ?_
 ·unfold ζ ks at c;obtain⟨y,f,rfl⟩:=List.mem_map.1 c;have:=h2 y f;rw[<-B0];exact Nat.le_trans this (by rw[ã]; omega)
 ·cases(ζ t).foldlM vz tN with
  |none=>rfl
  |some b =>
   dsimp only[stC]
   cases j:lB b with
   |none=>rfl
   |some r =>
    obtain⟨s,e⟩:=r;rw[Á,Á];dsimp only;rw[Ġ,Ġ]
    by_cases d:e=0
    ·rw[if_neg (by simp[ine,d]),<-tT s,FE]
     by_cases a:toL s=t
     ·rw[if_neg (by simp[a]),if_neg (by simp[d,a])]
     ·rw[if_pos (by simp[a]),if_pos (.inr fun h=>a (aao h))]; rfl
    ·rw[if_pos (by simp[ine,d]),if_pos (.inl d)]; rfl
def lG (n:Int):Prop:=n.natAbs<10 ^ 17
def lG.i64 {n:Int} (h:lG n):I64 n:=by
 unfold lG at h;exact⟨by omega,by omega⟩
def nD {n lo hi:Int} (h:inP n lo hi=true) (a : -1125899906842624<=lo) (h2:hi<=1125899906842624):lG n:=by
 simp only[inP,Bool.and_eq_true,decide_eq_true_eq] at h;unfold lG; omega
def rY {s:Int×Int} {lo hi:Int} (h:lP s lo hi=true) (a : -1125899906842624<=lo) (h2:hi<=1125899906842624):lG s.1/\lG s.2:=by
 simp only[lP,Bool.and_eq_true,decide_eq_true_eq] at h;unfold lG; exact⟨by omega,by omega⟩
def kE.idn {b:ċ} (h:kE b) {id:Int} {g:Ą} (c:Ă b id=some g):lG id:=by
 obtain⟨a,rfl⟩:=ku c;have:=h.gauge g a;simp only[vv,cM] at this;exact nD this.1.1.1.1.2 (by omega) (by omega)
def Q3 {l:w9 Int} (h:yI l=true):l.length<=6/\∀x∈l,lG x:=by
 unfold yI at h
 split at h
 ·cases h
 ·rename_i d;refine⟨of_decide_eq_true h,fun x c=>?_⟩;obtain⟨j,e,rfl⟩:=List.mem_iff_getElem.1 c;have:=gW.1 d j _ (List.getElem?_eq_getElem e);unfold EF at this
  split at this
  ·cases this
  ·rename_i a;exact nD (by simpa using a) (by omega) (by omega)
def kE.prints {b:ċ} (h:kE b):rW lG b:=by
 have z:∀{id day:Int},Zw (κ b) id day=0->lG id/\lG day:=fun e=>by
  obtain⟨⟨a,h2⟩,g,j,_⟩:=Qx h e;exact⟨h.idn j,by unfold lG; omega⟩
 refine⟨by have:=h.film; unfold lG; exact⟨by omega,by omega⟩,fun g j=>?_,fun u s=>z (h.uses u s),fun l G=>?_,fun c H=>?_,fun u s=>z (h.looks u s),h.nG,h.nU,h.nL,h.nC,h.nK⟩
 ·have:=h.gauge g j;simp only[vv,cM,decide_eq_true_eq] at this;obtain⟨⟨⟨⟨⟨⟨⟨a,h2⟩,f⟩,y⟩,r⟩,v⟩,o⟩,I⟩:=this;simp only[LN,cM,decide_eq_true_eq] at a;intro n d;simp only[WQ,cP,ff,or_false] at d;rcases d with rfl|rfl|rfl|rfl|rfl|rfl|rfl|rfl
  ·exact nD y (by omega) (by omega)
  ·exact nD (show inP g.2.1 0 20000=true from r) (by omega) (by omega)
  ·exact nD v (by omega) (by omega)
  ·exact(rY o (by omega) (by omega)).1
  ·exact(rY o (by omega) (by omega)).2
  ·exact nD h2 (by omega) (by omega)
  ·unfold lG; omega
  ·exact nD I (by omega) (by omega)
 ·obtain⟨i,hi,rfl⟩:=List.mem_iff_getElem.1 G;have e:=h.loans i _ (List.getElem?_eq_getElem hi);unfold Sz at e
  split at e
  ·omega
  rename_i a
  split at e
  ·omega
  rename_i h2
  split at e
  ·rename_i f; simp[e] at f
  rename_i f;obtain⟨g,j,_⟩:=EP h (show lU (κ b) b.2.2.2.1[i].1 b.2.2.2.1[i].2.1.1=0 by simpa using f)
  have a:lP b.2.2.2.1[i].2.1 0 20000=true:=by simpa using a
  intro n d;simp only[agu,cP,ff,or_false] at d;rcases d with rfl|rfl|rfl|rfl
  ·exact h.idn j
  ·exact(rY a (by omega) (by omega)).1
  ·exact(rY a (by omega) (by omega)).2
  ·exact nD (lo:=0) (hi:=1048576) (by simpa using h2) (by omega) (by omega)
 ·have:=h.nums H;simp only[O7,cM] at this;obtain⟨a,h2,f,y,r,v,o⟩:=this;obtain⟨F,E⟩:=Q3 v;obtain⟨D,C⟩:=Q3 o;refine⟨fun n d=>?_,E,C,F,D⟩;simp only[cmpN,cP,ff,or_false] at d;rcases d with rfl|rfl|rfl|rfl|rfl|rfl
  ·exact nD a (by omega) (by omega)
  ·exact nD (show inP c.2.1 0 20000=true from h2) (by omega) (by omega)
  ·exact nD f (by omega) (by omega)
  ·exact nD y (by omega) (by omega)
  ·exact(rY r (by omega) (by omega)).1
  ·exact(rY r (by omega) (by omega)).2
def jF (c:UInt8) (a:c.toNat≠45/\¬(48<=c.toNat/\c.toNat<=57)) (ns:w9 Int):∀v∈kM ns,∀x∈v,x≠c:=by
 intro v f x d e;obtain⟨n,_,rfl⟩:=dG.1 f;have:=YA n x d;subst e;rcases this with h|h
 ·exact a.1 h
 ·exact a.2 h
def agw (n:Int) (c:UInt8) (a:c.toNat≠45/\¬(48<=c.toNat/\c.toNat<=57)):Lib.itoa n≠[c]:=fun e=>jF c a [n] (Lib.itoa n) (by simp) c (by rw[e]; simp) rfl
def M7 (c:UInt8) (j:c=10\/c=32) {b:ċ}:∀p∈iB b,(∀x∈p.1,x≠c)/\∀v∈p.2,∀x∈v,x≠c:=by
 have h:c.toNat≠45/\¬(48<=c.toNat/\c.toNat<=57):=by rcases j with rfl|rfl<;>decide
 have a:∀w:BL,(w.all fun x=>x != 10&&x != 32)=true->∀x∈w,x≠c:=fun w o x n e=>by
  have:=di.1 o x n
  rcases j with rfl|rfl<;>subst e<;>revert this<;>decide
 intro p i;unfold iB at i;simp only[List.mem_cons,List.mem_append,List.mem_map] at i;rcases i with rfl|⟨g,y,rfl⟩|⟨u,r,rfl⟩|⟨l,s,rfl⟩|⟨d,hd,rfl⟩|⟨u,r,rfl⟩
 ·exact⟨a _ rfl,jF c h _⟩
 ·exact⟨a _ rfl,jF c h _⟩
 ·exact⟨a _ rfl,jF c h _⟩
 ·exact⟨a _ rfl,jF c h _⟩
 ·refine⟨a _ rfl,fun v f=>?_⟩;simp only[adb,cO,cP] at f;rcases f with f|(rfl|f)|rfl|f
  ·exact jF c h _ v f
  ·exact a _ rfl
  ·exact jF c h _ v f
  ·exact a _ rfl
  ·exact jF c h _ v f
 ·exact⟨a _ rfl,jF c h _⟩
def aev {b:ċ} {p:BL×w9 BL} (a:p∈iB b):YT 32 (iA p)=p.1::p.2:=by
 obtain⟨c,h2⟩:=M7 32 (.inr rfl) p a;exact P1 32 p.2 p.1 c h2
def SE {b:ċ} {p:BL×w9 BL} (d:p∈iB b):∀x∈iA p,x≠10:=by
 obtain⟨e,h2⟩:=M7 10 (.inl rfl) p d;intro x a;rcases cO.1 a with a|a
 ·exact e x a
 ·unfold spL at a;obtain⟨v,c,a⟩:=List.mem_flatMap.1 a;rcases List.mem_cons.1 a with rfl|a
  ·decide
  ·exact h2 v c x a
def nC_num {ns:w9 Int} (h:∀n∈ns,lG n) (r:w9 BL) {i:Nat} (hi:i<ns.length):nC (kM ns++r) i=ns.getD i 0:=by
 unfold nC;rw[List.getD_eq_getElem?_getD,List.getElem?_append_left (by simpa using hi),List.getD_eq_getElem?_getD];simp only[List.getElem?_map,List.getElem?_eq_getElem hi,Option.map_some,Option.getD_some];exact Oz (h _ (List.getElem_mem hi)).i64
def Wi {ns:w9 Int} (h:∀n∈ns,lG n):(kM ns).map BJ=ns:=by
 rw[List.map_map];exact(eG fun n a=>Oz (h n a).i64).trans (List.map_id _)
def aab {A B:w9 Int} (d:∀n∈A,lG n) (c:∀n∈B,lG n):zc ([97]::kM A++[98]::kM B)=(A,B):=by
 unfold zc
 have a:([97]::kM A++[98]::kM B).findIdx? (fun v=>decide (v=[98]))=some (A.length+1):=by
  rw[dK];refine⟨by simp,?_,fun j i=>?_⟩
  ·simp
  ·cases j with
   |zero=>simp
   |succ j =>
    have:j<(kM A).length:=by simp; omega
    have e:([97]::kM A++[98]::kM B)[j+1]'(by simp; omega)=Lib.itoa A[j]:=by
     simp only[dV,List.getElem_cons_succ];rw[List.getElem_append_left this,List.getElem_map]
    intro h;exact agw _ 98 (by decide) (e.symm.trans (of_decide_eq_true h))
 dsimp only[List.cons_append] at a ⊢;rw[if_pos rfl,a];dsimp only
 have g:((([97]::(kM A++[98]::kM B)).drop 1).take (A.length+1-1))=kM A:=by
  rw[List.drop_one,List.tail_cons,Nat.add_sub_cancel,eE (by simp),dN (by simp)]
 have f:(([97]::(kM A++[98]::kM B)).drop (A.length+1+1))=kM B:=by
  rw[List.drop_succ_cons,show A.length+1=(kM A++[[98]]).length by simp,show kM A++[98]::kM B=(kM A++[[98]])++kM B by simp,gw]
 rw[g,f,Wi d,Wi c]
structure ahd (R:ċ->BL×w9 BL->w8 ċ) (b:ċ):Prop where
 film:∀x:ċ,R x (YL b.1)=some (b.1,x.2)
 gauge:∀(x:ċ),∀g∈b.2.1,R x (KI g)=some (x.1,x.2.1++[g],x.2.2)
 use:∀(x:ċ),∀u∈b.2.2.1,R x (afH u)=some (x.1,x.2.1,x.2.2.1++[u],x.2.2.2)
 loan:∀(x:ċ),∀l∈b.2.2.2.1,R x (UK l)=some (x.1,x.2.1,x.2.2.1,x.2.2.2.1++[l],x.2.2.2.2)
 cmp:∀(x:ċ),∀c∈b.2.2.2.2.1,R x (adb c)=some (x.1,x.2.1,x.2.2.1,x.2.2.2.1,x.2.2.2.2.1++[c],x.2.2.2.2.2)
 look:∀(x:ċ),∀u∈b.2.2.2.2.2,R x (UJ u)=some (x.1,x.2.1,x.2.2.1,x.2.2.2.1,x.2.2.2.2.1,x.2.2.2.2.2++[u])
def oF {β:Type} (R:ċ->BL×w9 BL->w8 ċ) (F:β->BL×w9 BL) (G:ċ->w9 β->ċ) (c:∀x a l,G (G x [a]) l=G x (a::l)) (h0:∀x,G x []=x):∀(l:w9 β),(∀x,∀a∈l,R x (F a)=some (G x [a]))->∀x,(l.map F).foldlM R x=some (G x l)
 |[],_,x=>by rw[h0]; rfl
 |a::l,h,x=>by
  rw[dY,gE,h x a (by simp)];show(l.map F).foldlM R (G x [a])=_;rw[oF R F G c h0 l fun x a ha=>h x a (by simp[ha]),c]
def ahd.all {R:ċ->BL×w9 BL->w8 ċ} {b:ċ} (h:ahd R b):(iB b).foldlM R tN=some b:=by
 unfold iB;rw[List.foldlM_cons,h.film tN];show List.foldlM R (b.1,tN.2) _=_;rw[List.foldlM_append,oF R KI (fun x l=>(x.1,x.2.1++l,x.2.2)) (fun x a l=>by simp) (fun x=>by simp) _ h.gauge];show List.foldlM R (b.1,[]++b.2.1,tN.2.2) _=_;rw[List.foldlM_append,oF R afH (fun x l=>(x.1,x.2.1,x.2.2.1++l,x.2.2.2)) (fun x a l=>by simp) (fun x=>by simp) _ h.use];show List.foldlM R (b.1,[]++b.2.1,[]++b.2.2.1,tN.2.2.2) _=_;rw[List.foldlM_append,oF R UK (fun x l=>(x.1,x.2.1,x.2.2.1,x.2.2.2.1++l,x.2.2.2.2)) (fun x a l=>by simp) (fun x=>by simp) _ h.loan];show List.foldlM R (b.1,[]++b.2.1,[]++b.2.2.1,[]++b.2.2.2.1,tN.2.2.2.2) _=_;rw[List.foldlM_append,oF R adb (fun x l=>(x.1,x.2.1,x.2.2.1,x.2.2.2.1,x.2.2.2.2.1++l,x.2.2.2.2.2)) (fun x a l=>by simp) (fun x=>by simp) _ h.cmp];show List.foldlM R (b.1,[]++b.2.1,[]++b.2.2.1,[]++b.2.2.2.1,[]++b.2.2.2.2.1,tN.2.2.2.2.2) _=_;rw[oF R UJ (fun x l=>(x.1,x.2.1,x.2.2.1,x.2.2.2.1,x.2.2.2.2.1,x.2.2.2.2.2++l)) (fun x a l=>by simp) (fun x=>by simp) _ h.look];simp[tN]
def adE {R:ċ->BL×w9 BL->w8 ċ} {n:w9 BL->Nat->Int} {ps:w9 BL->w9 Int×w9 Int} {b:ċ} (h:rW lG b)
 (j:∀(ns:w9 Int) (r:w9 BL) (i:Nat),(∀m∈ns,lG m)->i<ns.length->n (kM ns++r) i=ns.getD i 0)
 (D:∀A B:w9 Int,(∀m∈A,lG m)->(∀m∈B,lG m)->ps ([97]::kM A++[98]::kM B)=(A,B))
 (o:∀x,∀p∈iB b,R x p=some (readW (n p.2) (ps (p.2.drop 6)) x p.1)):ahd R b:=by
 have a:∀(ns:w9 Int) (i:Nat),(∀m∈ns,lG m)->i<ns.length->n (kM ns) i=ns.getD i 0:=fun ns i G h2=>by
  have:=j ns [] i G h2
  rwa [df] at this
 have f:∀u:Int×Int,lG u.1/\lG u.2->n (kM [u.1,u.2]) 0=u.1/\n (kM [u.1,u.2]) 1=u.2:=fun u e=>by
  have:∀m∈[u.1,u.2],lG m:=fun m d=>by
   simp only[cP,ff,or_false] at d;rcases d with rfl|rfl
   ·exact e.1
   ·exact e.2
  exact⟨a _ 0 this (by simp),a _ 1 this (by simp)⟩
 refine⟨fun x=>?_,fun x g z=>?_,fun x u e=>?_,fun x l y=>?_,fun x c C=>?_,fun x u e=>?_⟩
 ·rw[o x _ (by unfold iB; exact List.mem_cons_self)];obtain⟨v,s⟩:=f b.1 h.film;unfold readW YL;dsimp only;rw[if_pos rfl,v,s]
 ·rw[o x _ (by unfold iB; simp only[List.mem_cons,List.mem_append]; exact .inr (.inl (List.mem_map.2 ⟨g,z,rfl⟩)))];have d:=h.gauges g z;unfold readW KI;dsimp only;rw[if_neg (by decide),if_pos rfl];rw[a _ 0 d (by simp),a _ 1 d (by simp),a _ 2 d (by simp),a _ 3 d (by simp),a _ 4 d (by simp),a _ 5 d (by simp),a _ 6 d (by simp),a _ 7 d (by simp)];rfl
 ·rw[o x _ (by unfold iB; simp only[List.mem_cons,List.mem_append]; exact .inr (.inr (.inl (List.mem_map.2 ⟨u,e,rfl⟩))))];obtain⟨v,s⟩:=f u (h.uses u e);unfold readW afH;dsimp only;rw[if_neg (by decide),if_neg (by decide),if_pos rfl,v,s]
 ·rw[o x _ (by unfold iB; simp only[List.mem_cons,List.mem_append]; exact .inr (.inr (.inr (.inl (List.mem_map.2 ⟨l,y,rfl⟩)))))];have d:=h.loans l y;unfold readW UK;dsimp only;rw[if_neg (by decide),if_neg (by decide),if_neg (by decide),if_pos rfl];rw[a _ 0 d (by simp),a _ 1 d (by simp),a _ 2 d (by simp),a _ 3 d (by simp)];rfl
 ·rw[o x _ (by unfold iB; simp only[List.mem_cons,List.mem_append]; exact .inr (.inr (.inr (.inr (.inl (List.mem_map.2 ⟨c,C,rfl⟩))))))];obtain⟨d,F,E,_⟩:=h.cmps c C;unfold readW adb;dsimp only;rw[if_neg (by decide),if_neg (by decide),if_neg (by decide),if_neg (by decide),if_pos rfl];rw[j _ _ 0 d (by simp),j _ _ 1 d (by simp),j _ _ 2 d (by simp),j _ _ 3 d (by simp),j _ _ 4 d (by simp),j _ _ 5 d (by simp)];rw[show(kM (cmpN c)++([97]::kM c.2.2.1++[98]::kM c.2.2.2.1)).drop 6=[97]::kM c.2.2.1++[98]::kM c.2.2.2.1 from rfl,D _ _ F E];rfl
 ·rw[o x _ (by unfold iB; simp only[List.mem_cons,List.mem_append]; exact .inr (.inr (.inr (.inr (.inr (List.mem_map.2 ⟨u,e,rfl⟩))))))];obtain⟨v,s⟩:=f u (h.looks u e);unfold readW UJ;dsimp only;rw[if_neg (by decide),if_neg (by decide),if_neg (by decide),if_neg (by decide),if_neg (by decide),if_pos rfl,v,s]
def XV {b:ċ} {p:BL×w9 BL} (a:p∈iB b) (x:ċ):vz x (iA p++[10])=some (readW (nC p.2) (zc (p.2.drop 6)) x p.1):=by
 unfold vz;rw[ZB,aev a];dsimp only
 have e:∃k,adP p.1=some k/\k<=p.2.length:=by
  unfold iB at a;simp only[List.mem_cons,List.mem_append,List.mem_map] at a;rcases a with rfl|⟨g,i,rfl⟩|⟨u,d,rfl⟩|⟨l,h,rfl⟩|⟨c,j,rfl⟩|⟨u,d,rfl⟩
  ·exact⟨2,rfl,cJ _⟩
  ·exact⟨8,rfl,cJ _⟩
  ·exact⟨2,rfl,cJ _⟩
  ·exact⟨4,rfl,cJ _⟩
  ·exact⟨6,rfl,by simp[adb]⟩
  ·exact⟨2,rfl,cJ _⟩
 obtain⟨k,f,h2⟩:=e;rw[f];dsimp only;rw[if_neg (by omega)]
def xS (b:ċ):g8 b=((iB b).map iA).flatMap fun l=>l++[10]:=by unfold g8; rw[List.flatMap_map]
def Fp {b:ċ} (h:rW lG b):(ζ (g8 b)).foldlM vz tN=some b:=by
 have c:ζ (g8 b)=(iB b).map fun p=>iA p++[10]:=by
  unfold ζ ks;rw[xS,Kt _ _ (fun l c=>by obtain⟨p,a,rfl⟩:=List.mem_map.1 c; exact SE a) (by rw[ã]; exact Nat.le_refl _)];rw[List.map_map,List.map_map]; rfl
 rw[c,List.foldlM_map];exact(adE (R:=fun x p=>vz x (iA p++[10])) (n:=nC) (ps:=zc) h (fun ns r i f h2=>nC_num f r h2) (fun A B e d=>aab e d) fun x p a=>XV a x).all
end Go.Proofs.ZzM
end

noncomputable section
namespace Go.Proofs.ZzM
open Go Go.Am
structure ac2 (b:ċ):Prop where
 piles:aeW b
 num:∀g∈b.2.1,I64 g.2.2.2.2.1.1
def In.fine {b:ċ} (h:In b):ac2 b:=⟨h.size.w,h.num⟩
def ac2.readW {n:Nat->Int} {ps:w9 Int×w9 Int} {b:ċ} {w:BL} (h:ac2 b) (i:I64 (n 5)) (f:ps.1.length<=100000/\ps.2.length<=100000):ac2 (readW n ps b w):=by
 obtain⟨a,h2⟩:=h;unfold ZzM.readW
 split
 ·exact⟨a,h2⟩
 split
 ·refine⟨a,fun g d=>?_⟩;rcases cO.1 d with d|d
  ·exact h2 g d
  ·rw[cT.1 d]; exact i
 split
 ·exact⟨a,h2⟩
 split
 ·exact⟨a,h2⟩
 split
 ·refine⟨fun c e=>?_,h2⟩;rcases cO.1 e with e|e
  ·exact a c e
  ·rw[cT.1 e]; exact f
 split
 ·exact⟨a,h2⟩
 ·exact⟨a,h2⟩
def XY (ws:w9 BL):(zc ws).1.length<=ws.length/\(zc ws).2.length<=ws.length:=by
 unfold zc
 cases ws with
 |nil=>simp
 |cons w r =>
  dsimp only
  split
  ·cases(w::r).findIdx? (fun v=>decide (v=[98]))<;>simp<;>omega
  ·simp
def fine0:ac2 tN:=⟨fun _ c=>(by cases c),fun _ a=>(by cases a)⟩
def fineC {b c:ċ} {l:BL} (h:ac2 b) (i:l.length<=100000) (e:vz b l=some c):ac2 c:=by
 unfold vz at e;have f:=OI l [10];obtain⟨w,r,d,g,_⟩:=Xd (l:=Lib.trimSuffix l [10]) (by omega);rw[d] at e;dsimp only at e
 cases a:adP w with
 |none=>rw[a] at e; cases e
 |some k =>
  rw[a] at e;dsimp only at e
  split at e
  ·cases e
  ·cases e;have:=XY (r.drop 6);rw[fD] at this;exact h.readW (acK _) ⟨by omega,by omega⟩
def SX:∀(c:w9 BL) (b a:ċ),ac2 b->(∀l∈c,l.length<=100000)->c.foldlM vz b=some a->ac2 a
 |[],b,a,h,_,e=>by cases e; exact h
 |l::c,b,a,h,f,e=>by
  rw[gE] at e
  cases d:vz b l with
  |none=>rw[d] at e; cases e
  |some i=>rw[d] at e; exact SX c i a (fineC h (f l (by simp)) d) (fun x g=>f x (by simp[g])) e
def Ql {b:ċ} (h:ac2 b):lB b=some (if il b≠0 then(ofL [],il b) else(ofL (g8 b),0)):=by
 have a:=TI h.piles h.num
 by_cases h0:il b=0
 ·rw[if_neg (by simp[h0])];exact adF (((iy b).1 h0).prints.mono fun n c=>c.i64) (by rw[a,h0])
 ·rw[if_pos h0];unfold lB DH;rw[a,Á,æ (by simpa[ine] using h0)]
def ZF {b a:ċ} (h:kE b) (h':kE a) (e:g8 b=g8 a):b=a:=by
 have c:=Fp h.prints;rw[e,Fp h'.prints] at c;exact(Option.some.inj c).symm
open Classical in
def A0 (t:BL):w8 ċ:=if h:∃b,kE b/\g8 b=t then some h.choose else none
def VP {b:ċ} (h:kE b):A0 (g8 b)=some b:=by
 have a:∃c,kE c/\g8 c=g8 b:=⟨b,h,rfl⟩;unfold A0;rw[dif_pos a];exact congrArg some (ZF a.choose_spec.1 h a.choose_spec.2)
def sa {t:BL} {b:ċ} (h:A0 t=some b):kE b/\g8 b=t:=by
 unfold A0 at h
 split at h
 ·rename_i a; cases h; exact a.choose_spec
 ·cases h
def Vp {t:BL} (i:t.length<=60000):pL (ofL t)=some (match A0 t with|some b=>(b,0)|none=>(tN,7)):=by
 have a:∀b,(ζ t).foldlM vz tN=some b->ac2 b:=fun b hb=>SX _ _ _ fine0 (fun l f=>by
  unfold ζ ks at f;obtain⟨y,h,rfl⟩:=List.mem_map.1 f;have:=(yc (ofL t).size (ofL t)).2 y h;rw[<-B0]
  exact cW this (by rw[ã]; omega)) hb
 rw[aeZ i]
 cases d:A0 t with
 |some b =>
  obtain⟨g,rfl⟩:=sa d;have hb:=Fp g.prints;rw[hb];dsimp only;rw[Ql (a b hb),(iy b).2 g,Á];simp
 |none =>
  cases j:(ζ t).foldlM vz tN with
  |none=>rfl
  |some b =>
   dsimp only;rw[Ql (a b j),Á]
   by_cases h0:il b=0
   ·have c:ofL (g8 b)≠ofL t:=fun e=>by
     have:=VP ((iy b).1 h0);rw[aao e,d] at this;cases this
    rw[show(if il b≠0 then(ofL [],il b) else(ofL (g8 b),0))=(ofL (g8 b),0) from if_neg (by simp[h0])];exact if_pos (.inr c)
   ·rw[show(if il b≠0 then(ofL [],il b) else(ofL (g8 b),0))=(ofL [],il b) from if_pos h0];exact if_pos (.inl h0)
end Go.Proofs.ZzM
end

noncomputable section
namespace Go.Proofs.ZzM
open Go Go.Am
section
variable {α:Type} (key:α->Int)
def Srt (l:w9 α):Prop:=l.Pairwise fun x y=>key x<=key y
def Stb (l s:w9 α):Prop:=∀k:Int,s.filter (fun x=>key x==k)=l.filter (fun x=>key x==k)
variable {key}
def Stb.refl (l:w9 α):Stb key l l:=fun _=>rfl
def Stb.symm {l s:w9 α} (h:Stb key l s):Stb key s l:=fun k=>(h k).symm
def Stb.trans {l s t:w9 α} (h:Stb key l s) (h2:Stb key s t):Stb key l t:=fun k=>(h2 k).trans (h k)
def Stb.append {l s a s':w9 α} (h:Stb key l s) (h2:Stb key a s'):Stb key (l++a) (s++s'):=fun k=>by
 rw[eP,eP,h k,h2 k]
def Stb.mem {l s:w9 α} (h:Stb key l s) {x:α}:x∈s↔x∈l:=by
 have:=h (key x);constructor
 ·intro a;have:x∈s.filter fun y=>key y==key x:=d9.2 ⟨a,by simp⟩;rw[h] at this;exact(d9.1 this).1
 ·intro a;have:x∈l.filter fun y=>key y==key x:=d9.2 ⟨a,by simp⟩;rw[<-h] at this;exact(d9.1 this).1
def Stb.swap {u v:w9 α} (h:∀x∈u,∀y∈v,key x≠key y):Stb key (u++v) (v++u):=fun k=>by
 rw[eP,eP]
 by_cases c:∃x∈u,key x=k
 ·obtain⟨x,d,rfl⟩:=c
  have:v.filter (fun y=>key y==key x)=[]:=List.filter_eq_nil_iff.2 fun y a=>by
   have:=h x d y a;simp; omega
  rw[this]; simp
 ·have:u.filter (fun y=>key y==k)=[]:=List.filter_eq_nil_iff.2 fun y a=>by
   simp;exact fun e=>c ⟨y,a,e⟩
  rw[this]; simp
def Stb.uniq:∀{s t:w9 α},Srt key s->Srt key t->Stb key s t->s=t
 |[],[],_,_,_=>rfl
 |[],y::t,_,_,h=>absurd ((h.mem (x:=y)).1 (by simp)) (by simp)
 |x::s,[],_,_,h=>absurd ((h.mem (x:=x)).2 (by simp)) (by simp)
 |x::s,y::t,l,j,h=>by
  have g:=dD.1 l;have h2:=dD.1 j
  have a:key x=key y:=by
   have o:key x<=key y:=by
    rcases cP.1 ((h.mem (x:=y)).1 (by simp)) with e|c
    ·rw[e]; exact eN _
    ·exact g.1 y c
   have n:key y<=key x:=by
    rcases cP.1 ((h.mem (x:=x)).2 (by simp)) with e|c
    ·rw[e]; exact eN _
    ·exact h2.1 x c
   omega
  have i:x=y:=by
   have:=h (key x);have d:(key y==key x)=true:=beq_iff_eq.2 a.symm;have f:(key x==key x)=true:=beq_iff_eq.2 rfl;simp only[eD,d,f,if_true] at this;exact(List.cons.inj this).1.symm
  subst i;congr 1;refine Stb.uniq g.2 h2.2 fun k=>?_;have:=h k
  by_cases a:key x=k
  ·rw[List.filter_cons_of_pos (by simp[a]),List.filter_cons_of_pos (by simp[a])] at this;exact(List.cons.inj this).2
  ·rw[List.filter_cons_of_neg (by simp[a]),List.filter_cons_of_neg (by simp[a])] at this;exact this
variable (key)
def YE (x:α):w9 α->w9 α
 |[]=>[x]
 |y::l=>if key x<=key y then x::y::l else y::YE x l
def Ĵ (l:w9 α):w9 α:=l.foldr (YE key) []
variable {key}
def PJ (x:α):∀l:w9 α,Stb key (x::l) (YE key x l)
 |[]=>Stb.refl _
 |y::l=>by
  unfold YE
  split
  ·exact Stb.refl _
  ·rename_i h;refine Stb.trans (s:=y::x::l) ?_ fun k=>?_
   ·have:=Stb.swap (key:=key) (u:=[x]) (v:=[y]) (fun a ha b hb=>by simp at ha hb; subst ha hb; omega);exact(this.append (Stb.refl l))
   ·have:=PJ x l k;simp only[eD];rw[this];simp only[eD]
def aef {x z:α} {l:w9 α}:z∈YE key x l↔z=x\/z∈l:=by
 rw[(PJ x l).mem,cP]
def WM (x:α):∀{l:w9 α},Srt key l->Srt key (YE key x l)
 |[],_=>fB _ _
 |y::l,h=>by
  have d:=List.pairwise_cons.1 h;unfold YE
  split
  ·rename_i c;refine List.Pairwise.cons (fun z a=>?_) h;rcases cP.1 a with rfl|a
   ·exact c
   ·exact Int.le_trans c (d.1 z a)
  ·rename_i c;refine List.Pairwise.cons (fun z a=>?_) (WM x d.2);rcases aef.1 a with rfl|a
   ·omega
   ·exact d.1 z a
def jJ:∀l:w9 α,Srt key (Ĵ key l)
 |[]=>List.Pairwise.nil
 |x::l=>WM x (jJ l)
def ł:∀l:w9 α,Stb key l (Ĵ key l)
 |[]=>Stb.refl _
 |x::l=>by
  have:Stb key (x::l) (x::Ĵ key l):=(Stb.refl [x]).append (ł l);exact this.trans (PJ x _)
def uE {l s:w9 α} (h:Srt key s) (h2:Stb key l s):Ĵ key l=s:=Stb.uniq (jJ l) h ((ł l).symm.trans h2)
def Stb.perm {l s:w9 α} [DecidableEq α] (h:Stb key l s):s.Perm l:=by
 rw[List.perm_iff_count];intro x
 have e:∀l:w9 α,l.count x=(l.filter fun y=>key y==key x).count x:=fun l=>by
  rw[List.count_filter];simp
 rw[e s,e l,h]
def Stb.length {l s:w9 α} (h:Stb key l s):s.length=l.length:=by
 classical
 exact h.perm.length_eq
def Srt.append {l s:w9 α} (h:Srt key l) (h2:Srt key s) (a:∀x∈l,∀y∈s,key x<=key y):Srt key (l++s):=gb.2 ⟨h,h2,a⟩
def Srt.parts {l s:w9 α} (h:Srt key (l++s)):Srt key l/\Srt key s/\∀x∈l,∀y∈s,key x<=key y:=gb.1 h
end
abbrev Way:=w9 (w9 Int)
abbrev ε:=a7
def Č (m:ε) (x:Way):Int:=(Ĩ m x).getD 0
def WOk (m:ε) (l:w9 Way):Prop:=∀x∈l,Ĩ m x=some (Č m x)
section
variable {ρ:Type} {m:ε}
def agY (a b:Int):δ a b=some (if a<b then -1 else if b<a then 1 else 0):=by
 unfold δ td lq xm
 have e:∀x:Int,ine x x=false:=fun x=>by simp[ine]
 rw[e,e,Á,Á,ê,ê]
 by_cases h:a<b
 ·rw[æ (decide_eq_true h),if_pos h]
 ·rw[Õ (decide_eq_false h),if_neg h]
  by_cases h2:b<a
  ·rw[æ (decide_eq_true h2),if_pos h2]
  ·rw[Õ (decide_eq_false h2),if_neg h2]
def Qv {x y:Way} (c:Ĩ m x=some (Č m x)) (a:Ĩ m y=some (Č m y)):jj x y m=some (if Č m x<Č m y then -1 else if Č m y<Č m x then 1 else 0):=by
 unfold jj NK;rw[c,Á,a,Á,agY,Á]
def WJ {x y:Way} (c:Ĩ m x=some (Č m x)) (a:Ĩ m y=some (Č m y)) (X Y:w8 ρ):(Ã (jj x y m) fun r=>ifb (ilt r (0:Int)) X Y)=if Č m x<Č m y then X else Y:=by
 rw[Qv c a,Á]
 by_cases h:Č m x<Č m y
 ·rw[if_pos h,if_pos h]; rfl
 ·rw[if_neg h,if_neg h]
  by_cases h2:Č m y<Č m x
  ·rw[if_pos h2]; rfl
  ·rw[if_neg h2]; rfl
def agC {α:Type} (A:w9 α) (x:α) (B:w9 α):(A++x::B)[A.length]?=some x:=by simp
def afU {α:Type} (A:w9 α) (x y:α) (B:w9 α):(A++x::B).set A.length y=A++y::B:=by simp
def iz {α:Type} {l A B:w9 α} {x:α} {i:Int} (h:l=A++x::B) (hi:i=A.length) (K:α->w8 ρ):(Ú ((ile (0:Int) i)&&(ilt i (ï l))) (ĵ l (Int.toNat i) K))=K x:=by
 subst h hi;rw[Į (by simp[ile,ilt,ï]; omega),dc,xW (agC A x B)]
def FT {α:Type} {l A B:w9 α} {x:α} {i:Int} (h:l=A++x::B) (hi:i=A.length) (y:α):List.set l (Int.toNat i) y=A++y::B:=by
 subst h hi;rw[dc,afU]
def ins_L1 {c0:Int} {A C:w9 Way} {x y:Way} (g:Ĩ m x=some (Č m x)) (f:Ĩ m y=some (Č m y)) (j:c0<=A.length) (i:A.length<=1000000) (d:Int->w9 Way->w8 ρ) (k0:w9 Way->w8 ρ) :
 å c0 m.1.1.1 m.1.1.2 m.1.2.1 m.1.2.2.1 m.1.2.2.2.1 m.1.2.2.2.2.1 m.1.2.2.2.2.2 m.2 ((A.length:Int)+1) (A++y::x::C) d k0 =
  if Č m x<Č m y then d A.length (A++x::y::C) else k0 (A++y::x::C):=by
 have h:((A.length:Int)+1-1)=A.length:=by omega
 have a:A++y::x::C=(A++[y])++x::C:=by simp
 have c:((A.length:Int)+1)=(A++[y]).length:=by simp
 unfold å;rw[æ (decide_eq_true (by omega)),iz a c,h,Ù (by omega) (by omega),iz (A:=A) (x:=y) (B:=x::C) rfl rfl];refine(WJ g f _ _).trans ?_
 split
 ·rw[Ù (by omega) (by omega),Ù (by omega) (by omega),iz (A:=A) (x:=y) (B:=x::C) rfl rfl,iz a c,iz a c,FT a c]
  have e:A++[y]++y::C=A++y::y::C:=by simp
  rw[e,iz (A:=A) (x:=y) (B:=y::C) rfl rfl,FT (A:=A) (x:=y) (B:=y::C) rfl rfl,Ù (by omega) (by omega)]
 ·rfl
def aee {c0:Int} {P S Q:w9 Way} {x:Way} (G:c0=P.length) (C:Srt (Č m) S) (z:WOk m (x::S)) (J:P.length+S.length<=1000000) (K:w9 Way->w8 ρ) :
 É (fun(v:Int×w9 Way) F=>å c0 m.1.1.1 m.1.1.2 m.1.2.1 m.1.2.2.1 m.1.2.2.2.1 m.1.2.2.2.2.1 m.1.2.2.2.2.2 m.2 v.1 v.2 (fun a b=>F (a,b)) K) (((P.length+S.length:Nat):Int),P++(S++x::Q))=K (P++(Ĵ (Č m) (S++[x])++Q)):=by
 subst G;have n:=z x (by simp)
 -- when it stops
 have stop:∀A B:w9 Way,S=A++B->(∀t∈B,Č m x<Č m t)->(∀t∈A,Č m t<=Č m x)->Ĵ (Č m) (S++[x])=A++x::B:=fun A B c i j=>by
  subst c;obtain⟨r,h2,o⟩:=C.parts;refine uE ?_ ?_
  ·refine r.append (List.Pairwise.cons (fun t d=>by have:=i t d; omega) h2) fun a ha b hb=>?_;rcases cP.1 hb with rfl|hb
   ·exact j a ha
   ·exact o a ha b hb
  ·have:=Stb.swap (key:=Č m) (u:=B) (v:=[x]) (fun a ha b hb=>by simp at hb; subst hb; have:=i a ha; omega);have D:=(Stb.refl (key:=Č m) A).append this;rw[<-cS] at D;exact D
 refine ġ (fun v:Int×w9 Way=>∃A B:w9 Way,S=A++B/\(∀t∈B,Č m x<Č m t)/\v=(((P.length+A.length:Nat):Int),P++(A++x::(B++Q)))) (fun v=>v.1.toNat) ?_ ⟨S,[],by simp,by simp,by simp⟩;rintro v ⟨A,B,c,i,rfl⟩
 cases j:A.reverse with
 |nil =>
  have f:A=[]:=by simpa using j
  subst f;refine .inl fun g=>?_;dsimp only;unfold å;rw[Õ (decide_eq_false (by simp)),stop [] B c i (by simp)];simp
 |cons y E =>
  have f:A=E.reverse++[y]:=by
   have:=congrArg List.reverse j;simpa using this
  generalize E.reverse=A1 at f;subst f;have l:Ĩ m y=some (Č m y):=z y (by rw[c]; simp)
  have e:∀g:Int×w9 Way->w8 ρ,å (P.length:Int) m.1.1.1 m.1.1.2 m.1.2.1 m.1.2.2.1 m.1.2.2.2.1 m.1.2.2.2.2.1 m.1.2.2.2.2.2 m.2 ((P.length+(A1++[y]).length:Nat):Int) (P++(A1++[y]++x::(B++Q))) (fun a b=>g (a,b)) K =
   if Č m x<Č m y then g (((P.length+A1.length:Nat):Int),P++(A1++x::(y::B++Q))) else K (P++(A1++[y]++x::(B++Q))):=fun g=>by
   have I:((P.length+(A1++[y]).length:Nat):Int)=((P++A1).length:Int)+1:=by simp; omega
   have H:P++(A1++[y]++x::(B++Q))=(P++A1)++y::x::(B++Q):=by simp
   have s:A1.length<=S.length:=by rw[c]; simp
   rw[I,H,ins_L1 n l (by simp; omega) (by simp; omega)];simp
  by_cases h:Č m x<Č m y
  ·refine .inr ⟨(((P.length+A1.length:Nat):Int),P++(A1++x::(y::B++Q))),⟨A1,y::B,by rw[c]; simp,fun t d=>?_,rfl⟩,by simp; omega,fun g=>(e g).trans (if_pos h)⟩;rcases cP.1 d with rfl|d
   ·exact h
   ·exact i t d
  ·refine .inl fun g=>(e g).trans ?_;rw[if_neg h,stop (A1++[y]) B c i fun t d=>?_]
   ·simp
   ·obtain⟨r,_,_⟩:=Srt.parts (c▸C);obtain⟨_,_,o⟩:=Srt.parts r;rcases cO.1 d with d|d
    ·have:=o t d y (by simp); omega
    ·simp at d; subst d; omega
def WOk.sub {l s:w9 Way} (h:WOk m l) (c:∀x∈s,x∈l):WOk m s:=fun x a=>h x (c x a)
def Gw {P M Q:w9 Way} (r:WOk m M) (u:P.length+M.length<=1000000):ä (P++(M++Q)) P.length ((P.length+M.length:Nat):Int) m=some (P++(Ĵ (Č m) M++Q),m):=by
 unfold ä Ř;rw[Ù (by omega) (by omega)];refine ġ (fun v:Int×w9 Way=>(M.length=0/\v=((P.length:Int)+1,P++(M++Q)))\/∃k:Nat,1<=k/\k<=M.length/\v=(((P.length+k:Nat):Int),P++(Ĵ (Č m) (M.take k)++(M.drop k++Q)))) (fun v=>(P.length+M.length+1)-v.1.toNat) ?_ ?_
 ·rintro v (⟨h0,rfl⟩|⟨k,s,l,rfl⟩)
  ·refine .inl fun g=>?_;have:M=[]:=List.length_eq_zero_iff.1 h0;subst this;dsimp only;unfold Ć;rw[Õ (decide_eq_false (by simp; omega))];rfl
  ·rcases gk l with h|rfl
   ·have o:M[k]?=some M[k]:=cI h;have hd:M.drop k=M[k]::M.drop (k+1):=du h;have n:M.take (k+1)=M.take k++[M[k]]:=take_succ o;have c:M[k]∈M:=fG h;generalize M[k]=x at o hd n c
    have j:(Ĵ (Č m) (M.take k)).length=k:=by rw[(ł _).length]; simp; omega
    refine .inr ⟨(((P.length+(k+1):Nat):Int),P++(Ĵ (Č m) (M.take (k+1))++(M.drop (k+1)++Q))),.inr ⟨k+1,by omega,h,rfl⟩,by dsimp only; omega,fun g=>?_⟩;dsimp only;unfold Ć;rw[æ (decide_eq_true (by omega)),hd]
    have:=aee (m:=m) (c0:=(P.length:Int)) (P:=P) (S:=Ĵ (Č m) (M.take k)) (Q:=M.drop (k+1)++Q) (x:=x) rfl (jJ _) (fun y i=>by
     rcases cP.1 i with rfl|i
     ·exact r _ c
     ·exact r _ (fg ((ł _).mem.1 i))) (by omega) (fun d=>ck (((P.length+k:Nat):Int)+(1:Int)) fun f=>g (f,d))
    rw[j] at this;refine this.trans ?_;rw[Ù (by omega) (by omega)];congr 1;refine Prod.ext (by dsimp only; omega) ?_;dsimp only
    have e:Ĵ (Č m) (Ĵ (Č m) (M.take k)++[x])=Ĵ (Č m) (M.take (k+1)):=by
     rw[n];exact uE (jJ _) (((ł (M.take k)).append (Stb.refl [x])).symm.trans (ł _))
    rw[e]
   ·refine .inl fun g=>?_;dsimp only;unfold Ć;rw[Õ (decide_eq_false (by omega))];simp
 ·cases M with
  |nil=>exact .inl ⟨rfl,rfl⟩
  |cons a M =>
   refine .inr ⟨1,cJ _,by simp,?_⟩;refine Prod.ext (by simp) ?_;simp[Ĵ,YE]
end
section
variable {ρ:Type} {m:ε}
def rot_L2:(Χ (ρ:=ρ))=(ą (ρ:=ρ)):=rfl
def rot_L3:(Υ (ρ:=ρ))=(ą (ρ:=ρ)):=rfl
def tP {A U B V C:w9 Way} (J:V.length=U.length) {a b n:Int} (ha:a=A.length) (hb:b=((A.length+U.length+B.length:Nat):Int)) (g:n=U.length) (O:A.length+U.length+B.length+V.length<=1000000) (K:w9 Way->w8 ρ) :
 É (fun(v:Int×w9 Way) F=>ą a b n v.1 v.2 (fun x y=>F (x,y)) K) ((0:Int),A++(U++(B++(V++C))))=K (A++(V++(B++(U++C)))):=by
 subst ha hb g;refine Ζ (List.replicate U.length ()) (fun i=>A++(V.take i++(U.drop i++(B++(U.take i++(V.drop i++C)))))) _ (by simp) (fun i x hi I E=>?_) (fun E=>?_)
 ·try dsimp only
  rw[fL] at hi;have r:U.drop i=U[i]::U.drop (i+1):=du hi;have o:V.drop i=V[i]::V.drop (i+1):=du (by omega);have d:U.take (i+1)=U.take i++[U[i]]:=take_succ (cI hi);have c:V.take (i+1)=V.take i++[V[i]]:=take_succ (cI (by omega));generalize U[i]=u at r d;generalize V[i]=v at o c
  have H:(U.take i).length=i:=by simp; omega
  have G:(V.take i).length=i:=by simp; omega
  have D:(U.drop (i+1)).length=U.length-(i+1):=by simp
  rw[r,o,d,c];generalize U.drop (i+1)=U2 at *;generalize V.drop (i+1)=V2 at *;generalize U.take i=U1 at *;generalize V.take i=V1 at *;unfold ą
  -- the places
  have e:A++(V1++(u::U2++(B++(U1++(v::V2++C)))))=(A++V1)++u::(U2++(B++(U1++(v::V2++C)))):=by simp
  have s:A++(V1++(u::U2++(B++(U1++(v::V2++C)))))=(A++(V1++(u::U2++(B++U1))))++v::(V2++C):=by simp
  have f:(A.length:Int)+i=(A++V1).length:=by simp; omega
  have z:((A.length+U.length+B.length:Nat):Int)+i=(A++(V1++(u::U2++(B++U1)))).length:=by simp; omega
  have h:(A++V1)++v::(U2++(B++(U1++(v::V2++C))))=(A++(V1++(v::U2++(B++U1))))++v::(V2++C):=by simp
  have j:((A.length+U.length+B.length:Nat):Int)+i=(A++(V1++(v::U2++(B++U1)))).length:=by simp; omega
  rw[æ (decide_eq_true (by omega)),Ù (by omega) (by omega),Ù (by omega) (by omega),Ù (by omega) (by omega),iz s z,Ù (by omega) (by omega),iz e f,iz e f,FT e f,iz h j,FT h j,Ù (by omega) (by omega)];simp
 ·try dsimp only
  unfold ą;rw[List.length_replicate,Õ (decide_eq_false (by omega))];rw[List.take_of_length_le (l:=V) (by omega),List.drop_of_length_le (l:=U) (by omega),List.take_of_length_le (l:=U) (by omega),List.drop_of_length_le (l:=V) (by omega)];simp
def Z0 {A U V C:w9 Way} (E:1<=U.length) (D:1<=V.length) (G:A.length+U.length+V.length<=1000000) :
 Ī (A++(U++(V++C))) A.length ((A.length+U.length:Nat):Int) ((A.length+U.length+V.length:Nat):Int) m=some (A++(V++(U++C)),m):=by
 unfold Ī iM;rw[Ù (by omega) (by omega),Ù (by omega) (by omega)];refine ġ (fun v:Int×Int×w9 Way=>∃L X Y R:w9 Way,1<=X.length/\1<=Y.length/\L.length+X.length=U.length/\Y.length+R.length=V.length/\L++(Y++(X++R))=V++U/\v=((X.length:Int),(Y.length:Int),A++(L++(X++(Y++(R++C)))))) (fun v=>v.1.toNat+v.2.1.toNat) ?_ ⟨[],U,V,[],E,D,by simp,by simp,by simp,?_⟩
 rotate_left
 ·rw[Prod.mk.injEq,Prod.mk.injEq];refine⟨?_,?_,by simp⟩
  ·show((A.length+U.length:Nat):Int)-(A.length:Int)=(U.length:Int);omega
  ·show((A.length+U.length+V.length:Nat):Int)-((A.length+U.length:Nat):Int)=(V.length:Int);omega
 rintro v ⟨L,X,Y,R,H,hY,f,h2,y,rfl⟩
 by_cases d:X.length=Y.length
 ·refine .inl fun j=>?_;dsimp only;unfold ħ;rw[Õ (by simp[ine,d])];dsimp only;rw[rot_L3,Ù (by omega) (by omega)];have:=tP (A:=A++L) (U:=X) (B:=[]) (V:=Y) (C:=R++C) d.symm (a:=((A.length+U.length:Nat):Int)-X.length) (b:=((A.length+U.length:Nat):Int)) (n:=X.length) (by simp; omega) (by simp; omega) rfl (by simp; omega) (fun l=>some (l,m))
  have i:(A++L)++(X++([]++(Y++(R++C))))=A++(L++(X++(Y++(R++C)))):=by simp
  rw[i] at this;refine this.trans ?_
  have F:A++L++(Y++([]++(X++(R++C))))=A++((L++(Y++(X++R)))++C):=by simp
  rw[F,y];simp
 ·by_cases h:Y.length<X.length
  ·-- the first part of X and Y change places
   have g:(X.take Y.length).length=Y.length:=by simp; omega
   have c:(X.drop Y.length).length=X.length-Y.length:=by simp
   have ex:X=X.take Y.length++X.drop Y.length:=(dT _ _).symm;generalize X.take Y.length=X1 at g ex;generalize X.drop Y.length=X2 at c ex;subst ex;refine .inr ⟨((X2.length:Int),(X1.length:Int),A++((L++Y)++(X2++(X1++(R++C))))),⟨L++Y,X2,X1,R,by simp at c h; omega,by omega,by simp at f ⊢; omega,by omega,?_,rfl⟩,by simp at c ⊢; omega,fun j=>?_⟩
   ·rw[<-y]; simp
   ·dsimp only;unfold ħ;have e:ine ((X1++X2).length:Int) (Y.length:Int)=true:=bne_iff_ne.2 (by omega);rw[æ e,æ (decide_eq_true (by omega)),Ù (by simp at f ⊢; omega) (by simp at f ⊢; omega)];have:=tP (A:=A++L) (U:=X1) (B:=X2) (V:=Y) (C:=R++C) g.symm (a:=((A.length+U.length:Nat):Int)-(X1++X2).length) (b:=((A.length+U.length:Nat):Int)) (n:=Y.length) (by simp at f ⊢; omega) (by simp at f ⊢; omega) (by omega) (by simp at f ⊢; omega) (fun r=>ck (((X1++X2).length:Int)-(Y.length:Int)) fun u=>j (u,((Y.length:Int),r)))
    have i:(A++L)++(X1++(X2++(Y++(R++C))))=A++(L++(X1++X2++(Y++(R++C)))):=by simp
    rw[i] at this;refine this.trans ?_;rw[Ù (by simp; omega) (by simp; omega)];congr 1;rw[Prod.mk.injEq,Prod.mk.injEq];exact⟨by simp; omega,by omega,by simp⟩
  ·have g:(Y.drop (Y.length-X.length)).length=X.length:=by simp; omega
   have c:(Y.take (Y.length-X.length)).length=Y.length-X.length:=by simp
   have z:Y=Y.take (Y.length-X.length)++Y.drop (Y.length-X.length):=(dT _ _).symm;generalize Y.take (Y.length-X.length)=Y1 at c z;generalize Y.drop (Y.length-X.length)=Y2 at g z;subst z;refine .inr ⟨((Y2.length:Int),(Y1.length:Int),A++(L++(Y2++(Y1++((X++R)++C))))),⟨L,Y2,Y1,X++R,by omega,by simp at c d h; omega,by omega,by simp at h2 ⊢; omega,?_,rfl⟩,by simp at c ⊢; omega,fun j=>?_⟩
   ·rw[<-y]; simp
   ·dsimp only;unfold ħ;have e:ine (X.length:Int) ((Y1++Y2).length:Int)=true:=bne_iff_ne.2 (by omega);rw[æ e,Õ (decide_eq_false (by omega)),rot_L2,Ù (by omega) (by omega),Ù (by simp at h2 ⊢; omega) (by simp at h2 ⊢; omega),Ù (by simp at h2 ⊢; omega) (by simp at h2 ⊢; omega)];have:=tP (A:=A++L) (U:=X) (B:=Y1) (V:=Y2) (C:=R++C) g (a:=((A.length+U.length:Nat):Int)-X.length) (b:=((A.length+U.length:Nat):Int)+((Y1++Y2).length:Int)-X.length) (n:=X.length) (by simp; omega) (by simp; omega) rfl (by simp at h2 ⊢; omega) (fun o=>ck (((Y1++Y2).length:Int)-(X.length:Int)) fun s=>j ((X.length:Int),(s,o)))
    have i:(A++L)++(X++(Y1++(Y2++(R++C))))=A++(L++(X++(Y1++Y2++(R++C)))):=by simp
    rw[i] at this;refine this.trans ?_;rw[Ù (by simp; omega) (by simp; omega)];congr 1;rw[Prod.mk.injEq,Prod.mk.injEq];exact⟨by omega,by simp; omega,by simp⟩
end
def agB {n:Nat} (h:n<=10000000):IntKind.wrap .i64 (ir .u64 (IntKind.wrap .u64 (n:Int)) (1:Int))=((n / 2:Nat):Int):=by
 have c:IntKind.wrap .u64 (n:Int)=n:=by
  simp[IntKind.wrap,IntKind.bits,IntKind.signed];omega
 rw[c]
 have a:ir .u64 (n:Int) 1=((n / 2:Nat):Int):=by
  unfold ir
  have:(2:Int) ^ (min (Int.toNat 1) IntKind.u64.bits)=2:=by decide
  rw[this,Int.fdiv_eq_ediv_of_nonneg _ (by omega)];omega
 rw[a];simp[IntKind.wrap,IntKind.bits,IntKind.signed];omega
section
variable {ρ:Type} {m:ε}
abbrev acX:=w9 Way->Int->Int->Int->ε->w8 (w9 Way×ε)
def Xo (p:Nat->Prop) [DecidablePred p] {lo:Nat}:∀(n:Nat),(∀c c',lo<=c->c<=c'->c'<lo+n->p c'->p c)->∃s,lo<=s/\s<=lo+n/\(∀c,lo<=c->c<s->p c)/\∀c,s<=c->c<lo+n->¬p c
 |0,_=>⟨lo,cJ _,cJ _,fun c d h2=>by omega,fun c d h2=>by omega⟩
 |n+1,h=>by
  obtain⟨s,d,h2,j,i⟩:=Xo p (lo:=lo) n fun c c' o l a3=>h c c' o l (by omega)
  by_cases g:p (lo+n)
  ·exact⟨lo+n+1,by omega,by omega,fun c a f=>h c (lo+n) a (by omega) (by omega) g,fun c a f=>by omega⟩
  ·refine⟨s,d,by omega,j,fun c a f=>?_⟩
   by_cases e:c=lo+n
   ·rw[e]; exact g
   ·exact i c a (by omega)
def Vf {f:Int×Int->(Int×Int->w8 ρ)->w8 ρ} {K:Int->w8 ρ} {lo hi:Nat} (C:lo<=hi) (p:Nat->Prop) [DecidablePred p] (g:∀c c',lo<=c->c<=c'->c'<hi->p c'->p c)
 (step:∀i j:Nat,lo<=i->i<j->j<=hi->∀a,f ((i:Int),(j:Int)) a=if p ((i+j) / 2) then a ((((i+j) / 2+1:Nat):Int),(j:Int)) else a ((i:Int),(((i+j) / 2:Nat):Int)))
 (stop:∀i:Nat,lo<=i->i<=hi->∀a,f ((i:Int),(i:Int)) a=K i) :
 ∃s,lo<=s/\s<=hi/\(∀c,lo<=c->c<s->p c)/\(∀c,s<=c->c<hi->¬p c)/\É f ((lo:Int),(hi:Int))=K (s:Nat):=by
 obtain⟨s,y,h2,u,r⟩:=Xo p (lo:=lo) (hi-lo) fun c c' E D a3=>g c c' E D (by omega);refine⟨s,y,by omega,u,fun c d o=>r c d (by omega),?_⟩;refine ġ (fun v:Int×Int=>∃i j:Nat,lo<=i/\i<=s/\s<=j/\j<=hi/\v=((i:Int),(j:Int))) (fun v=>v.2.toNat-v.1.toNat) ?_ ⟨lo,hi,cJ _,y,by omega,cJ _,rfl⟩;rintro v ⟨i,j,d,o,z,l,rfl⟩;rcases dA i j with h|h
 ·by_cases n:p ((i+j) / 2)
  ·refine .inr ⟨_,⟨(i+j) / 2+1,j,by omega,?_,z,l,rfl⟩,by dsimp only; omega,fun a=>by rw[step i j d h l,if_pos n]⟩;rcases Nat.lt_or_ge ((i+j) / 2) s with e|e
   ·omega
   ·exact absurd n (r _ e (by omega))
  ·refine .inr ⟨_,⟨i,(i+j) / 2,d,o,?_,by omega,rfl⟩,by dsimp only; omega,fun a=>by rw[step i j d h l,if_neg n]⟩;rcases Nat.lt_or_ge ((i+j) / 2) s with e|e
   ·exact absurd (u _ (by omega) e) n
   ·exact e
 ·obtain rfl:i=j:=by omega
  obtain rfl:i=s:=by omega
  exact .inl fun a=>stop i d l a
def Yc (g:acX) {P B C:w9 Way} {x:Way} {c0:Int} (u:c0=((P.length+B.length+1:Nat):Int)) (z:P.length+B.length<=1000000) (K:w9 Way->w8 ρ) :
 É (fun(v:Int×w9 Way) s=>ì g c0 v.1 v.2 (fun a b=>s (a,b)) K) ((P.length:Int),P++(x::(B++C)))=K (P++(B++x::C)):=by
 subst u;refine ġ (fun v:Int×w9 Way=>∃c d:w9 Way,B=c++d/\v=(((P.length+c.length:Nat):Int),P++(c++x::(d++C)))) (fun v=>(P.length+B.length+1)-v.1.toNat) ?_ ⟨[],B,rfl,rfl⟩;rintro v ⟨c,d,e,rfl⟩
 cases d with
 |nil =>
  refine .inl fun r=>?_;rw[List.append_nil] at e;subst e;dsimp only;unfold ì;rw[Ù (by omega) (by omega),Õ (decide_eq_false (by omega))];rfl
 |cons y d =>
  have l:B.length=c.length+d.length+1:=by rw[e]; simp; omega
  refine .inr ⟨(((P.length+(c++[y]).length:Nat):Int),P++((c++[y])++x::(d++C))),⟨c++[y],d,by rw[e]; simp,rfl⟩,by simp; omega,fun r=>?_⟩;dsimp only;unfold ì
  have f:P++(c++x::(y::d++C))=(P++c)++x::(y::(d++C)):=by simp
  have h:((P.length+c.length:Nat):Int)=(P++c).length:=by simp
  have n:P++(c++x::(y::d++C))=(P++c++[x])++y::(d++C):=by simp
  have o:((P.length+c.length:Nat):Int)+1=(P++c++[x]).length:=by simp; omega
  have i:(P++c)++y::(y::(d++C))=(P++c++[y])++y::(d++C):=by simp
  have j:((P.length+c.length:Nat):Int)+1=(P++c++[y]).length:=by simp; omega
  rw[Ù (by omega) (by omega),æ (decide_eq_true (by omega)),Ù (by omega) (by omega),Ù (by omega) (by omega),iz n o,iz f h,iz f h,FT f h,iz i j,FT i j,Ù (by omega) (by omega)];congr 1
  ·simp; omega
  ·simp
def aaC (h:acX) {P B C:w9 Way} {x:Way} {c0:Int} (D:c0=(P.length:Int)) (F:P.length+B.length<=1000000) (K:w9 Way->w8 ρ) :
 É (fun(v:Int×w9 Way) z=>ë h c0 v.1 v.2 (fun a b=>z (a,b)) K) (((P.length+B.length:Nat):Int),P++(B++x::C))=K (P++(x::(B++C))):=by
 subst D;refine ġ (fun v:Int×w9 Way=>∃d c:w9 Way,B=d++c/\v=(((P.length+d.length:Nat):Int),P++(d++x::(c++C)))) (fun v=>v.1.toNat) ?_ ⟨B,[],by simp,by simp⟩;rintro v ⟨d,c,l,rfl⟩
 cases e:d.reverse with
 |nil =>
  have:d=[]:=by simpa using e
  subst this;refine .inl fun u=>?_;dsimp only;unfold ë;rw[Õ (decide_eq_false (by simp)),l];simp
 |cons y r =>
  have f:d=r.reverse++[y]:=by
   have:=congrArg List.reverse e;simpa using this
  generalize r.reverse=A1 at f;subst f
  have o:B.length=A1.length+1+c.length:=by rw[l]; simp; omega
  refine .inr ⟨(((P.length+A1.length:Nat):Int),P++(A1++x::(y::c++C))),⟨A1,y::c,by rw[l]; simp,rfl⟩,by simp; omega,fun u=>?_⟩;dsimp only;unfold ë
  have E:((P.length+(A1++[y]).length:Nat):Int)-1=((P.length+A1.length:Nat):Int):=by simp; omega
  have s:P++(A1++[y]++x::(c++C))=(P++A1)++y::(x::(c++C)):=by simp
  have j:((P.length+A1.length:Nat):Int)=(P++A1).length:=by simp
  have g:P++(A1++[y]++x::(c++C))=(P++A1++[y])++x::(c++C):=by simp
  have i:((P.length+(A1++[y]).length:Nat):Int)=(P++A1++[y]).length:=by simp
  have n:(P++A1++[y])++y::(c++C)=(P++A1)++y::(y::(c++C)):=by simp
  rw[æ (decide_eq_true (by simp; omega)),E,Ù (by omega) (by omega),Ù (by omega) (by omega),iz s j,iz g i,iz g i,FT g i,iz n j,FT n j,Ù (by omega) (by omega)];congr 1;simp
end
section
variable {ρ:Type} {m:ε}
def symS (a:acX) (mid e b:Int) (k:w9 Way×ε->w8 ρ) (l:w9 Way) (c:ε):w8 ρ :=
 ifb (ilt mid e) (ifb (ilt e b) (Ã (a l mid e b c) fun r=>k (r.1,r.2)) (k (l,c))) (k (l,c))
def symR (c:acX) (a z mid e b:Int) (k:w9 Way×ε->w8 ρ) (l:w9 Way) (d:ε):w8 ρ :=
 ifb (ilt a z) (ifb (ilt z mid) (Ã (c l a z mid d) fun r=>symS c mid e b k r.1 r.2) (symS c mid e b k l d)) (symS c mid e b k l d)
def afM (d:acX) (l:w9 Way) (a c b mid n:Int) (f:ε) (k:w9 Way×ε->w8 ρ) (z:Int):w8 ρ :=
 ck (n-z) fun e=>ifb (ilt z c) (ifb (ilt c e) (Ã (Ī l z c e f) fun r=>symR d a z mid e b k r.1 r.2) (symR d a z mid e b k l f)) (symR d a z mid e b k l f)
def YG (n:Int):Int:=IntKind.wrap .i64 (ir .u64 (IntKind.wrap .u64 n) (1:Int))
def sym_eq (e:acX) (l:w9 Way) (a c b:Int) (d:ε) (k:w9 Way×ε->w8 ρ):Ě e l a c b d k =
 ck (c-a) fun n1=>ifb (ieq n1 (1:Int)) (É (fun(v:Int×Int) h=>ô e a l d.1.1.1 d.1.1.2 d.1.2.1 d.1.2.2.1 d.1.2.2.2.1 d.1.2.2.2.2.1 d.1.2.2.2.2.2 d.2 v.1 v.2 (fun x y=>h (x,y)) (fun z=>É (fun(v:Int×w9 Way) h=>ì e z v.1 v.2 (fun x y=>h (x,y)) (fun n=>k (n,d))) (a,l))) (c,b))
  (ck (b-c) fun u=>ifb (ieq u (1:Int)) (É (fun(v:Int×Int) h=>ó e c l d.1.1.1 d.1.1.2 d.1.2.1 d.1.2.2.1 d.1.2.2.2.1 d.1.2.2.2.2.1 d.1.2.2.2.2.2 d.2 v.1 v.2 (fun x y=>h (x,y)) (fun j=>É (fun(v:Int×w9 Way) h=>ë e j v.1 v.2 (fun x y=>h (x,y)) (fun i=>k (i,d))) (c,l))) (a,c))
   (ck (a+b) fun g=>ck (YG g+c) fun f=>ifb (igt c (YG g))
    (ck (f-b) fun s=>ck (f-(1:Int)) fun r=>É (fun(v:Int×Int) h=>Þ e r l d.1.1.1 d.1.1.2 d.1.2.1 d.1.2.2.1 d.1.2.2.2.1 d.1.2.2.2.2.1 d.1.2.2.2.2.2 d.2 v.1 v.2 (fun x y=>h (x,y)) (afM e l a c b (YG g) f d k)) (s,YG g))
    (ck (f-(1:Int)) fun o=>É (fun(v:Int×Int) h=>Þ e o l d.1.1.1 d.1.1.2 d.1.2.1 d.1.2.2.1 d.1.2.2.2.1 d.1.2.2.2.2.1 d.1.2.2.2.2.2 d.2 v.1 v.2 (fun x y=>h (x,y)) (afM e l a c b (YG g) f d k)) (a,c)))):=rfl
def RecOk (a:acX) (m:ε) (N:Nat):Prop:=∀P U V Q:w9 Way,1<=U.length->1<=V.length->U.length+V.length<=N->Srt (Č m) U->Srt (Č m) V->WOk m (U++V)->P.length+U.length+V.length<=1000000 ->
 a (P++(U++(V++Q))) P.length ((P.length+U.length:Nat):Int) ((P.length+U.length+V.length:Nat):Int) m=some (P++(Ĵ (Č m) (U++V)++Q),m)
def rt {l:w9 Way} (h:Srt (Č m) l):Ĵ (Č m) l=l:=uE h (Stb.refl l)
def pB (l:w9 Way):(Ĵ (Č m) l).length=l.length:=(ł l).length
def adn {h:acX} {N:Nat} (i:RecOk h m N) {P u1 u2 v1 v2 Q:w9 Way} (W:u1.length+v1.length<=N) (T:u2.length+v2.length<=N) (Y:Srt (Č m) (u1++u2)) (X:Srt (Č m) (v1++v2))
 (R:∀x∈u2,∀y∈v1,Č m y<Č m x) (F2:∀x∈u1,∀y∈v2,Č m x<=Č m y) (O:WOk m ((u1++u2)++(v1++v2))) (hl:P.length+u1.length+u2.length+v1.length+v2.length<=1000000)
 {a c b mid n z:Int} (ea:a=P.length) (ec:c=((P.length+u1.length+u2.length:Nat):Int)) (eb:b=((P.length+u1.length+u2.length+v1.length+v2.length:Nat):Int)) (D:mid=((P.length+u1.length+v1.length:Nat):Int)) (Z:z=((P.length+u1.length:Nat):Int)) (en:n-z=((P.length+u1.length+u2.length+v1.length:Nat):Int)) :
 afM h (P++((u1++u2)++((v1++v2)++Q))) a c b mid n m some z=some (P++(Ĵ (Č m) ((u1++u2)++(v1++v2))++Q),m):=by
 obtain⟨u,s,H⟩:=Y.parts;obtain⟨r,o,G⟩:=X.parts;subst ea ec eb D Z
 have fin:Ĵ (Č m) ((u1++u2)++(v1++v2))=Ĵ (Č m) (u1++v1)++Ĵ (Č m) (u2++v2):=by
  refine uE ?_ ?_
  ·refine(jJ _).append (jJ _) fun x d y f=>?_;have d:=(ł _).mem.1 d;have f:=(ł _).mem.1 f
   rcases cO.1 d with d|d<;>rcases cO.1 f with f|f
   ·exact H x d y f
   ·exact F2 x d y f
   ·have:=R y f x d; omega
   ·exact G x d y f
  ·have q:Stb (Č m) (u2++v1) (v1++u2):=Stb.swap fun x d y f=>by have:=R x d y f; omega
   have K:=((Stb.refl (key:=Č m) u1).append (q.append (Stb.refl v2)))
   have E:u1++(u2++v1++v2)=u1++u2++(v1++v2):=by simp
   have J:u1++(v1++u2++v2)=(u1++v1)++(u2++v2):=by simp
   rw[E,J] at K;exact K.trans ((ł _).append (ł _))
 have F:(Ĵ (Č m) (u1++v1)).length=u1.length+v1.length:=by rw[pB]; simp
 have v:symS h ((P.length+u1.length+v1.length:Nat):Int) ((P.length+u1.length+u2.length+v1.length:Nat):Int) ((P.length+u1.length+u2.length+v1.length+v2.length:Nat):Int) some (P++(Ĵ (Č m) (u1++v1)++(u2++(v2++Q)))) m=some (P++(Ĵ (Č m) ((u1++u2)++(v1++v2))++Q),m):=by
  rw[fin];unfold symS
  by_cases g:u2=[]
  ·subst g;rw[Õ (decide_eq_false (by simp))];simp only[dC,cS];rw[rt o]
  by_cases h2:v2=[]
  ·subst h2;have q:ilt ((P.length+u1.length+u2.length+v1.length:Nat):Int) ((P.length+u1.length+u2.length+v1.length+([]:w9 Way).length:Nat):Int)=false:=decide_eq_false (by simp);rw[q,ê];simp only[dC,df,cS];rw[rt s]
   cases ilt ((P.length+u1.length+v1.length:Nat):Int) ((P.length+u1.length+u2.length+v1.length:Nat):Int)<;>rfl
  have l:1<=u2.length:=dX.2 g;have j:1<=v2.length:=dX.2 h2
  have:=i (P++Ĵ (Č m) (u1++v1)) u2 v2 Q l j T s o (O.sub fun x d=>by
   rcases cO.1 d with d|d<;>simp[d]) (by rw[cN,F]; omega)
  rw[æ (decide_eq_true (by omega)),æ (decide_eq_true (by omega))]
  have E:P++(Ĵ (Č m) (u1++v1)++(u2++(v2++Q)))=(P++Ĵ (Č m) (u1++v1))++(u2++(v2++Q)):=by simp
  rw[E,show((P.length+u1.length+v1.length:Nat):Int)=((P++Ĵ (Č m) (u1++v1)).length:Int) by rw[cN,F]; omega,
   show((P.length+u1.length+u2.length+v1.length:Nat):Int)=(((P++Ĵ (Č m) (u1++v1)).length+u2.length:Nat):Int) by rw[cN,F]; omega,
   show((P.length+u1.length+u2.length+v1.length+v2.length:Nat):Int)=(((P++Ĵ (Č m) (u1++v1)).length+u2.length+v2.length:Nat):Int) by rw[cN,F]; omega,this,Á]
  simp
 have I:symR h (P.length:Int) ((P.length+u1.length:Nat):Int) ((P.length+u1.length+v1.length:Nat):Int) ((P.length+u1.length+u2.length+v1.length:Nat):Int) ((P.length+u1.length+u2.length+v1.length+v2.length:Nat):Int) some (P++(u1++(v1++(u2++(v2++Q))))) m=some (P++(Ĵ (Č m) ((u1++u2)++(v1++v2))++Q),m):=by
  unfold symR
  by_cases g:u1=[]
  ·have q:ilt (P.length:Int) ((P.length+u1.length:Nat):Int)=false:=decide_eq_false (by rw[g]; simp)
   have e:P++(Ĵ (Č m) (u1++v1)++(u2++(v2++Q)))=P++(u1++(v1++(u2++(v2++Q)))):=by
    subst g;simp only[dC];rw[rt r]
   rw[e] at v;rw[q,ê,v]
  by_cases h2:v1=[]
  ·have e:P++(Ĵ (Č m) (u1++v1)++(u2++(v2++Q)))=P++(u1++(v1++(u2++(v2++Q)))):=by
    subst h2;simp only[df,dC];rw[rt u]
   rw[e] at v;have q:ilt ((P.length+u1.length:Nat):Int) ((P.length+u1.length+v1.length:Nat):Int)=false:=decide_eq_false (by rw[h2]; simp);rw[q,ê,v]
   cases ilt (P.length:Int) ((P.length+u1.length:Nat):Int)<;>rfl
  have l:1<=u1.length:=dX.2 g;have j:1<=v1.length:=dX.2 h2;rw[æ (decide_eq_true (by omega)),æ (decide_eq_true (by omega))]
  rw[i P u1 v1 (u2++(v2++Q)) l j W u r (O.sub fun x d=>by
   rcases cO.1 d with d|d<;>simp[d]) (by omega),Á]
  exact v
 unfold afM;rw[en,Ù (by omega) (by omega)]
 by_cases g:u2=[]
 ·have q:ilt ((P.length+u1.length:Nat):Int) ((P.length+u1.length+u2.length:Nat):Int)=false:=decide_eq_false (by rw[g]; simp)
  have e:P++((u1++u2)++((v1++v2)++Q))=P++(u1++(v1++(u2++(v2++Q)))):=by rw[g]; simp
  rw[q,ê,e,I]
 by_cases h2:v1=[]
 ·have e:P++((u1++u2)++((v1++v2)++Q))=P++(u1++(v1++(u2++(v2++Q)))):=by rw[h2]; simp
  have q:ilt ((P.length+u1.length+u2.length:Nat):Int) ((P.length+u1.length+u2.length+v1.length:Nat):Int)=false:=decide_eq_false (by rw[h2]; simp);rw[q,ê,e,I]
  cases ilt ((P.length+u1.length:Nat):Int) ((P.length+u1.length+u2.length:Nat):Int)<;>rfl
 have l:1<=u2.length:=dX.2 g;have j:1<=v1.length:=dX.2 h2;rw[æ (decide_eq_true (by omega)),æ (decide_eq_true (by omega))];have:=Z0 (m:=m) (A:=P++u1) (U:=u2) (V:=v1) (C:=v2++Q) l j (by simp; omega);rw[cN] at this
 have E:P++((u1++u2)++((v1++v2)++Q))=(P++u1)++(u2++(v1++(v2++Q))):=by simp
 rw[E,this,Á]
 have J:(P++u1)++(v1++(u2++(v2++Q)))=P++(u1++(v1++(u2++(v2++Q)))):=by simp
 rw[J];exact I
end
end Go.Proofs.ZzM
end
