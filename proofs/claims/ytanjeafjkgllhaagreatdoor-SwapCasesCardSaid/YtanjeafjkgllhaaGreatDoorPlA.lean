/- lemmas -/
import Derived.Test.YtanjeafjkgllhaaGreatDoorMdPA
import Derived.Test.YtanjeafjkgllhaaGreatDoorMdTA
import Derived.Test.YtanjeafjkgllhaaGreatDoorAmC
import Derived.Laws.Strings
import Derived.Lib.SplitLaws
import Derived.Lib.AtoiAllCases
set_option linter.all false
noncomputable section
namespace Go.Proofs.ZzM
open Go Go.Am
abbrev BL:Type:=rT UInt8
abbrev toL (s:ByteArray):BL:=s.data.toList
abbrev ofL (l:BL):ByteArray:=⟨l.toArray⟩
def aaH {s t:ByteArray} (h:toL s=toL t):s=t:=by
 obtain⟨⟨s⟩⟩:=s; obtain⟨⟨t⟩⟩:=t; cases h; rfl
def nZ (s:ByteArray):ofL (toL s)=s:=aaH rfl
def è (a b:BL):ofL a++ofL b=ofL (a++b):=aaH (by rw[toL,ByteArray.toList_data_append])
def Ì (l:BL):(ofL l).size=l.length:=by rw[Lib.size_eq]
def qS (s:ByteArray):s.size=(toL s).length:=Lib.size_eq s
def Vs {a b:BL} (h:ofL a=ofL b):a=b:=by have:=congrArg toL h; simpa using this
def ξ (l:BL) (i j:Nat):(ofL l).extract i j=ofL ((l.take j).drop i):=by
 apply aaH;have:=Lib.extract_toList (ofL l) i j;rw[ByteArray.toList_eq] at this;rw[toL,this,List.drop_take]
def ż (a b:BL):((ofL a).toList==(ofL b).toList)=decide (a=b):=by
 rw[ByteArray.toList_eq,ByteArray.toList_eq]
 by_cases h:a=b
 ·simp[h]
 ·simp[h]
def Ad (a b:BL):aaP (ofL a) (ofL b)=decide (a=b):=rfl
open Lib in
def abO {u k:Nat} (h:u<10 ^ (k+1)):(decDigits u).length<=k+1:=by
 induction k generalizing u with
 |zero=>rw[decDigits,dif_pos (by simpa using h)]; simp
 |succ k a =>
  rw[decDigits]
  split
  ·simp
  ·have:=a (u:=u / 10) (by rw[Nat.pow_succ] at h; omega);simp; omega
def Hm (u:Nat):∀c∈Lib.decDigits u,48<=c.toNat/\c.toNat<=57:=by
 induction u using Nat.strongRecOn with
 |ind u ih =>
  rw[Lib.decDigits]
  have one:∀d:Nat,d<10->48<=(UInt8.ofNat (48+d)).toNat/\(UInt8.ofNat (48+d)).toNat<=57:=fun d hd=>by
   rw[UInt8.toNat_ofNat']; omega
  split
  ·intro c a; rw[dB.1 a]; exact one u (by omega)
  ·intro c a;rcases dA.1 a with a|a
   ·exact ih (u / 10) (by omega) c a
   ·rw[dB.1 a]; exact one (u % 10) (by omega)
def aiU (u:Nat):Lib.decDigits u≠[]:=by
 rw[Lib.decDigits]; split<;>simp
def afq (n:Int):∀c∈Lib.itoa n,c.toNat=45\/48<=c.toNat/\c.toNat<=57:=by
 unfold Lib.itoa
 split
 ·intro c a;rcases dE.1 a with rfl|a
  ·exact .inl rfl
  ·exact .inr (Hm _ c a)
 ·exact fun c a=>.inr (Hm _ c a)
def Wn {n:Int} {k:Nat} (h:n.natAbs<10 ^ (k+1)):(Lib.itoa n).length<=k+2:=by
 unfold Lib.itoa
 split
 ·have:=abO h; simp; omega
 ·have:=abO (u:=n.toNat) (k:=k) (by omega); omega
def iD {n:Int} (h:I64 n):(Lib.itoa n).length<=20:=Wn (k:=18) (by obtain⟨a,h2⟩:=h; omega)
def acj {n:Int} (h:I64 n):jV n=some (ofL (Lib.itoa n)):=by
 unfold jV aiq i64B;simp[h.1,h.2,ofL]
def uU {d:Int} (h0:0<=d) (a:d<10):sZ [IntKind.wrap .u8 (48+d)]=ofL [UInt8.ofNat (48+d.toNat)]:=by
 obtain⟨k,rfl⟩:=fP h0
 have:IntKind.wrap .u8 (48+(k:Int))=((48+k:Nat):Int):=by
  simp only[IntKind.wrap,IntKind.bits,IntKind.signed];simp;omega
 rw[this]; rfl
def Xl (m:Nat):Int.tmod (m:Int) 10=((m % 10:Nat):Int):=(Int.ofNat_tmod m 10).symm
def amo (m:Nat):Int.tdiv (m:Int) 10=((m / 10:Nat):Int):=(Int.ofNat_tdiv m 10).symm
def adU {g:Int->rF ByteArray} {a:Nat} (ha:a<=9223372036854775807):∀(u:Nat) (acc:BL),u<=a->acc.length<=100+(a-u)->(if u<10 then[] else Lib.decDigits (u / 10))++acc=Lib.decDigits a ->
 Ê (fun(c:Int×ByteArray) d=>lT g c.1 c.2 (fun f e=>d (f,e)) (fun m=>(some m:rF ByteArray))) ((u:Int),ofL acc)=some (ofL (Lib.decDigits a)):=by
 intro u acc j q hd;refine ķ (fun x=>∃(u:Nat) (acc:BL),x=((u:Int),ofL acc)/\u<=a/\(if u<10 then[] else Lib.decDigits (u / 10))++acc=Lib.decDigits a) (fun x=>x.1.toNat) ?_ ⟨u,acc,rfl,j,hd⟩;rintro x ⟨u,acc,rfl,j,hd⟩;unfold lT
 by_cases h:u<10
 ·refine .inl fun n=>?_;rw[Ï (by simp[igt]; omega)];simp only[h,if_true,eA] at hd;rw[<-hd]
 ·refine .inr ⟨(((u / 10:Nat):Int),ofL (UInt8.ofNat (48+u / 10 % 10)::acc)),⟨u / 10,_,rfl,by omega,?_⟩,by simp; omega,fun n=>?_⟩
  ·rw[if_neg h] at hd;rw[<-hd,Lib.decDigits.eq_def (u / 10)]
   split
   ·rename_i i; rw[f0 i]; rfl
   ·rw[dH]; rfl
  ·have l:acc.length<=19:=by
    have i:=congrArg List.length hd;have h2:=abO (u:=a) (k:=18) (by omega);rw[dw] at i; omega
   have p:=amo u;have o:=Xl (u / 10);rw[Ù (by simp[igt]; omega),p,ä (by omega) (by omega),o,ä (by omega) (by omega),uU (by omega) (by omega),Ì,Ì,Ë (by simp; omega),Am.iff_true,è,dL];rfl
def agj:∀(k:Nat) {n:Int},n.natAbs<10 ^ (k+1)->I64 n->mR (k+1) n=some (ofL (Lib.itoa n)):=by
 intro k
 induction k with
 |zero =>
  intro n h e;show δ _ n some=_;unfold δ Lib.itoa
  by_cases h0:n<0
  ·obtain⟨m,rfl⟩:∃m:Nat,n = -(m:Int):=⟨n.natAbs,by omega⟩
   have d:Int.tmod (-(m:Int)) 10 = -((m % 10:Nat):Int):=by rw[Int.neg_tmod,Xl]
   have c:m<10:=by simpa using h
   rw[Ù (by simpa[ilt] using h0),if_pos h0,d,ä (by omega) (by omega),Ù (by simp[igt]; omega),ä (by omega) (by omega),show(0:Int) - -((m % 10:Nat):Int)=((m % 10:Nat):Int) by omega,uU (by omega) (by omega)];rw[show ByteArray.mk #[45]=ofL [45] from rfl,Ì,Ì,Ë (by simp),Am.iff_true,è,Lib.decDigits,dif_pos (by omega)];simp[f0 c]
  ·obtain⟨m,rfl⟩:=fP (show 0<=n by omega)
   have c:m<10:=by simpa using h
   have d:Int.tmod (m:Int) 10=((m % 10:Nat):Int):=Xl m;rw[Ï (by simp[ilt]),if_neg h0,d,ä (by omega) (by omega),uU (by omega) (by omega)];refine(adU (a:=m) (by omega) m [UInt8.ofNat (48+m % 10)] (du _) (by simp) ?_).trans (by simp);rw[if_pos c,Lib.decDigits,dif_pos c,f0 c]; rfl
 |succ k g =>
  intro n h e;show δ (mR (k+1)) n some=_;unfold δ Lib.itoa
  by_cases h0:n<0
  ·obtain⟨m,rfl⟩:∃m:Nat,n = -(m:Int):=⟨n.natAbs,by omega⟩;have l:=e.1
   have d:Int.tmod (-(m:Int)) 10 = -((m % 10:Nat):Int):=by rw[Int.neg_tmod,Xl]
   have o:Int.tdiv (-(m:Int)) 10 = -((m / 10:Nat):Int):=by rw[Int.neg_tdiv,amo]
   rw[Ù (by simpa[ilt] using h0),if_pos h0,d,ä (by omega) (by omega),show(0:Int) - -((m % 10:Nat):Int)=((m % 10:Nat):Int) by omega]
   by_cases c:m<10
   ·rw[Ù (by simp[igt]; omega),ä (by omega) (by omega),uU (by omega) (by omega),show ByteArray.mk #[45]=ofL [45] from rfl,Ì,Ì,Ë (by simp),Am.iff_true,è,Lib.decDigits,dif_pos (by omega)];simp[f0 c]
   ·have i:(-((m / 10:Nat):Int))<0:=by omega
    have f:=iD (n:=-((m / 10:Nat):Int)) ⟨by omega,by omega⟩;rw[Ï (by simp[igt]; omega),o,ä (by omega) (by omega),g (by rw[Nat.pow_succ] at h; omega) ⟨by omega,by omega⟩,Á,ä (by omega) (by omega),uU (by omega) (by omega),Ì,Ì,Ë (by show _+1<=_; omega),Am.iff_true,è];unfold Lib.itoa;rw[if_pos i,Lib.decDigits.eq_def (-(m:Int)).natAbs,dif_neg (by omega),show(-((m / 10:Nat):Int)).natAbs=m / 10 by omega,show(-(m:Int)).natAbs=m by omega,Int.toNat_natCast];rfl
  ·obtain⟨m,rfl⟩:=fP (show 0<=n by omega);have j:=e.2;have d:Int.tmod (m:Int) 10=((m % 10:Nat):Int):=Xl m;rw[Ï (by simp[ilt]),if_neg h0,d,ä (by omega) (by omega),uU (by omega) (by omega)];refine(adU (a:=m) (by omega) m [UInt8.ofNat (48+m % 10)] (du _) (by simp) ?_).trans (by simp);rw[Lib.decDigits.eq_def m]
   split
   ·rename_i c; rw[f0 c]; rfl
   ·rfl
def Eg {n:Int} (h:I64 n):nS n=some (ofL (Lib.itoa n)):=agj 99 (by obtain⟨a,h2⟩:=h; have:(10:Nat) ^ 20<=10 ^ (99+1):=Nat.pow_le_pow_right (by omega) (by omega); omega) h
def akq (u:Nat) (a:u<18446744073709551616):∀(acc:Nat) (r:BL),acc=0->Lib.parseUint10 acc (Lib.decDigits u++r)=Lib.parseUint10 u r:=by
 induction u using Nat.strongRecOn with
 |ind u ih =>
  intro acc r ha;subst ha
  have one:∀d:Nat,d<10->(UInt8.ofNat (48+d)).toNat=48+d:=fun d hd=>by rw[UInt8.toNat_ofNat']; omega
  rw[Lib.decDigits]
  split
  ·rename_i h;simp only[eT,eA,Lib.parseUint10,one u h];rw[if_pos (by omega),if_neg (by omega),if_neg (by omega)];congr 1; omega
  ·rename_i h;rw[dH,ih (u / 10) (by omega) (by omega) 0 _ rfl];simp only[eT,eA,Lib.parseUint10,one (u % 10) (by omega)];rw[if_pos (by omega),if_neg (by omega),if_neg (by omega)];congr 1; omega
def ahy {u:Nat} (a:u<18446744073709551616):Lib.parseMag (Lib.decDigits u)=.ok u:=by
 unfold Lib.parseMag;rw[if_neg (aiU u)];have:=akq u a 0 [] rfl;rw[List.append_nil] at this;rw[this]; rfl
def aal {n:Int} (h:I64 n):Lib.atoiAll (Lib.itoa n)=.ok n:=by
 obtain⟨d,h2⟩:=h;unfold Lib.itoa
 split
 ·rename_i h0;rw[Lib.atoiAll_minus,ahy (by omega)];unfold Lib.signed;simp only;rw[if_neg (by omega)];congr 1; omega
 ·rename_i h0
  obtain⟨c,r,a⟩:∃c r,Lib.decDigits n.toNat=c::r:=by
   cases h:Lib.decDigits n.toNat with
   |nil=>exact absurd h (aiU _)
   |cons c r=>exact⟨c,r,rfl⟩
  have hd:=Hm n.toNat c (by rw[a]; simp);rw[a,Lib.atoiAll_plain c r (by omega) (by omega),<-a,ahy (by omega)];unfold Lib.signless;simp only;rw[if_neg (by omega)];congr 1; omega
def Eb (w:BL):Int:=match Lib.atoiAll w with|.ok v=>v|_=>0
def ajL (w:BL):I64 (Eb w):=by
 unfold Eb
 split
 ·exact Lib.atoiAll_bounds (by assumption)
 ·exact⟨by omega,by omega⟩
def UQ {n:Int} (h:I64 n):Eb (Lib.itoa n)=n:=by unfold Eb; rw[aal h]
end Go.Proofs.ZzM
end

noncomputable section
namespace Go.Proofs.ZzM
open Go Go.Am
def Ke (c:UInt8):BL->BL->rT BL
 |acc,[]=>[acc]
 |acc,b::l=>if b=c then acc::Ke c [] l else Ke c (acc++[b]) l
abbrev wQ (c:UInt8) (l:BL):rT BL:=Ke c [] l
def Ho (c:UInt8):∀(w acc l:BL),(∀b∈w,b≠c)->Ke c acc (w++l)=Ke c (acc++w) l
 |[],acc,l,_=>by simp
 |b::w,acc,l,h=>by
  rw[eT,Ke,if_neg (h b (by simp)),Ho c w _ l fun x a=>h x (by simp[a])];simp
def vS (c:UInt8):∀(l acc:BL),(Ke c acc l).length<=l.length+1
 |[],_=>by simp[Ke]
 |b::l,acc=>by
  rw[Ke]
  split
  ·have:=vS c l []; simp; omega
  ·have:=vS c l (acc++[b]); simp; omega
def o8 (c:UInt8):∀(l acc:BL),∀w∈Ke c acc l,w.length<=acc.length+l.length
 |[],acc,w,h=>by rw[dB.1 h]; simp
 |b::l,acc,w,h=>by
  rw[Ke] at h
  split at h
  ·rcases dE.1 h with rfl|h
   ·simp
   ·have:=o8 c l [] w h; simp at this ⊢; omega
  ·have:=o8 c l _ w h; simp at this ⊢; omega
def AU (c:UInt8):∀(l acc:BL),∃w ws,Ke c acc l=w::ws
 |[],acc=>⟨_,_,rfl⟩
 |b::l,acc=>by
  rw[Ke]
  split
  ·exact⟨_,_,rfl⟩
  ·exact AU c l _
def spL (c:UInt8) (ws:rT BL):BL:=ws.flatMap fun w=>c::w
def Qj (c:UInt8):∀(ws:rT BL) (w:BL),(∀b∈w,b≠c)->(∀v∈ws,∀b∈v,b≠c)->wQ c (w++spL c ws)=w::ws
 |[],w,h,_=>by
  have:=Ho c w [] [] h;rw[dO] at this;simp only[spL,gX,dO];rw[wQ,this]; rfl
 |v::ws,w,h,a=>by
  rw[wQ,Ho c w [] _ h]
  have:spL c (v::ws)=c::(v++spL c ws):=by simp[spL]
  rw[this,Ke,if_pos rfl,eA];rw[show Ke c [] (v++spL c ws)=_ from Qj c ws v (a v (by simp)) fun x d=>a x (by simp[d])]
def Mn (l:BL) (c:UInt8) (o:l.length<=1000000):mD (ofL l) (c.toNat:Int)=some ((wQ c l).map ofL):=by
 unfold mD TR;refine ķ (fun x=>∃(f i:Nat) (out:rT BL),x=((f:Int),(i:Int),out.map ofL)/\f<=i/\i<=l.length/\out.length<=i/\wQ c l=out++Ke c ((l.take i).drop f) (l.drop i)) (fun x=>l.length-x.2.1.toNat) ?_ ⟨0,0,[],rfl,Nat.le_refl _,Nat.zero_le _,Nat.zero_le _,by simp⟩;rintro x ⟨f,i,out,rfl,p,hi,n,d⟩;unfold vt;dsimp only;rw[Ì]
 by_cases h:i<l.length
 ·refine .inr ?_;have m:l[i]?=some l[i]:=dv h
  have hb:∀K:Int->rF (rT ByteArray),Xw (ofL l) (i:Int) K=K (((l[i]'h:UInt8).toNat:Nat):Int):=fun K=>by
   unfold Xw
   have:(ofL l)[i]?=some l[i]:=by
    have k:i<(ofL l).size:=by rw[Ì]; exact h
    rw[getElem?_pos (ofL l) i k];rfl
   simp[this]
  have hd:l.drop i=l[i]::l.drop (i+1):=eR h;have j:l.take (i+1)=l.take i++[l[i]]:=take_succ m
  by_cases a:l[i]=c
  ·refine⟨(((i+1:Nat):Int),((i+1:Nat):Int),(out++[(l.take i).drop f]).map ofL),⟨i+1,i+1,_,rfl,du _,h,by simp; omega,?_⟩,by simp; omega,fun g=>?_⟩
   ·rw[d,hd,Ke,if_pos a,show(l.take (i+1)).drop (i+1)=[] by simp]; simp
   ·rw[J6 h,hb,Ù (by simp[ieq,a]),show(ile (0:Int) (f:Int)&&(ile (f:Int) (i:Int)&&ile (i:Int) ((l.length:Nat):Int)))=true by simp[ile]; omega,Am.iff_true,Ë (by simp; omega),Am.iff_true,ä (by omega) (by omega),ä (by omega) (by omega),dL,dL,ξ];simp
  ·refine⟨((f:Int),((i+1:Nat):Int),out.map ofL),⟨f,i+1,out,rfl,by omega,h,by omega,?_⟩,by simp; omega,fun g=>?_⟩
   ·rw[d,hd,Ke,if_neg a,j,fO (by simp; omega)]
   ·rw[J6 h,hb,Ï (by
     have:(l[i].toNat:Int)≠c.toNat:=fun e=>a (UInt8.toNat_inj.1 (by omega))
     simpa[ieq] using this),ä (by omega) (by omega)]
    simp
 ·refine .inl fun g=>?_
  obtain rfl:i=l.length:=by omega
  rw[ß];rw[show(ile (0:Int) (f:Int)&&ile (f:Int) ((l.length:Nat):Int))=true by simp[ile]; omega,Am.iff_true,Ë (by simp; omega),Am.iff_true,d,ξ];simp[Ke]
open Lib in
def Zx (c:UInt8):∀l:BL,(index l [c] = -1/\∀b∈l,b≠c)\/∃w r,l=w++c::r/\(∀b∈w,b≠c)/\index l [c]=w.length
 |[]=>.inl ⟨rfl,by simp⟩
 |b::l=>by
  by_cases h:b=c
  ·subst h;refine .inr ⟨[],l,rfl,by simp,?_⟩;unfold index; rw[if_pos (by simp[List.isPrefixOf])]; rfl
  ·have d:List.isPrefixOf [c] (b::l)=false:=by simp[List.isPrefixOf,Ne.symm h]
   rcases Zx c l with⟨f,h2⟩|⟨w,r,rfl,h2,e⟩
   ·refine .inl ⟨by unfold index; rw[d,f]; rfl,fun x a=>?_⟩;rcases List.mem_cons.1 a with rfl|a
    ·exact h
    ·exact h2 x a
   ·refine .inr ⟨b::w,r,rfl,fun x a=>?_,?_⟩
    ·rcases dE.1 a with rfl|a
     ·exact h
     ·exact h2 x a
    ·unfold index;rw[d,e]
     have:(((w.length:Nat):Int)==-1)=false:=by rw[beq_eq_false_iff_ne]; omega
     simp[this]
def SW (c:UInt8):∀(k:Nat) (l:BL),l.count c=k->Lib.splitK [c] 0 k l=wQ c l
 |0,l,h=>by
  have h0:∀b∈l,b≠c:=fun b hb e=>List.count_eq_zero.1 h (e▸hb);have:=Qj c [] l h0 (by simp);rw[show spL c []=[] from rfl,dO] at this;rw[this]; rfl
 |k+1,l,h=>by
  rcases Zx c l with⟨_,h2⟩|⟨w,r,rfl,h2,g⟩
  ·exact absurd (List.count_eq_zero.2 fun a=>h2 _ a rfl) (by omega)
  ·have d:w.count c=0:=List.count_eq_zero.2 fun a=>h2 _ a rfl
   have f:r.count c=k:=by rw[List.count_append,List.count_cons,d] at h; simp at h; omega
   rw[Lib.splitK,g,if_neg (by rw[beq_iff_eq]; omega),dL,gq,List.take_left,show w.length+[c].length=w.length+1 from rfl,wQ,Ho c w [] _ h2,Ke,if_pos rfl,eA];congr 1;rw[show(w++c::r).drop (w.length+1)=r by simp,SW c k r f]
def afJ (l:BL) (c:UInt8):Lib.countB (ofL l) (ofL [c])=l.count c:=by
 have:Lib.countB (ofL l) (ofL [c])=Lib.count l [c]:=by
  first
   |exact Lib.countB_data _ _
   |rfl
   |(unfold Lib.countB; simp)
 rw[this,Lib.count_one]
def aeg (l:BL) (c:UInt8) (a:l.length<=1000000):qv (ofL l) (ofL [c])=some ((wQ c l).map ofL):=by
 unfold qv Bp;rw[if_pos (by rw[Ì,Ì]; simp; omega),afJ];congr 1;have h:=Lib.splitB_data (ofL [c]) 0 (l.count c) (ofL l);rw[show Lib.splitK (ofL [c]).data.toList 0 (l.count c) (ofL l).data.toList=wQ c l from SW c _ l rfl] at h;rw[<-h,List.map_map];exact(List.map_id' _).symm.trans (List.map_congr_left fun s _=>(nZ s).symm)
def ajS (l p:BL) (a:l.length<=1000000):Η (ofL l) (ofL p)=some (ofL (Lib.trimSuffix l p)):=by
 unfold Η agw;rw[if_pos (by rw[Ì]; omega)]
def agv (l p:BL):Lib.trimSuffix (l++p) p=l:=by
 unfold Lib.trimSuffix Lib.hasSuffix;rw[if_pos (by simp[List.isSuffixOf_iff_suffix])];simp
def U4 (l p:BL):(Lib.trimSuffix l p).length<=l.length:=by
 unfold Lib.trimSuffix; split<;>simp
def aob (xs:rT BL) (c:UInt8) (a:xs.length<=1000000) (h2:(Lib.join xs [c]).length<=100000000):sX (xs.map ofL) (ofL [c])=some (ofL (Lib.join xs [c])):=by
 unfold sX aio
 have e:(xs.map ofL).map (·.data.toList)=xs:=by rw[List.map_map]; exact(fe fun x _=>rfl).trans (List.map_id _)
 rw[e,if_pos];rw[eF];simp only[dt,decide_eq_true_eq];exact⟨by omega,by show(Lib.join xs [c]).length<=_; omega⟩
def aip (c:UInt8) (r:BL):∀w:BL,(∀b∈w,b≠c)->Lib.indexByte (w++c::r) c=w.length
 |[],_=>by rw[List.nil_append]; unfold Lib.indexByte; rw[if_pos (by simp)]; rfl
 |b::w,h=>by
  rw[List.cons_append];unfold Lib.indexByte;rw[if_neg (by simpa using h b (by simp)),aip c r w fun x a=>h x (by simp[a]),if_neg (by rw[beq_iff_eq]; omega)];simp
def Aq:∀(n:Nat) (s:ByteArray),(ow n s).length<=n/\∀y∈ow n s,y.size<=s.size
 |0,s=>⟨du _,by simp[ow]⟩
 |n+1,s=>by
  obtain⟨l,rfl⟩:∃l,s=ofL l:=⟨_,(nZ s).symm⟩;rw[ow]
  split
  ·exact⟨dX _,by simp⟩
  ·split
   ·rw[ξ,ξ];have c:=Aq n (ofL ((l.take (ofL l).size).drop (Lib.indexByte (ofL l).data.toList 10+1).toNat))
    have h2:(ofL ((l.take (ofL l).size).drop (Lib.indexByte (ofL l).data.toList 10+1).toNat)).size<=(ofL l).size:=by rw[Ì,Ì]; simp
    refine⟨by have:=c.1; rw[dz]; omega,fun y a=>?_⟩;rcases dE.1 a with rfl|a
    ·rw[Ì,Ì]; simp; omega
    ·exact dG (c.2 y a) h2
   ·exact⟨by simp,fun y a=>by rw[dB.1 a]; exact du _⟩
def PI:∀(n:Nat) (a:rT BL),(∀l∈a,∀b∈l,b≠10)->(a.flatMap fun l=>l++[10]).length<=n->ow n (ofL (a.flatMap fun l=>l++[10]))=a.map fun l=>ofL (l++[10])
 |n,[],_,_=>by
  cases n with
  |zero=>rfl
  |succ n=>rw[ow,if_pos (by rw[Ì]; rfl)]; rfl
 |0,l::a,_,c=>by simp at c
 |n+1,l::a,h,c=>by
  have e:((l::a).flatMap fun l=>l++[10])=l++10::a.flatMap fun l=>l++[10]:=by simp
  rw[e] at c ⊢;rw[ow,if_neg (by rw[Ì]; simp)]
  have hi:Lib.indexByte (ofL (l++10::a.flatMap fun l=>l++[10])).data.toList 10=l.length:=by
   exact aip 10 _ l (h l (by simp))
  rw[hi,if_pos (by omega),show((l.length:Int)+1).toNat=l.length+1 by omega,ξ,ξ,Ì,eM]
  have g:((l++10::a.flatMap fun l=>l++[10]).take (l.length+1)).drop 0=l++[10]:=by
   rw[gP,show l++10::(a.flatMap fun l=>l++[10])=(l++[10])++a.flatMap fun l=>l++[10] by simp];rw[fq (by simp),eh (by simp)]
  have f:((l++10::a.flatMap fun l=>l++[10]).take (l++10::a.flatMap fun l=>l++[10]).length).drop (l.length+1)=a.flatMap fun l=>l++[10]:=by
   rw[gz,show l++10::(a.flatMap fun l=>l++[10])=(l++[10])++a.flatMap fun l=>l++[10] by simp];rw[fO (by simp),gT (by simp)]; rfl
  rw[g,f,PI n a (fun x d=>h x (by simp[d])) (by simp at c ⊢; omega)]
end Go.Proofs.ZzM
end

noncomputable section
namespace Go.Proofs.ZzM
open Go Go.Am
def xn (p:rF Int):rT Int->rT Int
 |[]=>[]
 |a::t=>if p=some a then xn (some a) t else a::xn (some a) t
def acw (l:rT Int):rT Int:=xn none (GO l)
def insI_perm (a:Int):∀l,(agk a l).Perm (a::l)
 |[]=>gh _
 |b::t=>by
  unfold agk
  split
  ·exact gh _
  ·exact((insI_perm a t).cons b).trans (List.Perm.swap a b t)
def isortI_perm:∀l,(GO l).Perm l
 |[]=>gh _
 |a::t=>(insI_perm a _).trans ((isortI_perm t).cons a)
def insI_sorted (a:Int):∀{l:rT Int},l.Pairwise (·<=·)->(agk a l).Pairwise (·<=·)
 |[],_=>by simp[agk]
 |b::t,h=>by
  rw[List.pairwise_cons] at h;unfold agk
  split
  ·rename_i d;refine dU.2 ⟨fun x c=>?_,dU.2 h⟩;rcases dE.1 c with rfl|c
   ·exact d
   ·have:=h.1 x c; omega
  ·rename_i d;refine dU.2 ⟨fun x c=>?_,insI_sorted a h.2⟩;rcases dE.1 ((insI_perm a t).mem_iff.1 c) with rfl|c
   ·omega
   ·exact h.1 x c
def isortI_sorted:∀l:rT Int,(GO l).Pairwise (·<=·)
 |[]=>List.Pairwise.nil
 |a::t=>insI_sorted a (isortI_sorted t)
def aky (l:rT Int):Km l=GO l:=rfl
def SP (a:Int):∀(l:rT Int) (p:rF Int),xn p (l++[a])=xn p l++(if (match l.getLast? with|some b=>some b|none=>p)=some a then[] else[a])
 |[],p=>by simp only[eA,xn,List.getLast?_nil]; rfl
 |b::t,p=>by
  have d:=SP a t (some b)
  have e:(match (b::t).getLast? with|some c=>some c|none=>p)=(match t.getLast? with|some c=>some c|none=>some b):=by
   cases t with
   |nil=>rfl
   |cons c t =>
    rw[List.getLast?_cons_cons]
    cases h:(c::t).getLast? with
    |none=>simp at h
    |some x=>rfl
  rw[e];simp only[eT,xn,d]
  split<;>simp
def CW (l:rT Int):∀m,m<=l.length->Lib.compactUpTo l.toArray m=xn none (l.take m)
 |0,_=>by simp[Lib.compactUpTo,xn]
 |m+1,h=>by
  have d:m<l.length:=h;rw[Lib.compactUpTo_succ,CW l m (by omega),take_succ (dv d),SP];congr 1
  have e:l.toArray[m]! = l[m]:=by simp[getElem!_pos,d]
  rw[e];unfold Lib.keeps;rw[e]
  cases m with
  |zero=>simp
  |succ m =>
   have c:m<l.length:=by omega
   have g:l.toArray[m+1-1]! = l[m]:=by simp[getElem!_pos,c]
   rw[g]
   have f:(l.take (m+1)).getLast?=some l[m]:=by rw[take_succ (dv c),List.getLast?_append]; rfl
   rw[f]
   by_cases a:l[m+1]=l[m]
   ·simp[a]
   ·have:¬l[m]=l[m+1]:=fun h=>a h.symm;simp[a,this]
def abS (l:rT Int):AW l=xn none l:=by
 unfold AW Lib.compact;rw[CW l l.length (Nat.le_refl _),List.take_length]
def amT (l:rT Int):AW (Km l)=acw l:=by rw[aky,abS]; rfl
def Xj:∀{l:rT Int} {p:rF Int} {x:Int},p≠some x->(x∈xn p l↔x∈l)
 |[],_,_,_=>Iff.rfl
 |a::t,p,x,f=>by
  unfold xn
  by_cases c:x=a
  ·subst c;rw[if_neg f]; simp
  ·have d:=Xj (l:=t) (p:=some a) (x:=x) (fun e=>c (by cases e; rfl))
   split<;>simp[d,c]
def acn:∀{l:rT Int} {p:rF Int},l.Pairwise (·<=·)->(∀q,p=some q->∀x∈l,q<=x)->(xn p l).Pairwise (·<·)/\∀q,p=some q->∀x∈xn p l,q<x
 |[],p,_,_=>⟨List.Pairwise.nil,fun _ _ _ h=>by cases h⟩
 |a::t,p,h,i=>by
  rw[List.pairwise_cons] at h;obtain⟨g,f⟩:=acn (l:=t) (p:=some a) h.2 (fun q d x c=>by cases d; exact h.1 x c);unfold xn
  split
  ·rename_i e;exact⟨g,fun q d x c=>by rw[e] at d; cases d; exact f _ rfl x c⟩
  ·rename_i e;refine⟨dU.2 ⟨fun x c=>f _ rfl x c,g⟩,fun q d x c=>?_⟩;have:=i q d a (by simp);have j:q≠a:=fun h=>e (by rw[d,h]);rcases dE.1 c with rfl|c
   ·omega
   ·have:=f _ rfl x c; omega
def Ac {l:rT Int} {x:Int}:x∈acw l↔x∈l:=by
 unfold acw;rw[Xj (by simp),(isortI_perm l).mem_iff]
def C6 (l:rT Int):(acw l).Pairwise (·<·):=(acn (isortI_sorted l) (fun q a=>by cases a)).1
def Xk:∀(l:rT Int) (p:rF Int),(xn p l).length<=l.length
 |[],_=>du _
 |a::t,p=>by
  have:=Xk t (some a);unfold xn
  split<;>simp<;>omega
def LP (l:rT Int):(acw l).length<=l.length:=by
 unfold acw;have:=Xk (GO l) none
 rwa [(isortI_perm l).length_eq] at this
def ab9 {l m:rT Int} (f:l.Pairwise (·<·)) (e:m.Pairwise (·<·)) (h:∀x,x∈l↔x∈m):l=m:=by
 induction l generalizing m with
 |nil =>
  cases m with
  |nil=>rfl
  |cons a t=>have:=(h a).2 (by simp); cases this
 |cons a t i =>
  rw[dU] at f
  cases m with
  |nil=>have:=(h a).1 (by simp); cases this
  |cons b u =>
   rw[dU] at e
   have g:a=b:=by
    rcases dE.1 ((h a).1 (by simp)) with c|c
    ·exact c
    ·rcases dE.1 ((h b).2 (by simp)) with h2|h2
     ·exact h2.symm
     ·have:=e.1 a c; have:=f.1 b h2; omega
   subst g;rw[i f.2 e.2 fun x=>?_];constructor
   ·intro d;rcases dE.1 ((h x).1 (by simp[d])) with c|c
    ·have:=f.1 x d; omega
    ·exact c
   ·intro d;rcases dE.1 ((h x).2 (by simp[d])) with c|c
    ·have:=e.1 x d; omega
    ·exact c
def Bu (b:æ) (s:rT (Int×ë)) (c:Cmp):Int :=
 if (c.2.2.1++c.2.2.2.1).any (fun id=>mn s id c.2.1==5) then 5 else
 if (c.2.2.1++c.2.2.2.1).any (fun id=>mn s id c.2.1==4) then 4 else
 if (c.2.2.1++c.2.2.2.1).any (fun id=>(Ń b id c.2.1).isSome) then 9 else
 if 1<(í c.2.2.1 c.2.2.2.1).length then 1 else if 1<(í c.2.2.2.1 c.2.2.1).length then 1 else
 if (í c.2.2.1 c.2.2.2.1).length+(í c.2.2.2.1 c.2.2.1).length=0 then 1 else 0
def Di (c:Cmp):Bool :=
 inP c.1 1 1099511627776&&(IW c.2.1&&(inP c.2.2.2.2.1 (-1125899906842624) 1125899906842624&&(inP c.2.2.2.2.2.1 0 1073741824&&(jP c.2.2.2.2.2.2 (-10000) 10000&&(wX c.2.2.1&&wX c.2.2.2.1)))))
def jp (b:æ) (s:rT (Int×ë)) (i:Nat) (c:Cmp):Int :=
 if !Di c then 1 else if (b.2.2.2.2.1.take i).any (fun x=>x.1==c.1) then 6 else Bu b s c
def zE (a b:rT Int):(í a b).length<=a.length:=eW _ _
set_option maxHeartbeats 1000000 in
def Qq {b:æ} (M:b.2.2.2.2.1.length<=1000) (I:b.2.2.2.1.length<=1000) (s:rT (Int×ë)) {i:Nat} {c:Cmp} (O:c.2.2.1.length<=100000) (N:c.2.2.2.1.length<=100000)
 (C:b.2.2.2.2.1[i]?=some c):ĩ b s i=some (jp b s i c):=by
 have hi:i<b.2.2.2.2.1.length:=(List.getElem?_eq_some_iff.1 C).1;unfold ĩ og jp Di;rw[Ç C,iq,Á]
 cases inP c.1 1 1099511627776 with
 |false=>rfl
 |true =>
 rw[L4,Á]
 cases IW c.2.1 with
 |false=>rfl
 |true =>
 rw[iq,Á]
 cases inP c.2.2.2.2.1 (-1125899906842624) 1125899906842624 with
 |false=>rfl
 |true =>
 rw[iq,Á]
 cases inP c.2.2.2.2.2.1 0 1073741824 with
 |false=>rfl
 |true =>
 rw[GP,Á]
 cases jP c.2.2.2.2.2.2 (-10000) 10000 with
 |false=>rfl
 |true =>
 rw[Zu (by omega),Á]
 cases wX c.2.2.1 with
 |false=>rfl
 |true =>
 rw[Zu (by omega),Á]
 cases wX c.2.2.2.1 with
 |false=>rfl
 |true =>
 have J:((ile (0:Int) (i:Int))&&(ile (i:Int) (ê b.2.2.2.2.1)))=true:=by simp[ile,ê]; omega
 simp only[eo,Ř,Bool.and_self,dN,if_false];rw[Β J,dL]
 -- what comes behind the IDs
 have rest:(Â (Ė ([c.2.2.1,c.2.2.2.1])) fun g=>Ê (fun(w:Int) o=>Ĵ s g (Ó ([(5:Int),(4:Int)])) c.2.1 ([(5:Int),(4:Int)]) w (fun z=>o z) (fun u=>some u) (fun _=>Ê (fun(y:Int) p=>į g (Ó g) b.1.1 b.1.2 b.2.1 b.2.2.1 b.2.2.2.1 b.2.2.2.2.1 b.2.2.2.2.2 c.2.1 y (fun A=>p A) (fun t=>some t) (fun _=>Â (ű c.2.2.1 c.2.2.2.1) fun f=>Â (ű c.2.2.2.1 c.2.2.1) fun e=>ifb (igt (Ó f) (1:Int)) (some (1:Int)) (ifb (igt (Ó e) (1:Int)) (some (1:Int)) (ck ((Ó f)+(Ó e)) fun h=>ifb (ieq h (0:Int)) (some (1:Int)) (some (0:Int)))))) (0:Int))) (0:Int))=some (Bu b s c):=by
  rw[aav (by omega) (by omega),Á]
  have D:(c.2.2.1++c.2.2.2.1).length<=200000:=by simp; omega
  have n:(Â (ű c.2.2.1 c.2.2.2.1) fun f=>Â (ű c.2.2.2.1 c.2.2.1) fun e=>ifb (igt (Ó f) (1:Int)) (some (1:Int)) (ifb (igt (Ó e) (1:Int)) (some (1:Int)) (ck ((Ó f)+(Ó e)) fun h=>ifb (ieq h (0:Int)) (some (1:Int)) (some (0:Int))))) =
   some (if 1<(í c.2.2.1 c.2.2.2.1).length then 1 else if 1<(í c.2.2.2.1 c.2.2.1).length then 1 else if (í c.2.2.1 c.2.2.2.1).length+(í c.2.2.2.1 c.2.2.1).length=0 then 1 else 0):=by
   rw[aim (by omega) (by omega),Á,aim (by omega) (by omega),Á];have L:=zE c.2.2.1 c.2.2.2.1;have K:=zE c.2.2.2.1 c.2.2.1;rw[â,â,ä (by omega) (by omega)]
   by_cases G:1<(í c.2.2.1 c.2.2.2.1).length
   ·rw[Ù (by simp[igt]; omega),if_pos G]
   rw[Ï (by simp[igt]; omega),if_neg G]
   by_cases F:1<(í c.2.2.2.1 c.2.2.1).length
   ·rw[Ù (by simp[igt]; omega),if_pos F]
   rw[Ï (by simp[igt]; omega),if_neg F]
   by_cases E:(í c.2.2.1 c.2.2.2.1).length+(í c.2.2.2.1 c.2.2.1).length=0
   ·rw[Ù (by simp[ieq]; omega),if_pos E]
   rw[Ï (by simp[ieq]; omega),if_neg E]
  refine fg (jk [(5:Int),4] (fun _ d=>if (c.2.2.1++c.2.2.2.1).any (fun id=>mn s id c.2.1==d) then some d else none) some (some (if (c.2.2.1++c.2.2.2.1).any (fun id=>(Ń b id c.2.1).isSome) then 9 else if 1<(í c.2.2.1 c.2.2.2.1).length then 1 else if 1<(í c.2.2.2.1 c.2.2.1).length then 1 else if (í c.2.2.1 c.2.2.2.1).length+(í c.2.2.2.1 c.2.2.1).length=0 then 1 else 0)) (fun j d m H r=>?_) (fun r=>?_)) ?_
  ·try dsimp only
   unfold Ĵ;rw[Ñ m,kr m,ė H];refine Eq.trans (ġ (c.2.2.1++c.2.2.2.1) (fun id=>mn s id c.2.1==d) (fun _=>some d) (some d) (r ((j:Int)+1)) (fun _=>rfl) (fun k a q ha l=>?_) (fun l=>?_)) ?_
   ·try dsimp only
    unfold ω;rw[Ñ q,Ç ha,abb,Á,Í q (by omega),ĕ]
   ·try dsimp only
    unfold ω;rw[ß,Í m (by simp)]
   ·cases List.any (c.2.2.1++c.2.2.2.1) (fun id=>mn s id c.2.1==d)<;>rfl
  ·try dsimp only
   unfold Ĵ;rw[ß];refine Eq.trans (ġ (c.2.2.1++c.2.2.2.1) (fun id=>(Ń b id c.2.1).isSome) (fun _=>some 9) (some 9) (some (if 1<(í c.2.2.1 c.2.2.2.1).length then 1 else if 1<(í c.2.2.2.1 c.2.2.1).length then 1 else if (í c.2.2.1 c.2.2.2.1).length+(í c.2.2.2.1 c.2.2.1).length=0 then 1 else 0)) (fun _=>rfl) (fun k a q ha l=>?_) (fun l=>?_)) ?_
   ·try dsimp only
    unfold į;have B:=ajK I a c.2.1;rw[Ñ q,Ç ha,Í q (by omega)];rw[show vN ((b.1.1,b.1.2),b.2.1,b.2.2.1,b.2.2.2.1,b.2.2.2.2.1,b.2.2.2.2.2) a c.2.1=vN b a c.2.1 from rfl,B,Á]
    cases Ń b a c.2.1<;>rfl
   ·try dsimp only
    unfold į;rw[ß,n]
   ·cases List.any (c.2.2.1++c.2.2.2.1) (fun id=>(Ń b id c.2.1).isSome)<;>rfl
  ·unfold Bu Ć Ć Ć
   try dsimp only
   cases List.any (c.2.2.1++c.2.2.2.1) (fun id=>mn s id c.2.1==5) with
   |true=>rfl
   |false =>
   cases List.any (c.2.2.1++c.2.2.2.1) (fun id=>mn s id c.2.1==4)<;>rfl
 refine fg (ġ (b.2.2.2.2.1.take i) (fun x=>x.1==c.1) (fun v=>ifb (ige v (0:Int)) (some 6) (some (Bu b s c))) (some 6) (some (Bu b s c)) (fun j=>?_) (fun j a m ha r=>?_) (fun r=>?_)) ?_
 ·have:ige (j:Int) 0=true:=by simp[ige]
  rw[Ù this]
 ·try dsimp only
  unfold ig;rw[rest,Ñ m,Ç ha,Í m (by rw[List.length_take]; omega),ĕ]
 ·try dsimp only
  unfold ig;rw[ß,rest]
 ·cases List.any (b.2.2.2.2.1.take i) (fun x=>x.1==c.1)<;>rfl
def abP (b:æ) (g:ë):rT Int :=
 [g.2.1]++(b.2.2.2.2.1.filter fun c=>!(c.2.2.1.contains g.1==c.2.2.2.1.contains g.1)).map (fun c=>c.2.1)++(b.2.2.2.2.2.filter fun n=>n.1==g.1).map (fun n=>n.2)
def ĉ (b:æ) (g:ë):rT Int:=acw (abP b g)
structure ζ (b:æ):Prop where
 gauges:b.2.1.length<=1000
 uses:b.2.2.1.length<=1000
 loans:b.2.2.2.1.length<=1000
 compares:b.2.2.2.2.1.length<=1000
 looks:b.2.2.2.2.2.length<=1000
 piles:∀c∈b.2.2.2.2.1,c.2.2.1.length<=1000/\c.2.2.2.1.length<=1000
def agE (l:rT Int):(Km l).length=l.length:=(isortI_perm l).length_eq
def ZZ {b:æ} (a:ζ b) (g:ë):(abP b g).length<=2001:=by
 have f:=a.compares;have h2:=a.looks;have e:=eW (fun c:Cmp=>!(c.2.2.1.contains g.1==c.2.2.2.1.contains g.1)) b.2.2.2.2.1;have d:=eW (fun n:Int×Int=>n.1==g.1) b.2.2.2.2.2;simp only[abP,dw,eF,eX];omega
def anT {b:æ} (d:ζ b) (g:ë):vM b g=some (ĉ b g):=by
 unfold vM adr;have r:=ZZ d g
 have hd:(ĉ b g).length<=2001:=by
  unfold ĉ;have:=LP (abP b g);omega
 have m:=d.compares;have l:=d.looks;refine ŋ b.2.2.2.2.1 (fun i=>[g.2.1]++((b.2.2.2.2.1.take i).filter fun c=>!(c.2.2.1.contains g.1==c.2.2.2.1.contains g.1)).map (fun c=>c.2.1)) _ rfl (fun i c hi f e=>?_) (fun e=>?_)
 ·try dsimp only
  unfold vC;obtain⟨q,p⟩:=d.piles c (List.mem_of_getElem? f);rw[Ñ hi,Ç f,η (by omega),Á,η (by omega),Á,Í hi (by omega),Í hi (by omega),take_succ f,List.filter_append,List.map_append]
  have a:([g.2.1]++((b.2.2.2.2.1.take i).filter fun c=>!(c.2.2.1.contains g.1==c.2.2.2.1.contains g.1)).map (fun c=>c.2.1)).length<=1001:=by
   have k:=eW (fun c:Cmp=>!(c.2.2.1.contains g.1==c.2.2.2.1.contains g.1)) (b.2.2.2.2.1.take i);rw[dK] at k;simp only[dw,eF,eX];omega
  rw[Ë (by simp only[eX]; omega),Am.iff_true]
  cases h:(c.2.2.1.contains g.1==c.2.2.2.1.contains g.1) with
  |true=>simp only[eo,Ř,fu,h,dN,if_false,fE,gj,dO]
  |false=>simp only[Bool.not_false,mP,fu,h,if_true,fE,eM,gj,dH]
 ·try dsimp only
  unfold vC;rw[ß,List.take_length];refine ŋ b.2.2.2.2.2 (fun i=>[g.2.1]++(b.2.2.2.2.1.filter fun c=>!(c.2.2.1.contains g.1==c.2.2.2.1.contains g.1)).map (fun c=>c.2.1)++((b.2.2.2.2.2.take i).filter fun n=>n.1==g.1).map (fun n=>n.2)) _ (by simp) (fun i n hi j e=>?_) (fun e=>?_)
  ·try dsimp only
   unfold vB;rw[Ñ hi,Ç j,Í hi (by omega),Í hi (by omega),take_succ j,List.filter_append,List.map_append]
   have a:([g.2.1]++(b.2.2.2.2.1.filter fun c=>!(c.2.2.1.contains g.1==c.2.2.2.1.contains g.1)).map (fun c=>c.2.1)++((b.2.2.2.2.2.take i).filter fun n=>n.1==g.1).map (fun n=>n.2)).length<=2001:=by
    have k:=eW (fun c:Cmp=>!(c.2.2.1.contains g.1==c.2.2.2.1.contains g.1)) b.2.2.2.2.1;have o:=eW (fun n:Int×Int=>n.1==g.1) (b.2.2.2.2.2.take i);rw[dK] at o;simp only[dw,eF,eX];omega
   rw[Ë (by simp only[eX]; omega),Am.iff_true]
   cases h:(n.1==g.1) with
   |true =>
    have:ieq n.1 g.1=true:=h;simp[h,this]
   |false =>
    have:ieq n.1 g.1=false:=h;simp[h,this]
  ·try dsimp only
   unfold vB;rw[ß,List.take_length];rw[show([g.2.1]++(b.2.2.2.2.1.filter fun c=>!(c.2.2.1.contains g.1==c.2.2.2.1.contains g.1)).map (fun c=>c.2.1)++(b.2.2.2.2.2.filter fun n=>n.1==g.1).map (fun n=>n.2))=abP b g from rfl];dsimp only;rw[Ë (by omega),Am.iff_true,Ë (by rw[agE]; omega),Am.iff_true,amT];rfl
def Ă (b:æ):rT (Int×Int):=b.2.1.flatMap fun g=>(ĉ b g).map fun d=>((g.1,d):Int×Int)
def Hn {b:æ} (a:ζ b) (g:ë):(ĉ b g).length<=2001:=by
 unfold ĉ;have:=LP (abP b g);have:=ZZ a g;omega
def vG {α β:Type} (f:α->rT β) (n:Nat) (h:∀a,(f a).length<=n):∀l:rT α,(l.flatMap f).length<=l.length*n
 |[]=>by simp
 |a::l=>by
  have:=vG f n h l;have:=h a;simp only[dR,dw,dz,dS,fG];omega
def akV {b:æ} (f:ζ b):qy b=some (Ă b):=by
 unfold qy Ze;have p:=f.gauges
 have a:∀l:rT ë,(l.flatMap fun g=>(ĉ b g).map fun d=>((g.1,d):Int×Int)).length<=l.length*2001:=fun l =>
  vG _ 2001 (fun g=>by rw[eF]; exact Hn f g) l
 refine ŋ b.2.1 (fun i=>(b.2.1.take i).flatMap fun g=>(ĉ b g).map fun d=>((g.1,d):Int×Int)) _ rfl (fun i g hi c m=>?_) (fun m=>?_)
 ·try dsimp only
  unfold rX;rw[Ñ hi,Ç c];rw[show vM ((b.1.1,b.1.2),b.2.1,b.2.2.1,b.2.2.2.1,b.2.2.2.2.1,b.2.2.2.2.2) g=vM b g from rfl,anT f,Á];have hd:=Hn f g;have o:=a (b.2.1.take i)
  have n:(b.2.1.take i).length<=1000:=by rw[dK]; omega
  refine ŋ (ĉ b g) (fun j=>((b.2.1.take i).flatMap fun g=>(ĉ b g).map fun d=>((g.1,d):Int×Int))++((ĉ b g).take j).map fun d=>((g.1,d):Int×Int)) _ (by simp) (fun j d k e h=>?_) (fun h=>?_)
  ·try dsimp only
   unfold rW;rw[Ñ k,Ç e,Í k (by omega),take_succ e,List.map_append];rw[Ë (by simp only[List.length_append,List.length_map,List.length_take,List.length_singleton]; omega),Am.iff_true];simp
  ·try dsimp only
   unfold rW;rw[ß,List.take_length];dsimp only;rw[Í hi (by omega),take_succ c,List.flatMap_append];simp
 ·try dsimp only
  unfold rX;rw[ß,List.take_length];rfl
def wi (b:æ) (s:rT (Int×ë)):rT Int :=
 b.2.2.1.map (fun u=>aen s u.1 u.2)++(b.2.2.2.1.mapIdx (fun i l=>PF b s i l)++(b.2.2.2.2.1.mapIdx (fun i c=>jp b s i c)++b.2.2.2.2.2.map (fun u=>aen s u.1 u.2)))
def Yr {α:Type} {f:Int->rF Int} {g:Nat->α->Int} (l:rT α) (h:∀(i:Nat) (a:α),l[i]?=some a->f i=some (g i a)):M6 f (xl l.length)=some (l.mapIdx g):=by
 have j:∀i,i<l.length->f (i:Int)=some ((l.mapIdx g)[i]?.getD 0):=by
  intro i hi;rw[h i l[i] (dv hi)];simp[hi]
 have h2:∀x∈xl l.length,f x=some ((l.mapIdx g)[x.toNat]?.getD 0):=by
  intro x c;unfold xl at c;obtain⟨i,hi,rfl⟩:=List.mem_map.1 c;rw[j i (by simpa using hi)];rfl
 rw[EP h2];congr 1;refine List.ext_getElem (by simp[xl]) fun i k e=>?_
 have d:i<l.length:=by simpa using e
 simp[xl,d]
def agh (b:æ):Prop:=∀c∈b.2.2.2.2.1,c.2.2.1.length<=100000/\c.2.2.2.1.length<=100000
def ζ.w {b:æ} (h:ζ b):agh b:=fun c a=>by have:=h.piles c a; omega
def Ŭ {l:rT Int} (h:wX l=true):l.length<=6:=by
 unfold wX at h
 split at h
 ·cases h
 ·exact of_decide_eq_true h
def MV {c:Cmp} (h:Di c=true):c.2.2.1.length<=6/\c.2.2.2.1.length<=6:=by
 simp only[Di,dt] at h;exact⟨Ŭ h.2.2.2.2.2.1,Ŭ h.2.2.2.2.2.2⟩
def akL {b:æ} (g:b.2.2.1.length<=1000) (e:b.2.2.2.1.length<=1000) (h:b.2.2.2.2.1.length<=1000) (d:agh b) (s:rT (Int×ë)):nN b s=some (wi b s):=by
 unfold nN wi
 rw[EP (fun u _=>XK s u.1 u.2),Á,Yr b.2.2.2.1 (fun i l f=>Z5 e g s f),Á,
  Yr b.2.2.2.2.1 (fun i c a=>Qq h e s (d c (dJ a)).1 (d c (dJ a)).2 a),Á,EP (fun u _=>XK s u.1 u.2),Á]
def š (b:æ):Int :=
 if !jP b.1 0 1000000 then 1 else
 if 12<b.2.1.length then 2 else if 40<b.2.2.1.length then 2 else if 12<b.2.2.2.1.length then 2 else if 40<b.2.2.2.2.1.length then 2 else if 10<b.2.2.2.2.2.length then 2 else
 if iT b != 0 then iT b else
 match (wi b (ū b)).find? (fun e=>e != 0) with
 |some e=>e
 |none=>if 59<(Ă b).length then 2 else if 300<2*b.2.1.length+2*((Ă b).length-b.2.1.length:Int)+2*b.2.2.2.2.1.length then 2 else 0
def Tw {b:æ} (a:ζ b):(Ă b).length<=2001000:=by
 have:=vG (fun g:ë=>(ĉ b g).map fun d=>((g.1,d):Int×Int)) 2001 (fun g=>by rw[List.length_map]; exact Hn a g) b.2.1;have h2:=a.gauges;unfold Ă;omega
def aaw {b:æ} (a:agh b) (p:∀g∈b.2.1,I64 g.2.2.2.2.1.1):ē b=some (š b):=by
 unfold ē PD š;rw[GP,Á]
 cases jP b.1 0 1000000 with
 |false=>rfl
 |true =>
 rw[Ï (show(!true)=false from rfl),if_neg (by simp)];simp only[â]
 by_cases o:12<b.2.1.length
 ·rw[Ù (by simp[igt]; omega),if_pos o]
 rw[Ï (by simp[igt]; omega),if_neg o]
 by_cases n:40<b.2.2.1.length
 ·rw[Ù (by simp[igt]; omega),if_pos n]
 rw[Ï (by simp[igt]; omega),if_neg n]
 by_cases m:12<b.2.2.2.1.length
 ·rw[Ù (by simp[igt]; omega),if_pos m]
 rw[Ï (by simp[igt]; omega),if_neg m]
 by_cases l:40<b.2.2.2.2.1.length
 ·rw[Ù (by simp[igt]; omega),if_pos l]
 rw[Ï (by simp[igt]; omega),if_neg l]
 by_cases k:10<b.2.2.2.2.2.length
 ·rw[Ù (by simp[igt]; omega),if_pos k]
 rw[Ï (by simp[igt]; omega),if_neg k]
 have f:b.2.1.length<=1000:=by omega
 rw[SE p f,Á]
 cases d:(iT b != 0) with
 |true =>
  have:ine (iT b) 0=true:=d;rw[Ù this,if_pos rfl]
 |false =>
 have:ine (iT b) 0=false:=d;rw[Ï this,if_neg (by simp)];rw[SZ f,Á];unfold XE;rw[akL (by omega) (by omega) (by omega) a,Á]
 cases r:(wi b (ū b)).find? (fun e=>e != 0) with
 |some e=>rfl
 |none =>
 dsimp only
 have a:ζ b:=⟨by omega,by omega,by omega,by omega,by omega,fun c s=>by
  obtain⟨i,hi,rfl⟩:=dQ.1 s
  have:=fc.1 r (jp b (ū b) i b.2.2.2.2.1[i]) (by
   unfold wi
   exact d8 _ (d8 _ (eZ _ (gG.2 ⟨i,hi,rfl⟩))))
  unfold jp at this
  split at this
  ·simp at this
  ·rename_i q;have:=MV (by simpa using q)
   omega⟩
 have t:=Tw a;rw[akV a,Á]
 by_cases j:59<(Ă b).length
 ·rw[Ù (by simp[igt]; omega),if_pos j]
 rw[Ï (by simp[igt]; omega),if_neg j];rw[ä (by omega) (by omega),ä (by omega) (by omega),ä (by omega) (by omega),ä (by omega) (by omega),ä (by omega) (by omega),ä (by omega) (by omega)]
 by_cases h:300<2*b.2.1.length+2*((Ă b).length-b.2.1.length:Int)+2*b.2.2.2.2.1.length
 ·rw[Ù (by simp[igt]; omega),if_pos h]
 rw[Ï (by simp[igt]; omega),if_neg h]
def Mq {b:æ} (a:ζ b) (c:∀g∈b.2.1,I64 g.2.2.2.2.1.1):ē b=some (š b):=aaw a.w c
def Dk (l:rT (Int×Int)) (x d:Int):rF Nat:=l.findIdx? fun n=>decide (x=n.1)&&decide (d=n.2)
def atP (l:rT (Int×Int)) (p:rT Int) (d:Int):Int :=
 match p with
 |[]=>0
 |x::_=>match Dk l x d with|some j=>(j:Int)+1|none=>0
def QT (s:rT (Int×ë)) (p:rT Int):Int×Int :=
 match p with
 |[]=>(0,1)
 |x::_=>match wZ (k:=tI) (v:=Ú) x s with
  |some g=>g.2.2.2.2.1
  |none=>(0,0)
def Ae (n d:Int):Int×Int:=(n / (Nat.gcd n.natAbs d.natAbs:Nat),d / (Nat.gcd n.natAbs d.natAbs:Nat))
def Et (r:Int×Int):aaC r=true↔1<=r.2/\r.2<=2147483647/\(r.1.natAbs:Int)<=2147483647/\Nat.gcd r.1.natAbs r.2.natAbs=1:=by
 simp[aaC]
def Er {n d:Int} (hd:0<d):∃g:Nat,0<g/\g=Nat.gcd n.natAbs d.natAbs/\n=(Ae n d).1*g/\d=(Ae n d).2*g:=by
 have a:0<Nat.gcd n.natAbs d.natAbs:=Nat.gcd_pos_of_pos_right _ (by omega);refine⟨_,a,rfl,?_,?_⟩
 ·exact(Int.ediv_mul_cancel (Int.ofNat_dvd_left.2 (Nat.gcd_dvd_left _ _))).symm
 ·exact(Int.ediv_mul_cancel (Int.ofNat_dvd_left.2 (Nat.gcd_dvd_right _ _))).symm
def aaX {n d:Int} (hd:0<d) (l:n.natAbs<=2147483647) (f:d<=2147483647):aaC (Ae n d)=true:=by
 obtain⟨g,h0,e,j,h2⟩:=Er (n:=n) hd;rw[Et]
 have c:n.natAbs=(Ae n d).1.natAbs*g:=by conv=>lhs; rw[j]; rw[gi,gL]
 have a:d.natAbs=(Ae n d).2.natAbs*g:=by conv=>lhs; rw[h2]; rw[gi,gL]
 have k:0<(Ae n d).2:=by
  rcases Int.lt_trichotomy (Ae n d).2 0 with h|h|h
  ·have:=Int.mul_neg_of_neg_of_pos h (show(0:Int)<g by omega); omega
  ·rw[h] at h2; simp at h2; omega
  ·exact h
 have o:(Ae n d).1.natAbs<=n.natAbs:=by rw[c]; exact f8 _ h0
 have m:(Ae n d).2.natAbs<=d.natAbs:=by rw[a]; exact f8 _ h0
 refine⟨by omega,by omega,by omega,?_⟩;have:=Nat.gcd_mul_right (Ae n d).1.natAbs g (Ae n d).2.natAbs;rw[<-c,<-a,<-e] at this
 have i:(Nat.gcd (Ae n d).1.natAbs (Ae n d).2.natAbs)*g=1*g:=by omega
 exact Nat.eq_of_mul_eq_mul_right h0 i
structure Ef (r:Int×Int) (n d:Int):Prop where
 rat:aaC r=true
 num : -n<=r.1/\r.1<=n
 den:r.2<=d
def Ef.pos {r:Int×Int} {n d:Int} (h:Ef r n d):1<=r.2:=((Et r).1 h.rat).1
def Ah {a b m n:Int} (g : -m<=a/\a<=m) (h2 : -n<=b/\b<=n) : -(m*n)<=a*b/\a*b<=m*n:=by
 have d:0<=m:=by omega
 have c:0<=n:=by omega
 have f:(a*b).natAbs<=(m*n).natAbs:=by
  rw[gi,gi];exact fT (by omega) (by omega)
 have e:0<=m*n:=Int.mul_nonneg d c;omega
def subP (x y:Int×Int):Int×Int:=Ae (x.1*y.2-y.1*x.2) (x.2*y.2)
def SU {x y:Int×Int} (c:Ef x 1000 100) (a:Ef y 1000 100):(x.1*y.2-y.1*x.2).natAbs<=200000/\0<x.2*y.2/\x.2*y.2<=10000:=by
 have f:=Ah c.num (show -100<=y.2/\y.2<=100 from⟨by have:=a.pos; omega,a.den⟩);have h2:=Ah a.num (show -100<=x.2/\x.2<=100 from⟨by have:=c.pos; omega,c.den⟩);have e:=Ah (show -100<=x.2/\x.2<=100 from⟨by have:=c.pos; omega,c.den⟩) (show -100<=y.2/\y.2<=100 from⟨by have:=a.pos; omega,a.den⟩);have d:=Int.mul_pos (show 0<x.2 by have:=c.pos; omega) (show 0<y.2 by have:=a.pos; omega);refine⟨by omega,d,by omega⟩
def agR {n d:Int} (hd:0<d):(Ae n d).1.natAbs<=n.natAbs/\(Ae n d).2<=d:=by
 obtain⟨g,h0,h,a,h2⟩:=Er (n:=n) hd
 have f:n.natAbs=(Ae n d).1.natAbs*g:=by conv=>lhs; rw[a]; rw[gi,gL]
 have e:d.natAbs=(Ae n d).2.natAbs*g:=by conv=>lhs; rw[h2]; rw[gi,gL]
 have c:(Ae n d).1.natAbs<=n.natAbs:=by rw[f]; exact f8 _ h0
 have i:(Ae n d).2.natAbs<=d.natAbs:=by rw[e]; exact f8 _ h0
 exact⟨c,by omega⟩
def aaI {x y:Int×Int} (d:Ef x 1000 100) (c:Ef y 1000 100):Ef (subP x y) 200000 10000:=by
 obtain⟨g,a,b3⟩:=SU d c;obtain⟨f,e⟩:=agR (n:=x.1*y.2-y.1*x.2) a;exact⟨aaX a (by omega) (by omega),by unfold subP; omega,by unfold subP; omega⟩
def Jr (k:Int×Int) (n:Int):Int×Int:=Ae (k.1*n) k.2
def TA {k:Int×Int} (c:Ef k 200000 10000) {n:Int} (a : -10000<=n/\n<=10000):(k.1*n).natAbs<=2000000000:=by
 have:=Ah c.num a;omega
def ahq {k:Int×Int} (a:Ef k 200000 10000) {n:Int} (c : -10000<=n/\n<=10000):Ef (Jr k n) 2000000000 10000:=by
 have b:=TA a c;have p:=a.pos;have q:=a.den;obtain⟨e,d⟩:=agR (n:=k.1*n) (show 0<k.2 by omega);exact⟨aaX (by omega) (by omega) (by omega),by unfold Jr; omega,by unfold Jr; omega⟩
def cmpP (x y:Int×Int):Int:=if x=y then 0 else if x.1*y.2<y.1*x.2 then -1 else if y.1*x.2<x.1*y.2 then 1 else 0
def aa4 (k:Int×Int) (heat:Int×Int):(Int×Int)×(Int×Int) :=
 if 0<cmpP (Jr k heat.1) (Jr k heat.2) then(Jr k heat.2,Jr k heat.1) else(Jr k heat.1,Jr k heat.2)
def rateK (s:rT (Int×ë)) (c:Cmp):Int×Int:=subP (QT s (í c.2.2.1 c.2.2.2.1)) (QT s (í c.2.2.2.1 c.2.2.1))
def jK (b:æ) (c:Cmp):(Int×Int)×(Int×Int):=aa4 (rateK (ū b) c) c.2.2.2.2.2.2
def uI (b:æ) (c:Cmp):Int×Int :=
 (((c.2.2.1.length-1:Nat):Int)*b.1.1-((c.2.2.2.1.length-1:Nat):Int)*b.1.2,((c.2.2.1.length-1:Nat):Int)*b.1.2-((c.2.2.2.1.length-1:Nat):Int)*b.1.1)
def afy {n d:Int} (hd:1<=d) (i : -4000000000<=n/\n<=4000000000):ifb (iK d 0) (none) (ck (Int.tdiv n d) fun a=>ifb (iK d 0) (none) (ifb (ilt (Int.tmod n d) (0:Int)) (ck (a-(1:Int)) fun c=>some c) (some a)))=some (n / d):=by
 have z:iK d 0=false:=by simp[iK]; omega
 rw[Ï z];have t:=Int.mul_tdiv_add_tmod n d
 have j : -4000000000<=Int.tdiv n d/\Int.tdiv n d<=4000000000:=by
  have:=Int.natAbs_tdiv_le_natAbs n d;omega
 rw[ä (by omega) (by omega),Ï z,ĕ]
 by_cases h:Int.tmod n d<0
 ·rw[if_pos (by simpa[ilt] using h),ä (by omega) (by omega)];congr 1
  have g : -d<Int.tmod n d:=by
   have f:=ic n d;have e:=gO n.natAbs (show 0<d.natAbs by omega);omega
  refine(gd (by omega)).2 ⟨?_,?_⟩ |>.symm
  ·rw[Int.sub_mul,fU]; omega
  ·rw[Int.sub_mul,fU (Int.tdiv n d)]; omega
 ·rw[if_neg (by simpa[ilt] using h)];congr 1
  have g:Int.tmod n d<d:=by
   have f:=ic n d;have e:=gO n.natAbs (show 0<d.natAbs by omega);omega
  refine(gd (by omega)).2 ⟨?_,?_⟩ |>.symm
  ·rw[fU]; omega
  ·rw[fU (Int.tdiv n d)]; omega
def Z6 (r:Int×Int):Int:=-(-r.1 / r.2)
def UC {n d:Int} (hd:1<=d):(n / d).natAbs<=n.natAbs:=by
 exact Int.natAbs_ediv_le_natAbs n d
def U9 (b:æ) (c:Cmp):Int×Int :=
 (c.2.2.2.2.1-c.2.2.2.2.2.1-(uI b c).2-(jK b c).2.1 / (jK b c).2.2,c.2.2.2.2.1+c.2.2.2.2.2.1-(uI b c).1-Z6 (jK b c).1)
structure jt (b:æ):Prop where
 film:0<=b.1.1/\b.1.1<=b.1.2/\b.1.2<=1000000
 nG:b.2.1.length<=12
 nU:b.2.2.1.length<=40
 nL:b.2.2.2.1.length<=12
 nC:b.2.2.2.2.1.length<=40
 nK:b.2.2.2.2.2.length<=10
 gauge:∀g∈b.2.1,nP g=true
 ids:b.2.1.Pairwise fun a b=>a.1<b.1
 uses:∀u∈b.2.2.1,aen (ū b) u.1 u.2=0
 loans:∀i l,b.2.2.2.1[i]?=some l->PF b (ū b) i l=0
 compares:∀i c,b.2.2.2.2.1[i]?=some c->jp b (ū b) i c=0
 looks:∀u∈b.2.2.2.2.2,aen (ū b) u.1 u.2=0
 nodes:(Ă b).length<=59
 links:2*(Ă b).length+2*b.2.2.2.2.1.length<=300
def vF (b:æ):iT b=0↔(∀g∈b.2.1,nP g=true)/\b.2.1.Pairwise fun a b=>a.1<b.1:=by
 have h0:Ć (ox b.2.1) 0 b.2.1=none↔(∀g∈b.2.1,nP g=true)/\b.2.1.Pairwise fun a b=>a.1<b.1:=by
  rw[Ľ,<-Ml (fun g:ë=>g.1) b.2.1];constructor
  ·intro h
   have d:∀(j:Nat) (a:ë),b.2.1[j]?=some a->nP a=true/\ku (fun g:ë=>g.1) b.2.1 j a=false:=by
    intro j a ha;have:=h j a ha;rw[Nat.zero_add] at this;unfold ox at this
    split at this
    ·cases this
    ·split at this
     ·cases this
     ·rename_i d h2;exact⟨by simpa using d,by simpa using h2⟩
   refine⟨fun x k=>?_,fun i a ha=>(d i a ha).2⟩;obtain⟨j,l,rfl⟩:=dQ.1 k;exact(d j _ (dv l)).1
  ·rintro⟨d,h2⟩ j a ha;rw[dW];simp[ox,d a (dJ ha),h2 j a ha]
 rw[<-h0];unfold iT
 cases h:Ć (ox b.2.1) 0 b.2.1 with
 |none=>simp
 |some e =>
  have:∀(m:rT ë) (j:Nat) (x:Int),Ć (ox b.2.1) j m=some x->x≠0:=by
   intro m
   induction m with
   |nil=>intro j x h; cases h
   |cons a m f =>
    intro j x h;unfold Ć at h
    cases c:ox b.2.1 j a with
    |none=>rw[c] at h; exact f _ _ h
    |some y =>
     rw[c] at h;cases h;unfold ox at c
     split at c
     ·cases c; omega
     ·split at c
      ·cases c; omega
      ·cases c
  simp[this _ _ _ h]
def Ļ (b:æ):š b=0↔jt b:=by
 unfold š;constructor
 ·intro h
  split at h
  ·omega
  rename_i z
  (repeat' split at h)<;>try omega
  ·rename_i g
   have m:iT b≠0:=by simpa using g
   exact(m h).elim
  ·rename_i n;have:=gH n;rename_i e;simp at this;exact(this h).elim
  ·rename_i v t s r q g e n p o
   have k:iT b=0:=by simpa using g
   obtain⟨B,A⟩:=(vF b).1 k
   have a:∀x∈wi b (ū b),x=0:=fun x j=>by
    have:=fc.1 n x j;simpa using this
   simp only[wi,dA] at a
   have f:jP b.1 0 1000000=true:=by simpa using z
   simp only[jP,dt,decide_eq_true_eq] at f;refine⟨⟨f.1,f.2.1,f.2.2⟩,by omega,by omega,by omega,by omega,by omega,B,A,fun u d=>a _ (.inl (eN.2 ⟨u,d,rfl⟩)),fun i l w=>?_,fun i c y=>?_,fun u d=>a _ (.inr (.inr (.inr (eN.2 ⟨u,d,rfl⟩)))),by omega,by omega⟩
   ·obtain⟨hi,rfl⟩:=dC.1 w;exact a _ (.inr (.inl (gG.2 ⟨i,hi,rfl⟩)))
   ·obtain⟨hi,rfl⟩:=dC.1 y;exact a _ (.inr (.inr (.inl (gG.2 ⟨i,hi,rfl⟩))))
 ·intro h
  have f:jP b.1 0 1000000=true:=by simp[jP,h.film.1,h.film.2.1,h.film.2.2]
  have g:iT b=0:=(vF b).2 ⟨h.gauge,h.ids⟩
  have a:(wi b (ū b)).find? (fun e=>e != 0)=none:=by
   rw[fc];intro x j;simp only[wi,dA,eN,gG] at j
   have:x=0:=by
    rcases j with⟨u,d,rfl⟩|⟨i,hi,rfl⟩|⟨i,hi,rfl⟩|⟨u,d,rfl⟩
    ·exact h.uses u d
    ·exact h.loans i _ (dv hi)
    ·exact h.compares i _ (dv hi)
    ·exact h.looks u d
   simp[this]
  have:=h.nG; have:=h.nU; have:=h.nL; have:=h.nC; have:=h.nK; have:=h.nodes; have:=h.links;rw[f,g,a];simp only[eo,dN,if_false,bne_self_eq_false];rw[if_neg (by omega),if_neg (by omega),if_neg (by omega),if_neg (by omega),if_neg (by omega),if_neg (by omega),if_neg (by omega)]
section
variable {b:æ}
def jt.nums (h:jt b) {c:Cmp} (a:c∈b.2.2.2.2.1):Di c=true:=by
 obtain⟨i,hi,rfl⟩:=List.mem_iff_getElem.1 a;have:=h.compares i _ (List.getElem?_eq_getElem hi);unfold jp at this
 split at this
 ·omega
 ·rename_i h; simpa using h
def jt.pilesOf (h:jt b) {c:Cmp} (a:c∈b.2.2.2.2.1):Bu b (ū b) c=0:=by
 obtain⟨i,hi,rfl⟩:=List.mem_iff_getElem.1 a;have:=h.compares i _ (List.getElem?_eq_getElem hi);unfold jp at this
 split at this
 ·omega
 ·split at this
  ·omega
  ·exact this
def lm (c:Cmp):Di c=true↔(1<=c.1/\c.1<=1099511627776)/\(0<=c.2.1/\c.2.1<=20000)/\(-1125899906842624<=c.2.2.2.2.1/\c.2.2.2.2.1<=1125899906842624)/\(0<=c.2.2.2.2.2.1/\c.2.2.2.2.2.1<=1073741824)/\jP c.2.2.2.2.2.2 (-10000) 10000=true/\wX c.2.2.1=true/\wX c.2.2.2.1=true:=by
 simp[Di,inP,IW,and_assoc]
def jt.size (h:jt b):ζ b:=by
 have i:=h.nG; have h2:=h.nU; have g:=h.nL; have f:=h.nC; have e:=h.nK;refine⟨by omega,by omega,by omega,by omega,by omega,fun c d=>?_⟩;have:=(lm c).1 (h.nums d);have a:=Ŭ this.2.2.2.2.2.1;have b:=Ŭ this.2.2.2.2.2.2;omega
def uG (g:ë):nP g=true↔aaC g.2.2.2.2.1=true/\(-1000<=g.2.2.2.2.1.1/\g.2.2.2.2.1.1<=1000)/\g.2.2.2.2.1.2<=100/\(1<=g.1/\g.1<=1099511627776)/\(0<=g.2.1/\g.2.1<=20000)/\(1<=g.2.2.1/\g.2.2.1<=1125899906842624)/\(-1073741824<=g.2.2.2.1.1/\g.2.2.2.1.1<=g.2.2.2.1.2/\g.2.2.2.1.2<=1073741824)/\(0<=g.2.2.2.2.2/\g.2.2.2.2.2<=1048576):=by
 simp[nP,inP,IW,jP,and_assoc]
def sk {id:Int} {g:ë} (h:ą b id=some g):g∈b.2.1/\g.1=id:=by
 unfold ą at h;exact⟨List.mem_of_find?_eq_some h,by simpa using List.find?_some h⟩
def PR (hi:b.2.1.Pairwise fun a b=>a.1<b.1) {g:ë} (c:g∈b.2.1):ą b g.1=some g:=by
 unfold ą
 induction d:b.2.1 generalizing b with
 |nil=>rw[d] at c; cases c
 |cons a t e =>
  rw[d] at c hi;rw[dU] at hi;rw[gb];rcases dE.1 c with rfl|c
  ·simp
  ·have f:=hi.1 g c
   have:(a.1==g.1)=false:=by simp; omega
   rw[this];have:=e (b:=(b.1,t,b.2.2)) hi.2 c rfl;exact this
def HZ (h:jt b) {id day:Int} (a:mn (ū b) id day=0):∃g,ą b id=some g/\g.2.1<=day:=by
 unfold mn at a;rw[tp h.ids] at a
 split at a
 ·rename_i g c
  split at a
  ·omega
  ·exact⟨g,c,by omega⟩
 ·omega
def M8 (s:rT (Int×ë)) (id day:Int):mn s id day=0\/mn s id day=4\/mn s id day=5:=by
 unfold mn
 split
 ·split<;>simp
 ·simp
def jt.pile (h:jt b) {c:Cmp} (j:c∈b.2.2.2.2.1) {x:Int} (d:x∈c.2.2.1++c.2.2.2.1):(∃g,ą b x=some g/\g.2.1<=c.2.1)/\Ń b x c.2.1=none:=by
 have a:=h.pilesOf j;unfold Bu at a
 split at a
 ·omega
 rename_i l
 split at a
 ·omega
 rename_i m
 split at a
 ·omega
 rename_i k;have f:=(fB.1 (fC.2 l)) x d;have i:=(fB.1 (fC.2 m)) x d;have e:=(fB.1 (fC.2 k)) x d;simp at f i e;refine⟨HZ h ?_,e⟩;rcases M8 (ū b) x c.2.1 with h0|h0|h0
 ·exact h0
 ·exact(i h0).elim
 ·exact(f h0).elim
def jt.lefts (h:jt b) {c:Cmp} (d:c∈b.2.2.2.2.1):(í c.2.2.1 c.2.2.2.1).length<=1/\(í c.2.2.2.1 c.2.2.1).length<=1/\(í c.2.2.1 c.2.2.2.1).length+(í c.2.2.2.1 c.2.2.1).length≠0:=by
 have a:=h.pilesOf d;unfold Bu at a
 (repeat' split at a)<;>first|omega|exact⟨by omega,by omega,by omega⟩
def GJ {a c:rT Int} {x:Int}:x∈í a c↔x∈a/\x∉c:=by
 simp[í]
def jt.rate (h:jt b) {p:rT Int} (c:∀x∈p,∃g,ą b x=some g):Ef (QT (ū b) p) 1000 100:=by
 unfold QT
 cases p with
 |nil =>
  have:Ef (0,1) 1000 100:=⟨by decide,by decide,by decide⟩;exact this
 |cons x t =>
  obtain⟨g,a⟩:=c x (by simp)
  try dsimp only
  rw[tp h.ids,a];have:=(uG g).1 (h.gauge g (sk a).1);exact⟨this.1,this.2.1,this.2.2.1⟩
def jt.rates (h:jt b) {c:Cmp} (e:c∈b.2.2.2.2.1):Ef (QT (ū b) (í c.2.2.1 c.2.2.2.1)) 1000 100/\Ef (QT (ū b) (í c.2.2.2.1 c.2.2.1)) 1000 100:=by
 constructor
 ·exact h.rate fun x a=>by
   obtain⟨⟨g,d,_⟩,_⟩:=h.pile e (eZ _ (GJ.1 a).1);exact⟨g,d⟩
 ·exact h.rate fun x a=>by
   obtain⟨⟨g,d,_⟩,_⟩:=h.pile e (d8 _ (GJ.1 a).1);exact⟨g,d⟩
def ac1 {k heat:Int×Int} (a:Ef k 200000 10000) (c:jP heat (-10000) 10000=true):Ef (aa4 k heat).1 2000000000 10000/\Ef (aa4 k heat).2 2000000000 10000:=by
 simp only[jP,Bool.and_eq_true,decide_eq_true_eq] at c;have r1:=ahq a (n:=heat.1) ⟨by omega,by omega⟩;have r2:=ahq a (n:=heat.2) ⟨by omega,by omega⟩;unfold aa4
 split
 ·exact⟨r2,r1⟩
 ·exact⟨r1,r2⟩
def D5 {c:Cmp} (d:c.2.2.1.length<=1000) (a:c.2.2.2.1.length<=1000) (g:0<=b.1.1) (h2:b.1.1<=1000000) (f:0<=b.1.2) (e:b.1.2<=1000000) :
 (-1000000000<=(uI b c).1/\(uI b c).1<=1000000000)/\(-1000000000<=(uI b c).2/\(uI b c).2<=1000000000):=by
 have bd:∀(n:Nat) (x:Int),n<=1000->0<=x->x<=1000000->0<=((n-1:Nat):Int)*x/\((n-1:Nat):Int)*x<=1000000000:=by
  intro n x i h0 h;refine⟨Int.mul_nonneg (by omega) h0,?_⟩;have:=Int.mul_le_mul (show((n-1:Nat):Int)<=1000 by omega) h h0 (by omega);omega
 have l:=bd _ _ d g h2;have k:=bd _ _ d f e;have b3:=bd _ _ a g h2;have j:=bd _ _ a f e;unfold uI
 try dsimp only
 omega
def D3 {r:Int×Int} (h:Ef r 2000000000 10000) : -2000000000<=r.1 / r.2/\r.1 / r.2<=2000000000:=by
 have:=UC (n:=r.1) h.pos;have:=h.num;omega
def I0 {r:Int×Int} (h:Ef r 2000000000 10000) : -2000000000<=Z6 r/\Z6 r<=2000000000:=by
 have:=UC (n:=-r.1) h.pos;have:=h.num;unfold Z6;omega
end
def Ě (l:HE) (f t:Int):Int:=min l.2.1.2 (t-1)-max l.2.1.1 f+1
def ka (id f t:Int):rT HE->Int
 |[]=>0
 |l::r=>(if l.1=id/\0<Ě l f t then Ě l f t*l.2.2 else 0)+ka id f t r
def nY (b:æ) (id f t:Int):rT Int:=(b.2.2.1.filter fun u=>u.1==id&&inP u.2 f (t-1)).map fun u=>u.2
def Bh (b:æ) (g:ë) (f t:Int):Int:=ka g.1 f t b.2.2.2.1+(acw (nY b g.1 f t)).length*g.2.2.2.2.2
def anB (a c:Int):W9 a c=min a c:=by unfold W9; split<;>omega
def afl {b:æ} (h:jt b) {l:HE} (c:l∈b.2.2.2.1):(0<=l.2.1.1/\l.2.1.1<=l.2.1.2/\l.2.1.2<=20000)/\(0<=l.2.2/\l.2.2<=1048576):=by
 obtain⟨i,hi,rfl⟩:=List.mem_iff_getElem.1 c;have:=h.loans i _ (List.getElem?_eq_getElem hi);unfold PF at this
 split at this
 ·omega
 rename_i a
 split at this
 ·omega
 rename_i h2;simp only[eQ,Bool.not_eq_false,jP,inP,dt,decide_eq_true_eq] at a h2;exact⟨a,h2⟩
def afk {l:HE} (h:(0<=l.2.1.1/\l.2.1.1<=l.2.1.2/\l.2.1.2<=20000)/\(0<=l.2.2/\l.2.2<=1048576)) {f t:Int} (a:0<=f) (hd:0<Ě l f t):0<=Ě l f t*l.2.2/\Ě l f t*l.2.2<=20001*1048576:=by
 refine⟨Int.mul_nonneg (by omega) h.2.1,Int.mul_le_mul ?_ h.2.2 h.2.1 (by omega)⟩;unfold Ě;omega
def CN {id f t:Int} (a:0<=f):∀{x:rT HE},(∀l∈x,(0<=l.2.1.1/\l.2.1.1<=l.2.1.2/\l.2.1.2<=20000)/\(0<=l.2.2/\l.2.2<=1048576))->0<=ka id f t x/\ka id f t x<=x.length*(20001*1048576)
 |[],_=>by simp[ka]
 |l::r,h=>by
  have e:=CN (id:=id) (t:=t) a (x:=r) fun l c=>h l (by simp[c]);simp only[ka,dz,Int.natCast_succ,Int.add_mul,Int.one_mul]
  split
  ·rename_i d;have:=afk (h l (by simp)) a d.2;omega
  ·omega
abbrev Lk:Type:=Int×Int×Int
def ũ (b:æ) (g:ë):rT Lk :=
 [(0,atP (Ă b) [g.1] g.2.1,g.2.2.1+g.2.2.2.1.2),(atP (Ă b) [g.1] g.2.1,0,-(g.2.2.1+g.2.2.2.1.1))] ++
 (List.range ((ĉ b g).length-1)).flatMap fun(k:Nat)=>[(atP (Ă b) [g.1] g.2.1+k,atP (Ă b) [g.1] g.2.1+k+1,0),(atP (Ă b) [g.1] g.2.1+k+1,atP (Ă b) [g.1] g.2.1+k,Bh b g ((ĉ b g)[k]?.getD 0) ((ĉ b g)[k+1]?.getD 0))]
def cx (b:æ) (c:Cmp):Int:=atP (Ă b) (í c.2.2.1 c.2.2.2.1) c.2.1
def cy (b:æ) (c:Cmp):Int:=atP (Ă b) (í c.2.2.2.1 c.2.2.1) c.2.1
def kR (b:æ) (c:Cmp):rT Lk:=[(cy b c,cx b c,(U9 b c).2),(cx b c,cy b c,-(U9 b c).1)]
def aie (b:æ):rT Lk:=b.2.1.flatMap (ũ b)++b.2.2.2.2.1.flatMap (kR b)
def ō (b:æ) (i:Nat) (g:ë):rT (Int×Int):=[(1,(i:Int)),(1,(i:Int))]++(List.range ((ĉ b g).length-1)).flatMap fun _=>[(2,(i:Int)),(2,(i:Int))]
def akx (b:æ):rT (Int×Int):=(b.2.1.mapIdx (ō b)).flatten++(b.2.2.2.2.1.mapIdx fun i _=>[(3,(i:Int)),(3,(i:Int))]).flatten
section
variable {b:æ}
def Ms (h:jt b) {id day:Int} (a:aen (ū b) id day=0):(0<=day/\day<=20000)/\∃g,ą b id=some g/\g.2.1<=day:=by
 unfold aen at a
 split at a
 ·omega
 ·rename_i hd;simp only[eQ,Bool.not_eq_false,IW,inP,dt,decide_eq_true_eq] at hd;exact⟨hd,HZ h a⟩
def nV {g:ë} {d:Int}:d∈ĉ b g↔d=g.2.1\/(∃c∈b.2.2.2.2.1,(c.2.2.1.contains g.1)≠(c.2.2.2.1.contains g.1)/\c.2.1=d)\/(∃n∈b.2.2.2.2.2,n.1=g.1/\n.2=d):=by
 unfold ĉ;rw[Ac,abP];simp only[List.mem_append,List.mem_singleton,List.mem_map,List.mem_filter];constructor
 ·rintro((h|⟨c,⟨e,h2⟩,a⟩)|⟨n,⟨e,h2⟩,a⟩)
  ·exact .inl h
  ·exact .inr (.inl ⟨c,e,by simpa using h2,a⟩)
  ·exact .inr (.inr ⟨n,e,by simpa using h2,a⟩)
 ·rintro(h|⟨c,e,h2,a⟩|⟨n,e,h2,a⟩)
  ·exact .inl (.inl h)
  ·exact .inl (.inr ⟨c,⟨e,by simpa using h2⟩,a⟩)
  ·exact .inr ⟨n,⟨e,by simpa using h2⟩,a⟩
def jt.gaugeR (h:jt b) {g:ë} (a:g∈b.2.1):aaC g.2.2.2.2.1=true/\(-1000<=g.2.2.2.2.1.1/\g.2.2.2.2.1.1<=1000)/\g.2.2.2.2.1.2<=100/\(1<=g.1/\g.1<=1099511627776)/\(0<=g.2.1/\g.2.1<=20000)/\(1<=g.2.2.1/\g.2.2.1<=1125899906842624)/\(-1073741824<=g.2.2.2.1.1/\g.2.2.2.1.1<=g.2.2.2.1.2/\g.2.2.2.1.2<=1073741824)/\(0<=g.2.2.2.2.2/\g.2.2.2.2.2<=1048576):=(uG g).1 (h.gauge g a)
def jt.day (h:jt b) {g:ë} (j:g∈b.2.1) {d:Int} (hd:d∈ĉ b g):g.2.1<=d/\0<=d/\d<=20000:=by
 have m:=h.gaugeR j;have a:=PR h.ids j;rcases nV.1 hd with rfl|⟨c,k,i,rfl⟩|⟨n,f,i,rfl⟩
 ·have:=m.2.2.2.2.1; omega
 ·have f:=(lm c).1 (h.nums k)
  have l:g.1∈c.2.2.1++c.2.2.2.1:=by
   rw[dA]
   by_cases h2:g.1∈c.2.2.1
   ·exact .inl h2
   ·refine .inr ?_
    have p:c.2.2.1.contains g.1=false:=by simpa using h2
    rw[p] at i
    have:c.2.2.2.1.contains g.1=true:=by cases q:c.2.2.2.1.contains g.1<;>simp_all
    simpa using this
  obtain⟨⟨g',e,o⟩,_⟩:=h.pile k l;rw[a] at e; cases e;have:=f.2.1;omega
 ·obtain⟨h2,g',e,o⟩:=Ms h (h.looks n f);rw[i,a] at e; cases e;omega
def Mh (g:ë):g.2.1∈ĉ b g:=nV.2 (.inl rfl)
def adV (h:jt b) {g:ë} (c:g∈b.2.1):(ĉ b g).length<=59:=by
 have f:∀l:rT ë,g∈l->(ĉ b g).length<=(l.flatMap fun g=>(ĉ b g).map fun d=>((g.1,d):Int×Int)).length:=by
  intro l
  induction l with
  |nil=>intro c; cases c
  |cons a t e =>
   intro c;rw[dR,dw,eF];rcases dE.1 c with rfl|c
   ·omega
   ·have:=e c; omega
 have:=f b.2.1 c;have:=h.nodes;unfold Ă at this;omega
def aaQ (h:jt b) {c:Cmp} (d:c∈b.2.2.2.2.1):(-1125904000000000<=(U9 b c).1/\(U9 b c).1<=1125904000000000)/\(-1125904000000000<=(U9 b c).2/\(U9 b c).2<=1125904000000000):=by
 obtain⟨r1,r2⟩:=h.rates d;have a:=(lm c).1 (h.nums d);have ha:=Ŭ a.2.2.2.2.2.1;have hb:=Ŭ a.2.2.2.2.2.2;have k:=h.film;obtain⟨i,g⟩:=ac1 (aaI r1 r2) a.2.2.2.2.1;have l:=D5 (b:=b) (c:=c) (by omega) (by omega) (by omega) (by omega) (by omega) (by omega);have f:Ef (jK b c).1 2000000000 10000:=i;have e:Ef (jK b c).2 2000000000 10000:=g;have n:=I0 f;have m:=D3 e;have j:=a.2.2.1;have n4:=a.2.2.2.1;unfold U9
 try dsimp only
 omega
def DX (h:jt b) {g:ë} (d:g∈b.2.1) {f t:Int} (e:0<=f):0<=Bh b g f t/\Bh b g f t<=12*(20001*1048576)+40*1048576:=by
 have a:=(h.gaugeR d).2.2.2.2.2.2.2;have m:=CN (id:=g.1) (t:=t) e (x:=b.2.2.2.1) fun l c=>afl h c;have h2:(b.2.2.2.1.length:Int)*(20001*1048576)<=12*(20001*1048576):=Int.mul_le_mul_of_nonneg_right (by have:=h.nL; omega) (by omega)
 have k:(nY b g.1 f t).length<=40:=by
  unfold nY;rw[List.length_map];exact Nat.le_trans (List.length_filter_le _ _) h.nU
 have j:=LP (nY b g.1 f t)
 have i:0<=((acw (nY b g.1 f t)).length:Int)*g.2.2.2.2.2/\((acw (nY b g.1 f t)).length:Int)*g.2.2.2.2.2<=40*1048576 :=
  ⟨Int.mul_nonneg (by omega) a.1,Int.mul_le_mul (by omega) a.2 a.1 (by omega)⟩
 unfold Bh;omega
end
def vk {α β:Type} (f:Nat->α->β) {l:rT α} {i:Nat} {a:α} (h:l[i]?=some a):(l.take (i+1)).mapIdx f=(l.take i).mapIdx f++[f i a]:=by
 have hi:i<l.length:=(dC.1 h).1
 have:(l.take i).length=i:=by rw[dK]; omega
 rw[take_succ h,List.mapIdx_append];simp[this]
def HK {α:Type} (f:Nat->rT α) (j:Nat):(List.range (j+1)).flatMap f=(List.range j).flatMap f++f j:=by
 rw[g9,fF]; simp
def pH {α:Type} (f:Nat->rT α) (n:Nat) (h:∀k,(f k).length=2):((List.range n).flatMap f).length=2*n:=by
 induction n with
 |zero=>rfl
 |succ n a=>rw[HK,dw,a,h]; omega
section
variable {b:æ}
def Qi (b:æ) (g:ë):(ĉ b g).Pairwise (·<·):=C6 _
def ZY (h:jt b) {g:ë} (i:g∈b.2.1):∃t,ĉ b g=g.2.1::t:=by
 have c:=Qi b g;have h2:=Mh (b:=b) g;have f:∀d∈ĉ b g,g.2.1<=d:=fun d hd=>(h.day i hd).1
 cases hd:ĉ b g with
 |nil=>rw[hd] at h2; cases h2
 |cons a t =>
  rw[hd] at c h2 f;rw[dU] at c;rcases dE.1 h2 with e|e
  ·exact⟨t,by rw[e]⟩
  ·have:=c.1 _ e;have:=f a (by simp);omega
def off (b:æ) (i:Nat):Nat:=((b.2.1.take i).flatMap fun g=>(ĉ b g).map fun d=>((g.1,d):Int×Int)).length
def Dj {i:Nat} {g:ë} (a:b.2.1[i]?=some g):Ă b=((b.2.1.take i).flatMap fun g=>(ĉ b g).map fun d=>((g.1,d):Int×Int))++(((ĉ b g).map fun d=>((g.1,d):Int×Int))++((b.2.1.drop (i+1)).flatMap fun g=>(ĉ b g).map fun d=>((g.1,d):Int×Int))):=by
 obtain⟨hi,rfl⟩:=dC.1 a
 have c:b.2.1=b.2.1.take i++(b.2.1[i]::b.2.1.drop (i+1)):=by
  rw[<-eR hi,List.take_append_drop]
 unfold Ă
 conv=>lhs; rw[c]
 rw[fF,dR]
def anj (h:jt b) {i:Nat} {g:ë} (o:b.2.1[i]?=some g) {k:Nat} {d:Int} (p:(ĉ b g)[k]?=some d):Dk (Ă b) g.1 d=some (off b i+k):=by
 obtain⟨hi,l⟩:=List.getElem?_eq_some_iff.1 o;obtain⟨a,c⟩:=List.getElem?_eq_some_iff.1 p;unfold Dk;rw[Dj o,List.findIdx?_append,List.findIdx?_append]
 have q:List.findIdx? (fun n:Int×Int=>decide (g.1=n.1)&&decide (d=n.2)) ((b.2.1.take i).flatMap fun g=>(ĉ b g).map fun d=>((g.1,d):Int×Int))=none:=by
  rw[fm];intro x e;obtain⟨g',m,e⟩:=dY.1 e;obtain⟨r,_,rfl⟩:=eN.1 e;obtain⟨j,f,rfl⟩:=dQ.1 m;rw[dK] at f;rw[fk];have:=(fL.1 h.ids) j i (by omega) hi (by omega);rw[l] at this;simp only[gk,decide_eq_false_iff_not];exact .inl (by omega)
 have h2:List.findIdx? (fun n:Int×Int=>decide (g.1=n.1)&&decide (d=n.2)) ((ĉ b g).map fun d=>((g.1,d):Int×Int))=some k:=by
  rw[ej];refine⟨by simpa using a,by simp[c],fun j f=>?_⟩;have:=(fL.1 (Qi b g)) j k (by omega) a f;rw[c] at this;simp only[List.getElem_map,dt,decide_eq_true_eq,not_and];intro _;omega
 rw[q,h2];simp only[Option.map_some,Option.some_or,Option.none_or];unfold off;congr 1;omega
def Vv {i:Nat} {g:ë} (f:b.2.1[i]?=some g) {k:Nat} {d:Int} (a:(ĉ b g)[k]?=some d):(Ă b)[off b i+k]?=some (g.1,d):=by
 obtain⟨c,e⟩:=List.getElem?_eq_some_iff.1 a;rw[Dj f,List.getElem?_append_right (by unfold off; omega),List.getElem?_append_left (by unfold off; simp; omega)];unfold off;simp[a]
def al2 (h:jt b) {i:Nat} {g:ë} (a:b.2.1[i]?=some g):atP (Ă b) [g.1] g.2.1=(off b i:Int)+1:=by
 obtain⟨t,c⟩:=ZY h (List.mem_of_getElem? a);have:=anj h a (k:=0) (d:=g.2.1) (by rw[c]; rfl);unfold atP;simp only[this];rfl
def am5 (h:jt b) {i:Nat} {g:ë} (a:b.2.1[i]?=some g):off b i+(ĉ b g).length<=(Ă b).length:=by
 rw[Dj a];unfold off;simp only[List.length_append,List.length_map];omega
def akP {i:Nat} {g:ë} (a:b.2.1[i]?=some g):off b (i+1)=off b i+(ĉ b g).length:=by
 unfold off;rw[take_succ a,List.flatMap_append];simp
def aid (h:jt b):(aie b).length=2*(Ă b).length+2*b.2.2.2.2.1.length:=by
 have i:∀l:rT ë,(∀g∈l,g∈b.2.1)->(l.flatMap (ũ b)).length=2*(l.flatMap fun g=>(ĉ b g).map fun d=>((g.1,d):Int×Int)).length:=by
  intro l
  induction l with
  |nil=>intro _; rfl
  |cons g t a =>
   intro e;have:=a fun g f=>e g (by simp[f]);have j:=List.length_pos_of_mem (Mh (b:=b) g);simp only[List.flatMap_cons,List.length_append,List.length_map,this];unfold ũ;rw[List.length_append,pH _ _ (fun _=>rfl)];simp only[List.length_cons,List.length_nil];omega
 have h2:∀l:rT Cmp,(l.flatMap (kR b)).length=2*l.length:=by
  intro l
  induction l with
  |nil=>rfl
  |cons c t a =>
   simp only[dR,dw,a,kR,dz,dI];omega
 unfold aie;rw[List.length_append,i _ fun _ h=>h,h2];rfl
end
def book0:æ:=((0,0),[],[],[],[],[])
structure akd (b:æ) (c:Cmp):Prop where
 nums:Di c=true
 r1:Ef (QT (ū b) (í c.2.2.1 c.2.2.2.1)) 1000 100
 r2:Ef (QT (ū b) (í c.2.2.2.1 c.2.2.1)) 1000 100
def jt.cmp {b:æ} (h:jt b) {c:Cmp} (a:c∈b.2.2.2.2.1):akd b c:=⟨h.nums a,(h.rates a).1,(h.rates a).2⟩
def Xu {b:æ} (i:0<=b.1.1/\b.1.1<=b.1.2/\b.1.2<=1000000) {c:Cmp} (h:akd b c):Ef (jK b c).1 2000000000 10000/\Ef (jK b c).2 2000000000 10000/\(-3000000000<=Z6 (jK b c).1+(uI b c).1/\Z6 (jK b c).1+(uI b c).1<=3000000000) /\
 (-3000000000<=(jK b c).2.1 / (jK b c).2.2+(uI b c).2/\(jK b c).2.1 / (jK b c).2.2+(uI b c).2<=3000000000)/\(0<=c.2.2.2.2.2.1/\c.2.2.2.2.2.1<=1073741824):=by
 have a:=(lm c).1 h.nums;have ha:=Ŭ a.2.2.2.2.2.1;have hb:=Ŭ a.2.2.2.2.2.2;obtain⟨g,f⟩:=ac1 (aaI h.r1 h.r2) a.2.2.2.2.1;have j:=D5 (b:=b) (c:=c) (by omega) (by omega) (by omega) (by omega) (by omega) (by omega);have e:Ef (jK b c).1 2000000000 10000:=g;have d:Ef (jK b c).2 2000000000 10000:=f;have l:=I0 e;have k:=D3 d;exact⟨e,d,by omega,by omega,a.2.2.2.1⟩
structure In (b:æ):Prop where
 size:ζ b
 num:∀g∈b.2.1,I64 g.2.2.2.2.1.1
def QH (b:æ) (g:Int) (a:rT Int):Int:=if š b≠0 then š b else if a.any (fun d=>!IW d) then 1 else if (wZ (k:=tI) (v:=Ú) g (ū b)).isNone then 5 else 0
def ajN {b:æ} (h:In b) (g:Int) {c:rT Int} (hd:c.length<=1000):Hg b g c=some (QH b g c):=by
 unfold Hg Zj QH;rw[Mq h.size h.num,Á]
 by_cases e:š b=0
 ·rw[Ï (by simp[ine,e]),if_neg (show ¬(š b≠0) from fun h=>h e)]
  have a:(Â (ģ b) fun n=>Zr (k:=tI) (v:=Ú) g n (fun m=>some (0:Int)) (some (5:Int)))=some (if (wZ (k:=tI) (v:=Ú) g (ū b)).isNone then 5 else 0):=by
   rw[SZ h.size.gauges,Á];unfold Zr
   cases wZ (k:=tI) (v:=Ú) g (ū b)<;>rfl
  refine fg (ġ c (fun d=>!IW d) (fun l=>ifb (ige l (0:Int)) (some (1:Int)) (Â (ģ b) fun o=>Zr (k:=tI) (v:=Ú) g o (fun q=>some (0:Int)) (some (5:Int)))) (some 1) (some (if (wZ (k:=tI) (v:=Ú) g (ū b)).isNone then 5 else 0)) (fun j=>?_) (fun i d hi f p=>?_) (fun p=>?_)) ?_
  ·rw[Ù (by simp[ige])]
  ·try dsimp only
   unfold sa;rw[Ñ hi,Ç f,L4,Á,Í hi (by omega),ĕ]
  ·try dsimp only
   unfold sa;rw[ß,a]
  ·cases c.any (fun d=>!IW d)<;>rfl
 ·rw[Ù (by simp[ine,e]),if_pos e]
def idxP (b:æ) (x d:Int):Int:=match Dk (Ă b) x d with|some j=>(j:Int)+1|none=>0
def Kk (b:æ) (id day:Int):Bool:=b.2.2.1.any fun u=>u.1==id&&u.2==day
def abQ (b:æ) (g:ë) (d:Int):Int:=match Ń b g.1 d with|some l=>l.2.2|none=>if Kk b g.1 d then g.2.2.2.2.2 else 0
def ah5 (l:HE) (id:Int) {f t:Int} (k:f<=t):(if l.1=id/\0<Ě l f (t+1) then Ě l f (t+1)*l.2.2 else 0)=(if l.1=id/\0<Ě l f t then Ě l f t*l.2.2 else 0)+(if l.1=id/\l.2.1.1<=t/\t<=l.2.1.2 then l.2.2 else 0):=by
 by_cases a:l.1=id
 ·by_cases d:l.2.1.1<=t/\t<=l.2.1.2
  ·have e:Ě l f (t+1)=Ě l f t+1:=by unfold Ě; omega
   have p:0<=Ě l f t:=by unfold Ě; omega
   rw[e,if_pos ⟨a,by omega⟩,if_pos (show l.1=id/\l.2.1.1<=t/\t<=l.2.1.2 from⟨a,d⟩),Int.add_mul,Int.one_mul]
   by_cases c:0<Ě l f t
   ·rw[if_pos ⟨a,c⟩]
   ·rw[if_neg (fun h=>c h.2)]
    have:Ě l f t=0:=by omega
    rw[this];omega
  ·rw[if_neg (show ¬(l.1=id/\l.2.1.1<=t/\t<=l.2.1.2) from fun h=>d h.2),Int.add_zero]
   by_cases j:l.2.1.1<=t
   ·have e:Ě l f (t+1)=Ě l f t:=by unfold Ě; omega
    rw[e]
   ·have i:¬0<Ě l f (t+1):=by unfold Ě; omega
    have g:¬0<Ě l f t:=by unfold Ě; omega
    rw[if_neg (fun h=>i h.2),if_neg (fun h=>g h.2)]
 ·rw[if_neg (fun h=>a h.1),if_neg (fun h=>a h.1),if_neg (fun h=>a h.1)];rfl
def Ui (id:Int) {f t:Int} (g:f<=t):∀{x:rT HE},x.Pairwise (fun a c=>¬(a.1=c.1/\a.2.1.1<=c.2.1.2/\c.2.1.1<=a.2.1.2)) ->
 ka id f (t+1) x=ka id f t x+(match x.find? (fun l=>l.1==id&&inP t l.2.1.1 l.2.1.2) with|some l=>l.2.2|none=>0)
 |[],_=>rfl
 |l::r,j=>by
  rw[dU] at j;have k:=Ui id g j.2;simp only[ka];rw[k,ah5 l id g,gb]
  by_cases d:l.1=id/\l.2.1.1<=t/\t<=l.2.1.2
  ·have e:(l.1==id&&inP t l.2.1.1 l.2.1.2)=true:=by simp[inP,d.1,d.2.1,d.2.2]
   have m:r.find? (fun l=>l.1==id&&inP t l.2.1.1 l.2.1.2)=none:=by
    rw[fc];intro c n i;simp only[inP,dt,beq_iff_eq,decide_eq_true_eq] at i;exact j.1 c n ⟨by rw[d.1,i.1],by omega,by omega⟩
   rw[if_pos d,e,m];simp only;omega
  ·have e:(l.1==id&&inP t l.2.1.1 l.2.1.2)=false:=by
    rw[fC];intro h;simp only[inP,dt,beq_iff_eq,decide_eq_true_eq] at h;exact d h
   rw[if_neg d,e];simp only;omega
section
variable {b:æ}
def jt.apart (h:jt b):b.2.2.2.1.Pairwise (fun a c=>¬(a.1=c.1/\a.2.1.1<=c.2.1.2/\c.2.1.1<=a.2.1.2)):=by
 rw[List.pairwise_iff_getElem];intro i j hi f g ⟨l,h2,k⟩;have e:=h.loans j _ (List.getElem?_eq_getElem f);unfold PF at e
 have d:(b.2.2.2.1.take j).any (fun x=>x.1==b.2.2.2.1[j].1&&(decide (x.2.1.1<=b.2.2.2.1[j].2.1.2)&&decide (b.2.2.2.1[j].2.1.1<=x.2.1.2)))=true:=by
  rw[eP];exact⟨b.2.2.2.1[i],dQ.2 ⟨i,by rw[dK]; omega,by rw[fk]⟩,by simp[l,h2,k]⟩
 rw[d] at e
 (repeat' split at e)<;>first|omega|simp_all
def jt.notUsed (h:jt b) {id d:Int} {l:HE} (i:Ń b id d=some l):Kk b id d=false:=by
 have k:=List.mem_of_find?_eq_some i;have g:=gH i;simp only[inP,dt,beq_iff_eq,decide_eq_true_eq] at g;obtain⟨j,m,rfl⟩:=dQ.1 k;have e:=h.loans j _ (dv m);rw[fC];intro f;obtain⟨u,f,a⟩:=eP.1 f;simp only[dt,beq_iff_eq] at a
 have c:b.2.2.1.any (fun u=>u.1==b.2.2.2.1[j].1&&inP u.2 b.2.2.2.1[j].2.1.1 b.2.2.2.1[j].2.1.2)=true:=by
  rw[eP];exact⟨u,f,by simp only[inP,dt,beq_iff_eq,decide_eq_true_eq]; exact⟨by rw[a.1,g.1],by omega,by omega⟩⟩
 unfold PF at e;rw[c] at e
 (repeat' split at e)<;>first|omega|simp_all
def Xd {id f t:Int} (j:f<=t):acw (nY b id f (t+1))=acw (nY b id f t)++if Kk b id t then[t] else[]:=by
 have i:∀t x,x∈nY b id f t↔Kk b id x=true/\f<=x/\x<t:=by
  intro t x;unfold nY Kk;simp only[List.mem_map,List.mem_filter,List.any_eq_true,inP,Bool.and_eq_true,beq_iff_eq,decide_eq_true_eq];constructor
  ·rintro⟨u,⟨d,h2,e,m⟩,rfl⟩;exact⟨⟨u,d,h2,rfl⟩,e,by omega⟩
  ·rintro⟨⟨u,d,h2,rfl⟩,e,m⟩;exact⟨u,⟨d,h2,e,by omega⟩,rfl⟩
 refine ab9 (C6 _) ?_ fun x=>?_
 ·rw[List.pairwise_append]
  refine⟨C6 _,by split<;>simp,fun a ha c l=>?_⟩
  rw[Ac,i] at ha
  split at l
  ·rw[dB] at l; omega
  ·cases l
 ·rw[Ac,i,dA,Ac,i]
  by_cases g:Kk b id t=true
  ·rw[if_pos g,dB];constructor
   ·rintro⟨d,h2,e⟩
    by_cases k:x=t
    ·exact .inr k
    ·exact .inl ⟨d,h2,by omega⟩
   ·rintro(⟨d,h2,e⟩|rfl)
    ·exact⟨d,h2,by omega⟩
    ·exact⟨g,j,by omega⟩
  ·rw[if_neg g];constructor
   ·rintro⟨d,h2,e⟩;refine .inl ⟨d,h2,?_⟩
    by_cases k:x=t
    ·rw[k] at d; exact absurd d g
    ·omega
   ·rintro(⟨d,h2,e⟩|h)
    ·exact⟨d,h2,by omega⟩
    ·cases h
def ahX (h:jt b) (g:ë) {f t:Int} (a:f<=t):Bh b g f (t+1)=Bh b g f t+abQ b g t:=by
 unfold Bh abQ;rw[Ui g.1 a h.apart,Xd a];show ka g.1 f t b.2.2.2.1+(match Ń b g.1 t with|some l=>l.2.2|none=>0)+_=_
 cases ha:Ń b g.1 t with
 |some l =>
  rw[h.notUsed ha];simp only[dN,if_false,dO];omega
 |none =>
  simp only
  cases Kk b g.1 t with
  |true=>simp only[if_true,dw,eX,Int.natCast_add,Int.add_mul]; omega
  |false=>simp only[dN,if_false,dO]; omega
def PE (g:ë) {f t:Int} (c:t<=f):Bh b g f t=0:=by
 unfold Bh
 have h:∀x:rT HE,ka g.1 f t x=0:=by
  intro x
  induction x with
  |nil=>rfl
  |cons l r a =>
   simp only[ka];rw[a,if_neg (by unfold Ě; omega)];rfl
 have h2:nY b g.1 f t=[]:=by
  unfold nY
  rw[List.filter_eq_nil_iff.2 fun u i d=>by
   simp only[inP,dt,beq_iff_eq,decide_eq_true_eq] at d
   omega]
  rfl
 rw[h,h2];have e:acw ([]:rT Int)=[]:=rfl;rw[e];simp
end
section
variable {b:æ}
def am6:off b b.2.1.length=(Ă b).length:=by unfold off Ă; rw[List.take_length]
def akQ:∀n,n<=b.2.1.length->∀j,j<off b n->∃(i:Nat) (g:ë) (k:Nat),b.2.1[i]?=some g/\k<(ĉ b g).length/\j=off b i+k:=by
 intro n
 induction n with
 |zero=>intro _ j a; simp[off] at a
 |succ n d =>
  intro e j a;have c:b.2.1[n]?=some b.2.1[n]:=dv (by omega);rw[akP c] at a
  by_cases h:j<off b n
  ·exact d (by omega) j h
  ·exact⟨n,_,j-off b n,c,by omega,by omega⟩
end
def agb {b:æ}:∀i,i<=b.2.2.2.2.1.length->((b.2.2.2.2.1.take i).flatMap (kR b)).length=2*i/\(((b.2.2.2.2.1.take i).mapIdx fun i _=>[((3:Int),(i:Int)),((3:Int),(i:Int))]).flatten).length=2*i:=by
 intro i
 induction i with
 |zero=>intro _; simp
 |succ i a =>
  intro hi;have a:=a (by omega);have c:b.2.2.2.2.1[i]?=some b.2.2.2.2.1[i]:=dv hi;rw[vk _ c,take_succ c,fF,List.flatten_append,dw,dw];simp only[dR,gX,dO,List.flatten_cons,List.flatten_nil,kR,dz,dI];omega
def uV (n lo hi:Int):jL n lo hi=some (inP n lo hi):=by
 unfold jL ahG inP ige ile
 cases h:decide (lo<=n)<;>simp_all
def W5 (n:Int):vJ n=some (IW n):=by
 unfold vJ adc;rw[uV]; rfl
def we (s:Int×Int) (lo hi:Int):iX s lo hi=some (jP s lo hi):=by
 unfold iX JI jP ile
 cases decide (lo<=s.1)<;>cases decide (s.1<=s.2)<;>rfl
def aoa {l:rT Int} (d:l.length<=1000000) (x:Int):Mb l x=some (l.contains x):=by
 unfold Mb adb;refine Eq.trans (ġ l (fun a=>a==x) (fun _=>some true) (some true) (some false) (fun _=>rfl) (fun i a hi ha c=>?_) (fun c=>?_)) ?_
 ·try dsimp only
  unfold vw;rw[Ñ hi,Ç ha,Í hi (by omega),ĕ]
 ·try dsimp only
  unfold vw;rw[ß]
 ·have:l.any (fun a=>a==x)=l.contains x:=by
   rw[eS,eP,fp];constructor
   ·rintro⟨a,ha,e⟩; rw[<-eq_of_beq e]; exact ha
   ·intro h; exact⟨x,h,by simp⟩
  rw[this]
  cases l.contains x<;>rfl
def afo {a b:rT Int} {i:Nat} {x:Int} (h:a[i]?=some x):í (a.take (i+1)) b=í (a.take i) b++if b.contains x then[] else[x]:=by
 rw[take_succ h,í,í,f9];congr 1
 cases c:b.contains x<;>simp only[fu,c,eo,Bool.not_false,dN,if_false,if_true,fE]
def W0 {a b:rT Int} (ha:a.length<=1000000) (hb:b.length<=1000000):jX a b=some (í a b):=by
 unfold jX YW;refine ŋ a (fun i=>í (a.take i) b) _ rfl (fun i x hi c d=>?_) (fun d=>?_)
 ·try dsimp only
  unfold rU
  have e:(í (a.take i) b).length<=1000000:=by
   have:=zE (a.take i) b;rw[dK] at this;omega
  rw[Ñ hi,Ç c,aoa hb,Á,afo c]
  cases b.contains x with
  |true=>rw[Ï (by rfl),Í hi (by omega)]; simp
  |false=>rw[Ù (by rfl),Ç c,Ë (by simp only[eX]; omega),Am.iff_true,Í hi (by omega)]; simp
 ·try dsimp only
  unfold rU;rw[ß,List.take_length]
def Kq (a b:rT Int):Int:=(í a b).head?.getD 0
def I7 {a b:rT Int} (ha:a.length<=1000000) (hb:b.length<=1000000):oZ a b=some (Kq a b):=by
 unfold oZ ac9 Kq;rw[W0 ha hb,Á,â]
 cases h:í a b with
 |nil=>rfl
 |cons x t =>
  rw[Ï (by simp[ieq]; omega)];exact Ç (i:=0) rfl _
def HA {b:æ} (d:b.2.1.length<=1000000) (id:Int):jY b id=some (match b.2.1.findIdx? (fun g=>g.1==id) with|some j=>(j:Int)|none=>-1):=by
 unfold jY YX;refine Eq.trans (lW b.2.1 (fun g=>g.1==id) (fun z=>some z) (some (-1)) (fun i a hi ha c=>?_) (fun c=>?_)) ?_
 ·try dsimp only
  unfold rV;rw[Ñ hi,Ç ha,Í hi (by omega),ĕ]
 ·try dsimp only
  unfold rV;rw[ß]
 ·cases List.findIdx? (fun g:ë=>g.1==id) b.2.1<;>rfl
def uH {b:æ} {id:Int}:(∃j g,b.2.1.findIdx? (fun g=>g.1==id)=some j/\b.2.1[j]?=some g/\ą b id=some g)\/(b.2.1.findIdx? (fun g=>g.1==id)=none/\ą b id=none):=by
 unfold ą;rw[Wv]
 cases h:b.2.1.findIdx? (fun g=>g.1==id) with
 |none=>exact .inr ⟨rfl,rfl⟩
 |some j =>
  obtain⟨a,_,_⟩:=ej.1 h;exact .inl ⟨j,_,rfl,dv a,dv a⟩
def ĭ (b:æ) (id day:Int):Int:=match ą b id with|some g=>if day<g.2.1 then 4 else 0|none=>5
def zW {b:æ} (c:b.2.1.length<=1000000) (id day:Int):iE b id day=some (ĭ b id day):=by
 unfold iE TS ĭ;rw[HA c,Á];rcases uH (b:=b) (id:=id) with⟨j,g,a,h2,d⟩|⟨a,h2⟩
 ·rw[a,d]
  try dsimp only
  rw[Ï (by simp[ilt]),Ç h2,ĕ]
  by_cases hd:day<g.2.1
  ·rw[if_pos (by simpa[ilt] using hd),if_pos hd]
  ·rw[if_neg (by simpa[ilt] using hd),if_neg hd]
 ·rw[a,h2];rfl
def C5 {b:æ} (hi:b.2.1.Pairwise fun a b=>a.1<b.1) (id day:Int):ĭ b id day=mn (ū b) id day:=by
 unfold ĭ mn;rw[tp hi]
 cases ą b id<;>rfl
def Mo {b:æ} (o:b.2.2.2.1.length<=1000000) (id day:Int):iY b id day=some (match Ń b id day with|some l=>(l,true)|none=>((0,(0,0),0),false)):=by
 unfold iY YV;refine ah1 b.2.2.2.1 (fun _=>((0:Int),(0:Int),(0:Int),(0:Int))) _ (fun i=>∀l∈b.2.2.2.1.take i,(l.1==id&&inP day l.2.1.1 l.2.1.2)=false) rfl (by simp) (fun i a hi ha f k=>?_) (fun f k=>?_)
 ·try dsimp only
  unfold rS;rw[Ñ hi,Ç ha]
  by_cases e:(a.1==id&&inP day a.2.1.1 a.2.1.2)=true
  ·refine .inl ?_;have c:=e;simp only[inP,dt,beq_iff_eq,decide_eq_true_eq] at c;rw[Ù (by simp[ieq,c.1]),Ù (by simp[ile,c.2.1]),Ù (by simp[ile,c.2.2])]
   have m:Ń b id day=some a:=by
    unfold Ń;obtain⟨h,rfl⟩:=List.getElem?_eq_some_iff.1 ha;rw[List.find?_eq_some_iff_getElem];refine⟨e,i,h,rfl,fun j p=>?_⟩;have:=f b.2.2.2.1[j] (List.mem_iff_getElem.2 ⟨j,by rw[List.length_take]; omega,by rw[List.getElem_take]⟩);simp[this]
   rw[m]
  ·refine .inr ⟨fun l d=>?_,?_⟩
   ·rw[take_succ ha,dA,dB] at d;rcases d with d|rfl
    ·exact f l d
    ·simpa using e
   ·have c:=e;simp only[inP,dt,beq_iff_eq,decide_eq_true_eq] at c
    by_cases g:a.1=id
    ·by_cases h2:a.2.1.1<=day
     ·rw[Ù (by simp[ieq,g]),Ù (by simp[ile,h2]),Ï (by simp[ile]; exact Int.lt_of_not_ge fun n=>c ⟨g,h2,n⟩),Í hi (by omega)]
     ·rw[Ù (by simp[ieq,g]),Ï (by simp[ile]; omega),Í hi (by omega)]
    ·rw[Ï (by simp[ieq,g]),Í hi (by omega)]
 ·try dsimp only
  unfold rS;rw[ß]
  have:Ń b id day=none:=by
   unfold Ń;rw[List.find?_eq_none];intro l d;have:=f l (by rw[List.take_length]; exact d);simp[this]
  rw[this]
def amh {b:æ} (e:b.2.2.1.length<=1000000) (id day:Int):G8 b id day=some (Kk b id day):=by
 unfold G8 YP;refine Eq.trans (ġ b.2.2.1 (fun u=>u.1==id&&u.2==day) (fun _=>some true) (some true) (some false) (fun _=>rfl) (fun i a hi ha d=>?_) (fun d=>?_)) ?_
 ·try dsimp only
  unfold rK;rw[Ñ hi,Ç ha,Ç ha,Í hi (by omega)]
  cases c:(a.1==id) with
  |false=>have:ieq a.1 id=false:=c; simp[this]
  |true =>
   have:ieq a.1 id=true:=c;rw[this]
   cases h2:(a.2==day) with
   |false=>have:ieq a.2 day=false:=h2; simp[this]
   |true=>have:ieq a.2 day=true:=h2; simp[this]
 ·try dsimp only
  unfold rK;rw[ß]
 ·unfold Kk
  cases b.2.2.1.any _<;>rfl
def aj4 (a b:Nat):AO a b=some ((Nat.gcd a b:Nat):Int):=by
 unfold AO adh;refine ķ (fun x:Int×Int=>∃c d:Nat,x=((c:Int),(d:Int))/\Nat.gcd c d=Nat.gcd a b) (fun x=>x.2.toNat) ?_ ⟨a,b,rfl,rfl⟩;rintro x ⟨c,d,rfl,e⟩
 cases d with
 |zero =>
  refine .inl fun f=>?_;rw[Nat.gcd_zero_right] at e;unfold vx;simp[e,ine]
 |succ d =>
  refine .inr ⟨(((d+1:Nat):Int),((c % (d+1):Nat):Int)),⟨d+1,c % (d+1),rfl,?_⟩,?_,fun f=>?_⟩
  ·rw[<-e,hZ c (d+1),Nat.gcd_rec (d+1) c,hZ]
  ·have:=gO c (gM d);simp only[dL];omega
  ·unfold vx
   have g:ine ((d+1:Nat):Int) 0=true:=by simp[ine]; omega
   have h2:iK ((d+1:Nat):Int) 0=false:=by simp[iK]; omega
   simp only[g,Ù Ï h2];congr 1
def aj7 {n:Int} (h : -9223372036854775807<=n/\n<=9223372036854775807):Hc n=some (n.natAbs:Int):=by
 unfold Hc adj
 by_cases a:n<0
 ·rw[Ù (by simpa[ilt] using a),ä (by omega) (by omega)];congr 1;omega
 ·rw[Ï (by simpa[ilt] using a)];congr 1;omega
def aj0 (r:Int×Int):AK r=some (aaC r):=by
 unfold AK TZ aaC
 by_cases c:1<=r.2
 ·rw[Ï (by simp[ilt]; omega)]
  by_cases h2:r.2<=2147483647
  ·rw[Ï (by simp[igt]; omega)]
   by_cases f:r.1 < -2147483647
   ·rw[Ù (by simp[ilt]; omega)]
    have:¬((r.1.natAbs:Int)<=2147483647):=by omega
    simp[this]
   ·rw[Ï (by simp[ilt]; omega)]
    by_cases e:2147483647<r.1
    ·rw[Ù (by simp[igt]; omega)]
     have:¬((r.1.natAbs:Int)<=2147483647):=by omega
     simp[this]
    ·rw[Ï (by simp[igt]; omega),aj7 ⟨by omega,by omega⟩,Á]
     have a:r.2=((r.2.natAbs:Nat):Int):=by omega
     have d:((r.1.natAbs:Int)<=2147483647):=by omega
     rw[a,aj4,Á,<-a];congr 1;rw[eS];simp only[ieq,beq_iff_eq,c,h2,d,decide_true,fw,decide_eq_true_eq];omega
  ·rw[Ù (by simp[igt]; omega)];simp[h2]
 ·rw[Ù (by simp[ilt]; omega)];simp[c]
def ajY (g:ë):AH g=some (nP g):=by
 unfold AH TQ nP;rw[aj0,uV,uV,W5,uV,we,uV];simp only[Á]
 have e:igt g.2.2.2.2.1.2 100=!decide (g.2.2.2.2.1.2<=100):=by
  rw[eS]; simp[igt]
 rw[e]
 cases aaC g.2.2.2.2.1<;>cases inP g.2.2.2.2.1.1 (-1000) 1000<;>cases decide (g.2.2.2.2.1.2<=100)<;>cases inP g.1 1 1099511627776<;>cases IW g.2.1<;>cases inP g.2.2.1 1 1125899906842624<;>cases jP g.2.2.2.1 (-1073741824) 1073741824<;>rfl
def aaZ {l:rT Int}:∀(m:rT Int) (j:Nat) (x:Bool),Ć (uZ l) j m=some x->x=false:=by
 intro m
 induction m with
 |nil=>intro j x h; cases h
 |cons a m d =>
  intro j x h;unfold Ć at h
  cases c:uZ l j a with
  |none=>rw[c] at h; exact d _ _ h
  |some y =>
   rw[c] at h;cases h;unfold uZ at c
   split at c
   ·cases c; rfl
   ·split at c
    ·cases c; rfl
    ·cases c
def aeh {l:rT Int} (f:l.length<=1000000):zH l=some (wX l):=by
 unfold zH YT;refine Eq.trans (jk l (uZ l) some (some (decide (l.length<=6))) (fun i a hi ha d=>?_) (fun d=>?_)) ?_
 ·try dsimp only
  unfold rQ;rw[Ñ hi,Ç ha,uV,Á];unfold uZ
  cases inP a 1 1099511627776 with
  |false=>rfl
  |true =>
   simp only[eo,Ř,dN,if_false];rcases fV i with h0|h0
   ·subst h0
    have:igt ((0:Nat):Int) 0=false:=by simp[igt]
    rw[Ï this,Í hi (by omega)];simp[ku]
   ·obtain⟨q,c⟩:=tc hi h0
    have e:igt (i:Int) 0=true:=by simp[igt]; omega
    rw[Ù e,Ç ha,Qm h0 (by omega),GR h0 c];simp only[ku,h0,decide_true,Bool.true_and,c,Option.any_some];unfold ile
    cases h2:decide (a<=q) with
    |true=>rfl
    |false =>
     rw[Ř,Í hi (by omega)];rfl
 ·try dsimp only
  unfold rQ;rw[ß,â];simp[ile];omega
 ·unfold wX
  cases h:Ć (uZ l) 0 l with
  |none=>rfl
  |some x=>rw[aaZ _ _ _ h]
def ajV {c:Cmp} (d:c.2.2.1.length<=1000000) (a:c.2.2.2.1.length<=1000000):AE c=some (Di c):=by
 unfold AE TM Di;rw[aeh d,aeh a,uV,W5,uV,uV,we];simp only[Á]
 cases wX c.2.2.1<;>cases wX c.2.2.2.1<;>cases inP c.1 1 1099511627776<;>cases IW c.2.1<;>cases inP c.2.2.2.2.1 (-1125899906842624) 1125899906842624<;>cases inP c.2.2.2.2.2.1 0 1073741824<;>cases jP c.2.2.2.2.2.2 (-10000) 10000<;>rfl
def Xc (b:æ) (u:Int×Int):Int:=if !IW u.2 then 1 else ĭ b u.1 u.2
def acl {b:æ} (hi:b.2.1.Pairwise fun a b=>a.1<b.1) (u:Int×Int):Xc b u=aen (ū b) u.1 u.2:=by
 unfold Xc aen;rw[C5 hi]
def Sz (e:Int):rF Int:=if e=0 then none else some e
def IJ {α:Type} (E:Nat->α->Int):∀(k:Nat) (l:rT α),Ć (fun i a=>Sz (E i a)) k l=(l.mapIdx fun i a=>E (i+k) a).find? (fun e=>e != 0)
 |_,[]=>rfl
 |k,a::t=>by
  unfold Ć;rw[IJ E (k+1) t,List.mapIdx_cons,List.find?_cons];unfold Sz
  by_cases h:E k a=0
  ·simp only[h,if_true,dW];have:((0:Int) != 0)=false:=rfl;rw[this]
   have e:(fun(i:Nat) (a:α)=>E (i+(k+1)) a)=fun i a=>E (i+1+k) a:=by
    funext i a;congr 1;omega
   rw[e]
  ·simp only[h,if_false,dW]
   have:(E k a != 0)=true:=by simpa using h
   rw[this]
def P2 {α:Type} (E:Nat->α->Int) (l:rT α):Ć (fun i a=>Sz (E i a)) 0 l=(l.mapIdx E).find? (fun e=>e != 0):=IJ E 0 l
def P3 {α:Type} (E:α->Int) (l:rT α):Ć (fun _ a=>Sz (E a)) 0 l=(l.map E).find? (fun e=>e != 0):=by
 rw[IJ (fun _ a=>E a) 0 l];congr 1
 exact List.ext_getElem (by simp) fun i c h2=>by simp
def amc {b:æ} (f:b.2.1.length<=1000) (h2:b.2.2.1.length<=1000):G6 b=some (((b.2.2.1.map (Xc b)).find? (fun e=>e != 0)).getD 0):=by
 unfold G6 YJ;refine Eq.trans (jk b.2.2.1 (fun _ u=>Sz (Xc b u)) some (some 0) (fun i a hi ha d=>?_) (fun d=>?_)) ?_
 ·try dsimp only
  unfold rC;rw[Ñ hi,Ç ha,W5,Á];unfold Xc Sz
  cases IW a.2 with
  |false=>rfl
  |true =>
   rw[Ï (by rfl),Ç ha,Ç ha,zW (b:=((b.1.1,b.1.2),b.2.1,b.2.2.1,b.2.2.2.1,b.2.2.2.2.1,b.2.2.2.2.2)) (by simp only; omega),Á,Í hi (by omega)];have e:ĭ ((b.1.1,b.1.2),b.2.1,b.2.2.1,b.2.2.2.1,b.2.2.2.2.1,b.2.2.2.2.2) a.1 a.2=ĭ b a.1 a.2:=rfl;rw[e]
   by_cases c:ĭ b a.1 a.2=0
   ·rw[Ï (by simp[ine,c])]; simp[c]
   ·rw[Ù (by simp[ine,c])]; simp[c]
 ·try dsimp only
  unfold rC;rw[ß]
 ·rw[P3]
  cases List.find? (fun e=>e != 0) (b.2.2.1.map (Xc b))<;>rfl
def Sy (b:æ) (i:Nat) (l:HE):Int :=
 if !jP l.2.1 0 20000 then 1 else if !inP l.2.2 0 1048576 then 1 else if ĭ b l.1 l.2.1.1 != 0 then ĭ b l.1 l.2.1.1 else
 if (b.2.2.2.1.take i).any (fun x=>x.1==l.1&&(decide (x.2.1.1<=l.2.1.2)&&decide (l.2.1.1<=x.2.1.2))) then 9 else
 if b.2.2.1.any (fun u=>u.1==l.1&&inP u.2 l.2.1.1 l.2.1.2) then 9 else 0
def ah7 {b:æ} (hi:b.2.1.Pairwise fun a b=>a.1<b.1) (i:Nat) (l:HE):Sy b i l=PF b (ū b) i l:=by
 unfold Sy PF;rw[C5 hi]
def ajX {b:æ} (z:b.2.1.length<=1000) (h2:b.2.2.1.length<=1000) (y:b.2.2.2.1.length<=1000):AG b=some (((b.2.2.2.1.mapIdx (Sy b)).find? (fun e=>e != 0)).getD 0):=by
 unfold AG TO;refine Eq.trans (jk b.2.2.2.1 (fun i l=>Sz (Sy b i l)) some (some 0) (fun i l hi t h=>?_) (fun h=>?_)) ?_
 ·try dsimp only
  unfold oH;rw[Ñ hi,Ç t,we,Á];unfold Sy Sz
  cases jP l.2.1 0 20000 with
  |false=>rfl
  |true =>
  rw[Ï (by rfl),uV,Á]
  cases inP l.2.2 0 1048576 with
  |false=>rfl
  |true =>
  rw[Ï (by rfl),zW (b:=((b.1.1,b.1.2),b.2.1,b.2.2.1,b.2.2.2.1,b.2.2.2.2.1,b.2.2.2.2.2)) (by simp only; omega),Á];have e:ĭ ((b.1.1,b.1.2),b.2.1,b.2.2.1,b.2.2.2.1,b.2.2.2.2.1,b.2.2.2.2.2) l.1 l.2.1.1=ĭ b l.1 l.2.1.1:=rfl;rw[e]
  by_cases o:ĭ b l.1 l.2.1.1=0
  ·rw[Ï (by simp[ine,o])]
   have n:(b.2.2.2.1.take i).length=i:=by rw[dK]; omega
   have d:Ê (fun(q:Int) k=>lP b.2.2.1 l.1 l.2.1.1 l.2.1.2 q (fun r=>k r) (fun p=>(some p:rF Int)) (fun _=>ck ((i:Int)+(1:Int)) fun s=>h s)) (0:Int)=if b.2.2.1.any (fun u=>u.1==l.1&&inP u.2 l.2.1.1 l.2.1.2) then some 9 else h ((i:Int)+1):=by
    refine ġ b.2.2.1 _ (fun _=>some 9) (some 9) (h ((i:Int)+1)) (fun _=>rfl) (fun j a g ha c=>?_) (fun c=>?_)
    ·try dsimp only
     unfold lP;rw[Ñ g,Ç ha,Ç ha,uV,Á,Í g (by omega)]
     cases m:(a.1==l.1) with
     |false=>have:ieq a.1 l.1=false:=m; simp[this]
     |true =>
      have:ieq a.1 l.1=true:=m;rw[this]
      cases inP a.2 l.2.1.1 l.2.1.2<;>simp
    ·try dsimp only
     unfold lP;rw[ß];dsimp only;rw[Í hi (by omega)]
   try dsimp only
   rw[d];refine fg (ġ (b.2.2.2.1.take i) (fun x=>x.1==l.1&&(decide (x.2.1.1<=l.2.1.2)&&decide (l.2.1.1<=x.2.1.2))) (fun _=>some 9) (some 9) (if b.2.2.1.any (fun u=>u.1==l.1&&inP u.2 l.2.1.1 l.2.1.2) then some 9 else h ((i:Int)+1)) (fun _=>rfl) (fun j a g ha c=>?_) (fun c=>?_)) ?_
   ·try dsimp only
    unfold oG;rw[n] at g
    have f:b.2.2.2.1[j]?=some a:=by rwa [gJ g] at ha
    rw[Ù (show ilt (j:Int) (i:Int)=true by simp[ilt]; omega),Ç f,Ç f,Ç f,Í g (by omega)]
    cases m:(a.1==l.1) with
    |false=>have:ieq a.1 l.1=false:=m; simp[this]
    |true =>
     have:ieq a.1 l.1=true:=m;rw[this]
     cases w:decide (a.2.1.1<=l.2.1.2)<;>cases v:decide (l.2.1.1<=a.2.1.2)<;>simp[ile,w,v,ĕ]<;>simp_all
   ·try dsimp only
    unfold oG;rw[n,Ï (show ilt (i:Int) (i:Int)=false by simp[ilt])]
   ·simp only[o]
    cases List.any (b.2.2.2.1.take i) _<;>cases b.2.2.1.any _<;>rfl
  ·rw[Ù (by simp[ine,o])]; simp[o]
 ·try dsimp only
  unfold oH;rw[ß]
 ·rw[P2 (Sy b)]
  cases(b.2.2.2.1.mapIdx (Sy b)).find? (fun e=>e != 0)<;>rfl
def Bt (b:æ) (c:Cmp):Int :=
 if (c.2.2.1++c.2.2.2.1).any (fun id=>ĭ b id c.2.1==5) then 5 else
 if (c.2.2.1++c.2.2.2.1).any (fun id=>ĭ b id c.2.1 != 0) then 4 else
 if (c.2.2.1++c.2.2.2.1).any (fun id=>(Ń b id c.2.1).isSome) then 9 else
 if 1<(í c.2.2.1 c.2.2.2.1).length then 1 else if 1<(í c.2.2.2.1 c.2.2.1).length then 1 else
 if (í c.2.2.1 c.2.2.2.1).length+(í c.2.2.2.1 c.2.2.1).length=0 then 1 else 0
def akK {b:æ} (hi:b.2.1.Pairwise fun a b=>a.1<b.1) (c:Cmp):Bt b c=Bu b (ū b) c:=by
 unfold Bt Bu;simp only[C5 hi]
 by_cases d:(c.2.2.1++c.2.2.2.1).any (fun id=>mn (ū b) id c.2.1==5)=true
 ·rw[if_pos d,if_pos d]
 ·rw[if_neg d,if_neg d]
  have e:(c.2.2.1++c.2.2.2.1).any (fun id=>mn (ū b) id c.2.1 != 0)=(c.2.2.1++c.2.2.2.1).any (fun id=>mn (ū b) id c.2.1==4):=by
   rw[eS,eP,eP];constructor
   ·rintro⟨x,g,h⟩;refine⟨x,g,?_⟩;rcases M8 (ū b) x c.2.1 with f|f|f
    ·rw[f] at h; cases h
    ·rw[f]; rfl
    ·exact absurd (eP.2 ⟨x,g,by rw[f]; rfl⟩) d
   ·rintro⟨x,g,h⟩;refine⟨x,g,?_⟩;rw[eq_of_beq h]; rfl
  rw[e]
def aaN {b:æ} {id d:Int}:(ĭ b id d==5)=(b.2.1.findIdx? (fun g=>g.1==id)).isNone:=by
 unfold ĭ;rcases uH (b:=b) (id:=id) with⟨j,g,a,h2,c⟩|⟨a,h2⟩
 ·rw[a,c]
  try dsimp only
  split<;>rfl
 ·rw[a,h2]; rfl
set_option maxHeartbeats 1000000 in
def aar {b:æ} (G:b.2.1.length<=1000) (F:b.2.2.2.1.length<=1000) {c:Cmp} (E:c.2.2.1.length<=1000) (D:c.2.2.2.1.length<=1000):jn b c=some (Bt b c):=by
 unfold jn vr Bt;rw[Ë (by omega),Am.iff_true,List.nil_append,Ë (by omega),Am.iff_true]
 have z:(c.2.2.1++c.2.2.2.1).length<=2000:=by rw[dw]; omega
 generalize C:c.2.2.1++c.2.2.2.1=P at z
 have q:∀{i:Nat},i<P.length->((ile (0:Int) (i:Int))&&(ilt (i:Int) (ê P)))=true:=fun {i} hi=>by simp[ile,ilt,ê]; omega
 have o:Ê (fun(m:Int) h=>ŧ b.1.1 b.1.2 b.2.1 b.2.2.1 b.2.2.2.1 b.2.2.2.2.1 b.2.2.2.2.2 c.2.1 P m (fun n=>h n) (fun l=>some l) (fun _=>Â (jX c.2.2.1 c.2.2.2.1) fun f=>Â (jX c.2.2.2.1 c.2.2.1) fun d=>ifb (igt (Ó f) (1:Int)) (some (1:Int)) (ifb (igt (Ó d) (1:Int)) (some (1:Int)) (ck ((Ó f)+(Ó d)) fun p=>ifb (ieq p (0:Int)) (some (1:Int)) (some (0:Int)))))) (0:Int) =
  some (if P.any (fun id=>(Ń b id c.2.1).isSome) then 9 else if 1<(í c.2.2.1 c.2.2.2.1).length then 1 else if 1<(í c.2.2.2.1 c.2.2.1).length then 1 else if (í c.2.2.1 c.2.2.2.1).length+(í c.2.2.2.1 c.2.2.1).length=0 then 1 else 0):=by
  refine fg (ġ P (fun id=>(Ń b id c.2.1).isSome) (fun _=>some 9) (some 9) (some (if 1<(í c.2.2.1 c.2.2.2.1).length then 1 else if 1<(í c.2.2.2.1 c.2.2.1).length then 1 else if (í c.2.2.1 c.2.2.2.1).length+(í c.2.2.2.1 c.2.2.1).length=0 then 1 else 0)) (fun _=>rfl) (fun i a hi ha r=>?_) (fun r=>?_)) ?_
  ·try dsimp only
   unfold ŧ;rw[Ñ hi,Β (q hi),ė ha,Mo (b:=((b.1.1,b.1.2),b.2.1,b.2.2.1,b.2.2.2.1,b.2.2.2.2.1,b.2.2.2.2.2)) (by simp only; omega),Á,Í hi (by omega)];have e:Ń ((b.1.1,b.1.2),b.2.1,b.2.2.1,b.2.2.2.1,b.2.2.2.2.1,b.2.2.2.2.2) a c.2.1=Ń b a c.2.1:=rfl;rw[e]
   cases Ń b a c.2.1<;>rfl
  ·try dsimp only
   unfold ŧ;rw[ß];dsimp only;have B:=zE c.2.2.1 c.2.2.2.1;have A:=zE c.2.2.2.1 c.2.2.1;rw[W0 (by omega) (by omega),Á,W0 (by omega) (by omega),Á];simp only[â]
   by_cases x:1<(í c.2.2.1 c.2.2.2.1).length
   ·rw[Ù (by simp[igt]; omega),if_pos x]
   ·rw[Ï (by simp[igt]; omega),if_neg x]
    by_cases w:1<(í c.2.2.2.1 c.2.2.1).length
    ·rw[Ù (by simp[igt]; omega),if_pos w]
    ·rw[Ï (by simp[igt]; omega),if_neg w,ä (by omega) (by omega)]
     by_cases v:(í c.2.2.1 c.2.2.2.1).length+(í c.2.2.2.1 c.2.2.1).length=0
     ·rw[Ù (by simp[ieq]; omega),if_pos v]
     ·rw[Ï (by simp[ieq]; omega),if_neg v]
  ·cases P.any _<;>rfl
 have k:Ê (fun(t:Int) s=>iv b.1.1 b.1.2 b.2.1 b.2.2.1 b.2.2.2.1 b.2.2.2.2.1 b.2.2.2.2.2 c.2.1 P t (fun u=>s u) (fun y=>some y) (fun _=>Ê (fun(m:Int) h=>ŧ b.1.1 b.1.2 b.2.1 b.2.2.1 b.2.2.2.1 b.2.2.2.2.1 b.2.2.2.2.2 c.2.1 P m (fun n=>h n) (fun l=>some l) (fun _=>Â (jX c.2.2.1 c.2.2.2.1) fun f=>Â (jX c.2.2.2.1 c.2.2.1) fun d=>ifb (igt (Ó f) (1:Int)) (some (1:Int)) (ifb (igt (Ó d) (1:Int)) (some (1:Int)) (ck ((Ó f)+(Ó d)) fun p=>ifb (ieq p (0:Int)) (some (1:Int)) (some (0:Int)))))) (0:Int))) (0:Int) =
  some (if P.any (fun id=>ĭ b id c.2.1 != 0) then 4 else if P.any (fun id=>(Ń b id c.2.1).isSome) then 9 else if 1<(í c.2.2.1 c.2.2.2.1).length then 1 else if 1<(í c.2.2.2.1 c.2.2.1).length then 1 else if (í c.2.2.1 c.2.2.2.1).length+(í c.2.2.2.1 c.2.2.1).length=0 then 1 else 0):=by
  rw[o];refine fg (ġ P (fun id=>ĭ b id c.2.1 != 0) (fun _=>some 4) (some 4) (some (if P.any (fun id=>(Ń b id c.2.1).isSome) then 9 else if 1<(í c.2.2.1 c.2.2.2.1).length then 1 else if 1<(í c.2.2.2.1 c.2.2.1).length then 1 else if (í c.2.2.1 c.2.2.2.1).length+(í c.2.2.2.1 c.2.2.1).length=0 then 1 else 0)) (fun _=>rfl) (fun i a hi ha r=>?_) (fun r=>?_)) ?_
  ·try dsimp only
   unfold iv;rw[Ñ hi,Β (q hi),ė ha,zW (b:=((b.1.1,b.1.2),b.2.1,b.2.2.1,b.2.2.2.1,b.2.2.2.2.1,b.2.2.2.2.2)) (by simp only; omega),Á,Í hi (by omega)];have e:ĭ ((b.1.1,b.1.2),b.2.1,b.2.2.1,b.2.2.2.1,b.2.2.2.2.1,b.2.2.2.2.2) a c.2.1=ĭ b a c.2.1:=rfl;rw[e,ĕ]
  ·try dsimp only
   unfold iv;rw[ß]
  ·cases P.any (fun id=>ĭ b id c.2.1 != 0)<;>rfl
 rw[k];refine fg (ġ P (fun id=>ĭ b id c.2.1==5) (fun _=>some 5) (some 5) (some (if P.any (fun id=>ĭ b id c.2.1 != 0) then 4 else if P.any (fun id=>(Ń b id c.2.1).isSome) then 9 else if 1<(í c.2.2.1 c.2.2.2.1).length then 1 else if 1<(í c.2.2.2.1 c.2.2.1).length then 1 else if (í c.2.2.1 c.2.2.2.1).length+(í c.2.2.2.1 c.2.2.1).length=0 then 1 else 0)) (fun _=>rfl) (fun i a hi ha r=>?_) (fun r=>?_)) ?_
 ·try dsimp only
  unfold j6;rw[Ñ hi,Β (q hi),ė ha,HA (b:=((b.1.1,b.1.2),b.2.1,b.2.2.1,b.2.2.2.1,b.2.2.2.2.1,b.2.2.2.2.2)) (by simp only; omega),Á,Í hi (by omega),aaN]
  try dsimp only
  cases List.findIdx? (fun g:ë=>g.1==a) b.2.1 with
  |none=>rfl
  |some j =>
   have:ilt (j:Int) 0=false:=by simp[ilt]
   rw[Ï this]; rfl
 ·try dsimp only
  unfold j6;rw[ß]
 ·cases P.any (fun id=>ĭ b id c.2.1==5)<;>rfl
structure Pre (b:æ):Prop where
 size:ζ b
 gauge:∀g∈b.2.1,nP g=true
 cmp:∀c∈b.2.2.2.2.1,IW c.2.1=true/\(í c.2.2.1 c.2.2.2.1).length<=1/\(í c.2.2.2.1 c.2.2.1).length<=1
 look:∀n∈b.2.2.2.2.2,IW n.2=true
def Yk {c:Cmp} (h:Di c=true):IW c.2.1=true:=by
 have:=((lm c).1 h).2.1;simp[IW,inP,this.1,this.2]
def jt.pre {b:æ} (h:jt b):Pre b :=
 ⟨h.size,h.gauge,fun c a=>⟨Yk (h.nums a),(h.lefts a).1,(h.lefts a).2.1⟩,fun n d=>(by have:=(Ms h (h.looks n d)).1; simp[IW,inP,this.1,this.2])⟩
def Vr {a b:rT Int} (h:(í a b).length<=1) {id:Int} (h0:id≠0):Kq a b=id↔id∈a/\id∉b:=by
 rw[<-GJ];unfold Kq
 cases c:í a b with
 |nil =>
  simp only[List.head?_nil,Option.getD_none,fS,iff_false];exact fun e=>h0 e.symm
 |cons x t =>
  have:t=[]:=by
   rw[c] at h;simp only[dz] at h;exact dZ.1 (by omega)
  subst this;simp only[List.head?_cons,gZ,dB];exact eq_comm
def LJ (b:æ) (g:ë) (d:Int):Bool :=
 g.2.1==d||b.2.2.2.2.1.any (fun c=>c.2.1==d&&(Kq c.2.2.1 c.2.2.2.1==g.1||Kq c.2.2.2.1 c.2.2.1==g.1))||b.2.2.2.2.2.any (fun n=>n.1==g.1&&n.2==d)
def amg {b:æ} (o:ζ b) (g:ë) (d:Int):G7 b g d=some (LJ b g d):=by
 have f:=o.compares;have h2:=o.looks;unfold G7 YO LJ
 cases p:(g.2.1==d) with
 |true =>
  have:ieq g.2.1 d=true:=p;rw[Ù this];simp
 |false =>
  have:ieq g.2.1 d=false:=p;rw[Ï this]
  have e:Ê (fun(k:Int) h=>nw d b.2.2.2.2.2 g.1 k (fun l=>h l) (fun j=>some j) (fun _=>some false)) (0:Int)=some (b.2.2.2.2.2.any (fun n=>n.1==g.1&&n.2==d)):=by
   refine fg (ġ b.2.2.2.2.2 (fun n=>n.1==g.1&&n.2==d) (fun _=>some true) (some true) (some false) (fun _=>rfl) (fun i a hi ha m=>?_) (fun m=>?_)) ?_
   ·try dsimp only
    unfold nw;rw[Ñ hi,Ç ha,Ç ha,Í hi (by omega)]
    cases f:(a.1==g.1) with
    |false=>have:ieq a.1 g.1=false:=f; simp[this]
    |true =>
     have:ieq a.1 g.1=true:=f;rw[this]
     cases h2:(a.2==d) with
     |false=>have:ieq a.2 d=false:=h2; simp[this]
     |true=>have:ieq a.2 d=true:=h2; simp[this]
   ·try dsimp only
    unfold nw;rw[ß]
   ·cases b.2.2.2.2.2.any _<;>rfl
  rw[e];refine fg (ġ b.2.2.2.2.1 (fun c=>c.2.1==d&&(Kq c.2.2.1 c.2.2.2.1==g.1||Kq c.2.2.2.1 c.2.2.1==g.1)) (fun _=>some true) (some true) (some (b.2.2.2.2.2.any (fun n=>n.1==g.1&&n.2==d))) (fun _=>rfl) (fun i a hi ha m=>?_) (fun m=>?_)) ?_
  ·have r:=o.piles a (dJ ha)
   try dsimp only
   unfold rJ;rw[Ñ hi,Ç ha,I7 (by omega) (by omega),I7 (by omega) (by omega),Í hi (by omega)];simp only[Á]
   cases f:(a.2.1==d) with
   |false=>have:ieq a.2.1 d=false:=f; simp[this]
   |true =>
    have:ieq a.2.1 d=true:=f;rw[this]
    cases h2:(Kq a.2.2.1 a.2.2.2.1==g.1) with
    |true=>have:ieq (Kq a.2.2.1 a.2.2.2.1) g.1=true:=h2; simp[this]
    |false =>
     have:ieq (Kq a.2.2.1 a.2.2.2.1) g.1=false:=h2;rw[this]
     cases q:(Kq a.2.2.2.1 a.2.2.1==g.1) with
     |true=>have:ieq (Kq a.2.2.2.1 a.2.2.1) g.1=true:=q; simp[this]
     |false=>have:ieq (Kq a.2.2.2.1 a.2.2.1) g.1=false:=q; simp[this]
  ·try dsimp only
   unfold rJ;rw[ß]
  ·cases b.2.2.2.2.1.any _<;>rfl
def ajM {b:æ} (h:Pre b) {g:ë} (m:g∈b.2.1) {d:Int}:LJ b g d=true↔d∈ĉ b g:=by
 have a:g.1≠0:=by
  have:=((uG g).1 (h.gauge g m)).2.2.2.1;omega
 rw[nV];unfold LJ;simp only[Bool.or_eq_true,List.any_eq_true,Bool.and_eq_true,beq_iff_eq,or_assoc];refine or_congr eq_comm (or_congr ?_ Iff.rfl);constructor
 ·rintro⟨c,f,e,i⟩;obtain⟨_,k,j⟩:=h.cmp c f;refine⟨c,f,?_,e⟩;rw[Vr k a,Vr j a] at i;intro l;rw[eS,fp,fp] at l;rcases i with⟨x,y⟩|⟨x,y⟩
  ·exact y (l.1 x)
  ·exact y (l.2 x)
 ·rintro⟨c,f,i,e⟩;obtain⟨_,k,j⟩:=h.cmp c f;refine⟨c,f,e,?_⟩;rw[Vr k a,Vr j a]
  by_cases ha:g.1∈c.2.2.1
  ·by_cases hb:g.1∈c.2.2.2.1
   ·exact absurd (by rw[eS,fp,fp]; exact⟨fun _=>hb,fun _=>ha⟩) i
   ·exact .inl ⟨ha,hb⟩
  ·by_cases hb:g.1∈c.2.2.2.1
   ·exact .inr ⟨hb,ha⟩
   ·exact absurd (by rw[eS,fp,fp]; exact⟨fun x=>absurd x ha,fun x=>absurd x hb⟩) i
def nx (v:Int) (D:rT Int):Int:=D.foldl (fun m d=>if v<d then min m d else m) 20001
def ahi (v:Int) (D:rT Int) (d:Int):nx v (D++[d])=if v<d then min (nx v D) d else nx v D:=by
 unfold nx;rw[List.foldl_append];rfl
def Vt (v:Int):∀D:rT Int,nx v D<=20001/\(∀d∈D,v<d->nx v D<=d)/\(nx v D=20001\/(nx v D∈D/\v<nx v D)):=by
 suffices H:∀(n:Nat) (D:rT Int),D.length=n->nx v D<=20001/\(∀d∈D,v<d->nx v D<=d)/\(nx v D=20001\/(nx v D∈D/\v<nx v D)) from fun D=>H _ D rfl
 intro n
 induction n with
 |zero =>
  intro D j;rw[dZ.1 j];exact⟨Int.le_refl _,by simp,.inl rfl⟩
 |succ n i =>
  intro g e
  obtain⟨D,d,rfl⟩:∃D d,g=D++[d]:=by
   rcases List.eq_nil_or_concat g with rfl|⟨L,b,rfl⟩
   ·simp at e
   ·exact⟨L,b,by simp⟩
  obtain⟨k,h2,a⟩:=i D (by simpa using e);rw[ahi]
  by_cases hd:v<d
  ·rw[if_pos hd];refine⟨by omega,fun x c f=>?_,?_⟩
   ·rcases dA.1 c with c|c
    ·have:=h2 x c f; omega
    ·rw[dB] at c; omega
   ·rcases Int.le_total (nx v D) d with h|h
    ·rw[Int.min_eq_left h];rcases a with a|a
     ·exact .inl a
     ·exact .inr ⟨by simp[a.1],a.2⟩
    ·rw[Int.min_eq_right h];exact .inr ⟨by simp,hd⟩
  ·rw[if_neg hd];refine⟨k,fun x c f=>?_,?_⟩
   ·rcases dA.1 c with c|c
    ·exact h2 x c f
    ·rw[dB] at c; omega
   ·rcases a with a|a
    ·exact .inl a
    ·exact .inr ⟨by simp[a.1],a.2⟩
def ang {D:rT Int} (m:D.length<=1000000) (v:Int) (K:Int->rF (rT (Int×Int))) :
 Ê (fun(c:Int×Int) d=>lR v D c.1 c.2 (fun f e=>d (f,e)) K) ((20001:Int),(0:Int))=K (nx v D):=by
 refine ķ (fun x:Int×Int=>∃k:Nat,k<=D.length/\x=(nx v (D.take k),(k:Int))) (fun x=>D.length-x.2.toNat) ?_ ⟨0,by omega,rfl⟩;rintro x ⟨k,l,rfl⟩;rcases dV k D.length with a|j
 ·refine .inr ⟨(nx v (D.take (k+1)),((k+1:Nat):Int)),⟨k+1,a,rfl⟩,by simp only[Int.toNat_natCast]; omega,fun g=>?_⟩;have ha:D[k]?=some D[k]:=List.getElem?_eq_getElem a;unfold lR;have i:ê D=((D.length:Nat):Int):=rfl;rw[Ñ a,i,kr a,ė ha,take_succ ha,ahi]
  by_cases h:v<D[k]
  ·rw[Ù (by simpa[igt] using h),kr a,ė ha,Í a (by omega),if_pos h,anB];simp
  ·rw[Ï (by simpa[igt] using h),Í a (by omega),if_neg h];simp
 ·have:k=D.length:=by omega
  subst this;refine .inl fun g=>?_;unfold lR;rw[ß,List.take_length]
def agc (b:æ) (g:ë) (D:rT Int) (v:Int):rT Int:=(acw D).filter fun d=>decide (v<d)&&LJ b g d
def QI {b:æ} {g:ë} {D:rT Int} (m:∀d∈D,d<=20000) (v:Int):agc b g D v=if nx v D<20001 then(if LJ b g (nx v D) then nx v D::agc b g D (nx v D) else agc b g D (nx v D)) else[]:=by
 obtain⟨n,h2,f⟩:=Vt v D;refine ab9 ((C6 D).sublist gD) ?_ fun x=>?_
 ·split
  ·split
   ·rw[dU];refine⟨fun a ha=>?_,(C6 D).sublist gD⟩;have:=(fD.1 ha).2;simp at this;omega
   ·exact(C6 D).sublist gD
  ·exact List.Pairwise.nil
 ·have i:∀v x,x∈agc b g D v↔x∈D/\v<x/\LJ b g x=true:=by
   intro v x;unfold agc;rw[List.mem_filter,Ac];simp
  rw[i]
  split
  ·rename_i k
   have j:nx v D∈D/\v<nx v D:=by
    rcases f with f|f
    ·omega
    ·exact f
   split
   ·rename_i ha;rw[dE,i];constructor
    ·rintro⟨a,c,e⟩;have:=h2 x a c;rcases Int.lt_or_eq_of_le this with h|h
     ·exact .inr ⟨a,h,e⟩
     ·exact .inl h.symm
    ·rintro(rfl|⟨a,c,e⟩)
     ·exact⟨j.1,j.2,ha⟩
     ·exact⟨a,by omega,e⟩
   ·rename_i ha;rw[i];constructor
    ·rintro⟨a,c,e⟩;have:=h2 x a c;rcases Int.lt_or_eq_of_le this with h|h
     ·exact⟨a,h,e⟩
     ·rw[<-h] at e; exact absurd e ha
    ·rintro⟨a,c,e⟩;exact⟨a,by omega,e⟩
  ·rename_i l;constructor
   ·rintro⟨a,c,e⟩;have:=h2 x a c;have:=m x a;omega
   ·intro h; cases h
def al5 {b:æ} {g:ë} {D:rT Int} (v:Int):(agc b g D v).length<=D.length :=
 dG (eW _ _) (LP D)
set_option maxHeartbeats 1000000 in
def alA {b:æ} (c:ζ b) {i:Nat} {g:ë} (p:b.2.1[i]?=some g) {D:rT Int} (u:D.length<=1000000) (j:∀d∈D,d<=20000) {out:rT (Int×Int)} (z:out.length+D.length<=1000000000) (K:rT (Int×Int)->rF (rT (Int×Int))) :
 Ê (fun(f:Int×rT (Int×Int)) h=>lS (i:Int) b.1.1 b.1.2 b.2.1 b.2.2.1 b.2.2.2.1 b.2.2.2.2.1 b.2.2.2.2.2 D f.1 f.2 (fun m l=>h (m,l)) K) ((-1:Int),out)=K (out++(agc b g D (-1)).map fun d=>((g.1,d):Int×Int)):=by
 refine ķ (fun x:Int×rT (Int×Int)=>x.2++(agc b g D x.1).map (fun d=>((g.1,d):Int×Int))=out++(agc b g D (-1)).map fun d=>((g.1,d):Int×Int)) (fun x=>(20001-x.1).toNat) ?_ rfl;rintro⟨v,o⟩ hI;simp only at hI
 by_cases n:v<20001
 ·obtain⟨A,h2,k⟩:=Vt v D
  have t:v<nx v D:=by
   rcases k with k|k
   ·omega
   ·exact k.2
  refine .inr ⟨(nx v D,if nx v D<20001/\LJ b g (nx v D)=true then o++[(g.1,nx v D)] else o),?_,by simp only; omega,fun q=>?_⟩
  ·rw[<-hI];simp only;rw[QI j v]
   by_cases ha:nx v D<20001
   ·rw[if_pos ha]
    cases r:LJ b g (nx v D) with
    |true=>rw[if_pos ⟨ha,rfl⟩,if_pos rfl]; simp
    |false=>rw[if_neg (by simp),if_neg (by simp)]
   ·rw[if_neg (by omega),if_neg ha]
    have:agc b g D (nx v D)=[]:=by
     have e:=QI (b:=b) (g:=g) j (nx v D);rw[e,if_neg];obtain⟨y,w,a⟩:=Vt (nx v D) D;rcases a with a|a
     ·omega
     ·have:=j _ a.1; omega
    rw[this]
  ·unfold lS;rw[Ù (by simpa[ilt] using n)];refine Eq.trans (ang u v _) ?_;dsimp only
   by_cases ha:nx v D<20001
   ·rw[Ù (by simpa[ilt] using ha),Ç p,amg (b:=((b.1.1,b.1.2),b.2.1,b.2.2.1,b.2.2.2.1,b.2.2.2.2.1,b.2.2.2.2.2)) ⟨c.gauges,c.uses,c.loans,c.compares,c.looks,c.piles⟩,Á];have e:LJ ((b.1.1,b.1.2),b.2.1,b.2.2.1,b.2.2.2.1,b.2.2.2.2.1,b.2.2.2.2.2) g (nx v D)=LJ b g (nx v D):=rfl;rw[e]
    cases r:LJ b g (nx v D) with
    |true =>
     have s:o.length<=1000000000:=by
      have:=congrArg List.length hI;simp only[dw,eF] at this;have:=al5 (b:=b) (g:=g) (D:=D) (-1);omega
     rw[Ù rfl,Ç p,Ë (by simp only[eX]; omega),Am.iff_true,if_pos ⟨ha,rfl⟩]
    |false=>rw[Ï rfl,if_neg (by simp)]
   ·rw[Ï (by simpa[ilt] using ha),if_neg (by omega)]
 ·refine .inl fun q=>?_;unfold lS;rw[Ï (by simpa[ilt] using n)]
  have:agc b g D v=[]:=by
   rw[QI j,if_neg];obtain⟨y,w,a⟩:=Vt v D;rcases a with a|a
   ·omega
   ·have:=j _ a.1; omega
  rw[this] at hI;simp only[gj,dO] at hI;rw[hI]
def zT (b:æ):rT Int:=b.2.1.map (fun g=>g.2.1)++b.2.2.2.2.1.map (fun c=>c.2.1)++b.2.2.2.2.2.map fun n=>n.2
def aca {b:æ} (a:ζ b):(zT b).length<=3000:=by
 have d:=a.gauges; have h2:=a.compares; have c:=a.looks;simp only[zT,dw,eF];omega
def Pre.days {b:æ} (h:Pre b):∀d∈zT b,0<=d/\d<=20000:=by
 intro d hd;simp only[zT,dA,eN] at hd;rcases hd with(⟨g,e,rfl⟩|⟨c,f,rfl⟩)|⟨n,a,rfl⟩
 ·have:=((uG g).1 (h.gauge g e)).2.2.2.2.1;omega
 ·have:=(h.cmp c f).1;simp only[IW,inP,dt,decide_eq_true_eq] at this;exact this
 ·have:=h.look n a;simp only[IW,inP,dt,decide_eq_true_eq] at this;exact this
def ajO {b:æ} (h:Pre b) {g:ë} (f:g∈b.2.1):agc b g (zT b) (-1)=ĉ b g:=by
 refine ab9 ((C6 _).sublist List.filter_sublist) (Qi b g) fun x=>?_;unfold agc;rw[List.mem_filter,Ac,Bool.and_eq_true,ajM h f,decide_eq_true_eq];constructor
 ·exact fun a=>a.2.2
 ·intro a
  have d:x∈zT b:=by
   simp only[zT,dA,eN];rcases nV.1 a with e|⟨c,j,_,e⟩|⟨n,i,_,e⟩
   ·exact .inl (.inl ⟨g,f,e.symm⟩)
   ·exact .inl (.inr ⟨c,j,e⟩)
   ·exact .inr ⟨n,i,e⟩
  have:=h.days x d;exact⟨d,by omega,a⟩
def Vz {α:Type} (f:α->Int) (l:rT α) (s:rT Int) (i:Nat) {a:α} (ha:l[i]?=some a):s++(l.take (i+1)).map f=(s++(l.take i).map f)++[f a]:=by
 rw[take_succ ha,gF,dH]; rfl
def QO {b:æ} (h:Pre b):kQ b=some (Ă b):=by
 have m:=h.size.gauges; have h2:=h.size.compares; have l:=h.size.looks;have k:=aca h.size;unfold kQ TV;refine ŋ b.2.1 (fun i=>(b.2.1.take i).map (fun g=>g.2.1)) _ rfl (fun i a hi ha e=>?_) (fun e=>?_)
 ·try dsimp only
  unfold oQ;have:=Vz (fun g:ë=>g.2.1) b.2.1 [] i ha;simp only[List.nil_append] at this;rw[Ñ hi,Ç ha,Ë (by simp only[List.length_map,List.length_take,List.length_singleton]; omega),Am.iff_true,Í hi (by omega),this]
 ·try dsimp only
  unfold oQ;rw[ß,List.take_length];dsimp only;refine ŋ b.2.2.2.2.1 (fun i=>b.2.1.map (fun g=>g.2.1)++(b.2.2.2.2.1.take i).map (fun c=>c.2.1)) _ (by simp) (fun i a hi ha e=>?_) (fun e=>?_)
  ·try dsimp only
   unfold oP;rw[Ñ hi,Ç ha,Ë (by simp only[List.length_append,List.length_map,List.length_take,List.length_singleton]; omega),Am.iff_true,Í hi (by omega),Vz (fun c:Cmp=>c.2.1) b.2.2.2.2.1 _ i ha]
  ·try dsimp only
   unfold oP;rw[ß,List.take_length];dsimp only;refine ŋ b.2.2.2.2.2 (fun i=>b.2.1.map (fun g=>g.2.1)++b.2.2.2.2.1.map (fun c=>c.2.1)++(b.2.2.2.2.2.take i).map (fun n=>n.2)) _ (by simp) (fun i a hi ha e=>?_) (fun e=>?_)
   ·try dsimp only
    unfold oO;rw[Ñ hi,Ç ha,Ë (by simp only[List.length_append,List.length_map,List.length_take,List.length_singleton]; omega),Am.iff_true,Í hi (by omega),Vz (fun n:Int×Int=>n.2) b.2.2.2.2.2 _ i ha]
   ·try dsimp only
    unfold oO;rw[ß,List.take_length];dsimp only;rw[show b.2.1.map (fun g=>g.2.1)++b.2.2.2.2.1.map (fun c=>c.2.1)++b.2.2.2.2.2.map (fun n=>n.2)=zT b from rfl];refine ŋ b.2.1 (fun i=>(b.2.1.take i).flatMap fun g=>(ĉ b g).map fun d=>((g.1,d):Int×Int)) _ rfl (fun i g hi f e=>?_) (fun e=>?_)
    ·try dsimp only
     unfold oN;rw[Ñ hi]
     have j:((b.2.1.take i).flatMap fun g=>(ĉ b g).map fun d=>((g.1,d):Int×Int)).length<=2001000:=by
      have:=vG (fun g:ë=>(ĉ b g).map fun d=>((g.1,d):Int×Int)) 2001 (fun g=>by rw[eF]; exact Hn h.size g) (b.2.1.take i);rw[dK] at this;have:min i b.2.1.length*2001<=1000*2001:=dP _ (by omega);omega
     refine fg (alA h.size f (by omega) (fun d hd=>(h.days d hd).2) (by omega) _) ?_;rw[Í hi (by omega),ajO h (dJ f),take_succ f,fF];simp
    ·try dsimp only
     unfold oN;rw[ß,List.take_length];rfl
def aiX {k:Int×Int} (d:0<k.2) (m n:Int):0<cmpP (Jr k m) (Jr k n)↔k.1*n<k.1*m:=by
 obtain⟨g,q,_,p,o⟩:=Er (n:=k.1*m) d;obtain⟨h,h0,_,l,h2⟩:=Er (n:=k.1*n) d
 have a:(Jr k n).1*(Jr k m).2<(Jr k m).1*(Jr k n).2↔k.1*n<k.1*m:=by
  have i:(Jr k n).1*(Jr k m).2*((g:Int)*h)=k.1*n*k.2:=by
   show(Ae (k.1*n) k.2).1*(Ae (k.1*m) k.2).2*((g:Int)*h)=k.1*n*k.2
   calc _=((Ae (k.1*n) k.2).1*h)*((Ae (k.1*m) k.2).2*g):=by ac_rfl
    _=_:=by rw[<-l,<-o]
  have f:(Jr k m).1*(Jr k n).2*((g:Int)*h)=k.1*m*k.2:=by
   show(Ae (k.1*m) k.2).1*(Ae (k.1*n) k.2).2*((g:Int)*h)=k.1*m*k.2
   calc _=((Ae (k.1*m) k.2).1*g)*((Ae (k.1*n) k.2).2*h):=by ac_rfl
    _=_:=by rw[<-p,<-h2]
  have j:0<(g:Int)*h:=Int.mul_pos (by omega) (by omega);constructor
  ·intro c;have:=Int.mul_lt_mul_of_pos_right c j;rw[i,f] at this;exact Int.lt_of_mul_lt_mul_right this (by omega)
  ·intro c;have:=Int.mul_lt_mul_of_pos_right c d;rw[<-i,<-f] at this;exact Int.lt_of_mul_lt_mul_right this (by omega)
 rw[<-a];unfold cmpP
 by_cases e:Jr k m=Jr k n
 ·rw[if_pos e,e];omega
 ·rw[if_neg e]
  split
  ·omega
  ·split<;>omega
def aeH {k:Int×Int} (c:0<k.2) {heat:Int×Int} (d:heat.1<=heat.2):aa4 k heat=if k.1<0 then(Jr k heat.2,Jr k heat.1) else(Jr k heat.1,Jr k heat.2):=by
 unfold aa4
 by_cases a:k.1<0
 ·rw[if_pos a]
  by_cases e:heat.1=heat.2
  ·rw[e]
   split<;>rfl
  ·rw[if_pos ((aiX c _ _).2 (Int.mul_lt_mul_of_neg_left (by omega) a))]
 ·rw[if_neg a,if_neg (fun h=>by
   have f:=(aiX c _ _).1 h;have h2:=Int.mul_le_mul_of_nonneg_left d (show 0<=k.1 by omega)
   omega)]
def UY {n d:Int} (hd:0<d) (j:n.natAbs<=2147483647) (c:d<=2147483647):qw n d=some (Ae n d,0):=by
 obtain⟨g,h0,l,m,h2⟩:=Er (n:=n) hd;have r:=(Et _).1 (aaX hd j c)
 have z:iK d 0=false:=by simp[iK]; omega
 have f:iK (g:Int) 0=false:=by simp[iK]; omega
 unfold qw OM
 by_cases a:n=0
 ·subst a
  have e:Ae 0 d=(0,1):=by
   unfold Ae
   have:(Nat.gcd (0:Int).natAbs d.natAbs:Int)=d:=by simp; omega
   rw[this,Int.ediv_self (by omega)];simp
  rw[Ï (by rfl),Ï z,ä (by simp) (by simp),Ï z,Int.tdiv_self (by omega),ä (by omega) (by omega),Int.zero_tdiv,e];rfl
 ·rw[Ù (by simpa[ine] using a),Ï z];have q:(Int.tmod n d).natAbs=n.natAbs % d.natAbs:=ic n d;have k:=gO n.natAbs (show 0<d.natAbs by omega);rw[aj7 ⟨by omega,by omega⟩,Á]
  have p:d=((d.natAbs:Nat):Int):=by omega
  have o:AO ((Int.tmod n d).natAbs:Int) d=some (g:Int):=by
   have:=aj4 (Int.tmod n d).natAbs d.natAbs;rw[<-p] at this;rw[this,q,l];congr 2;rw[hZ n.natAbs,Nat.gcd_rec d.natAbs n.natAbs]
  rw[o,Á,Ï f]
  have i:Int.tdiv n (g:Int)=(Ae n d).1:=by
   conv=>lhs; rw[m]
   exact Int.mul_tdiv_cancel _ (by omega)
  have h:Int.tdiv d (g:Int)=(Ae n d).2:=by
   conv=>lhs; rw[h2]
   exact Int.mul_tdiv_cancel _ (by omega)
  rw[i,h,ä (by omega) (by omega),Ï f,ä (by omega) (by omega),Ï (by simp[igt]; omega),Ï (by simp[ilt]; omega),Ï (by simp[igt]; omega)]
def an9 {x y:Int×Int} (c:Ef x 1000 100) (a:Ef y 1000 100):Mc x y=some (subP x y,0):=by
 obtain⟨i,f,b3⟩:=SU c a;have h:=Ah c.num (show -100<=y.2/\y.2<=100 from⟨by have:=a.pos; omega,a.den⟩);have h2:=Ah a.num (show -100<=x.2/\x.2<=100 from⟨by have:=c.pos; omega,c.den⟩);have g:=a.num;unfold Mc ade WB adf WD adi;rw[ä (by omega) (by omega),Á];dsimp only
 have e:(0-y.1)*x.2 = -(y.1*x.2):=by rw[Int.zero_sub,Int.neg_mul]
 rw[ä (by omega) (by omega),e,ä (by omega) (by omega),ä (by omega) (by omega),ä (by omega) (by omega)]
 have d:x.1*y.2 + -(y.1*x.2)=x.1*y.2-y.1*x.2:=by omega
 rw[d,UY f (by omega) (by omega),Á,Á];rfl
def aj3 {k:Int×Int} (a:Ef k 200000 10000) {n:Int} (c : -10000<=n/\n<=10000):vK (n,1) k=some (Jr k n,0):=by
 have b:=TA a c;have p:=a.pos;have q:=a.den;unfold vK adg;have e:n*k.1=k.1*n:=Int.mul_comm _ _;dsimp only;rw[e,Int.one_mul,ä (by omega) (by omega),ä (by omega) (by omega),UY (by omega) (by omega) (by omega),Á];rfl
def aj1 {k:Int×Int} (c:Ef k 200000 10000) {heat:Int×Int} (d:jP heat (-10000) 10000=true):AM ((heat.1,1),(heat.2,1)) k=some (aa4 k heat,0):=by
 simp only[jP,Bool.and_eq_true,decide_eq_true_eq] at d;have e:=c.pos;rw[aeH (by omega) d.2.1];unfold AM T0 Ha Y0;dsimp only;rw[aj3 c ⟨by omega,by omega⟩,aj3 c ⟨by omega,by omega⟩]
 by_cases a:k.1<0
 ·rw[Ù (by simpa[ilt] using a),if_pos a];rfl
 ·rw[Ï (by simpa[ilt] using a),if_neg a];rfl
def ajZ {r:Int×Int} (h:aaC r=true):AP r=some (r.1 / r.2):=by
 have:=(Et r).1 h;have e:=afy (n:=r.1) (d:=r.2) (by omega) (by omega);unfold AP T2 P9 YZ;rw[e];rfl
def amf {r:Int×Int} (h:aaC r=true):Hb r=some (Z6 r):=by
 have c:=(Et r).1 h;unfold Hb Y6 abG ahI
 have z:iK r.2 0=false:=by simp[iK]; omega
 have t:=Int.mul_tdiv_add_tmod r.1 r.2
 have g : -4000000000<=Int.tdiv r.1 r.2/\Int.tdiv r.1 r.2<=4000000000:=by
  have:=Int.natAbs_tdiv_le_natAbs r.1 r.2;omega
 have f : -r.2<Int.tmod r.1 r.2/\Int.tmod r.1 r.2<r.2:=by
  have e:=ic r.1 r.2;have d:=gO r.1.natAbs (show 0<r.2.natAbs by omega);omega
 rw[Ï z,ä (by omega) (by omega),Ï z,ĕ];unfold Z6
 by_cases a:0<Int.tmod r.1 r.2
 ·rw[if_pos (by simpa[igt] using a),ä (by omega) (by omega),Á];congr 1
  have : -r.1 / r.2 = -(Int.tdiv r.1 r.2)-1:=by
   refine(gd (by omega)).2 ⟨?_,?_⟩
   ·rw[Int.sub_mul,Int.neg_mul,fU (Int.tdiv r.1 r.2)]; omega
   ·rw[Int.sub_mul,Int.neg_mul,fU (Int.tdiv r.1 r.2)]; omega
  omega
 ·rw[if_neg (by simpa[igt] using a),Á];congr 1
  have : -r.1 / r.2 = -(Int.tdiv r.1 r.2):=by
   refine(gd (by omega)).2 ⟨?_,?_⟩
   ·rw[Int.neg_mul,fU (Int.tdiv r.1 r.2)]; omega
   ·rw[Int.neg_mul,fU (Int.tdiv r.1 r.2)]; omega
  omega
structure aoc (b:æ) (c:Cmp):Prop where
 ok:akd b c
 ids:b.2.1.Pairwise fun a b=>a.1<b.1
 pile:∀x∈c.2.2.1++c.2.2.2.1,∃g,ą b x=some g
def jt.cmpIn {b:æ} (h:jt b) {c:Cmp} (a:c∈b.2.2.2.2.1):aoc b c:=⟨h.cmp a,h.ids,fun x d=>by obtain⟨⟨g,e,_⟩,_⟩:=h.pile a d; exact⟨g,e⟩⟩
def akd.ne {b:æ} {c:Cmp} (h:akd b c):∀x∈c.2.2.1++c.2.2.2.1,x≠0:=by
 intro x a;have d:=(lm c).1 h.nums;have e:=((XI _).1 d.2.2.2.2.2.1).1;have h2:=((XI _).1 d.2.2.2.2.2.2).1;rcases dA.1 a with a|a
 ·have:=e x a; omega
 ·have:=h2 x a; omega
def aaq {b:æ} (i:ζ b) (hi:b.2.1.Pairwise fun a b=>a.1<b.1) {p q:rT Int} (h:∀x∈p,x≠0/\∃g,ą b x=some g):uL b (Kq p q)=some (QT (ū b) (í p q)):=by
 have m:=i.gauges;unfold uL TP
 cases c:í p q with
 |nil =>
  have:Kq p q=0:=by unfold Kq; rw[c]; rfl
  rw[this];rfl
 |cons x t =>
  have e:Kq p q=x:=by unfold Kq; rw[c]; rfl
  have k:x∈p:=(GJ.1 (show x∈í p q by rw[c]; simp)).1;obtain⟨h0,g,f⟩:=h x k;rw[e,Ï (by simpa[ieq] using h0),HA (by omega),Á];rcases uH (b:=b) (id:=x) with⟨j,g',h2,d,l⟩|⟨h2,d⟩
  ·rw[h2]
   try dsimp only
   rw[Ç d];unfold QT;dsimp only;rw[tp hi,l]
  ·rw[d] at f; cases f
def agi {b:æ} (e:ζ b) {c:Cmp} (h:aoc b c):vI b c=some (jK b c):=by
 have d:=(lm c).1 h.ok.nums;have ha:=Ŭ d.2.2.2.2.2.1;have hb:=Ŭ d.2.2.2.2.2.2;have i:∀x∈c.2.2.1,x≠0/\∃g,ą b x=some g:=fun x a=>⟨h.ok.ne x (by simp[a]),h.pile x (by simp[a])⟩;have f:∀x∈c.2.2.2.1,x≠0/\∃g,ą b x=some g:=fun x a=>⟨h.ok.ne x (by simp[a]),h.pile x (by simp[a])⟩;unfold vI OC;rw[I7 (by omega) (by omega),Á,aaq e h.ids i,Á,I7 (by omega) (by omega),Á,aaq e h.ids f,Á,an9 h.ok.r1 h.ok.r2,Á]
 try dsimp only
 rw[aj1 (heat:=c.2.2.2.2.2.2) (aaI h.ok.r1 h.ok.r2) d.2.2.2.2.1,Á];rfl
def aj5 {b:æ} {c:Cmp} (d:c.2.2.1.length<=1000) (a:c.2.2.2.1.length<=1000) (h:0<=b.1.1) (h2:b.1.1<=1000000) (g:0<=b.1.2) (f:b.1.2<=1000000):AJ b c=some (uI b c):=by
 unfold AJ TY uI
 have e:∀n:Nat,Zy 0 ((n:Int)-1)=((n-1:Nat):Int):=by
  intro n;unfold Zy
  split<;>omega
 have bd:∀(n:Nat) (x:Int),n<=1000->0<=x->x<=1000000->0<=((n-1:Nat):Int)*x/\((n-1:Nat):Int)*x<=1000000000:=by
  intro n x j h0 i;refine⟨Int.mul_nonneg (by omega) h0,?_⟩;have:=Int.mul_le_mul (show((n-1:Nat):Int)<=1000 by omega) i h0 (by omega);omega
 have m:=bd _ _ d h h2;have l:=bd _ _ d g f;have b3:=bd _ _ a h h2;have k:=bd _ _ a g f;simp only[â];rw[ä (by omega) (by omega),ä (by omega) (by omega)];simp only[e];rw[ä (by omega) (by omega),ä (by omega) (by omega),ä (by omega) (by omega),ä (by omega) (by omega),ä (by omega) (by omega),ä (by omega) (by omega)]
def ami {b:æ} (f:ζ b) (g:0<=b.1.1/\b.1.1<=b.1.2/\b.1.2<=1000000) {c:Cmp} (h:aoc b c):uM b c=some (U9 b c):=by
 have a:=(lm c).1 h.ok.nums;have ha:=Ŭ a.2.2.2.2.2.1;have hb:=Ŭ a.2.2.2.2.2.2;obtain⟨e,d,m,l,b3⟩:=Xu g h.ok;have k:=I0 e;have j:=D3 d;have i:=D5 (b:=b) (c:=c) (by omega) (by omega) (by omega) (by omega) (by omega) (by omega);have hd:=a.2.2.1;unfold uM YR U9;rw[agi f h,Á,aj5 (by omega) (by omega) (by omega) (by omega) (by omega) (by omega),Á,ajZ d.rat,amf e.rat];simp only[Á];rw[ä (by omega) (by omega),ä (by omega) (by omega),ä (by omega) (by omega),ä (by omega) (by omega),ä (by omega) (by omega),ä (by omega) (by omega)]
section
variable {b:æ}
def amk (h:jt b) {id:Int} {g:ë} (i:ą b id=some g) {f t:Int} (q:0<=f/\f<=100000) (C:t<=100000):uN b id f t=some (Bh b g f t):=by
 have F:=h.nG;have D:=h.nU;have E:=h.nL;obtain⟨a,k⟩:=sk i;unfold uN YU;rw[HA (by omega),Á];rcases uH (b:=b) (id:=id) with⟨j,g',h2,n,r⟩|⟨h2,n⟩
 ·rw[h2]
  have:g'=g:=by rw[i] at r; exact(Option.some.inj r).symm
  subst this
  try dsimp only
  rw[Ç n];refine ķ (fun x:Int×Int=>f<=x.2/\(x.2<=t\/x.2=f)/\x.1=Bh b g' f x.2) (fun x=>(t-x.2).toNat) ?_ ⟨Int.le_refl _,.inr rfl,(PE g' (Int.le_refl _)).symm⟩;rintro⟨s,d⟩ ⟨c,m,p⟩;simp only at c m p;subst p
  by_cases hd:d<t
  ·refine .inr ⟨(Bh b g' f (d+1),d+1),⟨by simp only; omega,.inl (by simp only; omega),rfl⟩,by simp only; omega,fun v=>?_⟩;have e:=ahX h g' c;have B:=DX h a (f:=f) (t:=d) q.1;have u:=DX h a (f:=f) (t:=d+1) q.1;unfold rR;rw[Ù (by simpa[ilt] using hd),Mo (b:=((b.1.1,b.1.2),b.2.1,b.2.2.1,b.2.2.2.1,b.2.2.2.2.1,b.2.2.2.2.2)) (by simp only; omega),Á];have A:Ń ((b.1.1,b.1.2),b.2.1,b.2.2.1,b.2.2.2.1,b.2.2.2.2.1,b.2.2.2.2.2) id d=Ń b id d:=rfl;rw[A];unfold abQ at e;rw[k] at e
   cases ha:Ń b id d with
   |some l =>
    rw[ha] at e;simp only at e;rw[Ù rfl]
    try dsimp only
    rw[<-e,ä (by omega) (by omega),ä (by omega) (by omega)]
   |none =>
    rw[ha] at e;simp only at e;rw[Ï rfl,amh (b:=((b.1.1,b.1.2),b.2.1,b.2.2.1,b.2.2.2.1,b.2.2.2.2.1,b.2.2.2.2.2)) (by simp only; omega),Á];have z:Kk ((b.1.1,b.1.2),b.2.1,b.2.2.1,b.2.2.2.1,b.2.2.2.2.1,b.2.2.2.2.2) id d=Kk b id d:=rfl;rw[z]
    cases o:Kk b id d with
    |true =>
     rw[o,if_pos rfl] at e;rw[Ù rfl]
     try dsimp only
     rw[<-e,ä (by omega) (by omega),ä (by omega) (by omega)]
    |false =>
     rw[o,if_neg (by simp)] at e;rw[Ï rfl,ä (by omega) (by omega),e,Int.add_zero]
  ·refine .inl fun v=>?_;unfold rR;rw[Ï (by simpa[ilt] using hd)]
   have:Bh b g' f d=Bh b g' f t:=by
    rcases Int.lt_or_le t f with w|y
    ·have:d=f:=by omega
     rw[this,PE g' (Int.le_refl _),PE g' (by omega)]
    ·have:d=t:=by omega
     rw[this]
   rw[this]
 ·rw[n] at i; cases i
end
def aas {b:æ} (h:Pre b) (n:Int×Int):jo b n=some (idxP b n.1 n.2):=by
 have d:=Tw h.size;unfold jo TW;rw[QO h,Á];refine Eq.trans (lW (Ă b) (fun m=>decide (n.1=m.1)&&decide (n.2=m.2)) (fun z=>some (z+1)) (some 0) (fun i a hi ha c=>?_) (fun c=>?_)) ?_
 ·try dsimp only
  unfold oR;rw[Ñ hi,Ç ha,Í hi (by omega),Í hi (by omega),ĕ,Bool.and_true]
  have e:(iK a.1 n.1&&iK a.2 n.2)=(decide (n.1=a.1)&&decide (n.2=a.2)):=by
   rw[eS];simp only[iK,dt,decide_eq_true_eq];exact and_congr eq_comm eq_comm
  rw[e]
 ·try dsimp only
  unfold oR;rw[ß]
 ·unfold idxP Dk
  cases List.findIdx? (fun m=>decide (n.1=m.1)&&decide (n.2=m.2)) (Ă b)<;>rfl
def aiv {b:æ} (h:Pre b) (p q:rT Int) (d:Int):idxP b (Kq p q) d=atP (Ă b) (í p q) d:=by
 unfold idxP atP Kq
 cases f:í p q with
 |nil =>
  simp only[List.head?_nil,Option.getD_none]
  have:Dk (Ă b) 0 d=none:=by
   unfold Dk;rw[List.findIdx?_eq_none_iff];intro n a;obtain⟨g,c,a⟩:=List.mem_flatMap.1 a;obtain⟨e,_,rfl⟩:=List.mem_map.1 a;have:=((uG g).1 (h.gauge g c)).2.2.2.1
   have:¬((0:Int)=g.1):=by omega
   simp[this]
  rw[this]
 |cons x t=>rfl
section
variable {b:æ}
def akW {k:Nat} (e:k<(Ă b).length):∃(i:Nat) (g:ë) (j:Nat) (d:Int),b.2.1[i]?=some g/\(ĉ b g)[j]?=some d/\k=off b i+j/\(Ă b)[k]?=some (g.1,d):=by
 obtain⟨i,g,j,c,h2,a⟩:=akQ (b:=b) b.2.1.length (du _) k (by rw[am6]; exact e);have hd:(ĉ b g)[j]?=some (ĉ b g)[j]:=dv h2;exact⟨i,g,j,_,c,hd,a,by rw[a]; exact Vv c hd⟩
def aew (h:jt b) {i j:Nat} {g g':ë} (hi:b.2.1[i]?=some g) (e:b.2.1[j]?=some g') (f:g.1=g'.1):i=j/\g=g':=by
 obtain⟨d,rfl⟩:=dC.1 hi;obtain⟨h2,rfl⟩:=dC.1 e;have c:=fL.1 h.ids;rcases Nat.lt_trichotomy i j with a|rfl|a
 ·have:=c i j d h2 a; omega
 ·exact⟨rfl,rfl⟩
 ·have:=c j i h2 d a; omega
def qt (b:æ) (i:Nat) (g:ë) (k:Nat):rT Lk :=
 if k<=off b i then[] else[(0,(off b i:Int)+1,g.2.2.1+g.2.2.2.1.2),((off b i:Int)+1,0,-(g.2.2.1+g.2.2.2.1.1))] ++
  (List.range (min (k-off b i-1) ((ĉ b g).length-1))).flatMap fun(k:Nat)=>[((off b i:Int)+1+k,(off b i:Int)+1+k+1,0),((off b i:Int)+1+k+1,(off b i:Int)+1+k,Bh b g ((ĉ b g)[k]?.getD 0) ((ĉ b g)[k+1]?.getD 0))]
def ij (b:æ) (i:Nat) (g:ë) (k:Nat):rT (Int×Int) :=
 if k<=off b i then[] else[(1,(i:Int)),(1,(i:Int))]++(List.range (min (k-off b i-1) ((ĉ b g).length-1))).flatMap fun _=>[(2,(i:Int)),(2,(i:Int))]
def afw (h:jt b) {i:Nat} {g:ë} (a:b.2.1[i]?=some g):qt b i g (Ă b).length=ũ b g/\ij b i g (Ă b).length=ō b i g:=by
 have d:=am5 h a;have c:=List.length_pos_of_mem (Mh (b:=b) g)
 have e:min ((Ă b).length-off b i-1) ((ĉ b g).length-1)=(ĉ b g).length-1:=by omega
 unfold qt ij ũ ō;rw[if_neg (by omega),if_neg (by omega),e,al2 h a];exact⟨rfl,rfl⟩
def ZB {i:Nat} {g:ë} {k:Nat} (a:k<off b i\/off b i+(ĉ b g).length<=k) (c:0<(ĉ b g).length):qt b i g (k+1)=qt b i g k/\ij b i g (k+1)=ij b i g k:=by
 unfold qt ij;rcases a with a|a
 ·rw[if_pos (by omega),if_pos (by omega),if_pos (by omega),if_pos (by omega)];exact⟨rfl,rfl⟩
 ·have e:min (k+1-off b i-1) ((ĉ b g).length-1)=min (k-off b i-1) ((ĉ b g).length-1):=by omega
  rw[if_neg (by omega),if_neg (by omega),if_neg (by omega),if_neg (by omega),e];exact⟨rfl,rfl⟩
def ZC {i:Nat} {g:ë}:qt b i g (off b i+1)=qt b i g (off b i)++[(0,(off b i:Int)+1,g.2.2.1+g.2.2.2.1.2),((off b i:Int)+1,0,-(g.2.2.1+g.2.2.2.1.1))]/\ij b i g (off b i+1)=ij b i g (off b i)++[(1,(i:Int)),(1,(i:Int))]:=by
 unfold qt ij;rw[if_neg (by omega),if_pos (Nat.le_refl _),if_neg (by omega),if_pos (Nat.le_refl _),show off b i+1-off b i-1=0 by omega,Nat.zero_min];exact⟨by simp,by simp⟩
def abD {i:Nat} {g:ë} {j:Nat} (a:j+1<(ĉ b g).length):qt b i g (off b i+(j+1)+1)=qt b i g (off b i+(j+1))++[((off b i:Int)+1+j,(off b i:Int)+1+j+1,0),((off b i:Int)+1+j+1,(off b i:Int)+1+j,Bh b g ((ĉ b g)[j]?.getD 0) ((ĉ b g)[j+1]?.getD 0))] /\
 ij b i g (off b i+(j+1)+1)=ij b i g (off b i+(j+1))++[(2,(i:Int)),(2,(i:Int))]:=by
 unfold qt ij;rw[if_neg (by omega),if_neg (by omega),if_neg (by omega),if_neg (by omega),show min (off b i+(j+1)+1-off b i-1) ((ĉ b g).length-1)=j+1 by omega,show min (off b i+(j+1)-off b i-1) ((ĉ b g).length-1)=j by omega,HK,HK];exact⟨by simp,by simp⟩
def afv (i:Nat) (g:ë) (k:Nat) (hd:(ĉ b g).length<=59):(qt b i g k).length<=120/\(ij b i g k).length<=120:=by
 unfold qt ij;constructor
 ·split
  ·simp
  ·rw[dw,pH _ _ (fun _=>rfl)];simp only[dz,dI]; omega
 ·split
  ·simp
  ·rw[dw,pH _ _ (fun _=>rfl)];simp only[dz,dI]; omega
set_option maxHeartbeats 1000000 in
def agx (h:jt b) {i:Nat} {g:ë} (z:b.2.1[i]?=some g) {L:rT Lk} {S:rT (Int×Int)} (hL:L.length<=100000) (hS:S.length<=100000) (K:rT Lk×rT (Int×Int)->rF (rT Lk×rT (Int×Int))) :
 Ê (fun(o:Int×rT Lk×rT (Int×Int)) r=>qj (Ă b) (i:Int) b.1.1 b.1.2 b.2.1 b.2.2.1 b.2.2.2.1 b.2.2.2.2.1 b.2.2.2.2.2 g.1 g.2.1 g.2.2.1 g.2.2.2.1.1 g.2.2.2.1.2 o.1 o.2.1 o.2.2 (fun C B A=>r (C,B,A)) K) ((0:Int),L,S)=K (L++ũ b g,S++ō b i g):=by
 have hN:=h.nodes;have c:=dJ z;have M:=adV h c;have W:=List.length_pos_of_mem (Mh (b:=b) g);have Q:=h.gaugeR c;have r1:=Q.2.2.2.2.2.1;have r2:=Q.2.2.2.2.2.2.1;obtain⟨Z,s⟩:=ZY h c;refine ŋ (Ă b) (fun k=>(L++qt b i g k,S++ij b i g k)) _ (by simp[qt,ij]) (fun k n f x U=>?_) (fun U=>?_)
 ·try dsimp only
  unfold qj;have gl:=afv (b:=b) i g k M;rw[Ñ f,Ç x];obtain⟨V,g',j,d,O,h2,T,R⟩:=akW f
  have w:n=(g'.1,d):=by rw[x] at R; exact Option.some.inj R
  by_cases a:n.1=g.1
  ·obtain⟨I,J⟩:=aew h O z (by rw[w] at a; exact a);subst J;have H:V=i:=I;rw[H] at T O;rw[Ï (by simp[ine,a]),Ç x]
   have y:n.2=d:=by rw[w]
   rw[y]
   cases j with
   |zero =>
    have q:d=g'.2.1:=by rw[s] at h2; simpa using h2.symm
    have p:k=off b i:=by omega
    rw[Ù (by simp[ieq,q])];obtain⟨m,l⟩:=ZC (b:=b) (i:=i) (g:=g');rw[<-p] at m l;rw[Í f (by omega),ä (by omega) (by omega),Í f (by omega),ä (by omega) (by omega),ä (by omega) (by omega),Ë (by simp only[dw,dz,dI]; omega),Am.iff_true,Ë (by simp only[dw,dz,dI]; omega),Am.iff_true,Í f (by omega),m,l]
    have P:0-g'.2.2.1-g'.2.2.2.1.1 = -(g'.2.2.1+g'.2.2.2.1.1):=by omega
    rw[P];simp only[dH]
   |succ j =>
    have G:=(dC.1 h2).1
    have q:d≠g'.2.1:=by
     have u:=Qi b g';rw[s] at h2 u;rw[gR] at h2;have:=(dU.1 u).1 d (dJ h2);omega
    rw[Ï (by simpa[ieq] using q)]
    have e:(ĉ b g')[j]?=some ((ĉ b g')[j]?.getD 0):=by rw[dv (by omega)]; rfl
    have N:d=(ĉ b g')[j+1]?.getD 0:=by rw[h2]; rfl
    have D:=Vv O e;have Y:=h.day c (dJ e);have d2:=h.day c (dJ h2);have p:k=off b i+(j+1):=T;obtain⟨m,l⟩:=abD (b:=b) (i:=i) (g:=g') G;rw[<-p] at m l
    have F:((k:Int)-1)=((off b i+j:Nat):Int):=by omega
    have lb:=DX h c (t:=d) Y.2.1;rw[Qm (by omega) (by omega),F,Ç D,Ç x,y]
    try dsimp only
    rw[show uN ((b.1.1,b.1.2),b.2.1,b.2.2.1,b.2.2.2.1,b.2.2.2.2.1,b.2.2.2.2.2) g'.1 ((ĉ b g')[j]?.getD 0) d=uN b g'.1 ((ĉ b g')[j]?.getD 0) d from rfl,amk h (PR h.ids c) ⟨by omega,by omega⟩ (by omega),Á,Í f (by omega),Í f (by omega),Ë (by simp only[dw,dz,dI]; omega),Am.iff_true,Ë (by simp only[dw,dz,dI]; omega),Am.iff_true,Í f (by omega),m,l,<-N]
    have P:(off b i:Int)+1+(j:Int)=(k:Int):=by omega
    rw[P];simp only[dH]
  ·rw[Ù (by simp[ine,a]),Í f (by omega)]
   have v:k<off b i\/off b i+(ĉ b g).length<=k:=by
    rcases dV k (off b i) with E|X
    ·exact .inl E
    ·rcases dV k (off b i+(ĉ b g).length) with hlt2|hge2
     ·have:=Vv z (k:=k-off b i) (dv (by omega));rw[show off b i+(k-off b i)=k by omega,x] at this;exact absurd (by rw[Option.some.inj this]) a
     ·exact .inr hge2
   obtain⟨m,l⟩:=ZB v W;rw[m,l]
 ·try dsimp only
  unfold qj;rw[ß];obtain⟨m,l⟩:=afw h z;rw[m,l]
end
def ZG {α β:Type} {e:Nat->α->rF β}:∀{l:rT α} {k i:Nat} {a:α} {b:β},(∀j c,j<i->l[j]?=some c->e (k+j) c=none)->l[i]?=some a->e (k+i) a=some b->Ć e k l=some b
 |[],_,_,_,_,_,ha,_=>by simp at ha
 |c::t,k,0,a,b,_,ha,hb=>by
  simp only[List.getElem?_cons_zero,Option.some.injEq] at ha;subst ha;unfold Ć;rw[Nat.add_zero] at hb;rw[hb]
 |c::t,k,i+1,a,b,h,ha,hb=>by
  unfold Ć;have h0:=h 0 c (by omega) rfl;rw[Nat.add_zero] at h0;rw[h0];refine ZG (i:=i) (fun j d f hd=>?_) (by simpa using ha) (by rw[<-hb]; congr 1; omega);have:=h (j+1) d (by omega) (by simpa using hd);rw[<-this];congr 1;omega
def DY {ρ α β:Type} (l:rT α) (e:Nat->α->rF β) (r:β->rF ρ) (k1:rF ρ) {f:Int->(Int->rF ρ)->rF ρ}
 (h:∀(i:Nat) (a:α),i<l.length->l[i]?=some a->∀m,f i m=match e i a with|some b=>r b|none=>m ((i:Int)+1))
 (t:(∀j a,l[j]?=some a->e j a=none)->∀m,f l.length m=k1):Ê f 0=match Ć e 0 l with|some b=>r b|none=>k1:=by
 refine ķ (fun x:Int=>∃i:Nat,i<=l.length/\x=i/\∀j a,j<i->l[j]?=some a->e j a=none) (fun x=>l.length-x.toNat) ?_ ⟨0,by omega,rfl,fun j a q=>by omega⟩;rintro x ⟨i,hi,rfl,p⟩;rcases dV i l.length with g|u
 ·have ha:l[i]?=some l[i]:=dv g
  cases o:e i l[i] with
  |some b =>
   refine .inl fun m=>?_;rw[h i _ g ha,o,ZG (k:=0) (b:=b) (fun j c q o=>by rw[dW]; exact p j c q o) ha (by rw[dW]; exact o)]
  |none =>
   refine .inr ⟨((i+1:Nat):Int),⟨i+1,g,rfl,fun j a q d=>?_⟩,by simp only[dL]; omega,fun m=>?_⟩
   ·rcases dV j i with s|s
    ·exact p j a s d
    ·have:j=i:=by omega
     subst this;rw[ha] at d;rw[<-Option.some.inj d]; exact o
   ·rw[h i _ g ha,o];simp
 ·have:i=l.length:=by omega
  subst this;refine .inl fun m=>?_;have n:∀j a,l[j]?=some a->e j a=none:=fun j a d=>p j a (dC.1 d).1 d;rw[t n m,Ľ.2 fun j a d=>by rw[dW]; exact n j a d]
def ZW {e:Int}:Sz e=none↔e=0:=by
 unfold Sz
 split<;>simp_all
section
variable {b:æ}
def Up (h:jt b):∀i,((b.2.1.take i).flatMap (ũ b)).length<=1440/\(((b.2.1.take i).mapIdx (ō b)).flatten).length<=1440:=by
 have f:=h.nG
 have gl:∀g∈b.2.1,(ũ b g).length<=120/\∀i,(ō b i g).length<=120:=by
  intro g c;have:=adV h c;constructor
  ·unfold ũ;rw[List.length_append,pH _ _ (fun _=>rfl)];simp only[List.length_cons,List.length_nil]; omega
  ·intro i;unfold ō;rw[List.length_append,pH _ _ (fun _=>rfl)];simp only[List.length_cons,List.length_nil]; omega
 have a:∀i,i<=b.2.1.length->((b.2.1.take i).flatMap (ũ b)).length<=i*120/\(((b.2.1.take i).mapIdx (ō b)).flatten).length<=i*120:=by
  intro i
  induction i with
  |zero=>intro _; simp
  |succ i d =>
   intro hi;have d:=d (by omega);have c:b.2.1[i]?=some b.2.1[i]:=dv hi;have h2:=gl _ (dJ c);have j:=h2.2 i;rw[vk _ c,take_succ c,fF,List.flatten_append,dw,dw];simp only[dR,gX,dO,List.flatten_cons,List.flatten_nil];omega
 intro i;rcases dV b.2.1.length i with e|e
 ·rw[eh (by omega)];have:=a b.2.1.length (du _);rw[gz] at this;omega
 ·have:=a i e;omega
set_option maxHeartbeats 1000000 in
def an8 (h:jt b):AI b=some (aie b,akx b):=by
 have o:=h.nC;have n:=h.nG;unfold AI ada;rw[QO h.pre,Á];refine ŋ b.2.1 (fun i=>((b.2.1.take i).flatMap (ũ b),((b.2.1.take i).mapIdx (ō b)).flatten)) _ rfl (fun i g hi e j=>?_) (fun j=>?_)
 ·try dsimp only
  unfold vv;have d:=Up h i;rw[Ñ hi,Ç e];refine Eq.trans (agx h e (by omega) (by omega) _) ?_;rw[Í hi (by omega),vk _ e,take_succ e,List.flatMap_append,List.flatten_append];simp only[List.flatMap_cons,List.flatMap_nil,List.append_nil,List.flatten_cons,List.flatten_nil]
 ·try dsimp only
  unfold vv;rw[ß,List.take_length];dsimp only;have d:=Up h b.2.1.length;rw[List.take_length] at d;refine ŋ b.2.2.2.2.1 (fun i=>(b.2.1.flatMap (ũ b)++(b.2.2.2.2.1.take i).flatMap (kR b),(b.2.1.mapIdx (ō b)).flatten++((b.2.2.2.2.1.take i).mapIdx fun i _=>[((3:Int),(i:Int)),((3:Int),(i:Int))]).flatten)) _ (by simp) (fun i c hi f j=>?_) (fun j=>?_)
  ·try dsimp only
   unfold vu;have a:=List.mem_of_getElem? f;have k:=(lm c).1 (h.nums a);have ha:=Ŭ k.2.2.2.2.2.1;have hb:=Ŭ k.2.2.2.2.2.2;have l:=agb (b:=b) i (by omega);have m:=aaQ h a;rw[Ñ hi,Ç f,I7 (by omega) (by omega),Á];rw[show jo ((b.1.1,b.1.2),b.2.1,b.2.2.1,b.2.2.2.1,b.2.2.2.2.1,b.2.2.2.2.2) (Kq c.2.2.1 c.2.2.2.1,c.2.1)=jo b (Kq c.2.2.1 c.2.2.2.1,c.2.1) from rfl,aas h.pre,Á,I7 (by omega) (by omega),Á];rw[show jo ((b.1.1,b.1.2),b.2.1,b.2.2.1,b.2.2.2.1,b.2.2.2.2.1,b.2.2.2.2.2) (Kq c.2.2.2.1 c.2.2.1,c.2.1)=jo b (Kq c.2.2.2.1 c.2.2.1,c.2.1) from rfl,aas h.pre,Á];rw[show uM ((b.1.1,b.1.2),b.2.1,b.2.2.1,b.2.2.2.1,b.2.2.2.2.1,b.2.2.2.2.2) c=uM b c from rfl,ami h.size h.film (h.cmpIn a),Á];rw[ä (by omega) (by omega),Ë (by simp only[List.length_append,List.length_cons,List.length_nil]; omega),Am.iff_true,Ë (by simp only[List.length_append,List.length_cons,List.length_nil]; omega),Am.iff_true,Í hi (by omega)];rw[vk _ f,take_succ f,List.flatMap_append,List.flatten_append,aiv h.pre,aiv h.pre];simp only[List.flatMap_cons,List.flatMap_nil,List.append_nil,List.flatten_cons,List.flatten_nil,List.append_assoc];rw[Int.zero_sub];rfl
  ·try dsimp only
   unfold vu;rw[ß,List.take_length];rfl
def kg (b:æ) (i:Nat) (c:Cmp):Int:=if !Di c then 1 else if (b.2.2.2.2.1.take i).any (fun x=>x.1==c.1) then 6 else Bt b c
def UH (hi:b.2.1.Pairwise fun a b=>a.1<b.1) (i:Nat) (c:Cmp):kg b i c=jp b (ū b) i c:=by
 unfold kg jp;rw[akK hi]
def amP (b:æ):Int:=match (b.2.2.2.2.1.mapIdx (kg b)).find? (fun e=>e != 0) with
 |some e=>e
 |none=>match (b.2.2.2.2.2.map (Xc b)).find? (fun e=>e != 0) with
  |some e=>e
  |none=>if 59<(Ă b).length then 2 else if 300<2*b.2.1.length+2*((Ă b).length-b.2.1.length:Int)+2*b.2.2.2.2.1.length then 2 else 0
def aiH {α:Type} {l:rT α} {E:α->Int} (h:(l.map E).find? (fun e=>e != 0)=none):∀a∈l,E a=0:=by
 intro a ha;have:=fc.1 h (E a) (eN.2 ⟨a,ha,rfl⟩);simpa using this
def afz {α:Type} {l:rT α} {E:Nat->α->Int} (h:(l.mapIdx E).find? (fun e=>e != 0)=none):∀i a,l[i]?=some a->E i a=0:=by
 intro i a ha;obtain⟨hi,rfl⟩:=dC.1 ha;have:=fc.1 h (E i l[i]) (gG.2 ⟨i,hi,rfl⟩);simpa using this
def Hr {i:Nat} {c:Cmp} (h:kg b i c=0):Di c=true/\(í c.2.2.1 c.2.2.2.1).length<=1/\(í c.2.2.2.1 c.2.2.1).length<=1:=by
 unfold kg at h
 split at h
 ·omega
 rename_i a
 split at h
 ·omega
 unfold Bt at h
 (repeat' split at h)<;>first|omega|exact⟨by simpa using a,by omega,by omega⟩
set_option maxHeartbeats 4000000 in
def amO (J:agh b) (r:0<=b.1.1/\b.1.1<=b.1.2/\b.1.2<=1000000) (nG:b.2.1.length<=12) (nU:b.2.2.1.length<=40) (nL:b.2.2.2.1.length<=12) (nC:b.2.2.2.2.1.length<=40) (nK:b.2.2.2.2.2.length<=10)
 (S:∀g∈b.2.1,nP g=true) (hi:b.2.1.Pairwise fun a b=>a.1<b.1) (U:∀u∈b.2.2.1,Xc b u=0) (X:∀i l,b.2.2.2.1[i]?=some l->Sy b i l=0) :
 Ê (fun(C:Int) s=>jj b.1.1 b.1.2 b.2.1 b.2.2.1 b.2.2.2.1 b.2.2.2.2.1 b.2.2.2.2.2 C (fun E=>s E) (fun B=>some B) (fun _=>Ê (fun(D:Int) t=>ji b.1.1 b.1.2 b.2.1 b.2.2.1 b.2.2.2.1 b.2.2.2.2.1 b.2.2.2.2.2 D (fun F=>t F) (fun A=>some A) (fun _=>Â (kQ b) fun H=>ifb (igt (Ó H) (59:Int)) (some (2:Int)) (Â (AI b) fun G=>ifb (igt (Ó G.1) (300:Int)) (some (2:Int)) (some (0:Int))))) (0:Int))) (0:Int)=some (amP b):=by
 unfold amP
 refine fg (DY b.2.2.2.2.1 (fun i c=>Sz (kg b i c)) some (some (match (b.2.2.2.2.2.map (Xc b)).find? (fun e=>e != 0) with
  |some e=>e
  |none=>if 59<(Ă b).length then 2 else if 300<2*b.2.1.length+2*((Ă b).length-b.2.1.length:Int)+2*b.2.2.2.2.1.length then 2 else 0)) (fun i c y k R=>?_) (fun P R=>?_)) ?_
 ·try dsimp only
  unfold jj;have Y:=J c (List.mem_of_getElem? k);rw[Ñ y,Ç k,ajV (by omega) (by omega),Á];unfold kg Sz
  cases K:Di c with
  |false=>rfl
  |true =>
   have V:=MV K;rw[Ï (by rfl)]
   have v:(b.2.2.2.2.1.take i).length=i:=by rw[dK]; omega
   refine fg (ġ (b.2.2.2.2.1.take i) (fun x=>x.1==c.1) (fun _=>some 6) (some 6) (if Bt b c=0 then R ((i:Int)+1) else some (Bt b c)) (fun _=>rfl) (fun j a m ha p=>?_) (fun p=>?_)) ?_
   ·try dsimp only
    unfold oS;rw[v] at m
    have Q:b.2.2.2.2.1[j]?=some a:=by rwa [gJ m] at ha
    rw[Ù (show ilt (j:Int) (i:Int)=true by simp[ilt]; omega),Ç Q,Ç k,Í m (by omega),ĕ]
   ·try dsimp only
    unfold oS;rw[v,Ï (show ilt (i:Int) (i:Int)=false by simp[ilt])];dsimp only;rw[Ç k,show jn ((b.1.1,b.1.2),b.2.1,b.2.2.1,b.2.2.2.1,b.2.2.2.2.1,b.2.2.2.2.2) c=jn b c from rfl,aar (by omega) (by omega) (by omega) (by omega),Á,Í y (by omega)]
    by_cases d:Bt b c=0
    ·rw[Ï (by simp[ine,d]),if_pos d]
    ·rw[Ù (by simp[ine,d]),if_neg d]
   ·cases T:(b.2.2.2.2.1.take i).any (fun x=>x.1==c.1) with
    |true=>simp
    |false =>
     by_cases d:Bt b c=0
     ·simp[d]
     ·simp[d]
 ·try dsimp only
  unfold jj;rw[ß];dsimp only;have h:∀i c,b.2.2.2.2.1[i]?=some c->kg b i c=0:=fun i c k=>ZW.1 (P i c k);refine Eq.trans (DY b.2.2.2.2.2 (fun _ u=>Sz (Xc b u)) some (some (if 59<(Ă b).length then 2 else if 300<2*b.2.1.length+2*((Ă b).length-b.2.1.length:Int)+2*b.2.2.2.2.1.length then 2 else 0)) (fun i a w ha p=>?_) (fun L p=>?_)) ?_
  ·try dsimp only
   unfold ji;rw[Ñ w,Ç ha,W5,Á];unfold Xc Sz
   cases IW a.2 with
   |false=>rfl
   |true =>
    rw[Ï (by rfl),Ç ha,Ç ha,zW (b:=((b.1.1,b.1.2),b.2.1,b.2.2.1,b.2.2.2.1,b.2.2.2.2.1,b.2.2.2.2.2)) (by simp only; omega),Á,Í w (by omega)];have e:ĭ ((b.1.1,b.1.2),b.2.1,b.2.2.1,b.2.2.2.1,b.2.2.2.2.1,b.2.2.2.2.2) a.1 a.2=ĭ b a.1 a.2:=rfl;rw[e]
    by_cases d:ĭ b a.1 a.2=0
    ·rw[Ï (by simp[ine,d])]; simp[d]
    ·rw[Ù (by simp[ine,d])]; simp[d]
  ·try dsimp only
   unfold ji;rw[ß];dsimp only
   have o:∀u∈b.2.2.2.2.2,Xc b u=0:=fun u f=>by
    obtain⟨j,m,rfl⟩:=dQ.1 f;exact ZW.1 (L j _ (dv m))
   have J:ζ b:=⟨by omega,by omega,by omega,by omega,by omega,fun c k=>by
    obtain⟨j,m,rfl⟩:=dQ.1 k;have:=MV (Hr (h j _ (dv m))).1
    omega⟩
   have I:Pre b:=⟨J,S,fun c k=>by
    obtain⟨j,m,rfl⟩:=dQ.1 k;have q:=Hr (h j _ (dv m))
    exact⟨Yk q.1,q.2⟩,fun n W=>by
    have:=o n W;unfold Xc at this
    split at this
    ·omega
    ·rename_i hd; simpa using hd⟩
   rw[QO I,Á,â]
   by_cases z:59<(Ă b).length
   ·rw[Ù (by simp[igt]; omega),if_pos z]
   ·rw[Ï (by simp[igt]; omega),if_neg z];have good:jt b:=⟨r,nG,nU,nL,nC,nK,S,hi,fun u f=>by rw[<-acl hi]; exact U u f,fun i l N=>by rw[<-ah7 hi]; exact X i l N,fun i c O=>by rw[<-UH hi]; exact h i c O,fun u f=>by rw[<-acl hi]; exact o u f,by omega,by omega⟩;have M:=aid good;rw[an8 good,Á,â];dsimp only;rw[M,Ï (by simp[igt]; omega),if_neg (by omega)]
  ·rw[P3]
   cases(b.2.2.2.2.2.map (Xc b)).find? (fun e=>e != 0)<;>rfl
 ·rw[P2 (kg b)]
  cases(b.2.2.2.2.1.mapIdx (kg b)).find? (fun e=>e != 0)<;>rfl
end
def Ww {l m:rT Int}:(l++m).find? (fun e=>e != 0)=match l.find? (fun e=>e != 0) with|some e=>some e|none=>m.find? (fun e=>e != 0):=by
 rw[List.find?_append]
 cases l.find? (fun e=>e != 0)<;>rfl
set_option maxHeartbeats 4000000 in
def UZ {b:æ} (C:agh b):iF b=some (š b):=by
 unfold iF Ig š;rw[we,Á]
 cases k:jP b.1 0 1000000 with
 |false=>rfl
 |true =>
 have d:0<=b.1.1/\b.1.1<=b.1.2/\b.1.2<=1000000:=by
  simp only[jP,dt,decide_eq_true_eq] at k;exact k
 rw[Ï (show(!true)=false from rfl),if_neg (by simp)];rw[â b.2.1,â b.2.2.1,â b.2.2.2.1,â b.2.2.2.2.1,â b.2.2.2.2.2]
 by_cases z:12<b.2.1.length
 ·rw[Ù (by simp[igt]; omega),if_pos z]
 rw[Ï (by simp[igt]; omega),if_neg z]
 by_cases y:40<b.2.2.1.length
 ·rw[Ù (by simp[igt]; omega),if_pos y]
 rw[Ï (by simp[igt]; omega),if_neg y]
 by_cases x:12<b.2.2.2.1.length
 ·rw[Ù (by simp[igt]; omega),if_pos x]
 rw[Ï (by simp[igt]; omega),if_neg x]
 by_cases w:40<b.2.2.2.2.1.length
 ·rw[Ù (by simp[igt]; omega),if_pos w]
 rw[Ï (by simp[igt]; omega),if_neg w]
 by_cases v:10<b.2.2.2.2.2.length
 ·rw[Ù (by simp[igt]; omega),if_pos v]
 rw[Ï (by simp[igt]; omega),if_neg v]
 refine fg (DY b.2.1 (ox b.2.1) some (some (match (wi b (ū b)).find? (fun e=>e != 0) with
  |some e=>e
  |none=>if 59<(Ă b).length then 2 else if 300<2*b.2.1.length+2*((Ă b).length-b.2.1.length:Int)+2*b.2.2.2.2.1.length then 2 else 0)) (fun i g hi n A=>?_) (fun B A=>?_)) ?_
 ·try dsimp only
  unfold oT;rw[Ñ hi,Ç n,ajY,Á];unfold ox
  cases nP g with
  |false=>rfl
  |true =>
   rw[Ï (by rfl)];rcases fV i with h0|h0
   ·subst h0
    have:igt ((0:Nat):Int) 0=false:=by simp[igt]
    rw[Ï this,Í hi (by omega)];simp[ku]
   ·obtain⟨q,t⟩:=tc hi h0
    have s:igt (i:Int) 0=true:=by simp[igt]; omega
    rw[Ù s,Ç n,Qm h0 (by omega),GR h0 t];simp only[ku,h0,decide_true,Bool.true_and,t,Option.any_some];unfold ile
    cases h2:decide (g.1<=q.1) with
    |true=>simp
    |false=>rw[Ř,Í hi (by omega)]; simp
 ·try dsimp only
  unfold oT;rw[ß];dsimp only
  have p:iT b=0:=by
   unfold iT;rw[Ľ.2 fun j a ha=>by rw[Nat.zero_add]; exact B j a ha];rfl
  obtain⟨n,hi⟩:=(vF b).1 p;have F:b.2.2.1.map (Xc b)=b.2.2.1.map fun u=>aen (ū b) u.1 u.2:=List.map_congr_left fun u _=>acl hi u;have G:b.2.2.2.1.mapIdx (Sy b)=b.2.2.2.1.mapIdx fun i l=>PF b (ū b) i l:=List.mapIdx_eq_mapIdx_iff.2 fun i J=>ah7 hi i _;have I:b.2.2.2.2.1.mapIdx (kg b)=b.2.2.2.2.1.mapIdx fun i c=>jp b (ū b) i c:=List.mapIdx_eq_mapIdx_iff.2 fun i K=>UH hi i _;have H:b.2.2.2.2.2.map (Xc b)=b.2.2.2.2.2.map fun u=>aen (ū b) u.1 u.2:=List.map_congr_left fun u _=>acl hi u;unfold wi;rw[<-F,<-G,<-I,<-H,Ww,Ww,Ww,amc (by omega) (by omega),Á]
  cases h:(b.2.2.1.map (Xc b)).find? (fun e=>e != 0) with
  |some e =>
   have f:e≠0:=by have:=gH h; simpa using this
   simp only[gZ];rw[Ï (by simpa[ieq] using f),Ù (by simpa[ine] using f)]
  |none =>
   simp only[Option.getD_none];rw[Ù (by rfl),ajX (by omega) (by omega) (by omega),Á]
   cases m:(b.2.2.2.1.mapIdx (Sy b)).find? (fun e=>e != 0) with
   |some e =>
    have f:e≠0:=by have:=gH m; simpa using this
    simp only[gZ];rw[Ù (by simpa[ine] using f)]
   |none =>
    simp only[Option.getD_none];rw[Ï (by rfl)];refine Eq.trans (amO C d (by omega) (by omega) (by omega) (by omega) (by omega) n hi (aiH h) (afz m)) ?_;unfold amP
    cases(b.2.2.2.2.1.mapIdx (kg b)).find? (fun e=>e != 0)<;>rfl
 ·unfold iT
  cases r:Ć (ox b.2.1) 0 b.2.1 with
  |none =>
   simp<;>cases(wi b (ū b)).find? (fun e=>e != 0)<;>rfl
  |some e =>
   have f:iT b=e:=by unfold iT; rw[r]; rfl
   have o:e≠0:=by
    intro h0;rw[h0] at f;obtain⟨s,h2⟩:=(vF b).1 f
    have E:∀j a,b.2.1[j]?=some a->ox b.2.1 j a=none:=by
     intro j a ha;have D:=(Ml (fun g:ë=>g.1) b.2.1).2 h2 j a ha;simp[ox,s a (dJ ha),D]
    rw[Ľ.2 fun j a ha=>by rw[dW]; exact E j a ha] at r;cases r
   simp[o]
def aj6 {b:æ} (a:ζ b):iF b=some (š b):=UZ a.w
section
variable {ρ:Type}
def afh {α σ:Type} (l:rT α) (g:σ->α->σ) (I:Nat->σ->Prop) {K:σ->rF ρ} {f:Int×σ->(Int×σ->rF ρ)->rF ρ} {s0:σ} (h0:I 0 s0)
 (h:∀(i:Nat) (a:α) (s:σ),i<l.length->l[i]?=some a->I i s->I (i+1) (g s a)/\∀c,f ((i:Int),s) c=c ((i:Int)+1,g s a)) (j:∀s c,I l.length s->f ((l.length:Int),s) c=K s):Ê f (0,s0)=K (l.foldl g s0):=by
 refine ķ (fun x=>∃(i:Nat) (s:σ),x=((i:Int),s)/\i<=l.length/\I i s/\(l.drop i).foldl g s=l.foldl g s0) (fun x=>l.length-x.1.toNat) ?_ ⟨0,s0,rfl,dX _,h0,rfl⟩;rintro x ⟨i,s,rfl,hi,hI,e⟩
 by_cases d:i<l.length
 ·obtain⟨k,h2⟩:=h i l[i] s d (dv d) hI;refine .inr ⟨((i:Int)+1,g s l[i]),⟨i+1,_,rfl,d,k,?_⟩,by simp; omega,h2⟩;rw[<-e,eR d,ee]
 ·obtain rfl:i=l.length:=by omega
  rw[gW,gQ] at e;rw[<-e];exact .inl fun c=>j s c hI
def uA {α σ:Type} (l:rT α) (g:σ->α->σ) (I:Nat->σ->Prop) {K:σ->rF ρ} {f:σ×Int->(σ×Int->rF ρ)->rF ρ} {s0:σ} (h0:I 0 s0)
 (h:∀(i:Nat) (a:α) (s:σ),i<l.length->l[i]?=some a->I i s->I (i+1) (g s a)/\∀c,f (s,(i:Int)) c=c (g s a,(i:Int)+1)) (j:∀s c,I l.length s->f (s,(l.length:Int)) c=K s):Ê f (s0,0)=K (l.foldl g s0):=by
 refine ķ (fun x=>∃(i:Nat) (s:σ),x=(s,(i:Int))/\i<=l.length/\I i s/\(l.drop i).foldl g s=l.foldl g s0) (fun x=>l.length-x.2.toNat) ?_ ⟨0,s0,rfl,dX _,h0,rfl⟩;rintro x ⟨i,s,rfl,hi,hI,e⟩
 by_cases d:i<l.length
 ·obtain⟨k,h2⟩:=h i l[i] s d (dv d) hI;refine .inr ⟨(g s l[i],(i:Int)+1),⟨i+1,_,rfl,d,k,?_⟩,by simp; omega,h2⟩;rw[<-e,eR d,ee]
 ·obtain rfl:i=l.length:=by omega
  rw[gW,gQ] at e;rw[<-e];exact .inl fun c=>j s c hI
def qn {α β:Type} (l:rT α) (g:α->β) {K:rT β->rF ρ} {f:Int×rT β->(Int×rT β->rF ρ)->rF ρ} {out:rT β} (j:out.length+l.length<=1000000)
 (h:∀(i:Nat) (a:α) (s:rT β),i<l.length->l[i]?=some a->s.length<1000000->∀c,f ((i:Int),s) c=c ((i:Int)+1,s++[g a])) (d:∀s c,f ((l.length:Int),s) c=K s):Ê f (0,out)=K (out++l.map g):=by
 have:=afh l (fun s a=>s++[g a]) (fun i s=>s.length=out.length+i) (K:=K) (f:=f) (s0:=out) rfl (fun i a s hi ha k=>⟨by simp; omega,h i a s hi ha (by omega)⟩) (fun s c _=>d s c);rw[this];congr 1;clear this d h j
 induction l generalizing out with
 |nil=>simp
 |cons a l e=>rw[ee,e]; simp
def qm {α:Type} (l:rT α) (g:α->BL) {K:ByteArray->rF ρ} {f:ByteArray×Int->(ByteArray×Int->rF ρ)->rF ρ} {out:BL} (o:l.length<=1000000) (e:∀a∈l,(g a).length<=1000) (m:out.length<=1000000000)
 (h:∀(i:Nat) (a:α) (s:BL),i<l.length->l[i]?=some a->s.length<=2000000000->∀c,f (ofL s,(i:Int)) c=c (ofL (s++g a),(i:Int)+1)) (d:∀s c,f (s,(l.length:Int)) c=K s):Ê f (ofL out,0)=K (ofL (out++l.flatMap g)):=by
 have:=uA l (fun s a=>ofL (toL s++g a)) (fun i s=>(toL s).length<=out.length+1000*i) (K:=K) (f:=f) (s0:=ofL out) (by simp) (fun i a s hi ha k=>?_) (fun s c _=>d s c)
 ·rw[this];congr 1;clear this d h o e m
  induction l generalizing out with
  |nil=>simp
  |cons a l j=>rw[ee,j]; simp
 ·have n:=e a (dJ ha);refine⟨by simp at k ⊢; omega,fun c=>?_⟩;have:=h i a (toL s) hi ha (by omega) c
  rwa [nZ] at this
end
abbrev iM (ns:rT Int):rT BL:=ns.map Lib.itoa
abbrev Bi (w:BL) (ws:rT BL):BL:=w++spL 32 ws
def akw (c:UInt8) (w:BL) (ws:rT BL):spL c (w::ws)=c::w++spL c ws:=by simp[spL]
def L3 {ns:rT Int} (a:∀n∈ns,I64 n):(spL 32 (iM ns)).length<=21*ns.length:=by
 induction ns with
 |nil=>simp[spL]
 |cons n ns c =>
  have f:=iD (a n (by simp));have h2:=c fun x d=>a x (by simp[d]);have e:spL 32 (iM (n::ns))=32::Lib.itoa n++spL 32 (iM ns):=akw _ _ _;rw[e];simp only[dw,dz]; omega
def Ur (ns:rT Int):∀w:BL,ns.foldl (fun s n=>ofL (toL s++32::Lib.itoa n)) (ofL w)=ofL (Bi w (iM ns)):=by
 induction ns with
 |nil=>intro w; simp[spL]
 |cons n ns a =>
  intro w;rw[ee,a];simp[spL]
def zB {w:BL} {ns:rT Int} (f:w.length<=1000) (j:ns.length<=1000) (g:∀n∈ns,I64 n):lZ (ofL w) ns=some (ofL (Bi w (iM ns))):=by
 unfold lZ adp;rw[uA ns (fun s n=>ofL (toL s++32::Lib.itoa n)) (fun i s=>s.size<=1000+21*i) (K:=some) (by rw[Ì]; exact f) (fun i n s hi ha a=>?_) (fun s d _=>?_),Ur]
 ·have c:=g n (List.mem_of_getElem? ha);have h:=iD c;refine⟨by rw[Ì]; rw[qS] at a; simp at a ⊢; omega,fun d=>?_⟩;unfold vz;rw[Ñ hi,Ç ha,acj c,Á,show ByteArray.mk #[32]=ofL [32] from rfl,Ë (by simp only[Ì,List.length_append,List.length_cons,List.length_nil]; omega),Am.iff_true,è,Ë (by simp only[Ì,List.length_append,List.length_cons,List.length_nil]; omega),Am.iff_true,ä (by omega) (by omega)]
  have e:s++ofL ([32]++Lib.itoa n)=ofL (toL s++32::Lib.itoa n):=by rw[<-nZ s,è]; rfl
  rw[e]
 ·unfold vz;rw[ß]
def Hz {w:BL} {ns:rT Int} (f:w.length<=1000) (j:ns.length<=1000) (g:∀n∈ns,I64 n):iy (ofL w) ns=some (ofL (Bi w (iM ns))):=by
 unfold iy YL;rw[uA ns (fun s n=>ofL (toL s++32::Lib.itoa n)) (fun i s=>s.size<=1000+21*i) (K:=some) (by rw[Ì]; exact f) (fun i n s hi ha a=>?_) (fun s d _=>?_),Ur]
 ·have c:=g n (List.mem_of_getElem? ha);have h:=iD c;refine⟨by rw[Ì]; rw[qS] at a; simp at a ⊢; omega,fun d=>?_⟩;unfold rE;rw[Ñ hi,show ByteArray.mk #[32]=ofL [32] from rfl,Ë (by simp only[Ì,List.length_append,List.length_cons,List.length_nil]; omega),Am.iff_true,Ç ha,Eg c,Á]
  have e:s++ofL [32]=ofL (toL s++[32]):=by rw[<-nZ s,è]
  rw[e,Ë (by rw[qS] at a; simp only[Ì,dw,dz,dI]; omega),Am.iff_true,ä (by omega) (by omega),è];congr 2;simp
 ·unfold rE;rw[ß]
abbrev adB (g:ë):rT Int:=[g.1,g.2.1,g.2.2.1,g.2.2.2.1.1,g.2.2.2.1.2,g.2.2.2.2.1.1,g.2.2.2.2.1.2,g.2.2.2.2.2]
abbrev anz (l:HE):rT Int:=[l.1,l.2.1.1,l.2.1.2,l.2.2]
abbrev cmpN (c:Cmp):rT Int:=[c.1,c.2.1,c.2.2.2.2.1,c.2.2.2.2.2.1,c.2.2.2.2.2.2.1,c.2.2.2.2.2.2.2]
def afC (s:Int×Int):BL×rT BL:=([102,105,108,109],iM [s.1,s.2])
def GU (g:ë):BL×rT BL:=([103,97,117,103,101],iM (adB g))
def akp (u:Int×Int):BL×rT BL:=([117,115,101],iM [u.1,u.2])
def Wg (l:HE):BL×rT BL:=([108,111,97,110],iM (anz l))
def agl (c:Cmp):BL×rT BL:=([99,111,109,112,97,114,101],iM (cmpN c)++([97]::iM c.2.2.1++[98]::iM c.2.2.2.1))
def Wf (u:Int×Int):BL×rT BL:=([108,111,111,107],iM [u.1,u.2])
def ś (b:æ):rT (BL×rT BL):=afC b.1::(b.2.1.map GU++(b.2.2.1.map akp++(b.2.2.2.1.map Wg++(b.2.2.2.2.1.map agl++b.2.2.2.2.2.map Wf))))
abbrev ħ (p:BL×rT BL):BL:=Bi p.1 p.2
def Ţ (b:æ):BL:=(ś b).flatMap fun p=>ħ p++[10]
structure om (I64:Int->Prop) (b:æ):Prop where
 film:I64 b.1.1/\I64 b.1.2
 gauges:∀g∈b.2.1,∀n∈adB g,I64 n
 uses:∀u∈b.2.2.1,I64 u.1/\I64 u.2
 loans:∀l∈b.2.2.2.1,∀n∈anz l,I64 n
 cmps:∀c∈b.2.2.2.2.1,(∀n∈cmpN c,I64 n)/\(∀n∈c.2.2.1,I64 n)/\(∀n∈c.2.2.2.1,I64 n)/\c.2.2.1.length<=6/\c.2.2.2.1.length<=6
 looks:∀u∈b.2.2.2.2.2,I64 u.1/\I64 u.2
 nG:b.2.1.length<=12
 nU:b.2.2.1.length<=40
 nL:b.2.2.2.1.length<=12
 nC:b.2.2.2.2.1.length<=40
 nK:b.2.2.2.2.2.length<=10
abbrev aat:æ->Prop:=om I64
def om.mono {P Q:Int->Prop} (a:∀n,P n->Q n) {b:æ} (h:om P b):om Q b :=
 ⟨⟨a _ h.film.1,a _ h.film.2⟩,fun g j n d=>a _ (h.gauges g j n d),fun u e=>⟨a _ (h.uses u e).1,a _ (h.uses u e).2⟩,fun l i n d=>a _ (h.loans l i n d),fun c f=>⟨fun n d=>a _ ((h.cmps c f).1 n d),fun n d=>a _ ((h.cmps c f).2.1 n d),fun n d=>a _ ((h.cmps c f).2.2.1 n d),(h.cmps c f).2.2.2⟩,fun u e=>⟨a _ (h.looks u e).1,a _ (h.looks u e).2⟩,h.nG,h.nU,h.nL,h.nC,h.nK⟩
def sw {u:Int×Int} (h:I64 u.1/\I64 u.2):∀n∈[u.1,u.2],I64 n:=by
 intro n a;simp only[dE,fS,or_false] at a;rcases a with rfl|rfl
 ·exact h.1
 ·exact h.2
def WG {c:Cmp}:ħ (agl c)=(Bi [99,111,109,112,97,114,101] (iM (cmpN c))++Bi [32,97] (iM c.2.2.1))++Bi [32,98] (iM c.2.2.2.1):=by
 simp[ħ,agl,spL]
def afp (ps:rT BL) (p:BL):Lib.join (p::ps) [10]++[10]=(p::ps).flatMap fun l=>l++[10]:=by
 rw[Lib.join_cons]
 have:∀(ps:rT BL),Lib.joinTail [10] ps++[10]=[10]++ps.flatMap fun l=>l++[10]:=by
  intro ps
  induction ps with
  |nil=>simp[Lib.joinTail]
  |cons q ps a =>
   have e:Lib.joinTail [10] (q::ps)=10::q++Lib.joinTail [10] ps:=by simp[Lib.joinTail]
   rw[e,dH,a]; simp
 rw[dH,this]; simp
def Ł {w:BL} {ns:rT Int} (a:∀n∈ns,I64 n):(Bi w (iM ns)).length<=w.length+21*ns.length:=by
 have:=L3 a;rw[Bi,dw]; omega
def om.len {b:æ} (h:aat b):∀p∈ś b,(ħ p).length<=500:=by
 intro p d;unfold ś at d;simp only[List.mem_cons,List.mem_append,List.mem_map] at d;rcases d with rfl|⟨g,f,rfl⟩|⟨u,a,rfl⟩|⟨l,e,rfl⟩|⟨c,i,rfl⟩|⟨u,a,rfl⟩
 ·have:=Ł (w:=[102,105,108,109]) (sw h.film); simp[afC] at this ⊢; omega
 ·have:=Ł (w:=[103,97,117,103,101]) (h.gauges g f); simp[GU] at this ⊢; omega
 ·have:=Ł (w:=[117,115,101]) (sw (h.uses u a)); simp[akp] at this ⊢; omega
 ·have:=Ł (w:=[108,111,97,110]) (h.loans l e); simp[Wg] at this ⊢; omega
 ·obtain⟨k,h2,j,q,o⟩:=h.cmps c i;have n:=Ł (w:=[99,111,109,112,97,114,101]) k;have m:=Ł (w:=[32,97]) h2;have a3:=Ł (w:=[32,98]) j;rw[WG,dw,dw];simp only[dz,dI] at n m a3; omega
 ·have:=Ł (w:=[108,111,111,107]) (sw (h.looks u a)); simp[Wf] at this ⊢; omega
def om.count {P:Int->Prop} {b:æ} (h:om P b):(ś b).length<=115:=by
 have e:=h.nG; have h2:=h.nU; have d:=h.nL; have c:=h.nC; have a:=h.nK;unfold ś;simp; omega
def akI {b:æ} (h:aat b) (v:ē b=some 0):l6 b=some (ofL (Ţ b),0):=by
 have y:=h.nG; have h2:=h.nU; have F:=h.nL; have E:=h.nC; have D:=h.nK;unfold l6 GA;rw[v,Á,Ï (by simp[ine]),show ByteArray.mk #[102,105,108,109]=ofL [102,105,108,109] from rfl,zB (by simp) (by simp) (sw h.film),Á]
 rw[qn b.2.1 (fun g=>ofL (ħ (GU g))) (by simp; omega) (fun i g s hi a j d=>by
  unfold sg;dsimp only
  rw[Ñ hi,Ç a,show ByteArray.mk #[103,97,117,103,101]=ofL [103,97,117,103,101] from rfl,zB (by simp) (by simp) (h.gauges g (List.mem_of_getElem? a)),Á,Ë (by simp; omega),Am.iff_true,Í hi (by omega)]; rfl) (fun s d=>by unfold sg; rw[ß])]
 dsimp only
 rw[qn b.2.2.1 (fun u=>ofL (ħ (akp u))) (by simp; omega) (fun i g s hi a j d=>by
  unfold sf;dsimp only
  rw[Ñ hi,Ç a,show ByteArray.mk #[117,115,101]=ofL [117,115,101] from rfl,zB (by simp) (by simp) (sw (h.uses g (List.mem_of_getElem? a))),Á,Ë (by simp; omega),Am.iff_true,Í hi (by omega)]; rfl) (fun s d=>by unfold sf; rw[ß])]
 dsimp only
 rw[qn b.2.2.2.1 (fun u=>ofL (ħ (Wg u))) (by simp; omega) (fun i g s hi a j d=>by
  unfold se;dsimp only
  rw[Ñ hi,Ç a,show ByteArray.mk #[108,111,97,110]=ofL [108,111,97,110] from rfl,zB (by simp) (by simp) (h.loans g (List.mem_of_getElem? a)),Á,Ë (by simp; omega),Am.iff_true,Í hi (by omega)]; rfl) (fun s d=>by unfold se; rw[ß])]
 dsimp only
 rw[qn b.2.2.2.2.1 (fun u=>ofL (ħ (agl u))) (by simp; omega) (fun i c s hi a j d=>by
  obtain⟨n,m,l,C,B⟩:=h.cmps c (List.mem_of_getElem? a);have A:=Ł (w:=[99,111,109,112,97,114,101]) n;have z:=Ł (w:=[32,97]) m;have a3:=Ł (w:=[32,98]) l;simp only[List.length_cons,List.length_nil] at A z a3;unfold sd;dsimp only
  rw[Ñ hi,Ç a,show ByteArray.mk #[99,111,109,112,97,114,101]=ofL [99,111,109,112,97,114,101] from rfl,zB (by simp) (by simp) n,Á,show ByteArray.mk #[32,97]=ofL [32,97] from rfl,zB (by simp) (by omega) m,Á,Ì,Ì,Ë (by omega),Am.iff_true,
   show ByteArray.mk #[32,98]=ofL [32,98] from rfl,zB (by simp) (by omega) l,Á,è,Ì,Ì,Ë (by rw[List.length_append]; omega),Am.iff_true,è,Ë (by simp; omega),Am.iff_true,Í hi (by omega),WG]) (fun s d=>by unfold sd; rw[ß])]
 dsimp only
 rw[qn b.2.2.2.2.2 (fun u=>ofL (ħ (Wf u))) (by simp; omega) (fun i g s hi a j d=>by
  unfold sc;dsimp only
  rw[Ñ hi,Ç a,show ByteArray.mk #[108,111,111,107]=ofL [108,111,111,107] from rfl,zB (by simp) (by simp) (sw (h.looks g (List.mem_of_getElem? a))),Á,Ë (by simp; omega),Am.iff_true,Í hi (by omega)]; rfl) (fun s d=>by unfold sc; rw[ß])]
 dsimp only
 have e:[ofL (Bi [102,105,108,109] (iM [b.1.1,b.1.2]))]++b.2.1.map (fun g=>ofL (ħ (GU g)))++b.2.2.1.map (fun u=>ofL (ħ (akp u)))++b.2.2.2.1.map (fun u=>ofL (ħ (Wg u)))++b.2.2.2.2.1.map (fun u=>ofL (ħ (agl u)))++b.2.2.2.2.2.map (fun u=>ofL (ħ (Wf u)))=((ś b).map ħ).map ofL:=by
  unfold ś;simp only[List.map_cons,List.map_append,List.map_map,List.append_assoc];rfl
 have q:Lib.join ((ś b).map ħ) [10]++[10]=Ţ b:=by
  have:=afp ((ś b).tail.map ħ) (ħ (afC b.1));rw[show ħ (afC b.1)::(ś b).tail.map ħ=(ś b).map ħ from rfl] at this;rw[this];unfold Ţ;rw[List.flatMap_map]
 have o:(Ţ b).length<=115*501:=by
  unfold Ţ;refine Nat.le_trans ?_ (Nat.mul_le_mul_right 501 h.count);have k:=h.len;generalize ś b=L at k
  induction L with
  |nil=>simp
  |cons p L r =>
   have y:=k p (by simp);have h2:=r fun x t=>k x (by simp[t]);rw[dR,dw,dw,dz];simp only[dz,dI] at *;omega
 have f:=congrArg List.length q;rw[dw] at f;simp only[dz,dI] at f;rw[e,show ByteArray.mk #[10]=ofL [10] from rfl,aob _ _ (by have:=h.count; simp; omega) (by omega),Á,Ì,Ì,Ë (by simp only[dz,dI]; omega),Am.iff_true,è,q]
def om.part {b:æ} (h:aat b) {α:Type} (l:rT α) (F:α->BL×rT BL) (e:∀a∈l,F a∈ś b) (d:l.length<=40):(∀a∈l,(ħ (F a)++[10]).length<=1000)/\(l.flatMap fun a=>ħ (F a)++[10]).length<=40*1000:=by
 have c:∀a∈l,(ħ (F a)++[10]).length<=1000:=fun a ha=>by
  have:=h.len _ (e a ha); rw[dw]; simp only[dz,dI]; omega
 refine⟨c,dG ?_ (dP 1000 d)⟩;clear d e
 induction l with
 |nil=>simp
 |cons a l f =>
  have:=f fun x g=>c x (by simp[g]);have h0:=c a (by simp);rw[dR,dw,dz]; omega
def LR {w:BL} {ns:rT Int} (c:w.length<=1000) (f:ns.length<=100) (a:∀n∈ns,I64 n) {s:BL} (e:s.length<=2000000000) {ρ:Type} (K:ByteArray->rF ρ) :
 (Â (iy (ofL w) ns) fun r=>Ô (Î (ByteArray.size (ofL s)+ByteArray.size r)) (Ô (Î (ByteArray.size (ofL s++r)+ByteArray.size (ByteArray.mk #[10]))) (K ((ofL s++r)++(ByteArray.mk #[10])))))=K (ofL (s++(Bi w (iM ns)++[10]))):=by
 have d:=Ł (w:=w) a;rw[Hz c (by omega) a,Á,Ë (by rw[Ì,Ì]; omega),Am.iff_true,è,show ByteArray.mk #[10]=ofL [10] from rfl,Ë (by rw[Ì,Ì,dw]; simp only[dz,dI]; omega),Am.iff_true,è,dH]
def agN {b:æ} (h:aat b):Ρ b=some (ofL (Ţ b)):=by
 have J:=h.nG; have h2:=h.nU; have I:=h.nL; have H:=h.nC; have G:=h.nK;obtain⟨q,E⟩:=h.part b.2.1 GU (fun a ha=>by unfold ś; simp only[List.mem_cons,List.mem_append]; exact .inr (.inl (List.mem_map.2 ⟨a,ha,rfl⟩))) (by omega);obtain⟨p,D⟩:=h.part b.2.2.1 akp (fun a ha=>by unfold ś; simp only[List.mem_cons,List.mem_append]; exact .inr (.inr (.inl (List.mem_map.2 ⟨a,ha,rfl⟩)))) (by omega);obtain⟨o,C⟩:=h.part b.2.2.2.1 Wg (fun a ha=>by unfold ś; simp only[List.mem_cons,List.mem_append]; exact .inr (.inr (.inr (.inl (List.mem_map.2 ⟨a,ha,rfl⟩))))) (by omega);obtain⟨m,B⟩:=h.part b.2.2.2.2.1 agl (fun a ha=>by unfold ś; simp only[List.mem_cons,List.mem_append]; exact .inr (.inr (.inr (.inr (.inl (List.mem_map.2 ⟨a,ha,rfl⟩)))))) (by omega);obtain⟨l,z⟩:=h.part b.2.2.2.2.2 Wf (fun a ha=>by unfold ś; simp only[List.mem_cons,List.mem_append]; exact .inr (.inr (.inr (.inr (.inr (List.mem_map.2 ⟨a,ha,rfl⟩)))))) (by omega);have r:=Ł (w:=[102,105,108,109]) (sw h.film);simp only[List.length_cons,List.length_nil] at r;unfold Ρ TT;rw[show ByteArray.mk #[102,105,108,109]=ofL [102,105,108,109] from rfl,Hz (by simp) (by simp) (sw h.film),Á,show ByteArray.mk #[10]=ofL [10] from rfl,Ë (by rw[Ì,Ì]; simp only[List.length_cons,List.length_nil]; omega),Am.iff_true,è];generalize k:Bi [102,105,108,109] (iM [b.1.1,b.1.2])++[10]=A
 have F:A.length<=1000:=by rw[<-k,dw]; simp only[dz,dI]; omega
 rw[qm b.2.1 (fun g=>ħ (GU g)++[10]) (by omega) q (by omega) (fun i g s hi d f e=>by
  unfold oM;dsimp only;rw[Ñ hi,Ç d]
  exact(LR (w:=[103,97,117,103,101]) (by simp) (by simp) (h.gauges g (List.mem_of_getElem? d)) f fun t=>ck ((i:Int)+1) fun n=>e (t,n)).trans (Í hi (by omega) _)) (fun s e=>by unfold oM; rw[ß])]
 dsimp only
 rw[qm b.2.2.1 (fun g=>ħ (akp g)++[10]) (by omega) p (by rw[dw]; omega) (fun i g s hi d f e=>by
  unfold oL;dsimp only;rw[Ñ hi,Ç d,Ç d]
  exact(LR (w:=[117,115,101]) (by simp) (by simp) (sw (h.uses g (List.mem_of_getElem? d))) f fun t=>ck ((i:Int)+1) fun n=>e (t,n)).trans (Í hi (by omega) _)) (fun s e=>by unfold oL; rw[ß])]
 dsimp only
 rw[qm b.2.2.2.1 (fun g=>ħ (Wg g)++[10]) (by omega) o (by rw[dw,dw]; omega) (fun i g s hi d f e=>by
  unfold oK;dsimp only;rw[Ñ hi,Ç d]
  exact(LR (w:=[108,111,97,110]) (by simp) (by simp) (h.loans g (List.mem_of_getElem? d)) f fun t=>ck ((i:Int)+1) fun n=>e (t,n)).trans (Í hi (by omega) _)) (fun s e=>by unfold oK; rw[ß])]
 dsimp only
 rw[qm b.2.2.2.2.1 (fun g=>ħ (agl g)++[10]) (by omega) m (by rw[dw,dw,dw]; omega) (fun i c s hi d f e=>by
  obtain⟨r1,r2,j,y,x⟩:=h.cmps c (List.mem_of_getElem? d);have v:=Ł (w:=[99,111,109,112,97,114,101]) r1;have u:=Ł (w:=[32,97]) r2;have a3:=Ł (w:=[32,98]) j;simp only[List.length_cons,List.length_nil] at v u a3;unfold oJ;dsimp only
  rw[Ñ hi,Ç d,show ByteArray.mk #[99,111,109,112,97,114,101]=ofL [99,111,109,112,97,114,101] from rfl,Hz (by simp) (by simp) r1,Á,Ë (by rw[Ì,Ì]; omega),Am.iff_true,show ByteArray.mk #[32,97]=ofL [32,97] from rfl,Hz (by simp) (by omega) r2,Á,è,Ë (by rw[Ì,Ì,dw]; omega),Am.iff_true,
   show ByteArray.mk #[32,98]=ofL [32,98] from rfl,Hz (by simp) (by omega) j,Á,è,Ë (by rw[Ì,Ì,dw,dw]; omega),Am.iff_true,è,show ByteArray.mk #[10]=ofL [10] from rfl,Ë (by rw[Ì,Ì,dw,dw,dw]; simp only[dz,dI]; omega),Am.iff_true,è,Í hi (by omega),WG]
  simp only[List.append_assoc]) (fun s e=>by unfold oJ; rw[ß])]
 dsimp only
 rw[qm b.2.2.2.2.2 (fun g=>ħ (Wf g)++[10]) (by omega) l (by rw[dw,dw,dw,dw]; omega) (fun i g s hi d f e=>by
  unfold oI;dsimp only;rw[Ñ hi,Ç d,Ç d]
  exact(LR (w:=[108,111,111,107]) (by simp) (by simp) (sw (h.looks g (List.mem_of_getElem? d))) f fun t=>ck ((i:Int)+1) fun n=>e (t,n)).trans (Í hi (by omega) _)) (fun s e=>by unfold oI; rw[ß])]
 dsimp only;congr 2;unfold Ţ ś;rw[<-k];simp only[List.flatMap_cons,List.flatMap_append,List.flatMap_map,List.append_assoc];rfl
def VA {ws:rT BL} {i:Nat} {a:ByteArray} (h:(ws.map ofL)[i]?=some a):∃w,ws[i]?=some w/\a=ofL w:=by
 rw[eY] at h
 cases c:ws[i]? with
 |none=>rw[c] at h; cases h
 |some w=>rw[c] at h; cases h; exact⟨w,rfl,rfl⟩
def HY (ws:rT BL) (g:ws.length<=1000000) (f:∀w∈ws,w.length<=1000000):ľ (ws.map ofL)=some (ws.map Eb):=by
 unfold ľ DQ;rw[qn (ws.map ofL) (fun s=>Eb (toL s)) (out:=[]) (K:=some) (by simpa using g) (fun i a s hi ha h d=>?_) (fun s d=>by unfold mM; rw[ß])]
 ·rw[eA,List.map_map]; rfl
 ·obtain⟨w,c,rfl⟩:=VA ha;have e:=f w (List.mem_of_getElem? c);rw[List.length_map] at hi;unfold mM;dsimp only;rw[Ñ (by simpa using hi),Ç ha];unfold ab7;rw[show decide ((ofL w).size<=281474976710656)=true by rw[Ì]; exact decide_eq_true (by omega)];simp only[Á];unfold Eb
  cases Lib.atoiAll w with
  |ok v=>simp only[Ř]; rw[Ë (by simp; omega),Am.iff_true,ä (by omega) (by omega)]
  |range=>simp only[mP]; rw[Ë (by simp; omega),Am.iff_true,ä (by omega) (by omega)]
  |_=>simp only[mP]; rw[Ë (by simp; omega),Am.iff_true,ä (by omega) (by omega)]
def GQ {α ρ:Type} (a:α) (l:rT α) (f:α->rF ρ):Þ (a::l) 0 f=f a:=rfl
def Bv (ws:rT BL):rT Int×rT Int :=
 match ws with
 |[]=>([],[])
 |w::_=>if w=[97] then match ws.findIdx? (fun v=>decide (v=[98])) with
  |some j=>(((ws.drop 1).take (j-1)).map Eb,(ws.drop (j+1)).map Eb)
  |none=>([],[]) else([],[])
def akJ (ws:rT BL) (q:ws.length<=1000000) (y:∀w∈ws,w.length<=1000000):Hf (ws.map ofL)=some (Bv ws):=by
 unfold Hf Zd Bv
 cases ws with
 |nil=>rw[Ù (by simp[ieq,â])]
 |cons w r =>
 dsimp only;rw[Ï (by simp[ieq,â]; omega)];rw[show((w::r).map ofL)=ofL w::r.map ofL from rfl,GQ,show ByteArray.mk #[97]=ofL [97] from rfl,ż]
 by_cases h:w=[97]
 case neg=>rw[if_neg h,Ù (by simp[h])]
 rw[if_pos h,Ï (by simp[h])];have k:=lW (ρ:=rT Int×rT Int) (ofL w::r.map ofL) (fun s=>decide (toL s=[98])) (fun j=>some (((((w::r).drop 1).take (j.toNat-1)).map Eb,((w::r).drop (j.toNat+1)).map Eb))) (some ([],[])) (f:=fun t c=>ny (ofL w::r.map ofL) (ofL w::r.map ofL) (Ó (ofL w::r.map ofL)) t (fun g=>c g) (fun n=>some (n.1,n.2)) (fun _=>some ([],[]))) (fun i a hi ha u=>?_) (fun u=>?_)
 ·rw[k]
  have e:(ofL w::r.map ofL).findIdx? (fun s=>decide (toL s=[98]))=(w::r).findIdx? (fun v=>decide (v=[98])):=by
   rw[show ofL w::r.map ofL=(w::r).map ofL from rfl,List.findIdx?_map]; rfl
  rw[e]
  cases(w::r).findIdx? (fun v=>decide (v=[98]))<;>simp
 ·obtain⟨v,o,rfl⟩:=VA (ws:=w::r) ha;unfold ny;dsimp only
  have l:(ofL w::r.map ofL).length=(w::r).length:=by simp
  rw[Ñ hi,Ç ha,show ByteArray.mk #[98]=ofL [98] from rfl,ż,ĕ]
  by_cases hb:v=[98]
  ·have A:i≠0:=fun e=>by subst e; simp only[fi,Option.some.injEq] at o; rw[<-o,h] at hb; cases hb
   rw[l] at hi;have p:∀(m:rT BL),m ⊆ w::r->∀x∈m,x.length<=1000000:=fun m z x d=>y x (z d)
   rw[if_pos (by simp[hb]),if_pos (by simp[hb]),show(ile (1:Int) (i:Int)&&ile (i:Int) (ê (ofL w::r.map ofL)))=true by simp[ile,ê] at hi ⊢; omega,Am.iff_true,show((i:Int)-1).toNat=i-1 by omega,
    show(ofL w::r.map ofL).drop 1=((w::r).drop 1).map ofL by simp,<-List.map_take,HY _ (by simp at q hi ⊢; omega) (p _ fun x d=>gy (List.mem_of_mem_take d)),Á,ä (by omega) (by omega),show(ile (0:Int) ((i:Int)+1)&&ile ((i:Int)+1) (ê (ofL w::r.map ofL)))=true by simp[ile,ê] at hi ⊢; omega,Am.iff_true,show((i:Int)+1).toNat=i+1 by omega,
    show ofL w::r.map ofL=(w::r).map ofL from rfl,<-List.map_drop,HY _ (by simp at q hi ⊢; omega) (p _ fun x d=>gy d),Á,dL]
  ·rw[if_neg (by simp[hb]),if_neg (by simp[hb]),ä (by omega) (by omega)]
 ·unfold ny;rw[ß]
def vR (n:Int) (b:UInt8):Int:=if 48<=b.toNat/\b.toNat<=57 then 10*n+((b.toNat:Int)-48) else n
def Ym (w:BL):Int:=if w.head?=some 45 then 0-(w.take 18).foldl vR 0 else(w.take 18).foldl vR 0
def Xn {k m:Nat} (h:k<=m):(10:Int) ^ k<=10 ^ m:=by exact_mod_cast Nat.pow_le_pow_right (n:=10) (by omega) h
def Hl (l:BL):∀(n:Int) (k:Nat),0<=n->n<10 ^ k->0<=l.foldl vR n/\l.foldl vR n<10 ^ (k+l.length):=by
 induction l with
 |nil=>intro n k h0 a; exact⟨h0,a⟩
 |cons b l c =>
  intro n k h0 a
  have d:(10:Int) ^ (k+1)=10*10 ^ k:=by rw[Int.pow_succ]; omega
  have:=c (vR n b) (k+1) (by unfold vR; split<;>omega) (by unfold vR; split<;>omega)
  rw[ee,dz,show k+(l.length+1)=k+1+l.length by omega];exact this
def uX {ρ:Type} {l:BL} {i:Nat} {b:UInt8} (h:l[i]?=some b) (K:Int->rF ρ):Xw (ofL l) (i:Int) K=K ((b.toNat:Nat):Int):=by
 unfold Xw;obtain⟨hi,hb⟩:=List.getElem?_eq_some_iff.1 h
 have:(ofL l)[i]?=some b:=by
  have a:i<(ofL l).size:=by rw[Ì]; exact hi
  rw[getElem?_pos (ofL l) i a,<-hb];rfl
 simp[this]
def agI {ρ:Type} (b:UInt8) (r:BL) (K:Int->rF ρ):Xw (ofL (b::r)) 0 K=K ((b.toNat:Nat):Int):=uX (i:=0) rfl K
def MW (w:BL) (u:w.length<=1000000):ks (ofL w)=some (Ym w):=by
 unfold ks N1
 have d:∀i,0<=(w.take i).foldl vR 0/\(i<=18->(w.take i).foldl vR 0<1000000000000000000):=fun i=>by
  have:=Hl (w.take i) 0 0 (by omega) (by decide);refine⟨this.1,fun hi=>gK this.2 ?_⟩
  have c:(w.take i).length<=18:=by simp; omega
  have:(10:Int) ^ (0+(w.take i).length)<=10 ^ 18:=Xn (by omega);exact this
 refine ķ (fun x=>∃i:Nat,x=((w.take i).foldl vR 0,(i:Int))/\i<=w.length/\i<=18) (fun x=>w.length-x.2.toNat) ?_ ⟨0,by simp,Nat.zero_le _,by omega⟩;rintro x ⟨i,rfl,hi,f⟩;unfold sO;dsimp only;obtain⟨o,j⟩:=d i;have j:=j f
 have a:w.take 18=w.take i->∀k:rF Int,(ifb (igt (HC (ofL w).size) (0:Int)) (Xw (ofL w) (0:Int) fun l=>ifb (ieq l (45:Int)) (ck ((0:Int)-(w.take i).foldl vR 0) fun h=>some h) (some ((w.take i).foldl vR 0))) (some ((w.take i).foldl vR 0)))=some (Ym w):=fun e _=>by
  unfold Ym;rw[e,Ì,ln]
  cases w with
  |nil=>rw[Ï (by simp[igt])]; rfl
  |cons b r =>
   rw[Ù (by simp[igt]),agI]
   by_cases hb:b=45
   ·subst hb;rw[Ù (by rfl),ä (by omega) (by omega)]; rfl
   ·rw[Ï (by
     have:((b.toNat:Nat):Int)≠45:=fun e=>hb (UInt8.toNat_inj.1 (by show b.toNat=45; omega))
     simpa[ieq] using this)]
    simp[hb]
 by_cases c:i<w.length
 ·by_cases p:i<18
  ·have g:w[i]?=some w[i]:=dv c
   have m:(w.take (i+1)).foldl vR 0=vR ((w.take i).foldl vR 0) w[i]:=by rw[take_succ g,fj]; rfl
   refine .inr ⟨((w.take (i+1)).foldl vR 0,((i+1:Nat):Int)),⟨i+1,rfl,c,p⟩,by simp; omega,fun k=>?_⟩;rw[Ì,J6 c,Ù (by simp[ilt]; omega),uX g,m]
   have n:(w.take i).foldl vR 0<100000000000000000:=by
    have:=(Hl (w.take i) 0 0 (by omega) (by decide)).2
    have c:(w.take i).length<=17:=by simp; omega
    exact gK this (Xn (by omega):(10:Int) ^ (0+(w.take i).length)<=10 ^ 17)
   clear a d m j;generalize (w.take i).foldl vR 0=X at o n
   by_cases t:48<=w[i].toNat
   ·rw[Ù (by simp[ige]; omega),uX g]
    by_cases s:w[i].toNat<=57
    ·have q:IntKind.wrap .i64 (IntKind.wrap .u8 ((w[i].toNat:Int)-48))=(w[i].toNat:Int)-48:=by
      simp only[IntKind.wrap,IntKind.bits,IntKind.signed];simp;omega
     rw[Ù (by simp[ile]; omega),ä (by omega) (by omega),uX g,q,ä (by omega) (by omega),ä (by omega) (by omega),show vR X w[i]=_ from if_pos ⟨t,s⟩];simp
    ·rw[Ï (by simp[ile]; omega),ä (by omega) (by omega),show vR X w[i]=_ from if_neg (by omega)];simp
   ·rw[Ï (by simp[ige]; omega),ä (by omega) (by omega),show vR X w[i]=_ from if_neg (by omega)];simp
  ·refine .inl fun k=>?_
   obtain rfl:i=18:=by omega
   rw[Ì,J6 c,Ï (by simp[ilt])];have:=a rfl none
   rwa [Ì] at this
 ·refine .inl fun k=>?_
  obtain rfl:i=w.length:=by omega
  rw[Ì,ß];have:=a (by rw[gz,eh f]) none
  rwa [Ì] at this
def akU (w:BL):I64 (Ym w):=by
 have:=Hl (w.take 18) 0 0 (by omega) (by decide)
 have a:(w.take 18).length<=18:=by simp; omega
 have h2:(10:Int) ^ (0+(w.take 18).length)<=10 ^ 18:=Xn (by omega)
 have c:(10:Int) ^ 18=1000000000000000000:=by decide
 unfold Ym
 split<;>exact⟨by omega,by omega⟩
def abM (u:Nat):∀(n:Int),(Lib.decDigits u).foldl vR 0=u:=by
 induction u using Nat.strongRecOn with
 |ind u ih =>
  intro n
  have one:∀d:Nat,d<10->(UInt8.ofNat (48+d)).toNat=48+d:=fun d hd=>by rw[UInt8.toNat_ofNat']; omega
  rw[Lib.decDigits]
  split
  ·simp only[ee,gQ,vR];rw[one u (by omega),if_pos (by omega)]; omega
  ·rw[fj,ih (u / 10) (by omega) 0];simp only[ee,gQ,vR];rw[one (u % 10) (by omega),if_pos (by omega)]; omega
def Yl {n:Int} (h:n.natAbs<10 ^ 17):Ym (Lib.itoa n)=n:=by
 have d:=Wn (k:=16) h;unfold Ym;rw[List.take_of_length_le d];unfold Lib.itoa at d ⊢
 split
 ·rw[ee,show vR 0 45=0 from rfl,abM _ 0];simp; omega
 ·have hd:=Hm n.toNat
  cases a:Lib.decDigits n.toNat with
  |nil=>exact absurd a (aiU _)
  |cons c r =>
   have:=hd c (by rw[a]; simp);rw[if_neg (by simp; intro e; rw[e] at this; have:=this.1; simp at this),<-a,abM _ 0]; omega
def acg (ws:rT BL) (f:ws.length<=1000000) (e:∀w∈ws,w.length<=1000000):sm (ws.map ofL) 8=some (ws.map Ym++List.replicate (8-ws.length) 0):=by
 unfold sm JK
 rw[qn (ws.map ofL) (fun s=>Ym (toL s)) (out:=[]) (by simpa using f) (fun i a s hi ha g c=>by
  obtain⟨w,d,rfl⟩:=VA ha;unfold lO;dsimp only
  rw[Ñ hi,Ç ha,MW w (e w (List.mem_of_getElem? d)),Á,Ë (by simp; omega),Am.iff_true,ä (by omega) (by simp at hi; omega)]) (fun s c=>by unfold lO; rw[ß])]
 dsimp only;rw[List.nil_append,List.map_map,show(fun s=>Ym (toL s)) ∘ ofL=Ym from rfl];refine ķ (fun x=>∃k:Nat,x=ws.map Ym++List.replicate k 0/\k<=8-ws.length) (fun x=>8-x.length) ?_ ⟨0,by simp,Nat.zero_le _⟩;rintro x ⟨k,rfl,j⟩;unfold qi;rw[â]
 by_cases h:k<8-ws.length
 ·refine .inr ⟨_,⟨k+1,rfl,h⟩,by simp; omega,fun c=>?_⟩;rw[Ù (by simp[ilt]; omega),Ë (by simp; omega),Am.iff_true];congr 1;rw[dH,<-List.replicate_succ']
 ·refine .inl fun c=>?_
  obtain rfl:k=8-ws.length:=by omega
  rw[Ï (by simp[ilt]; omega)]
def wY (s:Bool×rT Int×rT Int) (w:BL):Bool×rT Int×rT Int:=if w=[98] then(true,s.2.1,s.2.2) else if w=[97] then s else if s.1 then(s.1,s.2.1,s.2.2++[Ym w]) else(s.1,s.2.1++[Ym w],s.2.2)
def ML (ws:rT BL):rT Int×rT Int:=(ws.foldl wY (false,[],[])).2
def XJ (ws:rT BL):∀s,(ws.foldl wY s).2.1.length<=s.2.1.length+ws.length/\(ws.foldl wY s).2.2.length<=s.2.2.length+ws.length:=by
 induction ws with
 |nil=>intro s; simp
 |cons w ws a =>
  intro s;have h:=a (wY s w)
  have c:(wY s w).2.1.length<=s.2.1.length+1/\(wY s w).2.2.length<=s.2.2.length+1:=by
   unfold wY; (repeat' split)<;>simp
  rw[ee,dz]; omega
def ajW (ws:rT BL) (n:ws.length<=1000000) (k:∀w∈ws,w.length<=1000000):AF (ws.map ofL)=some (ML ws):=by
 unfold AF TN ML;refine ķ (fun x=>∃(i:Nat),x=(((ws.take i).foldl wY (false,[],[])).1,(i:Int),((ws.take i).foldl wY (false,[],[])).2)/\i<=ws.length) (fun x=>ws.length-x.2.1.toNat) ?_ ⟨0,rfl,Nat.zero_le _⟩;rintro x ⟨i,rfl,hi⟩;unfold vq;dsimp only
 by_cases h:i<ws.length
 ·have f:ws[i]?=some ws[i]:=dv h
  have ha:(ws.map ofL)[i]?=some (ofL ws[i]):=by rw[eY,f]; rfl
  have d:=k _ (List.getElem_mem h);have e:=XJ (ws.take i) (false,[],[]);rw[List.length_take] at e;simp only[List.length_nil] at e;refine .inr ⟨(((ws.take (i+1)).foldl wY (false,[],[])).1,((i+1:Nat):Int),((ws.take (i+1)).foldl wY (false,[],[])).2),⟨i+1,rfl,h⟩,by simp; omega,fun j=>?_⟩;rw[take_succ f,List.foldl_append,List.foldl_cons,List.foldl_nil];generalize (ws.take i).foldl wY (false,[],[])=s at e;obtain⟨g,m,l⟩:=s;dsimp only at e ⊢;have c:∀K:Int->rF (rT Int×rT Int),ck ((i:Int)+1) K=K ((i:Int)+1):=fun K=>ä (by omega) (by omega) K;rw[Ñ (by simpa using h),Ç ha,show ByteArray.mk #[98]=ofL [98] from rfl,show ByteArray.mk #[97]=ofL [97] from rfl,ż];unfold wY
  by_cases hb:ws[i]=[98]
  ·rw[Ù (by simp[hb]),if_pos hb,c]; simp
  rw[Ï (by simp[hb]),if_neg hb,Ç ha,ż]
  by_cases a:ws[i]=[97]
  ·rw[Ï (by simp[a]),if_pos a,Ç ha,ż,Ï (by simp[a]),c]; simp
  rw[Ù (by simp[a]),if_neg a]
  cases g with
  |true=>rw[mP,Ç ha,MW _ d,Á,Ë (by simp; omega),Am.iff_true,c]; simp
  |false=>rw[Ř,Ç ha,ż,Ù (by simp[a]),Ç ha,MW _ d,Á,Ë (by simp; omega),Am.iff_true,c]; simp
 ·refine .inl fun j=>?_
  obtain rfl:i=ws.length:=by omega
  rw[Ï (by simp[ilt,â]),gz]
def Υ:æ:=((0,0),[],[],[],[],[])
def readW (n:Nat->Int) (ps:rT Int×rT Int) (b:æ) (w:BL):æ :=
 if w=[102,105,108,109] then((n 0,n 1),b.2)
 else if w=[103,97,117,103,101] then(b.1,b.2.1++[(n 0,n 1,n 2,(n 3,n 4),(n 5,n 6),n 7)],b.2.2)
 else if w=[117,115,101] then(b.1,b.2.1,b.2.2.1++[(n 0,n 1)],b.2.2.2)
 else if w=[108,111,97,110] then(b.1,b.2.1,b.2.2.1,b.2.2.2.1++[(n 0,(n 1,n 2),n 3)],b.2.2.2.2)
 else if w=[99,111,109,112,97,114,101] then(b.1,b.2.1,b.2.2.1,b.2.2.2.1,b.2.2.2.2.1++[(n 0,n 1,ps.1,ps.2,n 2,n 3,n 4,n 5)],b.2.2.2.2.2)
 else if w=[108,111,111,107] then(b.1,b.2.1,b.2.2.1,b.2.2.2.1,b.2.2.2.2.1,b.2.2.2.2.2++[(n 0,n 1)])
 else b
def akZ (w:BL):rF Nat :=
 if w=[102,105,108,109] then some 2 else if w=[103,97,117,103,101] then some 8 else if w=[117,115,101] then some 2
 else if w=[108,111,97,110] then some 4 else if w=[99,111,109,112,97,114,101] then some 6 else if w=[108,111,111,107] then some 2 else none
def nC (r:rT BL) (i:Nat):Int:=Eb (r.getD i [])
def nR (r:rT BL) (i:Nat):Int:=(r.map Ym).getD i 0
def wW (b:æ) (l:BL):rF æ :=
 match wQ 32 (Lib.trimSuffix l [10]) with
 |[]=>none
 |w::r=>match akZ w with
  |none=>none
  |some k=>if r.length<k then none else some (readW (nC r) (Bv (r.drop 6)) b w)
def ta (b:æ) (l:BL):æ :=
 match wQ 32 l with
 |[]=>b
 |w::r=>readW (nR r) (ML (r.drop 6)) b w
section
variable {ρ:Type}
def aeE (w:BL) (r:rT BL) {c:Int} {n:Nat} (g:c=n) (i:r.length<=100000) (d:∀v∈r,v.length<=100000) (A:rF ρ) (K:rT Int->rF ρ) :
 (Ô (ile (1:Int) (ê ((w::r).map ofL))) (ifb (ilt (Ó (List.drop 1 ((w::r).map ofL))) c) A (Ô ((ile (0:Int) c)&&(ile c (ê (List.drop 1 ((w::r).map ofL))))) (Â (ľ (List.take (Int.toNat c) (List.drop 1 ((w::r).map ofL)))) fun a=>Ô ((ile (0:Int) c)&&(ile c (ê (List.drop 1 ((w::r).map ofL))))) (K a)))))=if r.length<n then A else K ((r.take n).map Eb):=by
 subst g;rw[show ile (1:Int) (ê ((w::r).map ofL))=true by simp[ile,ê]; omega,Am.iff_true,show List.drop 1 ((w::r).map ofL)=r.map ofL from rfl,ĕ]
 by_cases h:r.length<n
 ·rw[if_pos (by simpa[ilt,â] using h),if_pos h]
 ·have e:(ile (0:Int) (n:Int)&&ile (n:Int) (ê (r.map ofL)))=true:=by simp[ile,ê]; omega
  rw[if_neg (by simpa[ilt,â] using h),if_neg h,e,Am.iff_true,dL,<-List.map_take,HY _ (by simp; omega) (fun v f=>by have:=d v (List.mem_of_mem_take f); omega),Á,Am.iff_true]
def oW {r:rT BL} {n:Nat} {c:Int} (i:Nat) (a:c=i) (hi:i<n) (d:n<=r.length) (f:Int->rF ρ):Þ ((r.take n).map Eb) c f=f (nC r i):=by
 subst a;refine Ç ?_ f;rw[eY,gJ hi,dv (by omega)];simp[nC,show i<r.length by omega]
end
abbrev StC:Type:=Int×Int×rT ë×rT (Int×Int)×rT HE×rT Cmp×rT (Int×Int)×Int×Int×Int×rT ë×rT (Int×Int)×rT HE×rT Cmp×rT (Int×Int)
abbrev EndC:Type:=Int×Int×rT ë×rT (Int×Int)×rT HE×rT Cmp×rT (Int×Int)×Int
def stC (b:æ):StC:=(0,0,[],[],[],[],[],0,b.1.1,b.1.2,b.2.1,b.2.2.1,b.2.2.2.1,b.2.2.2.2.1,b.2.2.2.2.2)
def endC:EndC:=(0,0,[],[],[],[],[],7)
structure akk (b:æ) (n:Nat):Prop where
 g:b.2.1.length<=n
 u:b.2.2.1.length<=n
 l:b.2.2.2.1.length<=n
 c:b.2.2.2.2.1.length<=n
 k:b.2.2.2.2.2.length<=n
def Mi {l:BL} (d:l.length<=100000):∃w r,wQ 32 l=w::r/\r.length<=100000/\(∀v∈r,v.length<=100000):=by
 obtain⟨w,r,h⟩:=AU 32 l [];have a:=vS 32 l [];rw[h] at a;refine⟨w,r,h,by simp at a; omega,fun v c=>?_⟩;have:=o8 32 l [] v (by rw[h]; exact gw _ c);simp at this; omega
def st_ok {b:æ} {l:BL} (C:l.length<=100000) (hb:akk b 1000000):ŗ 2 8 2 4 6 2 (stC b) (ofL l)=some (match wW b l with|some A=>Sum.inl (stC A)|none=>Sum.inr endC):=by
 obtain⟨G,h2,F,E,D⟩:=hb;unfold ŗ nJ wW;rw[show ByteArray.mk #[10]=ofL [10] from rfl,ajS l [10] (by omega),Á];have m:=U4 l [10];generalize Lib.trimSuffix l [10]=t at m;rw[show ByteArray.mk #[32]=ofL [32] from rfl,aeg t 32 (by omega),Á];obtain⟨w,r,p,B,o⟩:=Mi (l:=t) (by omega);rw[p];dsimp only;rw[show List.map ofL (w::r)=ofL w::r.map ofL from rfl,GQ];have z:=Ad w [102,105,108,109];have y:=Ad w [103,97,117,103,101];have x:=Ad w [117,115,101];have u:=Ad w [108,111,97,110];have s:=Ad w [99,111,109,112,97,114,101];have q:=Ad w [108,111,111,107]
 rw[show ByteArray.mk #[102,105,108,109]=ofL [102,105,108,109] from rfl,show ByteArray.mk #[103,97,117,103,101]=ofL [103,97,117,103,101] from rfl,show ByteArray.mk #[117,115,101]=ofL [117,115,101] from rfl,show ByteArray.mk #[108,111,97,110]=ofL [108,111,97,110] from rfl,show ByteArray.mk #[99,111,109,112,97,114,101]=ofL [99,111,109,112,97,114,101] from rfl,show ByteArray.mk #[108,111,111,107]=ofL [108,111,111,107] from rfl,
  z,y,x,u,s,q]
 have d:∀v∈r,v.length<=100000:=fun v k=>by have:=o v k; omega
 unfold akZ readW
 by_cases i:w=[102,105,108,109]
 ·rw[Ù (decide_eq_true i),if_pos i,if_pos i];refine(aeE w r (c:=2) (n:=2) rfl (by omega) d _ _).trans ?_;dsimp only
  by_cases a:r.length<2
  ·rw[if_pos a,if_pos a]; rfl
  ·rw[if_neg a,if_neg a,oW 0 (c:=0) rfl (by omega) (by omega),oW 1 (c:=1) rfl (by omega) (by omega)]; rfl
 rw[Ï (decide_eq_false i),if_neg i,if_neg i]
 by_cases h:w=[103,97,117,103,101]
 ·rw[Ù (decide_eq_true h),if_pos h,if_pos h];refine(aeE w r (c:=8) (n:=8) rfl (by omega) d _ _).trans ?_;dsimp only
  by_cases a:r.length<8
  ·rw[if_pos a,if_pos a]; rfl
  ·rw[if_neg a,if_neg a,oW 0 (c:=0) rfl (by omega) (by omega),oW 1 (c:=1) rfl (by omega) (by omega),oW 2 (c:=2) rfl (by omega) (by omega),oW 3 (c:=3) rfl (by omega) (by omega),oW 4 (c:=4) rfl (by omega) (by omega),oW 5 (c:=5) rfl (by omega) (by omega),oW 6 (c:=6) rfl (by omega) (by omega),oW 7 (c:=7) rfl (by omega) (by omega),Ë (by show b.2.1.length+1<=_; omega),Am.iff_true]; rfl
 rw[Ï (decide_eq_false h),if_neg h,if_neg h]
 by_cases g:w=[117,115,101]
 ·rw[Ù (decide_eq_true g),if_pos g,if_pos g];refine(aeE w r (c:=2) (n:=2) rfl (by omega) d _ _).trans ?_;dsimp only
  by_cases a:r.length<2
  ·rw[if_pos a,if_pos a]; rfl
  ·rw[if_neg a,if_neg a,oW 0 (c:=0) rfl (by omega) (by omega),oW 1 (c:=1) rfl (by omega) (by omega),Ë (by show b.2.2.1.length+1<=_; omega),Am.iff_true]; rfl
 rw[Ï (decide_eq_false g),if_neg g,if_neg g]
 by_cases f:w=[108,111,97,110]
 ·rw[Ù (decide_eq_true f),if_pos f,if_pos f];refine(aeE w r (c:=4) (n:=4) rfl (by omega) d _ _).trans ?_;dsimp only
  by_cases a:r.length<4
  ·rw[if_pos a,if_pos a]; rfl
  ·rw[if_neg a,if_neg a,oW 0 (c:=0) rfl (by omega) (by omega),oW 1 (c:=1) rfl (by omega) (by omega),oW 2 (c:=2) rfl (by omega) (by omega),oW 3 (c:=3) rfl (by omega) (by omega),Ë (by show b.2.2.2.1.length+1<=_; omega),Am.iff_true]; rfl
 rw[Ï (decide_eq_false f),if_neg f,if_neg f]
 by_cases e:w=[99,111,109,112,97,114,101]
 ·rw[Ù (decide_eq_true e),if_pos e,if_pos e];refine(aeE w r (c:=6) (n:=6) rfl (by omega) d _ _).trans ?_;dsimp only
  by_cases a:r.length<6
  ·rw[if_pos a,if_pos a]; rfl
  ·rw[if_neg a,if_neg a,oW 0 (c:=0) rfl (by omega) (by omega),oW 1 (c:=1) rfl (by omega) (by omega),oW 2 (c:=2) rfl (by omega) (by omega),oW 3 (c:=3) rfl (by omega) (by omega),oW 4 (c:=4) rfl (by omega) (by omega),oW 5 (c:=5) rfl (by omega) (by omega)];rw[show List.drop (Int.toNat 6) (List.drop 1 (ofL w::r.map ofL))=(r.drop 6).map ofL by rw[List.map_drop]; rfl,akJ _ (by simp; omega) (fun v k=>by have:=o v (gy k); omega),Á,Ë (by show b.2.2.2.2.1.length+1<=_; omega),Am.iff_true]; rfl
 rw[Ï (decide_eq_false e),if_neg e,if_neg e]
 by_cases j:w=[108,111,111,107]
 ·rw[Ù (decide_eq_true j),if_pos j,if_pos j];refine(aeE w r (c:=2) (n:=2) rfl (by omega) d _ _).trans ?_;dsimp only
  by_cases a:r.length<2
  ·rw[if_pos a,if_pos a]; rfl
  ·rw[if_neg a,if_neg a,oW 0 (c:=0) rfl (by omega) (by omega),oW 1 (c:=1) rfl (by omega) (by omega),Ë (by show b.2.2.2.2.2.length+1<=_; omega),Am.iff_true]; rfl
 rw[Ï (decide_eq_false j),if_neg j];rfl
def XC {n:Nat->Int} {ps:rT Int×rT Int} {b:æ} {w:BL} {k:Nat} (h:akk b k):akk (readW n ps b w) (k+1):=by
 obtain⟨e,h2,d,c,a⟩:=h;unfold readW
 (repeat' split)<;>constructor<;>(try simp only[dw,dz,dI])<;>omega
def agV {b a:æ} {l:BL} {k:Nat} (h:akk b k) (e:wW b l=some a):akk a (k+1):=by
 unfold wW at e
 (repeat' split at e)<;>first|(cases e; done)|(cases e; exact XC h)
def agL {ρ:Type} {f:StC->rF ρ} {e:EndC->rF ρ}:∀(a:rT BL) (b:æ) (k:Nat),akk b k->k+a.length<=1000000->(∀l∈a,l.length<=100000) ->
 runX (ŗ 2 8 2 4 6 2) (a.map ofL) (stC b) f e=match a.foldlM wW b with|some d=>f (stC d)|none=>e endC
 |[],b,k,_,_,_=>rfl
 |l::a,b,k,hb,m,h=>by
  simp only[dz] at m;rw[eM,agM,st_ok (h l (by simp)) ⟨by have:=hb.g; omega,by have:=hb.u; omega,by have:=hb.l; omega,by have:=hb.c; omega,by have:=hb.k; omega⟩,Á,gA]
  cases j:wW b l with
  |none=>rfl
  |some d=>exact agL a d (k+1) (agV hb j) (by omega) fun x i=>h x (by simp[i])
def ε (t:BL):rT BL:=(kO (ofL t)).map toL
def aml {t:BL} (i:t.length<=60000):qz (ofL t)=match (ε t).foldlM wW Υ with
 |none=>some (Υ,7)
 |some b=>Â (l6 b) fun r=>if r.2≠0\/r.1≠ofL t then some (Υ,7) else some (b,0):=by
 obtain⟨g,h2⟩:=Aq (ofL t).size (ofL t);unfold qz PB;rw[Ë (by rw[Ì]; omega),show(true&&true)=true from rfl,Am.iff_true]
 have c:kO (ofL t)=(ε t).map ofL:=by
  unfold ε; rw[List.map_map]; exact(List.map_id _).symm.trans (List.map_congr_left fun s _=>(nZ s).symm)
 rw[c];have hb:((0:Int),(0:Int),([]:rT ë),([]:rT (Int×Int)),([]:rT HE),([]:rT Cmp),([]:rT (Int×Int)),(0:Int),(0:Int),(0:Int),([]:rT ë),([]:rT (Int×Int)),([]:rT HE),([]:rT Cmp),([]:rT (Int×Int)))=stC Υ:=rfl;refine(agL (ε t) Υ 0 ⟨Nat.le_refl _,Nat.le_refl _,Nat.le_refl _,Nat.le_refl _,Nat.le_refl _⟩ (by unfold ε kO; rw[Ì] at g ⊢; simp; omega) (fun l c=>?_)).trans ?_
 ·unfold ε kO at c;obtain⟨y,f,rfl⟩:=List.mem_map.1 c;have:=h2 y f;rw[<-qS];exact Nat.le_trans this (by rw[Ì]; omega)
 ·cases(ε t).foldlM wW Υ with
  |none=>rfl
  |some b =>
   dsimp only[stC]
   cases j:l6 b with
   |none=>rfl
   |some r =>
    obtain⟨s,e⟩:=r;rw[Á,Á];dsimp only;rw[ĕ,ĕ]
    by_cases d:e=0
    ·rw[if_neg (by simp[ine,d]),<-nZ s,ż]
     by_cases a:toL s=t
     ·rw[if_neg (by simp[a]),if_neg (by simp[d,a])]
     ·rw[if_pos (by simp[a]),if_pos (.inr fun h=>a (Vs h))]; rfl
    ·rw[if_pos (by simp[ine,d]),if_pos (.inl d)]; rfl
def oz {ρ:Type} {r:rT BL} {c:Int} (i:Nat) (a:c=i) (hi:i<8) (f:Int->rF ρ):Þ (r.map Ym++List.replicate (8-r.length) 0) c f=f (nR r i):=by
 subst a;unfold nR
 by_cases h:i<r.length
 ·refine Ç ?_ f;rw[gI (by simpa using h)];simp[h]
 ·have e:(r.map Ym)[i]?=none:=by simp; omega
  refine Ç ?_ f;rw[List.getElem?_append_right (by simp; omega),gC,e];rw[List.getElem?_replicate];simp; omega
abbrev StR:Type:=Int×Int×Int×rT ë×rT (Int×Int)×rT HE×rT Cmp×rT (Int×Int)
def stR (i:Nat) (b:æ):StR:=(i,b.1.1,b.1.2,b.2.1,b.2.2.1,b.2.2.2.1,b.2.2.2.2.1,b.2.2.2.2.2)
def agU {b:æ} {l:BL} {k:Nat} (h:akk b k):akk (ta b l) (k+1):=by
 unfold ta
 split
 ·exact⟨by have:=h.g; omega,by have:=h.u; omega,by have:=h.l; omega,by have:=h.c; omega,by have:=h.k; omega⟩
 ·exact XC h
def stR_ok {d:rT BL} {b:æ} {i:Nat} {l:BL} (hi:d[i]?=some l) (L:i+1<d.length) (C:i<120) (M:d.length<=1000000) (F:l.length<=100000) (hb:akk b 1000000) (A:StR->rF (æ×Bool)) (D) :
 lQ (d.map ofL) (stR i b).1 (stR i b).2.1 (stR i b).2.2.1 (stR i b).2.2.2.1 (stR i b).2.2.2.2.1 (stR i b).2.2.2.2.2.1 (stR i b).2.2.2.2.2.2.1 (stR i b).2.2.2.2.2.2.2 (fun x u t s q p o n=>A (x,u,t,s,q,p,o,n)) D=A (stR (i+1) (ta b l)):=by
 obtain⟨Q,h2,P,O,N⟩:=hb;unfold lQ
 have G:(d.map ofL)[i]?=some (ofL l):=by rw[eY,hi]; rfl
 have a:∀K:Int->rF (æ×Bool),ck ((i:Int)+1) K=K ((i+1:Nat):Int):=fun K=>ä (by omega) (by omega) K;dsimp only[stR];rw[â,List.length_map,ä (by omega) (by omega),Ù (by simp[ilt]; omega),Ù (by simp[ilt]; omega),Ç G];have B:=Mn l 32 (by omega);rw[show((UInt8.toNat 32:Nat):Int)=32 from rfl] at B;rw[B,Á];obtain⟨w,r,H,J,E⟩:=Mi F;unfold ta;rw[H];dsimp only
 have e:∀v∈r,v.length<=1000000:=fun v y=>by have:=E v y; omega
 rw[show ile (1:Int) (ê ((w::r).map ofL))=true by simp[ile,ê]; omega,Am.iff_true,show List.drop 1 ((w::r).map ofL)=r.map ofL from rfl,acg r (by omega) e,Á,show List.map ofL (w::r)=ofL w::r.map ofL from rfl,GQ,
  show ByteArray.mk #[102,105,108,109]=ofL [102,105,108,109] from rfl,show ByteArray.mk #[103,97,117,103,101]=ofL [103,97,117,103,101] from rfl,show ByteArray.mk #[117,115,101]=ofL [117,115,101] from rfl,show ByteArray.mk #[108,111,97,110]=ofL [108,111,97,110] from rfl,show ByteArray.mk #[99,111,109,112,97,114,101]=ofL [99,111,109,112,97,114,101] from rfl,show ByteArray.mk #[108,111,111,107]=ofL [108,111,111,107] from rfl,
  ż,ż,ż,ż,ż,ż]
 unfold readW
 by_cases m:w=[102,105,108,109]
 ·rw[Ù (decide_eq_true m),if_pos m,oz 0 (c:=0) rfl (by omega),oz 1 (c:=1) rfl (by omega),a]
 rw[Ï (decide_eq_false m),if_neg m]
 by_cases k:w=[103,97,117,103,101]
 ·rw[Ù (decide_eq_true k),if_pos k,oz 0 (c:=0) rfl (by omega),oz 1 (c:=1) rfl (by omega),oz 2 (c:=2) rfl (by omega),oz 3 (c:=3) rfl (by omega),oz 4 (c:=4) rfl (by omega),oz 5 (c:=5) rfl (by omega),oz 6 (c:=6) rfl (by omega),oz 7 (c:=7) rfl (by omega),Ë (by show b.2.1.length+1<=_; omega),Am.iff_true,a]
 rw[Ï (decide_eq_false k),if_neg k]
 by_cases j:w=[117,115,101]
 ·rw[Ù (decide_eq_true j),if_pos j,oz 0 (c:=0) rfl (by omega),oz 1 (c:=1) rfl (by omega),Ë (by show b.2.2.1.length+1<=_; omega),Am.iff_true,a]
 rw[Ï (decide_eq_false j),if_neg j]
 by_cases h:w=[108,111,97,110]
 ·rw[Ù (decide_eq_true h),if_pos h,oz 0 (c:=0) rfl (by omega),oz 1 (c:=1) rfl (by omega),oz 2 (c:=2) rfl (by omega),oz 3 (c:=3) rfl (by omega),Ë (by show b.2.2.2.1.length+1<=_; omega),Am.iff_true,a]
 rw[Ï (decide_eq_false h),if_neg h]
 by_cases g:w=[99,111,109,112,97,114,101]
 ·have em:W9 (Ó (ofL w::r.map ofL)) 7=((min (r.length+1) 7:Nat):Int):=by
   unfold W9; rw[â]; simp; split<;>omega
  have I:(ofL w::r.map ofL).drop (min (r.length+1) 7)=(r.drop 6).map ofL:=by
   rcases Nat.le_total (r.length+1) 7 with z|z
   ·rw[Nat.min_eq_left z,gT (by simp),gT (by omega)]; rfl
   ·rw[Nat.min_eq_right z,List.map_drop]; rfl
  rw[Ù (decide_eq_true g),if_pos g,em,show(ile (0:Int) ((min (r.length+1) 7:Nat):Int)&&ile ((min (r.length+1) 7:Nat):Int) (ê (ofL w::r.map ofL)))=true by simp[ile,ê]; omega,Am.iff_true,dL,I,ajW _ (by simp; omega) (fun v y=>e v (gy y)),Á,
   oz 0 (c:=0) rfl (by omega),oz 1 (c:=1) rfl (by omega),oz 2 (c:=2) rfl (by omega),oz 3 (c:=3) rfl (by omega),oz 4 (c:=4) rfl (by omega),oz 5 (c:=5) rfl (by omega),Ë (by show b.2.2.2.2.1.length+1<=_; omega),Am.iff_true,a]
 rw[Ï (decide_eq_false g),if_neg g]
 by_cases f:w=[108,111,111,107]
 ·rw[Ù (decide_eq_true f),if_pos f,oz 0 (c:=0) rfl (by omega),oz 1 (c:=1) rfl (by omega),Ë (by show b.2.2.2.2.2.length+1<=_; omega),Am.iff_true,a]
 rw[Ï (decide_eq_false f),if_neg f,a]
def CO (t:BL):rT BL:=(wQ 10 t).dropLast.take 120
def aj2 {t:BL} (E:t.length<=60000) {e:Int} (p:iF ((CO t).foldl ta Υ)=some e):pz (ofL t)=if e≠0 then some (Υ,false) else Â (Ρ ((CO t).foldl ta Υ)) fun s=>if s≠ofL t then some (Υ,false) else some ((CO t).foldl ta Υ,true):=by
 unfold pz TU;have z:=Mn t 10 (by omega);rw[show((UInt8.toNat 10:Nat):Int)=10 from rfl] at z;rw[z,Á];have d:=vS 10 t [];obtain⟨w0,D,j⟩:=AU 10 t []
 have f:1<=(wQ 10 t).length:=by rw[wQ,j]; simp
 have a:∀l∈wQ 10 t,l.length<=100000:=fun l o=>by have:=o8 10 t [] l o; simp at this; omega
 unfold CO at p ⊢;change (wQ 10 t).length<=_ at d;generalize wQ 10 t=ls at d f a p ⊢
 have v:∀i,i<=(ls.dropLast.take 120).length->akk (((ls.dropLast.take 120).take i).foldl ta Υ) i:=by
  intro i
  induction i with
  |zero=>intro _; exact⟨du _,du _,du _,du _,du _⟩
  |succ i A =>
   intro hi;rw[take_succ (dv (show i<(ls.dropLast.take 120).length by omega)),fj];exact agU (A (by omega))
 have C:(ls.dropLast.take 120).length=min 120 (ls.length-1):=by simp
 refine ķ (fun x=>∃i:Nat,x=stR i (((ls.dropLast.take 120).take i).foldl ta Υ)/\i<=(ls.dropLast.take 120).length) (fun x=>200-x.1.toNat) ?_ ⟨0,rfl,dX _⟩;rintro x ⟨i,rfl,hi⟩;have hb:=v i hi
 by_cases h:i<(ls.dropLast.take 120).length
 ·have o:ls[i]?=some (ls.dropLast.take 120)[i]:=by
   rw[fk,List.getElem_dropLast,dv]
  refine .inr ⟨stR (i+1) (((ls.dropLast.take 120).take (i+1)).foldl ta Υ),⟨i+1,rfl,h⟩,by simp only[stR,dL]; omega,fun y=>?_⟩;rw[take_succ (dv h),fj];exact stR_ok o (by omega) (by omega) (by omega) (a _ (dJ o)) ⟨by have:=hb.g; omega,by have:=hb.u; omega,by have:=hb.l; omega,by have:=hb.c; omega,by have:=hb.k; omega⟩ y _
 ·refine .inl fun y=>?_
  obtain rfl:i=(ls.dropLast.take 120).length:=by omega
  rw[List.take_length];generalize (ls.dropLast.take 120).foldl ta Υ=b at p;generalize B:(ls.dropLast.take 120).length=i at C hi h;unfold lQ;dsimp only[stR]
  have m:(Â (iF ((b.1.1,b.1.2),b.2.1,b.2.2.1,b.2.2.2.1,b.2.2.2.2.1,b.2.2.2.2.2)) fun r=>ifb (ine r (0:Int)) (some ((((0:Int),(0:Int)),([]:rT ë),([]:rT (Int×Int)),([]:rT HE),([]:rT Cmp),([]:rT (Int×Int))),false)) (Â (Ρ ((b.1.1,b.1.2),b.2.1,b.2.2.1,b.2.2.2.1,b.2.2.2.2.1,b.2.2.2.2.2)) fun q=>ifb (!(q.toList==(ofL t).toList)) (some ((((0:Int),(0:Int)),([]:rT ë),([]:rT (Int×Int)),([]:rT HE),([]:rT Cmp),([]:rT (Int×Int))),false)) (some (((b.1.1,b.1.2),b.2.1,b.2.2.1,b.2.2.2.1,b.2.2.2.2.1,b.2.2.2.2.2),true))))=if e≠0 then some (Υ,false) else Â (Ρ b) fun s=>if s≠ofL t then some (Υ,false) else some (b,true):=by
   rw[show iF ((b.1.1,b.1.2),b.2.1,b.2.2.1,b.2.2.2.1,b.2.2.2.2.1,b.2.2.2.2.2)=iF b from rfl,p,Á,ĕ]
   by_cases h0:e=0
   ·rw[if_neg (by simp[ine,h0]),if_neg (by simp[h0])];show Â (Ρ b) _=_
    cases Ρ b with
    |none=>rfl
    |some s =>
     rw[Á,Á,ĕ,<-nZ s,ż]
     by_cases n:toL s=t
     ·rw[if_neg (by simp[n]),if_neg (by simp[n])]
     ·rw[if_pos (by simp[n]),if_pos fun h=>n (Vs h)]; rfl
   ·rw[if_pos (by simp[ine,h0]),if_pos h0]; rfl
  rw[â,eF,ä (by omega) (by omega),ĕ]
  by_cases w:ilt (i:Int) ((ls.length:Int)-1)=true
  ·rw[if_pos w,Ï (by simp[ilt] at w ⊢; omega)]; exact m
  ·rw[if_neg w]; exact m
def jr (n:Int):Prop:=n.natAbs<10 ^ 17
def jr.i64 {n:Int} (h:jr n):I64 n:=by
 unfold jr at h;exact⟨by omega,by omega⟩
def oi {n lo hi:Int} (h:inP n lo hi=true) (a : -1125899906842624<=lo) (h2:hi<=1125899906842624):jr n:=by
 simp only[inP,Bool.and_eq_true,decide_eq_true_eq] at h;unfold jr; omega
def s7 {s:Int×Int} {lo hi:Int} (h:jP s lo hi=true) (a : -1125899906842624<=lo) (h2:hi<=1125899906842624):jr s.1/\jr s.2:=by
 simp only[jP,Bool.and_eq_true,decide_eq_true_eq] at h;unfold jr; exact⟨by omega,by omega⟩
def jt.idn {b:æ} (h:jt b) {id:Int} {g:ë} (c:ą b id=some g):jr id:=by
 obtain⟨a,rfl⟩:=sk c;have:=h.gauge g a;simp only[nP,dt] at this;exact oi this.1.1.1.1.2 (by omega) (by omega)
def XH {l:rT Int} (h:wX l=true):l.length<=6/\∀x∈l,jr x:=by
 unfold wX at h
 split at h
 ·cases h
 ·rename_i d;refine⟨of_decide_eq_true h,fun x c=>?_⟩;obtain⟨j,e,rfl⟩:=List.mem_iff_getElem.1 c;have:=Ľ.1 d j _ (List.getElem?_eq_getElem e);unfold uZ at this
  split at this
  ·cases this
  ·rename_i a;exact oi (by simpa using a) (by omega) (by omega)
def jt.prints {b:æ} (h:jt b):om jr b:=by
 have r:∀{id day:Int},aen (ū b) id day=0->jr id/\jr day:=fun e=>by
  obtain⟨⟨a,h2⟩,g,j,_⟩:=Ms h e;exact⟨h.idn j,by unfold jr; omega⟩
 refine⟨by have:=h.film; unfold jr; exact⟨by omega,by omega⟩,fun g j=>?_,fun u o=>r (h.uses u o),fun l x=>?_,fun c y=>?_,fun u o=>r (h.looks u o),h.nG,h.nU,h.nL,h.nC,h.nK⟩
 ·have:=h.gauge g j;simp only[nP,dt,decide_eq_true_eq] at this;obtain⟨⟨⟨⟨⟨⟨⟨a,h2⟩,f⟩,q⟩,m⟩,p⟩,k⟩,z⟩:=this;simp only[aaC,dt,decide_eq_true_eq] at a;intro n d;simp only[adB,dE,fS,or_false] at d;rcases d with rfl|rfl|rfl|rfl|rfl|rfl|rfl|rfl
  ·exact oi q (by omega) (by omega)
  ·exact oi (show inP g.2.1 0 20000=true from m) (by omega) (by omega)
  ·exact oi p (by omega) (by omega)
  ·exact(s7 k (by omega) (by omega)).1
  ·exact(s7 k (by omega) (by omega)).2
  ·exact oi h2 (by omega) (by omega)
  ·unfold jr; omega
  ·exact oi z (by omega) (by omega)
 ·obtain⟨i,hi,rfl⟩:=List.mem_iff_getElem.1 x;have e:=h.loans i _ (List.getElem?_eq_getElem hi);unfold PF at e
  split at e
  ·omega
  rename_i a
  split at e
  ·omega
  rename_i h2
  split at e
  ·rename_i f; simp[e] at f
  rename_i f;obtain⟨g,j,_⟩:=HZ h (show mn (ū b) b.2.2.2.1[i].1 b.2.2.2.1[i].2.1.1=0 by simpa using f)
  have a:jP b.2.2.2.1[i].2.1 0 20000=true:=by simpa using a
  intro n d;simp only[anz,dE,fS,or_false] at d;rcases d with rfl|rfl|rfl|rfl
  ·exact h.idn j
  ·exact(s7 a (by omega) (by omega)).1
  ·exact(s7 a (by omega) (by omega)).2
  ·exact oi (lo:=0) (hi:=1048576) (by simpa using h2) (by omega) (by omega)
 ·have:=h.nums y;simp only[Di,dt] at this;obtain⟨a,h2,f,q,m,p,k⟩:=this;obtain⟨w,v⟩:=XH p;obtain⟨t,s⟩:=XH k;refine⟨fun n d=>?_,v,s,w,t⟩;simp only[cmpN,dE,fS,or_false] at d;rcases d with rfl|rfl|rfl|rfl|rfl|rfl
  ·exact oi a (by omega) (by omega)
  ·exact oi (show inP c.2.1 0 20000=true from h2) (by omega) (by omega)
  ·exact oi f (by omega) (by omega)
  ·exact oi q (by omega) (by omega)
  ·exact(s7 m (by omega) (by omega)).1
  ·exact(s7 m (by omega) (by omega)).2
def jR (c:UInt8) (a:c.toNat≠45/\¬(48<=c.toNat/\c.toNat<=57)) (ns:rT Int):∀v∈iM ns,∀x∈v,x≠c:=by
 intro v f x d e;obtain⟨n,_,rfl⟩:=eN.1 f;have:=afq n x d;subst e;rcases this with h|h
 ·exact a.1 h
 ·exact a.2 h
def aby (n:Int) (c:UInt8) (a:c.toNat≠45/\¬(48<=c.toNat/\c.toNat<=57)):Lib.itoa n≠[c]:=fun e=>jR c a [n] (Lib.itoa n) (by simp) c (by rw[e]; simp) rfl
def SO (c:UInt8) (j:c=10\/c=32) {b:æ}:∀p∈ś b,(∀x∈p.1,x≠c)/\∀v∈p.2,∀x∈v,x≠c:=by
 have h:c.toNat≠45/\¬(48<=c.toNat/\c.toNat<=57):=by rcases j with rfl|rfl<;>decide
 have a:∀w:BL,(w.all fun x=>x != 10&&x != 32)=true->∀x∈w,x≠c:=fun w m x k e=>by
  have:=dM.1 m x k
  rcases j with rfl|rfl<;>subst e<;>revert this<;>decide
 intro p i;unfold ś at i;simp only[List.mem_cons,List.mem_append,List.mem_map] at i;rcases i with rfl|⟨g,q,rfl⟩|⟨u,n,rfl⟩|⟨l,o,rfl⟩|⟨d,hd,rfl⟩|⟨u,n,rfl⟩
 ·exact⟨a _ rfl,jR c h _⟩
 ·exact⟨a _ rfl,jR c h _⟩
 ·exact⟨a _ rfl,jR c h _⟩
 ·exact⟨a _ rfl,jR c h _⟩
 ·refine⟨a _ rfl,fun v f=>?_⟩;simp only[agl,dA,dE] at f;rcases f with f|(rfl|f)|rfl|f
  ·exact jR c h _ v f
  ·exact a _ rfl
  ·exact jR c h _ v f
  ·exact a _ rfl
  ·exact jR c h _ v f
 ·exact⟨a _ rfl,jR c h _⟩
def WF {b:æ} {p:BL×rT BL} (a:p∈ś b):wQ 32 (ħ p)=p.1::p.2:=by
 obtain⟨c,h2⟩:=SO 32 (.inr rfl) p a;exact Qj 32 p.2 p.1 c h2
def PJ {b:æ} {p:BL×rT BL} (d:p∈ś b):∀x∈ħ p,x≠10:=by
 obtain⟨e,h2⟩:=SO 10 (.inl rfl) p d;intro x a;rcases dA.1 a with a|a
 ·exact e x a
 ·unfold spL at a;obtain⟨v,c,a⟩:=List.mem_flatMap.1 a;rcases List.mem_cons.1 a with rfl|a
  ·decide
  ·exact h2 v c x a
def nC_num {ns:rT Int} (h:∀n∈ns,jr n) (r:rT BL) {i:Nat} (hi:i<ns.length):nC (iM ns++r) i=ns.getD i 0:=by
 unfold nC;rw[List.getD_eq_getElem?_getD,List.getElem?_append_left (by simpa using hi),List.getD_eq_getElem?_getD];simp only[List.getElem?_map,List.getElem?_eq_getElem hi,Option.map_some,Option.getD_some];exact UQ (h _ (List.getElem_mem hi)).i64
def nR_num {ns:rT Int} (h:∀n∈ns,jr n) (r:rT BL) {i:Nat} (hi:i<ns.length):nR (iM ns++r) i=ns.getD i 0:=by
 unfold nR;rw[List.map_append,List.getD_eq_getElem?_getD,List.getElem?_append_left (by simpa using hi),List.getD_eq_getElem?_getD];simp only[List.getElem?_map,List.getElem?_eq_getElem hi,Option.map_some,Option.getD_some];exact Yl (h _ (List.getElem_mem hi))
def ac3 {ns:rT Int} (h:∀n∈ns,jr n):(iM ns).map Eb=ns:=by
 rw[List.map_map];exact(fe fun n a=>UQ (h n a).i64).trans (List.map_id _)
def ag0 {A B:rT Int} (d:∀n∈A,jr n) (c:∀n∈B,jr n):Bv ([97]::iM A++[98]::iM B)=(A,B):=by
 unfold Bv
 have a:([97]::iM A++[98]::iM B).findIdx? (fun v=>decide (v=[98]))=some (A.length+1):=by
  rw[ej];refine⟨by simp,?_,fun j i=>?_⟩
  ·simp
  ·cases j with
   |zero=>simp
   |succ j =>
    have:j<(iM A).length:=by simp; omega
    have e:([97]::iM A++[98]::iM B)[j+1]'(by simp; omega)=Lib.itoa A[j]:=by
     simp only[eT,List.getElem_cons_succ];rw[List.getElem_append_left this,List.getElem_map]
    intro h;exact aby _ 98 (by decide) (e.symm.trans (of_decide_eq_true h))
 dsimp only[List.cons_append] at a ⊢;rw[if_pos rfl,a];dsimp only
 have g:((([97]::(iM A++[98]::iM B)).drop 1).take (A.length+1-1))=iM A:=by
  rw[List.drop_one,List.tail_cons,Nat.add_sub_cancel,fq (by simp),eh (by simp)]
 have f:(([97]::(iM A++[98]::iM B)).drop (A.length+1+1))=iM B:=by
  rw[List.drop_succ_cons,show A.length+1=(iM A++[[98]]).length by simp,show iM A++[98]::iM B=(iM A++[[98]])++iM B by simp,gN]
 rw[g,f,ac3 d,ac3 c]
def agZ {A B:rT Int} (g:∀n∈A,jr n) (f:∀n∈B,jr n):ML ([97]::iM A++[98]::iM B)=(A,B):=by
 have step:∀(ns:rT Int),(∀n∈ns,jr n)->∀s:Bool×rT Int×rT Int,(iM ns).foldl wY s=(s.1,if s.1 then s.2.1 else s.2.1++ns,if s.1 then s.2.2++ns else s.2.2):=by
  intro ns
  induction ns with
  |nil=>intro _ s; obtain⟨a,b,c⟩:=s; simp
  |cons n ns d =>
   intro h s;rw[iM,List.map_cons,List.foldl_cons,d fun x e=>h x (by simp[e])];unfold wY;rw[if_neg (aby n 98 (by decide)),if_neg (aby n 97 (by decide)),Yl (h n (by simp))];obtain⟨a,b,c⟩:=s
   cases a<;>simp
 unfold ML;rw[List.cons_append,List.foldl_cons,List.foldl_append,List.foldl_cons];rw[show wY (false,[],[]) [97]=(false,[],[]) from rfl,step A g,show wY (false,if (false:Bool)=true then[] else[]++A,if (false:Bool)=true then[]++A else[]) [98]=(true,A,[]) by simp[wY],step B f];simp
structure an7 (R:æ->BL×rT BL->rF æ) (b:æ):Prop where
 film:∀x:æ,R x (afC b.1)=some (b.1,x.2)
 gauge:∀(x:æ),∀g∈b.2.1,R x (GU g)=some (x.1,x.2.1++[g],x.2.2)
 use:∀(x:æ),∀u∈b.2.2.1,R x (akp u)=some (x.1,x.2.1,x.2.2.1++[u],x.2.2.2)
 loan:∀(x:æ),∀l∈b.2.2.2.1,R x (Wg l)=some (x.1,x.2.1,x.2.2.1,x.2.2.2.1++[l],x.2.2.2.2)
 cmp:∀(x:æ),∀c∈b.2.2.2.2.1,R x (agl c)=some (x.1,x.2.1,x.2.2.1,x.2.2.2.1,x.2.2.2.2.1++[c],x.2.2.2.2.2)
 look:∀(x:æ),∀u∈b.2.2.2.2.2,R x (Wf u)=some (x.1,x.2.1,x.2.2.1,x.2.2.2.1,x.2.2.2.2.1,x.2.2.2.2.2++[u])
def pv {β:Type} (R:æ->BL×rT BL->rF æ) (F:β->BL×rT BL) (G:æ->rT β->æ) (c:∀x a l,G (G x [a]) l=G x (a::l)) (h0:∀x,G x []=x):∀(l:rT β),(∀x,∀a∈l,R x (F a)=some (G x [a]))->∀x,(l.map F).foldlM R x=some (G x l)
 |[],_,x=>by rw[h0]; rfl
 |a::l,h,x=>by
  rw[eM,gA,h x a (by simp)];show(l.map F).foldlM R (G x [a])=_;rw[pv R F G c h0 l fun x a ha=>h x a (by simp[ha]),c]
def an7.all {R:æ->BL×rT BL->rF æ} {b:æ} (h:an7 R b):(ś b).foldlM R Υ=some b:=by
 unfold ś;rw[List.foldlM_cons,h.film Υ];show List.foldlM R (b.1,Υ.2) _=_;rw[List.foldlM_append,pv R GU (fun x l=>(x.1,x.2.1++l,x.2.2)) (fun x a l=>by simp) (fun x=>by simp) _ h.gauge];show List.foldlM R (b.1,[]++b.2.1,Υ.2.2) _=_;rw[List.foldlM_append,pv R akp (fun x l=>(x.1,x.2.1,x.2.2.1++l,x.2.2.2)) (fun x a l=>by simp) (fun x=>by simp) _ h.use];show List.foldlM R (b.1,[]++b.2.1,[]++b.2.2.1,Υ.2.2.2) _=_;rw[List.foldlM_append,pv R Wg (fun x l=>(x.1,x.2.1,x.2.2.1,x.2.2.2.1++l,x.2.2.2.2)) (fun x a l=>by simp) (fun x=>by simp) _ h.loan];show List.foldlM R (b.1,[]++b.2.1,[]++b.2.2.1,[]++b.2.2.2.1,Υ.2.2.2.2) _=_;rw[List.foldlM_append,pv R agl (fun x l=>(x.1,x.2.1,x.2.2.1,x.2.2.2.1,x.2.2.2.2.1++l,x.2.2.2.2.2)) (fun x a l=>by simp) (fun x=>by simp) _ h.cmp];show List.foldlM R (b.1,[]++b.2.1,[]++b.2.2.1,[]++b.2.2.2.1,[]++b.2.2.2.2.1,Υ.2.2.2.2.2) _=_;rw[pv R Wf (fun x l=>(x.1,x.2.1,x.2.2.1,x.2.2.2.1,x.2.2.2.2.1,x.2.2.2.2.2++l)) (fun x a l=>by simp) (fun x=>by simp) _ h.look];simp[Υ]
def acG {R:æ->BL×rT BL->rF æ} {n:rT BL->Nat->Int} {ps:rT BL->rT Int×rT Int} {b:æ} (h:om jr b)
 (j:∀(ns:rT Int) (r:rT BL) (i:Nat),(∀m∈ns,jr m)->i<ns.length->n (iM ns++r) i=ns.getD i 0)
 (w:∀A B:rT Int,(∀m∈A,jr m)->(∀m∈B,jr m)->ps ([97]::iM A++[98]::iM B)=(A,B))
 (k:∀x,∀p∈ś b,R x p=some (readW (n p.2) (ps (p.2.drop 6)) x p.1)):an7 R b:=by
 have a:∀(ns:rT Int) (i:Nat),(∀m∈ns,jr m)->i<ns.length->n (iM ns) i=ns.getD i 0:=fun ns i C h2=>by
  have:=j ns [] i C h2
  rwa [dO] at this
 have f:∀u:Int×Int,jr u.1/\jr u.2->n (iM [u.1,u.2]) 0=u.1/\n (iM [u.1,u.2]) 1=u.2:=fun u e=>by
  have:∀m∈[u.1,u.2],jr m:=fun m d=>by
   simp only[dE,fS,or_false] at d;rcases d with rfl|rfl
   ·exact e.1
   ·exact e.2
  exact⟨a _ 0 this (by simp),a _ 1 this (by simp)⟩
 refine⟨fun x=>?_,fun x g t=>?_,fun x u e=>?_,fun x l s=>?_,fun x c v=>?_,fun x u e=>?_⟩
 ·rw[k x _ (by unfold ś; exact List.mem_cons_self)];obtain⟨q,o⟩:=f b.1 h.film;unfold readW afC;dsimp only;rw[if_pos rfl,q,o]
 ·rw[k x _ (by unfold ś; simp only[List.mem_cons,List.mem_append]; exact .inr (.inl (List.mem_map.2 ⟨g,t,rfl⟩)))];have d:=h.gauges g t;unfold readW GU;dsimp only;rw[if_neg (by decide),if_pos rfl];rw[a _ 0 d (by simp),a _ 1 d (by simp),a _ 2 d (by simp),a _ 3 d (by simp),a _ 4 d (by simp),a _ 5 d (by simp),a _ 6 d (by simp),a _ 7 d (by simp)];rfl
 ·rw[k x _ (by unfold ś; simp only[List.mem_cons,List.mem_append]; exact .inr (.inr (.inl (List.mem_map.2 ⟨u,e,rfl⟩))))];obtain⟨q,o⟩:=f u (h.uses u e);unfold readW akp;dsimp only;rw[if_neg (by decide),if_neg (by decide),if_pos rfl,q,o]
 ·rw[k x _ (by unfold ś; simp only[List.mem_cons,List.mem_append]; exact .inr (.inr (.inr (.inl (List.mem_map.2 ⟨l,s,rfl⟩)))))];have d:=h.loans l s;unfold readW Wg;dsimp only;rw[if_neg (by decide),if_neg (by decide),if_neg (by decide),if_pos rfl];rw[a _ 0 d (by simp),a _ 1 d (by simp),a _ 2 d (by simp),a _ 3 d (by simp)];rfl
 ·rw[k x _ (by unfold ś; simp only[List.mem_cons,List.mem_append]; exact .inr (.inr (.inr (.inr (.inl (List.mem_map.2 ⟨c,v,rfl⟩))))))];obtain⟨d,z,y,_⟩:=h.cmps c v;unfold readW agl;dsimp only;rw[if_neg (by decide),if_neg (by decide),if_neg (by decide),if_neg (by decide),if_pos rfl];rw[j _ _ 0 d (by simp),j _ _ 1 d (by simp),j _ _ 2 d (by simp),j _ _ 3 d (by simp),j _ _ 4 d (by simp),j _ _ 5 d (by simp)];rw[show(iM (cmpN c)++([97]::iM c.2.2.1++[98]::iM c.2.2.2.1)).drop 6=[97]::iM c.2.2.1++[98]::iM c.2.2.2.1 from rfl,w _ _ z y];rfl
 ·rw[k x _ (by unfold ś; simp only[List.mem_cons,List.mem_append]; exact .inr (.inr (.inr (.inr (.inr (List.mem_map.2 ⟨u,e,rfl⟩))))))];obtain⟨q,o⟩:=f u (h.looks u e);unfold readW Wf;dsimp only;rw[if_neg (by decide),if_neg (by decide),if_neg (by decide),if_neg (by decide),if_neg (by decide),if_pos rfl,q,o]
def aeD {b:æ} {p:BL×rT BL} (a:p∈ś b) (x:æ):wW x (ħ p++[10])=some (readW (nC p.2) (Bv (p.2.drop 6)) x p.1):=by
 unfold wW;rw[agv,WF a];dsimp only
 have e:∃k,akZ p.1=some k/\k<=p.2.length:=by
  unfold ś at a;simp only[List.mem_cons,List.mem_append,List.mem_map] at a;rcases a with rfl|⟨g,i,rfl⟩|⟨u,d,rfl⟩|⟨l,h,rfl⟩|⟨c,j,rfl⟩|⟨u,d,rfl⟩
  ·exact⟨2,rfl,du _⟩
  ·exact⟨8,rfl,du _⟩
  ·exact⟨2,rfl,du _⟩
  ·exact⟨4,rfl,du _⟩
  ·exact⟨6,rfl,by simp[agl]⟩
  ·exact⟨2,rfl,du _⟩
 obtain⟨k,f,h2⟩:=e;rw[f];dsimp only;rw[if_neg (by omega)]
def qQ (b:æ):Ţ b=((ś b).map ħ).flatMap fun l=>l++[10]:=by unfold Ţ; rw[List.flatMap_map]
def IH {b:æ} (h:om jr b):(ε (Ţ b)).foldlM wW Υ=some b:=by
 have c:ε (Ţ b)=(ś b).map fun p=>ħ p++[10]:=by
  unfold ε kO;rw[qQ,PI _ _ (fun l c=>by obtain⟨p,a,rfl⟩:=List.mem_map.1 c; exact PJ a) (by rw[Ì]; exact Nat.le_refl _)];rw[List.map_map,List.map_map]; rfl
 rw[c,List.foldlM_map];exact(acG (R:=fun x p=>wW x (ħ p++[10])) (n:=nC) (ps:=Bv) h (fun ns r i f h2=>nC_num f r h2) (fun A B e d=>ag0 e d) fun x p a=>aeD a x).all
def Qk:∀(a:rT BL),(∀l∈a,∀x∈l,x≠10)->wQ 10 (a.flatMap fun l=>l++[10])=a++[[]]
 |[],_=>rfl
 |l::a,h=>by
  rw[dR,dH,wQ,Ho 10 l [] _ (h l (by simp)),eT,eA,Ke,if_pos rfl,eA];rw[show Ke 10 [] (a.flatMap fun l=>l++[10])=_ from Qk a fun x c=>h x (by simp[c])];rfl
def PZ {α β:Type} (f:β->α->β):∀(l:rT α) (x:β),l.foldlM (fun x a=>some (f x a)) x=some (l.foldl f x)
 |[],x=>rfl
 |a::l,x=>by rw[gA,ee]; exact PZ f l (f x a)
def afx {b:æ} (h:om jr b):(CO (Ţ b)).foldl ta Υ=b:=by
 have g:=h.count
 have c:CO (Ţ b)=(ś b).map ħ:=by
  unfold CO;rw[qQ,Qk _ fun l c=>by obtain⟨p,a,rfl⟩:=List.mem_map.1 c; exact PJ a];rw[List.dropLast_concat,List.take_of_length_le (by simp; omega)]
 rw[c,List.foldl_map];have:=(acG (R:=fun x p=>some (ta x (ħ p))) (n:=nR) (ps:=ML) h (fun ns r i f h2=>nR_num f r h2) (fun A B e d=>agZ e d) fun x p a=>by unfold ta; rw[WF a]).all;rw[PZ fun x p=>ta x (ħ p)] at this;exact Option.some.inj this
end Go.Proofs.ZzM
end

noncomputable section
namespace Go.Proofs.ZzM
open Go Go.Am
structure aaF (b:æ):Prop where
 piles:agh b
 num:∀g∈b.2.1,I64 g.2.2.2.2.1.1
def In.fine {b:æ} (h:In b):aaF b:=⟨h.size.w,h.num⟩
def aaF.readW {n:Nat->Int} {ps:rT Int×rT Int} {b:æ} {w:BL} (h:aaF b) (i:I64 (n 5)) (f:ps.1.length<=100000/\ps.2.length<=100000):aaF (readW n ps b w):=by
 obtain⟨a,h2⟩:=h;unfold ZzM.readW
 split
 ·exact⟨a,h2⟩
 split
 ·refine⟨a,fun g d=>?_⟩;rcases dA.1 d with d|d
  ·exact h2 g d
  ·rw[dB.1 d]; exact i
 split
 ·exact⟨a,h2⟩
 split
 ·exact⟨a,h2⟩
 split
 ·refine⟨fun c e=>?_,h2⟩;rcases dA.1 e with e|e
  ·exact a c e
  ·rw[dB.1 e]; exact f
 split
 ·exact⟨a,h2⟩
 ·exact⟨a,h2⟩
def aeG (ws:rT BL):(Bv ws).1.length<=ws.length/\(Bv ws).2.length<=ws.length:=by
 unfold Bv
 cases ws with
 |nil=>simp
 |cons w r =>
  dsimp only
  split
  ·cases(w::r).findIdx? (fun v=>decide (v=[98]))<;>simp<;>omega
  ·simp
def fine0:aaF Υ:=⟨fun _ c=>(by cases c),fun _ a=>(by cases a)⟩
def fineC {b c:æ} {l:BL} (h:aaF b) (i:l.length<=100000) (e:wW b l=some c):aaF c:=by
 unfold wW at e;have f:=U4 l [10];obtain⟨w,r,d,g,_⟩:=Mi (l:=Lib.trimSuffix l [10]) (by omega);rw[d] at e;dsimp only at e
 cases a:akZ w with
 |none=>rw[a] at e; cases e
 |some k =>
  rw[a] at e;dsimp only at e
  split at e
  ·cases e
  ·cases e;have:=aeG (r.drop 6);rw[gB] at this;exact h.readW (ajL _) ⟨by omega,by omega⟩
def ZI:∀(c:rT BL) (b a:æ),aaF b->(∀l∈c,l.length<=100000)->c.foldlM wW b=some a->aaF a
 |[],b,a,h,_,e=>by cases e; exact h
 |l::c,b,a,h,f,e=>by
  rw[gA] at e
  cases d:wW b l with
  |none=>rw[d] at e; cases e
  |some i=>rw[d] at e; exact ZI c i a (fineC h (f l (by simp)) d) (fun x g=>f x (by simp[g])) e
def nR_i64 (r:rT BL) (i:Nat):I64 (nR r i):=by
 unfold nR;rw[List.getD_eq_getElem?_getD,List.getElem?_map]
 cases r[i]? with
 |none=>exact⟨by decide,by decide⟩
 |some w=>exact akU w
def fineR {b:æ} {l:BL} (h:aaF b) (a:l.length<=100000):aaF (ta b l):=by
 unfold ta;obtain⟨w,r,c,d,_⟩:=Mi a;rw[c];have:=XJ (r.drop 6) (false,[],[]);simp only[List.length_drop,List.length_nil] at this;exact h.readW (nR_i64 _ _) (by unfold ML; exact⟨by omega,by omega⟩)
def ZH:∀(a:rT BL) (b:æ),aaF b->(∀l∈a,l.length<=100000)->aaF (a.foldl ta b)
 |[],b,h,_=>h
 |l::a,b,h,c=>ZH a _ (fineR h (c l (by simp))) fun x d=>c x (by simp[d])
def W6 {b:æ} (h:aaF b):l6 b=some (if š b≠0 then(ofL [],š b) else(ofL (Ţ b),0)):=by
 have a:=aaw h.piles h.num
 by_cases h0:š b=0
 ·rw[if_neg (by simp[h0])];exact akI (((Ļ b).1 h0).prints.mono fun n c=>c.i64) (by rw[a,h0])
 ·rw[if_pos h0];unfold l6 GA;rw[a,Á,Ù (by simpa[ine] using h0)]
def QN {b:æ} (h:jt b):Ρ b=some (ofL (Ţ b)):=agN (h.prints.mono fun n a=>a.i64)
def agA {b a:æ} (h:jt b) (h':jt a) (e:Ţ b=Ţ a):b=a:=by
 have c:=IH h.prints;rw[e,IH h'.prints] at c;exact(Option.some.inj c).symm
open Classical in
def sE (t:BL):rF æ:=if h:∃b,jt b/\Ţ b=t then some h.choose else none
def LS {b:æ} (h:jt b):sE (Ţ b)=some b:=by
 have a:∃c,jt c/\Ţ c=Ţ b:=⟨b,h,rfl⟩;unfold sE;rw[dif_pos a];exact congrArg some (agA a.choose_spec.1 h a.choose_spec.2)
def po {t:BL} {b:æ} (h:sE t=some b):jt b/\Ţ b=t:=by
 unfold sE at h
 split at h
 ·rename_i a; cases h; exact a.choose_spec
 ·cases h
def ach {t:BL} (i:t.length<=60000):qz (ofL t)=some (match sE t with|some b=>(b,0)|none=>(Υ,7)):=by
 have a:∀b,(ε t).foldlM wW Υ=some b->aaF b:=fun b hb=>ZI _ _ _ fine0 (fun l f=>by
  unfold ε kO at f;obtain⟨y,h,rfl⟩:=List.mem_map.1 f;have:=(Aq (ofL t).size (ofL t)).2 y h;rw[<-qS]
  exact dG this (by rw[Ì]; omega)) hb
 rw[aml i]
 cases d:sE t with
 |some b =>
  obtain⟨g,rfl⟩:=po d;have hb:=IH g.prints;rw[hb];dsimp only;rw[W6 (a b hb),(Ļ b).2 g,Á];simp
 |none =>
  cases j:(ε t).foldlM wW Υ with
  |none=>rfl
  |some b =>
   dsimp only;rw[W6 (a b j),Á]
   by_cases h0:š b=0
   ·have c:ofL (Ţ b)≠ofL t:=fun e=>by
     have:=LS ((Ļ b).1 h0);rw[Vs e,d] at this;cases this
    rw[show(if š b≠0 then(ofL [],š b) else(ofL (Ţ b),0))=(ofL (Ţ b),0) from if_neg (by simp[h0])];exact if_pos (.inr c)
   ·rw[show(if š b≠0 then(ofL [],š b) else(ofL (Ţ b),0))=(ofL [],š b) from if_pos h0];exact if_pos (.inl h0)
def amj {t:BL} (h:t.length<=60000):pz (ofL t)=some (match sE t with|some b=>(b,true)|none=>(Υ,false)):=by
 have a:aaF ((CO t).foldl ta Υ):=ZH _ _ fine0 fun l f=>by
  unfold CO at f;have:=o8 10 t [] l (List.dropLast_subset _ (List.mem_of_mem_take f));simp at this; omega
 rw[aj2 h (UZ a.piles)]
 cases d:sE t with
 |some b =>
  obtain⟨c,rfl⟩:=po d;rw[afx c.prints,(Ļ b).2 c,if_neg (by simp),QN c,Á];simp
 |none =>
  by_cases h0:š ((CO t).foldl ta Υ)=0
  ·have g:=(Ļ _).1 h0;rw[if_neg (by simp[h0]),QN g,Á,if_pos];intro e;have:=LS g;rw[Vs e,d] at this;cases this
  ·rw[if_pos h0]
end Go.Proofs.ZzM
end

noncomputable section
namespace Go.Proofs.ZzM
open Go Go.Am
abbrev uW:=a8
abbrev Mx:=Int×rT Int
def aoe (b:æ) (g d:Int):Bool×Int:=if QH b g [d]≠0 then(false,QH b g [d]) else((Ń b g d).isSome,0)
def aod {b:æ} (h:In b) (g d:Int):AQ b g d=some (aoe b g d):=by
 have a:=h.size.loans;unfold AQ adt aoe;rw[ajN h g (by simp),Á]
 by_cases ha:QH b g [d]=0
 ·rw[Ï (by simp[ine,ha]),ajK (by omega),Á,if_neg (by simpa using ha)]
  cases Ń b g d<;>rfl
 ·rw[Ù (by simp[ine,ha]),if_pos ha]
end Go.Proofs.ZzM
end
