/- lemmas -/
import Derived.Test.YtanjeafjkgllhaaGreatDoorMdMA
set_option linter.all false
noncomputable section
variable {ρ:Type}
set_option maxRecDepth 100000
namespace Go.Proofs.ZzM
open Go Go.Am
variable [Globs] [LC]
def L2:(CA ρ).Ok (xZ ρ):=⟨by kernel_rfl,fun p v b a=>by kernel_rfl⟩
def L1:(Cy ρ).Ok (xZ ρ):=⟨by kernel_rfl,fun p v b a=>by kernel_rfl⟩
def RO (x:qs) (k:a7->w8 ρ) :
    Na (xZ ρ) 63 [Â,ab] [Â] x k=Wm x.1 x.2 k:=by kernel_rfl
def Mk:(C1 ρ).Ok (EV ρ):=⟨by kernel_rfl,fun p v b a=>by kernel_rfl⟩
def Mj:(C0 ρ).Ok (EV ρ):=⟨by kernel_rfl,fun p v b a=>by kernel_rfl⟩
def GZ:(wK ρ).Ok (F8 ρ):=⟨by kernel_rfl,fun p v b a=>by kernel_rfl⟩
def CW:(sI ρ).Ok (Ķ ρ):=⟨by kernel_rfl,fun p v b a=>by kernel_rfl⟩
def CX:(sK ρ).Ok (Ķ ρ):=⟨by kernel_rfl,fun p v b a=>by kernel_rfl⟩
def CV:(sG ρ).Ok (Ķ ρ):=⟨by kernel_rfl,fun p v b a=>by kernel_rfl⟩
def CU:(sE ρ).Ok (Ķ ρ):=⟨by kernel_rfl,fun p v b a=>by kernel_rfl⟩
def CS:(sr ρ).Ok (Ķ ρ):=⟨by kernel_rfl,fun p v b a=>by kernel_rfl⟩
def CQ:(sn ρ).Ok (Ķ ρ):=⟨by kernel_rfl,fun p v b a=>by kernel_rfl⟩
def CP:(sl ρ).Ok (Ķ ρ):=⟨by kernel_rfl,fun p v b a=>by kernel_rfl⟩
def CT:(sv ρ).Ok (Ķ ρ):=⟨by kernel_rfl,fun p v b a=>by kernel_rfl⟩
def G0 (x:qs) (k:l7->w8 ρ) :
    Na (Ķ ρ) 23 [Â,ab] [ab,tI] x k=F9 x.1 x.2 k:=by kernel_rfl
def Bn:(qJ ρ).Ok (kR ρ):=⟨by kernel_rfl,fun p v b a=>by kernel_rfl⟩
def Bm:(qH ρ).Ok (kR ρ):=⟨by kernel_rfl,fun p v b a=>by kernel_rfl⟩
def ET (x:nj) (k:th->w8 ρ) :
    Na (kR ρ) 24 [Â,tI] [.bool,tI] x k=CJ x.1 x.2 k:=by kernel_rfl
def UC:(NS ρ).Ok (JG ρ):=⟨by kernel_rfl,fun p v b a=>by kernel_rfl⟩
def UA:(NP ρ).Ok (JG ρ):=⟨by kernel_rfl,fun p v b a=>by kernel_rfl⟩
def Uz:(NM ρ).Ok (JG ρ):=⟨by kernel_rfl,fun p v b a=>by kernel_rfl⟩
def UB:(NR ρ).Ok (JG ρ):=⟨by kernel_rfl,fun p v b a=>by kernel_rfl⟩
def JQ:(Ac ρ).Ok (lZ ρ):=⟨by kernel_rfl,fun p v b a=>by kernel_rfl⟩
def JM:(zU ρ).Ok (lZ ρ):=⟨by kernel_rfl,fun p v b a=>by kernel_rfl⟩
def JN:(zW ρ).Ok (lZ ρ):=⟨by kernel_rfl,fun p v b a=>by kernel_rfl⟩
def JO:(zY ρ).Ok (lZ ρ):=⟨by kernel_rfl,fun p v b a=>by kernel_rfl⟩
def JP:(Aa ρ).Ok (lZ ρ):=⟨by kernel_rfl,fun p v b a=>by kernel_rfl⟩
def Jj:(zy ρ).Ok (Jk ρ):=⟨by kernel_rfl,fun p v b a=>by kernel_rfl⟩
def EZ:(vp ρ).Ok (Dc ρ):=⟨by kernel_rfl,fun p v b a=>by kernel_rfl⟩
def Mu:(C6 ρ).Ok (NL ρ):=⟨by kernel_rfl,fun p v b a=>by kernel_rfl⟩
def yR:(oY ρ).Ok (vl ρ):=⟨by kernel_rfl,fun p v b a=>by kernel_rfl⟩
def Br:(qS ρ).Ok (wY ρ):=⟨by kernel_rfl,fun p v b a=>by kernel_rfl⟩
def C2:(sW ρ).Ok (zJ ρ):=⟨by kernel_rfl,fun p v b a=>by kernel_rfl⟩
def EQ (x:Unit) (k:Bool->w8 ρ) :
    Na (wu ρ) 6 [] [.bool] x k=Cs k:=by kernel_rfl
def ML:(Dy ρ).Ok (NW ρ):=⟨by kernel_rfl,fun p v b a=>by kernel_rfl⟩
def Ke:(AA ρ).Ok (kg ρ):=⟨by kernel_rfl,fun p v b a=>by kernel_rfl⟩
def Kd:(Ay ρ).Ok (kg ρ):=⟨by kernel_rfl,fun p v b a=>by kernel_rfl⟩
def Kc:(Aw ρ).Ok (kg ρ):=⟨by kernel_rfl,fun p v b a=>by kernel_rfl⟩
def Kb:(As ρ).Ok (kg ρ):=⟨by kernel_rfl,fun p v b a=>by kernel_rfl⟩
def Ka:(Ar ρ).Ok (kg ρ):=⟨by kernel_rfl,fun p v b a=>by kernel_rfl⟩
def Py (x:b5) (k:tl->w8 ρ) :
    Na (kg ρ) 36 [Ë] [.str,tI] x k=DH x k:=by kernel_rfl
def Jl:(zz ρ).Ok (Bo ρ):=⟨by kernel_rfl,fun p v b a=>by kernel_rfl⟩
def Jm:(zB ρ).Ok (Bo ρ):=⟨by kernel_rfl,fun p v b a=>by kernel_rfl⟩
def E6:(vt ρ).Ok (oc ρ):=⟨by kernel_rfl,fun p v b a=>by kernel_rfl⟩
def J3 (x:fy) (k:ag->w8 ρ) :
    Na (oc ρ) 161 [au] [ab] x k=Bv x k:=by kernel_rfl
def J0:(Ah ρ).Ok (J1 ρ):=⟨by kernel_rfl,fun p v b a=>by kernel_rfl⟩
def Hn:(((ā (gR ρ).P 31).elim [] (Ï 0)).filter fun y=>Nat.beq y.1 0).length=1:=by kernel_rfl
def Kj:BZ (ij (ā (gR ρ).P 31) 0)=true:=by kernel_rfl
def Ki (p:v7) (v a:v8):(Û iw [.str,tI,tI,tI,tI,tI,tI] [tI,tI,ae,aa,af,ac,aa,tI,tI,tI,ae,aa,af,ac,aa] p a).t=(Û iw [.str,tI,tI,tI,tI,tI,tI] [tI,tI,ae,aa,af,ac,aa,tI,tI,tI,ae,aa,af,ac,aa] p v).t:=by kernel_rfl
def Kg (p:v7) (v:v8) (z:Val aI):(Û AC [.str,tI,tI,tI,tI,tI,tI] [tI,tI,ae,aa,af,ac,aa,tI] p z).t=(Û iw [.str,tI,tI,tI,tI,tI,tI] [tI,tI,ae,aa,af,ac,aa,tI,tI,tI,ae,aa,af,ac,aa] p v).t:=by kernel_rfl
def Kh (p:v7) (v:v8):(Û iw [.str,tI,tI,tI,tI,tI,tI] [tI,tI,ae,aa,af,ac,aa,tI,tI,tI,ae,aa,af,ac,aa] p v).t.all (st3 18)=true:=by kernel_rfl
def Hr (p:v7) (v:v8) (y:ByteArray) (g:v7->v8->w8 ρ) (f:v7->Val aI->w8 ρ):Nj (gR ρ) (ĺ (gR ρ) (10-0 / 2)) 31 [] 18 0 (ij (ā (gR ρ).P 31) 0) (Û iw [.str,tI,tI,tI,tI,tI,tI] [tI,tI,ae,aa,af,ac,aa,tI,tI,tI,ae,aa,af,ac,aa] p v) (.str y) ((rO ρ).back g f)=m8 p.2.1 p.2.2.1 p.2.2.2.1 p.2.2.2.2.1 p.2.2.2.2.2.1 p.2.2.2.2.2.2 v.1 v.2.1 v.2.2.1 v.2.2.2.1 v.2.2.2.2.1 v.2.2.2.2.2.1 v.2.2.2.2.2.2.1 v.2.2.2.2.2.2.2.1 v.2.2.2.2.2.2.2.2.1 v.2.2.2.2.2.2.2.2.2.1 v.2.2.2.2.2.2.2.2.2.2.1 v.2.2.2.2.2.2.2.2.2.2.2.1 v.2.2.2.2.2.2.2.2.2.2.2.2.1 v.2.2.2.2.2.2.2.2.2.2.2.2.2.1 v.2.2.2.2.2.2.2.2.2.2.2.2.2.2 y (fun n u1 u2 m l k j i u8 h e d c b a=>g p (n,u1,u2,m,l,k,j,i,u8,h,e,d,c,b,a)) (f p):=by kernel_rfl
def Ho (p:v7) (v:v8) (y:ByteArray) (g:v7->v8->w8 ρ) (f:v7->Val aI->w8 ρ):m8 p.2.1 p.2.2.1 p.2.2.2.1 p.2.2.2.2.1 p.2.2.2.2.2.1 p.2.2.2.2.2.2 v.1 v.2.1 v.2.2.1 v.2.2.2.1 v.2.2.2.2.1 v.2.2.2.2.2.1 v.2.2.2.2.2.2.1 v.2.2.2.2.2.2.2.1 v.2.2.2.2.2.2.2.2.1 v.2.2.2.2.2.2.2.2.2.1 v.2.2.2.2.2.2.2.2.2.2.1 v.2.2.2.2.2.2.2.2.2.2.2.1 v.2.2.2.2.2.2.2.2.2.2.2.2.1 v.2.2.2.2.2.2.2.2.2.2.2.2.2.1 v.2.2.2.2.2.2.2.2.2.2.2.2.2.2 y (fun n u1 u2 m l k j i u8 h e d c b a=>g p (n,u1,u2,m,l,k,j,i,u8,h,e,d,c,b,a)) (f p)=Ã (ť p.2.1 p.2.2.1 p.2.2.2.1 p.2.2.2.2.1 p.2.2.2.2.2.1 p.2.2.2.2.2.2 v y) (outX (g p) (f p)):=by
  unfold ť m8
  simp only[adU,agr,agq,adT,adR,adS,nat_ck,adQ,outX]
def Pz (x:Val .str) (k:nn->w8 ρ) :
    Na (gR ρ) 31 [.str] [Ë,tI] x k=Kl x k:=by kernel_rfl
def Js:(zE ρ).Ok (Ź ρ):=⟨by kernel_rfl,fun p v b a=>by kernel_rfl⟩
def G3:(((ā (Ź ρ).P 7).elim [] (Ï 0)).filter fun y=>Nat.beq y.1 0).length=1:=by kernel_rfl
def Jq:BZ (ij (ā (Ź ρ).P 7) 0)=true:=by kernel_rfl
def Jp (p:Val br) (v a:Val aw):(Û iv [.str,tI,tI,ae,aa,af,ac,aa,tI,tI,ae,aa,af,ac,aa] [tI,tI,ae,aa,af,ac,aa,aj,tI,aj] p a).t=(Û iv [.str,tI,tI,ae,aa,af,ac,aa,tI,tI,ae,aa,af,ac,aa] [tI,tI,ae,aa,af,ac,aa,aj,tI,aj] p v).t:=by kernel_rfl
def Jn (p:Val br) (v:Val aw) (z:Val aG):(Û zD [.str,tI,tI,ae,aa,af,ac,aa,tI,tI,ae,aa,af,ac,aa] [tI,tI,ae,aa,af,ac,aa,aj,tI] p z).t=(Û iv [.str,tI,tI,ae,aa,af,ac,aa,tI,tI,ae,aa,af,ac,aa] [tI,tI,ae,aa,af,ac,aa,aj,tI,aj] p v).t:=by kernel_rfl
def Jo (p:Val br) (v:Val aw):(Û iv [.str,tI,tI,ae,aa,af,ac,aa,tI,tI,ae,aa,af,ac,aa] [tI,tI,ae,aa,af,ac,aa,aj,tI,aj] p v).t.all (st3 4)=true:=by kernel_rfl
def G4 (p:Val br) (v:Val aw) (y:ByteArray) (b:Val br->Val aw->w8 ρ) (a:Val br->Val aG->w8 ρ):Nj (Ź ρ) (ĺ (Ź ρ) (10-0 / 2)) 7 [] 4 0 (ij (ā (Ź ρ).P 7) 0) (Û iv [.str,tI,tI,ae,aa,af,ac,aa,tI,tI,ae,aa,af,ac,aa] [tI,tI,ae,aa,af,ac,aa,aj,tI,aj] p v) (.str y) ((rL ρ).back b a)=wQ v.1 v.2.1 v.2.2.1 v.2.2.2.1 v.2.2.2.2.1 v.2.2.2.2.2.1 v.2.2.2.2.2.2.1 v.2.2.2.2.2.2.2.1 v.2.2.2.2.2.2.2.2.1 v.2.2.2.2.2.2.2.2.2 y (fun i u1 u2 h g f e d u8 c=>b p (i,u1,u2,h,g,f,e,d,u8,c)) (a p):=by kernel_rfl
def Pl (x:Val .str) (k:nj->w8 ρ) :
    Na (Ź ρ) 7 [.str] [Â,tI] x k=Jt x k:=by kernel_rfl
def Me:(CL ρ).Ok (EU ρ):=⟨by kernel_rfl,fun p v b a=>by kernel_rfl⟩
def Mg:(CN ρ).Ok (EU ρ):=⟨by kernel_rfl,fun p v b a=>by kernel_rfl⟩
def yS:(pr ρ).Ok (vm ρ):=⟨by kernel_rfl,fun p v b a=>by kernel_rfl⟩
def JE:(zN ρ).Ok (pq ρ):=⟨by kernel_rfl,fun p v b a=>by kernel_rfl⟩
def JD:(zM ρ).Ok (pq ρ):=⟨by kernel_rfl,fun p v b a=>by kernel_rfl⟩
def JC:(zL ρ).Ok (pq ρ):=⟨by kernel_rfl,fun p v b a=>by kernel_rfl⟩
def JB:(zK ρ).Ok (pq ρ):=⟨by kernel_rfl,fun p v b a=>by kernel_rfl⟩
def Jz:(zI ρ).Ok (JA ρ):=⟨by kernel_rfl,fun p v b a=>by kernel_rfl⟩
def A9:(qq ρ).Ok (iJ ρ):=⟨by kernel_rfl,fun p v b a=>by kernel_rfl⟩
def A8:(qo ρ).Ok (iJ ρ):=⟨by kernel_rfl,fun p v b a=>by kernel_rfl⟩
def Ba:(qt ρ).Ok (iJ ρ):=⟨by kernel_rfl,fun p v b a=>by kernel_rfl⟩
def ER (x:Val (.pair Â .str)) (k:Bool->w8 ρ) :
    Na (iJ ρ) 3 [Â,.str] [.bool] x k=tZ x.1 x.2 k:=by kernel_rfl
end Go.Proofs.ZzM
end
