/- lemmas -/
import Derived.Test.YthpkdfdacidamaaGreatMdMA
set_option linter.all false
set_option linter.unusedSectionVars false
set_option linter.unusedVariables false
set_option linter.unusedSimpArgs false
noncomputable section
variable {ρ:Type}
set_option maxRecDepth 100000
namespace Go.Proofs.ZzM
open Go Go.Am
def M9:(C9 ρ).Ok (Ea ρ):=⟨by kernel_rfl,fun p v kn kx=>by kernel_rfl⟩
def S8 (x:Val (.pair Ê Ŋ)) (k:Int→Option ρ) :
    Ű (Ea ρ) 107 [Ê,tI,ab] [tI] x k=Na x.1 x.2.1 x.2.2 k:=by kernel_rfl
def V9 (x:Val aM) (k:(Val aK)→Option ρ) :
    Ű (Qr ρ) 59 [Ê,tI,tI] [.bool,tI] x k=Tf x.1 x.2.1 x.2.2 k:=by kernel_rfl
def L3:(CH ρ).Ok (mn ρ):=⟨by kernel_rfl,fun p v kn kx=>by kernel_rfl⟩
def LZ:(CF ρ).Ok (mn ρ):=⟨by kernel_rfl,fun p v kn kx=>by kernel_rfl⟩
def LY:(CE ρ).Ok (mn ρ):=⟨by kernel_rfl,fun p v kn kx=>by kernel_rfl⟩
def LX:(CD ρ).Ok (mn ρ):=⟨by kernel_rfl,fun p v kn kx=>by kernel_rfl⟩
def LW:(CC ρ).Ok (mn ρ):=⟨by kernel_rfl,fun p v kn kx=>by kernel_rfl⟩
def RM (x:Val (.pair Ê (.pair ai tI))) (k:Int→Option ρ) :
    Ű (mn ρ) 23 [Ê,ai,tI] [tI] x k=L4 x.1 x.2.1 x.2.2 k:=by kernel_rfl
def Mh:(CN ρ).Ok (xG ρ):=⟨by kernel_rfl,fun p v kn kx=>by kernel_rfl⟩
def Mi:(CO ρ).Ok (xG ρ):=⟨by kernel_rfl,fun p v kn kx=>by kernel_rfl⟩
def Sb (x:Val Â) (k:Int→Option ρ) :
    Ű (xG ρ) 4 [Â] [tI] x k=FA x k:=by kernel_rfl
def sG:(lF ρ).Ok (jC ρ):=⟨by kernel_rfl,fun p v kn kx=>by kernel_rfl⟩
def vN (x:Val (.pair ai ah)) (k:Bool→Option ρ) :
    Ű (jC ρ) 5 [ai,ah] [.bool] x k=lg x.1 x.2 k:=by kernel_rfl
def LN:(Cz ρ).Ok (DK ρ):=⟨by kernel_rfl,fun p v kn kx=>by kernel_rfl⟩
def RI (x:Val (.pair Â Ã)) (k:Int→Option ρ) :
    Ű (DK ρ) 34 [Â,tI,tI] [tI] x k=LO x.1 x.2.1 x.2.2 k:=by kernel_rfl
def RB:(Jd ρ).Ok (LG ρ):=⟨by kernel_rfl,fun p v kn kx=>by kernel_rfl⟩
def X4 (x:Val (.pair Â (.pair ah Ã))) (k:Int→Option ρ) :
    Ű (LG ρ) 45 [Â,ah,tI,tI] [tI] x k=X5 x.1 x.2.1 x.2.2.1 x.2.2.2 k:=by kernel_rfl
def zN:(qm ρ).Ok (ox ρ):=⟨by kernel_rfl,fun p v kn kx=>by kernel_rfl⟩
def DF (x:Val (.pair ab (.pair tI (.pair ax aI)))) (k:(Val ab)→Option ρ) :
    Ű (ox ρ) 84 [ab,tI,ax,aI] [ab] x k=rI x.1 x.2.1 x.2.2.1 x.2.2.2 k:=by kernel_rfl
def DD:(tB ρ).Ok (Μ ρ):=⟨by kernel_rfl,fun p v kn kx=>by kernel_rfl⟩
def DC:(tx ρ).Ok (Μ ρ):=⟨by kernel_rfl,fun p v kn kx=>by kernel_rfl⟩
def DB:(tr ρ).Ok (Μ ρ):=⟨by kernel_rfl,fun p v kn kx=>by kernel_rfl⟩
def DA:(tp ρ).Ok (Μ ρ):=⟨by kernel_rfl,fun p v kn kx=>by kernel_rfl⟩
def HG (x:Val aJ) (k:Val Ê→Option ρ) :
    Ű (Μ ρ) 42 [Â,ah] [Ê] x k=xx x.1 x.2 k:=by kernel_rfl
def Pm:(F8 ρ).Ok (Bv ρ):=⟨by kernel_rfl,fun p v kn kx=>by kernel_rfl⟩
def Pl:(F6 ρ).Ok (Bv ρ):=⟨by kernel_rfl,fun p v kn kx=>by kernel_rfl⟩
def VO (x:Val (.pair Ê (.pair Ù Ã))) (k:Int→Option ρ) :
    Ű (Bv ρ) 113 [Ê,Ù,tI,tI] [tI] x k=SN x.1 x.2.1 x.2.2.1 x.2.2.2 k:=by kernel_rfl
def nt:(iA ρ).Ok (Ŷ ρ):=⟨by kernel_rfl,fun p v kn kx=>by kernel_rfl⟩
def oG (x:Val (.pair aa Ã)) (k:Int→Option ρ) :
    Ű (Ŷ ρ) 131 [aa,Ã] [tI] x k=Ο x.1 x.2 k:=by kernel_rfl
def Kc (x:Val (.pair aY aD)) (k:Int→Option ρ) :
    Ű (C8 ρ) 154 [aY,ab,tI] [tI] x k=AC x.1 x.2.1 x.2.2 k:=by kernel_rfl
def Cj (x:Val (.pair aq ab)) (k:Val Ã→Option ρ) :
    Ű (tX ρ) 191 [aq,ab] [Ã] x k=qe x.1 x.2 k:=by kernel_rfl
def MF:(C3 ρ).Ok (DU ρ):=⟨by kernel_rfl,fun p v kn kx=>by kernel_rfl⟩
def Sv (x:Val aa) (k:Int→Option ρ) :
    Ű (DU ρ) 194 [aa] [tI] x k=MG x k:=by kernel_rfl
def MI (x:Val Ã) (k:(Val aL)→Option ρ) :
    Ű (FR ρ) 201 [tI,tI] [Ã,tI] x k=DW x.1 x.2 k:=by kernel_rfl
def Yq (x:Val Ę) (k:(Val aL)→Option ρ) :
    Ű (VC ρ) 197 [Ã,Ã] [Ã,tI] x k=Yr x.1 x.2 k:=by kernel_rfl
def Ia (x:Val Ę) (k:Val Ã→Option ρ) :
    Ű (AB ρ) 192 [Ã,Ã] [Ã] x k=xU x.1 x.2 k:=by kernel_rfl
def Yn (x:Val Ę) (k:Int→Option ρ) :
    Ű (VA ρ) 206 [Ã,Ã] [tI] x k=Yo x.1 x.2 k:=by kernel_rfl
def FT (x:Val Ę) (k:Bool→Option ρ) :
    Ű (yH ρ) 202 [Ę] [.bool] x k=vg x k:=by kernel_rfl
def Yt (x:Val Ę) (k:(Val aL)→Option ρ) :
    Ű (VE ρ) 205 [Ã,Ã] [Ã,tI] x k=Yu x.1 x.2 k:=by kernel_rfl
def SE (x:Val (.pair Ę Ã)) (k:(Val (.pair Ę tI))→Option ρ) :
    Ű (DX ρ) 198 [Ę,Ã] [Ę,tI] x k=MO x.1 x.2 k:=by kernel_rfl
def H8 (x:Val Ę) (k:Val Ę→Option ρ) :
    Ű (AA ρ) 193 [Ã,Ã] [Ę] x k=xT x.1 x.2 k:=by kernel_rfl
def Pw (x:Val bg) (k:Val Ę→Option ρ) :
    Ű (Jq ρ) 178 [Ê,Þ] [Ę] x k=Ic x.1 x.2 k:=by kernel_rfl
def SY (x:Val bg) (k:Val Ã→Option ρ) :
    Ű (M7 ρ) 179 [Ê,Þ] [Ã] x k=M8 x.1 x.2 k:=by kernel_rfl
def Sz (x:Val Ã) (k:Int→Option ρ) :
    Ű (MK ρ) 195 [tI,tI] [tI] x k=ML x.1 x.2 k:=by kernel_rfl
def SG (x:Val Ã) (k:Val Ã→Option ρ) :
    Ű (MP ρ) 180 [Ã] [tI,tI] x k=MQ x k:=by kernel_rfl
def VH (x:Val Ã) (k:Val Ã→Option ρ) :
    Ű (Qo ρ) 181 [Ã] [tI,tI] x k=SH x k:=by kernel_rfl
def VJ (x:Val bg) (k:Val Ã→Option ρ) :
    Ű (Qp ρ) 156 [Ê,Þ] [Ã] x k=SJ x.1 x.2 k:=by kernel_rfl
def Pj:(F0 ρ).Ok (wB ρ):=⟨by kernel_rfl,fun p v kn kx=>by kernel_rfl⟩
def Pk:(F4 ρ).Ok (wB ρ):=⟨by kernel_rfl,fun p v kn kx=>by kernel_rfl⟩
def Ph:(FY ρ).Ok (wB ρ):=⟨by kernel_rfl,fun p v kn kx=>by kernel_rfl⟩
def VM (x:Val Ê) (k:(Val aY)→Option ρ) :
    Ű (wB ρ) 82 [Ê] [aY] x k=SM x k:=by kernel_rfl
def PB (x:Val Ê) (k:(Val (.pair Ö bi))→Option ρ) :
    Ű (Jr ρ) 41 [Ê] [Ö,aa,tI] x k=Ih x k:=by kernel_rfl
def Vp (x:Val (.pair Ö tI)) (k:Bool→Option ρ) :
    Ű (Qf ρ) 128 [Ö,tI] [.bool] x k=Sc x.1 x.2 k:=by kernel_rfl
def MB:(C2 ρ).Ok (DT ρ):=⟨by kernel_rfl,fun p v kn kx=>by kernel_rfl⟩
def Sq (x:Val Ö) (k:Val Ã→Option ρ) :
    Ű (DT ρ) 86 [Ö] [tI,tI] x k=MC x k:=by kernel_rfl
def FL:(wy ρ).Ok (iw ρ):=⟨by kernel_rfl,fun p v kn kx=>by kernel_rfl⟩
def FK:(ww ρ).Ok (iw ρ):=⟨by kernel_rfl,fun p v kn kx=>by kernel_rfl⟩
def FI:(wq ρ).Ok (iw ρ):=⟨by kernel_rfl,fun p v kn kx=>by kernel_rfl⟩
def FJ:(wu ρ).Ok (iw ρ):=⟨by kernel_rfl,fun p v kn kx=>by kernel_rfl⟩
def FH:(wp ρ).Ok (iw ρ):=⟨by kernel_rfl,fun p v kn kx=>by kernel_rfl⟩
def J2 (x:Val (.pair Ö ar)) (k:(Val (.pair ab .bool))→Option ρ) :
    Ű (iw ρ) 87 [Ö,ar] [ab,.bool] x k=Aj x.1 x.2 k:=by kernel_rfl
def FP (x:Val Ö) (k:(Val aK)→Option ρ) :
    Ű (yG ρ) 64 [Ö] [.bool,tI] x k=vf x k:=by kernel_rfl
def JR (x:Val aJ) (k:Bool→Option ρ) :
    Ű (CJ ρ) 31 [Â,ah] [.bool] x k=zR x.1 x.2 k:=by kernel_rfl
def JK:(zK ρ).Ok (tk ρ):=⟨by kernel_rfl,fun p v kn kx=>by kernel_rfl⟩
def JL:(zM ρ).Ok (tk ρ):=⟨by kernel_rfl,fun p v kn kx=>by kernel_rfl⟩
def Ot (x:Val aJ) (k:Int→Option ρ) :
    Ű (tk ρ) 27 [Â,ah] [tI] x k=HE x.1 x.2 k:=by kernel_rfl
def DZ (x:Val tI) (k:Bool→Option ρ) :
    Ű (wA ρ) 124 [tI] [.bool] x k=rZ x k:=by kernel_rfl
def Az (x:Val Ã) (k:Int→Option ρ) :
    Ű (sa ρ) 81 [tI,tI] [tI] x k=oJ x.1 x.2 k:=by kernel_rfl
def Oz (x:Val (.pair ah (.pair ah ax))) (k:Int→Option ρ) :
    Ű (Jf ρ) 80 [ah,ah,ax] [tI] x k=HF x.1 x.2.1 x.2.2 k:=by kernel_rfl
def mU:(ij ρ).Ok (ý ρ):=⟨by kernel_rfl,fun p v kn kx=>by kernel_rfl⟩
def mV:(ik ρ).Ok (ý ρ):=⟨by kernel_rfl,fun p v kn kx=>by kernel_rfl⟩
def nW (xs:(Val am)) (x:Val Ã) (m:Val Â) (k:((Val am))×(Val Â)→Option ρ) :
    wQ (ý ρ) (Κ (ý ρ) 10) [] 152 (Dq ĉ x) (kZ ĉ xs m) (K8 ĉ fun zs m2=>k (zs,m2))=Δ xs x.1 x.2 m k:=by kernel_rfl
def rU:(kX ρ).Ok (ć ρ):=⟨by kernel_rfl,fun p v kn kx=>by kernel_rfl⟩
def rS:(kT ρ).Ok (ć ρ):=⟨by kernel_rfl,fun p v kn kx=>by kernel_rfl⟩
def rV:(kY ρ).Ok (ć ρ):=⟨by kernel_rfl,fun p v kn kx=>by kernel_rfl⟩
def rR:(kS ρ).Ok (ć ρ):=⟨by kernel_rfl,fun p v kn kx=>by kernel_rfl⟩
def uY (xs:(Val am)) (x:Val Ĥ) (m:Val Â) (k:((Val am))×(Val Â)→Option ρ) :
    wQ (ć ρ) (Κ (ć ρ) 10) [] 177 (Dq ł x) (kZ ł xs m) (K8 ł fun zs m2=>k (zs,m2))=jW xs x.1 x.2.1 x.2.2 m k:=by kernel_rfl
def pA {rec:(Val am)→Int→Int→Int→(Val Â)→Option ((Val am)×(Val Â))}:(((į (Æ rec ρ).P 153).elim [] (ß 0)).filter fun y=>Nat.beq y.1 0).length=1:=by kernel_rfl
def pB {rec:(Val am)→Int→Int→Int→(Val Â)→Option ((Val am)×(Val Â))} (p:Val ay) (v:Val Ã) (kn:Val ay→Val Ã→Option ρ) (kx:(i:Nat)→Val ay→Val (tyL (Ď.zs i))→Option ρ) :
    goC (Æ rec ρ) (Κ (Æ rec ρ) (10-0 / 2)) 153 [] 2 0 (wC (į (Æ rec ρ).P 153) 0) (þ Ď.head Ď.cs Ď.vs p v) (Hk Ď kn kx)=(Γ rec ρ).bF p v (kn p) (fun i=>kx i p):=by kernel_rfl
def qd {rec:(Val am)→Int→Int→Int→(Val Â)→Option ((Val am)×(Val Â))}:(Γ rec ρ).Ok (Æ rec ρ):=⟨pA,pB⟩
def pw {rec:(Val am)→Int→Int→Int→(Val Â)→Option ((Val am)×(Val Â))}:(((į (Æ rec ρ).P 153).elim [] (ß 0)).filter fun y=>Nat.beq y.1 2).length=1:=by kernel_rfl
def pz {rec:(Val am)→Int→Int→Int→(Val Â)→Option ((Val am)×(Val Â))} (p:Val aG) (v:Val aF) (kn:Val aG→Val aF→Option ρ) (kx:(i:Nat)→Val aG→Val (tyL (č.zs i))→Option ρ) :
    goC (Æ rec ρ) (Κ (Æ rec ρ) (10-0 / 2)) 153 [] 2 2 (wC (į (Æ rec ρ).P 153) 2) (þ č.head č.cs č.vs p v) (Hk č kn kx)=(Β rec ρ).bF p v (kn p) (fun i=>kx i p):=by kernel_rfl
def pZ {rec:(Val am)→Int→Int→Int→(Val Â)→Option ((Val am)×(Val Â))}:(Β rec ρ).Ok (Æ rec ρ):=⟨pw,pz⟩
def pu {rec:(Val am)→Int→Int→Int→(Val Â)→Option ((Val am)×(Val Â))}:(((į (Æ rec ρ).P 153).elim [] (ß 0)).filter fun y=>Nat.beq y.1 4).length=1:=by kernel_rfl
def pv {rec:(Val am)→Int→Int→Int→(Val Â)→Option ((Val am)×(Val Â))} (p:Val ay) (v:Val Ã) (kn:Val ay→Val Ã→Option ρ) (kx:(i:Nat)→Val ay→Val (tyL (Č.zs i))→Option ρ) :
    goC (Æ rec ρ) (Κ (Æ rec ρ) (10-0 / 2)) 153 [] 2 4 (wC (į (Æ rec ρ).P 153) 4) (þ Č.head Č.cs Č.vs p v) (Hk Č kn kx)=(Α rec ρ).bF p v (kn p) (fun i=>kx i p):=by kernel_rfl
def pY {rec:(Val am)→Int→Int→Int→(Val Â)→Option ((Val am)×(Val Â))}:(Α rec ρ).Ok (Æ rec ρ):=⟨pu,pv⟩
def pq {rec:(Val am)→Int→Int→Int→(Val Â)→Option ((Val am)×(Val Â))}:(((į (Æ rec ρ).P 153).elim [] (ß 0)).filter fun y=>Nat.beq y.1 6).length=1:=by kernel_rfl
def pr {rec:(Val am)→Int→Int→Int→(Val Â)→Option ((Val am)×(Val Â))} (p:Val aG) (v:Val aF) (kn:Val aG→Val aF→Option ρ) (kx:(i:Nat)→Val aG→Val (tyL (ċ.zs i))→Option ρ) :
    goC (Æ rec ρ) (Κ (Æ rec ρ) (10-0 / 2)) 153 [] 2 6 (wC (į (Æ rec ρ).P 153) 6) (þ ċ.head ċ.cs ċ.vs p v) (Hk ċ kn kx)=(ž rec ρ).bF p v (kn p) (fun i=>kx i p):=by kernel_rfl
def pX {rec:(Val am)→Int→Int→Int→(Val Â)→Option ((Val am)×(Val Â))}:(ž rec ρ).Ok (Æ rec ρ):=⟨pq,pr⟩
def po {rec:(Val am)→Int→Int→Int→(Val Â)→Option ((Val am)×(Val Â))}:(((į (Æ rec ρ).P 153).elim [] (ß 0)).filter fun y=>Nat.beq y.1 8).length=1:=by kernel_rfl
def pp {rec:(Val am)→Int→Int→Int→(Val Â)→Option ((Val am)×(Val Â))} (p:Val aS) (v:Val Ã) (kn:Val aS→Val Ã→Option ρ) (kx:(i:Nat)→Val aS→Val (tyL (Ċ.zs i))→Option ρ) :
    goC (Æ rec ρ) (Κ (Æ rec ρ) (10-0 / 2)) 153 [] 2 8 (wC (į (Æ rec ρ).P 153) 8) (þ Ċ.head Ċ.cs Ċ.vs p v) (Hk Ċ kn kx)=(Ž rec ρ).bF p v (kn p) (fun i=>kx i p):=by kernel_rfl
def pW {rec:(Val am)→Int→Int→Int→(Val Â)→Option ((Val am)×(Val Â))}:(Ž rec ρ).Ok (Æ rec ρ):=⟨po,pp⟩
def rN {rec:(Val am)→Int→Int→Int→(Val Â)→Option ((Val am)×(Val Â))} (F:(Val am)→Val Ĥ→Val Â→Option ((Val am)×Val Â)) (xs:(Val am)) (x:Val Ĥ) (m:Val Â) (k:((Val am))×(Val Â)→Option ρ) :
    wQ (Æ rec ρ) (Κ (Æ rec ρ) 10) [] 153 (Dq ⟨ah,[tI,tI,tI],80,Â,F⟩ x) (kZ ⟨ah,[tI,tI,tI],80,Â,F⟩ xs m) (K8 ⟨ah,[tI,tI,tI],80,Â,F⟩ fun zs m2=>k (zs,m2))=ĭ rec xs x.1 x.2.1 x.2.2 m k:=by kernel_rfl
def rQ:(kR ρ).Ok (ę ρ):=⟨by kernel_rfl,fun p v kn kx=>by kernel_rfl⟩
def rO:(kP ρ).Ok (ę ρ):=⟨by kernel_rfl,fun p v kn kx=>by kernel_rfl⟩
def rP:(kQ ρ).Ok (ę ρ):=⟨by kernel_rfl,fun p v kn kx=>by kernel_rfl⟩
def uX (xs:(Val am)) (x:Val tI) (m:Val Â) (k:((Val am))×(Val Â)→Option ρ) :
    wQ (ę ρ) (Κ (ę ρ) 10) [] 123 (Dq Ħ x) (kZ Ħ xs m) (K8 Ħ fun zs m2=>k (zs,m2))=jV xs x m k:=by kernel_rfl
def L6:(((į (iP ρ).P 120).elim [] (ß 0)).filter fun y=>Nat.beq y.1 0).length=1:=by kernel_rfl
def OM:Ra (og (į (iP ρ).P 120) 0)=true:=by kernel_rfl
def OJ (p:Val aB) (v v':Val am):(þ nl [tI,tI,ae,aa,af,ac,aa,ai,tI,tI,ae,aa,af,ac,aa,ai] [am] p v').t=(þ nl [tI,tI,ae,aa,af,ac,aa,ai,tI,tI,ae,aa,af,ac,aa,ai] [am] p v).t:=by kernel_rfl
def OK (p:Val aB) (v:Val am):(þ nl [tI,tI,ae,aa,af,ac,aa,ai,tI,tI,ae,aa,af,ac,aa,ai] [am] p v).t.all (st3 4)=true:=by kernel_rfl
def L7 (p:Val aB) (v:Val am) (y:(Val ah)) (kn:Val aB→Val am→Option ρ):Cv (iP ρ) (Κ (iP ρ) (10-6 / 2)) 120 [1,1,1,3,1,1] 4 0 (og (į (iP ρ).P 120) 0) (þ nl [tI,tI,ae,aa,af,ac,aa,ai,tI,tI,ae,aa,af,ac,aa,ai] [am] p v) (enc ah y) ((qy ρ).back kn)=(qy ρ).bF p v y (kn p):=by kernel_rfl
def OO (hit:lW Tryz.prog sh):(qy ρ).Ok (iP ρ):=⟨L6,hit,OJ,OK,L7⟩
def OQ:(Fp ρ).Ok (iP ρ):=⟨by kernel_rfl,fun p v kn kx=>by kernel_rfl⟩
def OP:(Fm ρ).Ok (iP ρ):=⟨by kernel_rfl,fun p v kn kx=>by kernel_rfl⟩
def Vf (x:Val Â) (k:(Val am)→Option ρ) :
    Ű (iP ρ) 44 [Â] [am] x k=RN x k:=by kernel_rfl
def Td (x:Val aM) (k:Val Ã→Option ρ) :
    Ű (Nb ρ) 93 [Ê,Ã] [tI,tI] x k=Nc x.1 x.2 k:=by kernel_rfl
def PC:(Gm ρ).Ok (Ii ρ):=⟨by kernel_rfl,fun p v kn kx=>by kernel_rfl⟩
def V6 (x:Val aM) (k:(Val (.pair Ê tI))→Option ρ) :
    Ű (Ii ρ) 94 [Ê,Ã] [Ê,tI] x k=Tb x.1 x.2 k:=by kernel_rfl
def Mp:(CP ρ).Ok (DS ρ):=⟨by kernel_rfl,fun p v kn kx=>by kernel_rfl⟩
def Sh (x:Val (.pair Ö ab)) (k:Int→Option ρ) :
    Ű (DS ρ) 134 [Ö,ab] [tI] x k=Mq x.1 x.2 k:=by kernel_rfl
def J7:(Au ρ).Ok (j6 ρ):=⟨by kernel_rfl,fun p v kn kx=>by kernel_rfl⟩
def J6:(Ar ρ).Ok (j6 ρ):=⟨by kernel_rfl,fun p v kn kx=>by kernel_rfl⟩
def J5:(Ap ρ).Ok (j6 ρ):=⟨by kernel_rfl,fun p v kn kx=>by kernel_rfl⟩
def J3:(Ak ρ).Ok (j6 ρ):=⟨by kernel_rfl,fun p v kn kx=>by kernel_rfl⟩
def J4:(Ao ρ).Ok (j6 ρ):=⟨by kernel_rfl,fun p v kn kx=>by kernel_rfl⟩
def O5 (x:Val (.pair Ö (.pair ar tI))) (k:(Val ab)→Option ρ) :
    Ű (j6 ρ) 171 [Ö,ar,tI] [ab] x k=HX x.1 x.2.1 x.2.2 k:=by kernel_rfl
def Ms:(CS ρ).Ok (xQ ρ):=⟨by kernel_rfl,fun p v kn kx=>by kernel_rfl⟩
def Mr:(CQ ρ).Ok (xQ ρ):=⟨by kernel_rfl,fun p v kn kx=>by kernel_rfl⟩
def Sj (x:Val Ö) (k:(Val bi)→Option ρ) :
    Ű (xQ ρ) 95 [Ö] [aa,tI] x k=Mu x k:=by kernel_rfl
def OD (x:Val aM) (k:(Val aL)→Option ρ) :
    Ű (Jg ρ) 46 [Ê,Ã] [Ã,tI] x k=HH x.1 x.2 k:=by kernel_rfl
def JY:(Aa ρ).Ok (tP ρ):=⟨by kernel_rfl,fun p v kn kx=>by kernel_rfl⟩
def JX:(zY ρ).Ok (tP ρ):=⟨by kernel_rfl,fun p v kn kx=>by kernel_rfl⟩
def OY (x:Val (.pair Â Ã)) (k:(Val (.pair ak tI))→Option ρ) :
    Ű (tP ρ) 18 [Â,tI,tI] [ak,tI] x k=HQ x.1 x.2.1 x.2.2 k:=by kernel_rfl
def OU:(Fu ρ).Ok (Br ρ):=⟨by kernel_rfl,fun p v kn kx=>by kernel_rfl⟩
def OV:(Fw ρ).Ok (Br ρ):=⟨by kernel_rfl,fun p v kn kx=>by kernel_rfl⟩
def Vi (x:Val Â) (k:(Val aD)→Option ρ) :
    Ű (Br ρ) 20 [Â] [ab,tI] x k=RS x k:=by kernel_rfl
def LK:(((į (kp ρ).P 120).elim [] (ß 0)).filter fun y=>Nat.beq y.1 0).length=1:=by kernel_rfl
def Ow:Ra (og (į (kp ρ).P 120) 0)=true:=by kernel_rfl
def Ou (p:Val aj) (v v':Val am):(þ nk [tI,tI,ae,aa,af,ac,aa,ai] [am] p v').t=(þ nk [tI,tI,ae,aa,af,ac,aa,ai] [am] p v).t:=by kernel_rfl
def Ov (p:Val aj) (v:Val am):(þ nk [tI,tI,ae,aa,af,ac,aa,ai] [am] p v).t.all (st3 3)=true:=by kernel_rfl
def LL (p:Val aj) (v:Val am) (y:(Val ah)) (kn:Val aj→Val am→Option ρ):Cv (kp ρ) (Κ (kp ρ) (10-4 / 2)) 120 [1,3,1,1] 3 0 (og (į (kp ρ).P 120) 0) (þ nk [tI,tI,ae,aa,af,ac,aa,ai] [am] p v) (enc ah y) ((qx ρ).back kn)=(qx ρ).bF p v y (kn p):=by kernel_rfl
def Ox (hit:lW Tryz.prog sh):(qx ρ).Ok (kp ρ):=⟨LK,hit,Ou,Ov,LL⟩
def U9 (x:Val Â) (k:(Val am)→Option ρ) :
    Ű (kp ρ) 40 [Â] [am] x k=RE x k:=by kernel_rfl
def DM:(tF ρ).Ok (rL ρ):=⟨by kernel_rfl,fun p v kn kx=>by kernel_rfl⟩
def HJ (x:Val Â) (k:(Val (.pair ah .bool))→Option ρ) :
    Ű (rL ρ) 32 [Â] [ah,.bool] x k=xA x k:=by kernel_rfl
def RW (x:Val Â) (k:(Val bj)→Option ρ) :
    Ű (Md ρ) 25 [Â] [ah,tI] x k=Me x k:=by kernel_rfl
def xo (x:Unit) (k:Bool→Option ρ) :
    Ű (pj ρ) 6 [] [.bool] x k=mi k:=by kernel_rfl
def JO:(((į (iu ρ).P 176).elim [] (ß 0)).filter fun y=>Nat.beq y.1 0).length=1:=by kernel_rfl
def LR:Ra (og (į (iu ρ).P 176) 0)=true:=by kernel_rfl
def LP (p:Val aj) (v v':Val ab):(þ lL [tI,tI,ae,aa,af,ac,aa,ai] [ab] p v').t=(þ lL [tI,tI,ae,aa,af,ac,aa,ai] [ab] p v).t:=by kernel_rfl
def LQ (p:Val aj) (v:Val ab):(þ lL [tI,tI,ae,aa,af,ac,aa,ai] [ab] p v).t.all (st3 3)=true:=by kernel_rfl
def JP (p:Val aj) (v:Val ab) (y:Int) (kn:Val aj→Val ab→Option ρ):Cv (iu ρ) (Κ (iu ρ) (10-6 / 2)) 176 [7,8,1,1,1,1] 3 0 (og (į (iu ρ).P 176) 0) (þ lL [tI,tI,ae,aa,af,ac,aa,ai] [ab] p v) (enc tI y) ((oW ρ).back kn)=(oW ρ).bF p v y (kn p):=by kernel_rfl
def LS (hit:lW Tryz.prog Gu):(oW ρ).Ok (iu ρ):=⟨JO,hit,LP,LQ,JP⟩
def LU:(CB ρ).Ok (iu ρ):=⟨by kernel_rfl,fun p v kn kx=>by kernel_rfl⟩
def RK (x:Val aJ) (k:Bool→Option ρ) :
    Ű (iu ρ) 61 [Â,ah] [.bool] x k=LV x.1 x.2 k:=by kernel_rfl
def RP (x:Val aJ) (k:Int→Option ρ) :
    Ű (L9 ρ) 26 [Â,ah] [tI] x k=Ma x.1 x.2 k:=by kernel_rfl
def OT (x:Val aJ) (k:Val Ã→Option ρ) :
    Ű (Jj ρ) 7 [Â,ah] [tI,tI] x k=HN x.1 x.2 k:=by kernel_rfl
def sK:(lH ρ).Ok (κ ρ):=⟨by kernel_rfl,fun p v kn kx=>by kernel_rfl⟩
def sL:(lK ρ).Ok (κ ρ):=⟨by kernel_rfl,fun p v kn kx=>by kernel_rfl⟩
def vU (x:Val (.pair ai (.pair ah Ã))) (k:Int→Option ρ) :
    Ű (κ ρ) 16 [ai,ah,tI,tI] [tI] x k=ln x.1 x.2.1 x.2.2.1 x.2.2.2 k:=by kernel_rfl
end Go.Proofs.ZzM
end
