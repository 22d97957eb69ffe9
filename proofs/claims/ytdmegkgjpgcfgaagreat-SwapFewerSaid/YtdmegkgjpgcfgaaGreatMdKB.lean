/- lemmas -/
import Derived.Test.YtdmegkgjpgcfgaaGreatMdMA
set_option linter.all false
set_option linter.unusedSectionVars false
set_option linter.unusedVariables false
set_option linter.unusedSimpArgs false
noncomputable section
variable {ρ:Type}
set_option maxRecDepth 100000
namespace Go.Proofs.ZzM
open Go Go.Am
def G9:(wO ρ).Ok (qp ρ):=⟨by kernel_rfl,fun p v kn kx=>by kernel_rfl⟩
def G8:(wM ρ).Ok (qp ρ):=⟨by kernel_rfl,fun p v kn kx=>by kernel_rfl⟩
def Mg (x:Val Â) (k:Bool→Option ρ) :
    š (qp ρ) 15 [Â] [.bool] x k=EM x k:=by kernel_rfl
def KD:(Ax ρ).Ok (BA ρ):=⟨by kernel_rfl,fun p v kn kx=>by kernel_rfl⟩
def QW (x:Val (.pair È Ğ)) (k:Int→Option ρ) :
    š (BA ρ) 269 [È,tI,aa] [tI] x k=KE x.1 x.2.1 x.2.2 k:=by kernel_rfl
def Up (x:Val aK) (k:(Val aP)→Option ρ) :
    š (OA ρ) 226 [È,tI,tI] [.bool,tI] x k=Q3 x.1 x.2.1 x.2.2 k:=by kernel_rfl
def JB:(zU ρ).Ok (j7 ρ):=⟨by kernel_rfl,fun p v kn kx=>by kernel_rfl⟩
def JA:(zS ρ).Ok (j7 ρ):=⟨by kernel_rfl,fun p v kn kx=>by kernel_rfl⟩
def Jz:(zR ρ).Ok (j7 ρ):=⟨by kernel_rfl,fun p v kn kx=>by kernel_rfl⟩
def Jy:(zQ ρ).Ok (j7 ρ):=⟨by kernel_rfl,fun p v kn kx=>by kernel_rfl⟩
def Jw:(zP ρ).Ok (j7 ρ):=⟨by kernel_rfl,fun p v kn kx=>by kernel_rfl⟩
def PV (x:Val (.pair È (.pair ai tI))) (k:Int→Option ρ) :
    š (j7 ρ) 156 [È,ai,tI] [tI] x k=JC x.1 x.2.1 x.2.2 k:=by kernel_rfl
def JP:(zY ρ).Ok (uA ρ):=⟨by kernel_rfl,fun p v kn kx=>by kernel_rfl⟩
def JQ:(zZ ρ).Ok (uA ρ):=⟨by kernel_rfl,fun p v kn kx=>by kernel_rfl⟩
def Qd (x:Val Â) (k:Int→Option ρ) :
    š (uA ρ) 80 [Â] [tI] x k=JR x k:=by kernel_rfl
def kQ:(Υ ρ).Ok (Ŝ ρ):=⟨by kernel_rfl,fun p v kn kx=>by kernel_rfl⟩
def mg (x:Val (.pair ab Ä)) (k:Int→Option ρ) :
    š (Ŝ ρ) 135 [ab,Ä] [tI] x k=Ŷ x.1 x.2 k:=by kernel_rfl
def HM (x:Val (.pair aT ax)) (k:Int→Option ρ) :
    š (Aw ρ) 147 [aT,aa,tI] [tI] x k=xI x.1 x.2.1 x.2.2 k:=by kernel_rfl
def Nh:(Dt ρ).Ok (yz ρ):=⟨by kernel_rfl,fun p v kn kx=>by kernel_rfl⟩
def Ng:(Dr ρ).Ok (yz ρ):=⟨by kernel_rfl,fun p v kn kx=>by kernel_rfl⟩
def Ub (x:Val (.pair È (.pair Õ Ä))) (k:Int→Option ρ) :
    š (yz ρ) 247 [È,Õ,tI,tI] [tI] x k=QI x.1 x.2.1 x.2.2.1 x.2.2.2 k:=by kernel_rfl
def zr (x:Val (.pair am aa)) (k:Val Ä→Option ρ) :
    š (qT ρ) 261 [am,aa] [Ä] x k=nV x.1 x.2 k:=by kernel_rfl
def Ka:(Ap ρ).Ok (Bm ρ):=⟨by kernel_rfl,fun p v kn kx=>by kernel_rfl⟩
def Qs (x:Val ab) (k:Int→Option ρ) :
    š (Bm ρ) 264 [ab] [tI] x k=Kb x k:=by kernel_rfl
def Kd (x:Val Ä) (k:Val BV→Option ρ) :
    š (Dc ρ) 312 [tI,tI] [Ä,tI] x k=Bn x.1 x.2 k:=by kernel_rfl
def Wy (x:Val Ĕ) (k:Val BV→Option ρ) :
    š (TZ ρ) 296 [Ä,Ä] [Ä,tI] x k=Wz x.1 x.2 k:=by kernel_rfl
def Fy (x:Val Ĕ) (k:Val Ä→Option ρ) :
    š (xH ρ) 262 [Ä,Ä] [Ä] x k=uP x.1 x.2 k:=by kernel_rfl
def Wv (x:Val Ĕ) (k:Int→Option ρ) :
    š (TX ρ) 320 [Ä,Ä] [tI] x k=Ww x.1 x.2 k:=by kernel_rfl
def Df (x:Val Ĕ) (k:Bool→Option ρ) :
    š (vL ρ) 313 [Ĕ] [.bool] x k=rP x k:=by kernel_rfl
def WD (x:Val Ĕ) (k:Val BV→Option ρ) :
    š (T1 ρ) 316 [Ä,Ä] [Ä,tI] x k=WE x.1 x.2 k:=by kernel_rfl
def Qz (x:Val (.pair Ĕ Ä)) (k:Val aaX→Option ρ) :
    š (Bo ρ) 297 [Ĕ,Ä] [Ĕ,tI] x k=Kk x.1 x.2 k:=by kernel_rfl
def Fw (x:Val Ĕ) (k:Val Ĕ→Option ρ) :
    š (xG ρ) 263 [Ä,Ä] [Ĕ] x k=uO x.1 x.2 k:=by kernel_rfl
def Nr (x:Val aY) (k:Val Ĕ→Option ρ) :
    š (GK ρ) 215 [È,ã] [Ĕ] x k=FB x.1 x.2 k:=by kernel_rfl
def QR (x:Val aY) (k:Val Ä→Option ρ) :
    š (KB ρ) 216 [È,ã] [Ä] x k=KC x.1 x.2 k:=by kernel_rfl
def Qw (x:Val Ä) (k:Int→Option ρ) :
    š (Kg ρ) 265 [tI,tI] [tI] x k=Kh x.1 x.2 k:=by kernel_rfl
def T4 (x:Val Ä) (k:Val Ä→Option ρ) :
    š (Oy ρ) 217 [Ä] [tI,tI] x k=QC x k:=by kernel_rfl
def QB (x:Val Ä) (k:Val Ä→Option ρ) :
    š (Kl ρ) 218 [Ä] [tI,tI] x k=Km x k:=by kernel_rfl
def T6 (x:Val aY) (k:Val Ä→Option ρ) :
    š (Oz ρ) 248 [È,ã] [Ä] x k=QE x.1 x.2 k:=by kernel_rfl
def Nd:(Dm ρ).Ok (tq ρ):=⟨by kernel_rfl,fun p v kn kx=>by kernel_rfl⟩
def Nf:(Dp ρ).Ok (tq ρ):=⟨by kernel_rfl,fun p v kn kx=>by kernel_rfl⟩
def Nc:(Dk ρ).Ok (tq ρ):=⟨by kernel_rfl,fun p v kn kx=>by kernel_rfl⟩
def T9 (x:Val È) (k:(Val aT)→Option ρ) :
    š (tq ρ) 132 [È] [aT] x k=QH x k:=by kernel_rfl
def Nx (x:Val È) (k:(Val (.pair Ì bg))→Option ρ) :
    š (GM ρ) 66 [È] [Ì,ab,tI] x k=FI x k:=by kernel_rfl
def PL:(Gw ρ).Ok (Ji ρ):=⟨by kernel_rfl,fun p v kn kx=>by kernel_rfl⟩
def VX (x:Val bc) (k:Int→Option ρ) :
    š (Ji ρ) 105 [Â,aj,tI,tI] [tI] x k=VY x.1 x.2.1 x.2.2.1 x.2.2.2 k:=by kernel_rfl
def wV:(oa ρ).Ok (lZ ρ):=⟨by kernel_rfl,fun p v kn kx=>by kernel_rfl⟩
def A6 (x:Val (.pair aa (.pair tI (.pair ar aF)))) (k:(Val aa)→Option ρ) :
    š (lZ ρ) 183 [aa,tI,ar,aF] [aa] x k=pb x.1 x.2.1 x.2.2.1 x.2.2.2 k:=by kernel_rfl
def A4:(qz ρ).Ok (ű ρ):=⟨by kernel_rfl,fun p v kn kx=>by kernel_rfl⟩
def A3:(qx ρ).Ok (ű ρ):=⟨by kernel_rfl,fun p v kn kx=>by kernel_rfl⟩
def A2:(qv ρ).Ok (ű ρ):=⟨by kernel_rfl,fun p v kn kx=>by kernel_rfl⟩
def A0:(qt ρ).Ok (ű ρ):=⟨by kernel_rfl,fun p v kn kx=>by kernel_rfl⟩
def ER (x:Val aJ) (k:Val È→Option ρ) :
    š (ű ρ) 104 [Â,aj] [È] x k=uk x.1 x.2 k:=by kernel_rfl
def TN (x:Val (.pair Ì tI)) (k:Bool→Option ρ) :
    š (Om ρ) 196 [Ì,tI] [.bool] x k=Qg x.1 x.2 k:=by kernel_rfl
def J8:(Ao ρ).Ok (Bl ρ):=⟨by kernel_rfl,fun p v kn kx=>by kernel_rfl⟩
def Qq (x:Val Ì) (k:Val Ä→Option ρ) :
    š (Bl ρ) 126 [Ì] [tI,tI] x k=J9 x k:=by kernel_rfl
def C4:(tj ρ).Ok (Ν ρ):=⟨by kernel_rfl,fun p v kn kx=>by kernel_rfl⟩
def C3:(tf ρ).Ok (Ν ρ):=⟨by kernel_rfl,fun p v kn kx=>by kernel_rfl⟩
def C1:(ta ρ).Ok (Ν ρ):=⟨by kernel_rfl,fun p v kn kx=>by kernel_rfl⟩
def C2:(td ρ).Ok (Ν ρ):=⟨by kernel_rfl,fun p v kn kx=>by kernel_rfl⟩
def C0:(s9 ρ).Ok (Ν ρ):=⟨by kernel_rfl,fun p v kn kx=>by kernel_rfl⟩
def HB (x:Val (.pair Ì ao)) (k:(Val (.pair aa .bool))→Option ρ) :
    š (Ν ρ) 127 [Ì,ao] [aa,.bool] x k=xr x.1 x.2 k:=by kernel_rfl
def C8 (x:Val Ì) (k:(Val aP)→Option ρ) :
    š (vJ ρ) 155 [Ì] [.bool,tI] x k=rN x k:=by kernel_rfl
def Hm (x:Val aJ) (k:Bool→Option ρ) :
    š (zW ρ) 79 [Â,aj] [.bool] x k=wZ x.1 x.2 k:=by kernel_rfl
def Hd:(wS ρ).Ok (qr ρ):=⟨by kernel_rfl,fun p v kn kx=>by kernel_rfl⟩
def He:(wU ρ).Ok (qr ρ):=⟨by kernel_rfl,fun p v kn kx=>by kernel_rfl⟩
def Ml (x:Val aJ) (k:Int→Option ρ) :
    š (qr ρ) 116 [Â,aj] [tI] x k=EP x.1 x.2 k:=by kernel_rfl
def Bq (x:Val tI) (k:Bool→Option ρ) :
    š (tp ρ) 234 [tI] [.bool] x k=pA x k:=by kernel_rfl
def xF (x:Val Ä) (k:Int→Option ρ) :
    š (pB ρ) 180 [tI,tI] [tI] x k=mh x.1 x.2 k:=by kernel_rfl
def Mr (x:Val (.pair aj (.pair aj ar))) (k:Int→Option ρ) :
    š (Gy ρ) 179 [aj,aj,ar] [tI] x k=EQ x.1 x.2.1 x.2.2 k:=by kernel_rfl
def ku:(Ε ρ).Ok (õ ρ):=⟨by kernel_rfl,fun p v kn kx=>by kernel_rfl⟩
def kv:(Ζ ρ).Ok (õ ρ):=⟨by kernel_rfl,fun p v kn kx=>by kernel_rfl⟩
def lD (xs:(Val ag)) (x:Val Ä) (m:Val Â) (k:((Val ag))×(Val Â)→Option ρ) :
    tN (õ ρ) (ů (õ ρ) 10) [] 273 (AO ā x) (jw ā xs m) (II ā fun zs m2=>k (zs,m2))=Ũ xs x.1 x.2 m k:=by kernel_rfl
def pr:(jt ρ).Ok (ý ρ):=⟨by kernel_rfl,fun p v kn kx=>by kernel_rfl⟩
def pq:(jr ρ).Ok (ý ρ):=⟨by kernel_rfl,fun p v kn kx=>by kernel_rfl⟩
def pu:(ju ρ).Ok (ý ρ):=⟨by kernel_rfl,fun p v kn kx=>by kernel_rfl⟩
def pp:(jq ρ).Ok (ý ρ):=⟨by kernel_rfl,fun p v kn kx=>by kernel_rfl⟩
def rL (xs:(Val ag)) (x:Val œ) (m:Val Â) (k:((Val ag))×(Val Â)→Option ρ) :
    tN (ý ρ) (ů (ý ρ) 10) [] 300 (AO Į x) (jw Į xs m) (II Į fun zs m2=>k (zs,m2))=iT xs x.1 x.2.1 x.2.2 m k:=by kernel_rfl
def nc {rec:(Val ag)→Int→Int→Int→(Val Â)→Option ((Val ag)×(Val Â))}:(((ģ (Æ rec ρ).P 274).elim [] (Ü 0)).filter fun y=>Nat.beq y.1 0).length=1:=by kernel_rfl
def nf {rec:(Val ag)→Int→Int→Int→(Val Â)→Option ((Val ag)×(Val Â))} (p:Val au) (v:Val Ä) (kn:Val au→Val Ä→Option ρ) (kx:(i:Nat)→Val au→Val (tyL (Ć.zs i))→Option ρ) :
    goC (Æ rec ρ) (ů (Æ rec ρ) (10-0 / 2)) 274 [] 2 0 (tr (ģ (Æ rec ρ).P 274) 0) (ö Ć.head Ć.cs Ć.vs p v) (Ex Ć kn kx)=(ŧ rec ρ).bF p v (kn p) (fun i=>kx i p):=by kernel_rfl
def nS {rec:(Val ag)→Int→Int→Int→(Val Â)→Option ((Val ag)×(Val Â))}:(ŧ rec ρ).Ok (Æ rec ρ):=⟨nc,nf⟩
def m8 {rec:(Val ag)→Int→Int→Int→(Val Â)→Option ((Val ag)×(Val Â))}:(((ģ (Æ rec ρ).P 274).elim [] (Ü 0)).filter fun y=>Nat.beq y.1 2).length=1:=by kernel_rfl
def m9 {rec:(Val ag)→Int→Int→Int→(Val Â)→Option ((Val ag)×(Val Â))} (p:Val az) (v:Val aB) (kn:Val az→Val aB→Option ρ) (kx:(i:Nat)→Val az→Val (tyL (ą.zs i))→Option ρ) :
    goC (Æ rec ρ) (ů (Æ rec ρ) (10-0 / 2)) 274 [] 2 2 (tr (ģ (Æ rec ρ).P 274) 2) (ö ą.head ą.cs ą.vs p v) (Ex ą kn kx)=(Ŧ rec ρ).bF p v (kn p) (fun i=>kx i p):=by kernel_rfl
def nR {rec:(Val ag)→Int→Int→Int→(Val Â)→Option ((Val ag)×(Val Â))}:(Ŧ rec ρ).Ok (Æ rec ρ):=⟨m8,m9⟩
def mY {rec:(Val ag)→Int→Int→Int→(Val Â)→Option ((Val ag)×(Val Â))}:(((ģ (Æ rec ρ).P 274).elim [] (Ü 0)).filter fun y=>Nat.beq y.1 4).length=1:=by kernel_rfl
def mZ {rec:(Val ag)→Int→Int→Int→(Val Â)→Option ((Val ag)×(Val Â))} (p:Val au) (v:Val Ä) (kn:Val au→Val Ä→Option ρ) (kx:(i:Nat)→Val au→Val (tyL (Ą.zs i))→Option ρ) :
    goC (Æ rec ρ) (ů (Æ rec ρ) (10-0 / 2)) 274 [] 2 4 (tr (ģ (Æ rec ρ).P 274) 4) (ö Ą.head Ą.cs Ą.vs p v) (Ex Ą kn kx)=(ť rec ρ).bF p v (kn p) (fun i=>kx i p):=by kernel_rfl
def nQ {rec:(Val ag)→Int→Int→Int→(Val Â)→Option ((Val ag)×(Val Â))}:(ť rec ρ).Ok (Æ rec ρ):=⟨mY,mZ⟩
def mW {rec:(Val ag)→Int→Int→Int→(Val Â)→Option ((Val ag)×(Val Â))}:(((ģ (Æ rec ρ).P 274).elim [] (Ü 0)).filter fun y=>Nat.beq y.1 6).length=1:=by kernel_rfl
def mX {rec:(Val ag)→Int→Int→Int→(Val Â)→Option ((Val ag)×(Val Â))} (p:Val az) (v:Val aB) (kn:Val az→Val aB→Option ρ) (kx:(i:Nat)→Val az→Val (tyL (ă.zs i))→Option ρ) :
    goC (Æ rec ρ) (ů (Æ rec ρ) (10-0 / 2)) 274 [] 2 6 (tr (ģ (Æ rec ρ).P 274) 6) (ö ă.head ă.cs ă.vs p v) (Ex ă kn kx)=(Ť rec ρ).bF p v (kn p) (fun i=>kx i p):=by kernel_rfl
def nP {rec:(Val ag)→Int→Int→Int→(Val Â)→Option ((Val ag)×(Val Â))}:(Ť rec ρ).Ok (Æ rec ρ):=⟨mW,mX⟩
def mU {rec:(Val ag)→Int→Int→Int→(Val Â)→Option ((Val ag)×(Val Â))}:(((ģ (Æ rec ρ).P 274).elim [] (Ü 0)).filter fun y=>Nat.beq y.1 8).length=1:=by kernel_rfl
def mV {rec:(Val ag)→Int→Int→Int→(Val Â)→Option ((Val ag)×(Val Â))} (p:Val aO) (v:Val Ä) (kn:Val aO→Val Ä→Option ρ) (kx:(i:Nat)→Val aO→Val (tyL (Ă.zs i))→Option ρ) :
    goC (Æ rec ρ) (ů (Æ rec ρ) (10-0 / 2)) 274 [] 2 8 (tr (ģ (Æ rec ρ).P 274) 8) (ö Ă.head Ă.cs Ă.vs p v) (Ex Ă kn kx)=(ţ rec ρ).bF p v (kn p) (fun i=>kx i p):=by kernel_rfl
def nO {rec:(Val ag)→Int→Int→Int→(Val Â)→Option ((Val ag)×(Val Â))}:(ţ rec ρ).Ok (Æ rec ρ):=⟨mU,mV⟩
def pl {rec:(Val ag)→Int→Int→Int→(Val Â)→Option ((Val ag)×(Val Â))} (F:(Val ag)→Val œ→Val Â→Option ((Val ag)×Val Â)) (xs:(Val ag)) (x:Val œ) (m:Val Â) (k:((Val ag))×(Val Â)→Option ρ) :
    tN (Æ rec ρ) (ů (Æ rec ρ) 10) [] 274 (AO ⟨aj,[tI,tI,tI],179,Â,F⟩ x) (jw ⟨aj,[tI,tI,tI],179,Â,F⟩ xs m) (II ⟨aj,[tI,tI,tI],179,Â,F⟩ fun zs m2=>k (zs,m2))=Ġ rec xs x.1 x.2.1 x.2.2 m k:=by kernel_rfl
def po:(jp ρ).Ok (ď ρ):=⟨by kernel_rfl,fun p v kn kx=>by kernel_rfl⟩
def pm:(jn ρ).Ok (ď ρ):=⟨by kernel_rfl,fun p v kn kx=>by kernel_rfl⟩
def pn:(jo ρ).Ok (ď ρ):=⟨by kernel_rfl,fun p v kn kx=>by kernel_rfl⟩
def rK (xs:(Val ag)) (x:Val tI) (m:Val Â) (k:((Val ag))×(Val Â)→Option ρ) :
    tN (ď ρ) (ů (ď ρ) 10) [] 233 (AO Ĝ x) (jw Ĝ xs m) (II Ĝ fun zs m2=>k (zs,m2))=iS xs x m k:=by kernel_rfl
def JE:(((ģ (ο ρ).P 230).elim [] (Ü 0)).filter fun y=>Nat.beq y.1 0).length=1:=by kernel_rfl
def ME:Ph (lO (ģ (ο ρ).P 230) 0)=true:=by kernel_rfl
def MC (p:Val aw) (v v':Val ag):(ö kK [tI,tI,af,ab,ah,ac,ab,ai,tI,tI,af,ab,ah,ac,ab,ai] [ag] p v').t=(ö kK [tI,tI,af,ab,ah,ac,ab,ai,tI,tI,af,ab,ah,ac,ab,ai] [ag] p v).t:=by kernel_rfl
def MD (p:Val aw) (v:Val ag):(ö kK [tI,tI,af,ab,ah,ac,ab,ai,tI,tI,af,ab,ah,ac,ab,ai] [ag] p v).t.all (st3 4)=true:=by kernel_rfl
def JF (p:Val aw) (v:Val ag) (y:(Val aj)) (kn:Val aw→Val ag→Option ρ):zF (ο ρ) (ů (ο ρ) (10-6 / 2)) 230 [1,1,1,3,1,1] 4 0 (lO (ģ (ο ρ).P 230) 0) (ö kK [tI,tI,af,ab,ah,ac,ab,ai,tI,tI,af,ab,ah,ac,ab,ai] [ag] p v) (enc aj y) ((oq ρ).back kn)=(oq ρ).bF p v y (kn p):=by kernel_rfl
def MF (hit:jP Tryz.prog pF):(oq ρ).Ok (ο ρ):=⟨JE,hit,MC,MD,JF⟩
def MH:(CE ρ).Ok (ο ρ):=⟨by kernel_rfl,fun p v kn kx=>by kernel_rfl⟩
def MG:(CC ρ).Ok (ο ρ):=⟨by kernel_rfl,fun p v kn kx=>by kernel_rfl⟩
def Tw (x:Val Â) (k:(Val ag)→Option ρ) :
    š (ο ρ) 81 [Â] [ag] x k=PW x k:=by kernel_rfl
def Wg (x:Val Â) (k:(Val (.pair ag tI))→Option ρ) :
    š (TJ ρ) 19 [Â] [ag,tI] x k=Wh x k:=by kernel_rfl
def Jl:(((ģ (jb ρ).P 230).elim [] (Ü 0)).filter fun y=>Nat.beq y.1 0).length=1:=by kernel_rfl
def Mo:Ph (lO (ģ (jb ρ).P 230) 0)=true:=by kernel_rfl
def Mm (p:Val ae) (v v':Val ag):(ö kJ [tI,tI,af,ab,ah,ac,ab,ai] [ag] p v').t=(ö kJ [tI,tI,af,ab,ah,ac,ab,ai] [ag] p v).t:=by kernel_rfl
def Mn (p:Val ae) (v:Val ag):(ö kJ [tI,tI,af,ab,ah,ac,ab,ai] [ag] p v).t.all (st3 3)=true:=by kernel_rfl
def Jm (p:Val ae) (v:Val ag) (y:(Val aj)) (kn:Val ae→Val ag→Option ρ):zF (jb ρ) (ů (jb ρ) (10-4 / 2)) 230 [1,3,1,1] 3 0 (lO (ģ (jb ρ).P 230) 0) (ö kJ [tI,tI,af,ab,ah,ac,ab,ai] [ag] p v) (enc aj y) ((oo ρ).back kn)=(oo ρ).bF p v y (kn p):=by kernel_rfl
def Mp (hit:jP Tryz.prog pF):(oo ρ).Ok (jb ρ):=⟨Jl,hit,Mm,Mn,Jm⟩
def Tq (x:Val Â) (k:(Val ag)→Option ρ) :
    š (jb ρ) 96 [Â] [ag] x k=PO x k:=by kernel_rfl
def Be:(qD ρ).Ok (pf ρ):=⟨by kernel_rfl,fun p v kn kx=>by kernel_rfl⟩
def EU (x:Val Â) (k:(Val (.pair aj .bool))→Option ρ) :
    š (pf ρ) 82 [Â] [aj,.bool] x k=ur x k:=by kernel_rfl
def P7 (x:Val Â) (k:(Val (.pair aj tI))→Option ρ) :
    š (JN ρ) 20 [Â] [aj,tI] x k=JO x k:=by kernel_rfl
def Bi:(qM ρ).Ok (pz ρ):=⟨by kernel_rfl,fun p v kn kx=>by kernel_rfl⟩
def Fe (x:Val (.pair aa aa)) (k:Bool→Option ρ) :
    š (pz ρ) 35 [aa,aa] [.bool] x k=uF x.1 x.2 k:=by kernel_rfl
def CX:(s8 ρ).Ok (rM ρ):=⟨by kernel_rfl,fun p v kn kx=>by kernel_rfl⟩
def Hy (x:Val (.pair aj aj)) (k:Bool→Option ρ) :
    š (rM ρ) 26 [aj,aj] [.bool] x k=xq x.1 x.2 k:=by kernel_rfl
def Jo:(zM ρ).Ok (Bb ρ):=⟨by kernel_rfl,fun p v kn kx=>by kernel_rfl⟩
def PS (x:Val (.pair Â Ä)) (k:Int→Option ρ) :
    š (Bb ρ) 88 [Â,tI,tI] [tI] x k=Jp x.1 x.2.1 x.2.2 k:=by kernel_rfl
def NA (x:Val (.pair aa aa)) (k:(Val (.pair aa ax))→Option ρ) :
    š (GN ρ) 91 [aa,aa] [aa,aa,tI] x k=FK x.1 x.2 k:=by kernel_rfl
def Bg:(qH ρ).Ok (kL ρ):=⟨by kernel_rfl,fun p v kn kx=>by kernel_rfl⟩
def Bf:(qF ρ).Ok (kL ρ):=⟨by kernel_rfl,fun p v kn kx=>by kernel_rfl⟩
def EZ (x:Val (.pair Â tI)) (k:(Val aP)→Option ρ) :
    š (kL ρ) 28 [Â,tI] [.bool,tI] x k=ut x.1 x.2 k:=by kernel_rfl
def Mu:(Cz ρ).Ok (yv ρ):=⟨by kernel_rfl,fun p v kn kx=>by kernel_rfl⟩
def Ms:(Cx ρ).Ok (yv ρ):=⟨by kernel_rfl,fun p v kn kx=>by kernel_rfl⟩
def Ts (x:Val aV) (k:Val Â→Option ρ) :
    š (yv ρ) 87 [Â,aa] [Â] x k=PP x.1 x.2 k:=by kernel_rfl
def MR:(CU ρ).Ok (yw ρ):=⟨by kernel_rfl,fun p v kn kx=>by kernel_rfl⟩
def MQ:(CT ρ).Ok (yw ρ):=⟨by kernel_rfl,fun p v kn kx=>by kernel_rfl⟩
def TH (x:Val Â) (k:(Val ax)→Option ρ) :
    š (yw ρ) 29 [Â] [aa,tI] x k=Qb x k:=by kernel_rfl
def Ho:(xe ρ).Ok (xf ρ):=⟨by kernel_rfl,fun p v kn kx=>by kernel_rfl⟩
def ML (x:Val ax) (k:(Val aa)→Option ρ) :
    š (xf ρ) 98 [aa,tI] [aa] x k=EX x.1 x.2 k:=by kernel_rfl
def CQ:(sL ρ).Ok (Ļ ρ):=⟨by kernel_rfl,fun p v kn kx=>by kernel_rfl⟩
def CS:(sN ρ).Ok (Ļ ρ):=⟨by kernel_rfl,fun p v kn kx=>by kernel_rfl⟩
def CP:(sJ ρ).Ok (Ļ ρ):=⟨by kernel_rfl,fun p v kn kx=>by kernel_rfl⟩
def CO:(sH ρ).Ok (Ļ ρ):=⟨by kernel_rfl,fun p v kn kx=>by kernel_rfl⟩
def CM:(sw ρ).Ok (Ļ ρ):=⟨by kernel_rfl,fun p v kn kx=>by kernel_rfl⟩
def CL:(su ρ).Ok (Ļ ρ):=⟨by kernel_rfl,fun p v kn kx=>by kernel_rfl⟩
def CJ:(sq ρ).Ok (Ļ ρ):=⟨by kernel_rfl,fun p v kn kx=>by kernel_rfl⟩
def CN:(sF ρ).Ok (Ļ ρ):=⟨by kernel_rfl,fun p v kn kx=>by kernel_rfl⟩
def Ht (x:Val aV) (k:(Val ax)→Option ρ) :
    š (Ļ ρ) 30 [Â,aa] [aa,tI] x k=xg x.1 x.2 k:=by kernel_rfl
def TD (x:Val Â) (k:(Val (.pair ag tI))→Option ρ) :
    š (Ol ρ) 40 [Â] [ag,tI] x k=P3 x k:=by kernel_rfl
def Q0 (x:Val aK) (k:Val Ä→Option ρ) :
    š (KJ ρ) 68 [È,Ä] [tI,tI] x k=KK x.1 x.2 k:=by kernel_rfl
def Ny:(DF ρ).Ok (FJ ρ):=⟨by kernel_rfl,fun p v kn kx=>by kernel_rfl⟩
def Um (x:Val aK) (k:(Val (.pair È tI))→Option ρ) :
    š (FJ ρ) 69 [È,Ä] [È,tI] x k=QY x.1 x.2 k:=by kernel_rfl
def JY:(Aa ρ).Ok (Bk ρ):=⟨by kernel_rfl,fun p v kn kx=>by kernel_rfl⟩
def Qk (x:Val bj) (k:Int→Option ρ) :
    š (Bk ρ) 133 [Ì,aa] [tI] x k=JZ x.1 x.2 k:=by kernel_rfl
end Go.Proofs.ZzM
end
