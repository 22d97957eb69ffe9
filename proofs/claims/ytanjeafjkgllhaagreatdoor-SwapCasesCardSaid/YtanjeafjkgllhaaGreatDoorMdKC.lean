/- lemmas -/
import Derived.Test.YtanjeafjkgllhaaGreatDoorMdMA
set_option linter.all false
noncomputable section
variable {ρ:Type}
set_option maxRecDepth 100000
namespace Go.Proofs.ZzM
open Go Go.Am
variable [Globs] [LC]
def Ks:(xN ρ).Ok (xP ρ):=⟨by kernel_rfl,fun p v b a=>by kernel_rfl⟩
def Kr:(xL ρ).Ok (xP ρ):=⟨by kernel_rfl,fun p v b a=>by kernel_rfl⟩
def Pn:(CF ρ).Ok (Po ρ):=⟨by kernel_rfl,fun p v b a=>by kernel_rfl⟩
def Nu:(BM ρ).Ok (km ρ):=⟨by kernel_rfl,fun p v b a=>by kernel_rfl⟩
def Nt:(BJ ρ).Ok (km ρ):=⟨by kernel_rfl,fun p v b a=>by kernel_rfl⟩
def Ns:(BI ρ).Ok (km ρ):=⟨by kernel_rfl,fun p v b a=>by kernel_rfl⟩
def Nr:(BH ρ).Ok (km ρ):=⟨by kernel_rfl,fun p v b a=>by kernel_rfl⟩
def Nq:(BG ρ).Ok (km ρ):=⟨by kernel_rfl,fun p v b a=>by kernel_rfl⟩
def VE (x:Val (.pair È (.pair ai tI))) (k:Int->rF ρ) :
    LN (km ρ) 55 [È,ai,tI] [tI] x k=Nv x.1 x.2.1 x.2.2 k:=by kernel_rfl
def NR:(BW ρ).Ok (DB ρ):=⟨by kernel_rfl,fun p v b a=>by kernel_rfl⟩
def NS:(BX ρ).Ok (DB ρ):=⟨by kernel_rfl,fun p v b a=>by kernel_rfl⟩
def VC:(Jw ρ).Ok (Yv ρ):=⟨by kernel_rfl,fun p v b a=>by kernel_rfl⟩
def xV:(oo ρ).Ok (tv ρ):=⟨by kernel_rfl,fun p v b a=>by kernel_rfl⟩
def Ds:(ri ρ).Ok (Ŕ ρ):=⟨by kernel_rfl,fun p v b a=>by kernel_rfl⟩
def Dr:(rg ρ).Ok (Ŕ ρ):=⟨by kernel_rfl,fun p v b a=>by kernel_rfl⟩
def Dq:(qY ρ).Ok (Ŕ ρ):=⟨by kernel_rfl,fun p v b a=>by kernel_rfl⟩
def Dp:(qW ρ).Ok (Ŕ ρ):=⟨by kernel_rfl,fun p v b a=>by kernel_rfl⟩
def H5 (x:Val bp) (k:bA->rF ρ) :
    LN (Ŕ ρ) 61 [Ä,am] [È] x k=EV x.1 x.2 k:=by kernel_rfl
def lG:(ž ρ).Ok (iu ρ):=⟨by kernel_rfl,fun p v b a=>by kernel_rfl⟩
def Sg:(Gn ρ).Ok (Ip ρ):=⟨by kernel_rfl,fun p v b a=>by kernel_rfl⟩
def Sf:(Gj ρ).Ok (Ip ρ):=⟨by kernel_rfl,fun p v b a=>by kernel_rfl⟩
def O3:(Cy ρ).Ok (O4 ρ):=⟨by kernel_rfl,fun p v b a=>by kernel_rfl⟩
def VY (x:Val (.pair Ą Æ)) (k:Val Ej->rF ρ) :
    LN (DN ρ) 331 [Ą,Æ] [Ą,tI] x k=Zb x.1 x.2 k:=by kernel_rfl
def Sc:(Ge ρ).Ok (Ao ρ):=⟨by kernel_rfl,fun p v b a=>by kernel_rfl⟩
def Sd:(Gg ρ).Ok (Ao ρ):=⟨by kernel_rfl,fun p v b a=>by kernel_rfl⟩
def Sb:(Gc ρ).Ok (Ao ρ):=⟨by kernel_rfl,fun p v b a=>by kernel_rfl⟩
def O1:(Cx ρ).Ok (O2 ρ):=⟨by kernel_rfl,fun p v b a=>by kernel_rfl⟩
def F3:(uu ρ).Ok (Ź ρ):=⟨by kernel_rfl,fun p v b a=>by kernel_rfl⟩
def F0:(ur ρ).Ok (Ź ρ):=⟨by kernel_rfl,fun p v b a=>by kernel_rfl⟩
def FY:(uk ρ).Ok (Ź ρ):=⟨by kernel_rfl,fun p v b a=>by kernel_rfl⟩
def FZ:(uq ρ).Ok (Ź ρ):=⟨by kernel_rfl,fun p v b a=>by kernel_rfl⟩
def FX:(uj ρ).Ok (Ź ρ):=⟨by kernel_rfl,fun p v b a=>by kernel_rfl⟩
def Ld (x:Val (.pair Ý ay)) (k:rx->rF ρ) :
    LN (Ź ρ) 149 [Ý,ay] [ab,.bool] x k=JO x.1 x.2 k:=by kernel_rfl
def Kt:(xR ρ).Ok (xU ρ):=⟨by kernel_rfl,fun p v b a=>by kernel_rfl⟩
def Ku:(xT ρ).Ok (xU ρ):=⟨by kernel_rfl,fun p v b a=>by kernel_rfl⟩
def kY:(Ů ρ).Ok (ï ρ):=⟨by kernel_rfl,fun p v b a=>by kernel_rfl⟩
def kZ:(ů ρ).Ok (ï ρ):=⟨by kernel_rfl,fun p v b a=>by kernel_rfl⟩
def md (xs:a7) (x:bx) (m:a8) (k:(a7)×a8->rF ρ) :
    su (ï ρ) (Ğ (ï ρ) 10) [] 265 (C9 ö x) (jF ö xs m) (MF ö fun zs a=>k (zs,a))=iI xs x.1 x.2 m k:=by kernel_rfl
def pZ:(jD ρ).Ok (ó ρ):=⟨by kernel_rfl,fun p v b a=>by kernel_rfl⟩
def pY:(jC ρ).Ok (ó ρ):=⟨by kernel_rfl,fun p v b a=>by kernel_rfl⟩
def p8:(jE ρ).Ok (ó ρ):=⟨by kernel_rfl,fun p v b a=>by kernel_rfl⟩
def pX:(jB ρ).Ok (ó ρ):=⟨by kernel_rfl,fun p v b a=>by kernel_rfl⟩
def sL (xs:a7) (x:kV) (m:a8) (k:(a7)×a8->rF ρ) :
    su (ó ρ) (Ğ (ó ρ) 10) [] 306 (C9 Ĝ x) (jF Ĝ xs m) (MF Ĝ fun zs a=>k (zs,a))=nu xs x.1 x.2.1 x.2.2 m k:=by kernel_rfl
def nq {a:a7->Int->Int->Int->a8->rF (a7×a8)}:(((ô (É a ρ).P 266).elim [] (Ø 0)).filter fun y=>Nat.beq y.1 0).length=1:=by kernel_rfl
def nr {a:a7->Int->Int->Int->a8->rF (a7×a8)} (p:lI) (v:bx) (c:lI->bx->rF ρ) (b:(i:Nat)->lI->Val (tyL (ü.zs i))->rF ρ) :
    goC (É a ρ) (Ğ (É a ρ) (10-0 / 2)) 266 [] 2 0 (ov (ô (É a ρ).P 266) 0) (à ü.head ü.cs ü.vs p v) (Em ü c b)=(ň a ρ).bF p v (c p) (fun i=>b i p):=by kernel_rfl
def oe {a:a7->Int->Int->Int->a8->rF (a7×a8)}:(ň a ρ).Ok (É a ρ):=⟨nq,nr⟩
def nl {a:a7->Int->Int->Int->a8->rF (a7×a8)}:(((ô (É a ρ).P 266).elim [] (Ø 0)).filter fun y=>Nat.beq y.1 2).length=1:=by kernel_rfl
def np {a:a7->Int->Int->Int->a8->rF (a7×a8)} (p:ry) (v:gx) (c:ry->gx->rF ρ) (b:(i:Nat)->ry->Val (tyL (û.zs i))->rF ρ) :
    goC (É a ρ) (Ğ (É a ρ) (10-0 / 2)) 266 [] 2 2 (ov (ô (É a ρ).P 266) 2) (à û.head û.cs û.vs p v) (Em û c b)=(Ň a ρ).bF p v (c p) (fun i=>b i p):=by kernel_rfl
def od {a:a7->Int->Int->Int->a8->rF (a7×a8)}:(Ň a ρ).Ok (É a ρ):=⟨nl,np⟩
def nh {a:a7->Int->Int->Int->a8->rF (a7×a8)}:(((ô (É a ρ).P 266).elim [] (Ø 0)).filter fun y=>Nat.beq y.1 4).length=1:=by kernel_rfl
def nk {a:a7->Int->Int->Int->a8->rF (a7×a8)} (p:lI) (v:bx) (c:lI->bx->rF ρ) (b:(i:Nat)->lI->Val (tyL (ú.zs i))->rF ρ) :
    goC (É a ρ) (Ğ (É a ρ) (10-0 / 2)) 266 [] 2 4 (ov (ô (É a ρ).P 266) 4) (à ú.head ú.cs ú.vs p v) (Em ú c b)=(ņ a ρ).bF p v (c p) (fun i=>b i p):=by kernel_rfl
def oc {a:a7->Int->Int->Int->a8->rF (a7×a8)}:(ņ a ρ).Ok (É a ρ):=⟨nh,nk⟩
def nf {a:a7->Int->Int->Int->a8->rF (a7×a8)}:(((ô (É a ρ).P 266).elim [] (Ø 0)).filter fun y=>Nat.beq y.1 6).length=1:=by kernel_rfl
def ng {a:a7->Int->Int->Int->a8->rF (a7×a8)} (p:ry) (v:gx) (c:ry->gx->rF ρ) (b:(i:Nat)->ry->Val (tyL (ù.zs i))->rF ρ) :
    goC (É a ρ) (Ğ (É a ρ) (10-0 / 2)) 266 [] 2 6 (ov (ô (É a ρ).P 266) 6) (à ù.head ù.cs ù.vs p v) (Em ù c b)=(Ņ a ρ).bF p v (c p) (fun i=>b i p):=by kernel_rfl
def ob {a:a7->Int->Int->Int->a8->rF (a7×a8)}:(Ņ a ρ).Ok (É a ρ):=⟨nf,ng⟩
def m9 {a:a7->Int->Int->Int->a8->rF (a7×a8)}:(((ô (É a ρ).P 266).elim [] (Ø 0)).filter fun y=>Nat.beq y.1 8).length=1:=by kernel_rfl
def nc {a:a7->Int->Int->Int->a8->rF (a7×a8)} (p:Val aX) (v:bx) (c:Val aX->bx->rF ρ) (b:(i:Nat)->Val aX->Val (tyL (ø.zs i))->rF ρ) :
    goC (É a ρ) (Ğ (É a ρ) (10-0 / 2)) 266 [] 2 8 (ov (ô (É a ρ).P 266) 8) (à ø.head ø.cs ø.vs p v) (Em ø c b)=(ń a ρ).bF p v (c p) (fun i=>b i p):=by kernel_rfl
def oa {a:a7->Int->Int->Int->a8->rF (a7×a8)}:(ń a ρ).Ok (É a ρ):=⟨m9,nc⟩
def pT {a:a7->Int->Int->Int->a8->rF (a7×a8)} (F:a7->kV->a8->rF (a7×a8)) (xs:a7) (x:kV) (m:a8) (k:(a7)×a8->rF ρ) :
    su (É a ρ) (Ğ (É a ρ) 10) [] 266 (C9 ⟨am,[tI,tI,tI],128,Ä,F⟩ x) (jF ⟨am,[tI,tI,tI],128,Ä,F⟩ xs m) (MF ⟨am,[tI,tI,tI],128,Ä,F⟩ fun zs b=>k (zs,b))=Ŋ a xs x.1 x.2.1 x.2.2 m k:=by kernel_rfl
def pW:(jA ρ).Ok (ā ρ):=⟨by kernel_rfl,fun p v b a=>by kernel_rfl⟩
def pU:(jy ρ).Ok (ā ρ):=⟨by kernel_rfl,fun p v b a=>by kernel_rfl⟩
def pV:(jz ρ).Ok (ā ρ):=⟨by kernel_rfl,fun p v b a=>by kernel_rfl⟩
def sK (xs:a7) (x:Int) (m:a8) (k:(a7)×a8->rF ρ) :
    su (ā ρ) (Ğ (ā ρ) 10) [] 212 (C9 Č x) (jF Č xs m) (MF Č fun zs a=>k (zs,a))=nt xs x m k:=by kernel_rfl
def Nx:(((ô (Κ ρ).P 209).elim [] (Ø 0)).filter fun y=>Nat.beq y.1 0).length=1:=by kernel_rfl
def Q9:Eo (iw (ô (Κ ρ).P 209) 0)=true:=by kernel_rfl
def Q7 (p:Val aF) (v a:a7):(à lz [tI,tI,ae,aa,af,ac,aa,ai,tI,tI,ae,aa,af,ac,aa,ai] [ag] p a).t=(à lz [tI,tI,ae,aa,af,ac,aa,ai,tI,tI,ae,aa,af,ac,aa,ai] [ag] p v).t:=by kernel_rfl
def Q8 (p:Val aF) (v:a7):(à lz [tI,tI,ae,aa,af,ac,aa,ai,tI,tI,ae,aa,af,ac,aa,ai] [ag] p v).t.all (st3 4)=true:=by kernel_rfl
def Ny (p:Val aF) (v:a7) (y:b5) (a:Val aF->a7->rF ρ):Br (Κ ρ) (Ğ (Κ ρ) (10-6 / 2)) 209 [1,1,1,3,1,1] 4 0 (iw (ô (Κ ρ).P 209) 0) (à lz [tI,tI,ae,aa,af,ac,aa,ai,tI,tI,ae,aa,af,ac,aa,ai] [ag] p v) (enc am y) ((oE ρ).back a)=(oE ρ).bF p v y (a p):=by kernel_rfl
def Ra (a:jZ Tryz.prog qq):(oE ρ).Ok (Κ ρ):=⟨Nx,a,Q7,Q8,Ny⟩
def Rc:(Fe ρ).Ok (Κ ρ):=⟨by kernel_rfl,fun p v b a=>by kernel_rfl⟩
def Rb:(E9 ρ).Ok (Κ ρ):=⟨by kernel_rfl,fun p v b a=>by kernel_rfl⟩
def YB (x:a8) (k:a7->rF ρ) :
    LN (Κ ρ) 38 [Ä] [ag] x k=ac6 x k:=by kernel_rfl
def Kw:(((ô (ŵ ρ).P 294).elim [] (Ø 0)).filter fun y=>Nat.beq y.1 0).length=1:=by kernel_rfl
def Nn:Eo (iw (ô (ŵ ρ).P 294) 0)=true:=by kernel_rfl
def Nk (p:lw) (v a:an):(à jU [tI,tI,ae,aa,af,ac,aa,ai] [ab] p a).t=(à jU [tI,tI,ae,aa,af,ac,aa,ai] [ab] p v).t:=by kernel_rfl
def Nl (p:lw) (v:an):(à jU [tI,tI,ae,aa,af,ac,aa,ai] [ab] p v).t.all (st3 3)=true:=by kernel_rfl
def Ky (p:lw) (v:an) (y:Int) (a:lw->an->rF ρ):Br (ŵ ρ) (Ğ (ŵ ρ) (10-6 / 2)) 294 [7,8,1,1,1,1] 3 0 (iw (ô (ŵ ρ).P 294) 0) (à jU [tI,tI,ae,aa,af,ac,aa,ai] [ab] p v) (enc tI y) ((mK ρ).back a)=(mK ρ).bF p v y (a p):=by kernel_rfl
def No (a:jZ Tryz.prog GN):(mK ρ).Ok (ŵ ρ):=⟨Kw,a,Nk,Nl,Ky⟩
def Np:(BF ρ).Ok (ŵ ρ):=⟨by kernel_rfl,fun p v b a=>by kernel_rfl⟩
def VD (x:Val bp) (k:Bool->rF ρ) :
    LN (ŵ ρ) 97 [Ä,am] [.bool] x k=YA x.1 x.2 k:=by kernel_rfl
def Ni:(BC ρ).Ok (Nj ρ):=⟨by kernel_rfl,fun p v b a=>by kernel_rfl⟩
def Nb:(((ô (je ρ).P 209).elim [] (Ø 0)).filter fun y=>Nat.beq y.1 0).length=1:=by kernel_rfl
def QY:Eo (iw (ô (je ρ).P 209) 0)=true:=by kernel_rfl
def QW (p:lw) (v a:a7):(à lr [tI,tI,ae,aa,af,ac,aa,ai] [ag] p a).t=(à lr [tI,tI,ae,aa,af,ac,aa,ai] [ag] p v).t:=by kernel_rfl
def QX (p:lw) (v:a7):(à lr [tI,tI,ae,aa,af,ac,aa,ai] [ag] p v).t.all (st3 3)=true:=by kernel_rfl
def Nc (p:lw) (v:a7) (y:b5) (a:lw->a7->rF ρ):Br (je ρ) (Ğ (je ρ) (10-4 / 2)) 209 [1,3,1,1] 3 0 (iw (ô (je ρ).P 209) 0) (à lr [tI,tI,ae,aa,af,ac,aa,ai] [ag] p v) (enc am y) ((oD ρ).back a)=(oD ρ).bF p v y (a p):=by kernel_rfl
def QZ (a:jZ Tryz.prog qq):(oD ρ).Ok (je ρ):=⟨Nb,a,QW,QX,Nc⟩
def Yw (x:a8) (k:a7->rF ρ) :
    LN (je ρ) 58 [Ä] [ag] x k=ac4 x k:=by kernel_rfl
def Dx:(rl ρ).Ok (xY ρ):=⟨by kernel_rfl,fun p v b a=>by kernel_rfl⟩
def Sx:(GB ρ).Ok (Uh ρ):=⟨by kernel_rfl,fun p v b a=>by kernel_rfl⟩
def OS:(Cl ρ).Ok (OT ρ):=⟨by kernel_rfl,fun p v b a=>by kernel_rfl⟩
def Lj:(zr ρ).Ok (iS ρ):=⟨by kernel_rfl,fun p v b a=>by kernel_rfl⟩
def Li:(zp ρ).Ok (iS ρ):=⟨by kernel_rfl,fun p v b a=>by kernel_rfl⟩
def Lh:(zn ρ).Ok (iS ρ):=⟨by kernel_rfl,fun p v b a=>by kernel_rfl⟩
def Lf:(zk ρ).Ok (iS ρ):=⟨by kernel_rfl,fun p v b a=>by kernel_rfl⟩
def Lg:(zm ρ).Ok (iS ρ):=⟨by kernel_rfl,fun p v b a=>by kernel_rfl⟩
def RN (x:Val (.pair Ý (.pair ay tI))) (k:an->rF ρ) :
    LN (iS ρ) 267 [Ý,ay,tI] [ab] x k=Ub x.1 x.2.1 x.2.2 k:=by kernel_rfl
def OV:(Cn ρ).Ok (DM ρ):=⟨by kernel_rfl,fun p v b a=>by kernel_rfl⟩
def OU:(Cm ρ).Ok (DM ρ):=⟨by kernel_rfl,fun p v b a=>by kernel_rfl⟩
def KE:(yn ρ).Ok (yp ρ):=⟨by kernel_rfl,fun p v b a=>by kernel_rfl⟩
def KD:(yl ρ).Ok (yp ρ):=⟨by kernel_rfl,fun p v b a=>by kernel_rfl⟩
end Go.Proofs.ZzM
end
