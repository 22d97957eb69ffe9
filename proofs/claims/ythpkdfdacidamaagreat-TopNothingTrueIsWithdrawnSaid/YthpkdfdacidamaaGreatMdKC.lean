/- lemmas -/
import Derived.Test.YthpkdfdacidamaaGreatMdMA
set_option linter.all false
set_option linter.unusedSectionVars false
set_option linter.unusedVariables false
set_option linter.unusedSimpArgs false
noncomputable section
variable {ρ:Type}
set_option maxRecDepth 100000
namespace Go.Proofs.ZzM
open Go Go.Am
def wm:(nw ρ).Ok (iG ρ):=⟨by kernel_rfl,fun p v kn kx=>by kernel_rfl⟩
def wj:(nu ρ).Ok (iG ρ):=⟨by kernel_rfl,fun p v kn kx=>by kernel_rfl⟩
def yY (x:Val ah) (k:(Val ab)→Option ρ) :
    Ű (iG ρ) 39 [ah] [ab] x k=ny x k:=by kernel_rfl
def DG {al:(Val ah)} {rec:(Val ab)→Option ((Val ah))}:(((į (Ĉ al rec ρ).P 151).elim [] (ß 0)).filter fun y=>Nat.beq y.1 2).length=1:=by kernel_rfl
def E9 {al:(Val ah)} {rec:(Val ab)→Option ((Val ah))}:Ra (og (į (Ĉ al rec ρ).P 151) 2)=true:=by kernel_rfl
def E7 (p:Val aX) (v v':Val ah):(þ iO [ab,tI,tI,ab,tI] [ah] p v').t=(þ iO [ab,tI,tI,ab,tI] [ah] p v).t:=by kernel_rfl
def E8 (p:Val aX) (v:Val ah):(þ iO [ab,tI,tI,ab,tI] [ah] p v).t.all (st3 4)=true:=by kernel_rfl
def DH {al:(Val ah)} {rec:(Val ab)→Option ((Val ah))} (p:Val aX) (v:Val ah) (y:(Val ab)) (kn:Val aX→Val ah→Option ρ):Cv (Ĉ al rec ρ) (Κ (Ĉ al rec ρ) (10-0 / 2)) 151 [] 4 2 (og (į (Ĉ al rec ρ).P 151) 2) (þ iO [ab,tI,tI,ab,tI] [ah] p v) (enc ab y) ((kq al rec ρ).back kn)=(kq al rec ρ).bF p v y (kn p):=by kernel_rfl
def Fc {al:(Val ah)} {rec:(Val ab)→Option ((Val ah))} (hit:lW Tryz.prog ⟨151,ab,ab,rec⟩):(kq al rec ρ).Ok (Ĉ al rec ρ):=⟨DG,hit,E7,E8,DH⟩
def DI {al:(Val ah)} {rec:(Val ab)→Option ((Val ah))}:(((į (Ĉ al rec ρ).P 151).elim [] (ß 0)).filter fun y=>Nat.beq y.1 0).length=1:=by kernel_rfl
def DJ {al:(Val ah)} {rec:(Val ab)→Option ((Val ah))} (p:Val ba) (v:Val bh) (kn:Val ba→Val bh→Option ρ) (kx:(i:Nat)→Val ba→Val (tyL (Η.zs i))→Option ρ) :
    goC (Ĉ al rec ρ) (Κ (Ĉ al rec ρ) (10-0 / 2)) 151 [] 2 0 (wC (į (Ĉ al rec ρ).P 151) 0) (þ Η.head Η.cs Η.vs p v) (Hk Η kn kx)=(oy al rec ρ).bF p v (kn p) (fun i=>kx i p):=by kernel_rfl
def Fe {al:(Val ah)} {rec:(Val ab)→Option ((Val ah))}:(oy al rec ρ).Ok (Ĉ al rec ρ):=⟨DI,DJ⟩
def JN {al:(Val ah)} {rec:(Val ab)→Option ((Val ah))} (mm:(Val ab)) (F:(Val ab)→Option (List (Val ab))):wQ (Ĉ al rec _) (Κ (Ĉ al rec _) 10) [] 151 BF (iH ⟨151,ab,ab,F⟩ mm) (Nj ⟨151,ab,ab,F⟩)=zP al rec mm some:=by kernel_rfl
def zS {al:(Val am)} {rec:(Val ai)→Option ((Val am))}:(((į (ð al rec ρ).P 121).elim [] (ß 0)).filter fun y=>Nat.beq y.1 2).length=1:=by kernel_rfl
def B8 {al:(Val am)} {rec:(Val ai)→Option ((Val am))}:Ra (og (į (ð al rec ρ).P 121) 2)=true:=by kernel_rfl
def B6 (p:Val bm) (v v':Val am):(þ Ν [ab,ai,ab] [am] p v').t=(þ Ν [ab,ai,ab] [am] p v).t:=by kernel_rfl
def B7 (p:Val bm) (v:Val am):(þ Ν [ab,ai,ab] [am] p v).t.all (st3 4)=true:=by kernel_rfl
def zT {al:(Val am)} {rec:(Val ai)→Option ((Val am))} (p:Val bm) (v:Val am) (y:(Val ah)) (kn:Val bm→Val am→Option ρ):Cv (ð al rec ρ) (Κ (ð al rec ρ) (10-0 / 2)) 121 [] 4 2 (og (į (ð al rec ρ).P 121) 2) (þ Ν [ab,ai,ab] [am] p v) (enc ah y) ((jd al rec ρ).back kn)=(jd al rec ρ).bF p v y (kn p):=by kernel_rfl
def B9 {al:(Val am)} {rec:(Val ai)→Option ((Val am))} (hit:lW Tryz.prog ⟨121,ai,ah,rec⟩):(jd al rec ρ).Ok (ð al rec ρ):=⟨zS,hit,B6,B7,zT⟩
def zU {al:(Val am)} {rec:(Val ai)→Option ((Val am))}:(((į (ð al rec ρ).P 121).elim [] (ß 0)).filter fun y=>Nat.beq y.1 0).length=1:=by kernel_rfl
def Cc {al:(Val am)} {rec:(Val ai)→Option ((Val am))}:Ra (og (į (ð al rec ρ).P 121) 0)=true:=by kernel_rfl
def Ca (p:Val ai) (v v':Val am):(þ Ξ [ai] [am] p v').t=(þ Ξ [ai] [am] p v).t:=by kernel_rfl
def Cb (p:Val ai) (v:Val am):(þ Ξ [ai] [am] p v).t.all (st3 3)=true:=by kernel_rfl
def zV {al:(Val am)} {rec:(Val ai)→Option ((Val am))} (p:Val ai) (v:Val am) (y:(Val ab)) (kn:Val ai→Val am→Option ρ):Cv (ð al rec ρ) (Κ (ð al rec ρ) (10-0 / 2)) 121 [] 3 0 (og (į (ð al rec ρ).P 121) 0) (þ Ξ [ai] [am] p v) (enc ab y) ((je al rec ρ).back kn)=(je al rec ρ).bF p v y (kn p):=by kernel_rfl
def Cd {al:(Val am)} {rec:(Val ai)→Option ((Val am))} (hit:lW Tryz.prog Nk):(je al rec ρ).Ok (ð al rec ρ):=⟨zU,hit,Ca,Cb,zV⟩
def Ft {al:(Val am)} {rec:(Val ai)→Option ((Val am))} (mm:(Val ai)) (F:(Val ai)→Option (List (Val ah))):wQ (ð al rec _) (Κ (ð al rec _) 10) [] 121 BF (iH ⟨121,ai,ah,F⟩ mm) (Nj ⟨121,ai,ah,F⟩)=uW al rec mm some:=by kernel_rfl
def rW {al:(Val ab)} {rec:(Val ab)→Option ((Val ab))}:(((į (Đ al rec ρ).P 150).elim [] (ß 0)).filter fun y=>Nat.beq y.1 0).length=1:=by kernel_rfl
def rX {al:(Val ab)} {rec:(Val ab)→Option ((Val ab))} (p:Val ba) (v:Val Ŋ) (kn:Val ba→Val Ŋ→Option ρ) (kx:(i:Nat)→Val ba→Val (tyL (ğ.zs i))→Option ρ) :
    goC (Đ al rec ρ) (Κ (Đ al rec ρ) (10-0 / 2)) 150 [] 2 0 (wC (į (Đ al rec ρ).P 150) 0) (þ ğ.head ğ.cs ğ.vs p v) (Hk ğ kn kx)=(iv al rec ρ).bF p v (kn p) (fun i=>kx i p):=by kernel_rfl
def sY {al:(Val ab)} {rec:(Val ab)→Option ((Val ab))}:(iv al rec ρ).Ok (Đ al rec ρ):=⟨rW,rX⟩
def we {al:(Val ab)} {rec:(Val ab)→Option ((Val ab))} (mm:(Val ab)) (F:(Val ab)→Option (List Int)):wQ (Đ al rec _) (Κ (Đ al rec _) 10) [] 150 BF (iH ⟨150,ab,tI,F⟩ mm) (Nj ⟨150,ab,tI,F⟩)=lq al rec mm some:=by kernel_rfl
def Pu (x:Val Ę) (k:Bool→Option ρ) :
    Ű (Jp ρ) 51 [Ã,tI,tI] [.bool] x k=Ib x.1 x.2.1 x.2.2 k:=by kernel_rfl
def Pe (x:Val Ĥ) (k:Bool→Option ρ) :
    Ű (Jo ρ) 116 [tI,tI,tI] [.bool] x k=H4 x.1 x.2.1 x.2.2 k:=by kernel_rfl
def SU (x:Val tI) (k:Bool→Option ρ) :
    Ű (M5 ρ) 101 [tI] [.bool] x k=M6 x k:=by kernel_rfl
def Vx (x:Val tI) (k:Int→Option ρ) :
    Ű (Qn ρ) 173 [tI] [(.int .u64)] x k=Sw x k:=by kernel_rfl
def Sx:(Jl ρ).Ok (MJ ρ):=⟨by kernel_rfl,fun p v kn kx=>by kernel_rfl⟩
def Yk (x:Val bo) (k:Int→Option ρ) :
    Ű (MJ ρ) 174 [(.int .u64),(.int .u64)] [(.int .u64)] x k=Yl x.1 x.2 k:=by kernel_rfl
def SD (x:Val Ã) (k:Bool→Option ρ) :
    Ű (MM ρ) 138 [Ã] [.bool] x k=MN x k:=by kernel_rfl
def M4 (x:Val Ù) (k:Bool→Option ρ) :
    Ű (Gd ρ) 99 [Ù] [.bool] x k=D4 x k:=by kernel_rfl
def AF:(qo ρ).Ok (oK ρ):=⟨by kernel_rfl,fun p v kn kx=>by kernel_rfl⟩
def D8 (x:Val Ê) (k:Int→Option ρ) :
    Ű (oK ρ) 52 [Ê] [tI] x k=sc x k:=by kernel_rfl
def H5:(yI ρ).Ok (xS ρ):=⟨by kernel_rfl,fun p v kn kx=>by kernel_rfl⟩
def MS (x:Val Ê) (k:(Val aq)→Option ρ) :
    Ű (xS ρ) 53 [Ê] [aq] x k=D0 x k:=by kernel_rfl
def xI:(od ρ).Ok (mo ρ):=⟨by kernel_rfl,fun p v kn kx=>by kernel_rfl⟩
def Ad (x:Val aD) (k:Int→Option ρ) :
    Ű (mo ρ) 75 [ab,tI] [tI] x k=oE x.1 x.2 k:=by kernel_rfl
def wi (x:Val aD) (k:Bool→Option ρ) :
    Ű (oe ρ) 38 [ab,tI] [.bool] x k=lr x.1 x.2 k:=by kernel_rfl
def Py:(Gg ρ).Ok (By ρ):=⟨by kernel_rfl,fun p v kn kx=>by kernel_rfl⟩
def Px:(Ge ρ).Ok (By ρ):=⟨by kernel_rfl,fun p v kn kx=>by kernel_rfl⟩
def VV (x:Val (.pair Ê Ù)) (k:(Val ab)→Option ρ) :
    Ű (By ρ) 106 [Ê,Ù] [ab] x k=S0 x.1 x.2 k:=by kernel_rfl
def MV:(C4 ρ).Ok (xV ρ):=⟨by kernel_rfl,fun p v kn kx=>by kernel_rfl⟩
def MW:(C6 ρ).Ok (xV ρ):=⟨by kernel_rfl,fun p v kn kx=>by kernel_rfl⟩
def SL (x:Val Ê) (k:(Val aa)→Option ρ) :
    Ű (xV ρ) 55 [Ê] [aa] x k=MX x k:=by kernel_rfl
def FW (x:Val (.pair aq Ã)) (k:Int→Option ρ) :
    Ű (yJ ρ) 102 [aq,tI,tI] [tI] x k=vh x.1 x.2.1 x.2.2 k:=by kernel_rfl
def MU (x:Val (.pair tI (.pair tI (.ptr aq)))) (k:Int→Option ρ) :
    Ű (FX ρ) 100 [tI,tI,(.ptr aq)] [tI] x k=D3 x.1 x.2.1 x.2.2 k:=by kernel_rfl
def D6:(ud ρ).Ok (nz ρ):=⟨by kernel_rfl,fun p v kn kx=>by kernel_rfl⟩
def D5:(t7 ρ).Ok (nz ρ):=⟨by kernel_rfl,fun p v kn kx=>by kernel_rfl⟩
def If (x:Val bp) (k:Int→Option ρ) :
    Ű (nz ρ) 104 [Ê,aq,tI] [tI] x k=ye x.1 x.2.1 x.2.2 k:=by kernel_rfl
def Kd:(AD ρ).Ok (AE ρ):=⟨by kernel_rfl,fun p v kn kx=>by kernel_rfl⟩
def Pq (x:Val ab) (k:Bool→Option ρ) :
    Ű (AE ρ) 73 [ab] [.bool] x k=Bx x k:=by kernel_rfl
def Po:(Gb ρ).Ok (Bw ρ):=⟨by kernel_rfl,fun p v kn kx=>by kernel_rfl⟩
def Pn:(Ga ρ).Ok (Bw ρ):=⟨by kernel_rfl,fun p v kn kx=>by kernel_rfl⟩
def VQ (x:Val (.pair ab ab)) (k:(Val ab)→Option ρ) :
    Ű (Bw ρ) 74 [ab,ab] [ab] x k=SP x.1 x.2 k:=by kernel_rfl
def Pz:(Gj ρ).Ok (Ig ρ):=⟨by kernel_rfl,fun p v kn kx=>by kernel_rfl⟩
def VX (x:Val aM) (k:(Val (.pair iZ .bool))→Option ρ) :
    Ű (Ig ρ) 108 [Ê,tI,tI] [iZ,.bool] x k=S6 x.1 x.2.1 x.2.2 k:=by kernel_rfl
def zb:(pM ρ).Ok (Ŵ ρ):=⟨by kernel_rfl,fun p v kn kx=>by kernel_rfl⟩
def y0:(pI ρ).Ok (Ŵ ρ):=⟨by kernel_rfl,fun p v kn kx=>by kernel_rfl⟩
def za:(pK ρ).Ok (Ŵ ρ):=⟨by kernel_rfl,fun p v kn kx=>by kernel_rfl⟩
def yZ:(pG ρ).Ok (Ŵ ρ):=⟨by kernel_rfl,fun p v kn kx=>by kernel_rfl⟩
def Cl (x:Val bp) (k:Int→Option ρ) :
    Ű (Ŵ ρ) 105 [Ê,aq,tI] [tI] x k=jr x.1 x.2.1 x.2.2 k:=by kernel_rfl
end Go.Proofs.ZzM
end
