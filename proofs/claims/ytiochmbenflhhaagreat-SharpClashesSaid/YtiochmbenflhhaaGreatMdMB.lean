/- lemmas -/
import Derived.Test.YtiochmbenflhhaaGreatMdMA
set_option linter.all false
set_option linter.unusedSectionVars false
set_option linter.unusedVariables false
set_option linter.unusedSimpArgs false
noncomputable section
set_option maxRecDepth 100000
namespace Go.Proofs.ZzM
open Go Go.Am
def Wv:Ô:=⟨[Â],[tI],fun(x:Val Â)=>Bi x⟩
def Zz:List (Nat×Ô):=[(241,acK)]
def UP (ρ:Type):List (Ú ρ):=[]
def LK (ρ:Type):Env ρ:=Õ Zz (UP ρ)
def aml:Ô:=⟨[tI,tI],[tI],fun(x:Val Â)=>ahH x.1 x.2⟩
def aku:List (Nat×Ô):=[]
def agP (ρ:Type):List (Ú ρ):=[]
def adH (ρ:Type):Env ρ:=Õ aku (agP ρ)
def acM:Ô:=⟨[Â],[tI],fun(x:Val Â)=>HZ x⟩
def adS:List (Nat×Ô):=[(242,aml)]
def ZA (ρ:Type):List (Ú ρ):=[]
def QB (ρ:Type):Env ρ:=Õ adS (ZA ρ)
def acE:Ô:=⟨[Ã,È],[Â],fun(x:Val aE)=>uO x.1 x.2⟩
def adr:List (Nat×Ô):=[(201,OS),(202,Wr),(203,Wv),(204,acM)]
def YV (ρ:Type):List (Ú ρ):=[]
def PN (ρ:Type):Env ρ:=Õ adr (YV ρ)
def X6:Ô:=⟨[Ã],[w9],fun(x:Val Ã)=>wM x⟩
def FJ:Æ:=Ls 0 [aa,tI,tI,tI,ac,aa,af,ab,aa,tI,tI,tI,tI,tI,tI,tI,tI] [tI,ah,aa] ⟨182,[.any,.box 0 0,.box 1 0,.box 2 0,.con aa,.con tI,.box 3 0,.var tI],[bp,bU,.cells [.own 4,.own 5],bq,.rowv Ĉ,.rowv Â]⟩ [(.exit 2,⟨182,[.any,.box 0 0,.box 1 0,.box 2 0,.con aa,.con tI,.box 3 0],[bp,bU,.cells [.own 4,.own 5],bq,.rowv Ĉ,.rowv Â]⟩,[ah,aa])]
def FI (ρ:Type):Ú ρ:=⟨[],65,2,FJ,fun(p:Val (tyL FJ.cs)) (v:Val aT) a b=>let A:=p.2.2.2.2;let B:=A.2.2.2.2;pZ p.1 p.2.1 p.2.2.1 p.2.2.2.1 A.1 A.2.1 A.2.2.1 A.2.2.2.1 B.1 B.2.1 B.2.2.1 B.2.2.2.1 B.2.2.2.2.1 B.2.2.2.2.2.1 v.1 v.2.1 v.2.2 (fun c d e=>a (c,d,e)) (b 0)⟩
def YS:Æ:=Ls 0 [aa,tI,tI,ac,aa,af,ab,aa] [tI,ah,aa] ⟨182,[.any,.box 0 0,.box 1 0,.box 2 0,.con aa,.var tI],cN⟩ [(.exit 0,⟨182,[.any,.box 0 0,.box 1 0,.box 2 0,.con aa],cN⟩,[ah,aa])]
def FK (ρ:Type):Ú ρ:=⟨[],65,0,YS,fun(p:Val (.pair aa ai)) (v:Val aT) a b=>let A:=p.2.2.2.2;vE p.1 p.2.1 p.2.2.1 p.2.2.2.1 A.1 A.2.1 A.2.2.1 A.2.2.2 v.1 v.2.1 v.2.2 (fun c d e=>a (c,d,e)) (b 0)⟩
def YR:Æ:=Ls 0 [tI,tI,ac,aa,af,ab,aa] [tI,ah,aa] ⟨182,.any::.box 0 0::.box 1 0::.box 2 0::aN 5 [.var tI],cN⟩ [(.exit 4,⟨182,[.any,.box 0 0,.box 1 0,.box 2 0],cN⟩,[ah,aa])]
def FH (ρ:Type):Ú ρ:=⟨[],65,4,YR,fun(p:Val ai) (v:Val aT) a b=>let A:=p.2.2.2.2;vD p.1 p.2.1 p.2.2.1 p.2.2.2.1 A.1 A.2.1 A.2.2 v.1 v.2.1 v.2.2 (fun c d e=>a (c,d,e)) (b 0)⟩
def agI:List (Nat×Ô):=[(64,tP),(85,I2),(138,acH),(139,NW),(140,acE)]
def adp (ρ:Type):List (Ú ρ):=[FI ρ,FK ρ,FH ρ]
def ud (ρ:Type):Env ρ:=Õ agI (adp ρ)
def tQ:Ô:=⟨[Ã],[tI],fun(x:Val Ã)=>jX x⟩
def Qf:Æ:=Ls 0 [tI,tI,ac,aa,af,ab,aa] [tI] ⟨170,[.any,.box 0 0,.any,.var tI],[bp]⟩ [(.ret,⟨170,[.any,.box 0 0,.var tI],[bp]⟩,[tI]),(.exit 0,⟨170,[.any,.box 0 0],[bp]⟩,[])]
def yV (ρ:Type):Ú ρ:=⟨[],15,0,Qf,fun(p:Val ai) (v:Val tI) b a=>o8 p.2.2.1 v (fun c=>b c) (a 0) (a 1)⟩
def Qd:Æ:=Ls 0 [tI,tI,tI,ac,aa,af,ab,aa] [tI] ⟨170,.any::.box 0 0::aN 4 [.con tI,.any,.var tI],[bp]⟩ [(.ret,⟨170,[.any,.box 0 0,.var tI,.any,.any,.any,.con tI],[bp]⟩,[tI]),(.exit 4,⟨170,.any::.box 0 0::aN 4 [.con tI],[bp]⟩,[])]
def yT (ρ:Type):Ú ρ:=⟨[],15,4,Qd,fun(p:Val aF) (v:Val tI) b a=>oZ p.1 p.2.2.2.2.2.2.1 v (fun c=>b c) (a 0) (a 1)⟩
def Qe:Æ:=Ls 0 [tI,tI,ac,aa,af,ab,aa] [tI] ⟨170,.any::.box 0 0::aN 4 [.var tI],[bp]⟩ [(.ret,⟨170,[.any,.box 0 0,.var tI],[bp]⟩,[tI]),(.exit 2,⟨170,[.any,.box 0 0],[bp]⟩,[])]
def yU (ρ:Type):Ú ρ:=⟨[],15,2,Qe,fun(p:Val ai) (v:Val tI) b a=>let A:=p.2.2.2.2;jL p.1 p.2.1 p.2.2.1 p.2.2.2.1 A.1 A.2.1 A.2.2 v (fun c=>b c) (a 0) (a 1)⟩
def Qc:Æ:=Ls 0 [tI,tI,ac,aa,af,ab,aa] [tI] ⟨170,.any::.box 0 0::aN 7 [.var tI],[bp]⟩ [(.ret,⟨170,[.any,.box 0 0,.var tI],[bp]⟩,[tI]),(.exit 6,⟨170,[.any,.box 0 0],[bp]⟩,[])]
def yS (ρ:Type):Ú ρ:=⟨[],15,6,Qc,fun(p:Val ai) (v:Val tI) b a=>let A:=p.2.2.2.2;jK p.1 p.2.1 p.2.2.1 p.2.2.2.1 A.1 A.2.1 A.2.2 v (fun c=>b c) (a 0) (a 1)⟩
def Zh:List (Nat×Ô):=[(56,nA),(57,Wq),(58,acB),(59,Wo),(60,Wn),(61,Fe),(62,Fg),(63,tO),(64,tP),(65,X6)]
def Uz (ρ:Type):List (Ú ρ):=[yV ρ,yT ρ,yU ρ,yS ρ]
def lh (ρ:Type):Env ρ:=Õ Zh (Uz ρ)
def vn:Ô:=⟨[Ã],[É],fun(x:Val Ã)=>la x⟩
def Ug:List (Nat×Ô):=[(64,tP),(65,X6)]
def PL (ρ:Type):List (Ú ρ):=[]
def FL (ρ:Type):Env ρ:=Õ Ug (PL ρ)
def Lw:Ô:=⟨[É,ae],[.bool],fun(x:Val aU)=>su x.1 x.2⟩
def JK:Æ:=Ls 0 [ae,tI,ah] [tI] ⟨27,[.any,.con ae,.box 0 0,.any,.any,.var tI],[bz]⟩ [(.ret,⟨27,[.any,.con ae,.box 0 0,.any,.var .bool],[bz]⟩,[.bool]),(.exit 0,⟨27,[.any,.con ae,.box 0 0],[bz]⟩,[])]
def ue (ρ:Type):Ú ρ:=⟨[],157,0,JK,fun(p:Val (.pair ae É)) (v:Val tI) b a=>lX p.1 p.2.2 v (fun c=>b c) (a 0) (a 1)⟩
def Qq:List (Nat×Ô):=[]
def M3 (ρ:Type):List (Ú ρ):=[ue ρ]
def sR (ρ:Type):Env ρ:=Õ Qq (M3 ρ)
def aiN:Ô:=⟨[É,tI,ae],[tI,tI,.bool],fun(x:Val (.pair É aw))=>Od x.1 x.2.1 x.2.2⟩
def Zl:Æ:=Ls 0 [ae,tI,ah] [tI,tI,tI] ⟨67,.any::.var tI::.con ae::.box 0 0::aN 5 [.var tI,.var tI],[bz]⟩ [(.ret,⟨67,[.any,.any,.con ae,.box 0 0,.any,.any,.var tI,.var tI,.var .bool],[bz]⟩,[tI,tI,.bool]),(.exit 0,⟨67,.any::.var tI::.con ae::.box 0 0::aN 5 [.var tI],[bz]⟩,[tI,tI])]
def FR (ρ:Type):Ú ρ:=⟨[],158,0,Zl,fun(p:Val (.pair ae É)) (v:Val Ĉ) b a=>vI p.1 p.2.2 v.1 v.2.1 v.2.2 (fun c d e=>b (c,d,e)) (a 0) (a 1)⟩
def agO:List (Nat×Ô):=[]
def adF (ρ:Type):List (Ú ρ):=[FR ρ]
def JH (ρ:Type):Env ρ:=Õ agO (adF ρ)
def OU:Ô:=⟨[É,ae],[.bool],fun(x:Val aU)=>EF x.1 x.2⟩
def UG:List (Nat×Ô):=[(157,Lw),(158,aiN)]
def Qr (ρ:Type):List (Ú ρ):=[]
def FU (ρ:Type):Env ρ:=Õ UG (Qr ρ)
def yj:Ô:=⟨[ü],[tI],fun(x:Val ü)=>ir x⟩
def FD:List (Nat×Ô):=[(15,tQ),(31,vn),(82,OU)]
def DH (ρ:Type):List (Ú ρ):=[]
def t8 (ρ:Type):Env ρ:=Õ FD (DH ρ)
def Ff:Ô:=⟨[ae,ae],[.bool],fun(x:Val aO)=>jV x.1 x.2⟩
def FO:Æ:=Ls 0 [ae,ae] [tI] ⟨26,[.con ae,.con ae,.any,.any,.any,.var tI],[]⟩ [(.ret,⟨26,[.con ae,.con ae,.any,.any,.var .bool],[]⟩,[.bool]),(.exit 0,⟨26,[.con ae,.con ae],[]⟩,[])]
def rH (ρ:Type):Ú ρ:=⟨[],214,0,FO,fun(p:Val aO) (v:Val tI) b a=>kD p.1 p.2 v (fun c=>b c) (a 0) (a 1)⟩
def MD:List (Nat×Ô):=[]
def Jr (ρ:Type):List (Ú ρ):=[rH ρ]
def qe (ρ:Type):Env ρ:=Õ MD (Jr ρ)
def xc:Ô:=⟨[È,È],[.bool],fun(x:Val (.pair È È))=>kI x.1 x.2⟩
def DS:List (Nat×Ô):=[(214,Ff)]
def BK (ρ:Type):List (Ú ρ):=[]
def rI (ρ:Type):Env ρ:=Õ DS (BK ρ)
def B7:Ô:=⟨[aa,aa],[.bool],fun(x:Val (.pair aa aa))=>kj x.1 x.2⟩
def DQ:Æ:=Ls 0 [aa,aa] [tI] ⟨26,[.con aa,.con aa,.any,.any,.any,.var tI],[]⟩ [(.ret,⟨26,[.con aa,.con aa,.any,.any,.var .bool],[]⟩,[.bool]),(.exit 0,⟨26,[.con aa,.con aa],[]⟩,[])]
def qd (ρ:Type):Ú ρ:=⟨[],160,0,DQ,fun(p:Val (.pair aa aa)) (v:Val tI) b a=>jJ p.1 p.2 v (fun c=>b c) (a 0) (a 1)⟩
def Jq:List (Nat×Ô):=[]
def FM (ρ:Type):List (Ú ρ):=[qd ρ]
def ox (ρ:Type):Env ρ:=Õ Jq (FM ρ)
def acF:Ô:=⟨[Ã,Ã],[.bool],fun(x:Val aW)=>qC x.1 x.2⟩
def Um:Æ:=Ls 0 [tI,tI,ac,aa,af,ab,aa,tI,tI,ac,aa,af,ab,aa] [tI] ⟨130,[.any,.any,.box 0 0,.box 1 0,.any,.var tI],cO⟩ [(.ret,⟨130,[.any,.any,.box 0 0,.box 1 0,.var .bool],cO⟩,[.bool]),(.exit 0,⟨130,[.any,.any,.box 0 0,.box 1 0],cO⟩,[])]
def Ct (ρ:Type):Ú ρ:=⟨[],83,0,Um,fun(p:Val aq) (v:Val tI) b a=>rG p.2.2.1 p.2.2.2.2.2.2.2.2.2.1 v (fun c=>b c) (a 0) (a 1)⟩
def Ul:Æ:=Ls 0 [tI,tI,ac,aa,af,ab,aa,tI,tI,ac,aa,af,ab,aa] [tI] ⟨130,[.any,.any,.box 0 0,.box 1 0,.any,.any,.var tI],cO⟩ [(.ret,⟨130,[.any,.any,.box 0 0,.box 1 0,.var .bool],cO⟩,[.bool]),(.exit 2,⟨130,[.any,.any,.box 0 0,.box 1 0],cO⟩,[])]
def Cs (ρ:Type):Ú ρ:=⟨[],83,2,Ul,fun(p:Val aq) (v:Val tI) b a=>rE p.2.2.2.1 p.2.2.2.2.2.2.2.2.2.2.1 v (fun c=>b c) (a 0) (a 1)⟩
def Uk:Æ:=Ls 0 [tI,tI,ac,aa,af,ab,aa,tI,tI,ac,aa,af,ab,aa] [tI] ⟨130,[.any,.any,.box 0 0,.box 1 0,.any,.any,.any,.var tI],cO⟩ [(.ret,⟨130,[.any,.any,.box 0 0,.box 1 0,.var .bool],cO⟩,[.bool]),(.exit 4,⟨130,[.any,.any,.box 0 0,.box 1 0],cO⟩,[])]
def Cr (ρ:Type):Ú ρ:=⟨[],83,4,Uk,fun(p:Val aq) (v:Val tI) b a=>rD p.2.2.2.2.1 p.2.2.2.2.2.2.2.2.2.2.2.1 v (fun c=>b c) (a 0) (a 1)⟩
def Uj:Æ:=Ls 0 [tI,tI,ac,aa,af,ab,aa,tI,tI,ac,aa,af,ab,aa] [tI] ⟨130,aN 2 (.box 0 0::.box 1 0::aN 4 [.var tI]),cO⟩ [(.ret,⟨130,[.any,.any,.box 0 0,.box 1 0,.var .bool],cO⟩,[.bool]),(.exit 6,⟨130,[.any,.any,.box 0 0,.box 1 0],cO⟩,[])]
def Cq (ρ:Type):Ú ρ:=⟨[],83,6,Uj,fun(p:Val aq) (v:Val tI) b a=>rC p.2.2.2.2.2.1 p.2.2.2.2.2.2.2.2.2.2.2.2.1 v (fun c=>b c) (a 0) (a 1)⟩
def ads:List (Nat×Ô):=[(159,xc),(160,B7)]
def YX (ρ:Type):List (Ú ρ):=[Ct ρ,Cs ρ,Cr ρ,Cq ρ]
def mU (ρ:Type):Env ρ:=Õ ads (YX ρ)
def vp:Ô:=⟨[ae,ae],[.bool],fun(x:Val aO)=>Κ x.1 x.2⟩
def FS:Æ:=Ls 0 [ae,ae] [tI] ⟨26,[.con ae,.con ae,.any,.any,.any,.var tI],[]⟩ [(.ret,⟨26,[.con ae,.con ae,.any,.any,.var .bool],[]⟩,[.bool]),(.exit 0,⟨26,[.con ae,.con ae],[]⟩,[])]
def rP (ρ:Type):Ú ρ:=⟨[],84,0,FS,fun(p:Val aO) (v:Val tI) b a=>kE p.1 p.2 v (fun c=>b c) (a 0) (a 1)⟩
def MZ:List (Nat×Ô):=[]
def JI (ρ:Type):List (Ú ρ):=[rP ρ]
def qf (ρ:Type):Env ρ:=Õ MZ (JI ρ)
def Fc:Ô:=⟨[ü,ü],[.bool],fun(x:Val (.pair ü ü))=>jT x.1 x.2⟩
def Mw:List (Nat×Ô):=[(83,acF),(84,vp)]
def Jh (ρ:Type):List (Ú ρ):=[]
def yC (ρ:Type):Env ρ:=Õ Mw (Jh ρ)
def acI:Ô:=⟨[Ã,Â],[Ã,tI],fun(x:Val aG)=>uQ x.1 x.2⟩
def adv:List (Nat×Ô):=[(15,tQ)]
def Y4 (ρ:Type):List (Ú ρ):=[]
def P1 (ρ:Type):Env ρ:=Õ adv (Y4 ρ)
def I4:Ô:=⟨[É],[ak,.bool],fun(x:Val É)=>pH x⟩
def zc:Æ:=Ls 1 [tI,tI,tI,ah,ak] [tI,ae] ⟨33,[.con tI,.any,.any,.dp 1,.con tI,.own 2,.var tI],[bz,.deepc .i64,.rowv tI]⟩ [(.exit 2,⟨33,[.con tI,.any,.any,.dp 1,.con tI,.own 2],[bz,.deepc .i64,.rowv tI]⟩,[ae])]
def zb (ρ:Type):Ú ρ:=⟨[1,2],161,2,zc,fun(p:Val (tyL zc.cs)) (v:Val aw) a b=>lW p.1 p.2.1 v.1 v.2 (fun c d=>a (c,d)) (b 0)⟩
def Qn:Æ:=Ls 1 [tI,tI,ah] [tI,ak] ⟨33,[.con tI,.any,.any,.dp 1,.var tI],cQ⟩ [(.exit 0,⟨33,[.con tI,.any,.any,.dp 1],cQ⟩,[ak])]
def zd (ρ:Type):Ú ρ:=⟨[1,2],161,0,Qn,fun(p:Val aH) (v:Val aM) a b=>iK p.1 v.1 v.2 (fun c d=>a (c,d)) (b 0)⟩
def Qm:Æ:=Ls 0 [tI,ah] [tI,ak] ⟨124,[.any,.box 0 0,.any,.any,.dp 1,.var tI],cQ⟩ [(.exit 0,⟨124,[.any,.box 0 0,.any,.any,.dp 1],cQ⟩,[ak])]
def za (ρ:Type):Ú ρ:=⟨[],87,0,Qm,fun(p:Val É) (v:Val aM) a b=>lV p.2 v.1 v.2 (fun c d=>a (c,d)) (b 0)⟩
def Qj:Æ:=Ls 0 [tI,tI,tI,ah] [tI,ak] ⟨124,[.any,.box 0 0,.any,.any,.dp 1,.any,.any,.con tI,.con tI,.var tI],cQ⟩ [(.exit 6,⟨124,[.any,.box 0 0,.any,.any,.dp 1,.any,.any,.con tI,.con tI],cQ⟩,[ak])]
def yY (ρ:Type):Ú ρ:=⟨[],87,6,Qj,fun(p:Val (.pair tI aH)) (v:Val aM) a b=>lT p.1 p.2.1 p.2.2.1 v.1 v.2 (fun c d=>a (c,d)) (b 0)⟩
def Qk:Æ:=Ls 0 [tI,tI,ah] [tI,ak] ⟨124,[.any,.box 0 0,.any,.any,.dp 1,.any,.any,.con tI,.var tI],cQ⟩ [(.exit 4,⟨124,[.any,.box 0 0,.any,.any,.dp 1,.any,.any,.con tI],cQ⟩,[ak])]
def yZ (ρ:Type):Ú ρ:=⟨[],87,4,Qk,fun(p:Val aH) (v:Val aM) a b=>lU p.1 p.2.1 v.1 v.2 (fun c d=>a (c,d)) (b 0)⟩
def yX:Æ:=Ls 0 [tI,tI,ah,ak] [tI] ⟨124,[.any,.box 0 0,.any,.any,.dp 1,.any,.any,.con tI,.any,.any,.var tI],[bz,.deepc .i64]⟩ [(.ret,⟨124,[.any,.box 0 0,.nils,.var .bool,.dp 1,.any,.any,.con tI],[bz,.deepc .i64]⟩,[.bool]),(.exit 8,⟨124,[.any,.box 0 0,.any,.any,.dp 1,.any,.any,.con tI],[bz,.deepc .i64]⟩,[])]
def yW (ρ:Type):Ú ρ:=⟨[],87,8,yX,fun(p:Val (tyL yX.cs)) (v:Val tI) b a=>iJ p.2.1 p.2.2.2 v (fun c=>b c) (a 0) (a 1)⟩
def Ql:Æ:=Ls 0 [tI,ah] [tI,ak] ⟨124,[.any,.box 0 0,.any,.any,.dp 1,.any,.any,.var tI],cQ⟩ [(.ret,⟨124,[.any,.box 0 0,.nils,.var .bool,.dp 1],cQ⟩,[.bool,ak]),(.exit 2,⟨124,[.any,.box 0 0,.any,.any,.dp 1],cQ⟩,[ak])]
def y0 (ρ:Type):Ú ρ:=⟨[],87,2,Ql,fun(p:Val É) (v:Val aM) b a=>jM p.1 v.1 v.2 (fun c d=>b (c,d)) (a 0) (a 1)⟩
def Zk:List (Nat×Ô):=[]
def UC (ρ:Type):List (Ú ρ):=[zb ρ,zd ρ,za ρ,yY ρ,yZ ρ,yW ρ,y0 ρ]
def Θ (ρ:Type):Env ρ:=Õ Zk (UC ρ)
def acA:Ô:=⟨[Ã,aa],[Ow],fun(x:Val (.pair Ã aa))=>HT x.1 x.2⟩
def T0:Æ:=Ls 0 [aa] [tI,tI,tI,ac,aa,af,ab,aa,tI,tI,tI,tI] ⟨59,[.any,.con aa,.box 0 0,.any,.box 1 0,.any,.var tI],[bH,bW]⟩ [(.ret,⟨59,[.any,.con aa,.box 0 0,.any,.box 1 0],[bH,bW]⟩,[tI,tI,ac,aa,af,ab,aa,tI,tI,tI,tI]),(.exit 0,⟨59,[.any,.con aa,.box 0 0,.any,.box 1 0],[bH,bW]⟩,[tI,tI,ac,aa,af,ab,aa,tI,tI,tI,tI])]
def Ck (ρ:Type):Ú ρ:=⟨[],28,0,T0,fun(p:Val aa) (v:Val (.pair tI ay)) b a=>nI p v.1 v.2.1 v.2.2.1 v.2.2.2.1 v.2.2.2.2.1 v.2.2.2.2.2.1 v.2.2.2.2.2.2.1 v.2.2.2.2.2.2.2.1 v.2.2.2.2.2.2.2.2.1 v.2.2.2.2.2.2.2.2.2.1 v.2.2.2.2.2.2.2.2.2.2.1 v.2.2.2.2.2.2.2.2.2.2.2 (fun c d e f g h i j k l m n=>b (c,d,e,f,g,h,i,j,k,l,m,n)) (a 0) (a 1)⟩
def adj:List (Nat×Ô):=[(15,tQ),(31,vn),(85,I2),(86,acI),(87,I4)]
def YE (ρ:Type):List (Ú ρ):=[Ck ρ]
def DG (ρ:Type):Env ρ:=Õ adj (YE ρ)
def Wm:Ô:=⟨[Ã,Ï],[.bool],fun(x:Val (.pair Ã Ï))=>pG x.1 x.2⟩
def Ps:Æ:=Ls 0 [tI,tI,ac,aa,af,ab,aa,tI,tI,tI,tI,tI,tI,tI,tI] [tI] ⟨20,[.any,.any,.box 0 0,.box 1 0,.any,.var tI],ce⟩ [(.ret,⟨20,[.any,.any,.box 0 0,.box 1 0,.var .bool],ce⟩,[.bool]),(.exit 0,⟨20,[.any,.any,.box 0 0,.box 1 0],ce⟩,[])]
def yA (ρ:Type):Ú ρ:=⟨[],88,0,Ps,fun(p:Val aD) (v:Val tI) b a=>let A:=p.2.2.2.2.2.2.2;let B:=A.2.2.2.2;oR p.2.2.1 A.1 A.2.1 A.2.2.1 A.2.2.2.1 B.1 B.2.1 B.2.2.1 B.2.2.2 v (fun c=>b c) (a 0) (a 1)⟩
def YB:List (Nat×Ô):=[]
def TV (ρ:Type):List (Ú ρ):=[yA ρ]
def yB (ρ:Type):Env ρ:=Õ YB (TV ρ)
def xb:Ô:=⟨[È,È],[.bool],fun(x:Val (.pair È È))=>kH x.1 x.2⟩
def DF:List (Nat×Ô):=[(84,vp)]
def BH (ρ:Type):List (Ú ρ):=[]
def rk (ρ:Type):Env ρ:=Õ DF (BH ρ)
def Wj:Ô:=⟨[Ã,tI],[.bool],fun(x:Val aJ)=>jS x.1 x.2⟩
def Pr:Æ:=Ls 0 [tI,tI,tI,ac,aa,af,ab,aa] [tI] ⟨21,[.any,.con tI,.box 0 0,.any,.any,.var tI],[bp]⟩ [(.ret,⟨21,[.any,.con tI,.box 0 0,.any,.var .bool],[bp]⟩,[.bool]),(.exit 0,⟨21,[.any,.con tI,.box 0 0],[bp]⟩,[])]
def yy (ρ:Type):Ú ρ:=⟨[],162,0,Pr,fun(p:Val aF) (v:Val tI) b a=>oQ p.1 p.2.2.2.1 v (fun c=>b c) (a 0) (a 1)⟩
def YA:List (Nat×Ô):=[]
def TT (ρ:Type):List (Ú ρ):=[yy ρ]
def yz (ρ:Type):Env ρ:=Õ YA (TT ρ)
def acy:Ô:=⟨[Ã,Ã,Ã],[.bool],fun(x:Val (.pair Ã aW))=>Ah x.1 x.2.1 x.2.2⟩
def TR:Æ:=Ls 0 [tI,tI,tI,ac,aa,af,ab,aa,tI,tI,ac,aa,af,ab,aa,tI,tI,ac,aa,af,ab,aa] [.bool,tI] ⟨91,[.any,.any,.any,.box 0 0,.box 1 0,.box 2 0,.any,.con tI,.var .bool,.var tI],cR⟩ [(.exit 2,⟨91,[.any,.any,.any,.box 0 0,.box 1 0,.box 2 0,.any,.con tI,.var .bool],cR⟩,[.bool])]
def Cf (ρ:Type):Ú ρ:=⟨[],90,2,TR,fun(p:Val (.pair tI aP)) (v:Val aQ) a b=>ri p.1 p.2.2.2.2.1 p.2.2.2.2.2.2.2.2.2.2.2.1 v.1 v.2 (fun c d=>a (c,d)) (b 0)⟩
def TS:Æ:=Ls 0 [tI,tI,ac,aa,af,ab,aa,tI,tI,ac,aa,af,ab,aa,tI,tI,ac,aa,af,ab,aa] [tI] ⟨91,[.any,.any,.any,.box 0 0,.box 1 0,.box 2 0,.any,.var tI],cR⟩ [(.ret,⟨91,[.any,.any,.any,.box 0 0,.box 1 0,.box 2 0,.var .bool],cR⟩,[.bool]),(.exit 0,⟨91,[.any,.any,.any,.box 0 0,.box 1 0,.box 2 0],cR⟩,[])]
def Cg (ρ:Type):Ú ρ:=⟨[],90,0,TS,fun(p:Val aP) (v:Val tI) b a=>let A:=p.2.2.2.2.2.2.2.2.2.2;let B:=A.2.2.2.2;let C:=B.2.2.2.2;rj p.2.2.2.1 A.1 B.1 B.2.1 B.2.2.1 B.2.2.2.1 C.1 C.2.1 C.2.2 v (fun c=>b c) (a 0) (a 1)⟩
def TP:Æ:=Ls 0 [tI,tI,tI,ac,aa,af,ab,aa,tI,tI,ac,aa,af,ab,aa,tI,tI,ac,aa,af,ab,aa] [.bool,tI] ⟨91,aN 3 (.box 0 0::.box 1 0::.box 2 0::aN 4 [.con tI,.var .bool,.var tI]),cR⟩ [(.exit 6,⟨91,aN 3 (.box 0 0::.box 1 0::.box 2 0::aN 4 [.con tI,.var .bool]),cR⟩,[.bool])]
def Cd (ρ:Type):Ú ρ:=⟨[],90,6,TP,fun(p:Val (.pair tI aP)) (v:Val aQ) a b=>rg p.1 p.2.2.2.2.2.1 p.2.2.2.2.2.2.2.2.2.2.2.2.1 v.1 v.2 (fun c d=>a (c,d)) (b 0)⟩
def TQ:Æ:=Ls 0 [tI,tI,ac,aa,af,ab,aa,tI,tI,ac,aa,af,ab,aa,tI,tI,ac,aa,af,ab,aa] [tI] ⟨91,aN 3 (.box 0 0::.box 1 0::.box 2 0::aN 4 [.var tI]),cR⟩ [(.ret,⟨91,[.any,.any,.any,.box 0 0,.box 1 0,.box 2 0,.var .bool],cR⟩,[.bool]),(.exit 4,⟨91,[.any,.any,.any,.box 0 0,.box 1 0,.box 2 0],cR⟩,[])]
def Ce (ρ:Type):Ú ρ:=⟨[],90,4,TQ,fun(p:Val aP) (v:Val tI) b a=>let A:=p.2.2.2.2;let B:=A.2.2.2.2.2.2.2;let C:=B.2.2.2.2;rh A.1 B.1 B.2.2.2.1 C.1 C.2.1 C.2.2.1 C.2.2.2.1 C.2.2.2.2.1 C.2.2.2.2.2 v (fun c=>b c) (a 0) (a 1)⟩
def adh:List (Nat×Ô):=[(162,Wj)]
def Yy (ρ:Type):List (Ú ρ):=[Cf ρ,Cg ρ,Cd ρ,Ce ρ]
def mT (ρ:Type):Env ρ:=Õ adh (Yy ρ)
def acz:Ô:=⟨[Ã,Ã],[.bool],fun(x:Val aW)=>HS x.1 x.2⟩
def TZ:Æ:=Ls 0 [tI,tI,ac,aa,af,ab,aa,tI,tI,ac,aa,af,ab,aa] [tI] ⟨69,[.any,.any,.box 0 0,.box 1 0,.any,.var tI],cO⟩ [(.ret,⟨69,[.any,.any,.box 0 0,.box 1 0,.var .bool],cO⟩,[.bool]),(.exit 0,⟨69,[.any,.any,.box 0 0,.box 1 0],cO⟩,[])]
def Cj (ρ:Type):Ú ρ:=⟨[],29,0,TZ,fun(p:Val aq) (v:Val tI) b a=>let A:=p.2.2.2.2.2.2.2;let B:=A.2.2.2.2;rq p.2.2.1 A.1 A.2.1 A.2.2.1 A.2.2.2.1 B.1 B.2.1 B.2.2 v (fun c=>b c) (a 0) (a 1)⟩
def TX:Æ:=Ls 0 [tI,tI,tI,ac,aa,af,ab,aa,tI,tI,ac,aa,af,ab,aa] [.bool,tI] ⟨69,[.any,.any,.box 0 0,.box 1 0,.any,.any,.con tI,.var .bool,.var tI],cO⟩ [(.exit 4,⟨69,[.any,.any,.box 0 0,.box 1 0,.any,.any,.con tI,.var .bool],cO⟩,[.bool])]
def Ch (ρ:Type):Ú ρ:=⟨[],29,4,TX,fun(p:Val (.pair tI aq)) (v:Val aQ) a b=>rl p.1 p.2.2.2.2.2.2.1 p.2.2.2.2.2.2.2.2.2.2.2.2.2.1 v.1 v.2 (fun c d=>a (c,d)) (b 0)⟩
def TY:Æ:=Ls 0 [tI,tI,ac,aa,af,ab,aa,tI,tI,ac,aa,af,ab,aa] [tI] ⟨69,[.any,.any,.box 0 0,.box 1 0,.any,.any,.var tI],cO⟩ [(.ret,⟨69,[.any,.any,.box 0 0,.box 1 0,.var .bool],cO⟩,[.bool]),(.exit 2,⟨69,[.any,.any,.box 0 0,.box 1 0],cO⟩,[])]
def Ci (ρ:Type):Ú ρ:=⟨[],29,2,TY,fun(p:Val aq) (v:Val tI) b a=>ro p.2.2.2.2.2.1 p.2.2.2.2.2.2.2.2.2.2.2.2.1 v (fun c=>b c) (a 0) (a 1)⟩
def adi:List (Nat×Ô):=[(88,Wm),(89,xb),(90,acy)]
def YC (ρ:Type):List (Ú ρ):=[Cj ρ,Ch ρ,Ci ρ]
def pX (ρ:Type):Env ρ:=Õ adi (YC ρ)
def OT:Ô:=⟨[É,tI],[aC],fun(x:Val (.pair É tI))=>wP x.1 x.2⟩
def xo:Æ:=Ls 2 [tI,tI,tI,ah,ak] [tI,ae] ⟨33,[.con tI,.any,.any,.dp 2,.con tI,.own 3,.var tI],[bz,.dead,.deepc .i64,.rowv tI]⟩ [(.exit 2,⟨33,[.con tI,.any,.any,.dp 2,.con tI,.own 3],[bz,.dead,.deepc .i64,.rowv tI]⟩,[ae])]
def xn (ρ:Type):Ú ρ:=⟨[1,2],161,2,xo,fun(p:Val (tyL xo.cs)) (v:Val aw) a b=>CE p.1 p.2.1 v.1 v.2 (fun c d=>a (c,d)) (b 0)⟩
def MY:Æ:=Ls 2 [tI,tI,ah] [tI,ak] ⟨33,[.con tI,.any,.any,.dp 2,.var tI],[bz,.dead,.deepv .i64]⟩ [(.exit 0,⟨33,[.con tI,.any,.any,.dp 2],[bz,.dead,.deepv .i64]⟩,[ak])]
def xp (ρ:Type):Ú ρ:=⟨[1,2],161,0,MY,fun(p:Val aH) (v:Val aM) a b=>sQ p.1 v.1 v.2 (fun c d=>a (c,d)) (b 0)⟩
def xj:Æ:=Ls 2 [tI,tI,tI,ah,aC,ak] [tI,ae] ⟨33,[.con tI,.any,.any,.dp 2,.con tI,.own 3,.var tI],[bz,.rowc ak,.deepc .i64,.rowv tI]⟩ [(.exit 2,⟨33,[.con tI,.any,.any,.dp 2,.con tI,.own 3],[bz,.rowc ak,.deepc .i64,.rowv tI]⟩,[ae])]
def xi (ρ:Type):Ú ρ:=⟨[6,2],161,2,xj,fun(p:Val (tyL xj.cs)) (v:Val aw) a b=>CD p.1 p.2.1 v.1 v.2 (fun c d=>a (c,d)) (b 0)⟩
def MW:Æ:=Ls 2 [tI,tI,ah,aC] [tI,ak] ⟨33,[.con tI,.any,.any,.dp 2,.var tI],cW⟩ [(.exit 0,⟨33,[.con tI,.any,.any,.dp 2],cW⟩,[ak])]
def xl (ρ:Type):Ú ρ:=⟨[6,2],161,0,MW,fun(p:Val (.pair tI bm)) (v:Val aM) a b=>sP p.1 v.1 v.2 (fun c d=>a (c,d)) (b 0)⟩
def xf:Æ:=Ls 0 [tI,tI,ak,tI,tI,ah,aC] [tI,ak] ⟨94,[.any,.con tI,.box 0 0,.any,.any,.own 1,.con tI,.con ak,.dp 2,.con tI,.var tI],cW⟩ [(.exit 4,⟨94,[.any,.con tI,.box 0 0,.any,.any,.own 1,.con tI,.con ak,.dp 2,.con tI],cW⟩,[ak])]
def xe (ρ:Type):Ú ρ:=⟨[],91,4,xf,fun(p:Val (tyL xf.cs)) (v:Val aM) a b=>kg p.2.2.1 p.2.2.2.1 p.2.2.2.2.2.1 v.1 v.2 (fun c d=>a (c,d)) (b 0)⟩
def xh:Æ:=Ls 0 [tI,tI,ak,tI,ah,aC] [tI,ak] ⟨94,[.any,.con tI,.box 0 0,.any,.any,.own 1,.con tI,.con ak,.dp 2,.var tI],cW⟩ [(.exit 2,⟨94,[.any,.con tI,.box 0 0,.any,.any,.own 1,.con tI,.con ak,.dp 2],cW⟩,[ak])]
def xg (ρ:Type):Ú ρ:=⟨[],91,2,xh,fun(p:Val (tyL xh.cs)) (v:Val aM) a b=>kh p.2.2.1 p.2.2.2.1 p.2.2.2.2.1 v.1 v.2 (fun c d=>a (c,d)) (b 0)⟩
def MX:Æ:=Ls 0 [tI,tI,ah] [tI,aC] ⟨94,[.any,.con tI,.box 0 0,.any,.any,.own 1,.var tI],[bz,.rowv ak]⟩ [(.exit 0,⟨94,[.any,.con tI,.box 0 0,.any,.any,.own 1],[bz,.rowv ak]⟩,[aC])]
def xm (ρ:Type):Ú ρ:=⟨[],91,0,MX,fun(p:Val aH) (v:Val (.pair tI aC)) a b=>nq p.1 p.2.1 p.2.2 v.1 v.2 (fun c d=>a (c,d)) (b 0)⟩
def UE:List (Nat×Ô):=[]
def Qo (ρ:Type):List (Ú ρ):=[xn ρ,xp ρ,xi ρ,xl ρ,xe ρ,xg ρ,xm ρ]
def ş (ρ:Type):Env ρ:=Õ UE (Qo ρ)
def acJ:Ô:=⟨[É,aC,tI,tI,tI,tI],[ae],fun(x:Val (.pair É (.pair aC bf)))=>HX x.1 x.2.1 x.2.2.1 x.2.2.2.1 x.2.2.2.2.1 x.2.2.2.2.2⟩
def CB:Æ:=Ls 0 [aC,tI,tI,tI,ah] [tI,tI,tI,ae] ⟨74,.any::.con aC::.con tI::.any::.con tI::.var tI::.box 0 0::aN 6 [.own 1,.var tI,.var tI],ca⟩ [(.exit 2,⟨74,.any::.con aC::.con tI::.any::.con tI::.var tI::.box 0 0::aN 6 [.own 1,.var tI],ca⟩,[tI,tI,ae])]
def CA (ρ:Type):Ú ρ:=⟨[],92,2,CB,fun(p:Val (tyL CB.cs)) (v:Val aK) a b=>ln p.1 p.2.1 p.2.2.1 p.2.2.2.2 v.1 v.2.1 v.2.2.1 v.2.2.2 (fun c d e f=>a (c,d,e,f)) (b 0)⟩
def UB:Æ:=Ls 0 [aC,tI,tI,ah] [tI,tI,tI,ae] ⟨74,.any::.con aC::.var tI::.any::.con tI::.var tI::.box 0 0::aN 6 [.own 1,.var tI],ca⟩ [(.exit 0,⟨74,.any::.con aC::aN 2 (.con tI::.any::.box 0 0::aN 6 [.own 1]),ca⟩,[ae])]
def CC (ρ:Type):Ú ρ:=⟨[],92,0,UB,fun(p:Val (.pair aC aH)) (v:Val aK) a b=>rO p.1 p.2.1 p.2.2.2 v.1 v.2.1 v.2.2.1 v.2.2.2 (fun c d e f=>a (c,d,e,f)) (b 0)⟩
def adE:List (Nat×Ô):=[]
def Zi (ρ:Type):List (Ú ρ):=[CA ρ,CC ρ]
def vH (ρ:Type):Env ρ:=Õ adE (Zi ρ)
def Ws:Ô:=⟨[É],[ae],fun(x:Val É)=>uR x⟩
def Qt:Æ:=Ls 0 [aC,tI,tI,ah] [tI] ⟨75,[.any,.box 0 0,.any,.any,.any,.con aC,.con tI,.var tI],[bz]⟩ [(.ret,⟨75,[.any,.box 0 0,.own 1,.any,.any,.con aC,.con tI],ca⟩,[ae]),(.exit 2,⟨75,[.any,.box 0 0,.any,.any,.any,.con aC,.con tI],[bz]⟩,[])]
def zf (ρ:Type):Ú ρ:=⟨[],30,2,Qt,fun(p:Val (.pair aC aH)) (v:Val tI) b a=>lY p.1 p.2.1 p.2.2.1 p.2.2.2 v (fun c=>b c) (a 0) (a 1)⟩
def Qu:Æ:=Ls 0 [aC,tI,ah] [tI] ⟨75,[.any,.box 0 0,.any,.any,.any,.con aC,.var tI],[bz]⟩ [(.ret,⟨75,[.any,.box 0 0,.own 1,.any,.any,.con aC],ca⟩,[ae]),(.exit 0,⟨75,[.any,.box 0 0,.any,.any,.any,.con aC],[bz]⟩,[])]
def zh (ρ:Type):Ú ρ:=⟨[],30,0,Qu,fun(p:Val (.pair aC É)) (v:Val tI) b a=>o9 p.1 p.2.1 p.2.2 v (fun c=>b c) (a 0) (a 1)⟩
def Zn:List (Nat×Ô):=[(87,I4),(91,OT),(92,acJ)]
def UH (ρ:Type):List (Ú ρ):=[zf ρ,zh ρ]
def rQ (ρ:Type):Env ρ:=Õ Zn (UH ρ)
def acx:Ô:=⟨[ü,(.int .u8),tI],[ü],fun(x:Val bi)=>HQ x.1 x.2.1 x.2.2⟩
def adg:List (Nat×Ô):=[]
def Yw (ρ:Type):List (Ú ρ):=[]
def Pk (ρ:Type):Env ρ:=Õ adg (Yw ρ)
def jE:Ô:=⟨[Ã,ü,(.int .u8),tI],[.bool],fun(x:Val (.pair Ã bi))=>m9 x.1 x.2.1 x.2.2.1 x.2.2.2⟩
def BF:List (Nat×Ô):=[(7,aiL),(8,OO),(15,tQ),(24,OW),(25,sN),(26,yj),(27,Fc),(28,acA),(29,acz),(30,Ws),(31,vn),(32,acx)]
def yr (ρ:Type):List (Ú ρ):=[]
def pV (ρ:Type):Env ρ:=Õ BF (yr ρ)
end Go.Proofs.ZzM
end
