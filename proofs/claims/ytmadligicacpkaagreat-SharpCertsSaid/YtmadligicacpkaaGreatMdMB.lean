/- lemmas -/
import Derived.Test.YtmadligicacpkaaGreatMdMA
set_option linter.all false
set_option linter.unusedSectionVars false
set_option linter.unusedVariables false
set_option linter.unusedSimpArgs false
noncomputable section
set_option maxRecDepth 100000
namespace Go.Proofs.ZzM
open Go Go.Am
def acb:Ö:=⟨[Â],[tI],fun(x:Val Â)=>I2 x⟩
def ac7:List (Nat×Ö):=[(245,ak7)]
def GK (ρ:Type):List (Ý ρ):=[]
def Q5 (ρ:Type):Env ρ:=Ù ac7 (GK ρ)
def ab9:Ö:=⟨[tI,tI],[tI],fun(x:Val Â)=>Ta x.1 x.2⟩
def ac1:List (Nat×Ö):=[]
def GH (ρ:Type):List (Ý ρ):=[]
def Q1 (ρ:Type):Env ρ:=Ù ac1 (GH ρ)
def Wu:Ö:=⟨[Â],[tI],fun(x:Val Â)=>Bw x⟩
def Zb:List (Nat×Ö):=[(246,ab9)]
def CZ (ρ:Type):List (Ý ρ):=[]
def Mo (ρ:Type):Env ρ:=Ù Zb (CZ ρ)
def ab4:Ö:=⟨[Ä,Ê],[Â],fun(x:Val aC)=>uW x.1 x.2⟩
def acO:List (Nat×Ö):=[(205,PF),(206,Wq),(207,acb),(208,Wu)]
def Gr (ρ:Type):List (Ý ρ):=[]
def Qr (ρ:Type):Env ρ:=Ù acO (Gr ρ)
def X1:Ö:=⟨[Ä],[xi],fun(x:Val Ä)=>wU x⟩
def Gn:È:={pin:=0,cs:=[aa,tI,tI,tI,ac,aa,ae,ab,aa,tI,tI,tI,tI,tI,tI,tI,tI],vs:=[tI,ai,aa],head:=⟨182,[.any,.box 0 0,.box 1 0,.box 2 0,.con aa,.con tI,.box 3 0,.var tI],[bo,bT,.cells [.own 4,.own 5],bp,.rowv ć,.rowv Â]⟩,exits:=[(.exit 2,⟨182,[.any,.box 0 0,.box 1 0,.box 2 0,.con aa,.con tI,.box 3 0],[bo,bT,.cells [.own 4,.own 5],bp,.rowv ć,.rowv Â]⟩,[ai,aa])]}
def Gm (ρ:Type):Ý ρ:=⟨[],103,2,Gn,fun(p:Val (tyL Gn.cs)) (v:Val aQ) a b=>let A:=p.2.2.2.2;let B:=A.2.2.2.2;pO p.1 p.2.1 p.2.2.1 p.2.2.2.1 A.1 A.2.1 A.2.2.1 A.2.2.2.1 B.1 B.2.1 B.2.2.1 B.2.2.2.1 B.2.2.2.2.1 B.2.2.2.2.2.1 v.1 v.2.1 v.2.2 (fun c d e=>a (c,d,e)) (b 0)⟩
def YH:È:={pin:=0,cs:=[aa,tI,tI,ac,aa,ae,ab,aa],vs:=[tI,ai,aa],head:=⟨182,[.any,.box 0 0,.box 1 0,.box 2 0,.con aa,.var tI],cJ⟩,exits:=[(.exit 0,⟨182,[.any,.box 0 0,.box 1 0,.box 2 0,.con aa],cJ⟩,[ai,aa])]}
def Gp (ρ:Type):Ý ρ:=⟨[],103,0,YH,fun(p:Val (.pair aa ah)) (v:Val aQ) a b=>let A:=p.2.2.2.2;vP p.1 p.2.1 p.2.2.1 p.2.2.2.1 A.1 A.2.1 A.2.2.1 A.2.2.2 v.1 v.2.1 v.2.2 (fun c d e=>a (c,d,e)) (b 0)⟩
def YG:È:={pin:=0,cs:=[tI,tI,ac,aa,ae,ab,aa],vs:=[tI,ai,aa],head:=⟨182,.any::.box 0 0::.box 1 0::.box 2 0::aN 5 [.var tI],cJ⟩,exits:=[(.exit 4,⟨182,[.any,.box 0 0,.box 1 0,.box 2 0],cJ⟩,[ai,aa])]}
def Gl (ρ:Type):Ý ρ:=⟨[],103,4,YG,fun(p:Val ah) (v:Val aQ) a b=>let A:=p.2.2.2.2;vO p.1 p.2.1 p.2.2.1 p.2.2.2.1 A.1 A.2.1 A.2.2 v.1 v.2.1 v.2.2 (fun c d e=>a (c,d,e)) (b 0)⟩
def afH:List (Nat×Ö):=[(52,pr),(102,tM),(158,OQ),(170,ab7),(171,ab4)]
def Mb (ρ:Type):List (Ý ρ):=[Gm ρ,Gp ρ,Gl ρ]
def t7 (ρ:Type):Env ρ:=Ù afH (Mb ρ)
def A3:Ö:=⟨[Ä],[tI],fun(x:Val Ä)=>kW x⟩
def QT:È:={pin:=0,cs:=[tI,tI,ac,aa,ae,ab,aa],vs:=[tI],head:=⟨170,[.any,.box 0 0,.any,.var tI],[bo]⟩,exits:=[(.ret,⟨170,[.any,.box 0 0,.var tI],[bo]⟩,[tI]),(.exit 0,⟨170,[.any,.box 0 0],[bo]⟩,[])]}
def zb (ρ:Type):Ý ρ:=⟨[],41,0,QT,fun(p:Val ah) (v:Val tI) b a=>oW p.2.2.1 v (fun c=>b c) (a 0) (a 1)⟩
def QR:È:={pin:=0,cs:=[tI,tI,tI,ac,aa,ae,ab,aa],vs:=[tI],head:=⟨170,.any::.box 0 0::aN 4 [.con tI,.any,.var tI],[bo]⟩,exits:=[(.ret,⟨170,[.any,.box 0 0,.var tI,.any,.any,.any,.con tI],[bo]⟩,[tI]),(.exit 4,⟨170,.any::.box 0 0::aN 4 [.con tI],[bo]⟩,[])]}
def y0 (ρ:Type):Ý ρ:=⟨[],41,4,QR,fun(p:Val aD) (v:Val tI) b a=>oV p.1 p.2.2.2.2.2.2.1 v (fun c=>b c) (a 0) (a 1)⟩
def QS:È:={pin:=0,cs:=[tI,tI,ac,aa,ae,ab,aa],vs:=[tI],head:=⟨170,.any::.box 0 0::aN 4 [.var tI],[bo]⟩,exits:=[(.ret,⟨170,[.any,.box 0 0,.var tI],[bo]⟩,[tI]),(.exit 2,⟨170,[.any,.box 0 0],[bo]⟩,[])]}
def za (ρ:Type):Ý ρ:=⟨[],41,2,QS,fun(p:Val ah) (v:Val tI) b a=>let A:=p.2.2.2.2;jD p.1 p.2.1 p.2.2.1 p.2.2.2.1 A.1 A.2.1 A.2.2 v (fun c=>b c) (a 0) (a 1)⟩
def QQ:È:={pin:=0,cs:=[tI,tI,ac,aa,ae,ab,aa],vs:=[tI],head:=⟨170,.any::.box 0 0::aN 7 [.var tI],[bo]⟩,exits:=[(.ret,⟨170,[.any,.box 0 0,.var tI],[bo]⟩,[tI]),(.exit 6,⟨170,[.any,.box 0 0],[bo]⟩,[])]}
def yZ (ρ:Type):Ý ρ:=⟨[],41,6,QQ,fun(p:Val ah) (v:Val tI) b a=>let A:=p.2.2.2.2;jC p.1 p.2.1 p.2.2.1 p.2.2.2.1 A.1 A.2.1 A.2.2 v (fun c=>b c) (a 0) (a 1)⟩
def YY:List (Nat×Ö):=[(94,nk),(95,Wp),(96,ab1),(97,Wn),(98,Wm),(99,FK),(100,FM),(101,tK),(102,tM),(103,X1)]
def CV (ρ:Type):List (Ý ρ):=[zb ρ,y0 ρ,za ρ,yZ ρ]
def kT (ρ:Type):Env ρ:=Ù YY (CV ρ)
def D0:Ö:=⟨[Ä],[Ï],fun(x:Val Ä)=>mP x⟩
def Ux:List (Nat×Ö):=[(102,tM),(103,X1)]
def yM (ρ:Type):List (Ý ρ):=[]
def Gq (ρ:Type):Env ρ:=Ù Ux (yM ρ)
def ab8:Ö:=⟨[Ä,Â],[Ä,tI],fun(x:Val aE)=>uY x.1 x.2⟩
def acS:List (Nat×Ö):=[(41,A3)]
def Gx (ρ:Type):List (Ý ρ):=[]
def QF (ρ:Type):Env ρ:=Ù acS (Gx ρ)
def Wr:Ö:=⟨[Ï],[am,.bool],fun(x:Val Ï)=>uZ x⟩
def zk:È:={pin:=1,cs:=[tI,tI,tI,ai,am],vs:=[tI,af],head:=⟨33,[.con tI,.any,.any,.dp 1,.con tI,.own 2,.var tI],[bw,.deepc .i64,.rowv tI]⟩,exits:=[(.exit 2,⟨33,[.con tI,.any,.any,.dp 1,.con tI,.own 2],[bw,.deepc .i64,.rowv tI]⟩,[af])]}
def zj (ρ:Type):Ý ρ:=⟨[1,2],115,2,zk,fun(p:Val (tyL zk.cs)) (v:Val au) a b=>lL p.1 p.2.1 v.1 v.2 (fun c d=>a (c,d)) (b 0)⟩
def QY:È:={pin:=1,cs:=[tI,tI,ai],vs:=[tI,am],head:=⟨33,[.con tI,.any,.any,.dp 1,.var tI],cM⟩,exits:=[(.exit 0,⟨33,[.con tI,.any,.any,.dp 1],cM⟩,[am])]}
def zl (ρ:Type):Ý ρ:=⟨[1,2],115,0,QY,fun(p:Val aI) (v:Val aR) a b=>lM p.1 v.1 v.2 (fun c d=>a (c,d)) (b 0)⟩
def QX:È:={pin:=0,cs:=[tI,ai],vs:=[tI,am],head:=⟨124,[.any,.box 0 0,.any,.any,.dp 1,.var tI],cM⟩,exits:=[(.exit 0,⟨124,[.any,.box 0 0,.any,.any,.dp 1],cM⟩,[am])]}
def zi (ρ:Type):Ý ρ:=⟨[],54,0,QX,fun(p:Val Ï) (v:Val aR) a b=>lK p.2 v.1 v.2 (fun c d=>a (c,d)) (b 0)⟩
def QU:È:={pin:=0,cs:=[tI,tI,tI,ai],vs:=[tI,am],head:=⟨124,[.any,.box 0 0,.any,.any,.dp 1,.any,.any,.con tI,.con tI,.var tI],cM⟩,exits:=[(.exit 6,⟨124,[.any,.box 0 0,.any,.any,.dp 1,.any,.any,.con tI,.con tI],cM⟩,[am])]}
def ze (ρ:Type):Ý ρ:=⟨[],54,6,QU,fun(p:Val (.pair tI aI)) (v:Val aR) a b=>lI p.1 p.2.1 p.2.2.1 v.1 v.2 (fun c d=>a (c,d)) (b 0)⟩
def QV:È:={pin:=0,cs:=[tI,tI,ai],vs:=[tI,am],head:=⟨124,[.any,.box 0 0,.any,.any,.dp 1,.any,.any,.con tI,.var tI],cM⟩,exits:=[(.exit 4,⟨124,[.any,.box 0 0,.any,.any,.dp 1,.any,.any,.con tI],cM⟩,[am])]}
def zf (ρ:Type):Ý ρ:=⟨[],54,4,QV,fun(p:Val aI) (v:Val aR) a b=>lJ p.1 p.2.1 v.1 v.2 (fun c d=>a (c,d)) (b 0)⟩
def zd:È:={pin:=0,cs:=[tI,tI,ai,am],vs:=[tI],head:=⟨124,[.any,.box 0 0,.any,.any,.dp 1,.any,.any,.con tI,.any,.any,.var tI],[bw,.deepc .i64]⟩,exits:=[(.ret,⟨124,[.any,.box 0 0,.nils,.var .bool,.dp 1,.any,.any,.con tI],[bw,.deepc .i64]⟩,[.bool]),(.exit 8,⟨124,[.any,.box 0 0,.any,.any,.dp 1,.any,.any,.con tI],[bw,.deepc .i64]⟩,[])]}
def zc (ρ:Type):Ý ρ:=⟨[],54,8,zd,fun(p:Val (tyL zd.cs)) (v:Val tI) b a=>iH p.2.1 p.2.2.2 v (fun c=>b c) (a 0) (a 1)⟩
def QW:È:={pin:=0,cs:=[tI,ai],vs:=[tI,am],head:=⟨124,[.any,.box 0 0,.any,.any,.dp 1,.any,.any,.var tI],cM⟩,exits:=[(.ret,⟨124,[.any,.box 0 0,.nils,.var .bool,.dp 1],cM⟩,[.bool,am]),(.exit 2,⟨124,[.any,.box 0 0,.any,.any,.dp 1],cM⟩,[am])]}
def zh (ρ:Type):Ý ρ:=⟨[],54,2,QW,fun(p:Val Ï) (v:Val aR) b a=>jE p.1 v.1 v.2 (fun c d=>b (c,d)) (a 0) (a 1)⟩
def YZ:List (Nat×Ö):=[]
def CW (ρ:Type):List (Ý ρ):=[zj ρ,zl ρ,zi ρ,ze ρ,zf ρ,zc ρ,zh ρ]
def Τ (ρ:Type):Env ρ:=Ù YZ (CW ρ)
def ab0:Ö:=⟨[Ä,aa],[jk],fun(x:Val (.pair Ä aa))=>IW x.1 x.2⟩
def Uk:È:={pin:=0,cs:=[aa],vs:=[tI,tI,tI,ac,aa,ae,ab,aa,tI,tI,tI,tI],head:=⟨59,[.any,.con aa,.box 0 0,.any,.box 1 0,.any,.var tI],[bG,bV]⟩,exits:=[(.ret,⟨59,[.any,.con aa,.box 0 0,.any,.box 1 0],[bG,bV]⟩,[tI,tI,ac,aa,ae,ab,aa,tI,tI,tI,tI]),(.exit 0,⟨59,[.any,.con aa,.box 0 0,.any,.box 1 0],[bG,bV]⟩,[tI,tI,ac,aa,ae,ab,aa,tI,tI,tI,tI])]}
def Ct (ρ:Type):Ý ρ:=⟨[],15,0,Uk,fun(p:Val aa) (v:Val (.pair tI ax)) b a=>nv p v.1 v.2.1 v.2.2.1 v.2.2.2.1 v.2.2.2.2.1 v.2.2.2.2.2.1 v.2.2.2.2.2.2.1 v.2.2.2.2.2.2.2.1 v.2.2.2.2.2.2.2.2.1 v.2.2.2.2.2.2.2.2.2.1 v.2.2.2.2.2.2.2.2.2.2.1 v.2.2.2.2.2.2.2.2.2.2.2 (fun c d e f g h i j k l m n=>b (c,d,e,f,g,h,i,j,k,l,m,n)) (a 0) (a 1)⟩
def acI:List (Nat×Ö):=[(41,A3),(43,D0),(52,pr),(53,ab8),(54,Wr)]
def Gd (ρ:Type):List (Ý ρ):=[Ct ρ]
def Ee (ρ:Type):Env ρ:=Ù acI (Gd ρ)
def pI:Ö:=⟨[jk,tI],[Â],fun(x:Val (.pair jk tI))=>iO x.1 x.2⟩
def xV:List (Nat×Ö):=[]
def lE (ρ:Type):List (Ý ρ):=[]
def nu (ρ:Type):Env ρ:=Ù xV (lE ρ)
def FJ:Ö:=⟨[jk,Â],[tI],fun(x:Val (.pair jk Â))=>o9 x.1 x.2⟩
def NB:List (Nat×Ö):=[(52,pr)]
def tY (ρ:Type):List (Ý ρ):=[]
def yH (ρ:Type):Env ρ:=Ù NB (tY ρ)
def ahJ:Ö:=⟨[Ï,tI,af],[tI,tI,.bool],fun(x:Val (.pair Ï au))=>I0 x.1 x.2.1 x.2.2⟩
def Y0:È:={pin:=0,cs:=[af,tI,ai],vs:=[tI,tI,tI],head:=⟨67,.any::.var tI::.con af::.box 0 0::aN 5 [.var tI,.var tI],[bw]⟩,exits:=[(.ret,⟨67,[.any,.any,.con af,.box 0 0,.any,.any,.var tI,.var tI,.var .bool],[bw]⟩,[tI,tI,.bool]),(.exit 0,⟨67,.any::.var tI::.con af::.box 0 0::aN 5 [.var tI],[bw]⟩,[tI,tI])]}
def GD (ρ:Type):Ý ρ:=⟨[],142,0,Y0,fun(p:Val (.pair af Ï)) (v:Val ć) b a=>vS p.1 p.2.2 v.1 v.2.1 v.2.2 (fun c d e=>b (c,d,e)) (a 0) (a 1)⟩
def afM:List (Nat×Ö):=[]
def Mh (ρ:Type):List (Ý ρ):=[GD ρ]
def Kn (ρ:Type):Env ρ:=Ù afM (Mh ρ)
def Wj:Ö:=⟨[ö],[.bool],fun(x:Val ö)=>Bo x⟩
def Yx:List (Nat×Ö):=[(43,D0),(52,pr),(142,ahJ)]
def Cu (ρ:Type):List (Ý ρ):=[]
def L6 (ρ:Type):Env ρ:=Ù Yx (Cu ρ)
def Cc:Ö:=⟨[ö],[tI],fun(x:Val ö)=>č x⟩
def J7:List (Nat×Ö):=[(41,A3),(52,pr),(70,Wj)]
def ri (ρ:Type):List (Ý ρ):=[]
def xp (ρ:Type):Env ρ:=Ù J7 (ri ρ)
def FL:Ö:=⟨[af,af],[.bool],fun(x:Val aJ)=>jN x.1 x.2⟩
def Gu:È:={pin:=0,cs:=[af,af],vs:=[tI],head:=⟨26,[.con af,.con af,.any,.any,.any,.var tI],[]⟩,exits:=[(.ret,⟨26,[.con af,.con af,.any,.any,.var .bool],[]⟩,[.bool]),(.exit 0,⟨26,[.con af,.con af],[]⟩,[])]}
def rC (ρ:Type):Ý ρ:=⟨[],197,0,Gu,fun(p:Val aJ) (v:Val tI) b a=>km p.1 p.2 v (fun c=>b c) (a 0) (a 1)⟩
def NH:List (Nat×Ö):=[]
def t8 (ρ:Type):List (Ý ρ):=[rC ρ]
def pQ (ρ:Type):Env ρ:=Ù NH (t8 ρ)
def xm:Ö:=⟨[Ê,Ê],[.bool],fun(x:Val (.pair Ê Ê))=>ku x.1 x.2⟩
def En:List (Nat×Ö):=[(197,FL)]
def oy (ρ:Type):List (Ý ρ):=[]
def rD (ρ:Type):Env ρ:=Ù En (oy ρ)
def Cd:Ö:=⟨[aa,aa],[.bool],fun(x:Val (.pair aa aa))=>j9 x.1 x.2⟩
def El:È:={pin:=0,cs:=[aa,aa],vs:=[tI],head:=⟨26,[.con aa,.con aa,.any,.any,.any,.var tI],[]⟩,exits:=[(.ret,⟨26,[.con aa,.con aa,.any,.any,.var .bool],[]⟩,[.bool]),(.exit 0,⟨26,[.con aa,.con aa],[]⟩,[])]}
def pP (ρ:Type):Ý ρ:=⟨[],144,0,El,fun(p:Val (.pair aa aa)) (v:Val tI) b a=>jB p.1 p.2 v (fun c=>b c) (a 0) (a 1)⟩
def Kf:List (Nat×Ö):=[]
def rB (ρ:Type):List (Ý ρ):=[pP ρ]
def oi (ρ:Type):Env ρ:=Ù Kf (rB ρ)
def ab5:Ö:=⟨[Ä,Ä],[.bool],fun(x:Val aU)=>qu x.1 x.2⟩
def UC:È:={pin:=0,cs:=[tI,tI,ac,aa,ae,ab,aa,tI,tI,ac,aa,ae,ab,aa],vs:=[tI],head:=⟨130,[.any,.any,.box 0 0,.box 1 0,.any,.var tI],cN⟩,exits:=[(.ret,⟨130,[.any,.any,.box 0 0,.box 1 0,.var .bool],cN⟩,[.bool]),(.exit 0,⟨130,[.any,.any,.box 0 0,.box 1 0],cN⟩,[])]}
def CJ (ρ:Type):Ý ρ:=⟨[],71,0,UC,fun(p:Val aq) (v:Val tI) b a=>rA p.2.2.1 p.2.2.2.2.2.2.2.2.2.1 v (fun c=>b c) (a 0) (a 1)⟩
def UB:È:={pin:=0,cs:=[tI,tI,ac,aa,ae,ab,aa,tI,tI,ac,aa,ae,ab,aa],vs:=[tI],head:=⟨130,[.any,.any,.box 0 0,.box 1 0,.any,.any,.var tI],cN⟩,exits:=[(.ret,⟨130,[.any,.any,.box 0 0,.box 1 0,.var .bool],cN⟩,[.bool]),(.exit 2,⟨130,[.any,.any,.box 0 0,.box 1 0],cN⟩,[])]}
def CH (ρ:Type):Ý ρ:=⟨[],71,2,UB,fun(p:Val aq) (v:Val tI) b a=>rz p.2.2.2.1 p.2.2.2.2.2.2.2.2.2.2.1 v (fun c=>b c) (a 0) (a 1)⟩
def UA:È:={pin:=0,cs:=[tI,tI,ac,aa,ae,ab,aa,tI,tI,ac,aa,ae,ab,aa],vs:=[tI],head:=⟨130,[.any,.any,.box 0 0,.box 1 0,.any,.any,.any,.var tI],cN⟩,exits:=[(.ret,⟨130,[.any,.any,.box 0 0,.box 1 0,.var .bool],cN⟩,[.bool]),(.exit 4,⟨130,[.any,.any,.box 0 0,.box 1 0],cN⟩,[])]}
def CG (ρ:Type):Ý ρ:=⟨[],71,4,UA,fun(p:Val aq) (v:Val tI) b a=>ru p.2.2.2.2.1 p.2.2.2.2.2.2.2.2.2.2.2.1 v (fun c=>b c) (a 0) (a 1)⟩
def Uz:È:={pin:=0,cs:=[tI,tI,ac,aa,ae,ab,aa,tI,tI,ac,aa,ae,ab,aa],vs:=[tI],head:=⟨130,aN 2 (.box 0 0::.box 1 0::aN 4 [.var tI]),cN⟩,exits:=[(.ret,⟨130,[.any,.any,.box 0 0,.box 1 0,.var .bool],cN⟩,[.bool]),(.exit 6,⟨130,[.any,.any,.box 0 0,.box 1 0],cN⟩,[])]}
def CF (ρ:Type):Ý ρ:=⟨[],71,6,Uz,fun(p:Val aq) (v:Val tI) b a=>rt p.2.2.2.2.2.1 p.2.2.2.2.2.2.2.2.2.2.2.2.1 v (fun c=>b c) (a 0) (a 1)⟩
def acP:List (Nat×Ö):=[(143,xm),(144,Cd)]
def Gs (ρ:Type):List (Ý ρ):=[CJ ρ,CH ρ,CG ρ,CF ρ]
def mD (ρ:Type):Env ρ:=Ù acP (Gs ρ)
def vz:Ö:=⟨[af,af],[.bool],fun(x:Val aJ)=>Χ x.1 x.2⟩
def GF:È:={pin:=0,cs:=[af,af],vs:=[tI],head:=⟨26,[.con af,.con af,.any,.any,.any,.var tI],[]⟩,exits:=[(.ret,⟨26,[.con af,.con af,.any,.any,.var .bool],[]⟩,[.bool]),(.exit 0,⟨26,[.con af,.con af],[]⟩,[])]}
def rK (ρ:Type):Ý ρ:=⟨[],72,0,GF,fun(p:Val aJ) (v:Val tI) b a=>kp p.1 p.2 v (fun c=>b c) (a 0) (a 1)⟩
def N1:List (Nat×Ö):=[]
def ud (ρ:Type):List (Ý ρ):=[rK ρ]
def pR (ρ:Type):Env ρ:=Ù N1 (ud ρ)
def FI:Ö:=⟨[ö,ö],[.bool],fun(x:Val (.pair ö ö))=>jL x.1 x.2⟩
def NA:List (Nat×Ö):=[(71,ab5),(72,vz)]
def tX (ρ:Type):List (Ý ρ):=[]
def yG (ρ:Type):Env ρ:=Ù NA (tX ρ)
def Wi:Ö:=⟨[Ä,Ð],[.bool],fun(x:Val (.pair Ä Ð))=>pA x.1 x.2⟩
def P8:È:={pin:=0,cs:=[tI,tI,ac,aa,ae,ab,aa,tI,tI,tI,tI,tI,tI,tI,tI],vs:=[tI],head:=⟨20,[.any,.any,.box 0 0,.box 1 0,.any,.var tI],b9⟩,exits:=[(.ret,⟨20,[.any,.any,.box 0 0,.box 1 0,.var .bool],b9⟩,[.bool]),(.exit 0,⟨20,[.any,.any,.box 0 0,.box 1 0],b9⟩,[])]}
def yE (ρ:Type):Ý ρ:=⟨[],73,0,P8,fun(p:Val aB) (v:Val tI) b a=>let A:=p.2.2.2.2.2.2.2;let B:=A.2.2.2.2;oN p.2.2.1 A.1 A.2.1 A.2.2.1 A.2.2.2.1 B.1 B.2.1 B.2.2.1 B.2.2.2 v (fun c=>b c) (a 0) (a 1)⟩
def Yu:List (Nat×Ö):=[]
def Cp (ρ:Type):List (Ý ρ):=[yE ρ]
def yF (ρ:Type):Env ρ:=Ù Yu (Cp ρ)
def xl:Ö:=⟨[Ê,Ê],[.bool],fun(x:Val (.pair Ê Ê))=>ks x.1 x.2⟩
def Ed:List (Nat×Ö):=[(72,vz)]
def ox (ρ:Type):List (Ý ρ):=[]
def re (ρ:Type):Env ρ:=Ù Ed (ox ρ)
def Wh:Ö:=⟨[Ä,tI],[.bool],fun(x:Val aG)=>jK x.1 x.2⟩
def P7:È:={pin:=0,cs:=[tI,tI,tI,ac,aa,ae,ab,aa],vs:=[tI],head:=⟨21,[.any,.con tI,.box 0 0,.any,.any,.var tI],[bo]⟩,exits:=[(.ret,⟨21,[.any,.con tI,.box 0 0,.any,.var .bool],[bo]⟩,[.bool]),(.exit 0,⟨21,[.any,.con tI,.box 0 0],[bo]⟩,[])]}
def yC (ρ:Type):Ý ρ:=⟨[],145,0,P7,fun(p:Val aD) (v:Val tI) b a=>oM p.1 p.2.2.2.1 v (fun c=>b c) (a 0) (a 1)⟩
def Yt:List (Nat×Ö):=[]
def Co (ρ:Type):List (Ý ρ):=[yC ρ]
def yD (ρ:Type):Env ρ:=Ù Yt (Co ρ)
def abY:Ö:=⟨[Ä,Ä,Ä],[.bool],fun(x:Val (.pair Ä aU))=>Au x.1 x.2.1 x.2.2⟩
def Ud:È:={pin:=0,cs:=[tI,tI,tI,ac,aa,ae,ab,aa,tI,tI,ac,aa,ae,ab,aa,tI,tI,ac,aa,ae,ab,aa],vs:=[.bool,tI],head:=⟨91,[.any,.any,.any,.box 0 0,.box 1 0,.box 2 0,.any,.con tI,.var .bool,.var tI],cO⟩,exits:=[(.exit 2,⟨91,[.any,.any,.any,.box 0 0,.box 1 0,.box 2 0,.any,.con tI,.var .bool],cO⟩,[.bool])]}
def Cm (ρ:Type):Ý ρ:=⟨[],75,2,Ud,fun(p:Val (.pair tI aK)) (v:Val aL) a b=>qZ p.1 p.2.2.2.2.1 p.2.2.2.2.2.2.2.2.2.2.2.1 v.1 v.2 (fun c d=>a (c,d)) (b 0)⟩
def Ue:È:={pin:=0,cs:=[tI,tI,ac,aa,ae,ab,aa,tI,tI,ac,aa,ae,ab,aa,tI,tI,ac,aa,ae,ab,aa],vs:=[tI],head:=⟨91,[.any,.any,.any,.box 0 0,.box 1 0,.box 2 0,.any,.var tI],cO⟩,exits:=[(.ret,⟨91,[.any,.any,.any,.box 0 0,.box 1 0,.box 2 0,.var .bool],cO⟩,[.bool]),(.exit 0,⟨91,[.any,.any,.any,.box 0 0,.box 1 0,.box 2 0],cO⟩,[])]}
def Cn (ρ:Type):Ý ρ:=⟨[],75,0,Ue,fun(p:Val aK) (v:Val tI) b a=>let A:=p.2.2.2.2.2.2.2.2.2.2;let B:=A.2.2.2.2;let C:=B.2.2.2.2;rc p.2.2.2.1 A.1 B.1 B.2.1 B.2.2.1 B.2.2.2.1 C.1 C.2.1 C.2.2 v (fun c=>b c) (a 0) (a 1)⟩
def Ub:È:={pin:=0,cs:=[tI,tI,tI,ac,aa,ae,ab,aa,tI,tI,ac,aa,ae,ab,aa,tI,tI,ac,aa,ae,ab,aa],vs:=[.bool,tI],head:=⟨91,aN 3 (.box 0 0::.box 1 0::.box 2 0::aN 4 [.con tI,.var .bool,.var tI]),cO⟩,exits:=[(.exit 6,⟨91,aN 3 (.box 0 0::.box 1 0::.box 2 0::aN 4 [.con tI,.var .bool]),cO⟩,[.bool])]}
def Ck (ρ:Type):Ý ρ:=⟨[],75,6,Ub,fun(p:Val (.pair tI aK)) (v:Val aL) a b=>qX p.1 p.2.2.2.2.2.1 p.2.2.2.2.2.2.2.2.2.2.2.2.1 v.1 v.2 (fun c d=>a (c,d)) (b 0)⟩
def Uc:È:={pin:=0,cs:=[tI,tI,ac,aa,ae,ab,aa,tI,tI,ac,aa,ae,ab,aa,tI,tI,ac,aa,ae,ab,aa],vs:=[tI],head:=⟨91,aN 3 (.box 0 0::.box 1 0::.box 2 0::aN 4 [.var tI]),cO⟩,exits:=[(.ret,⟨91,[.any,.any,.any,.box 0 0,.box 1 0,.box 2 0,.var .bool],cO⟩,[.bool]),(.exit 4,⟨91,[.any,.any,.any,.box 0 0,.box 1 0,.box 2 0],cO⟩,[])]}
def Cl (ρ:Type):Ý ρ:=⟨[],75,4,Uc,fun(p:Val aK) (v:Val tI) b a=>let A:=p.2.2.2.2;let B:=A.2.2.2.2.2.2.2;let C:=B.2.2.2.2;qY A.1 B.1 B.2.2.2.1 C.1 C.2.1 C.2.2.1 C.2.2.2.1 C.2.2.2.2.1 C.2.2.2.2.2 v (fun c=>b c) (a 0) (a 1)⟩
def acG:List (Nat×Ö):=[(145,Wh)]
def Gb (ρ:Type):List (Ý ρ):=[Cm ρ,Cn ρ,Ck ρ,Cl ρ]
def mC (ρ:Type):Env ρ:=Ù acG (Gb ρ)
def abZ:Ö:=⟨[Ä,Ä],[.bool],fun(x:Val aU)=>nR x.1 x.2⟩
def Uj:È:={pin:=0,cs:=[tI,tI,ac,aa,ae,ab,aa,tI,tI,ac,aa,ae,ab,aa],vs:=[tI],head:=⟨69,[.any,.any,.box 0 0,.box 1 0,.any,.var tI],cN⟩,exits:=[(.ret,⟨69,[.any,.any,.box 0 0,.box 1 0,.var .bool],cN⟩,[.bool]),(.exit 0,⟨69,[.any,.any,.box 0 0,.box 1 0],cN⟩,[])]}
def Cs (ρ:Type):Ý ρ:=⟨[],28,0,Uj,fun(p:Val aq) (v:Val tI) b a=>let A:=p.2.2.2.2.2.2.2;let B:=A.2.2.2.2;rh p.2.2.1 A.1 A.2.1 A.2.2.1 A.2.2.2.1 B.1 B.2.1 B.2.2 v (fun c=>b c) (a 0) (a 1)⟩
def Uh:È:={pin:=0,cs:=[tI,tI,tI,ac,aa,ae,ab,aa,tI,tI,ac,aa,ae,ab,aa],vs:=[.bool,tI],head:=⟨69,[.any,.any,.box 0 0,.box 1 0,.any,.any,.con tI,.var .bool,.var tI],cN⟩,exits:=[(.exit 4,⟨69,[.any,.any,.box 0 0,.box 1 0,.any,.any,.con tI,.var .bool],cN⟩,[.bool])]}
def Cq (ρ:Type):Ý ρ:=⟨[],28,4,Uh,fun(p:Val (.pair tI aq)) (v:Val aL) a b=>rf p.1 p.2.2.2.2.2.2.1 p.2.2.2.2.2.2.2.2.2.2.2.2.2.1 v.1 v.2 (fun c d=>a (c,d)) (b 0)⟩
def Ui:È:={pin:=0,cs:=[tI,tI,ac,aa,ae,ab,aa,tI,tI,ac,aa,ae,ab,aa],vs:=[tI],head:=⟨69,[.any,.any,.box 0 0,.box 1 0,.any,.any,.var tI],cN⟩,exits:=[(.ret,⟨69,[.any,.any,.box 0 0,.box 1 0,.var .bool],cN⟩,[.bool]),(.exit 2,⟨69,[.any,.any,.box 0 0,.box 1 0],cN⟩,[])]}
def Cr (ρ:Type):Ý ρ:=⟨[],28,2,Ui,fun(p:Val aq) (v:Val tI) b a=>rg p.2.2.2.2.2.1 p.2.2.2.2.2.2.2.2.2.2.2.2.1 v (fun c=>b c) (a 0) (a 1)⟩
def acH:List (Nat×Ö):=[(73,Wi),(74,xl),(75,abY)]
def Gc (ρ:Type):List (Ý ρ):=[Cs ρ,Cq ρ,Cr ρ]
def pN (ρ:Type):Env ρ:=Ù acH (Gc ρ)
def abX:Ö:=⟨[ö,(.int .u8),tI],[ö],fun(x:Val bg)=>nQ x.1 x.2.1 x.2.2⟩
def acF:List (Nat×Ö):=[]
def F9 (ρ:Type):List (Ý ρ):=[]
def P0 (ρ:Type):Env ρ:=Ù acF (F9 ρ)
def lm:Ö:=⟨[Ä,Â,.bool,ö,(.int .u8),tI],[.bool],fun(x:Val (.pair Ä (.pair Â (.pair .bool bg))))=>qt x.1 x.2.1 x.2.2.1 x.2.2.2.1 x.2.2.2.2.1 x.2.2.2.2.2⟩
def Ga:List (Nat×Ö):=[(10,ahH),(11,PC),(15,ab0),(16,pI),(17,FJ),(24,D4),(25,oI),(26,Cc),(27,FI),(28,abZ),(29,abX)]
def pL (ρ:Type):List (Ý ρ):=[]
def tT (ρ:Type):Env ρ:=Ù Ga (pL ρ)
end Go.Proofs.ZzM
end
