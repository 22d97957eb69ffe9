/- lemmas -/
import Derived.Test.YtiochmbenflhhaaGreatMdMA
set_option linter.all false
set_option linter.unusedSectionVars false
set_option linter.unusedVariables false
set_option linter.unusedSimpArgs false
noncomputable section
set_option maxRecDepth 100000
namespace Go.Proofs.ZzM
open Go Go.Am
def Wi:Ö:=⟨[Ä,tI],[Â],fun(x:Val aM)=>vG x.1 x.2⟩
def YH:List (Nat×Ö):=[(134,za)]
def T2 (ρ:Type):List (Ø ρ):=[]
def Ms (ρ:Type):Env ρ:=Ù YH (T2 ρ)
def acw:Ö:=⟨[ĵ,ĵ],[uk],fun(x:Val (.pair ĵ ĵ))=>Jc x.1 x.2⟩
def adw:List (Nat×Ö):=[]
def Zi (ρ:Type):List (Ø ρ):=[]
def QL (ρ:Type):Env ρ:=Ù adw (Zi ρ)
def aiL:Ö:=⟨[Â,Â],[ĵ],fun(x:Val è)=>xy x.1 x.2⟩
def agO:List (Nat×Ö):=[(274,Ei)]
def adB (ρ:Type):List (Ø ρ):=[]
def WK (ρ:Type):Env ρ:=Ù agO (adB ρ)
def Wp:Ö:=⟨[è,Â],[uk],fun(x:Val (.pair è Â))=>B8 x.1 x.2⟩
def Zm:List (Nat×Ö):=[(256,acw),(257,aiL)]
def Uz (ρ:Type):List (Ø ρ):=[]
def My (ρ:Type):Env ρ:=Ù Zm (Uz ρ)
def Py:Ö:=⟨[Ä,Ì],[è],fun(x:Val aH)=>xw x.1 x.2⟩
def Un:List (Nat×Ö):=[(139,OI),(238,aiJ),(239,Wi),(240,Wp)]
def Qu (ρ:Type):List (Ø ρ):=[]
def GW (ρ:Type):Env ρ:=Ù Un (Qu ρ)
def Wm:Ö:=⟨[Ä,Ì],[Â],fun(x:Val aH)=>B6 x.1 x.2⟩
def Za:List (Nat×Ö):=[]
def Up (ρ:Type):List (Ø ρ):=[]
def Mw (ρ:Type):Env ρ:=Ù Za (Up ρ)
def acv:Ö:=⟨[tI,tI],[tI],fun(x:Val Â)=>SN x.1 x.2⟩
def adv:List (Nat×Ö):=[]
def Zg (ρ:Type):List (Ø ρ):=[]
def QJ (ρ:Type):Env ρ:=Ù adv (Zg ρ)
def Wq:Ö:=⟨[Â],[tI],fun(x:Val Â)=>Ca x⟩
def Zr:List (Nat×Ö):=[(241,acv)]
def UC (ρ:Type):List (Ø ρ):=[]
def Mz (ρ:Type):Env ρ:=Ù Zr (UC ρ)
def al8:Ö:=⟨[tI,tI],[tI],fun(x:Val Â)=>ahC x.1 x.2⟩
def akh:List (Nat×Ö):=[]
def agJ (ρ:Type):List (Ø ρ):=[]
def adu (ρ:Type):Env ρ:=Ù akh (agJ ρ)
def acx:Ö:=⟨[Â],[tI],fun(x:Val Â)=>Jd x⟩
def adF:List (Nat×Ö):=[(242,al8)]
def Zs (ρ:Type):List (Ø ρ):=[]
def QN (ρ:Type):Env ρ:=Ù adF (Zs ρ)
def acr:Ö:=⟨[Ä,Ì],[Â],fun(x:Val aH)=>vH x.1 x.2⟩
def adg:List (Nat×Ö):=[(201,Py),(202,Wm),(203,Wq),(204,acx)]
def YS (ρ:Type):List (Ø ρ):=[]
def Qe (ρ:Type):Env ρ:=Ù adg (YS ρ)
def X3:Ö:=⟨[Ä],[xO],fun(x:Val Ä)=>xv x⟩
def YO:Æ:=⟨0,[aa,tI,tI,tI,ae,aa,af,ac,aa,tI,tI,tI,tI,tI,tI,tI,tI],[tI,ah,aa],⟨182,[.any,.box 0 0,.box 1 0,.box 2 0,.con aa,.con tI,.box 3 0,.var tI],[bp,bY,.cells [.own 4,.own 5],bq,.rowv ć,.rowv Â]⟩,[(.exit 2,⟨182,[.any,.box 0 0,.box 1 0,.box 2 0,.con aa,.con tI,.box 3 0],[bp,bY,.cells [.own 4,.own 5],bq,.rowv ć,.rowv Â]⟩,[ah,aa])],false⟩
def GR (ρ:Type):Ø ρ:=⟨[],65,2,YO,fun(p:Val (.pair aa aD)) (v:Val aS) a b=>let A:=p.2.2.2.2;let B:=A.2.2.2.2;qE p.1 p.2.1 p.2.2.1 p.2.2.2.1 A.1 A.2.1 A.2.2.1 A.2.2.2.1 B.1 B.2.1 B.2.2.1 B.2.2.2.1 B.2.2.2.2.1 B.2.2.2.2.2.1 v.1 v.2.1 v.2.2 (fun c d e=>a (c,d,e)) (b 0)⟩
def YP:Æ:=⟨0,[aa,tI,tI,ae,aa,af,ac,aa],[tI,ah,aa],⟨182,[.any,.box 0 0,.box 1 0,.box 2 0,.con aa,.var tI],cZ⟩,[(.exit 0,⟨182,[.any,.box 0 0,.box 1 0,.box 2 0,.con aa],cZ⟩,[ah,aa])],false⟩
def GS (ρ:Type):Ø ρ:=⟨[],65,0,YP,fun(p:Val (.pair aa ai)) (v:Val aS) a b=>let A:=p.2.2.2.2;wz p.1 p.2.1 p.2.2.1 p.2.2.2.1 A.1 A.2.1 A.2.2.1 A.2.2.2 v.1 v.2.1 v.2.2 (fun c d e=>a (c,d,e)) (b 0)⟩
def YN:Æ:=⟨0,[tI,tI,ae,aa,af,ac,aa],[tI,ah,aa],⟨182,.any::.box 0 0::.box 1 0::.box 2 0::aN 5 [.var tI],cZ⟩,[(.exit 4,⟨182,[.any,.box 0 0,.box 1 0,.box 2 0],cZ⟩,[ah,aa])],false⟩
def GQ (ρ:Type):Ø ρ:=⟨[],65,4,YN,fun(p:Val ai) (v:Val aS) a b=>let A:=p.2.2.2.2;wy p.1 p.2.1 p.2.2.1 p.2.2.2.1 A.1 A.2.1 A.2.2 v.1 v.2.1 v.2.2 (fun c d e=>a (c,d,e)) (b 0)⟩
def agC:List (Nat×Ö):=[(64,uA),(85,BD),(138,act),(139,OI),(140,acr)]
def ade (ρ:Type):List (Ø ρ):=[GR ρ,GS ρ,GQ ρ]
def uN (ρ:Type):Env ρ:=Ù agC (ade ρ)
def BF:Ö:=⟨[Ä],[tI],fun(x:Val Ä)=>lE x⟩
def QB:Æ:=⟨0,[tI,tI,ae,aa,af,ac,aa],[tI],⟨170,[.any,.box 0 0,.any,.var tI],[bp]⟩,[(.ret,⟨170,[.any,.box 0 0,.var tI],[bp]⟩,[tI]),(.exit 0,⟨170,[.any,.box 0 0],[bp]⟩,[])],false⟩
def zR (ρ:Type):Ø ρ:=⟨[],15,0,QB,fun(p:Val ai) (v:Val tI) b a=>pF p.2.2.1 v (fun c=>b c) (a 0) (a 1)⟩
def Qz:Æ:=⟨0,[tI,tI,tI,ae,aa,af,ac,aa],[tI],⟨170,.any::.box 0 0::aN 4 [.con tI,.any,.var tI],[bp]⟩,[(.ret,⟨170,[.any,.box 0 0,.var tI,.any,.any,.any,.con tI],[bp]⟩,[tI]),(.exit 4,⟨170,.any::.box 0 0::aN 4 [.con tI],[bp]⟩,[])],false⟩
def zP (ρ:Type):Ø ρ:=⟨[],15,4,Qz,fun(p:Val aI) (v:Val tI) b a=>pE p.1 p.2.2.2.2.2.2.1 v (fun c=>b c) (a 0) (a 1)⟩
def QA:Æ:=⟨0,[tI,tI,ae,aa,af,ac,aa],[tI],⟨170,.any::.box 0 0::aN 4 [.var tI],[bp]⟩,[(.ret,⟨170,[.any,.box 0 0,.var tI],[bp]⟩,[tI]),(.exit 2,⟨170,[.any,.box 0 0],[bp]⟩,[])],false⟩
def zQ (ρ:Type):Ø ρ:=⟨[],15,2,QA,fun(p:Val ai) (v:Val tI) b a=>let A:=p.2.2.2.2;j5 p.1 p.2.1 p.2.2.1 p.2.2.2.1 A.1 A.2.1 A.2.2 v (fun c=>b c) (a 0) (a 1)⟩
def Qy:Æ:=⟨0,[tI,tI,ae,aa,af,ac,aa],[tI],⟨170,.any::.box 0 0::aN 7 [.var tI],[bp]⟩,[(.ret,⟨170,[.any,.box 0 0,.var tI],[bp]⟩,[tI]),(.exit 6,⟨170,[.any,.box 0 0],[bp]⟩,[])],false⟩
def zO (ρ:Type):Ø ρ:=⟨[],15,6,Qy,fun(p:Val ai) (v:Val tI) b a=>let A:=p.2.2.2.2;j4 p.1 p.2.1 p.2.2.1 p.2.2.2.1 A.1 A.2.1 A.2.2 v (fun c=>b c) (a 0) (a 1)⟩
def Zc:List (Nat×Ö):=[(56,nT),(57,Wj),(58,aco),(59,Wh),(60,Wg),(61,Gk),(62,Gl),(63,uz),(64,uA),(65,X3)]
def Ur (ρ:Type):List (Ø ρ):=[zR ρ,zP ρ,zQ ρ,zO ρ]
def lu (ρ:Type):Env ρ:=Ù Zc (Ur ρ)
def Pv:Ö:=⟨[Ä],[Î],fun(x:Val Ä)=>rr x⟩
def Uc:List (Nat×Ö):=[(64,uA),(65,X3)]
def Qc (ρ:Type):List (Ø ρ):=[]
def GU (ρ:Type):Env ρ:=Ù Uc (Qc ρ)
def acu:Ö:=⟨[Ä,Â],[Ä,tI],fun(x:Val aJ)=>vJ x.1 x.2⟩
def adj:List (Nat×Ö):=[(15,BF)]
def YZ (ρ:Type):List (Ø ρ):=[]
def Qn (ρ:Type):Env ρ:=Ù adj (YZ ρ)
def Wn:Ö:=⟨[Î],[am,.bool],fun(x:Val Î)=>vK x⟩
def zZ:Æ:=⟨1,[tI,tI,tI,ah,am],[tI,ab],⟨33,[.con tI,.any,.any,.dp 1,.con tI,.own 2,.var tI],[bz,.deepc .i64,.rowv tI]⟩,[(.exit 2,⟨33,[.con tI,.any,.any,.dp 1,.con tI,.own 2],[bz,.deepc .i64,.rowv tI]⟩,[ab])],false⟩
def zY (ρ:Type):Ø ρ:=⟨[1,2],161,2,zZ,fun(p:Val (tyL zZ.cs)) (v:Val au) a b=>l8 p.1 p.2.1 v.1 v.2 (fun c d=>a (c,d)) (b 0)⟩
def QG:Æ:=⟨1,[tI,tI,ah],[tI,am],⟨33,[.con tI,.any,.any,.dp 1,.var tI],dc⟩,[(.exit 0,⟨33,[.con tI,.any,.any,.dp 1],dc⟩,[am])],false⟩
def Aa (ρ:Type):Ø ρ:=⟨[1,2],161,0,QG,fun(p:Val aO) (v:Val aT) a b=>l9 p.1 v.1 v.2 (fun c d=>a (c,d)) (b 0)⟩
def QF:Æ:=⟨0,[tI,ah],[tI,am],⟨124,[.any,.box 0 0,.any,.any,.dp 1,.var tI],dc⟩,[(.exit 0,⟨124,[.any,.box 0 0,.any,.any,.dp 1],dc⟩,[am])],false⟩
def zX (ρ:Type):Ø ρ:=⟨[],87,0,QF,fun(p:Val Î) (v:Val aT) a b=>l7 p.2 v.1 v.2 (fun c d=>a (c,d)) (b 0)⟩
def QC:Æ:=⟨0,[tI,tI,tI,ah],[tI,am],⟨124,[.any,.box 0 0,.any,.any,.dp 1,.any,.any,.con tI,.con tI,.var tI],dc⟩,[(.exit 6,⟨124,[.any,.box 0 0,.any,.any,.dp 1,.any,.any,.con tI,.con tI],dc⟩,[am])],false⟩
def zU (ρ:Type):Ø ρ:=⟨[],87,6,QC,fun(p:Val (.pair tI aO)) (v:Val aT) a b=>l5 p.1 p.2.1 p.2.2.1 v.1 v.2 (fun c d=>a (c,d)) (b 0)⟩
def QD:Æ:=⟨0,[tI,tI,ah],[tI,am],⟨124,[.any,.box 0 0,.any,.any,.dp 1,.any,.any,.con tI,.var tI],dc⟩,[(.exit 4,⟨124,[.any,.box 0 0,.any,.any,.dp 1,.any,.any,.con tI],dc⟩,[am])],false⟩
def zV (ρ:Type):Ø ρ:=⟨[],87,4,QD,fun(p:Val aO) (v:Val aT) a b=>l6 p.1 p.2.1 v.1 v.2 (fun c d=>a (c,d)) (b 0)⟩
def zT:Æ:=⟨0,[tI,tI,ah,am],[tI],⟨124,[.any,.box 0 0,.any,.any,.dp 1,.any,.any,.con tI,.any,.any,.var tI],[bz,.deepc .i64]⟩,[(.ret,⟨124,[.any,.box 0 0,.nils,.var .bool,.dp 1,.any,.any,.con tI],[bz,.deepc .i64]⟩,[.bool]),(.exit 8,⟨124,[.any,.box 0 0,.any,.any,.dp 1,.any,.any,.con tI],[bz,.deepc .i64]⟩,[])],false⟩
def zS (ρ:Type):Ø ρ:=⟨[],87,8,zT,fun(p:Val (tyL zT.cs)) (v:Val tI) b a=>i9 p.2.1 p.2.2.2 v (fun c=>b c) (a 0) (a 1)⟩
def QE:Æ:=⟨0,[tI,ah],[tI,am],⟨124,[.any,.box 0 0,.any,.any,.dp 1,.any,.any,.var tI],dc⟩,[(.ret,⟨124,[.any,.box 0 0,.nils,.var .bool,.dp 1],dc⟩,[.bool,am]),(.exit 2,⟨124,[.any,.box 0 0,.any,.any,.dp 1],dc⟩,[am])],false⟩
def zW (ρ:Type):Ø ρ:=⟨[],87,2,QE,fun(p:Val Î) (v:Val aT) b a=>j6 p.1 v.1 v.2 (fun c d=>b (c,d)) (a 0) (a 1)⟩
def Zd:List (Nat×Ö):=[]
def Ut (ρ:Type):List (Ø ρ):=[zY ρ,Aa ρ,zX ρ,zU ρ,zV ρ,zS ρ,zW ρ]
def κ (ρ:Type):Env ρ:=Ù Zd (Ut ρ)
def acn:Ö:=⟨[Ä,aa],[å],fun(x:Val (.pair Ä aa))=>I8 x.1 x.2⟩
def TW:Æ:=⟨0,[aa],[tI,tI,tI,ae,aa,af,ac,aa,tI,tI,tI,tI],⟨59,[.any,.con aa,.box 0 0,.any,.box 1 0,.any,.var tI],[bH,b7]⟩,[(.ret,⟨59,[.any,.con aa,.box 0 0,.any,.box 1 0],[bH,b7]⟩,[tI,tI,ae,aa,af,ac,aa,tI,tI,tI,tI]),(.exit 0,⟨59,[.any,.con aa,.box 0 0,.any,.box 1 0],[bH,b7]⟩,[tI,tI,ae,aa,af,ac,aa,tI,tI,tI,tI])],false⟩
def Df (ρ:Type):Ø ρ:=⟨[],28,0,TW,fun(p:Val aa) (v:Val (.pair tI aA)) b a=>oa p v.1 v.2.1 v.2.2.1 v.2.2.2.1 v.2.2.2.2.1 v.2.2.2.2.2.1 v.2.2.2.2.2.2.1 v.2.2.2.2.2.2.2.1 v.2.2.2.2.2.2.2.2.1 v.2.2.2.2.2.2.2.2.2.1 v.2.2.2.2.2.2.2.2.2.2.1 v.2.2.2.2.2.2.2.2.2.2.2 (fun c d e f g h i j k l m n=>b (c,d,e,f,g,h,i,j,k,l,m,n)) (a 0) (a 1)⟩
def ac7:List (Nat×Ö):=[(15,BF),(31,Pv),(85,BD),(86,acu),(87,Wn)]
def YA (ρ:Type):List (Ø ρ):=[Df ρ]
def EC (ρ:Type):Env ρ:=Ù ac7 (YA ρ)
def We:Ö:=⟨[Ä,aa,.bool],[å],fun(x:Val (.pair Ä bh))=>vE x.1 x.2.1 x.2.2⟩
def Yt:List (Nat×Ö):=[(15,BF),(28,acn)]
def TQ (ρ:Type):List (Ø ρ):=[]
def Mp (ρ:Type):Env ρ:=Ù Yt (TQ ρ)
def qw:Ö:=⟨[å,tI],[Â],fun(x:Val (.pair å tI))=>Ŕ x.1 x.2⟩
def yC:List (Nat×Ö):=[]
def wo (ρ:Type):List (Ø ρ):=[]
def n0 (ρ:Type):Env ρ:=Ù yC (wo ρ)
def wa:Ö:=⟨[å,Â],[tI],fun(x:Val (.pair å Â))=>Ř x.1 x.2⟩
def Nr:List (Nat×Ö):=[(85,BD)]
def Kc (ρ:Type):List (Ø ρ):=[]
def zr (ρ:Type):Env ρ:=Ù Nr (Kc ρ)
def y0:Ö:=⟨[å,aa],[Â],fun(x:Val (.pair å aa))=>Š x.1 x.2⟩
def pd:Æ:=⟨0,[aa,tI,tI,ae,aa,af,ac,aa,tI,ah,am,tI,tI,tI],[tI,tI,tI],⟨51,[.any,.con aa,.box 0 0,.any,.box 1 0,.any,.box 2 0,.var tI],[b8,bw,bI]⟩,[(.exit 0,⟨51,[.any,.con aa,.box 0 0,.any,.box 1 0,.any,.box 2 0],[b8,bw,bI]⟩,[tI,tI])],false⟩
def pb (ρ:Type):Ø ρ:=⟨[],19,0,pd,fun(p:Val (tyL pd.cs)) (v:Val ć) a b=>let A:=p.2.2.2.2;let B:=A.2.2.2.2;jF p.1 p.2.1 p.2.2.1 p.2.2.2.1 A.1 A.2.1 A.2.2.1 A.2.2.2.1 B.1 B.2.1 B.2.2.1 B.2.2.2.1 v.1 v.2.1 v.2.2 (fun c d e=>a (c,d,e)) (b 0)⟩
def GM:List (Nat×Ö):=[(70,qw),(71,wa)]
def EA (ρ:Type):List (Ø ρ):=[pb ρ]
def nk (ρ:Type):Env ρ:=Ù GM (EA ρ)
def rU:Ö:=⟨[å,ab,ab],[tI],fun(x:Val (.pair å aE))=>mj x.1 x.2.1 x.2.2⟩
def Ĩ:Æ:=⟨0,[ab,ab,tI,tI,ae,aa,af,ac,aa,tI,ah,am,tI],[tI,tI],⟨53,[.any,.con ab,.con ab,.box 0 0,.any,.any,.any,.var tI,.var tI],[b8]⟩,[(.exit 0,⟨53,[.any,.con ab,.con ab,.box 0 0,.any,.any,.any,.var tI],[b8]⟩,[tI])],false⟩
def i7 (rec:Val å→Val ab→Val ab→Option Int) (ρ:Type):Ø ρ:=⟨[],141,0,Ĩ,fun(p:Val aF) (v:Val Â) a b=>jL rec p.1 p.2.1 p.2.2.1 p.2.2.2.1 p.2.2.2.2.1 p.2.2.2.2.2.1 p.2.2.2.2.2.2.1 p.2.2.2.2.2.2.2.1 p.2.2.2.2.2.2.2.2.1 p.2.2.2.2.2.2.2.2.2.1 p.2.2.2.2.2.2.2.2.2.2.1 p.2.2.2.2.2.2.2.2.2.2.2.1 p.2.2.2.2.2.2.2.2.2.2.2.2 v.1 v.2 (fun c d=>a (c,d)) (b 0)⟩
def zn (rec:Val å→Val ab→Val ab→Option Int):List (Nat×Ö):=[(141,⟨[å,ab,ab],[tI],fun(x:Val (.pair å aE))=>rec x.1 x.2.1 x.2.2⟩)]
def mO (rec:Val å→Val ab→Val ab→Option Int) (ρ:Type):List (Ø ρ):=[i7 rec ρ]
def ĩ (rec:Val å→Val ab→Val ab→Option Int) (ρ:Type):Env ρ:=Ù (zn rec) (mO rec ρ)
def yZ:Ö:=⟨[å,ab,ab],[tI],fun(x:Val (.pair å aE))=>jS x.1 x.2.1 x.2.2⟩
def o9:Æ:=⟨0,[ab,ab,tI,tI,ae,aa,af,ac,aa,tI,ah,am,tI,ab],[tI,ab],⟨39,[.any,.con ab,.con ab,.box 0 0,.any,.any,.any,.own 1,.own 2,.var tI],[b8,.rowv tI,.rowc tI]⟩,[(.exit 0,⟨39,[.any,.con ab,.con ab,.box 0 0,.any,.any,.any,.own 1,.own 2],[b8,.rowv tI,.rowc tI]⟩,[ab])],false⟩
def o8 (ρ:Type):Ø ρ:=⟨[],72,0,o9,fun(p:Val (tyL o9.cs)) (v:Val au) a b=>Ũ p.1 v.1 v.2 (fun c d=>a (c,d)) (b 0)⟩
def oZ:Æ:=⟨0,[ab,tI,tI,ae,aa,af,ac,aa,tI,ah,am,tI,ab],[tI,ab],⟨39,[.any,.any,.con ab,.box 0 0,.any,.any,.any,.own 1,.own 2,.any,.var tI],[b8,.rowc tI,.rowv tI]⟩,[(.exit 2,⟨39,[.any,.any,.con ab,.box 0 0,.any,.any,.any,.own 1,.own 2],[b8,.rowc tI,.rowv tI]⟩,[ab])],false⟩
def oY (ρ:Type):Ø ρ:=⟨[],72,2,oZ,fun(p:Val (tyL oZ.cs)) (v:Val au) a b=>lW p.1 v.1 v.2 (fun c d=>a (c,d)) (b 0)⟩
def GK:List (Nat×Ö):=[(141,rU)]
def Ey (ρ:Type):List (Ø ρ):=[o8 ρ,oY ρ]
def j3 (ρ:Type):Env ρ:=Ù GK (Ey ρ)
def uw:Ö:=⟨[å,tI,ab,ab],[Â],fun(x:Val (.pair å bg))=>ā x.1 x.2.1 x.2.2.1 x.2.2.2⟩
def mS:Æ:=⟨0,[tI,ab,ab,tI,tI,ae,aa,af,ac,aa,tI,ah,am,tI,tI,tI],[tI,ab],⟨99,[.any,.con tI,.con ab,.con ab,.box 0 0,.any,.any,.any,.box 1 0,.own 2,.nils,.var tI],[b8,bw,.rowv tI]⟩,[(.exit 0,⟨99,[.any,.con tI,.con ab,.con ab,.box 0 0,.any,.any,.any,.box 1 0,.own 2,.nils],[b8,bw,.rowv tI]⟩,[ab])],false⟩
def mR (ρ:Type):Ø ρ:=⟨[],20,0,mS,fun(p:Val (tyL mS.cs)) (v:Val au) a b=>let A:=p.2.2.2.2;let B:=A.2.2.2.2;ň p.1 p.2.1 p.2.2.2.1 A.1 A.2.1 A.2.2.1 A.2.2.2.1 B.1 B.2.1 B.2.2.1 B.2.2.2.1 B.2.2.2.2.1 B.2.2.2.2.2.1 v.1 v.2 (fun c d=>a (c,d)) (b 0)⟩
def mQ:Æ:=⟨0,[tI,ab,ab,tI,tI,ae,aa,af,ac,aa,tI,ah,am,tI,tI,tI,ab],[tI,ab],⟨99,[.any,.con tI,.con ab,.con ab,.box 0 0,.any,.any,.any,.box 1 0,.own 2,.own 3,.any,.var tI],[b8,bw,.rowc tI,.rowv tI]⟩,[(.exit 2,⟨99,[.any,.con tI,.con ab,.con ab,.box 0 0,.any,.any,.any,.box 1 0,.own 2,.own 3],[b8,bw,.rowc tI,.rowv tI]⟩,[ab])],false⟩
def mP (ρ:Type):Ø ρ:=⟨[],20,2,mQ,fun(p:Val (tyL mQ.cs)) (v:Val au) a b=>let A:=p.2.2.2.2;let B:=A.2.2.2.2;kq p.1 p.2.2.1 p.2.2.2.1 A.1 A.2.1 A.2.2.1 A.2.2.2.1 B.1 B.2.1 B.2.2.1 B.2.2.2.1 B.2.2.2.2.1 B.2.2.2.2.2.1 v.1 v.2 (fun c d=>a (c,d)) (b 0)⟩
def Cw:List (Nat×Ö):=[(71,wa),(72,yZ)]
def zp (ρ:Type):List (Ø ρ):=[mR ρ,mP ρ]
def i8 (ρ:Type):Env ρ:=Ù Cw (zp ρ)
def lM:Ö:=⟨[Ä,tI,ab,ab],[.bool],fun(x:Val (.pair Ä bg))=>rq x.1 x.2.1 x.2.2.1 x.2.2.2⟩
def GH:List (Nat×Ö):=[(7,aiG),(8,Ps),(10,X7),(11,Wt),(16,C6),(17,xQ),(18,We),(19,y0),(20,uw)]
def Et (ρ:Type):List (Ø ρ):=[]
def uH (ρ:Type):Env ρ:=Ù GH (Et ρ)
end Go.Proofs.ZzM
end
