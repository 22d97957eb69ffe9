/- lemmas -/
import Derived.Test.YthpkdfdacidamaaGreatAmC
import Derived.Test.YthpkdfdacidamaaGreatAmE
import Derived.KernelRfl
import Derived.Test.YthpkdfdacidamaaGreatMdTA
import Derived.Test.YthpkdfdacidamaaGreatProg
set_option linter.all false
set_option linter.unusedSectionVars false
set_option linter.unusedVariables false
set_option linter.unusedSimpArgs false
noncomputable section
set_option maxRecDepth 100000
namespace Go.Proofs.ZzM
open Go Go.Am
def Iq:Nat→Bool
  |71=>true
  |83=>true
  |118=>true
  |187=>true
  |188=>true
  |189=>true
  |_=>false
def Qx:Nat→Bool
  |85=>true
  |_=>false
def wI:Nat→Bool
  |145=>true
  |_=>false
def aiC:Nat→Bool
  |2=>true
  |24=>true
  |35=>true
  |36=>true
  |40=>true
  |47=>true
  |48=>true
  |49=>true
  |54=>true
  |56=>true
  |57=>true
  |58=>true
  |60=>true
  |65=>true
  |66=>true
  |67=>true
  |68=>true
  |69=>true
  |70=>true
  |72=>true
  |76=>true
  |77=>true
  |78=>true
  |79=>true
  |89=>true
  |90=>true
  |91=>true
  |92=>true
  |96=>true
  |103=>true
  |109=>true
  |111=>true
  |112=>true
  |114=>true
  |115=>true
  |117=>true
  |119=>true
  |120=>true
  |122=>true
  |125=>true
  |126=>true
  |129=>true
  |130=>true
  |132=>true
  |133=>true
  |135=>true
  |139=>true
  |140=>true
  |141=>true
  |142=>true
  |143=>true
  |144=>true
  |146=>true
  |147=>true
  |148=>true
  |149=>true
  |155=>true
  |157=>true
  |158=>true
  |159=>true
  |160=>true
  |161=>true
  |162=>true
  |164=>true
  |165=>true
  |168=>true
  |169=>true
  |170=>true
  |175=>true
  |176=>true
  |182=>true
  |183=>true
  |185=>true
  |186=>true
  |190=>true
  |196=>true
  |199=>true
  |200=>true
  |203=>true
  |204=>true
  |207=>true
  |208=>true
  |_=>false
def isFz:Nat→Bool
  |39=>true
  |_=>false
def aiD:Nat→Nat→Bool
  |42,2=>true
  |42,3=>true
  |49,67=>true
  |76,25=>true
  |169,0=>true
  |_,_=>false
def aea:List Nat→Nat→Bool
  |_,_=>false
abbrev Ű {ρ:Type} (E:Env ρ) (f:Nat) (ts rs:List Ty) (x:Val (tyL ts)) (k:Val (tyL rs)→Option ρ):Option ρ:=topK E f (YU ts x) (fun h v=>Ä (aio rs h v) k)
abbrev Ls (p:Nat) (c v:List Ty) (h:Tpl) (e:List (Exit×Tpl×List Ty)):Ç:=⟨p,c,v,h,e,false⟩
def ì {ρ:Type} (pt:List (Nat×å)) (tab:List (ä ρ)):Env ρ :=
  {P:=Tryz.prog,eat:=aiD,clone:=Iq,sort:=Qx,compact:=wI,inl:=aiC,fz:=isFz,stop:=aea,pure:=YQ pt,loops:=kr tab}
def Z3 {ρ:Type} (pt:List (Nat×å)) (tab:List (ä ρ)) (xt:List (Nat×aaZ)):Env ρ:={ì pt tab with ext:=extT xt}
def mkEnvJ {ρ:Type} (pt:List (Nat×å)) (tab:List (ä ρ)) (js:List JEnt):Env ρ :=
  {P:=Tryz.prog,eat:=aiD,clone:=Iq,sort:=Qx,compact:=wI,inl:=aiC,fz:=isFz,stop:=aea,pure:=YQ pt,loops:=kr tab,joins:=Tl js}
def mkEnvU {ρ:Type} (pt:List (Nat×å)) (tab:List (ä ρ)) (us:List ahb):Env ρ :=
  {P:=Tryz.prog,eat:=aiD,clone:=Iq,sort:=Qx,compact:=wI,inl:=aiC,fz:=isFz,stop:=aea,pure:=YQ pt,loops:=Z5 (ì pt tab) us}
abbrev br:mw:=.cells [.con ab]
abbrev bt:mw:=.cells [.con tI,.con tI,.con ae,.con aa,.con af,.con ac,.con aa]
abbrev bu:mw:=.cells [.con tI,.con tI,.con tI,.con tI,.con tI,.con tI,.con tI,.con tI]
abbrev bv:mw:=.cells [.con tI,.con tI,.con tI,.con tI]
abbrev bw:mw:=.cells [.con tI]
abbrev bz:mw:=.cells [.con tI,.con tI,.con ab,.con ab,.con tI,.con tI,.con tI,.con tI]
abbrev bB:mw:=.cells [.con tI,.con ab]
abbrev bC:mw:=.cells [.omp 3]
abbrev bD:mw:=.cells [.con tI,.con tI,.con ae,.con aa,.con af,.con ac,.con aa,.con ai]
abbrev bE:mw:=.cells [.con tI,.con tI,.nils,.nils,.nils,.nils,.nils]
abbrev bG:mw:=.cells [.con tI,.con tI,.own 3,.own 4,.nils,.nils,.nils]
abbrev bH:mw:=.cells [.con tI,.con tI,.own 3,.own 4,.own 5,.nils,.nils]
abbrev bI:mw:=.cells [.con tI,.con tI,.own 3,.own 4,.own 5,.own 6,.nils]
abbrev bJ:mw:=.cells [.con tI,.con tI,.own 2,.own 3,.own 4,.own 5,.own 6]
abbrev bK:mw:=.cells [.con tI,.con tI]
abbrev bL:mw:=.cells [.con tI,.con tI,.con ae,.con aa,.con af,.con ac,.con aa,.con aa,.con tI,.own 3,.own 4]
abbrev bM:mw:=.cells [.con tI,.con tI,.con ae,.con aa,.con af,.con ac,.con aa,.con aa,.con tI,.own 2,.own 3]
abbrev bN:mw:=.cells [.con tI,.con ak]
abbrev bO:mw:=.cells [.own 6]
abbrev bP:mw:=.cells [.var tI,.var tI,.var ae,.var aa,.var af,.var ac,.var aa,.var ai]
abbrev bQ:mw:=.cells [.con ai]
abbrev bR:mw:=.cells [.own 4]
abbrev bS:mw:=.cells [.con tI,.con tI,.own 9,.own 10,.own 11,.con ac,.own 12]
abbrev bT:mw:=.cells [.con tI,.con tI,.con ae,.own 3,.nils,.nils,.nils]
abbrev bU:mw:=.cells [.con tI,.con tI,.con ae,.own 3,.own 4,.nils,.nils]
abbrev bV:mw:=.cells [.con tI,.con tI,.con ae,.own 3,.own 4,.own 5,.nils]
abbrev bW:mw:=.cells [.con tI,.con tI,.nils,.nils,.nils,.nils,.nils,.nils]
abbrev bX:mw:=.cells [.fn 67 [(1,0)]]
abbrev bY:mw:=.cells [.fn 36 [(1,0)]]
abbrev bZ:mw:=.cells [.con tI,.con tI,.con tI]
abbrev b7:mw:=.cells [.var tI,.var tI,.var ae,.var aa,.var af,.var ac,.var aa]
abbrev b8:List mw:=[bt,bz,.rowc tI]
abbrev b9:List mw:=[bt,bB,bC,.mapc tI tI]
abbrev ca:List mw:=[bE,bt,bH,.rowc Ù,.rowc Ã,.rowv iZ]
abbrev cd:List mw:=[bE,bt,bI,.rowc Ù,.rowc Ã,.rowc iZ,.rowv Þ]
abbrev ce:List mw:=[bE,bJ,.rowc Ù,.rowc Ã,.rowc iZ,.rowc Þ,.rowv Ã]
abbrev cf:List mw:=[bt,bM,.rowv Ĥ,.rowv Ã]
abbrev ci:List mw:=[bN,.rowc tI,bN,bO,.rowv .bool,.rowc tI,.rowv tI]
abbrev cj:List mw:=[bN,.rowv tI,bN,bO,.rowv .bool,.rowc tI,.rowv tI]
abbrev cm:List mw:=[bN,.rowv tI,bN,bO,.rowv .bool,.rowv tI,.rowv tI]
abbrev cn:List mw:=[.rowv ah,bD]
abbrev cp:List mw:=[.rowc ah,bD]
abbrev cq:List mw:=[.rowv ah,bP]
abbrev cr:List mw:=[bt,bK,bE,bt,bE,.dead,bS,bE,.rowv Þ,.rowc Ù,.rowc Ã,.rowc iZ,.rowc Ã]
abbrev cu:List mw:=[bD,.rowv tI]
abbrev cw:List mw:=[bD,bE,bV,.rowc Ã,.rowc iZ,.rowv Þ]
abbrev cz:List mw:=[bD,br,bW,bD,bX,bW,.rowc Þ]
abbrev cA:List mw:=[bD,bw,bD,bY,bW,.rowc Þ]
abbrev cB:List mw:=[.rowc ab,bN,.dead,.dead,.rowv tI]
abbrev cD:List mw:=[bN,.rowc ah,bZ,bN,.rowv tI]
abbrev cE:List mw:=[bt,bK,bK,.rowc Ã,b7]
def jI:å:=⟨[ah],[ab],fun(x:Val ah)=>ĸ x⟩
def xM:Ç:=Ls 0 [ah,ah,tI] [tI,tI] ⟨36,.con ah::aN 2 (.var tI::aN 5 [.con ah,.con tI,.var tI]),[]⟩ [(.exit 0,⟨36,.con ah::aN 2 (.var tI::aN 5 [.con ah,.con tI]),[]⟩,[tI])]
def nw (ρ:Type):ä ρ:=⟨[],39,0,xM,fun(p:Val (.pair ah bj)) (v:Val Ã) a b=>il p.2.1 p.2.2 v.1 v.2 (fun c d=>a (c,d)) (b 0)⟩
def xL:Ç:=Ls 0 [ah,tI] [tI,ab] ⟨36,aN 6 (.own 0::aN 18 [.con ah,.con tI,.var tI]),[.rowv tI]⟩ [(.exit 2,⟨36,aN 6 (.own 0::aN 18 [.con ah,.con tI]),[.rowv tI]⟩,[ab])]
def nu (ρ:Type):ä ρ:=⟨[],39,2,xL,fun(p:Val bj) (v:Val Ŋ) a b=>Ĩ p.1 p.2 v.1 v.2 (fun c d=>a (c,d)) (b 0)⟩
def Ae:List (Nat×å):=[]
def yX (ρ:Type):List (ä ρ):=[nw ρ,nu ρ]
def iG (ρ:Type):Env ρ:=ì Ae (yX ρ)
def Nk:ahY:=⟨151,ab,ab,BD⟩
def iO:Tpl:=⟨37,.any::.box 1 0::.box 2 0::.any::.box 3 0::aN 6 [.con ab,.con tI,.con tI],[.acc ab,.cells [.con ab],.cells [.yld],.cells [.con tI]]⟩
def kq (al:Val ah) (rec:Val ab→Option ((Val ah))) (ρ:Type):He ρ:=⟨[],151,2,4,[ab,tI,tI,ab,tI],[ah],iO,⟨151,ab,ab,rec⟩,fun(p:Val aX) (v:Val ah) y a=>rJ al rec p.2.2.2.2 v y (fun b=>a b)⟩
def Η:Ç:=Ls 2 [ab,tI,ab] [tI,ah] ⟨37,.any::.box 1 0::.box 2 0::aN 8 [.con ab,.con tI,.var tI],[.acc ab,br,.cells [.yld]]⟩ [(.exit 0,⟨37,.any::.box 1 0::.box 2 0::aN 8 [.con ab,.con tI],[.acc ab,br,.cells [.yld]]⟩,[ah])]
def oy (al:Val ah) (rec:Val ab→Option ((Val ah))) (ρ:Type):ä ρ:=⟨[],151,0,Η,fun(p:Val ba) (v:Val bh) a b=>rK al rec p.1 p.2.1 p.2.2 v.1 v.2 (fun c d=>a (c,d)) (b 0)⟩
def zO (al:Val ah) (rec:Val ab→Option ((Val ah))) (ρ:Type):List (He ρ):=[kq al rec ρ]
def LM:List (Nat×å):=[(39,jI)]
def yD (al:Val ah) (rec:Val ab→Option ((Val ah))) (ρ:Type):List (ä ρ):=[oy al rec ρ]
def Ĉ (al:Val ah) (rec:Val ab→Option ((Val ah))) (ρ:Type):Env ρ:={ì LM (yD al rec ρ) with ranges:=g9 (zO al rec ρ),yld:=some ⟨ab,al⟩}
def sh:ahY:=⟨121,ai,ah,oM⟩
def Ν:Tpl:=⟨27,.any::.box 1 0::.box 2 0::.box 3 0::aN 11 [.con ab],[.acc ah,.cells [.con ai],.cells [.yld],.cells [.con ab]]⟩
def jd (al:Val am) (rec:Val ai→Option ((Val am))) (ρ:Type):He ρ:=⟨[],121,2,4,[ab,ai,ab],[am],Ν,⟨121,ai,ah,rec⟩,fun(p:Val bm) (v:Val am) y a=>oB al rec p.2.2 v y (fun b=>a b)⟩
def Ξ:Tpl:=⟨27,[.any,.box 1 0,.box 2 0],[.acc ah,.cells [.con ai],.cells [.yld]]⟩
def je (al:Val am) (rec:Val ai→Option ((Val am))) (ρ:Type):He ρ:=⟨[],121,0,3,[ai],[am],Ξ,Nk,fun(p:Val ai) (v:Val am) y a=>oC al rec p v y (fun b=>a b)⟩
def vW (al:Val am) (rec:Val ai→Option ((Val am))) (ρ:Type):List (He ρ):=[jd al rec ρ,je al rec ρ]
def HK:List (Nat×å):=[]
def tG (al:Val am) (rec:Val ai→Option ((Val am))) (ρ:Type):List (ä ρ):=[]
def ð (al:Val am) (rec:Val ai→Option ((Val am))) (ρ:Type):Env ρ:={ì HK (tG al rec ρ) with ranges:=g9 (vW al rec ρ),yld:=some ⟨ah,al⟩}
def Gu:ahY:=⟨150,ab,tI,BC⟩
def ğ:Ç:=Ls 2 [ab,tI,ab] [tI,ab] ⟨16,.yld::aN 4 [.con ab,.con tI,.var tI],[.acc tI,br]⟩ [(.exit 0,⟨16,.yld::aN 4 [.con ab,.con tI],[.acc tI,br]⟩,[ab])]
def iv (al:Val ab) (rec:Val ab→Option ((Val ab))) (ρ:Type):ä ρ:=⟨[],150,0,ğ,fun(p:Val ba) (v:Val Ŋ) a b=>jf al rec p.1 p.2.1 v.1 v.2 (fun c d=>a (c,d)) (b 0)⟩
def xH:List (Nat×å):=[]
def wd (al:Val ab) (rec:Val ab→Option ((Val ab))) (ρ:Type):List (ä ρ):=[iv al rec ρ]
def Đ (al:Val ab) (rec:Val ab→Option ((Val ab))) (ρ:Type):Env ρ:={ì xH (wd al rec ρ) with yld:=some ⟨tI,al⟩}
def vE:å:=⟨[Ã,tI,tI],[.bool],fun(x:Val Ę)=>gZ x.1 x.2.1 x.2.2⟩
def SV:List (Nat×å):=[]
def Ps (ρ:Type):List (ä ρ):=[]
def Jp (ρ:Type):Env ρ:=ì SV (Ps ρ)
def mB:å:=⟨[tI,tI,tI],[.bool],fun(x:Val Ĥ)=>Ģ x.1 x.2.1 x.2.2⟩
def SI:List (Nat×å):=[]
def Pd (ρ:Type):List (ä ρ):=[]
def Jo (ρ:Type):Env ρ:=ì SI (Pd ρ)
def zB:å:=⟨[tI],[.bool],fun(x:Val tI)=>nM x⟩
def VS:List (Nat×å):=[(116,mB)]
def SS (ρ:Type):List (ä ρ):=[]
def M5 (ρ:Type):Env ρ:=ì VS (SS ρ)
def Rn:å:=⟨[tI],[(.int .u64)],fun(x:Val tI)=>uu x⟩
def Yi:List (Nat×å):=[]
def Vw (ρ:Type):List (ä ρ):=[]
def Qn (ρ:Type):Env ρ:=ì Yi (Vw ρ)
def XQ:å:=⟨[(.int .u64),(.int .u64)],[(.int .u64)],fun(x:Val bo)=>NG x.1 x.2⟩
def Vy:Ç:=Ls 0 [] [(.int .u64),(.int .u64)] ⟨12,[.var (.int .u64),.var (.int .u64)],[]⟩ [(.exit 0,⟨12,[.var (.int .u64)],[]⟩,[(.int .u64)])]
def Jl (ρ:Type):ä ρ:=⟨[],174,0,Vy,fun(p:Unit) (v:Val bo) a b=>Bu v.1 v.2 (fun c d=>a (c,d)) (b 0)⟩
def abD:List (Nat×å):=[]
def Yj (ρ:Type):List (ä ρ):=[Jl ρ]
def MJ (ρ:Type):Env ρ:=ì abD (Yj ρ)
def ER:å:=⟨[Ã],[.bool],fun(x:Val Ã)=>wO x⟩
def VB:List (Nat×å):=[(173,Rn),(174,XQ)]
def SB (ρ:Type):List (ä ρ):=[]
def MM (ρ:Type):Env ρ:=ì VB (SB ρ)
def Lq:å:=⟨[Ù],[.bool],fun(x:Val Ù)=>ym x⟩
def Pr:List (Nat×å):=[(51,vE),(101,zB),(116,mB),(138,ER)]
def M3 (ρ:Type):List (ä ρ):=[]
def Gd (ρ:Type):Env ρ:=ì Pr (M3 ρ)
def zD:å:=⟨[Ê],[tI],fun(x:Val Ê)=>δ x⟩
def qp:Ç:=Ls 0 [ae,tI,tI,tI,ae,aa,af,ac,aa] [tI] ⟨31,.any::.box 0 0::aN 4 [.con ae,.con tI,.var tI],[bt]⟩ [(.ret,⟨31,[.any,.box 0 0,.var tI,.any,.any,.any,.con ae,.con tI],[bt]⟩,[tI]),(.exit 0,⟨31,.any::.box 0 0::aN 4 [.con ae,.con tI],[bt]⟩,[])]
def qo (ρ:Type):ä ρ:=⟨[],52,0,qp,fun(p:Val (tyL qp.cs)) (v:Val tI) b a=>jK p.1 p.2.1 p.2.2.2.2.1 v (fun c=>b c) (a 0) (a 1)⟩
def Gi:List (Nat×å):=[(99,Lq)]
def D7 (ρ:Type):List (ä ρ):=[qo ρ]
def oK (ρ:Type):Env ρ:=ì Gi (D7 ρ)
def rC:å:=⟨[Ê],[aq],fun(x:Val Ê)=>Ł x⟩
def J8:Ç:=Ls 0 [ae,tI] [tI,aq] ⟨20,aN 3 (.omp 0::aN 4 [.con ae,.con tI,.var tI]),[.mapv tI Ù]⟩ [(.exit 0,⟨20,aN 3 (.omp 0::aN 4 [.con ae,.con tI]),[.mapv tI Ù]⟩,[aq])]
def yI (ρ:Type):ä ρ:=⟨[],53,0,J8,fun(p:Val (.pair ae tI)) (v:Val (.pair tI aq)) a b=>oX p.1 p.2 v.1 v.2 (fun c d=>a (c,d)) (b 0)⟩
def Pf:List (Nat×å):=[]
def MR (ρ:Type):List (ä ρ):=[yI ρ]
def xS (ρ:Type):Env ρ:=ì Pf (MR ρ)
def ot:å:=⟨[ab,tI],[tI],fun(x:Val aD)=>iW x.1 x.2⟩
def yW:Ç:=Ls 0 [ab,tI,tI] [tI] ⟨19,.con ab::.con tI::aN 5 [.con tI,.var tI],[]⟩ [(.ret,⟨19,[.con ab,.con tI,.any,.any,.var tI,.any,.any,.con tI],[]⟩,[tI]),(.exit 0,⟨19,.con ab::.con tI::aN 5 [.con tI],[]⟩,[])]
def od (ρ:Type):ä ρ:=⟨[],75,0,yW,fun(p:Val (.pair ab Ã)) (v:Val tI) b a=>iF p.1 p.2.1 p.2.2 v (fun c=>b c) (a 0) (a 1)⟩
def Ce:List (Nat×å):=[]
def Ac (ρ:Type):List (ä ρ):=[od ρ]
def mo (ρ:Type):Env ρ:=ì Ce (Ac ρ)
def ŷ:å:=⟨[ab,tI],[.bool],fun(x:Val aD)=>æ x.1 x.2⟩
def xJ:List (Nat×å):=[(75,ot)]
def wg (ρ:Type):List (ä ρ):=[]
def oe (ρ:Type):Env ρ:=ì xJ (wg ρ)
def Rp:å:=⟨[Ê,Ù],[ab],fun(x:Val (.pair Ê Ù))=>qH x.1 x.2⟩
def SZ:Ç:=Ls 0 [ac,tI,tI,tI,ae,aa,af,ac,aa,tI,tI,tI,tI,tI,tI,tI,tI] [tI,ab] ⟨59,aN 2 (.box 0 0::.box 1 0::.any::.own 2::aN 8 [.con ac,.con tI,.var tI]),[bt,bu,.rowv tI]⟩ [(.exit 0,⟨59,aN 2 (.box 0 0::.box 1 0::.any::.own 2::aN 8 [.con ac,.con tI]),[bt,bu,.rowv tI]⟩,[ab])]
def Gg (ρ:Type):ä ρ:=⟨[],106,0,SZ,fun(p:Val (.pair ac aO)) (v:Val Ŋ) a b=>yd p.1 p.2.1 p.2.2.2.2.2.2.2.2.2.1 v.1 v.2 (fun c d=>a (c,d)) (b 0)⟩
def Gf:Ç:=Ls 0 [aa,tI,tI,tI,tI,tI,tI,tI,tI,tI] [tI,ab] ⟨59,aN 3 (.box 0 0::.any::.own 1::aN 32 [.con aa,.con tI,.var tI]),[bu,.rowv tI]⟩ [(.exit 2,⟨59,aN 3 (.box 0 0::.any::.own 1::aN 32 [.con aa,.con tI]),[bu,.rowv tI]⟩,[ab])]
def Ge (ρ:Type):ä ρ:=⟨[],106,2,Gf,fun(p:Val (tyL Gf.cs)) (v:Val Ŋ) a b=>yc p.1 p.2.1 p.2.2.1 v.1 v.2 (fun c d=>a (c,d)) (b 0)⟩
def YA:List (Nat×å):=[(38,ŷ)]
def VU (ρ:Type):List (ä ρ):=[Gg ρ,Ge ρ]
def By (ρ:Type):Env ρ:=ì YA (VU ρ)
def EU:å:=⟨[Ê],[aa],fun(x:Val Ê)=>sq x⟩
def C5:Ç:=Ls 0 [ae,tI,tI,ab,tI,tI,tI,ae,aa,af,ac,aa,tI,tI,tI,tI,tI,tI,tI,tI] [tI,aa] ⟨33,.any::.box 0 0::.any::.own 1::.any::.box 2 0::aN 3 (.con ae::.con tI::.con tI::aN 5 [.con ab,.con tI,.var tI]),[bt,.rowv Ã,bu]⟩ [(.exit 2,⟨33,.any::.box 0 0::.any::.own 1::.any::.box 2 0::aN 3 (.con ae::.con tI::.con tI::aN 5 [.con ab,.con tI]),[bt,.rowv Ã,bu]⟩,[aa])]
def C4 (ρ:Type):ä ρ:=⟨[],55,2,C5,fun(p:Val (tyL C5.cs)) (v:Val aW) a b=>tY p.2.2.2.1 p.2.2.2.2.1 p.2.2.2.2.2.2.2.2.2.2.2.2.1 v.1 v.2 (fun c d=>a (c,d)) (b 0)⟩
def C7:Ç:=Ls 0 [ae,tI,tI,tI,ae,aa,af,ac,aa] [tI,aa] ⟨33,.any::.box 0 0::.any::.own 1::aN 5 [.con ae,.con tI,.var tI],[bt,.rowv Ã]⟩ [(.exit 0,⟨33,.any::.box 0 0::.any::.own 1::aN 5 [.con ae,.con tI],[bt,.rowv Ã]⟩,[aa])]
def C6 (ρ:Type):ä ρ:=⟨[],55,0,C7,fun(p:Val (tyL C7.cs)) (v:Val aW) a b=>let A:=p.2.2.2.2;tZ p.1 p.2.1 p.2.2.1 p.2.2.2.1 A.1 A.2.1 A.2.2.1 A.2.2.2.1 A.2.2.2.2 v.1 v.2 (fun c d=>a (c,d)) (b 0)⟩
def VK:List (Nat×å):=[(106,Rp)]
def SK (ρ:Type):List (ä ρ):=[C4 ρ,C6 ρ]
def xV (ρ:Type):Env ρ:=ì VK (SK ρ)
def oU:å:=⟨[aq,tI,tI],[tI],fun(x:Val (.pair aq Ã))=>jx x.1 x.2.1 x.2.2⟩
def H6:List (Nat×å):=[]
def FV (ρ:Type):List (ä ρ):=[]
def yJ (ρ:Type):Env ρ:=ì H6 (FV ρ)
def XS:å:=⟨[tI,tI,(.ptr aq)],[tI],fun(x:Val (.pair tI (.pair tI (.ptr aq))))=>ŗ x.1 x.2.1 x.2.2⟩
def Pg:List (Nat×å):=[(101,zB),(102,oU)]
def MT (ρ:Type):List (ä ρ):=[]
def FX (ρ:Type):Env ρ:=ì Pg (MT ρ)
def Rq:å:=⟨[Ê,aq,tI],[tI],fun(x:Val bp)=>ir x.1 x.2.1 x.2.2⟩
def ue:Ç:=Ls 2 [af,tI,tI,tI,ae,aa,af,ac,aa,tI,tI,tI,tI] [tI] ⟨19,.con af::.fn 139 [(1,0)]::aN 5 [.con tI,.var tI],[bt,bv]⟩ [(.ret,⟨19,[.con af,.fn 139 [(1,0)],.any,.any,.var tI,.any,.any,.con tI],[bt,bv]⟩,[tI]),(.exit 0,⟨19,.con af::.fn 139 [(1,0)]::aN 5 [.con tI],[bt,bv]⟩,[])]
def ud (ρ:Type):ä ρ:=⟨[9,5,1,2],147,0,ue,fun(p:Val (tyL ue.cs)) (v:Val tI) b a=>let A:=p.2.2.2.2.2.2.2.2.2;mc p.1 p.2.1 A.1 A.2.1 A.2.2.1 v (fun c=>b c) (a 0) (a 1)⟩
def t8:Ç:=Ls 2 [aa,tI,tI,tI,ae,aa,af,ac,aa,tI,tI,tI,tI] [tI] ⟨19,.con aa::.fn 140 [(1,0)]::aN 5 [.con tI,.var tI],[bt,bv]⟩ [(.ret,⟨19,[.con aa,.fn 140 [(1,0)],.any,.any,.var tI,.any,.any,.con tI],[bt,bv]⟩,[tI]),(.exit 0,⟨19,.con aa::.fn 140 [(1,0)]::aN 5 [.con tI],[bt,bv]⟩,[])]
def t7 (ρ:Type):ä ρ:=⟨[9,10,1,2],175,0,t8,fun(p:Val (tyL t8.cs)) (v:Val tI) b a=>let A:=p.2.2.2.2.2.2.2.2.2;ω p.1 p.2.1 A.1 A.2.1 A.2.2.1 v (fun c=>b c) (a 0) (a 1)⟩
def Ke:List (Nat×å):=[(51,vE),(102,oU),(116,mB)]
def Ie (ρ:Type):List (ä ρ):=[ud ρ,t7 ρ]
def nz (ρ:Type):Env ρ:=ì Ke (Ie ρ)
def HB:å:=⟨[ab],[.bool],fun(x:Val ab)=>kE x⟩
def MZ:Ç:=Ls 0 [ab,ab,tI] [tI] ⟨32,.con ab::aN 4 [.con ab,.con tI,.var tI],[]⟩ [(.ret,⟨32,[.con ab,.any,.var .bool,.any,.any,.con ab,.con tI],[]⟩,[.bool]),(.exit 0,⟨32,.con ab::aN 4 [.con ab,.con tI],[]⟩,[])]
def AD (ρ:Type):ä ρ:=⟨[],73,0,MZ,fun(p:Val (.pair ab aD)) (v:Val tI) b a=>jg p.1 p.2.1 p.2.2 v (fun c=>b c) (a 0) (a 1)⟩
def SQ:List (Nat×å):=[(116,mB)]
def Pp (ρ:Type):List (ä ρ):=[AD ρ]
def AE (ρ:Type):Env ρ:=ì SQ (Pp ρ)
def EV:å:=⟨[ab,ab],[ab],fun(x:Val (.pair ab ab))=>iq x.1 x.2⟩
def Gc:Ç:=Ls 2 [tI,ab,ab] [tI] ⟨19,.own 1::.fn 119 [(0,0)]::aN 5 [.con tI,.var tI],[br,.rowc tI]⟩ [(.ret,⟨19,[.own 1,.fn 119 [(0,0)],.any,.any,.var tI,.any,.any,.con tI],[br,.rowc tI]⟩,[tI]),(.exit 0,⟨19,.own 1::.fn 119 [(0,0)]::aN 5 [.con tI],[br,.rowc tI]⟩,[])]
def Gb (ρ:Type):ä ρ:=⟨[1,3,1,2],109,0,Gc,fun(p:Val (tyL Gc.cs)) (v:Val tI) b a=>yb p.1 p.2.1 p.2.2 v (fun c=>b c) (a 0) (a 1)⟩
def SO:Ç:=Ls 2 [ab] [tI,tI,ab] ⟨42,[.own 1,.fn 119 [(0,0)],.any,.any,.any,.var tI,.var tI],[br,.rowv tI]⟩ [(.exit 0,⟨42,[.own 1,.fn 119 [(0,0)],.any,.any,.any,.var tI],[br,.rowv tI]⟩,[tI,ab])]
def Ga (ρ:Type):ä ρ:=⟨[1,3],117,0,SO,fun(p:Val ab) (v:Val (.pair tI Ŋ)) a b=>mu p v.1 v.2.1 v.2.2 (fun c d e=>a (c,d,e)) (b 0)⟩
def Yz:List (Nat×å):=[(38,ŷ)]
def VP (ρ:Type):List (ä ρ):=[Gb ρ,Ga ρ]
def Bw (ρ:Type):Env ρ:=ì Yz (VP ρ)
def Rr:å:=⟨[Ê,tI,tI],[iZ,.bool],fun(x:Val aM)=>yn x.1 x.2.1 x.2.2⟩
def Gl:Ç:=Ls 4 [af,tI,tI,tI,ae,aa,af,ac,aa,tI,tI,tI,tI,tI,tI] [tI] ⟨19,.con af::.fn 148 [(1,0),(2,0)]::aN 5 [.con tI,.var tI],[bt,bw,bw,bv]⟩ [(.ret,⟨19,[.con af,.fn 148 [(1,0),(2,0)],.any,.any,.var tI,.any,.any,.con tI],[bt,bw,bw,bv]⟩,[tI]),(.exit 0,⟨19,.con af::.fn 148 [(1,0),(2,0)]::aN 5 [.con tI],[bt,bw,bw,bv]⟩,[])]
def Gj (ρ:Type):ä ρ:=⟨[1,3],147,0,Gl,fun(p:Val (tyL Gl.cs)) (v:Val tI) b a=>yf p.1 p.2.1 p.2.2.2.2.2.2.2.2.2.1 p.2.2.2.2.2.2.2.2.2.2.1 v (fun c=>b c) (a 0) (a 1)⟩
def YB:List (Nat×å):=[(116,mB)]
def VW (ρ:Type):List (ä ρ):=[Gj ρ]
def Ig (ρ:Type):Env ρ:=ì YB (VW ρ)
def JI:å:=⟨[Ê,aq,tI],[tI],fun(x:Val bp)=>Ĝ x.1 x.2.1 x.2.2⟩
def pN:Ç:=Ls 2 [ac,tI,tI,tI,ae,aa,af,ac,aa,tI,tI,ab,ab,tI,tI,tI,tI] [tI] ⟨19,.con ac::.fn 144 [(1,0)]::aN 5 [.con tI,.var tI],[bt,bz]⟩ [(.ret,⟨19,[.con ac,.fn 144 [(1,0)],.any,.any,.var tI,.any,.any,.con tI],[bt,bz]⟩,[tI]),(.exit 0,⟨19,.con ac::.fn 144 [(1,0)]::aN 5 [.con tI],[bt,bz]⟩,[])]
def pM (ρ:Type):ä ρ:=⟨[4,5,1,2],115,0,pN,fun(p:Val (tyL pN.cs)) (v:Val tI) b a=>ji p.1 p.2.1 p.2.2.2.2.2.2.2.2.2.1 v (fun c=>b c) (a 0) (a 1)⟩
def pJ:Ç:=Ls 0 [aq,ab,tI,tI,tI,ab,tI,tI,tI,ae,aa,af,ac,aa,tI,tI,ab,ab,tI,tI,tI,tI,ab] [tI] ⟨140,.any::.con aq::.any::.box 0 0::aN 3 (.box 1 0::.con ab::.any::.con tI::aN 65 [.own 2,.con tI,.con tI,.any,.any,.any,.con ab,.con tI,.var tI]),b8⟩ [(.ret,⟨140,.any::.con aq::.any::.box 0 0::aN 2 (.var tI::.box 1 0::.con ab::.any::.con tI::aN 65 [.own 2,.con tI,.con tI,.any,.any,.any,.con ab,.con tI]),b8⟩,[tI]),(.exit 2,⟨140,.any::.con aq::.any::.box 0 0::aN 3 (.box 1 0::.con ab::.any::.con tI::aN 65 [.own 2,.con tI,.con tI,.any,.any,.any,.con ab,.con tI]),b8⟩,[])]
def pI (ρ:Type):ä ρ:=⟨[],105,2,pJ,fun(p:Val (tyL pJ.cs)) (v:Val tI) b a=>let A:=p.2.2.2.2.2;jh p.1 p.2.2.1 A.1 A.2.1 A.2.2.2.2.2.2.2.2.2.2.1 v (fun c=>b c) (a 0) (a 1)⟩
def pL:Ç:=Ls 0 [aq,ab,tI,tI,tI,ae,aa,af,ac,aa,tI,tI,ab,ab,tI,tI,tI,tI,ab] [tI] ⟨140,.any::.con aq::.any::.box 0 0::aN 3 (.box 1 0::.con ab::aN 67 [.own 2,.con tI,.var tI]),b8⟩ [(.ret,⟨140,.any::.con aq::.any::.box 0 0::aN 2 (.var tI::.box 1 0::.con ab::aN 67 [.own 2,.con tI]),b8⟩,[tI]),(.exit 0,⟨140,.any::.con aq::.any::.box 0 0::aN 3 (.box 1 0::.con ab::aN 67 [.own 2,.con tI]),b8⟩,[])]
def pK (ρ:Type):ä ρ:=⟨[],105,0,pL,fun(p:Val (tyL pL.cs)) (v:Val tI) b a=>Ŧ p.1 p.2.1 p.2.2.1 p.2.2.2.2.2.2.2.2.2.2.2.1 p.2.2.2.2.2.2.2.2.2.2.2.2.2.2.2.2.2.2 v (fun c=>b c) (a 0) (a 1)⟩
def pH:Ç:=Ls 0 [ab,tI,tI,tI,ae,aa,af,ac,aa,tI,tI,ab,ab,tI,tI,tI,tI] [tI] ⟨140,aN 3 (.box 0 0::aN 3 (.box 1 0::aN 90 [.con ab,.con tI,.var tI])),[bt,bz]⟩ [(.ret,⟨140,aN 3 (.box 0 0::aN 2 (.var tI::.box 1 0::aN 90 [.con ab,.con tI])),[bt,bz]⟩,[tI]),(.exit 4,⟨140,aN 3 (.box 0 0::aN 3 (.box 1 0::aN 90 [.con ab,.con tI])),[bt,bz]⟩,[])]
def pG (ρ:Type):ä ρ:=⟨[],105,4,pH,fun(p:Val (tyL pH.cs)) (v:Val tI) b a=>let A:=p.2.2.2.2;ť p.1 p.2.1 p.2.2.1 p.2.2.2.1 A.1 A.2.1 A.2.2.1 A.2.2.2.1 A.2.2.2.2.1 A.2.2.2.2.2.2.1 v (fun c=>b c) (a 0) (a 1)⟩
def D9:List (Nat×å):=[(39,jI),(51,vE),(73,HB),(74,EV),(101,zB),(102,oU),(108,Rr),(116,mB)]
def Ck (ρ:Type):List (ä ρ):=[pM ρ,pI ρ,pK ρ,pG ρ]
def Ŵ (ρ:Type):Env ρ:=ì D9 (Ck ρ)
def pd:å:=⟨[Ê],[tI],fun(x:Val Ê)=>Ř x⟩
def UF:å:=⟨[ab],[(.pair tI (.pair tI Ĥ))],fun(x:Val ab)=>GJ x⟩
def Lr:å:=⟨[Ê,tI,ab],[tI],fun(x:Val (.pair Ê Ŋ))=>A2 x.1 x.2.1 x.2.2⟩
def Da:Ç:=Ls 1 [ab,tI,tI,tI,ae,aa,af,ac,aa] [tI] ⟨19,.con ab::.fn 146 []::aN 5 [.con tI,.var tI],[bt]⟩ [(.ret,⟨19,[.con ab,.fn 146 [],.any,.any,.var tI,.any,.any,.con tI],[bt]⟩,[tI]),(.exit 0,⟨19,.con ab::.fn 146 []::aN 5 [.con tI],[bt]⟩,[])]
def C9 (ρ:Type):ä ρ:=⟨[4,1,1,2],109,0,Da,fun(p:Val (tyL Da.cs)) (v:Val tI) b a=>ug p.1 p.2.1 v (fun c=>b c) (a 0) (a 1)⟩
def VY:List (Nat×å):=[(22,pd),(53,rC),(101,zB)]
def S7 (ρ:Type):List (ä ρ):=[C9 ρ]
def Ea (ρ:Type):Env ρ:=ì VY (S7 ρ)
def ZX:å:=⟨[Ê,tI,tI],[.bool,tI],fun(x:Val aM)=>BL x.1 x.2.1 x.2.2⟩
def YE:List (Nat×å):=[(107,Lr),(108,Rr)]
def V8 (ρ:Type):List (ä ρ):=[]
def Qr (ρ:Type):Env ρ:=ì YE (V8 ρ)
def UH:å:=⟨[Ê,ai,tI],[tI],fun(x:Val (.pair Ê (.pair ai tI)))=>GN x.1 x.2.1 x.2.2⟩
def CI:Ç:=Ls 0 [ai,tI,tI,tI,ae,aa,af,ac,aa,tI,ab] [tI] ⟨104,[.any,.con ai,.con tI,.box 0 0,.any,.any,.any,.box 1 0,.var tI],[bt,bB]⟩ [(.ret,⟨104,[.any,.con ai,.con tI,.box 0 0,.any,.any,.var tI,.box 1 0],[bt,bB]⟩,[tI]),(.exit 0,⟨104,[.any,.con ai,.con tI,.box 0 0,.any,.any,.any,.box 1 0],[bt,bB]⟩,[])]
def CH (ρ:Type):ä ρ:=⟨[],23,0,CI,fun(p:Val (tyL CI.cs)) (v:Val tI) b a=>pm p.2.2.2.2.2.2.2.2.2.2 v (fun c=>b c) (a 0) (a 1)⟩
def CG:Ç:=Ls 0 [ai,tI,ae,tI,tI,tI,ae,aa,af,ac,aa,tI,ab] [tI,bc] ⟨104,.any::.con ai::.con tI::.box 0 0::aN 3 (.box 1 0::.any::.box 2 0::aN 50 [.con ae,.con tI,.var tI]),[bt,bB,bC,.mapv tI tI]⟩ [(.exit 2,⟨104,.any::.con ai::.con tI::.box 0 0::aN 3 (.box 1 0::.any::.box 2 0::aN 50 [.con ae,.con tI]),[bt,bB,bC,.mapv tI tI]⟩,[bc])]
def CF (ρ:Type):ä ρ:=⟨[],23,2,CG,fun(p:Val (tyL CG.cs)) (v:Val (.pair tI bc)) a b=>pl p.2.2.1 p.2.2.2.1 v.1 v.2 (fun c d=>a (c,d)) (b 0)⟩
def OI:Ç:=Ls 4 [ab,tI,tI,tI,ae,aa,af,ac,aa,tI,ab,bc] [tI] ⟨19,.con ab::.fn 56 [(2,0)]::aN 5 [.con tI,.var tI],b9⟩ [(.ret,⟨19,[.con ab,.fn 56 [(2,0)],.any,.any,.var tI,.any,.any,.con tI],b9⟩,[tI]),(.exit 0,⟨19,.con ab::.fn 56 [(2,0)]::aN 5 [.con tI],b9⟩,[])]
def CE (ρ:Type):ä ρ:=⟨[18,3,1,2],109,0,OI,fun(p:Val aH) (v:Val tI) b a=>pk p.1 p.2.1 p.2.2.2.2.2.2.2.2.2.2.2 v (fun c=>b c) (a 0) (a 1)⟩
def OH:Ç:=Ls 4 [ab,tI,tI,tI,ae,aa,af,ac,aa,tI,ab,bc] [tI] ⟨19,.con ab::.fn 57 [(1,0),(2,0)]::aN 5 [.con tI,.var tI],b9⟩ [(.ret,⟨19,[.con ab,.fn 57 [(1,0),(2,0)],.any,.any,.var tI,.any,.any,.con tI],b9⟩,[tI]),(.exit 0,⟨19,.con ab::.fn 57 [(1,0),(2,0)]::aN 5 [.con tI],b9⟩,[])]
def CD (ρ:Type):ä ρ:=⟨[20,3,1,2],109,0,OH,fun(p:Val aH) (v:Val tI) b a=>mO p.1 p.2.1 p.2.2.2.2.2.2.2.2.2.1 p.2.2.2.2.2.2.2.2.2.2.2 v (fun c=>b c) (a 0) (a 1)⟩
def OG:Ç:=Ls 4 [ab,tI,tI,tI,ae,aa,af,ac,aa,tI,ab,bc] [tI] ⟨19,.con ab::.fn 58 [(0,0),(1,0)]::aN 5 [.con tI,.var tI],b9⟩ [(.ret,⟨19,[.con ab,.fn 58 [(0,0),(1,0)],.any,.any,.var tI,.any,.any,.con tI],b9⟩,[tI]),(.exit 0,⟨19,.con ab::.fn 58 [(0,0),(1,0)]::aN 5 [.con tI],b9⟩,[])]
def CC (ρ:Type):ä ρ:=⟨[24,3,1,2],109,0,OG,fun(p:Val aH) (v:Val tI) b a=>let A:=p.2.2.2.2;Ş p.1 p.2.1 p.2.2.1 p.2.2.2.1 A.1 A.2.1 A.2.2.1 A.2.2.2.1 A.2.2.2.2.1 A.2.2.2.2.2.1 v (fun c=>b c) (a 0) (a 1)⟩
def Ve:List (Nat×å):=[(59,ZX)]
def RL (ρ:Type):List (ä ρ):=[CH ρ,CF ρ,CE ρ,CD ρ,CC ρ]
def mn (ρ:Type):Env ρ:=ì Ve (RL ρ)
def lB:å:=⟨[Â],[tI],fun(x:Val Â)=>Ω x⟩
def O1:Ç:=Ls 0 [ai,tI,tI,tI,tI,tI,ae,aa,af,ac,aa,ai] [tI,tI] ⟨50,.any::.box 0 0::aN 2 (.var tI::aN 15 (.con ai::.con tI::.con tI::aN 15 [.con tI,.var tI])),[bD]⟩ [(.exit 2,⟨50,.any::.box 0 0::aN 2 (.var tI::aN 15 (.con ai::.con tI::.con tI::aN 15 [.con tI])),[bD]⟩,[tI])]
def CN (ρ:Type):ä ρ:=⟨[],4,2,O1,fun(p:Val (.pair ai bn)) (v:Val Ã) a b=>pn p.2.2.2.1 v.1 v.2 (fun c d=>a (c,d)) (b 0)⟩
def O2:Ç:=Ls 0 [ai,tI,tI,tI,ae,aa,af,ac,aa,ai] [tI,tI] ⟨50,.any::.box 0 0::aN 2 (.var tI::aN 15 [.con ai,.con tI,.var tI]),[bD]⟩ [(.ret,⟨50,.any::.box 0 0::.var tI::aN 17 [.con ai,.con tI],[bD]⟩,[tI]),(.exit 0,⟨50,.any::.box 0 0::aN 2 (.var tI::aN 15 [.con ai,.con tI]),[bD]⟩,[tI])]
def CO (ρ:Type):ä ρ:=⟨[],4,0,O2,fun(p:Val (.pair ai aG)) (v:Val Ã) b a=>let A:=p.2.2.2.2;tQ p.1 p.2.1 p.2.2.1 p.2.2.2.1 A.1 A.2.1 A.2.2.1 A.2.2.2.1 A.2.2.2.2.1 A.2.2.2.2.2 v.1 v.2 (fun c d=>b (c,d)) (a 0) (a 1)⟩
def Vn:List (Nat×å):=[(22,pd),(23,UH)]
def Sa (ρ:Type):List (ä ρ):=[CN ρ,CO ρ]
def xG (ρ:Type):Env ρ:=ì Vn (Sa ρ)
def qk:å:=⟨[ai,ah],[.bool],fun(x:Val (.pair ai ah))=>Ź x.1 x.2⟩
def uM:Ç:=Ls 0 [ai,ah] [tI] ⟨36,[.con ai,.con ah,.any,.any,.any,.var tI],[]⟩ [(.ret,⟨36,[.con ai,.con ah,.any,.any,.var .bool],[]⟩,[.bool]),(.exit 0,⟨36,[.con ai,.con ah],[]⟩,[])]
def lF (ρ:Type):ä ρ:=⟨[],5,0,uM,fun(p:Val (.pair ai ah)) (v:Val tI) b a=>Ĭ p.1 p.2 v (fun c=>b c) (a 0) (a 1)⟩
def xj:List (Nat×å):=[]
def vM (ρ:Type):List (ä ρ):=[lF ρ]
def jC (ρ:Type):Env ρ:=ì xj (vM ρ)
def Lj:å:=⟨[Â,tI,tI],[tI],fun(x:Val (.pair Â Ã))=>AU x.1 x.2.1 x.2.2⟩
def CA:Ç:=Ls 2 [ae,tI,tI,tI,ae,aa,af,ac,aa,ai,tI] [tI] ⟨19,.con ae::.fn 69 [(1,0)]::aN 5 [.con tI,.var tI],[bD,bw]⟩ [(.ret,⟨19,[.con ae,.fn 69 [(1,0)],.any,.any,.var tI,.any,.any,.con tI],[bD,bw]⟩,[tI]),(.exit 0,⟨19,.con ae::.fn 69 [(1,0)]::aN 5 [.con tI],[bD,bw]⟩,[])]
def Cz (ρ:Type):ä ρ:=⟨[3,4,1,2],114,0,CA,fun(p:Val (tyL CA.cs)) (v:Val tI) b a=>tD p.1 p.2.1 p.2.2.2.2.2.2.2.2.2.2 v (fun c=>b c) (a 0) (a 1)⟩
def Vc:List (Nat×å):=[]
def RH (ρ:Type):List (ä ρ):=[Cz ρ]
def DK (ρ:Type):Env ρ:=ì Vc (RH ρ)
def Li:å:=⟨[Â,ah,tI,tI],[tI],fun(x:Val (.pair Â (.pair ah Ã)))=>vr x.1 x.2.1 x.2.2.1 x.2.2.2⟩
def U8:Ç:=Ls 0 [ah,tI,tI,tI,ae,aa,af,ac,aa,ai] [tI,tI] ⟨47,.any::.con ah::.var tI::.con tI::.box 0 0::aN 4 [.var tI],[bD]⟩ [(.exit 0,⟨47,[.any,.con ah,.var tI,.con tI,.box 0 0],[bD]⟩,[tI])]
def Jd (ρ:Type):ä ρ:=⟨[],45,0,U8,fun(p:Val (.pair ah aG)) (v:Val Ã) a b=>Bp p.1 p.2.1 p.2.2.2.2.2.2.2.2.2 v.1 v.2 (fun c d=>a (c,d)) (b 0)⟩
def abB:List (Nat×å):=[(75,ot)]
def X3 (ρ:Type):List (ä ρ):=[Jd ρ]
def LG (ρ:Type):Env ρ:=ì abB (X3 ρ)
def zz:å:=⟨[ab,tI,ax,aI],[ab],fun(x:Val (.pair ab (.pair tI (.pair ax aI))))=>j8 x.1 x.2.1 x.2.2.1 x.2.2.2⟩
def qn:Ç:=Ls 0 [tI,ax,aI,ab,tI] [tI,ab] ⟨28,[.any,.con tI,.con ax,.con aI,.any,.any,.any,.own 0,.any,.any,.con ab,.con tI,.var tI],[.rowv tI]⟩ [(.exit 0,⟨28,[.any,.con tI,.con ax,.con aI,.any,.any,.any,.own 0,.any,.any,.con ab,.con tI],[.rowv tI]⟩,[ab])]
def qm (ρ:Type):ä ρ:=⟨[],84,0,qn,fun(p:Val (tyL qn.cs)) (v:Val Ŋ) a b=>jJ p.1 p.2.1 p.2.2.1 p.2.2.2.1 p.2.2.2.2 v.1 v.2 (fun c d=>a (c,d)) (b 0)⟩
def E6:List (Nat×å):=[(45,Li)]
def DE (ρ:Type):List (ä ρ):=[qm ρ]
def ox (ρ:Type):Env ρ:=ì E6 (DE ρ)
def qt:å:=⟨[Â,ah],[Ê],fun(x:Val aJ)=>ky x.1 x.2⟩
def tC:Ç:=Ls 0 [ax,aI,ax,aI,aa,tI,tI,tI,tI,tI,ae,aa,af,ac,aa,tI,tI,ae] [tI,aa] ⟨123,aN 2 (.con ax::.con aI::.box 0 0::.box 1 0::.box 2 0::.fnd 84 [Â,ah]::aN 18 [.con aa,.con tI,.var tI]),[bE,bt,bG,.rowc Ù,.rowv Ã]⟩ [(.exit 0,⟨123,aN 2 (.con ax::.con aI::.box 0 0::.box 1 0::.box 2 0::.fnd 84 [Â,ah]::aN 18 [.con aa,.con tI]),[bE,bt,bG,.rowc Ù,.rowv Ã]⟩,[aa])]
def tB (ρ:Type):ä ρ:=⟨[],42,0,tC,fun(p:Val (tyL tC.cs)) (v:Val aW) a b=>l6 p.1 p.2.1 p.2.2.2.2.1 p.2.2.2.2.2.1 v.1 v.2 (fun c d=>a (c,d)) (b 0)⟩
def tz:Ç:=Ls 0 [ax,aI,ax,aI,af,tI,tI,tI,tI,tI,ae,aa,af,ac,aa,tI,tI,ae,aa] [tI,af] ⟨123,aN 2 (.con ax::.con aI::.box 0 0::.box 1 0::.box 2 0::.fnd 84 [Â,ah]::aN 41 [.con af,.con tI,.var tI]),ca⟩ [(.exit 2,⟨123,aN 2 (.con ax::.con aI::.box 0 0::.box 1 0::.box 2 0::.fnd 84 [Â,ah]::aN 41 [.con af,.con tI]),ca⟩,[af])]
def tx (ρ:Type):ä ρ:=⟨[],42,2,tz,fun(p:Val (tyL tz.cs)) (v:Val (.pair tI af)) a b=>l5 p.1 p.2.1 p.2.2.2.2.1 p.2.2.2.2.2.1 v.1 v.2 (fun c d=>a (c,d)) (b 0)⟩
def tv:Ç:=Ls 0 [ax,aI,ax,aI,ac,tI,tI,tI,tI,tI,ae,aa,af,ac,aa,tI,tI,ae,aa,af] [tI,ac] ⟨123,aN 2 (.con ax::.con aI::.box 0 0::.box 1 0::.box 2 0::.fnd 84 [Â,ah]::aN 64 [.con ac,.con tI,.var tI]),cd⟩ [(.exit 4,⟨123,aN 2 (.con ax::.con aI::.box 0 0::.box 1 0::.box 2 0::.fnd 84 [Â,ah]::aN 64 [.con ac,.con tI]),cd⟩,[ac])]
def tr (ρ:Type):ä ρ:=⟨[],42,4,tv,fun(p:Val (tyL tv.cs)) (v:Val aU) a b=>lZ p.2.2.1 p.2.2.2.1 p.2.2.2.2.1 p.2.2.2.2.2.1 v.1 v.2 (fun c d=>a (c,d)) (b 0)⟩
def tq:Ç:=Ls 0 [ax,aI,aa,tI,tI,tI,tI,tI,ae,aa,af,ac] [tI,aa] ⟨123,aN 2 (.con ax::.con aI::.box 0 0::.any::.box 1 0::aN 93 [.con aa,.con tI,.var tI]),ce⟩ [(.exit 6,⟨123,aN 2 (.con ax::.con aI::.box 0 0::.any::.box 1 0::aN 93 [.con aa,.con tI]),ce⟩,[aa])]
def tp (ρ:Type):ä ρ:=⟨[],42,6,tq,fun(p:Val (tyL tq.cs)) (v:Val aW) a b=>lY p.1 p.2.1 p.2.2.1 p.2.2.2.1 v.1 v.2 (fun c d=>a (c,d)) (b 0)⟩
def JM:List (Nat×å):=[(45,Li),(84,zz)]
def vV (ρ:Type):List (ä ρ):=[tB ρ,tx ρ,tr ρ,tp ρ]
def Μ (ρ:Type):Env ρ:={ì JM (vV ρ) with hint:=Np [(78,84),(84,84)]}
def Ro:å:=⟨[Ê,Ù,tI,tI],[tI],fun(x:Val (.pair Ê (.pair Ù Ã)))=>uw x.1 x.2.1 x.2.2.1 x.2.2.2⟩
def F9:Ç:=Ls 0 [tI,tI,af,tI,tI,tI,ae,aa,af,ac,aa,tI,tI,tI,tI,tI,tI,tI,tI] [tI,tI] ⟨88,aN 2 (.con tI::.con tI::.box 0 0::.box 1 0::aN 3 (.var tI::aN 7 [.con af,.con tI,.var tI])),[bt,bu]⟩ [(.exit 0,⟨88,aN 2 (.con tI::.con tI::.box 0 0::.box 1 0::aN 3 (.var tI::aN 7 [.con af,.con tI])),[bt,bu]⟩,[tI])]
def F8 (ρ:Type):ä ρ:=⟨[],113,0,F9,fun(p:Val (tyL F9.cs)) (v:Val Ã) a b=>ya p.1 p.2.1 p.2.2.1 p.2.2.2.1 p.2.2.2.2.2.2.2.2.2.2.2.1 v.1 v.2 (fun c d=>a (c,d)) (b 0)⟩
def F7:Ç:=Ls 0 [tI,tI,tI,aa,tI,tI,tI,tI,tI,tI,tI,tI,tI] [tI,ab] ⟨88,aN 2 (.con tI::.con tI::.any::.box 0 0::aN 3 (.con tI::aN 3 (.own 1::aN 39 [.con aa,.con tI,.var tI]))),[bu,.rowv tI]⟩ [(.exit 2,⟨88,aN 2 (.con tI::.con tI::.any::.box 0 0::aN 3 (.con tI::aN 3 (.own 1::aN 39 [.con aa,.con tI]))),[bu,.rowv tI]⟩,[ab])]
def F6 (ρ:Type):ä ρ:=⟨[],113,2,F7,fun(p:Val (tyL F7.cs)) (v:Val Ŋ) a b=>xZ p.1 p.2.1 p.2.2.2.1 p.2.2.2.2.1 p.2.2.2.2.2.1 v.1 v.2 (fun c d=>a (c,d)) (b 0)⟩
def Yy:List (Nat×å):=[(116,mB)]
def VN (ρ:Type):List (ä ρ):=[F8 ρ,F6 ρ]
def Bv (ρ:Type):Env ρ:=ì Yy (VN ρ)
def Λ:å:=⟨[aa,Ã],[tI],fun(x:Val (.pair aa Ã))=>û x.1 x.2⟩
def nX:Ç:=Ls 0 [aa,tI,tI,tI] [tI] ⟨19,[.con aa,.any,.any,.box 0 0,.any,.any,.any,.con tI,.var tI],[bK]⟩ [(.ret,⟨19,[.con aa,.any,.any,.box 0 0,.var tI,.any,.any,.con tI],[bK]⟩,[tI]),(.exit 0,⟨19,[.con aa,.any,.any,.box 0 0,.any,.any,.any,.con tI],[bK]⟩,[])]
def iA (ρ:Type):ä ρ:=⟨[],131,0,nX,fun(p:Val (.pair aa Ĥ)) (v:Val tI) b a=>Ĵ p.1 p.2.1 p.2.2.1 p.2.2.2 v (fun c=>b c) (a 0) (a 1)⟩
def pC:List (Nat×å):=[]
def oF (ρ:Type):List (ä ρ):=[iA ρ]
def Ŷ (ρ:Type):Env ρ:=ì pC (oF ρ)
def Jb:å:=⟨[aY,ab,tI],[tI],fun(x:Val (.pair aY aD))=>mS x.1 x.2.1 x.2.2⟩
def MY:List (Nat×å):=[(131,Λ)]
def Kb (ρ:Type):List (ä ρ):=[]
def C8 (ρ:Type):Env ρ:=ì MY (Kb ρ)
def yB:å:=⟨[aq,ab],[Ã],fun(x:Val (.pair aq ab))=>jt x.1 x.2⟩
def D2:List (Nat×å):=[]
def Ci (ρ:Type):List (ä ρ):=[]
def tX (ρ:Type):Env ρ:=ì D2 (Ci ρ)
def vC:å:=⟨[aa],[tI],fun(x:Val aa)=>lS x⟩
def Pb:Ç:=Ls 0 [aa,tI] [tI] ⟨15,aN 5 [.con aa,.con tI,.var tI],[]⟩ [(.ret,⟨15,[.any,.any,.var tI,.any,.any,.con aa,.con tI],[]⟩,[tI]),(.exit 0,⟨15,aN 5 [.con aa,.con tI],[]⟩,[])]
def C3 (ρ:Type):ä ρ:=⟨[],194,0,Pb,fun(p:Val bi) (v:Val tI) b a=>tW p.1 p.2 v (fun c=>b c) (a 0) (a 1)⟩
def Vv:List (Nat×å):=[(138,ER)]
def Su (ρ:Type):List (ä ρ):=[C3 ρ]
def DU (ρ:Type):Env ρ:=ì Vv (Su ρ)
def Dv:å:=⟨[tI,tI],[Ã,tI],fun(x:Val Ã)=>sn x.1 x.2⟩
def Pc:List (Nat×å):=[(173,Rn),(174,XQ)]
def MH (ρ:Type):List (ä ρ):=[]
def FR (ρ:Type):Env ρ:=ì Pc (MH ρ)
def adg:å:=⟨[Ã,Ã],[Ã,tI],fun(x:Val Ę)=>TA x.1 x.2⟩
def abF:List (Nat×å):=[(194,vC),(201,Dv)]
def Yp (ρ:Type):List (ä ρ):=[]
def VC (ρ:Type):Env ρ:=ì abF (Yp ρ)
def ET:å:=⟨[Ã,Ã],[Ã],fun(x:Val Ę)=>yl x.1 x.2⟩
def Ka:List (Nat×å):=[(197,adg)]
def H9 (ρ:Type):List (ä ρ):=[]
def AB (ρ:Type):Env ρ:=ì Ka (H9 ρ)
def XR:å:=⟨[Ã,Ã],[tI],fun(x:Val Ę)=>NH x.1 x.2⟩
def abE:List (Nat×å):=[]
def Ym (ρ:Type):List (ä ρ):=[]
def VA (ρ:Type):Env ρ:=ì abE (Ym ρ)
def Cy:å:=⟨[Ę],[.bool],fun(x:Val Ę)=>vt x⟩
def HZ:List (Nat×å):=[(194,vC),(206,XR)]
def FS (ρ:Type):List (ä ρ):=[]
def yH (ρ:Type):Env ρ:=ì HZ (FS ρ)
def adh:å:=⟨[Ã,Ã],[Ã,tI],fun(x:Val Ę)=>NJ x.1 x.2⟩
def abG:List (Nat×å):=[(194,vC),(201,Dv)]
def Ys (ρ:Type):List (ä ρ):=[]
def VE (ρ:Type):Env ρ:=ì abG (Ys ρ)
def UO:å:=⟨[Ę,Ã],[Ę,tI],fun(x:Val (.pair Ę Ã))=>NI x.1 x.2⟩
def Jn:List (Nat×å):=[(138,ER),(202,Cy),(205,adh),(206,XR)]
def xR (ρ:Type):List (ä ρ):=[]
def Jm:List ahb:=[⟨[3,2],203,0,4⟩]
def VD (ρ:Type):Env ρ:=ì Jn (xR ρ)
def DX (ρ:Type):Env ρ:=mkEnvU Jn (xR ρ) Jm
def ES:å:=⟨[Ã,Ã],[Ę],fun(x:Val Ę)=>qG x.1 x.2⟩
def J9:List (Nat×å):=[(198,UO)]
def H7 (ρ:Type):List (ä ρ):=[]
def AA (ρ:Type):Env ρ:=ì J9 (H7 ρ)
def P2:å:=⟨[Ê,Þ],[Ę],fun(x:Val bg)=>wP x.1 x.2⟩
def SW:List (Nat×å):=[(53,rC),(74,EV),(191,yB),(192,ET),(193,ES)]
def Pv (ρ:Type):List (ä ρ):=[]
def Jq (ρ:Type):Env ρ:=ì SW (Pv ρ)
def UQ:å:=⟨[Ê,Þ],[Ã],fun(x:Val bg)=>A0 x.1 x.2⟩
def VT:List (Nat×å):=[]
def SX (ρ:Type):List (ä ρ):=[]
def M7 (ρ:Type):Env ρ:=ì VT (SX ρ)
def Ln:å:=⟨[tI,tI],[tI],fun(x:Val Ã)=>AZ x.1 x.2⟩
def Vz:List (Nat×å):=[]
def Sy (ρ:Type):List (ä ρ):=[]
def MK (ρ:Type):Env ρ:=ì Vz (Sy ρ)
def UP:å:=⟨[Ã],[tI,tI],fun(x:Val Ã)=>GU x⟩
def VF:List (Nat×å):=[(194,vC),(195,Ln)]
def SF (ρ:Type):List (ä ρ):=[]
def MP (ρ:Type):Env ρ:=ì VF (SF ρ)
def ZT:å:=⟨[Ã],[tI,tI],fun(x:Val Ã)=>KL x⟩
def Yv:List (Nat×å):=[(194,vC),(195,Ln)]
def VG (ρ:Type):List (ä ρ):=[]
def Qo (ρ:Type):Env ρ:=ì Yv (VG ρ)
def ZU:å:=⟨[Ê,Þ],[Ã],fun(x:Val bg)=>BK x.1 x.2⟩
def Yw:List (Nat×å):=[(178,P2),(179,UQ),(180,UP),(181,ZT)]
def VI (ρ:Type):List (ä ρ):=[]
def Qp (ρ:Type):Env ρ:=ì Yw (VI ρ)
def ZV:å:=⟨[Ê],[aY],fun(x:Val Ê)=>KM x⟩
def F3:Ç:=Ls 2 [tI,ab,tI,ae,tI,tI,tI,tI,ae,aa,af,ac,aa,tI,tI,ae,aa,af,ac,aa,aa,tI,tI,tI,tI,tI,tI,tI,tI,tI] [tI,ak,aa] ⟨144,.box 1 0::.any::.con tI::.box 2 0::.con ab::.con tI::.var tI::aN 24 [.con ae,.con tI,.con tI],[bt,bL,bu,.rowv Ĥ,.rowv Ã]⟩ [(.exit 2,⟨144,.box 1 0::.any::.con tI::.box 2 0::.con ab::.con tI::aN 25 [.con ae,.con tI,.con tI],[bt,bL,bu,.rowv Ĥ,.rowv Ã]⟩,[ak,aa])]
def F0 (ρ:Type):ä ρ:=⟨[2,1],125,2,F3,fun(p:Val (tyL F3.cs)) (v:Val bf) a b=>let A:=p.2.2.2.2.2.2.2.2.2.2.2.2.2;let B:=A.2.2.2.2;let C:=B.2.2.2.2.2;let D:=C.2.2.2.2;xX p.1 p.2.1 p.2.2.1 A.1 A.2.1 A.2.2.1 A.2.2.2.1 B.1 B.2.1 B.2.2.1 C.1 C.2.1 C.2.2.1 C.2.2.2.1 D.1 D.2.1 D.2.2.1 D.2.2.2 v.1 v.2.1 v.2.2 (fun c d e=>a (c,d,e)) (b 0)⟩
def F5:Ç:=Ls 2 [ae,tI,tI,tI,ae,aa,af,ac,aa,tI,tI,ae,aa,af,ac,aa,aa,tI] [tI,ak,aa] ⟨144,.box 1 0::aN 30 [.con ae,.con tI,.var tI],cf⟩ [(.exit 0,⟨144,.box 1 0::aN 30 [.con ae,.con tI],cf⟩,[ak,aa])]
def F4 (ρ:Type):ä ρ:=⟨[2,1],125,0,F5,fun(p:Val (tyL F5.cs)) (v:Val bf) a b=>let A:=p.2.2.2.2.2.2.2.2.2;let B:=A.2.2.2.2;xY p.1 p.2.1 A.1 A.2.1 A.2.2.1 A.2.2.2.1 B.1 B.2.1 B.2.2.1 B.2.2.2.1 B.2.2.2.2 v.1 v.2.1 v.2.2 (fun c d e=>a (c,d,e)) (b 0)⟩
def FZ:Ç:=Ls 2 [ac,tI,tI,tI,ae,aa,af,ac,aa,tI,tI,ae,aa,af,ac,aa,aa,tI] [tI,ak,aa] ⟨144,.box 1 0::aN 107 [.con ac,.con tI,.var tI],cf⟩ [(.exit 4,⟨144,.box 1 0::aN 107 [.con ac,.con tI],cf⟩,[ak,aa])]
def FY (ρ:Type):ä ρ:=⟨[2,1],125,4,FZ,fun(p:Val (tyL FZ.cs)) (v:Val bf) a b=>let A:=p.2.2.2.2.2.2.2.2.2;let B:=A.2.2.2.2;xW p.1 p.2.1 A.1 A.2.1 A.2.2.1 A.2.2.2.1 B.1 B.2.1 B.2.2.1 B.2.2.2.1 B.2.2.2.2 v.1 v.2.1 v.2.2 (fun c d e=>a (c,d,e)) (b 0)⟩
def Yx:List (Nat×å):=[(55,EU),(74,EV),(106,Rp),(113,Ro),(154,Jb),(156,ZU)]
def VL (ρ:Type):List (ä ρ):=[F0 ρ,F4 ρ,FY ρ]
def wB (ρ:Type):Env ρ:=ì Yx (VL ρ)
def vF:å:=⟨[Ê],[Ö,aa,tI],fun(x:Val Ê)=>iX x⟩
def S9:List (Nat×å):=[(22,pd),(82,ZV)]
def PA (ρ:Type):List (ä ρ):=[]
def Jr (ρ:Type):Env ρ:=ì S9 (PA ρ)
def Rm:å:=⟨[Ö,tI],[.bool],fun(x:Val (.pair Ö tI))=>BJ x.1 x.2⟩
def Yd:List (Nat×å):=[]
def Vo (ρ:Type):List (ä ρ):=[]
def Qf (ρ:Type):Env ρ:=ì Yd (Vo ρ)
def EQ:å:=⟨[Ö],[tI,tI],fun(x:Val Ö)=>wN x⟩
def Pa:Ç:=Ls 0 [ak,tI,tI,ak] [tI] ⟨57,.any::.box 0 0::aN 17 [.con ak,.con tI,.var tI],[bN]⟩ [(.ret,⟨57,.any::.box 0 0::.var tI::.var tI::aN 15 [.con ak,.con tI],[bN]⟩,[tI,tI]),(.exit 0,⟨57,.any::.box 0 0::aN 17 [.con ak,.con tI],[bN]⟩,[])]
def C2 (ρ:Type):ä ρ:=⟨[],86,0,Pa,fun(p:Val (.pair ak aZ)) (v:Val tI) b a=>tV p.1 p.2.1 p.2.2.1 p.2.2.2 v (fun c=>b c) (a 0) (a 1)⟩
def Vt:List (Nat×å):=[(128,Rm)]
def Sn (ρ:Type):List (ä ρ):=[C2 ρ]
def DT (ρ:Type):Env ρ:=ì Vt (Sn ρ)
def tc:å:=⟨[Ö,ar],[ab,.bool],fun(x:Val (.pair Ö ar))=>mR x.1 x.2⟩
def wz:Ç:=Ls 2 [ar,ak,tI,tI,ak,ab,tI,ak,aw,ab] [tI,tI] ⟨140,.any::.con ar::.own 1::.box 2 0::aN 3 (.box 3 0::.own 4::.own 5::.var tI::aN 14 [.con ak,.con tI,.var tI]),[bN,.rowc tI,bN,.cells [.nils],.rowc .bool,.rowc tI]⟩ [(.exit 0,⟨140,.any::.con ar::.own 1::.box 2 0::aN 3 (.box 3 0::.own 4::.own 5::.var tI::aN 14 [.con ak,.con tI]),[bN,.rowc tI,bN,.cells [.nils],.rowc .bool,.rowc tI]⟩,[tI])]
def wy (ρ:Type):ä ρ:=⟨[2,3],129,0,wz,fun(p:Val (tyL wz.cs)) (v:Val Ã) a b=>iV p.2.1 p.2.2.1 v.1 v.2 (fun c d=>a (c,d)) (b 0)⟩
def wx:Ç:=Ls 2 [ar,tI,tI,tI,ak,ab,tI,ak,ab] [tI,aw,ab] ⟨140,.any::.con ar::.own 1::.box 2 0::aN 3 (.box 3 0::.own 4::.own 5::.con tI::aN 27 [.con tI,.var tI]),ci⟩ [(.exit 2,⟨140,.any::.con ar::.own 1::.box 2 0::aN 3 (.box 3 0::.own 4::.own 5::.con tI::aN 27 [.con tI]),ci⟩,[aw,ab])]
def ww (ρ:Type):ä ρ:=⟨[2,3],129,2,wx,fun(p:Val (tyL wx.cs)) (v:Val (.pair tI aQ)) a b=>ū p.2.2.1 p.2.2.2.2.2.1 v.1 v.2.1 v.2.2 (fun c d e=>a (c,d,e)) (b 0)⟩
def wt:Ç:=Ls 2 [ar,tI,tI,ak,tI,tI,ak,tI,ak,ab] [tI,ab,aw,ab] ⟨140,.any::.con ar::.own 1::.box 2 0::aN 3 (.box 3 0::.own 4::.own 5::.con tI::aN 3 (.con tI::aN 62 [.con ak,.con tI,.var tI])),cj⟩ [(.ret,⟨140,.any::.con ar::.own 1::.box 2 0::aN 2 (.var .bool::.box 3 0::.own 4::.own 5::.con tI::aN 3 (.con tI::aN 62 [.con ak,.con tI])),cj⟩,[.bool,ab,aw,ab]),(.exit 6,⟨140,.any::.con ar::.own 1::.box 2 0::aN 3 (.box 3 0::.own 4::.own 5::.con tI::aN 3 (.con tI::aN 62 [.con ak,.con tI])),cj⟩,[ab,aw,ab])]
def wq (ρ:Type):ä ρ:=⟨[2,3],129,6,wt,fun(p:Val (tyL wt.cs)) (v:Val (.pair tI (.pair ab aQ))) b a=>jZ p.1 p.2.1 p.2.2.1 p.2.2.2.1 p.2.2.2.2.1 v.1 v.2.1 v.2.2.1 v.2.2.2 (fun c d e f=>b (c,d,e,f)) (a 0) (a 1)⟩
def HV:Ç:=Ls 2 [ar,tI,tI,ak,tI,ak] [ab,aw,ab,ab] ⟨140,[.any,.con ar,.own 1,.box 2 0,.any,.any,.any,.box 3 0,.own 4,.own 5,.con tI],cm⟩ [(.ret,⟨140,[.any,.con ar,.own 1,.box 2 0,.any,.any,.var .bool,.box 3 0,.own 4,.own 5,.con tI],cm⟩,[.bool,ab,aw,ab,ab])]
def wu (ρ:Type):ä ρ:=⟨[2,3],129,4,HV,fun(p:Val (.pair ar bq)) (v:Val aR) a b=>ļ p.1 p.2.1 p.2.2.2.2.1 p.2.2.2.2.2 v.1 v.2.1 v.2.2.1 v.2.2.2 (fun c d e f=>a (c,d,e,f)) (b 0)⟩
def HU:Ç:=Ls 0 [tI,tI] [tI,ab] ⟨34,aN 6 (.own 0::.con tI::aN 13 [.con tI,.var tI]),[.rowv tI]⟩ [(.exit 0,⟨34,aN 6 (.own 0::.con tI::aN 13 [.con tI]),[.rowv tI]⟩,[ab])]
def wp (ρ:Type):ä ρ:=⟨[],87,0,HU,fun(p:Val Ã) (v:Val Ŋ) a b=>jY p.1 p.2 v.1 v.2 (fun c d=>a (c,d)) (b 0)⟩
def Mm:List (Nat×å):=[]
def J1 (ρ:Type):List (ä ρ):=[wy ρ,ww ρ,wq ρ,wu ρ,wp ρ]
def iw (ρ:Type):Env ρ:=ì Mm (J1 ρ)
def uG:å:=⟨[Ö],[.bool,tI],fun(x:Val Ö)=>jw x⟩
def HY:List (Nat×å):=[(86,EQ),(87,tc)]
def FO (ρ:Type):List (ä ρ):=[]
def yG (ρ:Type):Env ρ:=ì HY (FO ρ)
def ta:å:=⟨[Â,ah],[.bool],fun(x:Val aJ)=>j9 x.1 x.2⟩
def L8:List (Nat×å):=[(41,vF),(42,qt),(64,uG)]
def JQ (ρ:Type):List (ä ρ):=[]
def CJ (ρ:Type):Env ρ:=ì L8 (JQ ρ)
def Hx:å:=⟨[Â,ah],[tI],fun(x:Val aJ)=>Ĺ x.1 x.2⟩
def zL:Ç:=Ls 0 [tI,ah,tI,tI,ab,tI,tI,tI,ae,aa,af,ac,aa,ai] [tI,tI] ⟨40,aN 2 (.box 0 0::aN 2 (.var tI::.con tI::aN 3 (.con ah::.con tI::.con tI::aN 4 [.con ab,.con tI,.var tI]))),[bD]⟩ [(.exit 2,⟨40,aN 2 (.box 0 0::aN 2 (.var tI::.con tI::aN 3 (.con ah::.con tI::.con tI::aN 4 [.con ab,.con tI]))),[bD]⟩,[tI])]
def zK (ρ:Type):ä ρ:=⟨[],27,2,zL,fun(p:Val (tyL zL.cs)) (v:Val Ã) a b=>let A:=p.2.2.2.2;qv p.1 A.1 A.2.1 A.2.2.2.2.2.2.2.2.2 v.1 v.2 (fun c d=>a (c,d)) (b 0)⟩
def LH:Ç:=Ls 0 [ah,tI,tI,tI,ae,aa,af,ac,aa,ai] [tI,tI] ⟨40,aN 2 (.box 0 0::aN 2 (.var tI::aN 4 [.con ah,.con tI,.var tI])),[bD]⟩ [(.exit 0,⟨40,aN 2 (.box 0 0::aN 2 (.var tI::aN 4 [.con ah,.con tI])),[bD]⟩,[tI])]
def zM (ρ:Type):ä ρ:=⟨[],27,0,LH,fun(p:Val (.pair ah aG)) (v:Val Ã) a b=>qw p.1 p.2.1 p.2.2.2.2.2.2.2.2.2 v.1 v.2 (fun c d=>a (c,d)) (b 0)⟩
def RC:List (Nat×å):=[]
def Oq (ρ:Type):List (ä ρ):=[zK ρ,zM ρ]
def tk (ρ:Type):Env ρ:=ì RC (Oq ρ)
def zA:å:=⟨[tI],[.bool],fun(x:Val tI)=>nJ x⟩
def FU:List (Nat×å):=[]
def DY (ρ:Type):List (ä ρ):=[]
def wA (ρ:Type):Env ρ:=ì FU (DY ρ)
def vD:å:=⟨[tI,tI],[tI],fun(x:Val Ã)=>kD x.1 x.2⟩
def Ch:List (Nat×å):=[(124,zA)]
def Ay (ρ:Type):List (ä ρ):=[]
def sa (ρ:Type):Env ρ:=ì Ch (Ay ρ)
def Hy:å:=⟨[ah,ah,ax],[tI],fun(x:Val (.pair ah (.pair ah ax)))=>kv x.1 x.2.1 x.2.2⟩
def RD:List (Nat×å):=[(27,Hx),(81,vD)]
def Oy (ρ:Type):List (ä ρ):=[]
def Jf (ρ:Type):Env ρ:=ì RD (Oy ρ)
def ĉ:aco:=⟨ah,[tI,tI],80,Â,fun(xs:Val am) (x:Val Ã) (m:Val Â)=>í xs x.1 x.2 m⟩
def nq:Ç:=Ls 2 [tI,tI,tI,tI,tI,ae,aa,af,ac,aa,ai] [tI,am] ⟨53,.own 0::.con tI::.con tI::.fn 80 [(1,0)]::aN 4 [.con tI,.var tI],cn⟩ [(.exit 2,⟨53,.own 0::.con tI::.con tI::.fn 80 [(1,0)]::aN 4 [.con tI],cn⟩,[am])]
def ij (ρ:Type):ä ρ:=⟨[],152,2,nq,fun(p:Val bn) (v:Val aF) a b=>let A:=p.2.2.2.2;let B:=A.2.2.2.2;î p.1 p.2.2.2.1 A.1 A.2.1 A.2.2.1 A.2.2.2.1 B.1 B.2.1 B.2.2 v.1 v.2 (fun c d=>a (c,d)) (b 0)⟩
def nr:Ç:=Ls 2 [tI,tI,tI,tI,ae,aa,af,ac,aa,ai] [tI,am] ⟨53,.own 0::.con tI::.con tI::.fn 80 [(1,0)]::aN 4 [.var tI],cn⟩ [(.exit 0,⟨53,[.own 0,.con tI,.con tI,.fn 80 [(1,0)]],cn⟩,[am])]
def ik (ρ:Type):ä ρ:=⟨[],152,0,nr,fun(p:Val (.pair tI aG)) (v:Val aF) a b=>let A:=p.2.2.2.2;ē p.1 p.2.1 p.2.2.1 p.2.2.2.1 A.1 A.2.1 A.2.2.1 A.2.2.2.1 A.2.2.2.2.1 A.2.2.2.2.2 v.1 v.2 (fun c d=>a (c,d)) (b 0)⟩
def oD:List (Nat×å):=[(80,Hy)]
def iz (ρ:Type):List (ä ρ):=[ij ρ,ik ρ]
def ý (ρ:Type):Env ρ:={ì oD (iz ρ) with hint:=Np [(22,80)]}
def ł:aco:=⟨ah,[tI,tI,tI],80,Â,fun(xs:Val am) (x:Val Ĥ) (m:Val Â)=>Ņ xs x.1 x.2.1 x.2.2 m⟩
def sW:Ç:=Ls 2 [tI,tI,tI,tI,tI,ae,aa,af,ac,aa,ai] [tI,am] ⟨38,.own 0::.con tI::.con tI::.con tI::aN 6 [.var tI],cn⟩ [(.exit 0,⟨38,[.own 0,.con tI,.con tI,.con tI],cn⟩,[am])]
def kX (ρ:Type):ä ρ:=⟨[4,7],190,0,sW,fun(p:Val bn) (v:Val aF) a b=>Ē p.1 p.2.1 p.2.2.1 v.1 v.2 (fun c d=>a (c,d)) (b 0)⟩
def sS:Ç:=Ls 2 [tI,tI,tI,tI,tI,ae,aa,af,ac,aa,ai] [tI,am] ⟨38,.own 0::.con tI::.con tI::.con tI::aN 6 [.var tI],cn⟩ [(.exit 0,⟨38,[.own 0,.con tI,.con tI,.con tI],cn⟩,[am])]
def kT (ρ:Type):ä ρ:=⟨[6,11],190,0,sS,fun(p:Val bn) (v:Val aF) a b=>iU p.1 p.2.1 p.2.2.1 v.1 v.2 (fun c d=>a (c,d)) (b 0)⟩
def sX:Ç:=Ls 2 [tI,tI,tI,ae,aa,af,ac,aa,ai] [tI,tI,am] ⟨58,.own 0::.any::.con tI::.any::.fn 80 [(1,0)]::aN 5 [.var tI,.var tI],cn⟩ [(.exit 0,⟨58,.own 0::.any::.con tI::.any::.fn 80 [(1,0)]::aN 5 [.var tI],cn⟩,[tI,am])]
def kY (ρ:Type):ä ρ:=⟨[],177,0,sX,fun(p:Val aG) (v:Val (.pair tI aF)) a b=>Ń p.1 v.1 v.2.1 v.2.2 (fun c d e=>a (c,d,e)) (b 0)⟩
def sR:Ç:=Ls 2 [tI,tI,tI,tI,tI,ae,aa,af,ac,aa,ai] [tI,am] ⟨38,.own 0::.con tI::.con tI::.con tI::aN 6 [.var tI],cn⟩ [(.exit 0,⟨38,[.own 0,.con tI,.con tI,.con tI],cn⟩,[am])]
def kS (ρ:Type):ä ρ:=⟨[8,7],190,0,sR,fun(p:Val bn) (v:Val aF) a b=>iT p.1 p.2.1 p.2.2.1 v.1 v.2 (fun c d=>a (c,d)) (b 0)⟩
def vZ:List (Nat×å):=[]
def lN (ρ:Type):List (ä ρ):=[kX ρ,kT ρ,kY ρ,kS ρ]
def ć (ρ:Type):Env ρ:=ì vZ (lN ρ)
def m8:aco:=⟨ah,[tI,tI,tI],80,Â,fun(xs:Val am) (x:Val Ĥ) (m:Val Â)=>Ě xs x.1 x.2.1 x.2.2 m⟩
def Ď:Ç:=Ls 2 [tI,am,tI,tI,ae,aa,af,ac,aa,ai] [tI,tI] ⟨220,.own 0::.con tI::aN 2 (.fn 80 [(1,0)]::aN 5 [.var tI,.var tI]),cp⟩ [(.exit 0,⟨220,.own 0::.con tI::aN 2 (.fn 80 [(1,0)]::aN 5 [.var tI]),cp⟩,[tI])]
def Γ (rec:Val am→Int→Int→Int→Val Â→Option ((Val am)×(Val Â))) (ρ:Type):ä ρ:=⟨[],153,0,Ď,fun(p:Val ay) (v:Val Ã) a b=>ā rec p.1 p.2.1 p.2.2.1 p.2.2.2.1 p.2.2.2.2.1 p.2.2.2.2.2.1 p.2.2.2.2.2.2.1 p.2.2.2.2.2.2.2.1 p.2.2.2.2.2.2.2.2.1 p.2.2.2.2.2.2.2.2.2 v.1 v.2 (fun c d=>a (c,d)) (b 0)⟩
def č:Ç:=Ls 2 [tI,tI,tI,ae,aa,af,ac,aa,ai] [tI,am] ⟨220,.own 0::aN 9 [.con tI,.any,.any,.var tI],cn⟩ [(.exit 2,⟨220,.own 0::aN 9 [.con tI],cn⟩,[am])]
def Β (rec:Val am→Int→Int→Int→Val Â→Option ((Val am)×(Val Â))) (ρ:Type):ä ρ:=⟨[],153,2,č,fun(p:Val aG) (v:Val aF) a b=>ô rec p.1 v.1 v.2 (fun c d=>a (c,d)) (b 0)⟩
def Č:Ç:=Ls 2 [tI,am,tI,tI,ae,aa,af,ac,aa,ai] [tI,tI] ⟨220,.own 0::.any::.con tI::.any::.fn 80 [(1,0)]::aN 9 [.var tI,.var tI],cp⟩ [(.exit 4,⟨220,.own 0::.any::.con tI::.any::.fn 80 [(1,0)]::aN 9 [.var tI],cp⟩,[tI])]
def Α (rec:Val am→Int→Int→Int→Val Â→Option ((Val am)×(Val Â))) (ρ:Type):ä ρ:=⟨[],153,4,Č,fun(p:Val ay) (v:Val Ã) a b=>Ā rec p.1 p.2.1 p.2.2.1 p.2.2.2.1 p.2.2.2.2.1 p.2.2.2.2.2.1 p.2.2.2.2.2.2.1 p.2.2.2.2.2.2.2.1 p.2.2.2.2.2.2.2.2.1 p.2.2.2.2.2.2.2.2.2 v.1 v.2 (fun c d=>a (c,d)) (b 0)⟩
def ċ:Ç:=Ls 2 [tI,tI,tI,ae,aa,af,ac,aa,ai] [tI,am] ⟨220,.own 0::aN 13 [.con tI,.any,.any,.var tI],cn⟩ [(.exit 6,⟨220,.own 0::aN 13 [.con tI],cn⟩,[am])]
def ž (rec:Val am→Int→Int→Int→Val Â→Option ((Val am)×(Val Â))) (ρ:Type):ä ρ:=⟨[],153,6,ċ,fun(p:Val aG) (v:Val aF) a b=>ó rec p.1 v.1 v.2 (fun c d=>a (c,d)) (b 0)⟩
def Ċ:Ç:=Ls 2 [tI,tI,tI,tI,tI,tI,am,tI,tI,ae,aa,af,ac,aa,ai] [tI,tI] ⟨220,.own 0::.con tI::.con tI::.con tI::.fn 80 [(1,0)]::aN 13 [.con tI,.con tI,.var tI,.var tI,.con tI],cp⟩ [(.exit 8,⟨220,.own 0::.con tI::.con tI::.con tI::.fn 80 [(1,0)]::aN 13 [.con tI,.con tI,.var tI,.any,.con tI],cp⟩,[tI])]
def Ž (rec:Val am→Int→Int→Int→Val Â→Option ((Val am)×(Val Â))) (ρ:Type):ä ρ:=⟨[],153,8,Ċ,fun(p:Val aS) (v:Val Ã) a b=>á rec p.2.2.2.2.2.1 p.2.2.2.2.2.2.1 p.2.2.2.2.2.2.2.1 p.2.2.2.2.2.2.2.2.1 p.2.2.2.2.2.2.2.2.2.1 p.2.2.2.2.2.2.2.2.2.2.1 p.2.2.2.2.2.2.2.2.2.2.2.1 p.2.2.2.2.2.2.2.2.2.2.2.2.1 p.2.2.2.2.2.2.2.2.2.2.2.2.2.1 p.2.2.2.2.2.2.2.2.2.2.2.2.2.2 v.1 v.2 (fun c d=>a (c,d)) (b 0)⟩
def sN (rec:Val am→Int→Int→Int→Val Â→Option ((Val am)×(Val Â))):List (Nat×å):=[(80,Hy)]
def sM (rec:Val am→Int→Int→Int→Val Â→Option ((Val am)×(Val Â))):List (Nat×aaZ):=[(153,.row ⟨ah,[tI,tI,tI],80,Â,fun(xs:Val am) (x:Val Ĥ) (m:Val Â)=>rec xs x.1 x.2.1 x.2.2 m⟩),(177,.row ł)]
def jU (rec:Val am→Int→Int→Int→Val Â→Option ((Val am)×(Val Â))) (ρ:Type):List (ä ρ):=[Γ rec ρ,Β rec ρ,Α rec ρ,ž rec ρ,Ž rec ρ]
def Æ (rec:Val am→Int→Int→Int→Val Â→Option ((Val am)×(Val Â))) (ρ:Type):Env ρ:={Z3 (sN rec) (jU rec ρ) (sM rec) with hint:=Np [(40,80),(92,80),(158,80)]}
def Ħ:aco:=⟨ah,[tI],80,Â,fun(xs:Val am) (x:Val tI) (m:Val Â)=>ń xs x m⟩
def sQ:Ç:=Ls 2 [tI,tI] [tI,tI,am,tI,tI,ae,aa,af,ac,aa,ai] ⟨63,[.own 0,.con tI,.fn 80 [(1,0)],.any,.any,.any,.con tI,.var tI,.var tI],cq⟩ [(.exit 0,⟨63,[.own 0,.con tI,.fn 80 [(1,0)],.any,.any,.any,.con tI,.var tI],cq⟩,[tI,am,tI,tI,ae,aa,af,ac,aa,ai])]
def kR (ρ:Type):ä ρ:=⟨[],123,0,sQ,fun(p:Val Ã) (v:Val (.pair tI ay)) a b=>iS p.1 p.2 v.1 v.2.1 v.2.2.1 v.2.2.2.1 v.2.2.2.2.1 v.2.2.2.2.2.1 v.2.2.2.2.2.2.1 v.2.2.2.2.2.2.2.1 v.2.2.2.2.2.2.2.2.1 v.2.2.2.2.2.2.2.2.2.1 v.2.2.2.2.2.2.2.2.2.2 (fun c d e f g h i j k l m=>a (c,d,e,f,g,h,i,j,k,l,m)) (b 0)⟩
def sO:Ç:=Ls 2 [tI,tI] [tI,tI,am,tI,tI,ae,aa,af,ac,aa,ai] ⟨63,[.own 0,.con tI,.fn 80 [(1,0)],.any,.any,.any,.con tI,.var tI,.var tI],cq⟩ [(.exit 4,⟨63,[.own 0,.con tI,.fn 80 [(1,0)],.any,.any,.any,.con tI,.var tI],cq⟩,[tI,am,tI,tI,ae,aa,af,ac,aa,ai])]
def kP (ρ:Type):ä ρ:=⟨[],123,4,sO,fun(p:Val Ã) (v:Val (.pair tI ay)) a b=>iQ p.1 p.2 v.1 v.2.1 v.2.2.1 v.2.2.2.1 v.2.2.2.2.1 v.2.2.2.2.2.1 v.2.2.2.2.2.2.1 v.2.2.2.2.2.2.2.1 v.2.2.2.2.2.2.2.2.1 v.2.2.2.2.2.2.2.2.2.1 v.2.2.2.2.2.2.2.2.2.2 (fun c d e f g h i j k l m=>a (c,d,e,f,g,h,i,j,k,l,m)) (b 0)⟩
def sP:Ç:=Ls 2 [tI] [tI,am,tI,tI,ae,aa,af,ac,aa,ai] ⟨63,[.own 0,.con tI,.fn 80 [(1,0)],.any,.any,.any,.var tI],cq⟩ [(.exit 2,⟨63,[.own 0,.con tI,.fn 80 [(1,0)]],cq⟩,[am,tI,tI,ae,aa,af,ac,aa,ai])]
def kQ (ρ:Type):ä ρ:=⟨[],123,2,sP,fun(p:Val tI) (v:Val ay) a b=>iR p v.1 v.2.1 v.2.2.1 v.2.2.2.1 v.2.2.2.2.1 v.2.2.2.2.2.1 v.2.2.2.2.2.2.1 v.2.2.2.2.2.2.2.1 v.2.2.2.2.2.2.2.2.1 v.2.2.2.2.2.2.2.2.2 (fun c d e f g h i j k l=>a (c,d,e,f,g,h,i,j,k,l)) (b 0)⟩
def vY:List (Nat×å):=[]
def vX:List (Nat×aaZ):=[(152,.row ĉ),(153,.row m8)]
def lM (ρ:Type):List (ä ρ):=[kR ρ,kP ρ,kQ ρ]
def ę (ρ:Type):Env ρ:=Z3 vY (lM ρ) vX
def Rk:å:=⟨[Â],[am],fun(x:Val Â)=>GO x⟩
def nl:Tpl:=⟨13,[.any,.any,.box 3 0],[.cells [.con tI,.con tI,.con ae,.con aa,.con af,.con ac,.con aa,.con ai],.cells [.con tI,.con tI,.con ae,.con aa,.con af,.con ac,.con aa,.con ai],.dead,.cells [.own 4],.rowv ah]⟩
def qy (ρ:Type):He ρ:=⟨[1,1,1,3,1,1],120,0,4,[tI,tI,ae,aa,af,ac,aa,ai,tI,tI,ae,aa,af,ac,aa,ai],[am],nl,sh,fun(p:Val aB) (v:Val am) y a=>DL v y (fun b=>a b)⟩
def Fq:Ç:=Ls 5 [tI,tI,tI,ae,aa,af,ac,aa,ai,tI,tI,ae,aa,af,ac,aa,ai,ai,am] [tI] ⟨19,.own 4::.fn 92 [(0,0)]::aN 5 [.con tI,.var tI],[bD,bD,bQ,bR,.rowc ah]⟩ [(.ret,⟨19,[.own 4,.fn 92 [(0,0)],.any,.any,.var tI,.any,.any,.con tI],[bD,bD,bQ,bR,.rowc ah]⟩,[tI]),(.exit 0,⟨19,.own 4::.fn 92 [(0,0)]::aN 5 [.con tI],[bD,bD,bQ,bR,.rowc ah]⟩,[])]
def Fp (ρ:Type):ä ρ:=⟨[1,3,1,2],96,0,Fq,fun(p:Val (tyL Fq.cs)) (v:Val tI) b a=>let A:=p.2.2.2.2;xz p.1 p.2.1 p.2.2.1 p.2.2.2.1 A.1 A.2.1 A.2.2.1 A.2.2.2.1 A.2.2.2.2.1 A.2.2.2.2.2.2.2.2.2.2.2.2.2.2 v (fun c=>b c) (a 0) (a 1)⟩
def Fo:Ç:=Ls 5 [tI,tI,ae,aa,af,ac,aa,ai,tI,tI,ae,aa,af,ac,aa,ai,ai] [tI,tI,am] ⟨42,[.own 4,.fn 92 [(0,0)],.any,.any,.any,.var tI,.var tI],[bD,bD,bQ,bR,.rowv ah]⟩ [(.exit 0,⟨42,[.own 4,.fn 92 [(0,0)],.any,.any,.any,.var tI],[bD,bD,bQ,bR,.rowv ah]⟩,[tI,am])]
def Fm (ρ:Type):ä ρ:=⟨[1,3],91,0,Fo,fun(p:Val (tyL Fo.cs)) (v:Val (.pair tI aF)) a b=>let A:=p.2.2.2.2;oA p.1 p.2.1 p.2.2.1 p.2.2.2.1 A.1 A.2.1 A.2.2.1 A.2.2.2.1 v.1 v.2.1 v.2.2 (fun c d e=>a (c,d,e)) (b 0)⟩
def L5 (ρ:Type):List (He ρ):=[qy ρ]
def Ya:List (Nat×å):=[(31,ta)]
def X9:List (Nat×aaZ):=[(123,.row Ħ)]
def Ji (ρ:Type):List (ä ρ):=[Fp ρ,Fm ρ]
def iP (ρ:Type):Env ρ:={Z3 Ya (Ji ρ) X9 with ranges:=g9 (L5 ρ)}
def EW:å:=⟨[Ê,Ã],[tI,tI],fun(x:Val aM)=>iY x.1 x.2⟩
def V7:List (Nat×å):=[(22,pd),(55,EU),(131,Λ)]
def Tc (ρ:Type):List (ä ρ):=[]
def Nb (ρ:Type):Env ρ:=ì V7 (Tc ρ)
def Rs:å:=⟨[Ê,Ã],[Ê,tI],fun(x:Val aM)=>yo x.1 x.2⟩
def Gn:Ç:=Ls 6 [tI,tI,tI,ae,aa,af,ac,aa,tI,tI,tI,tI,tI,tI,ae,aa,af,ac,aa,tI,tI,tI,tI,ac,tI,tI,ae,aa,af,aa] [tI,ac] ⟨50,.any::.box 6 0::.box 7 0::.own 8::aN 21 [.own 8,.con tI,.var tI],cr⟩ [(.exit 0,⟨50,.any::.box 6 0::.box 7 0::.own 8::aN 21 [.own 8,.con tI],cr⟩,[ac])]
def Gm (ρ:Type):ä ρ:=⟨[1,2,4,1],170,0,Gn,fun(p:Val (tyL Gn.cs)) (v:Val aU) a b=>yh p.1 v.1 v.2 (fun c d=>a (c,d)) (b 0)⟩
def YD:List (Nat×å):=[(22,pd)]
def V5 (ρ:Type):List (ä ρ):=[Gm ρ]
def Ii (ρ:Type):Env ρ:=ì YD (V5 ρ)
def Lm:å:=⟨[Ö,ab],[tI],fun(x:Val (.pair Ö ab))=>AY x.1 x.2⟩
def O6:Ç:=Ls 0 [ab,tI,tI,ak] [tI] ⟨37,aN 2 (.box 0 0::aN 16 [.con ab,.con tI,.var tI]),[bN]⟩ [(.ret,⟨37,aN 2 (.box 0 0::.any::.var tI::aN 14 [.con ab,.con tI]),[bN]⟩,[tI]),(.exit 0,⟨37,aN 2 (.box 0 0::aN 16 [.con ab,.con tI]),[bN]⟩,[])]
def CP (ρ:Type):ä ρ:=⟨[],134,0,O6,fun(p:Val (.pair ab aZ)) (v:Val tI) b a=>tR p.1 p.2.1 p.2.2.1 p.2.2.2 v (fun c=>b c) (a 0) (a 1)⟩
def Vq:List (Nat×å):=[(86,EQ),(87,tc),(128,Rm)]
def Sg (ρ:Type):List (ä ρ):=[CP ρ]
def DS (ρ:Type):Env ρ:=ì Vq (Sg ρ)
def HA:å:=⟨[Ö,ar,tI],[ab],fun(x:Val (.pair Ö (.pair ar tI)))=>qZ x.1 x.2.1 x.2.2⟩
def Aw:Ç:=Ls 0 [ar,tI,tI,tI,ak] [tI,ab] ⟨29,.any::.con ar::.con tI::.box 0 0::aN 3 (.own 1::aN 5 [.con tI,.var tI]),[bN,.rowv tI]⟩ [(.exit 0,⟨29,.any::.con ar::.con tI::.box 0 0::aN 3 (.own 1::aN 5 [.con tI]),[bN,.rowv tI]⟩,[ab])]
def Au (ρ:Type):ä ρ:=⟨[],171,0,Aw,fun(p:Val (tyL Aw.cs)) (v:Val Ŋ) a b=>qB p.2.2.1 v.1 v.2 (fun c d=>a (c,d)) (b 0)⟩
def As:Ç:=Ls 2 [ar,ak,tI,tI,ak,ab,tI,ak,aw,ab] [tI,tI] ⟨140,.any::.con ar::.own 1::.box 2 0::aN 3 (.box 3 0::.own 4::.own 5::.var tI::aN 14 [.con ak,.con tI,.var tI]),[bN,.rowc tI,bN,.cells [.nils],.rowc .bool,.rowc tI]⟩ [(.exit 0,⟨140,.any::.con ar::.own 1::.box 2 0::aN 3 (.box 3 0::.own 4::.own 5::.var tI::aN 14 [.con ak,.con tI]),[bN,.rowc tI,bN,.cells [.nils],.rowc .bool,.rowc tI]⟩,[tI])]
def Ar (ρ:Type):ä ρ:=⟨[8,3],129,0,As,fun(p:Val (tyL As.cs)) (v:Val Ã) a b=>xP p.2.1 p.2.2.1 v.1 v.2 (fun c d=>a (c,d)) (b 0)⟩
def Aq:Ç:=Ls 2 [ar,tI,tI,tI,ak,ab,tI,ak,ab] [tI,aw,ab] ⟨140,.any::.con ar::.own 1::.box 2 0::aN 3 (.box 3 0::.own 4::.own 5::.con tI::aN 27 [.con tI,.var tI]),ci⟩ [(.exit 2,⟨140,.any::.con ar::.own 1::.box 2 0::aN 3 (.box 3 0::.own 4::.own 5::.con tI::aN 27 [.con tI]),ci⟩,[aw,ab])]
def Ap (ρ:Type):ä ρ:=⟨[8,3],129,2,Aq,fun(p:Val (tyL Aq.cs)) (v:Val (.pair tI aQ)) a b=>xO p.2.2.1 p.2.2.2.2.2.1 v.1 v.2.1 v.2.2 (fun c d e=>a (c,d,e)) (b 0)⟩
def Al:Ç:=Ls 2 [ar,tI,tI,ak,tI,tI,ak,tI,ak,ab] [tI,ab,aw,ab] ⟨140,.any::.con ar::.own 1::.box 2 0::aN 3 (.box 3 0::.own 4::.own 5::.con tI::aN 3 (.con tI::aN 62 [.con ak,.con tI,.var tI])),cj⟩ [(.ret,⟨140,.any::.con ar::.own 1::.box 2 0::aN 2 (.var .bool::.box 3 0::.own 4::.own 5::.con tI::aN 3 (.con tI::aN 62 [.con ak,.con tI])),cj⟩,[.bool,ab,aw,ab]),(.exit 6,⟨140,.any::.con ar::.own 1::.box 2 0::aN 3 (.box 3 0::.own 4::.own 5::.con tI::aN 3 (.con tI::aN 62 [.con ak,.con tI])),cj⟩,[ab,aw,ab])]
def Ak (ρ:Type):ä ρ:=⟨[8,3],129,6,Al,fun(p:Val (tyL Al.cs)) (v:Val (.pair tI (.pair ab aQ))) b a=>FN p.1 p.2.1 p.2.2.1 p.2.2.2.1 p.2.2.2.2.1 v.1 v.2.1 v.2.2.1 v.2.2.2 (fun c d e f=>b (c,d,e,f)) (a 0) (a 1)⟩
def Mo:Ç:=Ls 2 [ar,tI,tI,ak,tI,ak] [ab,aw,ab,ab] ⟨140,[.any,.con ar,.own 1,.box 2 0,.any,.any,.any,.box 3 0,.own 4,.own 5,.con tI],cm⟩ [(.ret,⟨140,[.any,.con ar,.own 1,.box 2 0,.any,.any,.var .bool,.box 3 0,.own 4,.own 5,.con tI],cm⟩,[.bool,ab,aw,ab,ab])]
def Ao (ρ:Type):ä ρ:=⟨[8,3],129,4,Mo,fun(p:Val (.pair ar bq)) (v:Val aR) a b=>xN p.1 p.2.1 p.2.2.2.2.1 p.2.2.2.2.2 v.1 v.2.1 v.2.2.1 v.2.2.2 (fun c d e f=>a (c,d,e,f)) (b 0)⟩
def Sf:List (Nat×å):=[]
def O4 (ρ:Type):List (ä ρ):=[Au ρ,Ar ρ,Ap ρ,Ak ρ,Ao ρ]
def j6 (ρ:Type):Env ρ:=ì Sf (O4 ρ)
def UL:å:=⟨[Ö],[aa,tI],fun(x:Val Ö)=>wM x⟩
def O8:Ç:=Ls 1 [ab,tI,tI,ak,tI,ak] [tI,ab] ⟨28,.any::.box 1 0::aN 2 (.con ab::.own 2::aN 7 [.con tI,.var tI]),[bN,bN,.rowv tI]⟩ [(.exit 0,⟨28,.any::.box 1 0::aN 2 (.con ab::.own 2::aN 7 [.con tI]),[bN,bN,.rowv tI]⟩,[ab])]
def CS (ρ:Type):ä ρ:=⟨[4,1],135,0,O8,fun(p:Val (.pair ab bq)) (v:Val Ŋ) a b=>tT p.2.1 p.2.2.2.2.1 p.2.2.2.2.2 v.1 v.2 (fun c d=>a (c,d)) (b 0)⟩
def O7:Ç:=Ls 0 [ab,tI,ab] [tI,aa] ⟨39,aN 5 (.con ab::.own 0::.own 1::aN 12 [.con tI,.var tI]),[.rowc tI,.rowv Ã]⟩ [(.exit 0,⟨39,aN 5 (.con ab::.own 0::.own 1::aN 12 [.con tI]),[.rowc tI,.rowv Ã]⟩,[aa])]
def CQ (ρ:Type):ä ρ:=⟨[],95,0,O7,fun(p:Val ba) (v:Val aW) a b=>tS p.1 p.2.1 p.2.2 v.1 v.2 (fun c d=>a (c,d)) (b 0)⟩
def Vr:List (Nat×å):=[(134,Lm),(171,HA)]
def Si (ρ:Type):List (ä ρ):=[CS ρ,CQ ρ]
def xQ (ρ:Type):Env ρ:=ì Vr (Si ρ)
def P0:å:=⟨[Ê,Ã],[Ã,tI],fun(x:Val aM)=>BI x.1 x.2⟩
def RG:List (Nat×å):=[(41,vF),(93,EW),(94,Rs),(95,UL)]
def OC (ρ:Type):List (ä ρ):=[]
def Jg (ρ:Type):Env ρ:=ì RG (OC ρ)
def Hz:å:=⟨[Â,tI,tI],[ak,tI],fun(x:Val (.pair Â Ã))=>oQ x.1 x.2.1 x.2.2⟩
def Ab:Ç:=Ls 0 [tI,tI,am,tI,tI,tI,ae,aa,af,ac,aa,ai] [tI,aT] ⟨113,.any::.con tI::.con tI::.box 0 0::aN 7 (.omp 1::aN 30 [.con am,.con tI,.var tI]),[bD,.mapv tI Ã]⟩ [(.ret,⟨113,.any::.con tI::.con tI::.box 0 0::aN 2 (.nils::.var tI::aN 3 (.omp 1::aN 30 [.con am,.con tI])),[bD,.mapv tI Ã]⟩,[tI,aT]),(.exit 0,⟨113,.any::.con tI::.con tI::.box 0 0::aN 7 (.omp 1::aN 30 [.con am,.con tI]),[bD,.mapv tI Ã]⟩,[aT])]
def Aa (ρ:Type):ä ρ:=⟨[],18,0,Ab,fun(p:Val (tyL Ab.cs)) (v:Val (.pair tI aT)) b a=>let A:=p.2.2.2.2;let B:=A.2.2.2.2;qA p.1 p.2.1 p.2.2.1 p.2.2.2.1 A.1 A.2.1 A.2.2.1 A.2.2.2.1 B.1 B.2.1 B.2.2.1 B.2.2.2 v.1 v.2 (fun c d=>b (c,d)) (a 0) (a 1)⟩
def zZ:Ç:=Ls 0 [ae,tI,aT] [tI,ak] ⟨113,aN 11 (.omp 0::aN 7 (.own 1::aN 70 [.con ae,.con tI,.var tI])),[.mapc tI Ã,.rowv Ĥ]⟩ [(.exit 2,⟨113,aN 11 (.omp 0::aN 7 (.own 1::aN 70 [.con ae,.con tI])),[.mapc tI Ã,.rowv Ĥ]⟩,[ak])]
def zY (ρ:Type):ä ρ:=⟨[],18,2,zZ,fun(p:Val (tyL zZ.cs)) (v:Val Ö) a b=>qz p.1 p.2.1 p.2.2 v.1 v.2 (fun c d=>a (c,d)) (b 0)⟩
def RX:List (Nat×å):=[(4,lB),(34,Lj),(42,qt),(44,Rk),(45,Li),(46,P0)]
def OX (ρ:Type):List (ä ρ):=[Aa ρ,zY ρ]
def tP (ρ:Type):Env ρ:=ì RX (OX ρ)
def Rl:å:=⟨[Â],[ab,tI],fun(x:Val Â)=>jL x⟩
def Fv:Ç:=Ls 3 [am,tI,tI,tI,ae,aa,af,ac,aa,ai,ab,tI,tI,tI,tI,tI,tI,tI,tI] [tI] ⟨19,.con am::.fn 48 [(0,0),(2,0)]::aN 5 [.con tI,.var tI],[bD,.rowc tI,bu]⟩ [(.ret,⟨19,[.con am,.fn 48 [(0,0),(2,0)],.any,.any,.var tI,.any,.any,.con tI],[bD,.rowc tI,bu]⟩,[tI]),(.exit 0,⟨19,.con am::.fn 48 [(0,0),(2,0)]::aN 5 [.con tI],[bD,.rowc tI,bu]⟩,[])]
def Fu (ρ:Type):ä ρ:=⟨[11,2,1,2],96,0,Fv,fun(p:Val (tyL Fv.cs)) (v:Val tI) b a=>let A:=p.2.2.2.2;let B:=A.2.2.2.2;xC p.1 p.2.1 p.2.2.1 p.2.2.2.1 A.1 A.2.1 A.2.2.1 A.2.2.2.1 B.1 B.2.1 B.2.2.2.1 v (fun c=>b c) (a 0) (a 1)⟩
def Fx:Ç:=Ls 0 [am,ae,tI,tI,tI,ae,aa,af,ac,aa,ai] [tI,ab] ⟨38,.any::.box 0 0::aN 3 (.con am::.own 1::aN 14 [.con ae,.con tI,.var tI]),cu⟩ [(.exit 0,⟨38,.any::.box 0 0::aN 3 (.con am::.own 1::aN 14 [.con ae,.con tI]),cu⟩,[ab])]
def Fw (ρ:Type):ä ρ:=⟨[],20,0,Fx,fun(p:Val (tyL Fx.cs)) (v:Val Ŋ) a b=>let A:=p.2.2.2.2;let B:=A.2.2.2.2;xD p.1 p.2.1 p.2.2.1 p.2.2.2.1 A.1 A.2.1 A.2.2.1 A.2.2.2.1 B.1 B.2.1 B.2.2 v.1 v.2 (fun c d=>a (c,d)) (b 0)⟩
def Yb:List (Nat×å):=[(4,lB),(44,Rk),(45,Li)]
def Vh (ρ:Type):List (ä ρ):=[Fu ρ,Fw ρ]
def Br (ρ:Type):Env ρ:=ì Yb (Vh ρ)
def Ri:å:=⟨[Â],[am],fun(x:Val Â)=>GI x⟩
def nk:Tpl:=⟨13,[.any,.any,.box 2 0],[.cells [.con tI,.con tI,.con ae,.con aa,.con af,.con ac,.con aa,.con ai],.dead,.cells [.own 3],.rowv ah]⟩
def qx (ρ:Type):He ρ:=⟨[1,3,1,1],120,0,3,[tI,tI,ae,aa,af,ac,aa,ai],[am],nk,sh,fun(p:Val aj) (v:Val am) y a=>Dz v y (fun b=>a b)⟩
def LJ (ρ:Type):List (He ρ):=[qx ρ]
def X7:List (Nat×å):=[]
def X6:List (Nat×aaZ):=[(123,.row Ħ)]
def Je (ρ:Type):List (ä ρ):=[]
def kp (ρ:Type):Env ρ:={Z3 X7 (Je ρ) X6 with ranges:=g9 (LJ ρ)}
def mZ:å:=⟨[Â],[ah,.bool],fun(x:Val Â)=>ü x⟩
def Fs:Ç:=Ls 1 [am,tI,tI,tI,ae,aa,af,ac,aa,ai] [tI] ⟨21,.any::.fn 66 [(0,0)]::aN 7 [.con am,.con tI,.var tI],[bD]⟩ [(.ret,⟨21,[.any,.fn 66 [(0,0)],.any,.any,.var ah,.var .bool,.any,.any,.any,.con am,.con tI],[bD]⟩,[ah,.bool]),(.exit 0,⟨21,.any::.fn 66 [(0,0)]::aN 7 [.con am,.con tI],[bD]⟩,[])]
def tF (ρ:Type):ä ρ:=⟨[1,3],65,0,Fs,fun(p:Val (.pair am aG)) (v:Val tI) b a=>let A:=p.2.2.2.2;l8 p.1 p.2.1 p.2.2.1 p.2.2.2.1 A.1 A.2.1 A.2.2.1 A.2.2.2.1 A.2.2.2.2.1 A.2.2.2.2.2 v (fun c=>b c) (a 0) (a 1)⟩
def JS:List (Nat×å):=[(31,ta),(40,Ri)]
def HI (ρ:Type):List (ä ρ):=[tF ρ]
def rL (ρ:Type):Env ρ:=ì JS (HI ρ)
def UJ:å:=⟨[Â],[ah,tI],fun(x:Val Â)=>GP x⟩
def Vk:List (Nat×å):=[(4,lB),(32,mZ)]
def RV (ρ:Type):List (ä ρ):=[]
def Md (ρ:Type):Env ρ:=ì Vk (RV ρ)
def rz:å:=⟨[],[.bool],fun(_:Unit)=>É⟩
def yR:List (Nat×å):=[(18,Hz),(20,Rl),(25,UJ)]
def xn (ρ:Type):List (ä ρ):=[]
def pj (ρ:Type):Env ρ:=ì yR (xn ρ)
def UG:å:=⟨[Â,ah],[.bool],fun(x:Val aJ)=>GM x.1 x.2⟩
def lL:Tpl:=⟨13,[.any,.any,.box 2 0],[.cells [.con tI,.con tI,.con ae,.con aa,.con af,.con ac,.con aa,.con ai],.dead,.cells [.own 3],.rowv tI]⟩
def oW (ρ:Type):He ρ:=⟨[7,8,1,1,1,1],176,0,3,[tI,tI,ae,aa,af,ac,aa,ai],[ab],lL,Gu,fun(p:Val aj) (v:Val ab) y a=>zQ v y (fun b=>a b)⟩
def OE:Ç:=Ls 0 [ah,tI,tI,tI,ae,aa,af,ac,aa,ai] [tI] ⟨42,aN 2 (.box 0 0::aN 11 [.con ah,.con tI,.var tI]),[bD]⟩ [(.ret,⟨42,aN 2 (.box 0 0::.any::.var .bool::aN 9 [.con ah,.con tI]),[bD]⟩,[.bool]),(.exit 0,⟨42,aN 2 (.box 0 0::aN 11 [.con ah,.con tI]),[bD]⟩,[])]
def CB (ρ:Type):ä ρ:=⟨[],61,0,OE,fun(p:Val (.pair ah aG)) (v:Val tI) b a=>tE p.1 p.2.1 p.2.2.2.2.2.2.2.2.2 v (fun c=>b c) (a 0) (a 1)⟩
def Jh (ρ:Type):List (He ρ):=[oW ρ]
def Vd:List (Nat×å):=[(110,UF)]
def Fl (ρ:Type):List (ä ρ):=[CB ρ]
def iu (ρ:Type):Env ρ:={ì Vd (Fl ρ) with ranges:=g9 (Jh ρ)}
def Ll:å:=⟨[Â,ah],[tI],fun(x:Val aJ)=>AW x.1 x.2⟩
def Vg:List (Nat×å):=[(4,lB),(61,UG)]
def RO (ρ:Type):List (ä ρ):=[]
def L9 (ρ:Type):Env ρ:=ì Vg (RO ρ)
def P1:å:=⟨[Â,ah],[tI,tI],fun(x:Val aJ)=>wL x.1 x.2⟩
def RQ:List (Nat×å):=[(26,Ll),(27,Hx)]
def OS (ρ:Type):List (ä ρ):=[]
def Jj (ρ:Type):Env ρ:=ì RQ (OS ρ)
def iE:å:=⟨[ai,ah,tI,tI],[tI],fun(x:Val (.pair ai (.pair ah Ã)))=>õ x.1 x.2.1 x.2.2.1 x.2.2.2⟩
def lJ:Ç:=Ls 0 [ai,ah,tI,tI] [tI,tI] ⟨52,.con ai::.con ah::.var tI::.con tI::aN 5 [.con tI,.var tI],[]⟩ [(.exit 2,⟨52,.con ai::.con ah::.var tI::.con tI::aN 5 [.con tI],[]⟩,[tI])]
def lH (ρ:Type):ä ρ:=⟨[],16,2,lJ,fun(p:Val (tyL lJ.cs)) (v:Val Ã) a b=>ŕ p.1 p.2.1 p.2.2.2 v.1 v.2 (fun c d=>a (c,d)) (b 0)⟩
def uV:Ç:=Ls 0 [ai,ah,tI] [tI,tI] ⟨52,.con ai::.con ah::.var tI::.con tI::aN 5 [.var tI],[]⟩ [(.exit 0,⟨52,[.con ai,.con ah,.var tI,.con tI],[]⟩,[tI])]
def lK (ρ:Type):ä ρ:=⟨[],16,0,uV,fun(p:Val (.pair ai bj)) (v:Val Ã) a b=>ż p.1 p.2.1 p.2.2 v.1 v.2 (fun c d=>a (c,d)) (b 0)⟩
def xw:List (Nat×å):=[]
def vT (ρ:Type):List (ä ρ):=[lH ρ,lK ρ]
def κ (ρ:Type):Env ρ:=ì xw (vT ρ)
def rB:å:=⟨[Â,ah,ab,tI],[ab],fun(x:Val (.pair Â (.pair ah aD)))=>Χ x.1 x.2.1 x.2.2.1 x.2.2.2⟩
def mL:Ç:=Ls 0 [ah,ab,tI,tI,tI,tI,tI,ae,aa,af,ac,aa,ai,ab] [tI] ⟨58,.any::.con ah::.con ab::.con tI::.box 0 0::aN 4 [.own 1,.con tI,.con tI,.var tI],[bD,.rowc tI]⟩ [(.exit 2,⟨58,.any::.con ah::.con ab::.con tI::.box 0 0::aN 4 [.own 1,.con tI,.con tI,.var tI],[bD,.rowc tI]⟩,[tI])]
def mK (ρ:Type):ä ρ:=⟨[],28,2,mL,fun(p:Val (tyL mL.cs)) (v:Val tI) a b=>Ţ p.2.2.2.2.1 p.2.2.2.2.2.2.2.2.2.2.2.2.2 v (fun c=>a c) (b 0)⟩
def mN:Ç:=Ls 0 [ah,ab,tI,tI,tI,ae,aa,af,ac,aa,ai] [tI,ab] ⟨58,.any::.con ah::.con ab::.con tI::.box 0 0::aN 4 [.own 1,.var tI],cu⟩ [(.exit 0,⟨58,.any::.con ah::.con ab::.con tI::.box 0 0::aN 4 [.own 1],cu⟩,[ab])]
def mM (ρ:Type):ä ρ:=⟨[],28,0,mN,fun(p:Val (tyL mN.cs)) (v:Val Ŋ) a b=>ι p.1 p.2.1 p.2.2.1 p.2.2.2.2.2.2.2.2.2.2 v.1 v.2 (fun c d=>a (c,d)) (b 0)⟩
def yV:List (Nat×å):=[(16,iE)]
def xu (ρ:Type):List (ä ρ):=[mK ρ,mM ρ]
def ii (ρ:Type):Env ρ:=ì yV (xu ρ)
def o9:å:=⟨[Â,ah],[Ê],fun(x:Val aJ)=>ŭ x.1 x.2⟩
def kO:Ç:=Ls 0 [ah,tI,tI,ae,aa,af,ac,aa,ai,tI,tI,tI,tI,ae] [tI,aa] ⟨116,[.any,.con ah,.box 0 0,.any,.box 1 0,.box 2 0,.var tI],[bD,bE,bT,.rowv Ã]⟩ [(.exit 0,⟨116,[.any,.con ah,.box 0 0,.any,.box 1 0,.box 2 0],[bD,bE,bT,.rowv Ã]⟩,[aa])]
def kM (ρ:Type):ä ρ:=⟨[],8,0,kO,fun(p:Val (tyL kO.cs)) (v:Val aW) a b=>ų p.1 p.2.2.2.2.1 p.2.2.2.2.2.2.2.2.1 v.1 v.2 (fun c d=>a (c,d)) (b 0)⟩
def kL:Ç:=Ls 0 [ah,tI,tI,ae,aa,af,ac,aa,ai,tI,tI,tI,tI,ae,aa] [tI,af] ⟨116,[.any,.con ah,.box 0 0,.any,.box 1 0,.box 2 0,.any,.any,.var tI],[bD,bE,bU,.rowc Ã,.rowv iZ]⟩ [(.exit 2,⟨116,[.any,.con ah,.box 0 0,.any,.box 1 0,.box 2 0],[bD,bE,bU,.rowc Ã,.rowv iZ]⟩,[af])]
def kK (ρ:Type):ä ρ:=⟨[],8,2,kL,fun(p:Val (tyL kL.cs)) (v:Val (.pair tI af)) a b=>Ų p.1 p.2.2.2.2.2.1 p.2.2.2.2.2.2.2.2.1 v.1 v.2 (fun c d=>a (c,d)) (b 0)⟩
def kJ:Ç:=Ls 0 [ah,tI,tI,ae,aa,af,ac,aa,ai,tI,tI,tI,tI,ae,aa,af] [tI,ac] ⟨116,.any::.con ah::.box 0 0::.any::.box 1 0::.box 2 0::aN 4 [.var tI],cw⟩ [(.exit 4,⟨116,[.any,.con ah,.box 0 0,.any,.box 1 0,.box 2 0],cw⟩,[ac])]
def kI (ρ:Type):ä ρ:=⟨[],8,4,kJ,fun(p:Val (tyL kJ.cs)) (v:Val aU) a b=>let A:=p.2.2.2.2;ű p.1 p.2.1 p.2.2.1 p.2.2.2.1 A.1 A.2.1 A.2.2.1 A.2.2.2.1 A.2.2.2.2.1 v.1 v.2 (fun c d=>a (c,d)) (b 0)⟩
def vJ:List (Nat×å):=[(16,iE),(28,rB)]
def uJ (ρ:Type):List (ä ρ):=[kM ρ,kK ρ,kI ρ]
def œ (ρ:Type):Env ρ:=ì vJ (uJ ρ)
def ql:å:=⟨[Ê],[.bool],fun(x:Val Ê)=>ź x⟩
def uP:Ç:=Ls 0 [tI,tI,ae,aa,af,ac,aa] [tI] ⟨48,[.any,.box 0 0,.any,.var tI],[bt]⟩ [(.ret,⟨48,[.any,.box 0 0,.var .bool],[bt]⟩,[.bool]),(.exit 0,⟨48,[.any,.box 0 0],[bt]⟩,[])]
def lG (ρ:Type):ä ρ:=⟨[],9,0,uP,fun(p:Val ao) (v:Val tI) b a=>Ŕ p.2.2.1 v (fun c=>b c) (a 0) (a 1)⟩
def xm:List (Nat×å):=[(22,pd)]
def vP (ρ:Type):List (ä ρ):=[lG ρ]
def jD (ρ:Type):Env ρ:=ì xm (vP ρ)
def ZW:å:=⟨[Ê,tI,tI,tI],[tI,tI],fun(x:Val (.pair Ê Ĥ))=>KN x.1 x.2.1 x.2.2.1 x.2.2.2⟩
def YC:List (Nat×å):=[(53,rC),(107,Lr),(113,Ro)]
def VZ (ρ:Type):List (ä ρ):=[]
def Qq (ρ:Type):Env ρ:=ì YC (VZ ρ)
def rA:å:=⟨[Ê,ai],[.bool],fun(x:Val Â)=>jj x.1 x.2⟩
def mI:Ç:=Ls 0 [ai,tI,tI,tI,ae,aa,af,ac,aa,tI,tI,tI,tI,tI,tI,tI,tI,tI,ab] [tI] ⟨100,[.any,.con ai,.box 0 0,.any,.any,.con tI,.box 1 0,.box 2 0,.var tI],[bt,bu,bB]⟩ [(.ret,⟨100,[.any,.con ai,.box 0 0,.any,.var .bool,.con tI,.box 1 0,.box 2 0],[bt,bu,bB]⟩,[.bool]),(.exit 2,⟨100,[.any,.con ai,.box 0 0,.any,.any,.con tI,.box 1 0,.box 2 0],[bt,bu,bB]⟩,[])]
def mH (ρ:Type):ä ρ:=⟨[],29,2,mI,fun(p:Val (tyL mI.cs)) (v:Val tI) b a=>let A:=p.2.2.2.2;let B:=A.2.2.2.2;η p.2.2.1 p.2.2.2.1 A.1 A.2.1 A.2.2.1 A.2.2.2.1 B.1 B.2.1 B.2.2.1 B.2.2.2.2.2.2.2.2.2.2 v (fun c=>b c) (a 0) (a 1)⟩
def vR:Ç:=Ls 0 [ai,tI,tI,ae,aa,af,ac,aa] [tI] ⟨100,[.any,.con ai,.box 0 0,.any,.any,.var tI],[bt]⟩ [(.ret,⟨100,[.any,.con ai,.box 0 0,.any,.var .bool],[bt]⟩,[.bool]),(.exit 0,⟨100,[.any,.con ai,.box 0 0],[bt]⟩,[])]
def mJ (ρ:Type):ä ρ:=⟨[],29,0,vR,fun(p:Val (.pair ai ao)) (v:Val tI) b a=>let A:=p.2.2.2.2;θ p.1 p.2.1 p.2.2.1 p.2.2.2.1 A.1 A.2.1 A.2.2.1 A.2.2.2 v (fun c=>b c) (a 0) (a 1)⟩
def yS:List (Nat×å):=[(62,ZW)]
def xp (ρ:Type):List (ä ρ):=[mH ρ,mJ ρ]
def ic (ρ:Type):Env ρ:=ì yS (xp ρ)
def mY:å:=⟨[Ê,tI],[tI],fun(x:Val (.pair Ê tI))=>ķ x.1 x.2⟩
def xr:Ç:=Ls 0 [tI,tI,tI,ae,aa,af,ac,aa] [tI] ⟨22,[.any,.con tI,.box 0 0,.any,.any,.var tI],[bt]⟩ [(.ret,⟨22,[.any,.con tI,.box 0 0,.any,.var tI],[bt]⟩,[tI]),(.exit 0,⟨22,[.any,.con tI,.box 0 0],[bt]⟩,[])]
def ng (ρ:Type):ä ρ:=⟨[],17,0,xr,fun(p:Val (.pair tI ao)) (v:Val tI) b a=>ig p.1 p.2.2.2.1 v (fun c=>b c) (a 0) (a 1)⟩
def zJ:List (Nat×å):=[]
def yT (ρ:Type):List (ä ρ):=[ng ρ]
def lm (ρ:Type):Env ρ:=ì zJ (yT ρ)
def jz:å:=⟨[Ù,Ŋ,tI],[tI],fun(x:Val (.pair Ù (.pair Ŋ tI)))=>Ì x.1 x.2.1 x.2.2⟩
def jT:Ç:=Ls 0 [tI,tI,tI,tI,tI,tI,tI,tI,tI,tI,ab] [tI,tI] ⟨34,[.any,.any,.con tI,.box 0 0,.box 1 0,.any,.any,.var tI,.var tI],[bu,bB]⟩ [(.exit 0,⟨34,[.any,.any,.con tI,.box 0 0,.box 1 0,.any,.any,.var tI],[bu,bB]⟩,[tI])]
def jS (ρ:Type):ä ρ:=⟨[],19,0,jT,fun(p:Val (tyL jT.cs)) (v:Val Ã) a b=>Ļ p.1 p.2.2.1 p.2.2.2.2.2.2.2.2.2.2 v.1 v.2 (fun c d=>a (c,d)) (b 0)⟩
def uS:List (Nat×å):=[]
def sI (ρ:Type):List (ä ρ):=[jS ρ]
def iL (ρ:Type):Env ρ:=ì uS (sI ρ)
def qj:å:=⟨[Ê,ai,ab,tI],[tI,tI,.bool],fun(x:Val (.pair Ê (.pair ai aD)))=>Ÿ x.1 x.2.1 x.2.2.1 x.2.2.2⟩
def lE:Ç:=Ls 0 [ai,ab,tI,tI,tI,ae,aa,af,ac,aa] [tI,tI,tI] ⟨62,.any::.con ai::.con ab::.con tI::.box 0 0::aN 6 [.var tI,.var tI,.var tI],[bt]⟩ [(.ret,⟨62,[.any,.con ai,.con ab,.con tI,.box 0 0,.any,.any,.any,.var tI,.var tI,.var .bool],[bt]⟩,[tI,tI,.bool]),(.exit 0,⟨62,.any::.con ai::.con ab::.con tI::.box 0 0::aN 6 [.var tI,.var tI],[bt]⟩,[tI,tI])]
def lD (ρ:Type):ä ρ:=⟨[],63,0,lE,fun(p:Val (tyL lE.cs)) (v:Val Ĥ) b a=>let A:=p.2.2.2.2;Ż p.1 p.2.1 p.2.2.1 p.2.2.2.1 A.1 A.2.1 A.2.2.1 A.2.2.2.1 A.2.2.2.2.1 A.2.2.2.2.2 v.1 v.2.1 v.2.2 (fun c d e=>b (c,d,e)) (a 0) (a 1)⟩
def xi:List (Nat×å):=[(17,mY),(19,jz)]
def vK (ρ:Type):List (ä ρ):=[lD ρ]
def jB (ρ:Type):Env ρ:=ì xi (vK ρ)
def pb:å:=⟨[Ê,ai,Þ,Ĥ],[.bool],fun(x:Val (.pair Ê (.pair ai (.pair Þ Ĥ))))=>ĩ x.1 x.2.1 x.2.2.1 x.2.2.2⟩
def vO:List (Nat×å):=[(63,qj)]
def uN (ρ:Type):List (ä ρ):=[]
def nf (ρ:Type):Env ρ:=ì vO (uN ρ)
def ru:å:=⟨[Ê,ai,ak],[.bool],fun(x:Val (.pair Ê (.pair ai ak)))=>Φ x.1 x.2.1 x.2.2⟩
def mG:Ç:=Ls 0 [ai,ak,tI,tI,ae,aa,af,ac,aa] [tI] ⟨39,[.any,.con ai,.con ak,.box 0 0,.any,.any,.any,.var tI],[bt]⟩ [(.ret,⟨39,[.any,.con ai,.con ak,.box 0 0,.any,.any,.var .bool],[bt]⟩,[.bool]),(.exit 0,⟨39,[.any,.con ai,.con ak,.box 0 0],[bt]⟩,[])]
def mF (ρ:Type):ä ρ:=⟨[],10,0,mG,fun(p:Val (tyL mG.cs)) (v:Val tI) b a=>let A:=p.2.2.2.2;š p.1 p.2.1 p.2.2.1 p.2.2.2.1 A.1 A.2.1 A.2.2.1 A.2.2.2.1 A.2.2.2.2 v (fun c=>b c) (a 0) (a 1)⟩
def yQ:List (Nat×å):=[(29,rA),(30,pb)]
def xg (ρ:Type):List (ä ρ):=[mF ρ]
def jQ (ρ:Type):Env ρ:=ì yQ (xg ρ)
def I9:å:=⟨[Â,ah],[.bool,tI],fun(x:Val aJ)=>pQ x.1 x.2⟩
def Mg:List (Nat×å):=[(26,Ll),(31,ta)]
def JU (ρ:Type):List (ä ρ):=[]
def CM (ρ:Type):Env ρ:=ì Mg (JU ρ)
def Rj:å:=⟨[Â,ab],[Â],fun(x:Val (.pair Â ab))=>GK x.1 x.2⟩
def Fk:Ç:=Ls 7 [tI,tI,tI,ae,aa,af,ac,aa,ai,ab,tI,tI,tI,tI,ae,aa,af,ac,aa,ai,tI,tI,ac] [tI] ⟨19,.own 6::.fn 72 [(4,0)]::aN 5 [.con tI,.var tI],cz⟩ [(.ret,⟨19,[.own 6,.fn 72 [(4,0)],.any,.any,.var tI,.any,.any,.con tI],cz⟩,[tI]),(.exit 0,⟨19,.own 6::.fn 72 [(4,0)]::aN 5 [.con tI],cz⟩,[])]
def Fh (ρ:Type):ä ρ:=⟨[1,2,1,5,1,2],115,0,Fk,fun(p:Val (tyL Fk.cs)) (v:Val tI) b a=>xy p.1 p.2.2.2.2.2.2.2.2.2.1 p.2.2.2.2.2.2.2.2.2.2.2.2.2.2.2.2.2.2.2.2.2.2 v (fun c=>b c) (a 0) (a 1)⟩
def Fg:Ç:=Ls 7 [tI,tI,ae,aa,af,ac,aa,ai,ab,tI,tI,tI,tI,ae,aa,af,ac,aa,ai,tI,tI] [tI,tI,ac] ⟨42,[.own 6,.fn 72 [(4,0)],.any,.any,.any,.var tI,.var tI],[bD,br,bW,bD,bX,bW,.rowv Þ]⟩ [(.exit 0,⟨42,[.own 6,.fn 72 [(4,0)],.any,.any,.any,.var tI],[bD,br,bW,bD,bX,bW,.rowv Þ]⟩,[tI,ac])]
def Ff (ρ:Type):ä ρ:=⟨[1,2,1,5],70,0,Fg,fun(p:Val (tyL Fg.cs)) (v:Val (.pair tI aU)) a b=>oz p.2.2.2.2.2.2.2.2.1 v.1 v.2.1 v.2.2 (fun c d e=>a (c,d,e)) (b 0)⟩
def X8:List (Nat×å):=[(38,ŷ)]
def Va (ρ:Type):List (ä ρ):=[Fh ρ,Ff ρ]
def Bq (ρ:Type):Env ρ:=ì X8 (Va ρ)
def EP:å:=⟨[Â,ab],[.bool,tI],fun(x:Val (.pair Â ab))=>nI x.1 x.2⟩
def JW:List (Nat×å):=[(4,lB),(32,mZ),(33,Rj)]
def HO (ρ:Type):List (ä ρ):=[]
def zX (ρ:Type):Env ρ:=ì JW (HO ρ)
def P3:å:=⟨[ab,ab],[ab,ab,tI],fun(x:Val (.pair ab ab))=>rc x.1 x.2⟩
def Te:List (Nat×å):=[(73,HB),(74,EV)]
def PD (ρ:Type):List (ä ρ):=[]
def Js (ρ:Type):Env ρ:=ì Te (PD ρ)
def EO:å:=⟨[Â,tI],[.bool,tI],fun(x:Val (.pair Â tI))=>nH x.1 x.2⟩
def tN:Ç:=Ls 6 [tI,tI,tI,ae,aa,af,ac,aa,ai,tI,tI,tI,ae,aa,af,ac,aa,ai,tI,tI,ac] [tI] ⟨19,.own 5::.fn 72 [(3,0)]::aN 5 [.con tI,.var tI],cA⟩ [(.ret,⟨19,[.own 5,.fn 72 [(3,0)],.any,.any,.var tI,.any,.any,.con tI],cA⟩,[tI]),(.exit 0,⟨19,.own 5::.fn 72 [(3,0)]::aN 5 [.con tI],cA⟩,[])]
def tM (ρ:Type):ä ρ:=⟨[7,2,1,5,1,2],115,0,tN,fun(p:Val (tyL tN.cs)) (v:Val tI) b a=>mb p.1 p.2.2.2.2.2.2.2.2.2.1 p.2.2.2.2.2.2.2.2.2.2.2.2.2.2.2.2.2.2.2.2 v (fun c=>b c) (a 0) (a 1)⟩
def tK:Ç:=Ls 6 [tI,tI,ae,aa,af,ac,aa,ai,tI,tI,tI,ae,aa,af,ac,aa,ai,tI,tI] [tI,tI,ac] ⟨42,[.own 5,.fn 72 [(3,0)],.any,.any,.any,.var tI,.var tI],[bD,bw,bD,bY,bW,.rowv Þ]⟩ [(.exit 0,⟨42,[.own 5,.fn 72 [(3,0)],.any,.any,.any,.var tI],[bD,bw,bD,bY,bW,.rowv Þ]⟩,[tI,ac])]
def tJ (ρ:Type):ä ρ:=⟨[7,2,1,5],70,0,tK,fun(p:Val (tyL tK.cs)) (v:Val (.pair tI aU)) a b=>ψ p.2.2.2.2.2.2.2.2.1 v.1 v.2.1 v.2.2 (fun c d e=>a (c,d,e)) (b 0)⟩
def JT:List (Nat×å):=[(4,lB),(32,mZ),(34,Lj),(37,P3),(38,ŷ)]
def HL (ρ:Type):List (ä ρ):=[tM ρ,tJ ρ]
def np (ρ:Type):Env ρ:=ì JT (HL ρ)
def ZS:å:=⟨[Â],[ab,tI],fun(x:Val Â)=>GQ x⟩
def RZ:Ç:=Ls 0 [ac,tI,tI,tI,ae,aa,af,ac,aa,ai] [tI,ab] ⟨66,.any::.box 0 0::aN 5 (.own 1::aN 19 [.con ac,.con tI,.var tI]),cu⟩ [(.exit 0,⟨66,.any::.box 0 0::aN 5 (.own 1::aN 19 [.con ac,.con tI]),cu⟩,[ab])]
def Fz (ρ:Type):ä ρ:=⟨[],14,0,RZ,fun(p:Val (.pair ac aG)) (v:Val Ŋ) a b=>xF p.1 p.2.1 v.1 v.2 (fun c d=>a (c,d)) (b 0)⟩
def RY:Ç:=Ls 0 [tI,tI,ae,aa,af,ac,aa,ai] [ab,tI] ⟨66,.any::.box 0 0::aN 5 [.var ab,.any,.any,.var tI],[bD]⟩ [(.exit 2,⟨66,.any::.box 0 0::aN 5 [.var ab],[bD]⟩,[ab])]
def Fy (ρ:Type):ä ρ:=⟨[],14,2,RY,fun(p:Val aj) (v:Val aD) a b=>let A:=p.2.2.2.2;rM p.1 p.2.1 p.2.2.1 p.2.2.2.1 A.1 A.2.1 A.2.2.1 A.2.2.2 v.1 v.2 (fun c d=>a (c,d)) (b 0)⟩
def Yc:List (Nat×å):=[(4,lB),(32,mZ),(33,Rj),(39,jI)]
def Vl (ρ:Type):List (ä ρ):=[Fz ρ,Fy ρ]
def Bs (ρ:Type):Env ρ:=ì Yc (Vl ρ)
def UK:å:=⟨[Ö,tI,tI],[ah],fun(x:Val (.pair Ö Ã))=>GR x.1 x.2.1 x.2.2⟩
def Qm:Ç:=Ls 0 [tI,tI,tI,tI,ak] [tI,ab] ⟨45,.any::.con tI::.con tI::.box 0 0::aN 3 (.own 1::aN 7 [.con tI,.var tI]),[bN,.rowv tI]⟩ [(.exit 0,⟨45,.any::.con tI::.con tI::.box 0 0::aN 3 (.own 1::aN 7 [.con tI]),[bN,.rowv tI]⟩,[ab])]
def Ql (ρ:Type):ä ρ:=⟨[],88,0,Qm,fun(p:Val (tyL Qm.cs)) (v:Val Ŋ) a b=>Bt p.2.2.1 v.1 v.2 (fun c d=>a (c,d)) (b 0)⟩
def Qj:Ç:=Ls 4 [ab,tI,ah,tI,ak] [tI,ab] ⟨53,.con ab::.box 1 0::aN 2 (.own 4::aN 7 [.con tI,.var tI]),cB⟩ [(.exit 0,⟨53,.con ab::.box 1 0::aN 2 (.own 4::aN 7 [.con tI]),cB⟩,[ab])]
def Qi (ρ:Type):ä ρ:=⟨[12,8],130,0,Qj,fun(p:Val (tyL Qj.cs)) (v:Val Ŋ) a b=>Sd p.2.1 v.1 v.2 (fun c d=>a (c,d)) (b 0)⟩
def Qh:Ç:=Ls 4 [ab,ak,tI,ah,tI,ak] [tI,ab] ⟨53,.con ab::aN 3 (.own 4::aN 16 [.con ak,.con tI,.var tI]),cB⟩ [(.exit 2,⟨53,.con ab::aN 3 (.own 4::aN 16 [.con ak,.con tI]),cB⟩,[ab])]
def Qg (ρ:Type):ä ρ:=⟨[12,8],130,2,Qh,fun(p:Val (tyL Qh.cs)) (v:Val Ŋ) a b=>FM p.1 p.2.1 p.2.2.1 v.1 v.2 (fun c d=>a (c,d)) (b 0)⟩
def abC:Ç:=Ls 0 [tI,tI,ak] [tI,ah] ⟨45,aN 9 (.own 0::.fn 130 [(1,0)]::aN 18 [.con tI,.var tI]),[.rowv ab,bN]⟩ [(.exit 2,⟨45,aN 9 (.own 0::.fn 130 [(1,0)]::aN 18 [.con tI]),[.rowv ab,bN]⟩,[ah])]
def Qk (ρ:Type):ä ρ:=⟨[],88,2,abC,fun(p:Val aZ) (v:Val bh) a b=>Kz p.1 p.2.1 p.2.2 v.1 v.2 (fun c d=>a (c,d)) (b 0)⟩
def agi:List (Nat×å):=[]
def adF (ρ:Type):List (ä ρ):=[Ql ρ,Qi ρ,Qg ρ,Qk ρ]
def HW (ρ:Type):Env ρ:=ì agi (adF ρ)
def UM:å:=⟨[Ö],[ab,tI],fun(x:Val Ö)=>pR x⟩
def O9:Ç:=Ls 0 [tI,tI,ak] [tI,am] ⟨93,.any::.box 0 0::aN 6 (.own 1::aN 24 [.con tI,.var tI]),[bN,.rowv ah]⟩ [(.exit 0,⟨93,.any::.box 0 0::aN 6 (.own 1::aN 24 [.con tI]),[bN,.rowv ah]⟩,[am])]
def C1 (ρ:Type):ä ρ:=⟨[],43,0,O9,fun(p:Val aZ) (v:Val aF) a b=>pF p.1 p.2.1 p.2.2 v.1 v.2 (fun c d=>a (c,d)) (b 0)⟩
def CU:Ç:=Ls 3 [tI,ah,ak,tI,tI,ak,am,tI,tI,tI,tI,ak] [tI,tI,tI,ab] ⟨73,.any::.var tI::.con tI::.con ah::.fn 89 []::.box 3 0::aN 5 (.own 4::.var tI::aN 7 [.con ak,.con tI,.var tI]),cD⟩ [(.exit 2,⟨73,.any::.var tI::.con tI::.con ah::.fn 89 []::.box 3 0::aN 5 (.own 4::.var tI::aN 7 [.con ak,.con tI]),cD⟩,[tI,tI,ab])]
def CT (ρ:Type):ä ρ:=⟨[22,10],90,2,CU,fun(p:Val (tyL CU.cs)) (v:Val aP) a b=>Jk p.1 p.2.1 p.2.2.1 p.2.2.2.1 v.1 v.2.1 v.2.2.1 v.2.2.2 (fun c d e f=>a (c,d,e,f)) (b 0)⟩
def CW:Ç:=Ls 3 [ah,tI,ak,am,tI,tI,tI,tI,ak] [tI,tI,tI,ab] ⟨73,.any::.var tI::.var tI::.con ah::.fn 89 []::.box 3 0::aN 5 [.own 4,.var tI],cD⟩ [(.exit 0,⟨73,aN 3 (.con ah::.fn 89 []::.box 3 0::aN 5 [.own 4]),cD⟩,[ab])]
def CV (ρ:Type):ä ρ:=⟨[22,10],90,0,CW,fun(p:Val (tyL CW.cs)) (v:Val aP) a b=>Ax p.1 p.2.2.2.2.2.2.2.2 v.1 v.2.1 v.2.2.1 v.2.2.2 (fun c d e f=>a (c,d,e,f)) (b 0)⟩
def CY:Ç:=Ls 0 [tI,ak,tI,tI,ak,am] [tI] ⟨93,.any::.box 0 0::aN 6 (.own 1::.any::.fn 89 []::.con tI::aN 37 [.con ak,.con tI,.var tI]),[bN,.rowc ah]⟩ [(.exit 2,⟨93,.any::.box 0 0::aN 6 (.own 1::.any::.fn 89 []::.con tI::aN 37 [.con ak,.con tI]),[bN,.rowc ah]⟩,[]),(.ret,⟨93,.any::.box 0 0::.own 2::.var tI::aN 4 (.own 1::.any::.fn 89 []::.con tI::aN 37 [.con ak,.con tI]),[bN,.rowc ah,.rowv tI]⟩,[tI,ab]),(.exit 4,⟨93,.any::.box 0 0::aN 6 (.own 1::.any::.fn 89 []::.con tI::aN 37 [.con ak,.con tI]),[bN,.rowc ah]⟩,[])]
def CX (ρ:Type):ä ρ:=⟨[],43,4,CY,fun(p:Val (tyL CY.cs)) (v:Val tI) b a=>pE p.1 p.2.1 p.2.2.1 p.2.2.2.1 p.2.2.2.2.1 p.2.2.2.2.2 v (fun c=>b c) (a 0) (a 1) (a 2)⟩
def C0:Ç:=Ls 0 [tI,ak,am] [tI] ⟨93,.any::.box 0 0::aN 6 [.own 1,.any,.fn 89 [],.var tI],[bN,.rowc ah]⟩ [(.exit 2,⟨93,.any::.box 0 0::aN 6 [.own 1,.any,.fn 89 []],[bN,.rowc ah]⟩,[]),(.ret,⟨93,.any::.box 0 0::.own 2::.var tI::aN 4 [.own 1,.any,.fn 89 []],[bN,.rowc ah,.rowv tI]⟩,[tI,ab])]
def CZ (ρ:Type):ä ρ:=⟨[],43,2,C0,fun(p:Val (tyL C0.cs)) (v:Val tI) b a=>tU p.1 p.2.1 p.2.2 v (fun c=>b c) (a 0) (a 1)⟩
def Vs:List (Nat×å):=[(86,EQ),(87,tc),(88,UK)]
def Sk (ρ:Type):List (ä ρ):=[C1 ρ,CT ρ,CV ρ,CX ρ,CZ ρ]
def mr (ρ:Type):Env ρ:=ì Vs (Sk ρ)
def UI:å:=⟨[Â],[ah,tI],fun(x:Val Â)=>AX x⟩
def OW:Ç:=Ls 0 [am,tI,tI,tI,ae,aa,af,ac,aa,ai] [tI,ah] ⟨46,.any::.box 0 0::aN 3 (.own 1::aN 13 [.con am,.con tI,.var tI]),[bD,.rowv ab]⟩ [(.ret,⟨46,.any::.box 0 0::.nils::.var tI::.any::.own 1::aN 13 [.con am,.con tI],[bD,.rowv ab]⟩,[tI,ah]),(.exit 0,⟨46,.any::.box 0 0::aN 3 (.own 1::aN 13 [.con am,.con tI]),[bD,.rowv ab]⟩,[ah])]
def CL (ρ:Type):ä ρ:=⟨[],15,0,OW,fun(p:Val (.pair am aG)) (v:Val bh) b a=>let A:=p.2.2.2.2;tO p.1 p.2.1 p.2.2.1 p.2.2.2.1 A.1 A.2.1 A.2.2.1 A.2.2.2.1 A.2.2.2.2.1 A.2.2.2.2.2 v.1 v.2 (fun c d=>b (c,d)) (a 0) (a 1)⟩
def Vj:List (Nat×å):=[(4,lB),(40,Ri),(41,vF),(42,qt),(43,UM)]
def RT (ρ:Type):List (ä ρ):=[CL ρ]
def DQ (ρ:Type):Env ρ:=ì Vj (RT ρ)
def UN:å:=⟨[Ö,tI,tI],[tI,tI],fun(x:Val (.pair Ö Ã))=>GS x.1 x.2.1 x.2.2⟩
def Vu:List (Nat×å):=[(134,Lm),(171,HA)]
def Sr (ρ:Type):List (ä ρ):=[]
def MD (ρ:Type):Env ρ:=ì Vu (Sr ρ)
def uF:å:=⟨[aE,tI,tI],[tI],fun(x:Val aV)=>jv x.1 x.2.1 x.2.2⟩
def HT:List (Nat×å):=[(172,UN)]
def FD (ρ:Type):List (ä ρ):=[]
def yF (ρ:Type):Env ρ:=ì HT (FD ρ)
def Du:å:=⟨[aE,Ã],[tI],fun(x:Val aV)=>sm x.1 x.2⟩
def O3:List (Nat×å):=[(93,EW)]
def Mj (ρ:Type):List (ä ρ):=[]
def FF (ρ:Type):Env ρ:=ì O3 (Mj ρ)
def Cx:å:=⟨[aE,Ã],[tI],fun(x:Val aV)=>oY x.1 x.2⟩
def HS:List (Nat×å):=[(136,uF),(137,Du)]
def FB (ρ:Type):List (ä ρ):=[]
def yE (ρ:Type):Env ρ:=ì HS (FB ρ)
def vB:å:=⟨[aE,Ã],[tI],fun(x:Val aV)=>kB x.1 x.2⟩
def Cg:List (Nat×å):=[(136,uF),(137,Du)]
def Ag (ρ:Type):List (ä ρ):=[]
def rY (ρ:Type):Env ρ:=ì Cg (Ag ρ)
def vA:å:=⟨[aE,Ã],[Ã],fun(x:Val aV)=>kz x.1 x.2⟩
def Cf:List (Nat×å):=[(97,Cx),(98,vB)]
def pD (ρ:Type):List (ä ρ):=[]
def mq (ρ:Type):Env ρ:={ì Cf (pD ρ) with hint:=Np [(12,97),(16,98)]}
def Ja:å:=⟨[Ê,Ã],[Ã,tI],fun(x:Val aM)=>ņ x.1 x.2⟩
def wo:Ç:=Ls 4 [tI,tI,tI,ae,aa,af,ac,aa,tI,tI,tI,tI,aa] [tI,tI,tI,ae,aa,af,ac,aa] ⟨68,aN 2 (.box 4 0::aN 20 [.own 3,.con tI,.var tI]),cE⟩ [(.ret,⟨68,aN 2 (.box 4 0::.any::.nilp::.var tI::aN 17 [.own 3,.con tI]),cE⟩,[tI,tI,tI,ae,aa,af,ac,aa]),(.exit 0,⟨68,aN 2 (.box 4 0::aN 20 [.own 3,.con tI]),cE⟩,[tI,tI,ae,aa,af,ac,aa])]
def wn (ρ:Type):ä ρ:=⟨[1,3],49,0,wo,fun(p:Val (tyL wo.cs)) (v:Val (.pair tI ao)) b a=>jX p.1 p.2.2.2.2.2.2.2.2.2.2.2.2 v.1 v.2.1 v.2.2.1 v.2.2.2.1 v.2.2.2.2.1 v.2.2.2.2.2.1 v.2.2.2.2.2.2.1 v.2.2.2.2.2.2.2 (fun c d e f g h i j=>b (c,d,e,f,g,h,i,j)) (a 0) (a 1)⟩
def Ml:List (Nat×å):=[(22,pd),(41,vF),(50,vA),(64,uG),(93,EW),(94,Rs)]
def JZ (ρ:Type):List (ä ρ):=[wn ρ]
def vd (ρ:Type):Env ρ:=ì Ml (JZ ρ)
def Ć:å:=⟨[Â,ah,ai,ak,tI,tI,ab],[.bool],fun(x:Val (.pair Â (.pair ah (.pair ai (.pair ak (.pair tI Ŋ))))))=>Ī x.1 x.2.1 x.2.2.1 x.2.2.2.1 x.2.2.2.2.1 x.2.2.2.2.2.1 x.2.2.2.2.2.2⟩
def ŏ:Ç:=Ls 0 [ah,ai,tI,tI,tI,ak,tI,tI,ae,aa,af,ac,aa,ai,tI,tI,ae,aa,af,ac,aa,tI,tI,ae,aa,af,ac,aa] [.bool,tI] ⟨338,.any::.con ah::.con ai::aN 2 (.con tI::.any::.box 0 0::aN 7 (.box 1 0::aN 2 (.box 2 0::aN 10 [.con tI,.con tI,.con ak,.any,.var .bool,.var tI]))),[bD,bt,bt]⟩ [(.exit 0,⟨338,.any::.con ah::.con ai::aN 2 (.con tI::.any::.box 0 0::aN 7 (.box 1 0::aN 2 (.box 2 0::aN 10 [.con tI,.con tI,.con ak,.any,.var .bool]))),[bD,bt,bt]⟩,[.bool])]
def Ŏ (ρ:Type):ä ρ:=⟨[],3,0,ŏ,fun(p:Val (tyL ŏ.cs)) (v:Val aK) a b=>let A:=p.2.2.2.2;Ï p.2.1 p.2.2.1 p.2.2.2.1 A.1 A.2.1 A.2.2.2.2.2.2.2.2.2.2.2.2.1 v.1 v.2 (fun c d=>a (c,d)) (b 0)⟩
def ō:Ç:=Ls 0 [ah,ai,tI,tI,tI,ab,tI,tI,tI,ae,aa,af,ac,aa,ai,tI,tI,ae,aa,af,ac,aa,tI,tI,ae,aa,af,ac,aa] [tI] ⟨338,.any::.con ah::.con ai::aN 2 (.con tI::.any::.box 0 0::aN 7 (.box 1 0::aN 2 (.box 2 0::aN 10 (.con tI::.con tI::aN 5 [.con ab,.con tI,.var tI])))),[bD,bt,bt]⟩ [(.ret,⟨338,.any::.con ah::.con ai::aN 2 (.con tI::.any::.box 0 0::aN 6 (.var .bool::.box 1 0::aN 2 (.box 2 0::aN 10 (.con tI::.con tI::aN 5 [.con ab,.con tI])))),[bD,bt,bt]⟩,[.bool]),(.exit 2,⟨338,.any::.con ah::.con ai::aN 2 (.con tI::.any::.box 0 0::aN 7 (.box 1 0::aN 2 (.box 2 0::aN 10 (.con tI::.con tI::aN 5 [.con ab,.con tI])))),[bD,bt,bt]⟩,[])]
def Ō (ρ:Type):ä ρ:=⟨[],3,2,ō,fun(p:Val (tyL ō.cs)) (v:Val tI) b a=>Ë p.1 p.2.2.2.2.2.1 p.2.2.2.2.2.2.2.2.2.2.2.2.2.2.1 v (fun c=>b c) (a 0) (a 1)⟩
def jq:List (Nat×å):=[(4,lB),(5,qk),(6,rz),(7,P1),(8,o9),(9,ql),(10,ru),(11,I9),(12,EP),(13,EO),(14,ZS),(15,UI),(16,iE),(17,mY),(18,Hz),(19,jz),(20,Rl),(21,Ja)]
def Ŗ (ρ:Type):List (ä ρ):=[Ŏ ρ,Ō ρ]
def ŝ:List JEnt:=[⟨[],3,18,0,⟨338,.any::.var ah::.var ai::.any::.var tI::.var tI::.any::.box 0 0::aN 7 (.box 1 0::.any::.any::.box 2 0::aN 5 [.var tI]),[.cells [.var tI,.var tI,.var ae,.var aa,.var af,.var ac,.var aa,.var ai],.cells [.var tI,.var tI,.var ae,.var aa,.var af,.var ac,.var aa],.cells [.var tI,.var tI,.var ae,.var aa,.var af,.var ac,.var aa]]⟩,[ah,ai,tI,tI,tI,tI,tI,ae,aa,af,ac,aa,ai,tI,tI,ae,aa,af,ac,aa,tI,tI,ae,aa,af,ac,aa]⟩,⟨[],3,23,0,⟨338,.any::.var ah::.var ai::.any::.any::.var tI::.any::.box 0 0::aN 7 (.box 1 0::.any::.any::.box 2 0::aN 10 [.var tI,.var tI,.var ak,.var tI]),[.cells [.var tI,.var tI,.var ae,.var aa,.var af,.var ac,.var aa,.var ai],.cells [.var tI,.var tI,.var ae,.var aa,.var af,.var ac,.var aa],.cells [.var tI,.var tI,.var ae,.var aa,.var af,.var ac,.var aa]]⟩,[ah,ai,tI,tI,tI,ak,tI,tI,tI,ae,aa,af,ac,aa,ai,tI,tI,ae,aa,af,ac,aa,tI,tI,ae,aa,af,ac,aa]⟩,⟨[],3,32,0,⟨338,.any::.var ah::.var ai::.any::.any::.var tI::.any::.box 0 0::aN 7 (.box 1 0::.any::.any::.box 2 0::aN 10 [.var tI,.var tI]),[.cells [.var tI,.var tI,.var ae,.var aa,.var af,.var ac,.var aa,.var ai],.cells [.var tI,.var tI,.var ae,.var aa,.var af,.var ac,.var aa],.cells [.var tI,.var tI,.var ae,.var aa,.var af,.var ac,.var aa]]⟩,[ah,ai,tI,tI,tI,tI,tI,ae,aa,af,ac,aa,ai,tI,tI,ae,aa,af,ac,aa,tI,tI,ae,aa,af,ac,aa]⟩]
def ê (ρ:Type):Env ρ:=mkEnvJ jq (Ŗ ρ) ŝ
end Go.Proofs.ZzM
end
