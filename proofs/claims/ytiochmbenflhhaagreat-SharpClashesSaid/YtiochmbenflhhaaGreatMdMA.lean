/- lemmas -/
import Derived.Test.YtiochmbenflhhaaGreatAmF
import Derived.KernelRfl
import Derived.Test.YtiochmbenflhhaaGreatMdTA
import Derived.Test.YtiochmbenflhhaaGreatProg
set_option linter.all false
set_option linter.unusedSectionVars false
set_option linter.unusedVariables false
set_option linter.unusedSimpArgs false
noncomputable section
set_option maxRecDepth 100000
namespace Go.Proofs.ZzM
open Go Go.Am
def Sf:Nat→Bool
  |154=>true
  |227=>true
  |228=>true
  |229=>true
  |230=>true
  |231=>true
  |_=>false
def ae7:Nat→Bool
  |223=>true
  |_=>false
def Ab:Nat→Bool
  |224=>true
  |_=>false
def isInl:Nat→Bool
  |2=>true
  |41=>true
  |47=>true
  |48=>true
  |67=>true
  |104=>true
  |112=>true
  |115=>true
  |117=>true
  |120=>true
  |121=>true
  |122=>true
  |123=>true
  |124=>true
  |125=>true
  |126=>true
  |127=>true
  |128=>true
  |129=>true
  |130=>true
  |142=>true
  |143=>true
  |149=>true
  |150=>true
  |151=>true
  |152=>true
  |153=>true
  |161=>true
  |163=>true
  |164=>true
  |165=>true
  |171=>true
  |178=>true
  |186=>true
  |187=>true
  |188=>true
  |189=>true
  |191=>true
  |192=>true
  |194=>true
  |195=>true
  |206=>true
  |209=>true
  |210=>true
  |211=>true
  |212=>true
  |213=>true
  |216=>true
  |219=>true
  |220=>true
  |221=>true
  |225=>true
  |226=>true
  |232=>true
  |234=>true
  |236=>true
  |247=>true
  |248=>true
  |251=>true
  |252=>true
  |263=>true
  |264=>true
  |265=>true
  |266=>true
  |267=>true
  |268=>true
  |270=>true
  |271=>true
  |277=>true
  |278=>true
  |280=>true
  |281=>true
  |283=>true
  |284=>true
  |287=>true
  |288=>true
  |290=>true
  |292=>true
  |293=>true
  |_=>false
def isFz:Nat→Bool
  |13=>true
  |46=>true
  |79=>true
  |100=>true
  |_=>false
def isEat:Nat→Nat→Bool
  |36,4=>true
  |36,5=>true
  |41,67=>true
  |91,15=>true
  |91,91=>true
  |161,30=>true
  |167,8=>true
  |167,11=>true
  |171,25=>true
  |248,0=>true
  |_,_=>false
def arn:List Nat→Nat→Bool
  |p,117=>Nat.ble 10 p.length
  |_,_=>false
abbrev Ă {ρ:Type} (E:Env ρ) (f:Nat) (ts rs:List Ty) (x:Val (tyL ts)) (k:Val (tyL rs)→Option ρ):Option ρ:=topK E f (aft ts x) (fun h v=>Å (arg rs h v) k)
abbrev Ls (p:Nat) (c v:List Ty) (h:Tpl) (e:List (Exit×Tpl×List Ty)):Æ:=⟨p,c,v,h,e,false⟩
def Õ {ρ:Type} (pt:List (Nat×Ô)) (tab:List (Ú ρ)):Env ρ :=
  {P:=Tryz.prog,eat:=isEat,clone:=Sf,sort:=ae7,compact:=Ab,inl:=isInl,fz:=isFz,stop:=arn,pure:=akP pt,loops:=sn tab}
def arl {ρ:Type} (pt:List (Nat×Ô)) (tab:List (Ú ρ)) (us:List apb):Env ρ :=
  {P:=Tryz.prog,eat:=isEat,clone:=Sf,sort:=ae7,compact:=Ab,inl:=isInl,fz:=isFz,stop:=arn,pure:=akP pt,loops:=aeZ (Õ pt tab) us}
abbrev bp:ja:=.cells [.con tI,.con tI,.con ac,.con aa,.con af,.con ab,.con aa]
abbrev bq:ja:=.cells [.con tI,.con tI,.con tI,.con tI,.con tI,.con tI,.con tI,.con tI]
abbrev br:ja:=.cells [.con tI,.con tI,.con tI,.con tI]
abbrev bt:ja:=.cells [.con ae]
abbrev bu:ja:=.cells [.con tI]
abbrev bv:ja:=.cells [.con tI,.con tI,.con ae,.con ae,.con tI,.con tI,.con tI,.con tI]
abbrev bw:ja:=.cells [.con tI,.con tI]
abbrev bz:ja:=.cells [.con tI,.con ah]
abbrev bB:ja:=.cells [.own 6]
abbrev bC:ja:=.cells [.con tI,.con tI,.nils,.nils,.nils,.nils,.nils]
abbrev bD:ja:=.cells [.con tI,.con tI,.own 9,.own 10,.own 11,.con ab,.own 12]
abbrev bE:ja:=.cells [.con tI,.con tI,.con ac,.con aa,.con af,.con ab,.con aa,.con aa,.con tI,.own 3,.own 4]
abbrev bG:ja:=.cells [.con tI,.con tI,.con ac,.con aa,.con af,.con ab,.con aa,.con aa,.con tI,.own 2,.own 3]
abbrev bH:ja:=.cells [.var tI,.var tI,.var ac,.var aa,.var af,.var ab,.var aa]
abbrev bI:ja:=.cells [.con tI,.con tI,.con tI]
abbrev bJ:ja:=.cells [.con tI,.con tI,.nils,.nils,.nils,.nils,.nils,.con tI,.con tI,.con .bool,.con tI,.nils]
abbrev bK:ja:=.cells [.con tI,.con tI,.own 11,.own 12,.own 13,.con ab,.own 14]
abbrev bL:ja:=.cells [.con tI,.con tI,.con ac,.con aa,.con af,.con ab,.con aa,.con tI,.own 6]
abbrev bM:ja:=.cells [.omp 3]
abbrev bN:ja:=.cells [.con ac]
abbrev bO:ja:=.cells [.fn 122 []]
abbrev bP:ja:=.cells [.con aa]
abbrev bQ:ja:=.cells [.fn 123 [(2,0)]]
abbrev bR:ja:=.cells [.con af]
abbrev bS:ja:=.cells [.fn 124 [(2,0)]]
abbrev bT:ja:=.cells [.var tI,.var tI,.var tI,.var tI]
abbrev bU:ja:=.cells [.nils,.nils]
abbrev bV:ja:=.cells [.own 3,.own 4]
abbrev bW:ja:=.cells [.var tI,.var tI,.nils,.nils,.nils,.nils,.nils,.var tI,.nils,.nils,.var tI]
abbrev bX:List ja:=[bq,.rowv tI]
abbrev bY:List ja:=[bp,br]
abbrev bZ:List ja:=[bp,bv,.rowc tI]
abbrev b7:List ja:=[bz,.rowc tI,bz,bB,.rowv .bool,.rowc tI,.rowv tI]
abbrev b8:List ja:=[bz,.rowv tI,bz,bB,.rowv .bool,.rowc tI,.rowv tI]
abbrev b9:List ja:=[bz,.rowv tI,bz,bB,.rowv .bool,.rowv tI,.rowv tI]
abbrev ca:List ja:=[bz,.rowv tI]
abbrev cd:List ja:=[bp,bw,bC,bp,bC,.dead,bD,bC,.rowv È,.rowc Ï,.rowc Â,.rowc Ń,.rowc Â]
abbrev ce:List ja:=[bp,bq]
abbrev cf:List ja:=[bp,bG,.rowv Ĉ,.rowv Â]
abbrev cg:List ja:=[bp,bw,bw,.rowc Â,bH]
abbrev ci:List ja:=[bp,bw,bw,bw,.rowc Â,bH]
abbrev cj:List ja:=[.rowc ae,bz,.dead,.dead,.rowv tI]
abbrev cm:List ja:=[bz,.rowc ak,bI,bz,.rowv tI]
abbrev cn:List ja:=[bz,bu,bu,bz,.rowv tI]
abbrev cp:List ja:=[bp,.dead,.dead,bJ,.rowc Â,bH]
abbrev cq:List ja:=[bp,.dead,.dead,bJ,.rowc Â,bp,bz,.dead,.rowf Â 0,bp,bp]
abbrev cr:List ja:=[bp,bv,bC,.dead,.dead,bp,bC,.dead,bK,bC,.rowv È,.rowc Ï,.rowc Â,.rowc Ń,.rowc Â]
abbrev cu:List ja:=[bp,bw,bv,.rowc Â,bH]
abbrev cw:List ja:=[bp,bw,bw,bv,.rowc Â,bH]
abbrev cz:List ja:=[bp,bw,bw,bv,.rowc Â,bp,bz,.dead,bq,.rowf ae 0,.rowf ae 0,.rowf ae 0]
abbrev cA:List ja:=[bp,bp,bM,.mapc tI .bool,bv,bv]
abbrev cB:List ja:=[bp,bp,bM,.mapc tI .bool,bv]
abbrev cD:List ja:=[bp,bp,bM,.mapc tI .bool]
abbrev cE:List ja:=[bp,bp,bM,.mapc tI .bool,bN,bO]
abbrev cF:List ja:=[bp,bp,bM,.mapc tI .bool,bN,bO,bP,bQ]
abbrev cG:List ja:=[bp,bp,bM,.mapc tI .bool,bN,bO,bP,bQ,bP,bQ]
abbrev cH:List ja:=[bp,bp,bM,.mapc tI .bool,bN,bO,bP,bQ,bP,bQ,bR,bS]
abbrev cI:List ja:=[bp,bp,bM,.mapc tI .bool,bN,bO,bP,bQ,bP,bQ,bR,bS,bR,bS]
abbrev cJ:List ja:=[bp,.rowv tI]
abbrev cM:List ja:=[bp,.rowc tI,.rowv Â]
abbrev cN:List ja:=[bp,bU,bV,.rowv Ĉ,.rowv Â]
abbrev cO:List ja:=[bp,bp]
abbrev cQ:List ja:=[bz,.deepv .i64]
abbrev cR:List ja:=[bp,bp,bp]
abbrev cW:List ja:=[bz,.rowc ak,.deepv .i64]
def tT:Ô:=⟨[Â,tI,tI],[.bool],fun(x:Val å)=>Ζ x.1 x.2.1 x.2.2⟩
def aaI:List (Nat×Ô):=[]
def VG (ρ:Type):List (Ú ρ):=[]
def LY (ρ:Type):Env ρ:=Õ aaI (VG ρ)
def lf:Ô:=⟨[tI,tI,tI],[.bool],fun(x:Val Ĉ)=>Ě x.1 x.2.1 x.2.2⟩
def aas:List (Nat×Ô):=[]
def Vr (ρ:Type):List (Ú ρ):=[]
def LX (ρ:Type):Env ρ:=Õ aas (Vr ρ)
def Fs:Ô:=⟨[tI],[.bool],fun(x:Val tI)=>oi x⟩
def aeM:List (Nat×Ô):=[(144,lf)]
def aaG (ρ:Type):List (Ú ρ):=[]
def RL (ρ:Type):Env ρ:=Õ aeM (aaG ρ)
def Ya:Ô:=⟨[tI],[(.int .u64)],fun(x:Val tI)=>sw x⟩
def aha:List (Nat×Ô):=[]
def aep (ρ:Type):List (Ú ρ):=[]
def WX (ρ:Type):Env ρ:=Õ aha (aep ρ)
def agy:Ô:=⟨[(.int .u64),(.int .u64)],[(.int .u64)],fun(x:Val bn)=>SE x.1 x.2⟩
def aer:Æ:=Ls 0 [] [(.int .u64),(.int .u64)] ⟨12,[.var (.int .u64),.var (.int .u64)],[]⟩ [(.exit 0,⟨12,[.var (.int .u64)],[]⟩,[(.int .u64)])]
def LU (ρ:Type):Ú ρ:=⟨[],250,0,aer,fun(p:Unit) (v:Val bn) a b=>AY v.1 v.2 (fun c d=>a (c,d)) (b 0)⟩
def akz:List (Nat×Ô):=[]
def ahb (ρ:Type):List (Ú ρ):=[LU ρ]
def Rp (ρ:Type):Env ρ:=Õ akz (ahb ρ)
def Fo:Ô:=⟨[Â],[.bool],fun(x:Val Â)=>uV x⟩
def aeu:List (Nat×Ô):=[(249,Ya),(250,agy)]
def aam (ρ:Type):List (Ú ρ):=[]
def Rr (ρ:Type):Env ρ:=Õ aeu (aam ρ)
def O2:Ô:=⟨[Ï],[.bool],fun(x:Val Ï)=>wV x⟩
def VF:List (Nat×Ô):=[(109,tT),(144,lf),(176,Fs),(218,Fo)]
def RJ (ρ:Type):List (Ú ρ):=[]
def Hk (ρ:Type):Env ρ:=Õ VF (RJ ρ)
def yn:Ô:=⟨[Ã],[tI],fun(x:Val Ã)=>ų x⟩
def BT:Æ:=Ls 0 [ac,tI,tI,tI,ac,aa,af,ab,aa] [tI] ⟨31,.any::.box 0 0::aN 4 [.con ac,.con tI,.var tI],[bp]⟩ [(.ret,⟨31,[.any,.box 0 0,.var tI,.any,.any,.any,.con ac,.con tI],[bp]⟩,[tI]),(.exit 0,⟨31,.any::.box 0 0::aN 4 [.con ac,.con tI],[bp]⟩,[])]
def oI (ρ:Type):Ú ρ:=⟨[],110,0,BT,fun(p:Val (.pair ac aF)) (v:Val tI) b a=>jn p.1 p.2.1 p.2.2.2.2.1 v (fun c=>b c) (a 0) (a 1)⟩
def Hp:List (Nat×Ô):=[(174,O2)]
def Eu (ρ:Type):List (Ú ρ):=[oI ρ]
def m6 (ρ:Type):Env ρ:=Õ Hp (Eu ρ)
def DA:Ô:=⟨[Ã],[au],fun(x:Val Ã)=>η x⟩
def Nv:Æ:=Ls 0 [ac,tI] [tI,au] ⟨20,aN 3 (.omp 0::aN 4 [.con ac,.con tI,.var tI]),[.mapv tI Ï]⟩ [(.exit 0,⟨20,aN 3 (.omp 0::aN 4 [.con ac,.con tI]),[.mapv tI Ï]⟩,[au])]
def xH (ρ:Type):Ú ρ:=⟨[],111,0,Nv,fun(p:Val (.pair ac tI)) (v:Val (.pair tI au)) a b=>nv p.1 p.2 v.1 v.2 (fun c d=>a (c,d)) (b 0)⟩
def Vt:List (Nat×Ô):=[]
def RA (ρ:Type):List (Ú ρ):=[xH ρ]
def wg (ρ:Type):Env ρ:=Õ Vt (RA ρ)
def tN:Ô:=⟨[ae,tI],[tI],fun(x:Val aL)=>jR x.1 x.2⟩
def xM:Æ:=Ls 0 [ae,tI,tI] [tI] ⟨19,.con ae::.con tI::aN 5 [.con tI,.var tI],[]⟩ [(.ret,⟨19,[.con ae,.con tI,.any,.any,.var tI,.any,.any,.con tI],[]⟩,[tI]),(.exit 0,⟨19,.con ae::.con tI::aN 5 [.con tI],[]⟩,[])]
def mC (ρ:Type):Ú ρ:=⟨[],116,0,xM,fun(p:Val (.pair ae Â)) (v:Val tI) b a=>χ p.1 p.2.1 p.2.2 v (fun c=>b c) (a 0) (a 1)⟩
def BG:List (Nat×Ô):=[]
def yv (ρ:Type):List (Ú ρ):=[mC ρ]
def kR (ρ:Type):Env ρ:=Õ BG (yv ρ)
def j3:Ô:=⟨[ae,tI],[.bool],fun(x:Val aL)=>Ĥ x.1 x.2⟩
def vy:List (Nat×Ô):=[(116,tN)]
def tX (ρ:Type):List (Ú ρ):=[]
def mD (ρ:Type):Env ρ:=Õ vy (tX ρ)
def Ye:Ô:=⟨[Ã,Ï],[ae],fun(x:Val (.pair Ã Ï))=>pl x.1 x.2⟩
def Ho:Æ:=Ls 0 [ab,tI,tI,tI,ac,aa,af,ab,aa,tI,tI,tI,tI,tI,tI,tI,tI] [tI,ae] ⟨59,aN 2 (.box 0 0::.box 1 0::.any::.own 2::aN 8 [.con ab,.con tI,.var tI]),[bp,bq,.rowv tI]⟩ [(.exit 0,⟨59,aN 2 (.box 0 0::.box 1 0::.any::.own 2::aN 8 [.con ab,.con tI]),[bp,bq,.rowv tI]⟩,[ae])]
def Hn (ρ:Type):Ú ρ:=⟨[],181,0,Ho,fun(p:Val (tyL Ho.cs)) (v:Val aw) a b=>ww p.1 p.2.1 p.2.2.2.2.2.2.2.2.2.1 v.1 v.2 (fun c d=>a (c,d)) (b 0)⟩
def Hm:Æ:=Ls 0 [aa,tI,tI,tI,tI,tI,tI,tI,tI,tI] [tI,ae] ⟨59,aN 3 (.box 0 0::.any::.own 1::aN 32 [.con aa,.con tI,.var tI]),bX⟩ [(.exit 2,⟨59,aN 3 (.box 0 0::.any::.own 1::aN 32 [.con aa,.con tI]),bX⟩,[ae])]
def Hl (ρ:Type):Ú ρ:=⟨[],181,2,Hm,fun(p:Val (tyL Hm.cs)) (v:Val aw) a b=>wu p.1 p.2.1 p.2.2.1 v.1 v.2 (fun c d=>a (c,d)) (b 0)⟩
def ahs:List (Nat×Ô):=[(49,j3)]
def aeO (ρ:Type):List (Ú ρ):=[Hn ρ,Hl ρ]
def A1 (ρ:Type):Env ρ:=Õ ahs (aeO ρ)
def Fr:Ô:=⟨[Ã],[aa],fun(x:Val Ã)=>qL x⟩
def C9:Æ:=Ls 0 [ac,tI,tI,ae,tI,tI,tI,ac,aa,af,ab,aa,tI,tI,tI,tI,tI,tI,tI,tI] [tI,aa] ⟨33,.any::.box 0 0::.any::.own 1::.any::.box 2 0::aN 3 (.con ac::.con tI::.con tI::aN 5 [.con ae,.con tI,.var tI]),[bp,.rowv Â,bq]⟩ [(.exit 2,⟨33,.any::.box 0 0::.any::.own 1::.any::.box 2 0::aN 3 (.con ac::.con tI::.con tI::aN 5 [.con ae,.con tI]),[bp,.rowv Â,bq]⟩,[aa])]
def C8 (ρ:Type):Ú ρ:=⟨[],113,2,C9,fun(p:Val (tyL C9.cs)) (v:Val aI) a b=>sh p.2.2.2.1 p.2.2.2.2.1 p.2.2.2.2.2.2.2.2.2.2.2.2.1 v.1 v.2 (fun c d=>a (c,d)) (b 0)⟩
def Vv:Æ:=Ls 0 [ac,tI,tI,tI,ac,aa,af,ab,aa] [tI,aa] ⟨33,.any::.box 0 0::.any::.own 1::aN 5 [.con ac,.con tI,.var tI],[bp,.rowv Â]⟩ [(.exit 0,⟨33,.any::.box 0 0::.any::.own 1::aN 5 [.con ac,.con tI],[bp,.rowv Â]⟩,[aa])]
def Da (ρ:Type):Ú ρ:=⟨[],113,0,Vv,fun(p:Val (.pair ac aF)) (v:Val aI) a b=>let A:=p.2.2.2.2;si p.1 p.2.1 p.2.2.1 p.2.2.2.1 A.1 A.2.1 A.2.2.1 A.2.2.2.1 A.2.2.2.2 v.1 v.2 (fun c d=>a (c,d)) (b 0)⟩
def aeF:List (Nat×Ô):=[(181,Ye)]
def aay (ρ:Type):List (Ú ρ):=[C8 ρ,Da ρ]
def wj (ρ:Type):Env ρ:=Õ aeF (aay ρ)
def nk:Ô:=⟨[au,tI,tI],[tI],fun(x:Val (.pair au Â))=>je x.1 x.2.1 x.2.2⟩
def Kr:List (Nat×Ô):=[]
def G2 (ρ:Type):List (Ú ρ):=[]
def xI (ρ:Type):Env ρ:=Õ Kr (G2 ρ)
def agA:Ô:=⟨[tI,tI,(.ptr au)],[tI],fun(x:Val (.pair tI (.pair tI (.ptr au))))=>ĺ x.1 x.2.1 x.2.2⟩
def Vu:List (Nat×Ô):=[(176,Fs),(177,nk)]
def RC (ρ:Type):List (Ú ρ):=[]
def G4 (ρ:Type):Env ρ:=Õ Vu (RC ρ)
def Yf:Ô:=⟨[Ã,au,tI],[tI],fun(x:Val bo)=>Λ x.1 x.2.1 x.2.2⟩
def sm:Æ:=Ls 2 [af,tI,tI,tI,ac,aa,af,ab,aa,tI,tI,tI,tI] [tI] ⟨19,.con af::.fn 219 [(1,0)]::aN 5 [.con tI,.var tI],bY⟩ [(.ret,⟨19,[.con af,.fn 219 [(1,0)],.any,.any,.var tI,.any,.any,.con tI],bY⟩,[tI]),(.exit 0,⟨19,.con af::.fn 219 [(1,0)]::aN 5 [.con tI],bY⟩,[])]
def sl (ρ:Type):Ú ρ:=⟨[9,5,1,2],236,0,sm,fun(p:Val (tyL sm.cs)) (v:Val tI) b a=>let A:=p.2.2.2.2.2.2.2.2.2;kG p.1 p.2.1 A.1 A.2.1 A.2.2.1 v (fun c=>b c) (a 0) (a 1)⟩
def sk:Æ:=Ls 2 [aa,tI,tI,tI,ac,aa,af,ab,aa,tI,tI,tI,tI] [tI] ⟨19,.con aa::.fn 220 [(1,0)]::aN 5 [.con tI,.var tI],bY⟩ [(.ret,⟨19,[.con aa,.fn 220 [(1,0)],.any,.any,.var tI,.any,.any,.con tI],bY⟩,[tI]),(.exit 0,⟨19,.con aa::.fn 220 [(1,0)]::aN 5 [.con tI],bY⟩,[])]
def sj (ρ:Type):Ú ρ:=⟨[9,10,1,2],234,0,sk,fun(p:Val (tyL sk.cs)) (v:Val tI) b a=>let A:=p.2.2.2.2.2.2.2.2.2;Δ p.1 p.2.1 A.1 A.2.1 A.2.2.1 v (fun c=>b c) (a 0) (a 1)⟩
def NB:List (Nat×Ô):=[(109,tT),(144,lf),(177,nk)]
def Kz (ρ:Type):List (Ú ρ):=[sl ρ,sj ρ]
def l6 (ρ:Type):Env ρ:=Õ NB (Kz ρ)
def Œ:Ô:=⟨[ak],[ae],fun(x:Val ak)=>í x⟩
def lP:Æ:=Ls 0 [ak,ak,tI] [tI,tI] ⟨36,.con ak::aN 2 (.var tI::aN 5 [.con ak,.con tI,.var tI]),[]⟩ [(.exit 0,⟨36,.con ak::aN 2 (.var tI::aN 5 [.con ak,.con tI]),[]⟩,[tI])]
def lO (ρ:Type):Ú ρ:=⟨[],100,0,lP,fun(p:Val (tyL lP.cs)) (v:Val Â) a b=>ĵ p.2.1 p.2.2 v.1 v.2 (fun c d=>a (c,d)) (b 0)⟩
def vz:Æ:=Ls 0 [ak,tI] [tI,ae] ⟨36,aN 6 (.own 0::aN 18 [.con ak,.con tI,.var tI]),[.rowv tI]⟩ [(.exit 2,⟨36,aN 6 (.own 0::aN 18 [.con ak,.con tI]),[.rowv tI]⟩,[ae])]
def lN (ρ:Type):Ú ρ:=⟨[],100,2,vz,fun(p:Val (.pair ak tI)) (v:Val aw) a b=>ð p.1 p.2 v.1 v.2 (fun c d=>a (c,d)) (b 0)⟩
def yx:List (Nat×Ô):=[]
def xN (ρ:Type):List (Ú ρ):=[lO ρ,lN ρ]
def ψ (ρ:Type):Env ρ:=Õ yx (xN ρ)
def I6:Ô:=⟨[ae],[.bool],fun(x:Val ae)=>nf x⟩
def RI:Æ:=Ls 0 [ae,ae,tI] [tI] ⟨32,.con ae::aN 4 [.con ae,.con tI,.var tI],[]⟩ [(.ret,⟨32,[.con ae,.any,.var .bool,.any,.any,.con ae,.con tI],[]⟩,[.bool]),(.exit 0,⟨32,.con ae::aN 4 [.con ae,.con tI],[]⟩,[])]
def zT (ρ:Type):Ú ρ:=⟨[],182,0,RI,fun(p:Val (.pair ae aL)) (v:Val tI) b a=>pd p.1 p.2.1 p.2.2 v (fun c=>b c) (a 0) (a 1)⟩
def aaF:List (Nat×Ô):=[(144,lf)]
def VD (ρ:Type):List (Ú ρ):=[zT ρ]
def zU (ρ:Type):Env ρ:=Õ aaF (VD ρ)
def AO:Ô:=⟨[ae,ae],[ae],fun(x:Val aO)=>Š x.1 x.2⟩
def aaD:Æ:=Ls 2 [tI,ae,ae] [tI] ⟨19,.own 1::.fn 226 [(0,0)]::aN 5 [.con tI,.var tI],[bt,.rowc tI]⟩ [(.ret,⟨19,[.own 1,.fn 226 [(0,0)],.any,.any,.var tI,.any,.any,.con tI],[bt,.rowc tI]⟩,[tI]),(.exit 0,⟨19,.own 1::.fn 226 [(0,0)]::aN 5 [.con tI],[bt,.rowc tI]⟩,[])]
def Hj (ρ:Type):Ú ρ:=⟨[1,3,1,2],115,0,aaD,fun(p:Val (.pair tI aO)) (v:Val tI) b a=>wt p.1 p.2.1 p.2.2 v (fun c=>b c) (a 0) (a 1)⟩
def aaC:Æ:=Ls 2 [ae] [tI,tI,ae] ⟨42,[.own 1,.fn 226 [(0,0)],.any,.any,.any,.var tI,.var tI],[bt,.rowv tI]⟩ [(.exit 0,⟨42,[.own 1,.fn 226 [(0,0)],.any,.any,.any,.var tI],[bt,.rowv tI]⟩,[tI,ae])]
def Hg (ρ:Type):Ú ρ:=⟨[1,3],225,0,aaC,fun(p:Val ae) (v:Val (.pair tI aw)) a b=>kX p v.1 v.2.1 v.2.2 (fun c d e=>a (c,d,e)) (b 0)⟩
def ahr:List (Nat×Ô):=[(49,j3)]
def aeK (ρ:Type):List (Ú ρ):=[Hj ρ,Hg ρ]
def A0 (ρ:Type):Env ρ:=Õ ahr (aeK ρ)
def aiW:Ô:=⟨[Ã,tI,tI],[Ń,.bool],fun(x:Val aG)=>Bm x.1 x.2.1 x.2.2⟩
def Hr:Æ:=Ls 4 [af,tI,tI,tI,ac,aa,af,ab,aa,tI,tI,tI,tI,tI,tI] [tI] ⟨19,.con af::.fn 251 [(1,0),(2,0)]::aN 5 [.con tI,.var tI],[bp,bu,bu,br]⟩ [(.ret,⟨19,[.con af,.fn 251 [(1,0),(2,0)],.any,.any,.var tI,.any,.any,.con tI],[bp,bu,bu,br]⟩,[tI]),(.exit 0,⟨19,.con af::.fn 251 [(1,0),(2,0)]::aN 5 [.con tI],[bp,bu,bu,br]⟩,[])]
def Hq (ρ:Type):Ú ρ:=⟨[1,3],236,0,Hr,fun(p:Val (tyL Hr.cs)) (v:Val tI) b a=>wy p.1 p.2.1 p.2.2.2.2.2.2.2.2.2.1 p.2.2.2.2.2.2.2.2.2.2.1 v (fun c=>b c) (a 0) (a 1)⟩
def aht:List (Nat×Ô):=[(144,lf)]
def aeQ (ρ:Type):List (Ú ρ):=[Hq ρ]
def KB (ρ:Type):Env ρ:=Õ aht (aeQ ρ)
def Mn:Ô:=⟨[Ã,au,tI],[tI],fun(x:Val bo)=>Ľ x.1 x.2.1 x.2.2⟩
def nZ:Æ:=Ls 2 [ab,tI,tI,tI,ac,aa,af,ab,aa,tI,tI,ae,ae,tI,tI,tI,tI] [tI] ⟨19,.con ab::.fn 221 [(1,0)]::aN 5 [.con tI,.var tI],[bp,bv]⟩ [(.ret,⟨19,[.con ab,.fn 221 [(1,0)],.any,.any,.var tI,.any,.any,.con tI],[bp,bv]⟩,[tI]),(.exit 0,⟨19,.con ab::.fn 221 [(1,0)]::aN 5 [.con tI],[bp,bv]⟩,[])]
def nY (ρ:Type):Ú ρ:=⟨[4,5,1,2],187,0,nZ,fun(p:Val (tyL nZ.cs)) (v:Val tI) b a=>iM p.1 p.2.1 p.2.2.2.2.2.2.2.2.2.1 v (fun c=>b c) (a 0) (a 1)⟩
def nV:Æ:=Ls 0 [au,ae,tI,tI,tI,ae,tI,tI,tI,ac,aa,af,ab,aa,tI,tI,ae,ae,tI,tI,tI,tI,ae] [tI] ⟨140,.any::.con au::.any::.box 0 0::aN 3 (.box 1 0::.con ae::.any::.con tI::aN 65 [.own 2,.con tI,.con tI,.any,.any,.any,.con ae,.con tI,.var tI]),bZ⟩ [(.ret,⟨140,.any::.con au::.any::.box 0 0::aN 2 (.var tI::.box 1 0::.con ae::.any::.con tI::aN 65 [.own 2,.con tI,.con tI,.any,.any,.any,.con ae,.con tI]),bZ⟩,[tI]),(.exit 2,⟨140,.any::.con au::.any::.box 0 0::aN 3 (.box 1 0::.con ae::.any::.con tI::aN 65 [.own 2,.con tI,.con tI,.any,.any,.any,.con ae,.con tI]),bZ⟩,[])]
def nT (ρ:Type):Ú ρ:=⟨[],180,2,nV,fun(p:Val (tyL nV.cs)) (v:Val tI) b a=>let A:=p.2.2.2.2.2;iL p.1 p.2.2.1 A.1 A.2.1 A.2.2.2.2.2.2.2.2.2.2.1 v (fun c=>b c) (a 0) (a 1)⟩
def nX:Æ:=Ls 0 [au,ae,tI,tI,tI,ac,aa,af,ab,aa,tI,tI,ae,ae,tI,tI,tI,tI,ae] [tI] ⟨140,.any::.con au::.any::.box 0 0::aN 3 (.box 1 0::.con ae::aN 67 [.own 2,.con tI,.var tI]),bZ⟩ [(.ret,⟨140,.any::.con au::.any::.box 0 0::aN 2 (.var tI::.box 1 0::.con ae::aN 67 [.own 2,.con tI]),bZ⟩,[tI]),(.exit 0,⟨140,.any::.con au::.any::.box 0 0::aN 3 (.box 1 0::.con ae::aN 67 [.own 2,.con tI]),bZ⟩,[])]
def nW (ρ:Type):Ú ρ:=⟨[],180,0,nX,fun(p:Val (tyL nX.cs)) (v:Val tI) b a=>ň p.1 p.2.1 p.2.2.1 p.2.2.2.2.2.2.2.2.2.2.2.1 p.2.2.2.2.2.2.2.2.2.2.2.2.2.2.2.2.2.2 v (fun c=>b c) (a 0) (a 1)⟩
def nS:Æ:=Ls 0 [ae,tI,tI,tI,ac,aa,af,ab,aa,tI,tI,ae,ae,tI,tI,tI,tI] [tI] ⟨140,aN 3 (.box 0 0::aN 3 (.box 1 0::aN 90 [.con ae,.con tI,.var tI])),[bp,bv]⟩ [(.ret,⟨140,aN 3 (.box 0 0::aN 2 (.var tI::.box 1 0::aN 90 [.con ae,.con tI])),[bp,bv]⟩,[tI]),(.exit 4,⟨140,aN 3 (.box 0 0::aN 3 (.box 1 0::aN 90 [.con ae,.con tI])),[bp,bv]⟩,[])]
def nR (ρ:Type):Ú ρ:=⟨[],180,4,nS,fun(p:Val (tyL nS.cs)) (v:Val tI) b a=>let A:=p.2.2.2.2;Ň p.1 p.2.1 p.2.2.1 p.2.2.2.1 A.1 A.2.1 A.2.2.1 A.2.2.2.1 A.2.2.2.2.1 A.2.2.2.2.2.2.1 v (fun c=>b c) (a 0) (a 1)⟩
def Ex:List (Nat×Ô):=[(100,Œ),(109,tT),(144,lf),(176,Fs),(177,nk),(182,I6),(183,AO),(222,aiW)]
def BU (ρ:Type):List (Ú ρ):=[nY ρ,nT ρ,nW ρ,nR ρ]
def Ŕ (ρ:Type):Env ρ:=Õ Ex (BU ρ)
def Ś:Ô:=⟨[Ã],[tI],fun(x:Val Ã)=>û x⟩
def pS:Ô:=⟨[Ã,aa,aa],[Ã],fun(x:Val (.pair Ã (.pair aa aa)))=>SD x.1 x.2.1 x.2.2⟩
noncomputable def ad8:Æ:=Ls 8 [ae,tI,tI,tI,ac,aa,af,ab,aa,tI,tI,am,tI,tI] [tI,am] ⟨34,.any::.any::.any::.box 2 0::aN 21 [.con ae,.con tI,.var tI],[.cells [.con tI,.con tI,.con ac,.con aa,.con af,.con ab,.con aa],.cells [.con tI,.con tI,.nils,.nils,.nils,.nils,.nils],.cells [.omp 5],.cells [.omp 6],.cells [.nilfn,.fn 151 [(2,0),(0,0)],.fn 151 [(2,0),(0,0)],.fn 152 [(3,0),(0,0),(2,0)]],.mapv tI .bool,.mapc tI .bool,.cells [.con tI,.con tI]]⟩ [(.exit 0,⟨34,.any::.any::.any::.box 2 0::aN 21 [.con ae,.con tI],[.cells [.con tI,.con tI,.con ac,.con aa,.con af,.con ab,.con aa],.cells [.con tI,.con tI,.nils,.nils,.nils,.nils,.nils],.cells [.omp 5],.cells [.omp 6],.cells [.nilfn,.fn 151 [(2,0),(0,0)],.fn 151 [(2,0),(0,0)],.fn 152 [(3,0),(0,0),(2,0)]],.mapv tI .bool,.mapc tI .bool,.cells [.con tI,.con tI]]⟩,[am])]
noncomputable def LO (ρ:Type):Ú ρ:=⟨[7,5],152,0,ad8,fun(p:Val (.pair ae (.pair tI (.pair tI (.pair tI (.pair ac (.pair aa (.pair af (.pair ab (.pair aa (.pair tI (.pair tI (.pair am Â))))))))))))) (v:Val (.pair tI am)) kn kx=>un p.1 p.2.1 v.1 v.2 (fun u0 u1=>kn (u0,u1)) (kx 0)⟩
noncomputable def ad9:Æ:=Ls 0 [aa,aa,tI,tI,tI,ac,aa,af,ab,aa,tI,tI] [tI,am,am] ⟨130,.any::.any::.con aa::.box 0 0::.any::.any::.box 1 0::.box 2 0::.box 3 0::.any::.box 4 0::aN 19 [.con aa,.con tI,.var tI],[.cells [.con tI,.con tI,.con ac,.con aa,.con af,.con ab,.con aa],.cells [.con tI,.con tI,.nils,.nils,.nils,.nils,.nils],.cells [.omp 5],.cells [.omp 6],.cells [.nilfn,.fn 151 [(2,0),(0,0)],.fn 151 [(2,0),(0,0)],.fn 152 [(3,0),(0,0),(2,0)]],.mapv tI .bool,.mapv tI .bool]⟩ [(.exit 0,⟨130,.any::.any::.con aa::.box 0 0::.any::.any::.box 1 0::.box 2 0::.box 3 0::.any::.box 4 0::aN 19 [.con aa,.con tI],[.cells [.con tI,.con tI,.con ac,.con aa,.con af,.con ab,.con aa],.cells [.con tI,.con tI,.nils,.nils,.nils,.nils,.nils],.cells [.omp 5],.cells [.omp 6],.cells [.nilfn,.fn 151 [(2,0),(0,0)],.fn 151 [(2,0),(0,0)],.fn 152 [(3,0),(0,0),(2,0)]],.mapv tI .bool,.mapv tI .bool]⟩,[am,am])]
noncomputable def LP (ρ:Type):Ú ρ:=⟨[],79,0,ad9,fun(p:Val (.pair aa (.pair aa (.pair tI (.pair tI (.pair tI (.pair ac (.pair aa (.pair af (.pair ab bg)))))))))) (v:Val (.pair tI (.pair am am))) kn kx=>AU p.2.1 p.2.2.1 p.2.2.2.2.2.1 p.2.2.2.2.2.2.2.2.1 v.1 v.2.1 v.2.2 (fun u0 u1 u2=>kn (u0,u1,u2)) (kx 0)⟩
noncomputable def ad7:Æ:=Ls 0 [aa,aa,tI,tI,tI,ac,aa,af,ab,aa,tI,tI,am] [tI,am] ⟨130,.any::.any::.con aa::.box 0 0::.any::.any::.box 1 0::.box 2 0::.box 3 0::aN 34 [.con aa,.con tI,.var tI],[.cells [.con tI,.con tI,.con ac,.con aa,.con af,.con ab,.con aa],.cells [.con tI,.con tI,.nils,.nils,.nils,.nils,.nils],.cells [.omp 4],.cells [.omp 5],.mapv tI .bool,.mapc tI .bool]⟩ [(.exit 2,⟨130,.any::.any::.con aa::.box 0 0::.any::.any::.box 1 0::.box 2 0::.box 3 0::aN 34 [.con aa,.con tI],[.cells [.con tI,.con tI,.con ac,.con aa,.con af,.con ab,.con aa],.cells [.con tI,.con tI,.nils,.nils,.nils,.nils,.nils],.cells [.omp 4],.cells [.omp 5],.mapv tI .bool,.mapc tI .bool]⟩,[am])]
noncomputable def LN (ρ:Type):Ú ρ:=⟨[],79,2,ad7,fun(p:Val (.pair aa (.pair aa (.pair tI (.pair tI (.pair tI (.pair ac (.pair aa (.pair af (.pair ab (.pair aa (.pair tI (.pair tI am))))))))))))) (v:Val (.pair tI am)) kn kx=>uk p.2.1 p.2.2.1 v.1 v.2 (fun u0 u1=>kn (u0,u1)) (kx 0)⟩
noncomputable def ad6:Æ:=Ls 0 [aa,tI,tI,tI,ac,aa,af,ab,aa,tI,tI,ac,aa,af,ab,aa,tI,tI,aa,am,am,ac] [tI,aa] ⟨130,.any::.any::.any::.box 0 0::.any::.any::.box 1 0::.box 2 0::.box 3 0::aN 6 (.box 4 0::aN 52 [.con aa,.con tI,.var tI]),[.cells [.con tI,.con tI,.con ac,.con aa,.con af,.con ab,.con aa],.cells [.con tI,.con tI,.con ac,.con aa,.con af,.con ab,.con aa],.cells [.omp 5],.cells [.omp 6],.cells [.con tI,.con tI,.own 7,.own 8,.nils,.nils,.con aa],.mapc tI .bool,.mapc tI .bool,.rowc Ï,.rowv Â]⟩ [(.exit 6,⟨130,.any::.any::.any::.box 0 0::.any::.any::.box 1 0::.box 2 0::.box 3 0::aN 6 (.box 4 0::aN 52 [.con aa,.con tI]),[.cells [.con tI,.con tI,.con ac,.con aa,.con af,.con ab,.con aa],.cells [.con tI,.con tI,.con ac,.con aa,.con af,.con ab,.con aa],.cells [.omp 5],.cells [.omp 6],.cells [.con tI,.con tI,.own 7,.own 8,.nils,.nils,.con aa],.mapc tI .bool,.mapc tI .bool,.rowc Ï,.rowv Â]⟩,[aa])]
noncomputable def rY (ρ:Type):Ú ρ:=⟨[],79,6,ad6,fun(p:Val (.pair aa (.pair tI (.pair tI (.pair tI (.pair ac (.pair aa (.pair af (.pair ab (.pair aa (.pair tI (.pair tI (.pair ac (.pair aa (.pair af (.pair ab (.pair aa (.pair tI (.pair tI (.pair aa (.pair am (.pair am ac)))))))))))))))))))))) (v:Val aI) kn kx=>uj p.1 p.2.1 p.2.2.2.2.2.2.2.2.2.2.2.2.2.2.2.2.2.2.2.1 v.1 v.2 (fun u0 u1=>kn (u0,u1)) (kx 0)⟩
noncomputable def ad5:Æ:=Ls 0 [af,tI,tI,tI,ac,aa,af,ab,aa,tI,tI,ac,aa,af,ab,aa,tI,tI,aa,am,am,ac,aa] [tI,af] ⟨130,.any::.any::.any::.box 0 0::.any::.any::.box 1 0::.box 2 0::.box 3 0::aN 6 (.box 4 0::aN 70 [.con af,.con tI,.var tI]),[.cells [.con tI,.con tI,.con ac,.con aa,.con af,.con ab,.con aa],.cells [.con tI,.con tI,.con ac,.con aa,.con af,.con ab,.con aa],.cells [.omp 5],.cells [.omp 6],.cells [.con tI,.con tI,.own 7,.own 8,.own 9,.nils,.con aa],.mapc tI .bool,.mapc tI .bool,.rowc Ï,.rowc Â,.rowv Ń]⟩ [(.exit 8,⟨130,.any::.any::.any::.box 0 0::.any::.any::.box 1 0::.box 2 0::.box 3 0::aN 6 (.box 4 0::aN 70 [.con af,.con tI]),[.cells [.con tI,.con tI,.con ac,.con aa,.con af,.con ab,.con aa],.cells [.con tI,.con tI,.con ac,.con aa,.con af,.con ab,.con aa],.cells [.omp 5],.cells [.omp 6],.cells [.con tI,.con tI,.own 7,.own 8,.own 9,.nils,.con aa],.mapc tI .bool,.mapc tI .bool,.rowc Ï,.rowc Â,.rowv Ń]⟩,[af])]
noncomputable def rX (ρ:Type):Ú ρ:=⟨[],79,8,ad5,fun(p:Val (.pair af (.pair tI (.pair tI (.pair tI (.pair ac (.pair aa (.pair af (.pair ab (.pair aa (.pair tI (.pair tI (.pair ac (.pair aa (.pair af (.pair ab (.pair aa (.pair tI (.pair tI (.pair aa (.pair am (.pair am (.pair ac aa))))))))))))))))))))))) (v:Val (.pair tI af)) kn kx=>uh p.1 p.2.1 p.2.2.2.2.2.2.2.2.2.2.2.2.2.2.2.2.2.2.2.1 v.1 v.2 (fun u0 u1=>kn (u0,u1)) (kx 0)⟩
noncomputable def ad4:Æ:=Ls 0 [ab,tI,tI,tI,ac,aa,af,ab,aa,tI,tI,aa,am,ac,aa,af] [tI,ab] ⟨130,aN 6 (.box 0 0::.any::.box 1 0::aN 6 (.box 2 0::aN 88 [.con ab,.con tI,.var tI])),[.cells [.con tI,.con tI,.con ac,.con aa,.con af,.con ab,.con aa],.cells [.omp 3],.cells [.con tI,.con tI,.own 4,.own 5,.own 6,.own 7,.con aa],.mapc tI .bool,.rowc Ï,.rowc Â,.rowc Ń,.rowv È]⟩ [(.exit 10,⟨130,aN 6 (.box 0 0::.any::.box 1 0::aN 6 (.box 2 0::aN 88 [.con ab,.con tI])),[.cells [.con tI,.con tI,.con ac,.con aa,.con af,.con ab,.con aa],.cells [.omp 3],.cells [.con tI,.con tI,.own 4,.own 5,.own 6,.own 7,.con aa],.mapc tI .bool,.rowc Ï,.rowc Â,.rowc Ń,.rowv È]⟩,[ab])]
noncomputable def rW (ρ:Type):Ú ρ:=⟨[],79,10,ad4,fun(p:Val (.pair ab (.pair tI (.pair tI (.pair tI (.pair ac (.pair aa (.pair af (.pair ab (.pair aa (.pair tI (.pair tI (.pair aa (.pair am (.pair ac (.pair aa af)))))))))))))))) (v:Val (.pair tI ab)) kn kx=>ug p.1 p.2.1 p.2.2.2.2.2.2.2.2.2.2.2.2.1 v.1 v.2 (fun u0 u1=>kn (u0,u1)) (kx 0)⟩
noncomputable def J1:List (Nat×Ô):=[(100,Œ)]
noncomputable def Ea (ρ:Type):List (Ú ρ):=[LO ρ,LP ρ,LN ρ,rY ρ,rX ρ,rW ρ]
noncomputable def Ű (ρ:Type):Env ρ:=Õ J1 (Ea ρ)
noncomputable def uf:Tpl:=⟨130,.any::.any::.any::.box 0 0::.any::.any::.box 1 0::.box 2 0::.box 3 0::aN 6 (.box 4 0::aN 43 [.fn 212 [(5,0),(6,0)]]),[.cells [.var tI,.var tI,.var ac,.var aa,.var af,.var ab,.var aa],.cells [.var tI,.var tI,.var ac,.var aa,.var af,.var ab,.var aa],.cells [.omp 7],.cells [.omp 8],.cells [.con tI,.con tI,.own 9,.nils,.nils,.nils,.con aa],.cells [.var tI,.var tI,.var ac,.var aa,.var af,.var ab,.var aa],.cells [.omp 7],.mapv tI .bool,.mapv tI .bool,.rowv Ï]⟩
noncomputable def QQ:Tpl:=⟨130,.any::.any::.any::.box 0 0::.any::.any::.box 1 0::.box 2 0::.box 3 0::aN 6 (.box 4 0::.box 10 0::aN 42 [.fn 212 [(5,0),(6,0)]]),[.cells [.var tI,.var tI,.var ac,.var aa,.var af,.var ab,.var aa],.cells [.var tI,.var tI,.var ac,.var aa,.var af,.var ab,.var aa],.cells [.omp 7],.cells [.omp 8],.cells [.con tI,.con tI,.own 9,.nils,.nils,.nils,.con aa],.cells [.var tI,.var tI,.var ac,.var aa,.var af,.var ab,.var aa],.cells [.omp 7],.mapv tI .bool,.mapv tI .bool,.rowv Ï,.cells [.var tI,.var tI,.var tI,.var tI,.var tI,.var tI,.var tI,.var tI]]⟩
noncomputable def rU (ρ:Type):List (Ú ρ):=[rY ρ,rX ρ,rW ρ]
noncomputable def ę (ρ:Type):Env ρ:={Õ J1 (rU ρ) with inl:=fun _=>false}
noncomputable def qq:Tpl:=⟨130,aN 6 [.box 0 0],[.cells [.var tI,.var tI,.var ac,.var aa,.var af,.var ab,.var aa]]⟩
abbrev jO:List Ty:=[tI,tI,ac,aa,af,ab,aa]
noncomputable def lp (y:Val Ã):Val ai:=(y.1.1,y.1.2,y.2.1,y.2.2.1,y.2.2.2.1,y.2.2.2.2.1,y.2.2.2.2.2)
noncomputable def Ğ:Code:=(sH Tryz.prog 79).getD .skip
abbrev jc:List Ty:=[tI,tI,aa]
abbrev m5:List Ty:=[tI,tI,ac,aa,af,ab,aa,tI,tI,ac,aa,af,ab,aa,tI,tI,ac,aa,af,ab,aa,am,am,ac]
abbrev AR:List Ty:=[tI,tI,ac,aa,af,ab,aa,tI,tI,ac,aa,af,ab,aa,tI,tI,ac,aa,af,ab,aa,am,am,ac,tI,tI,tI,tI,tI,tI,tI,tI]
abbrev ñ (v:Val aj):List (Val Ï):=v.2.2.2.2.2.2.2.2.2.2.2.2.2.2.2.2.1
abbrev œ (v:Val aj):List (Int×Bool):=v.2.2.2.2.2.2.2.2.2.2.2.2.2.2.2.2.2.2.2.2.2.1
abbrev vQ (v:Val aj):List (Val Ï):=v.2.2.2.2.2.2.2.2.2.2.2.2.2.2.2.2.2.2.2.2.2.2.2
noncomputable def ĝ (v:Val aj) (z:List (Val Ï)):Val aj:=(v.1,v.2.1,v.2.2.1,v.2.2.2.1,v.2.2.2.2.1,v.2.2.2.2.2.1,v.2.2.2.2.2.2.1,v.2.2.2.2.2.2.2.1,v.2.2.2.2.2.2.2.2.1,v.2.2.2.2.2.2.2.2.2.1,v.2.2.2.2.2.2.2.2.2.2.1,v.2.2.2.2.2.2.2.2.2.2.2.1,v.2.2.2.2.2.2.2.2.2.2.2.2.1,v.2.2.2.2.2.2.2.2.2.2.2.2.2.1,v.2.2.2.2.2.2.2.2.2.2.2.2.2.2.1,v.2.2.2.2.2.2.2.2.2.2.2.2.2.2.2.1,v.2.2.2.2.2.2.2.2.2.2.2.2.2.2.2.2.1,v.2.2.2.2.2.2.2.2.2.2.2.2.2.2.2.2.2.1,v.2.2.2.2.2.2.2.2.2.2.2.2.2.2.2.2.2.2.1,v.2.2.2.2.2.2.2.2.2.2.2.2.2.2.2.2.2.2.2.1,v.2.2.2.2.2.2.2.2.2.2.2.2.2.2.2.2.2.2.2.2.1,v.2.2.2.2.2.2.2.2.2.2.2.2.2.2.2.2.2.2.2.2.2.1,v.2.2.2.2.2.2.2.2.2.2.2.2.2.2.2.2.2.2.2.2.2.2.1,z)
noncomputable def Eb (v:Val aj) (x:Val Ï):Val (.pair tI (.pair tI (.pair ac (.pair aa (.pair af (.pair ab (.pair aa (.pair tI (.pair tI (.pair ac (.pair aa (.pair af (.pair ab (.pair aa (.pair tI (.pair tI (.pair ac (.pair aa (.pair af (.pair ab (.pair aa (.pair am (.pair am (.pair ac ar)))))))))))))))))))))))):=(v.1,v.2.1,v.2.2.1,v.2.2.2.1,v.2.2.2.2.1,v.2.2.2.2.2.1,v.2.2.2.2.2.2.1,v.2.2.2.2.2.2.2.1,v.2.2.2.2.2.2.2.2.1,v.2.2.2.2.2.2.2.2.2.1,v.2.2.2.2.2.2.2.2.2.2.1,v.2.2.2.2.2.2.2.2.2.2.2.1,v.2.2.2.2.2.2.2.2.2.2.2.2.1,v.2.2.2.2.2.2.2.2.2.2.2.2.2.1,v.2.2.2.2.2.2.2.2.2.2.2.2.2.2.1,v.2.2.2.2.2.2.2.2.2.2.2.2.2.2.2.1,v.2.2.2.2.2.2.2.2.2.2.2.2.2.2.2.2.1,v.2.2.2.2.2.2.2.2.2.2.2.2.2.2.2.2.2.1,v.2.2.2.2.2.2.2.2.2.2.2.2.2.2.2.2.2.2.1,v.2.2.2.2.2.2.2.2.2.2.2.2.2.2.2.2.2.2.2.1,v.2.2.2.2.2.2.2.2.2.2.2.2.2.2.2.2.2.2.2.2.1,v.2.2.2.2.2.2.2.2.2.2.2.2.2.2.2.2.2.2.2.2.2.1,v.2.2.2.2.2.2.2.2.2.2.2.2.2.2.2.2.2.2.2.2.2.2.1,v.2.2.2.2.2.2.2.2.2.2.2.2.2.2.2.2.2.2.2.2.2.2.2,x.1,x.2.1,x.2.2.1,x.2.2.2.1.1,x.2.2.2.1.2,x.2.2.2.2.1.1,x.2.2.2.2.1.2,x.2.2.2.2.2)
def Wi:Ô:=⟨[È],[.bool],fun(x:Val È)=>A9 x⟩
def Yv:List (Nat×Ô):=[]
def TN (ρ:Type):List (Ú ρ):=[]
def LB (ρ:Type):Env ρ:=Õ Yv (TN ρ)
def aiL:Ô:=⟨[Ã],[.bool],fun(x:Val Ã)=>HP x⟩
def Yt:Æ:=Ls 0 [tI,tI,ac,aa,af,ab,aa] [tI] ⟨50,[.any,.box 0 0,.any,.var tI],[bp]⟩ [(.ret,⟨50,[.any,.box 0 0,.var .bool],[bp]⟩,[.bool]),(.exit 0,⟨50,[.any,.box 0 0],[bp]⟩,[])]
def FC (ρ:Type):Ú ρ:=⟨[],7,0,Yt,fun(p:Val ai) (v:Val tI) b a=>vw p.2.2.2.2.2.1 v (fun c=>b c) (a 0) (a 1)⟩
def agG:List (Nat×Ô):=[(33,Wi)]
def ade (ρ:Type):List (Ú ρ):=[FC ρ]
def Jd (ρ:Type):Env ρ:=Õ agG (ade ρ)
def Ŭ:Ô:=⟨[aa,Â],[tI],fun(x:Val bg)=>ù x.1 x.2⟩
def mr:Æ:=Ls 0 [aa,tI,tI,tI] [tI] ⟨19,[.con aa,.any,.any,.box 0 0,.any,.any,.any,.con tI,.var tI],[bw]⟩ [(.ret,⟨19,[.con aa,.any,.any,.box 0 0,.var tI,.any,.any,.con tI],[bw]⟩,[tI]),(.exit 0,⟨19,[.con aa,.any,.any,.box 0 0,.any,.any,.any,.con tI],[bw]⟩,[])]
def ξ (ρ:Type):Ú ρ:=⟨[],119,0,mr,fun(p:Val (.pair aa Ĉ)) (v:Val tI) b a=>Ħ p.1 p.2.1 p.2.2.1 p.2.2.2 v (fun c=>b c) (a 0) (a 1)⟩
def nF:List (Nat×Ô):=[]
def mO (ρ:Type):List (Ú ρ):=[ξ ρ]
def Ŗ (ρ:Type):Env ρ:=Õ nF (mO ρ)
def j9:Ô:=⟨[Ã,Â],[tI,tI],fun(x:Val aG)=>Ŝ x.1 x.2⟩
def aeY:List (Nat×Ô):=[(43,Ś),(113,Fr),(119,Ŭ)]
def aaS (ρ:Type):List (Ú ρ):=[]
def RS (ρ:Type):Env ρ:=Õ aeY (aaS ρ)
def kP:Ô:=⟨[az,Â],[tI],fun(x:Val aV)=>ζ x.1 x.2⟩
def UT:List (Nat×Ô):=[(53,j9)]
def QH (ρ:Type):List (Ú ρ):=[]
def F7 (ρ:Type):Env ρ:=Õ UT (QH ρ)
def NX:Ô:=⟨[É,tI],[.bool],fun(x:Val (.pair É tI))=>sv x.1 x.2⟩
def ag5:List (Nat×Ô):=[]
def aeh (ρ:Type):List (Ú ρ):=[]
def WP (ρ:Type):Env ρ:=Õ ag5 (aeh ρ)
def tR:Ô:=⟨[É],[tI,tI],fun(x:Val É)=>oh x⟩
def Vo:Æ:=Ls 0 [ah,tI,tI,ah] [tI] ⟨57,.any::.box 0 0::aN 17 [.con ah,.con tI,.var tI],[bz]⟩ [(.ret,⟨57,.any::.box 0 0::.var tI::.var tI::aN 15 [.con ah,.con tI],[bz]⟩,[tI,tI]),(.exit 0,⟨57,.any::.box 0 0::aN 17 [.con ah,.con tI],[bz]⟩,[])]
def C0 (ρ:Type):Ú ρ:=⟨[],146,0,Vo,fun(p:Val (.pair ah aH)) (v:Val tI) b a=>sc p.1 p.2.1 p.2.2.1 p.2.2.2 v (fun c=>b c) (a 0) (a 1)⟩
def ael:List (Nat×Ô):=[(173,NX)]
def aaa (ρ:Type):List (Ú ρ):=[C0 ρ]
def Ej (ρ:Type):Env ρ:=Õ ael (aaa ρ)
def qY:Ô:=⟨[É,am],[ae,.bool],fun(x:Val (.pair É am))=>lr x.1 x.2⟩
def uF:Æ:=Ls 2 [am,ah,tI,tI,ah,ae,tI,ah,aB,ae] [tI,tI] ⟨140,.any::.con am::.own 1::.box 2 0::aN 3 (.box 3 0::.own 4::.own 5::.var tI::aN 14 [.con ah,.con tI,.var tI]),[bz,.rowc tI,bz,.cells [.nils],.rowc .bool,.rowc tI]⟩ [(.exit 0,⟨140,.any::.con am::.own 1::.box 2 0::aN 3 (.box 3 0::.own 4::.own 5::.var tI::aN 14 [.con ah,.con tI]),[bz,.rowc tI,bz,.cells [.nils],.rowc .bool,.rowc tI]⟩,[tI])]
def uE (ρ:Type):Ú ρ:=⟨[2,3],210,0,uF,fun(p:Val (tyL uF.cs)) (v:Val Â) a b=>ig p.2.1 p.2.2.1 v.1 v.2 (fun c d=>a (c,d)) (b 0)⟩
def uD:Æ:=Ls 2 [am,tI,tI,tI,ah,ae,tI,ah,ae] [tI,aB,ae] ⟨140,.any::.con am::.own 1::.box 2 0::aN 3 (.box 3 0::.own 4::.own 5::.con tI::aN 27 [.con tI,.var tI]),b7⟩ [(.exit 2,⟨140,.any::.con am::.own 1::.box 2 0::aN 3 (.box 3 0::.own 4::.own 5::.con tI::aN 27 [.con tI]),b7⟩,[aB,ae])]
def uC (ρ:Type):Ú ρ:=⟨[2,3],210,2,uD,fun(p:Val (tyL uD.cs)) (v:Val (.pair tI aS)) a b=>ŏ p.2.2.1 p.2.2.2.2.2.1 v.1 v.2.1 v.2.2 (fun c d e=>a (c,d,e)) (b 0)⟩
def uz:Æ:=Ls 2 [am,tI,tI,ah,tI,tI,ah,tI,ah,ae] [tI,ae,aB,ae] ⟨140,.any::.con am::.own 1::.box 2 0::aN 3 (.box 3 0::.own 4::.own 5::.con tI::aN 3 (.con tI::aN 62 [.con ah,.con tI,.var tI])),b8⟩ [(.ret,⟨140,.any::.con am::.own 1::.box 2 0::aN 2 (.var .bool::.box 3 0::.own 4::.own 5::.con tI::aN 3 (.con tI::aN 62 [.con ah,.con tI])),b8⟩,[.bool,ae,aB,ae]),(.exit 6,⟨140,.any::.con am::.own 1::.box 2 0::aN 3 (.box 3 0::.own 4::.own 5::.con tI::aN 3 (.con tI::aN 62 [.con ah,.con tI])),b8⟩,[ae,aB,ae])]
def uw (ρ:Type):Ú ρ:=⟨[2,3],210,6,uz,fun(p:Val (tyL uz.cs)) (v:Val (.pair tI (.pair ae aS))) b a=>jw p.1 p.2.1 p.2.2.1 p.2.2.2.1 p.2.2.2.2.1 v.1 v.2.1 v.2.2.1 v.2.2.2 (fun c d e f=>b (c,d,e,f)) (a 0) (a 1)⟩
def uB:Æ:=Ls 2 [am,tI,tI,ah,tI,ah] [ae,aB,ae,ae] ⟨140,[.any,.con am,.own 1,.box 2 0,.any,.any,.any,.box 3 0,.own 4,.own 5,.con tI],b9⟩ [(.ret,⟨140,[.any,.con am,.own 1,.box 2 0,.any,.any,.var .bool,.box 3 0,.own 4,.own 5,.con tI],b9⟩,[.bool,ae,aB,ae,ae])]
def uA (ρ:Type):Ú ρ:=⟨[2,3],210,4,uB,fun(p:Val (tyL uB.cs)) (v:Val ba) a b=>ī p.1 p.2.1 p.2.2.2.2.1 p.2.2.2.2.2 v.1 v.2.1 v.2.2.1 v.2.2.2 (fun c d e f=>a (c,d,e,f)) (b 0)⟩
def Kg:Æ:=Ls 0 [tI,tI] [tI,ae] ⟨34,aN 6 (.own 0::.con tI::aN 13 [.con tI,.var tI]),[.rowv tI]⟩ [(.exit 0,⟨34,aN 6 (.own 0::.con tI::aN 13 [.con tI]),[.rowv tI]⟩,[ae])]
def ut (ρ:Type):Ú ρ:=⟨[],147,0,Kg,fun(p:Val Â) (v:Val aw) a b=>jv p.1 p.2 v.1 v.2 (fun c d=>a (c,d)) (b 0)⟩
def Q1:List (Nat×Ô):=[]
def Nn (ρ:Type):List (Ú ρ):=[uE ρ,uC ρ,uw ρ,uA ρ,ut ρ]
def Φ (ρ:Type):Env ρ:=Õ Q1 (Nn ρ)
def acR:Ô:=⟨[É,ae],[tI],fun(x:Val aU)=>Ia x.1 x.2⟩
def Vl:Æ:=Ls 0 [ae,tI,tI,ah] [tI] ⟨37,aN 2 (.box 0 0::aN 16 [.con ae,.con tI,.var tI]),[bz]⟩ [(.ret,⟨37,aN 2 (.box 0 0::.any::.var tI::aN 14 [.con ae,.con tI]),[bz]⟩,[tI]),(.exit 0,⟨37,aN 2 (.box 0 0::aN 16 [.con ae,.con tI]),[bz]⟩,[])]
def CQ (ρ:Type):Ú ρ:=⟨[],184,0,Vl,fun(p:Val (.pair ae aH)) (v:Val tI) b a=>rZ p.1 p.2.1 p.2.2.1 p.2.2.2 v (fun c=>b c) (a 0) (a 1)⟩
def aej:List (Nat×Ô):=[(146,tR),(147,qY),(173,NX)]
def Z6 (ρ:Type):List (Ú ρ):=[CQ ρ]
def Ei (ρ:Type):Env ρ:=Õ aej (Z6 ρ)
def Wy:Ô:=⟨[É,am,tI],[ae],fun(x:Val (.pair É (.pair am tI)))=>Bk x.1 x.2.1 x.2.2⟩
def zO:Æ:=Ls 0 [am,tI,tI,tI,ah] [tI,ae] ⟨29,.any::.con am::.con tI::.box 0 0::aN 3 (.own 1::aN 5 [.con tI,.var tI]),ca⟩ [(.exit 0,⟨29,.any::.con am::.con tI::.box 0 0::aN 3 (.own 1::aN 5 [.con tI]),ca⟩,[ae])]
def zN (ρ:Type):Ú ρ:=⟨[],185,0,zO,fun(p:Val (tyL zO.cs)) (v:Val aw) a b=>pb p.2.2.1 v.1 v.2 (fun c d=>a (c,d)) (b 0)⟩
def zM:Æ:=Ls 2 [am,ah,tI,tI,ah,ae,tI,ah,aB,ae] [tI,tI] ⟨140,.any::.con am::.own 1::.box 2 0::aN 3 (.box 3 0::.own 4::.own 5::.var tI::aN 14 [.con ah,.con tI,.var tI]),[bz,.rowc tI,bz,.cells [.nils],.rowc .bool,.rowc tI]⟩ [(.exit 0,⟨140,.any::.con am::.own 1::.box 2 0::aN 3 (.box 3 0::.own 4::.own 5::.var tI::aN 14 [.con ah,.con tI]),[bz,.rowc tI,bz,.cells [.nils],.rowc .bool,.rowc tI]⟩,[tI])]
def zL (ρ:Type):Ú ρ:=⟨[8,3],210,0,zM,fun(p:Val (tyL zM.cs)) (v:Val Â) a b=>wd p.2.1 p.2.2.1 v.1 v.2 (fun c d=>a (c,d)) (b 0)⟩
def zK:Æ:=Ls 2 [am,tI,tI,tI,ah,ae,tI,ah,ae] [tI,aB,ae] ⟨140,.any::.con am::.own 1::.box 2 0::aN 3 (.box 3 0::.own 4::.own 5::.con tI::aN 27 [.con tI,.var tI]),b7⟩ [(.exit 2,⟨140,.any::.con am::.own 1::.box 2 0::aN 3 (.box 3 0::.own 4::.own 5::.con tI::aN 27 [.con tI]),b7⟩,[aB,ae])]
def zJ (ρ:Type):Ú ρ:=⟨[8,3],210,2,zK,fun(p:Val (tyL zK.cs)) (v:Val (.pair tI aS)) a b=>wc p.2.2.1 p.2.2.2.2.2.1 v.1 v.2.1 v.2.2 (fun c d e=>a (c,d,e)) (b 0)⟩
def zG:Æ:=Ls 2 [am,tI,tI,ah,tI,tI,ah,tI,ah,ae] [tI,ae,aB,ae] ⟨140,.any::.con am::.own 1::.box 2 0::aN 3 (.box 3 0::.own 4::.own 5::.con tI::aN 3 (.con tI::aN 62 [.con ah,.con tI,.var tI])),b8⟩ [(.ret,⟨140,.any::.con am::.own 1::.box 2 0::aN 2 (.var .bool::.box 3 0::.own 4::.own 5::.con tI::aN 3 (.con tI::aN 62 [.con ah,.con tI])),b8⟩,[.bool,ae,aB,ae]),(.exit 6,⟨140,.any::.con am::.own 1::.box 2 0::aN 3 (.box 3 0::.own 4::.own 5::.con tI::aN 3 (.con tI::aN 62 [.con ah,.con tI])),b8⟩,[ae,aB,ae])]
def zF (ρ:Type):Ú ρ:=⟨[8,3],210,6,zG,fun(p:Val (tyL zG.cs)) (v:Val (.pair tI (.pair ae aS))) b a=>GP p.1 p.2.1 p.2.2.1 p.2.2.2.1 p.2.2.2.2.1 v.1 v.2.1 v.2.2.1 v.2.2.2 (fun c d e f=>b (c,d,e,f)) (a 0) (a 1)⟩
def zI:Æ:=Ls 2 [am,tI,tI,ah,tI,ah] [ae,aB,ae,ae] ⟨140,[.any,.con am,.own 1,.box 2 0,.any,.any,.any,.box 3 0,.own 4,.own 5,.con tI],b9⟩ [(.ret,⟨140,[.any,.con am,.own 1,.box 2 0,.any,.any,.var .bool,.box 3 0,.own 4,.own 5,.con tI],b9⟩,[.bool,ae,aB,ae,ae])]
def zH (ρ:Type):Ú ρ:=⟨[8,3],210,4,zI,fun(p:Val (tyL zI.cs)) (v:Val ba) a b=>wa p.1 p.2.1 p.2.2.2.2.1 p.2.2.2.2.2 v.1 v.2.1 v.2.2.1 v.2.2.2 (fun c d e f=>a (c,d,e,f)) (b 0)⟩
def Z5:List (Nat×Ô):=[]
def Vj (ρ:Type):List (Ú ρ):=[zN ρ,zL ρ,zJ ρ,zF ρ,zH ρ]
def jx (ρ:Type):Env ρ:=Õ Z5 (Vj ρ)
def Fm:Ô:=⟨[É,tI,tI],[tI,tI],fun(x:Val bh)=>qJ x.1 x.2.1 x.2.2⟩
def aen:List (Nat×Ô):=[(184,acR),(185,Wy)]
def aae (ρ:Type):List (Ú ρ):=[]
def Rj (ρ:Type):Env ρ:=Õ aen (aae ρ)
def j8:Ô:=⟨[az,tI,tI],[tI],fun(x:Val aV)=>ĉ x.1 x.2.1 x.2.2⟩
def JU:List (Nat×Ô):=[(118,Fm)]
def F5 (ρ:Type):List (Ú ρ):=[]
def xu (ρ:Type):Env ρ:=Õ JU (F5 ρ)
def sM:Ô:=⟨[az,Â],[tI],fun(x:Val aV)=>ε x.1 x.2⟩
def JT:List (Nat×Ô):=[(50,kP),(52,j8)]
def F3 (ρ:Type):List (Ú ρ):=[]
def xt (ρ:Type):Env ρ:=Õ JT (F3 ρ)
def mI:Ô:=⟨[az,Â],[tI],fun(x:Val aV)=>iu x.1 x.2⟩
def BP:List (Nat×Ô):=[(50,kP),(52,j8)]
def zk (ρ:Type):List (Ú ρ):=[]
def qm (ρ:Type):Env ρ:=Õ BP (zk ρ)
def jF:Ô:=⟨[az,Â],[Â],fun(x:Val aV)=>ŧ x.1 x.2⟩
def BO:List (Nat×Ô):=[(96,sM),(97,mI)]
def nN (ρ:Type):List (Ú ρ):=[]
def kU (ρ:Type):Env ρ:={Õ BO (nN ρ) with hint:=KO [(12,96),(16,97)]}
def qZ:Ô:=⟨[Ã,Â],[Ã,tI],fun(x:Val aG)=>kJ x.1 x.2⟩
def Hw:Æ:=Ls 6 [tI,tI,tI,ac,aa,af,ab,aa,tI,tI,tI,tI,tI,tI,ac,aa,af,ab,aa,tI,tI,tI,tI,ab,tI,tI,ac,aa,af,aa] [tI,ab] ⟨50,.any::.box 6 0::.box 7 0::.own 8::aN 21 [.own 8,.con tI,.var tI],cd⟩ [(.exit 0,⟨50,.any::.box 6 0::.box 7 0::.own 8::aN 21 [.own 8,.con tI],cd⟩,[ab])]
def Hv (ρ:Type):Ú ρ:=⟨[1,2,4,1],186,0,Hw,fun(p:Val (tyL Hw.cs)) (v:Val (.pair tI ab)) a b=>wA p.1 v.1 v.2 (fun c d=>a (c,d)) (b 0)⟩
def ahw:List (Nat×Ô):=[(43,Ś)]
def aeW (ρ:Type):List (Ú ρ):=[Hv ρ]
def KE (ρ:Type):Env ρ:=Õ ahw (aeW ρ)
def ym:Ô:=⟨[aZ,ae,tI],[tI],fun(x:Val (.pair aZ aL))=>iE x.1 x.2.1 x.2.2⟩
def RH:List (Nat×Ô):=[(119,Ŭ)]
def Ny (ρ:Type):List (Ú ρ):=[]
def Db (ρ:Type):Env ρ:=Õ RH (Ny ρ)
def aiV:Ô:=⟨[Ã,Ï,tI,tI],[tI],fun(x:Val (.pair Ã (.pair Ï Â)))=>Bl x.1 x.2.1 x.2.2.1 x.2.2.2⟩
def Hf:Æ:=Ls 0 [tI,tI,af,tI,tI,tI,ac,aa,af,ab,aa,tI,tI,tI,tI,tI,tI,tI,tI] [tI,tI] ⟨88,aN 2 (.con tI::.con tI::.box 0 0::.box 1 0::aN 3 (.var tI::aN 7 [.con af,.con tI,.var tI])),ce⟩ [(.exit 0,⟨88,aN 2 (.con tI::.con tI::.box 0 0::.box 1 0::aN 3 (.var tI::aN 7 [.con af,.con tI])),ce⟩,[tI])]
def He (ρ:Type):Ú ρ:=⟨[],207,0,Hf,fun(p:Val (tyL Hf.cs)) (v:Val Â) a b=>wq p.1 p.2.1 p.2.2.1 p.2.2.2.1 p.2.2.2.2.2.2.2.2.2.2.2.1 v.1 v.2 (fun c d=>a (c,d)) (b 0)⟩
def Hc:Æ:=Ls 0 [tI,tI,tI,aa,tI,tI,tI,tI,tI,tI,tI,tI,tI] [tI,ae] ⟨88,aN 2 (.con tI::.con tI::.any::.box 0 0::aN 3 (.con tI::aN 3 (.own 1::aN 39 [.con aa,.con tI,.var tI]))),bX⟩ [(.exit 2,⟨88,aN 2 (.con tI::.con tI::.any::.box 0 0::aN 3 (.con tI::aN 3 (.own 1::aN 39 [.con aa,.con tI]))),bX⟩,[ae])]
def Hb (ρ:Type):Ú ρ:=⟨[],207,2,Hc,fun(p:Val (tyL Hc.cs)) (v:Val aw) a b=>wp p.1 p.2.1 p.2.2.2.1 p.2.2.2.2.1 p.2.2.2.2.2.1 v.1 v.2 (fun c d=>a (c,d)) (b 0)⟩
def ahq:List (Nat×Ô):=[(144,lf)]
def aeI (ρ:Type):List (Ú ρ):=[He ρ,Hb ρ]
def AZ (ρ:Type):Env ρ:=Õ ahq (aeI ρ)
def xd:Ô:=⟨[au,ae],[Â],fun(x:Val (.pair au ae))=>i7 x.1 x.2⟩
def Eo:List (Nat×Ô):=[]
def BQ (ρ:Type):List (Ú ρ):=[]
def sg (ρ:Type):Env ρ:=Õ Eo (BQ ρ)
def tS:Ô:=⟨[aa],[tI],fun(x:Val aa)=>kr x⟩
def Vp:Æ:=Ls 0 [aa,tI] [tI] ⟨15,aN 5 [.con aa,.con tI,.var tI],[]⟩ [(.ret,⟨15,[.any,.any,.var tI,.any,.any,.con aa,.con tI],[]⟩,[tI]),(.exit 0,⟨15,aN 5 [.con aa,.con tI],[]⟩,[])]
def C7 (ρ:Type):Ú ρ:=⟨[],261,0,Vp,fun(p:Val (.pair aa tI)) (v:Val tI) b a=>sf p.1 p.2 v (fun c=>b c) (a 0) (a 1)⟩
def aeo:List (Nat×Ô):=[(218,Fo)]
def aag (ρ:Type):List (Ú ρ):=[C7 ρ]
def Ek (ρ:Type):Env ρ:=Õ aeo (aag ρ)
def Dz:Ô:=⟨[tI,tI],[Â,tI],fun(x:Val Â)=>qK x.1 x.2⟩
def Vq:List (Nat×Ô):=[(249,Ya),(250,agy)]
def Rn (ρ:Type):List (Ú ρ):=[]
def GY (ρ:Type):Env ρ:=Õ Vq (Rn ρ)
def amm:Ô:=⟨[Â,Â],[Â,tI],fun(x:Val å)=>abf x.1 x.2⟩
def akB:List (Nat×Ô):=[(261,tS),(285,Dz)]
def ahh (ρ:Type):List (Ú ρ):=[]
def aev (ρ:Type):Env ρ:=Õ akB (ahh ρ)
def Fq:Ô:=⟨[Â,Â],[Â],fun(x:Val å)=>wU x.1 x.2⟩
def Nx:List (Nat×Ô):=[(275,amm)]
def Ku (ρ:Type):List (Ú ρ):=[]
def zR (ρ:Type):Env ρ:=Õ Nx (Ku ρ)
def agz:Ô:=⟨[Â,Â],[tI],fun(x:Val å)=>SF x.1 x.2⟩
def akA:List (Nat×Ô):=[]
def ahe (ρ:Type):List (Ú ρ):=[]
def aet (ρ:Type):Env ρ:=Õ akA (ahe ρ)
def Ca:Ô:=⟨[å],[.bool],fun(x:Val å)=>tv x⟩
def Kn:List (Nat×Ô):=[(261,tS),(291,agz)]
def G0 (ρ:Type):List (Ú ρ):=[]
def xG (ρ:Type):Env ρ:=Õ Kn (G0 ρ)
def amn:Ô:=⟨[Â,Â],[Â,tI],fun(x:Val å)=>SH x.1 x.2⟩
def akC:List (Nat×Ô):=[(261,tS),(285,Dz)]
def ahk (ρ:Type):List (Ú ρ):=[]
def aex (ρ:Type):Env ρ:=Õ akC (ahk ρ)
def acU:Ô:=⟨[å,Â],[å,tI],fun(x:Val (.pair å Â))=>SG x.1 x.2⟩
def LW:List (Nat×Ô):=[(218,Fo),(286,Ca),(289,amn),(291,agz)]
def we (ρ:Type):List (Ú ρ):=[]
def LV:List apb:=[⟨[3,2],287,0,4⟩]
def aew (ρ:Type):Env ρ:=Õ LW (we ρ)
def Em (ρ:Type):Env ρ:=arl LW (we ρ) LV
def Fp:Ô:=⟨[Â,Â],[å],fun(x:Val å)=>pk x.1 x.2⟩
def Nw:List (Nat×Ô):=[(276,acU)]
def Ks (ρ:Type):List (Ú ρ):=[]
def zQ (ρ:Type):Env ρ:=Õ Nw (Ks ρ)
def I7:Ô:=⟨[Ã,È],[å],fun(x:Val aE)=>pI x.1 x.2⟩
def aaJ:List (Nat×Ô):=[(111,DA),(183,AO),(258,xd),(259,Fq),(260,Fp)]
def VI (ρ:Type):List (Ú ρ):=[]
def LZ (ρ:Type):Env ρ:=Õ aaJ (VI ρ)
def O3:Ô:=⟨[Ã,È],[Â],fun(x:Val aE)=>uX x.1 x.2⟩
def aeN:List (Nat×Ô):=[]
def aaK (ρ:Type):List (Ú ρ):=[]
def RN (ρ:Type):Env ρ:=Õ aeN (aaK ρ)
def O0:Ô:=⟨[tI,tI],[tI],fun(x:Val Â)=>uU x.1 x.2⟩
def aes:List (Nat×Ô):=[]
def aak (ρ:Type):List (Ú ρ):=[]
def Rq (ρ:Type):Env ρ:=Õ aes (aak ρ)
def O1:Ô:=⟨[Â],[tI,tI],fun(x:Val Â)=>Ap x⟩
def aey:List (Nat×Ô):=[(261,tS),(262,O0)]
def aap (ρ:Type):List (Ú ρ):=[]
def Ru (ρ:Type):Env ρ:=Õ aey (aap ρ)
def Yb:Ô:=⟨[Â],[tI,tI],fun(x:Val Â)=>Ib x⟩
def ahn:List (Nat×Ô):=[(261,tS),(262,O0)]
def aez (ρ:Type):List (Ú ρ):=[]
def WY (ρ:Type):Env ρ:=Õ ahn (aez ρ)
def Yc:Ô:=⟨[Ã,È],[Â],fun(x:Val aE)=>wT x.1 x.2⟩
def aho:List (Nat×Ô):=[(243,I7),(244,O3),(245,O1),(246,Yb)]
def aeD (ρ:Type):List (Ú ρ):=[]
def WZ (ρ:Type):Env ρ:=Õ aho (aeD ρ)
def Yd:Ô:=⟨[Ã],[aZ],fun(x:Val Ã)=>Ie x⟩
def G8:Æ:=Ls 2 [tI,ae,tI,ac,tI,tI,tI,tI,ac,aa,af,ab,aa,tI,tI,ac,aa,af,ab,aa,aa,tI,tI,tI,tI,tI,tI,tI,tI,tI] [tI,ah,aa] ⟨144,.box 1 0::.any::.con tI::.box 2 0::.con ae::.con tI::.var tI::aN 24 [.con ac,.con tI,.con tI],[bp,bE,bq,.rowv Ĉ,.rowv Â]⟩ [(.exit 2,⟨144,.box 1 0::.any::.con tI::.box 2 0::.con ae::.con tI::aN 25 [.con ac,.con tI,.con tI],[bp,bE,bq,.rowv Ĉ,.rowv Â]⟩,[ah,aa])]
def G7 (ρ:Type):Ú ρ:=⟨[2,1],142,2,G8,fun(p:Val (tyL G8.cs)) (v:Val aT) a b=>let A:=p.2.2.2.2.2.2.2.2.2.2.2.2.2;let B:=A.2.2.2.2;let C:=B.2.2.2.2.2;let D:=C.2.2.2.2;wn p.1 p.2.1 p.2.2.1 A.1 A.2.1 A.2.2.1 A.2.2.2.1 B.1 B.2.1 B.2.2.1 C.1 C.2.1 C.2.2.1 C.2.2.2.1 D.1 D.2.1 D.2.2.1 D.2.2.2 v.1 v.2.1 v.2.2 (fun c d e=>a (c,d,e)) (b 0)⟩
def Ha:Æ:=Ls 2 [ac,tI,tI,tI,ac,aa,af,ab,aa,tI,tI,ac,aa,af,ab,aa,aa,tI] [tI,ah,aa] ⟨144,.box 1 0::aN 30 [.con ac,.con tI,.var tI],cf⟩ [(.exit 0,⟨144,.box 1 0::aN 30 [.con ac,.con tI],cf⟩,[ah,aa])]
def G9 (ρ:Type):Ú ρ:=⟨[2,1],142,0,Ha,fun(p:Val (tyL Ha.cs)) (v:Val aT) a b=>let A:=p.2.2.2.2.2.2.2.2.2;let B:=A.2.2.2.2;wo p.1 p.2.1 A.1 A.2.1 A.2.2.1 A.2.2.2.1 B.1 B.2.1 B.2.2.1 B.2.2.2.1 B.2.2.2.2 v.1 v.2.1 v.2.2 (fun c d e=>a (c,d,e)) (b 0)⟩
def G6:Æ:=Ls 2 [ab,tI,tI,tI,ac,aa,af,ab,aa,tI,tI,ac,aa,af,ab,aa,aa,tI] [tI,ah,aa] ⟨144,.box 1 0::aN 107 [.con ab,.con tI,.var tI],cf⟩ [(.exit 4,⟨144,.box 1 0::aN 107 [.con ab,.con tI],cf⟩,[ah,aa])]
def G5 (ρ:Type):Ú ρ:=⟨[2,1],142,4,G6,fun(p:Val (tyL G6.cs)) (v:Val aT) a b=>let A:=p.2.2.2.2.2.2.2.2.2;let B:=A.2.2.2.2;wm p.1 p.2.1 A.1 A.2.1 A.2.2.1 A.2.2.2.1 B.1 B.2.1 B.2.2.1 B.2.2.2.1 B.2.2.2.2 v.1 v.2.1 v.2.2 (fun c d e=>a (c,d,e)) (b 0)⟩
def ahp:List (Nat×Ô):=[(113,Fr),(181,Ye),(183,AO),(205,ym),(207,aiV),(208,Yc)]
def aeG (ρ:Type):List (Ú ρ):=[G7 ρ,G9 ρ,G5 ρ]
def uG (ρ:Type):Env ρ:=Õ ahp (aeG ρ)
def ť:Ô:=⟨[Ã],[É,aa,tI],fun(x:Val Ã)=>ĩ x⟩
def aaP:List (Nat×Ô):=[(43,Ś),(74,Yd)]
def VO (ρ:Type):List (Ú ρ):=[]
def L1 (ρ:Type):Env ρ:=Õ aaP (VO ρ)
def Ţ:Ô:=⟨[É],[.bool,tI],fun(x:Val É)=>Ġ x⟩
def Kk:List (Nat×Ô):=[(146,tR),(147,qY)]
def GQ (ρ:Type):List (Ú ρ):=[]
def xD (ρ:Type):Env ρ:=Õ Kk (GQ ρ)
def Lz:Ô:=⟨[Ã,Â],[Â,tI],fun(x:Val aG)=>og x.1 x.2⟩
def ur:Æ:=Ls 4 [tI,tI,tI,ac,aa,af,ab,aa,tI,tI,tI,tI,aa] [tI,tI,tI,ac,aa,af,ab,aa] ⟨68,aN 2 (.box 4 0::aN 20 [.own 3,.con tI,.var tI]),cg⟩ [(.ret,⟨68,aN 2 (.box 4 0::.any::.nilp::.var tI::aN 17 [.own 3,.con tI]),cg⟩,[tI,tI,tI,ac,aa,af,ab,aa]),(.exit 0,⟨68,aN 2 (.box 4 0::aN 20 [.own 3,.con tI]),cg⟩,[tI,tI,ac,aa,af,ab,aa])]
def uq (ρ:Type):Ú ρ:=⟨[1,3],41,0,ur,fun(p:Val (tyL ur.cs)) (v:Val aF) b a=>Đ p.1 p.2.2.2.2.2.2.2.2.2.2.2.2 v.1 v.2.1 v.2.2.1 v.2.2.2.1 v.2.2.2.2.1 v.2.2.2.2.2.1 v.2.2.2.2.2.2.1 v.2.2.2.2.2.2.2 (fun c d e f g h i j=>b (c,d,e,f,g,h,i,j)) (a 0) (a 1)⟩
def QW:List (Nat×Ô):=[(42,jF),(43,Ś),(53,j9),(54,qZ),(77,ť),(108,Ţ)]
def Ni (ρ:Type):List (Ú ρ):=[uq ρ]
def sY (ρ:Type):Env ρ:=Õ QW (Ni ρ)
def I8:Ô:=⟨[ae,ae],[ae,ae,tI],fun(x:Val aO)=>uY x.1 x.2⟩
def aaU:List (Nat×Ô):=[(182,I6),(183,AO)]
def VT (ρ:Type):List (Ú ρ):=[]
def L2 (ρ:Type):Env ρ:=Õ aaU (VT ρ)
def aiS:Ô:=⟨[ae,tI],[.bool],fun(x:Val aL)=>Og x.1 x.2⟩
def agY:List (Nat×Ô):=[(114,I8)]
def adX (ρ:Type):List (Ú ρ):=[]
def WO (ρ:Type):Env ρ:=Õ agY (adX ρ)
def acO:Ô:=⟨[tI],[.bool],fun(x:Val tI)=>H7 x⟩
def ad2:List (Nat×Ô):=[]
def ZJ (ρ:Type):List (Ú ρ):=[]
def QN (ρ:Type):Env ρ:=Õ ad2 (ZJ ρ)
def acN:Ô:=⟨[tI,ak],[aa],fun(x:Val aM)=>H6 x.1 x.2⟩
def U4:Æ:=Ls 0 [tI,ae,tI] [tI,aa] ⟨23,.con tI::aN 4 [.own 0,.any,.any,.any,.con ae,.con tI,.var tI],[.rowv Â]⟩ [(.exit 0,⟨23,.con tI::aN 4 [.own 0,.any,.any,.any,.con ae,.con tI],[.rowv Â]⟩,[aa])]
def CF (ρ:Type):Ú ρ:=⟨[],46,0,U4,fun(p:Val (.pair tI aL)) (v:Val aI) a b=>rR p.1 p.2.1 p.2.2 v.1 v.2 (fun c d=>a (c,d)) (b 0)⟩
def ad1:List (Nat×Ô):=[(100,Œ)]
def ZG (ρ:Type):List (Ú ρ):=[CF ρ]
def D9 (ρ:Type):Env ρ:=Õ ad1 (ZG ρ)
def aiU:Ô:=⟨[Ã,tI,ae],[Â,tI],fun(x:Val (.pair Ã aw))=>Oh x.1 x.2.1 x.2.2⟩
def GC:Æ:=Ls 3 [aa,tI,tI,tI,ac,aa,af,ab,aa,tI,tI,ak] [tI,tI,tI,ac,aa,af,ab,aa] ⟨68,aN 2 (.box 3 0::aN 20 [.con aa,.con tI,.var tI]),[bp,bw,.rowf ae 0,bH]⟩ [(.ret,⟨68,aN 2 (.box 3 0::.any::.nilp::.var tI::aN 17 [.con aa,.con tI]),[bp,bw,.rowf ae 0,bH]⟩,[tI,tI,tI,ac,aa,af,ab,aa]),(.exit 0,⟨68,aN 2 (.box 3 0::aN 20 [.con aa,.con tI]),[bp,bw,.rowf ae 0,bH]⟩,[tI,tI,ac,aa,af,ab,aa])]
def GB (ρ:Type):Ú ρ:=⟨[7,2],41,0,GC,fun(p:Val (tyL GC.cs)) (v:Val aF) b a=>vU p.1 p.2.1 v.1 v.2.1 v.2.2.1 v.2.2.2.1 v.2.2.2.2.1 v.2.2.2.2.2.1 v.2.2.2.2.2.2.1 v.2.2.2.2.2.2.2 (fun c d e f g h i j=>b (c,d,e,f,g,h,i,j)) (a 0) (a 1)⟩
def GA:Æ:=Ls 0 [az,aa,tI,tI,tI] [tI,tI,tI] ⟨87,aN 6 (.box 0 0::aN 3 (.con az::aN 2 (.box 1 0::aN 51 [.con aa,.con tI,.var tI]))),[bw,.cells [.var tI,.var tI]]⟩ [(.exit 0,⟨87,aN 6 (.box 0 0::aN 3 (.con az::aN 2 (.box 1 0::aN 51 [.con aa,.con tI]))),[bw,.cells [.var tI,.var tI]]⟩,[tI,tI])]
def Gz (ρ:Type):Ú ρ:=⟨[],10,0,GA,fun(p:Val (tyL GA.cs)) (v:Val Ĉ) a b=>vT p.1 p.2.1 p.2.2.1 v.1 v.2.1 v.2.2 (fun c d e=>a (c,d,e)) (b 0)⟩
def ag3:List (Nat×Ô):=[(42,jF),(43,Ś),(44,aiS),(45,acO),(46,acN),(53,j9),(54,qZ),(77,ť),(108,Ţ)]
def aeb (ρ:Type):List (Ú ρ):=[GB ρ,Gz ρ]
def AW (ρ:Type):Env ρ:=Õ ag3 (aeb ρ)
def OY:Ô:=⟨[Ã,Â,Â],[Â,tI],fun(x:Val (.pair Ã å))=>wS x.1 x.2.1 x.2.2⟩
def xB:Æ:=Ls 5 [tI,tI,tI,ac,aa,af,ab,aa,tI,tI,tI,tI,tI,tI,aa] [tI,tI,tI,ac,aa,af,ab,aa] ⟨68,aN 2 (.box 5 0::aN 20 [.own 4,.con tI,.var tI]),ci⟩ [(.ret,⟨68,aN 2 (.box 5 0::.any::.nilp::.var tI::aN 17 [.own 4,.con tI]),ci⟩,[tI,tI,tI,ac,aa,af,ab,aa]),(.exit 0,⟨68,aN 2 (.box 5 0::aN 20 [.own 4,.con tI]),ci⟩,[tI,tI,ac,aa,af,ab,aa])]
def xA (ρ:Type):Ú ρ:=⟨[1,4],41,0,xB,fun(p:Val (tyL xB.cs)) (v:Val aF) b a=>s9 p.1 p.2.2.2.2.2.2.2.2.2.2.2.2.2.2 v.1 v.2.1 v.2.2.1 v.2.2.2.1 v.2.2.2.2.1 v.2.2.2.2.2.1 v.2.2.2.2.2.2.1 v.2.2.2.2.2.2.2 (fun c d e f g h i j=>b (c,d,e,f,g,h,i,j)) (a 0) (a 1)⟩
def Vg:List (Nat×Ô):=[(43,Ś),(50,kP),(52,j8),(53,j9),(54,qZ),(77,ť),(108,Ţ)]
def QZ (ρ:Type):List (Ú ρ):=[xA ρ]
def vX (ρ:Type):Env ρ:=Õ Vg (QZ ρ)
def OZ:Ô:=⟨[É,tI,tI],[ak],fun(x:Val bh)=>Al x.1 x.2.1 x.2.2⟩
def WW:Æ:=Ls 0 [tI,tI,tI,tI,ah] [tI,ae] ⟨45,.any::.con tI::.con tI::.box 0 0::aN 3 (.own 1::aN 7 [.con tI,.var tI]),ca⟩ [(.exit 0,⟨45,.any::.con tI::.con tI::.box 0 0::aN 3 (.own 1::aN 7 [.con tI]),ca⟩,[ae])]
def WV (ρ:Type):Ú ρ:=⟨[],148,0,WW,fun(p:Val (tyL WW.cs)) (v:Val aw) a b=>AX p.2.2.1 v.1 v.2 (fun c d=>a (c,d)) (b 0)⟩
def WT:Æ:=Ls 4 [ae,tI,ak,tI,ah] [tI,ae] ⟨53,.con ae::.box 1 0::aN 2 (.own 4::aN 7 [.con tI,.var tI]),cj⟩ [(.exit 0,⟨53,.con ae::.box 1 0::aN 2 (.own 4::aN 7 [.con tI]),cj⟩,[ae])]
def WS (ρ:Type):Ú ρ:=⟨[12,8],211,0,WT,fun(p:Val (tyL WT.cs)) (v:Val aw) a b=>Z4 p.2.1 v.1 v.2 (fun c d=>a (c,d)) (b 0)⟩
def WR:Æ:=Ls 4 [ae,ah,tI,ak,tI,ah] [tI,ae] ⟨53,.con ae::aN 3 (.own 4::aN 16 [.con ah,.con tI,.var tI]),cj⟩ [(.exit 2,⟨53,.con ae::aN 3 (.own 4::aN 16 [.con ah,.con tI]),cj⟩,[ae])]
def WQ (ρ:Type):Ú ρ:=⟨[12,8],211,2,WR,fun(p:Val (tyL WR.cs)) (v:Val aw) a b=>GO p.1 p.2.1 p.2.2.1 v.1 v.2 (fun c d=>a (c,d)) (b 0)⟩
def aky:Æ:=Ls 0 [tI,tI,ah] [tI,ak] ⟨45,aN 9 (.own 0::.fn 211 [(1,0)]::aN 18 [.con tI,.var tI]),[.rowv ae,bz]⟩ [(.exit 2,⟨45,aN 9 (.own 0::.fn 211 [(1,0)]::aN 18 [.con tI]),[.rowv ae,bz]⟩,[ak])]
def WU (ρ:Type):Ú ρ:=⟨[],148,2,aky,fun(p:Val aH) (v:Val aM) a b=>N5 p.1 p.2.1 p.2.2 v.1 v.2 (fun c d=>a (c,d)) (b 0)⟩
def apZ:List (Nat×Ô):=[]
def amR (ρ:Type):List (Ú ρ):=[WV ρ,WS ρ,WQ ρ,WU ρ]
def Ki (ρ:Type):Env ρ:=Õ apZ (amR ρ)
def acS:Ô:=⟨[É],[ae,tI],fun(x:Val É)=>mh x⟩
def Vn:Æ:=Ls 0 [tI,tI,ah] [tI,aC] ⟨93,.any::.box 0 0::aN 6 (.own 1::aN 24 [.con tI,.var tI]),[bz,.rowv ak]⟩ [(.exit 0,⟨93,.any::.box 0 0::aN 6 (.own 1::aN 24 [.con tI]),[bz,.rowv ak]⟩,[aC])]
def CZ (ρ:Type):Ú ρ:=⟨[],78,0,Vn,fun(p:Val aH) (v:Val (.pair tI aC)) a b=>nQ p.1 p.2.1 p.2.2 v.1 v.2 (fun c d=>a (c,d)) (b 0)⟩
def CT:Æ:=Ls 3 [tI,ak,ah,tI,tI,ah,aC,tI,tI,tI,tI,ah] [tI,tI,tI,ae] ⟨73,.any::.var tI::.con tI::.con ak::.fn 149 []::.box 3 0::aN 5 (.own 4::.var tI::aN 7 [.con ah,.con tI,.var tI]),cm⟩ [(.exit 2,⟨73,.any::.var tI::.con tI::.con ak::.fn 149 []::.box 3 0::aN 5 (.own 4::.var tI::aN 7 [.con ah,.con tI]),cm⟩,[tI,tI,ae])]
def CS (ρ:Type):Ú ρ:=⟨[22,10],150,2,CT,fun(p:Val (tyL CT.cs)) (v:Val aK) a b=>LR p.1 p.2.1 p.2.2.1 p.2.2.2.1 v.1 v.2.1 v.2.2.1 v.2.2.2 (fun c d e f=>a (c,d,e,f)) (b 0)⟩
def CV:Æ:=Ls 3 [ak,tI,ah,aC,tI,tI,tI,tI,ah] [tI,tI,tI,ae] ⟨73,.any::.var tI::.var tI::.con ak::.fn 149 []::.box 3 0::aN 5 [.own 4,.var tI],cm⟩ [(.exit 0,⟨73,aN 3 (.con ak::.fn 149 []::.box 3 0::aN 5 [.own 4]),cm⟩,[ae])]
def CU (ρ:Type):Ú ρ:=⟨[22,10],150,0,CV,fun(p:Val (tyL CV.cs)) (v:Val aK) a b=>zP p.1 p.2.2.2.2.2.2.2.2 v.1 v.2.1 v.2.2.1 v.2.2.2 (fun c d e f=>a (c,d,e,f)) (b 0)⟩
def CX:Æ:=Ls 0 [tI,ah,tI,tI,ah,aC] [tI] ⟨93,.any::.box 0 0::aN 6 (.own 1::.any::.fn 149 []::.con tI::aN 37 [.con ah,.con tI,.var tI]),[bz,.rowc ak]⟩ [(.exit 2,⟨93,.any::.box 0 0::aN 6 (.own 1::.any::.fn 149 []::.con tI::aN 37 [.con ah,.con tI]),[bz,.rowc ak]⟩,[]),(.ret,⟨93,.any::.box 0 0::.own 2::.var tI::aN 4 (.own 1::.any::.fn 149 []::.con tI::aN 37 [.con ah,.con tI]),[bz,.rowc ak,.rowv tI]⟩,[tI,ae]),(.exit 4,⟨93,.any::.box 0 0::aN 6 (.own 1::.any::.fn 149 []::.con tI::aN 37 [.con ah,.con tI]),[bz,.rowc ak]⟩,[])]
def CW (ρ:Type):Ú ρ:=⟨[],78,4,CX,fun(p:Val (tyL CX.cs)) (v:Val tI) b a=>nP p.1 p.2.1 p.2.2.1 p.2.2.2.1 p.2.2.2.2.1 p.2.2.2.2.2 v (fun c=>b c) (a 0) (a 1) (a 2)⟩
def Vm:Æ:=Ls 0 [tI,ah,aC] [tI] ⟨93,.any::.box 0 0::aN 6 [.own 1,.any,.fn 149 [],.var tI],[bz,.rowc ak]⟩ [(.exit 2,⟨93,.any::.box 0 0::aN 6 [.own 1,.any,.fn 149 []],[bz,.rowc ak]⟩,[]),(.ret,⟨93,.any::.box 0 0::.own 2::.var tI::aN 4 [.own 1,.any,.fn 149 []],[bz,.rowc ak,.rowv tI]⟩,[tI,ae])]
def CY (ρ:Type):Ú ρ:=⟨[],78,2,Vm,fun(p:Val bm) (v:Val tI) b a=>sa p.1 p.2.1 p.2.2 v (fun c=>b c) (a 0) (a 1)⟩
def aek:List (Nat×Ô):=[(146,tR),(147,qY),(148,OZ)]
def Z8 (ρ:Type):List (Ú ρ):=[CZ ρ,CS ρ,CU ρ,CW ρ,CY ρ]
def kW (ρ:Type):Env ρ:=Õ aek (Z8 ρ)
def Dx:Ô:=⟨[Ã,ae],[aa],fun(x:Val (.pair Ã ae))=>qG x.1 x.2⟩
def M7:Æ:=Ls 0 [aa,ae,tI] [tI,aa] ⟨32,aN 6 (.con aa::.any::.own 0::aN 8 [.con ae,.con tI,.var tI]),[.rowv Â]⟩ [(.exit 0,⟨32,aN 6 (.con aa::.any::.own 0::aN 8 [.con ae,.con tI]),[.rowv Â]⟩,[aa])]
def xr (ρ:Type):Ú ρ:=⟨[],80,0,M7,fun(p:Val (.pair aa aL)) (v:Val aI) a b=>nr p.1 p.2.1 p.2.2 v.1 v.2 (fun c d=>a (c,d)) (b 0)⟩
def US:List (Nat×Ô):=[(77,ť)]
def QF (ρ:Type):List (Ú ρ):=[xr ρ]
def vL (ρ:Type):Env ρ:=Õ US (QF ρ)
def OW:Ô:=⟨[Ã],[ü,tI],fun(x:Val Ã)=>me x⟩
def aee:List (Nat×Ô):=[(77,ť),(78,acS),(79,pS),(80,Dx)]
def ZZ (ρ:Type):List (Ú ρ):=[]
def QX (ρ:Type):Env ρ:=Õ aee (ZZ ρ)
def Lv:Ô:=⟨[],[Ã],fun(_:Unit)=>Ag⟩
def Pj:List (Nat×Ô):=[]
def Mr (ρ:Type):List (Ú ρ):=[]
def Cc (ρ:Type):Env ρ:=Õ Pj (Mr ρ)
def Dw:Ô:=⟨[Â,Â],[tI],fun(x:Val å)=>qF x.1 x.2⟩
def UR:List (Nat×Ô):=[]
def QD (ρ:Type):List (Ú ρ):=[]
def F2 (ρ:Type):Env ρ:=Õ UR (QD ρ)
def acQ:Ô:=⟨[Ã,Â,Â],[tI,tI],fun(x:Val (.pair Ã å))=>H8 x.1 x.2.1 x.2.2⟩
def CP:Æ:=Ls 4 [tI,tI,tI,ac,aa,af,ab,aa,tI,tI,tI,tI,aa] [tI,tI,tI,ac,aa,af,ab,aa] ⟨68,aN 2 (.box 4 0::aN 20 [.own 3,.con tI,.var tI]),cg⟩ [(.ret,⟨68,aN 2 (.box 4 0::.any::.nilp::.var tI::aN 17 [.own 3,.con tI]),cg⟩,[tI,tI,tI,ac,aa,af,ab,aa]),(.exit 0,⟨68,aN 2 (.box 4 0::aN 20 [.own 3,.con tI]),cg⟩,[tI,tI,ac,aa,af,ab,aa])]
def CO (ρ:Type):Ú ρ:=⟨[1,3],41,0,CP,fun(p:Val (tyL CP.cs)) (v:Val aF) b a=>zx p.1 p.2.2.2.2.2.2.2.2.2.2.2.2 v.1 v.2.1 v.2.2.1 v.2.2.2.1 v.2.2.2.2.1 v.2.2.2.2.2.1 v.2.2.2.2.2.2.1 v.2.2.2.2.2.2.2 (fun c d e f g h i j=>b (c,d,e,f,g,h,i,j)) (a 0) (a 1)⟩
def aed:List (Nat×Ô):=[(42,jF),(43,Ś),(53,j9),(54,qZ),(77,ť),(93,Dw),(108,Ţ)]
def ZX (ρ:Type):List (Ú ρ):=[CO ρ]
def Ee (ρ:Type):Env ρ:=Õ aed (ZX ρ)
def acT:Ô:=⟨[É,tI,tI],[ae,tI],fun(x:Val bh)=>Ao x.1 x.2.1 x.2.2⟩
def C6:Æ:=Ls 3 [ak,tI,tI,ah,tI,tI] [tI] ⟨19,.con ak::.fn 164 [(1,0),(2,0)]::aN 5 [.con tI,.var tI],[bz,bu,bu]⟩ [(.ret,⟨19,[.con ak,.fn 164 [(1,0),(2,0)],.any,.any,.var tI,.any,.any,.con tI],[bz,bu,bu]⟩,[tI]),(.exit 0,⟨19,.con ak::.fn 164 [(1,0),(2,0)]::aN 5 [.con tI],[bz,bu,bu]⟩,[])]
def C5 (ρ:Type):Ú ρ:=⟨[5,2],163,0,C6,fun(p:Val (tyL C6.cs)) (v:Val tI) b a=>se p.1 p.2.1 p.2.2.2.2.1 p.2.2.2.2.2 v (fun c=>b c) (a 0) (a 1)⟩
def C2:Æ:=Ls 3 [tI,ak,ah,tI,tI,ah,tI,tI,tI,ah] [tI,tI,tI,ae] ⟨73,.any::.var tI::.con tI::.con ak::.fn 165 [(2,0)]::.box 3 0::aN 5 (.own 4::.var tI::aN 7 [.con ah,.con tI,.var tI]),cn⟩ [(.exit 2,⟨73,.any::.var tI::.con tI::.con ak::.fn 165 [(2,0)]::.box 3 0::aN 5 (.own 4::.var tI::aN 7 [.con ah,.con tI]),cn⟩,[tI,tI,ae])]
def C1 (ρ:Type):Ú ρ:=⟨[6,5],150,2,C2,fun(p:Val (tyL C2.cs)) (v:Val aK) a b=>LS p.1 p.2.1 p.2.2.1 p.2.2.2.1 p.2.2.2.2.2.2.2.1 v.1 v.2.1 v.2.2.1 v.2.2.2 (fun c d e f=>a (c,d,e,f)) (b 0)⟩
def C4:Æ:=Ls 3 [ak,tI,ah,tI,tI,tI,ah] [tI,tI,tI,ae] ⟨73,.any::.var tI::.var tI::.con ak::.fn 165 [(2,0)]::.box 3 0::aN 5 [.own 4,.var tI],cn⟩ [(.exit 0,⟨73,aN 3 (.con ak::.fn 165 [(2,0)]::.box 3 0::aN 5 [.own 4]),cn⟩,[ae])]
def C3 (ρ:Type):Ú ρ:=⟨[6,5],150,0,C4,fun(p:Val (tyL C4.cs)) (v:Val aK) a b=>sd p.1 p.2.2.2.2.1 p.2.2.2.2.2.2 v.1 v.2.1 v.2.2.1 v.2.2.2 (fun c d e f=>a (c,d,e,f)) (b 0)⟩
def aem:List (Nat×Ô):=[(118,Fm),(148,OZ)]
def aac (ρ:Type):List (Ú ρ):=[C5 ρ,C1 ρ,C3 ρ]
def qt (ρ:Type):Env ρ:=Õ aem (aac ρ)
def Fl:Ô:=⟨[az,aY,(.ptr .bool)],[ae],fun(x:Val (.pair az (.pair aY (.ptr .bool))))=>mg x.1 x.2.1 x.2.2⟩
def Nl:List (Nat×Ô):=[(50,kP),(95,acT)]
def Kc (ρ:Type):List (Ú ρ):=[]
def zD (ρ:Type):Env ρ:=Õ Nl (Kc ρ)
def OX:Ô:=⟨[Ã,Â,.bool],[ü,tI],fun(x:Val (.pair Ã (.pair Â .bool)))=>wR x.1 x.2.1 x.2.2⟩
def xz:Æ:=Ls 5 [tI,tI,tI,ac,aa,af,ab,aa,tI,tI,tI,tI,.bool,tI,aa] [tI,tI,tI,ac,aa,af,ab,aa] ⟨68,aN 2 (.box 5 0::aN 20 [.own 4,.con tI,.var tI]),cp⟩ [(.ret,⟨68,aN 2 (.box 5 0::.any::.nilp::.var tI::aN 17 [.own 4,.con tI]),cp⟩,[tI,tI,tI,ac,aa,af,ab,aa]),(.exit 0,⟨68,aN 2 (.box 5 0::aN 20 [.own 4,.con tI]),cp⟩,[tI,tI,ac,aa,af,ab,aa])]
def xy (ρ:Type):Ú ρ:=⟨[1,3],41,0,xz,fun(p:Val (tyL xz.cs)) (v:Val aF) b a=>s8 p.1 p.2.2.2.2.2.2.2.2.2.2.2.2.2.2 v.1 v.2.1 v.2.2.1 v.2.2.2.1 v.2.2.2.2.1 v.2.2.2.2.2.1 v.2.2.2.2.2.2.1 v.2.2.2.2.2.2.2 (fun c d e f g h i j=>b (c,d,e,f,g,h,i,j)) (a 0) (a 1)⟩
def xx:Æ:=Ls 10 [tI,tI,tI,ac,aa,af,ab,aa,tI,tI,tI,tI,.bool,tI,aa,tI,tI,ac,aa,af,ab,aa,tI,ah,aa,tI,tI,ac,aa,af,ab,aa,tI,tI,ac,aa,af,ab,aa] [tI] ⟨68,aN 2 (.box 10 0::aN 20 [.nils,.con tI,.var tI]),cq⟩ [(.exit 0,⟨68,aN 2 (.box 10 0::aN 20 [.nils,.con tI]),cq⟩,[])]
def xw (ρ:Type):Ú ρ:=⟨[6,1],41,0,xx,fun(p:Val (tyL xx.cs)) (v:Val tI) a b=>s7 p.1 v (fun c=>a c) (b 0)⟩
def Vf:List (Nat×Ô):=[(43,Ś),(53,j9),(54,qZ),(77,ť),(79,pS),(80,Dx),(94,Fl),(96,sM),(97,mI),(108,Ţ)]
def zB (ρ:Type):List (Ú ρ):=[xy ρ,xw ρ]
def l5 (ρ:Type):Env ρ:={Õ Vf (zB ρ) with hint:=KO [(34,94),(56,94)]}
def Yg:Ô:=⟨[Ã,È],[Ã,tI],fun(x:Val aE)=>pm x.1 x.2⟩
def Ht:Æ:=Ls 8 [tI,tI,tI,ac,aa,af,ab,aa,tI,tI,ae,ae,tI,tI,tI,tI,tI,tI,tI,tI,ac,aa,af,ab,aa,tI,tI,tI,tI,ab,tI,tI,ac,aa,af,aa] [tI,ab] ⟨50,.any::.box 8 0::.box 9 0::.own 10::aN 21 [.own 10,.con tI,.var tI],cr⟩ [(.exit 0,⟨50,.any::.box 8 0::.box 9 0::.own 10::aN 21 [.own 10,.con tI],cr⟩,[ab])]
def Hs (ρ:Type):Ú ρ:=⟨[2,2,4,1],186,0,Ht,fun(p:Val (tyL Ht.cs)) (v:Val (.pair tI ab)) a b=>wz p.1 v.1 v.2 (fun c d=>a (c,d)) (b 0)⟩
def ahu:List (Nat×Ô):=[(43,Ś)]
def aeS (ρ:Type):List (Ú ρ):=[Hs ρ]
def KC (ρ:Type):Env ρ:=Õ ahu (aeS ρ)
def acW:Ô:=⟨[Ã,È,Â],[Â,tI],fun(x:Val (.pair Ã (.pair È Â)))=>uW x.1 x.2.1 x.2.2⟩
def aeC:List (Nat×Ô):=[(243,I7),(244,O3),(245,O1),(246,Yb)]
def aav (ρ:Type):List (Ú ρ):=[]
def Ry (ρ:Type):Env ρ:=Õ aeC (aav ρ)
def O4:Ô:=⟨[Ã,È],[Â,tI],fun(x:Val aE)=>wW x.1 x.2⟩
def VQ:List (Nat×Ô):=[(74,Yd),(118,Fm),(167,Yg),(183,AO),(205,ym),(215,acW)]
def RP (ρ:Type):List (Ú ρ):=[]
def Hu (ρ:Type):Env ρ:=Õ VQ (RP ρ)
def acV:Ô:=⟨[Ã,tI],[È,tI],fun(x:Val aJ)=>Ic x.1 x.2⟩
def aeB:List (Nat×Ô):=[(43,Ś)]
def aat (ρ:Type):List (Ú ρ):=[]
def Rw (ρ:Type):Env ρ:=Õ aeB (aat ρ)
def aiX:Ô:=⟨[Ã,tI],[Â,tI],fun(x:Val aJ)=>Oi x.1 x.2⟩
def ahv:List (Nat×Ô):=[(208,Yc),(217,acV)]
def aeU (ρ:Type):List (Ú ρ):=[]
def W0 (ρ:Type):Env ρ:=Õ ahv (aeU ρ)
def Ly:Ô:=⟨[ae,az,(.ptr È)],[tI],fun(x:Val (.pair ae (.pair az (.ptr È))))=>oe x.1 x.2.1 x.2.2⟩
def QM:List (Nat×Ô):=[(50,kP)]
def Nb (ρ:Type):List (Ú ρ):=[]
def CJ (ρ:Type):Env ρ:=Õ QM (Nb ρ)
def Lx:Ô:=⟨[tI,tI,az,(.ptr tI),aY,(.ptr tI)],[Ĉ],fun(x:Val (.pair tI (.pair tI (.pair az (.pair (.ptr tI) (.pair aY (.ptr tI)))))))=>od x.1 x.2.1 x.2.2.1 x.2.2.2.1 x.2.2.2.2.1 x.2.2.2.2.2⟩
def QL:List (Nat×Ô):=[(52,j8)]
def M9 (ρ:Type):List (Ú ρ):=[]
def CH (ρ:Type):Env ρ:=Õ QL (M9 ρ)
def I5:Ô:=⟨[az,Â,È],[ũ,tI],fun(x:Val (.pair az bc))=>uS x.1 x.2.1 x.2.2⟩
def zn:Æ:=Ls 0 [tI,ae,ae,aa,ah,tI,tI,tI,tI,tI,ae,ae,tI,tI,tI,tI,tI,tI,tI,tI,tI,tI,tI,tI,tI,tI,tI,tI,tI,tI,ac,aa,af,ab,aa,tI] [tI,ah] ⟨127,aN 4 (.box 0 0::.box 1 0::.box 2 0::.any::.box 3 0::aN 2 (.con tI::.box 4 0::.any::.con ae::.con ae::aN 2 (.con aa::.any::.box 5 0::aN 65 [.con ah,.con tI,.var tI]))),[bw,bv,bq,bw,bw,bL,.rowv Ĉ]⟩ [(.exit 0,⟨127,aN 4 (.box 0 0::.box 1 0::.box 2 0::.any::.box 3 0::aN 2 (.con tI::.box 4 0::.any::.con ae::.con ae::aN 2 (.con aa::.any::.box 5 0::aN 65 [.con ah,.con tI]))),[bw,bv,bq,bw,bw,bL,.rowv Ĉ]⟩,[ah])]
def zm (ρ:Type):Ú ρ:=⟨[],98,0,zn,fun(p:Val (tyL zn.cs)) (v:Val É) a b=>lZ p.1 p.2.2.2.1 p.2.2.2.2.1 p.2.2.2.2.2.1 v.1 v.2 (fun c d=>a (c,d)) (b 0)⟩
def ZI:List (Nat×Ô):=[(50,kP),(77,ť),(114,I8),(166,O4),(167,Yg),(168,aiX),(169,Ly),(170,Lx)]
def CG (ρ:Type):List (Ú ρ):=[zm ρ]
def rS (ρ:Type):Env ρ:={Õ ZI (CG ρ) with hint:=KO [(110,169),(113,169),(120,170),(123,170)]}
def vq:Ô:=⟨[Ĉ],[ae],fun(x:Val Ĉ)=>iR x⟩
def Nf:List (Nat×Ô):=[]
def JW (ρ:Type):List (Ú ρ):=[]
def zq (ρ:Type):Env ρ:=Õ Nf (JW ρ)
def Ww:Ô:=⟨[Ĉ,tI],[tI],fun(x:Val (.pair Ĉ tI))=>uT x.1 x.2⟩
def ZL:List (Nat×Ô):=[]
def U6 (ρ:Type):List (Ú ρ):=[]
def LL (ρ:Type):Env ρ:=Õ ZL (U6 ρ)
def sK:Ô:=⟨[ũ,tI],[Â],fun(x:Val (.pair ũ tI))=>Ō x.1 x.2⟩
def JQ:List (Nat×Ô):=[(172,Ww)]
def FY (ρ:Type):List (Ú ρ):=[]
def xq (ρ:Type):Env ρ:=Õ JQ (FY ρ)
def sL:Ô:=⟨[ũ,ae],[ae],fun(x:Val (.pair ũ ae))=>kp x.1 x.2⟩
def qj:Æ:=Ls 0 [tI,ae,tI,tI,tI,tI,tI,tI,tI,tI,tI,tI] [tI,ae] ⟨48,aN 2 (.box 0 0::aN 2 (.own 1::.any::.con tI::.var tI::aN 7 [.con ae,.con tI,.con tI])),bX⟩ [(.exit 2,⟨48,aN 2 (.box 0 0::aN 2 (.own 1::.any::.con tI::aN 8 [.con ae,.con tI,.con tI])),bX⟩,[ae])]
def qi (ρ:Type):Ú ρ:=⟨[],106,2,qj,fun(p:Val (tyL qj.cs)) (v:Val aw) a b=>ic p.1 p.2.2.2.2.1 p.2.2.2.2.2.1 v.1 v.2 (fun c d=>a (c,d)) (b 0)⟩
def ql:Æ:=Ls 0 [ae,tI,tI,tI,tI,tI,tI,tI,tI,tI] [tI,ae] ⟨48,aN 2 (.box 0 0::aN 2 (.own 1::aN 10 [.con ae,.con tI,.var tI])),bX⟩ [(.exit 0,⟨48,aN 2 (.box 0 0::aN 2 (.own 1::aN 10 [.con ae,.con tI])),bX⟩,[ae])]
def qk (ρ:Type):Ú ρ:=⟨[],106,0,ql,fun(p:Val (tyL ql.cs)) (v:Val aw) a b=>jN p.1 p.2.1 p.2.2.1 p.2.2.2.1 v.1 v.2 (fun c d=>a (c,d)) (b 0)⟩
def JR:List (Nat×Ô):=[]
def F0 (ρ:Type):List (Ú ρ):=[qi ρ,qk ρ]
def kF (ρ:Type):Env ρ:=Õ JR (F0 ρ)
def yl:Ô:=⟨[ũ],[tI],fun(x:Val ũ)=>mc x⟩
def oH:Æ:=Ls 0 [ae,tI,tI,tI,tI,tI,tI,tI,tI,tI] [tI,tI] ⟨34,.any::.box 0 0::.any::.var tI::aN 12 [.con ae,.con tI,.var tI],[bq]⟩ [(.exit 0,⟨34,.any::.box 0 0::.any::.var tI::aN 12 [.con ae,.con tI],[bq]⟩,[tI])]
def oG (ρ:Type):Ú ρ:=⟨[],99,0,oH,fun(p:Val (tyL oH.cs)) (v:Val Â) a b=>let A:=p.2.2.2.2;jm p.1 p.2.1 p.2.2.1 p.2.2.2.1 A.1 A.2.1 A.2.2.1 A.2.2.2.1 A.2.2.2.2.1 A.2.2.2.2.2 v.1 v.2 (fun c d=>a (c,d)) (b 0)⟩
def FX:List (Nat×Ô):=[(100,Œ),(101,vq),(105,sK),(106,sL)]
def D4 (ρ:Type):List (Ú ρ):=[oG ρ]
def mV (ρ:Type):Env ρ:=Õ FX (D4 ρ)
def acP:Ô:=⟨[Ã,Â,È],[tI,tI],fun(x:Val (.pair Ã bc))=>Ak x.1 x.2.1 x.2.2⟩
def CM:Æ:=Ls 4 [tI,tI,tI,ac,aa,af,ab,aa,tI,tI,tI,tI,ae,ae,tI,tI,tI,tI,aa] [tI,tI,tI,ac,aa,af,ab,aa] ⟨68,aN 2 (.box 4 0::aN 20 [.own 3,.con tI,.var tI]),cu⟩ [(.ret,⟨68,aN 2 (.box 4 0::.any::.nilp::.var tI::aN 17 [.own 3,.con tI]),cu⟩,[tI,tI,tI,ac,aa,af,ab,aa]),(.exit 0,⟨68,aN 2 (.box 4 0::aN 20 [.own 3,.con tI]),cu⟩,[tI,tI,ac,aa,af,ab,aa])]
def CL (ρ:Type):Ú ρ:=⟨[1,3],41,0,CM,fun(p:Val (tyL CM.cs)) (v:Val aF) b a=>zu p.1 p.2.2.2.2.2.2.2.2.2.2.2.2.2.2.2.2.2.2 v.1 v.2.1 v.2.2.1 v.2.2.2.1 v.2.2.2.2.1 v.2.2.2.2.2.1 v.2.2.2.2.2.2.1 v.2.2.2.2.2.2.2 (fun c d e f g h i j=>b (c,d,e,f,g,h,i,j)) (a 0) (a 1)⟩
def aea:List (Nat×Ô):=[(43,Ś),(53,j9),(54,qZ),(77,ť),(98,I5),(99,yl),(108,Ţ)]
def ZT (ρ:Type):List (Ú ρ):=[CL ρ]
def Ec (ρ:Type):Env ρ:=Õ aea (ZT ρ)
def Fk:Ô:=⟨[tI],[tI],fun(x:Val tI)=>md x⟩
def Nh:List (Nat×Ô):=[]
def J5 (ρ:Type):List (Ú ρ):=[]
def zw (ρ:Type):Env ρ:=Õ Nh (J5 ρ)
def Fh:Ô:=⟨[Ĉ,tI],[ae],fun(x:Val (.pair Ĉ tI))=>iS x.1 x.2⟩
def Ng:List (Nat×Ô):=[]
def JY (ρ:Type):List (Ú ρ):=[]
def zr (ρ:Type):Env ρ:=Õ Ng (JY ρ)
def OV:Ô:=⟨[Ã,Â,Â,È],[.bool,tI],fun(x:Val (.pair Ã (.pair Â bc)))=>qH x.1 x.2.1 x.2.2.1 x.2.2.2⟩
def Γ:Æ:=Ls 5 [tI,tI,tI,ac,aa,af,ab,aa,tI,tI,tI,tI,tI,tI,ae,ae,tI,tI,tI,tI,aa] [tI,tI,tI,ac,aa,af,ab,aa] ⟨68,aN 2 (.box 5 0::aN 20 [.own 4,.con tI,.var tI]),cw⟩ [(.ret,⟨68,aN 2 (.box 5 0::.any::.nilp::.var tI::aN 17 [.own 4,.con tI]),cw⟩,[tI,tI,tI,ac,aa,af,ab,aa]),(.exit 0,⟨68,aN 2 (.box 5 0::aN 20 [.own 4,.con tI]),cw⟩,[tI,tI,ac,aa,af,ab,aa])]
def oA (ρ:Type):Ú ρ:=⟨[1,3],41,0,Γ,fun(p:Val ax) (v:Val aF) b a=>sX p.1 p.2.2.2.2.2.2.2.2.2.2.2.2.2.2.2.2.2.2.2.2 v.1 v.2.1 v.2.2.1 v.2.2.2.1 v.2.2.2.2.1 v.2.2.2.2.2.1 v.2.2.2.2.2.2.1 v.2.2.2.2.2.2.2 (fun c d e f g h i j=>b (c,d,e,f,g,h,i,j)) (a 0) (a 1)⟩
def Β:Æ:=Ls 12 [ae,tI,tI,tI,ac,aa,af,ab,aa,tI,tI,tI,tI,tI,tI,ae,ae,tI,tI,tI,tI,aa,tI,tI,ac,aa,af,ab,aa,tI,ah,tI,tI,tI,tI,tI,tI,tI,tI,ak,ak,ak] [tI] ⟨19,.con ae::.fn 104 [(8,0),(2,0)]::aN 5 [.con tI,.var tI],cz⟩ [(.ret,⟨19,[.con ae,.fn 104 [(8,0),(2,0)],.any,.any,.var tI,.any,.any,.con tI],cz⟩,[tI]),(.exit 0,⟨19,.con ae::.fn 104 [(8,0),(2,0)]::aN 5 [.con tI],cz⟩,[])]
def oz (ρ:Type):Ú ρ:=⟨[18,4,1,2],115,0,Β,fun(p:Val ao) (v:Val tI) b a=>let A:=p.2.2.2.2.2.2.2.2.2.2.2;let B:=A.2.2.2.2.2.2.2.2.2.2.2.2.2.2.2.2.2.2.2.2;let C:=B.2.2.2.2;nt p.1 p.2.1 A.1 A.2.1 B.1 B.2.1 B.2.2.1 B.2.2.2.1 C.1 C.2.1 C.2.2.1 C.2.2.2.1 v (fun c=>b c) (a 0) (a 1)⟩
def CN:List (Nat×Ô):=[(43,Ś),(53,j9),(54,qZ),(77,ť),(93,Dw),(98,I5),(100,Œ),(101,vq),(102,Fk),(103,Fh),(105,sK),(106,sL),(108,Ţ)]
def qr (ρ:Type):List (Ú ρ):=[oA ρ,oz ρ]
def sW:List apb:=[⟨[],38,0,4⟩]
def đ (ρ:Type):Env ρ:={Õ CN (qr ρ) with hint:=KO [(51,102),(55,102)]}
def vR (ρ:Type):Env ρ:={{arl CN (qr ρ) sW with loops:=aeZ (đ ρ) sW} with hint:=KO [(51,102),(55,102)]}
def Dy:Ô:=⟨[É,ae],[tI],fun(x:Val aU)=>qI x.1 x.2⟩
def Np:Æ:=Ls 1 [ae,tI,tI,ah] [tI] ⟨19,.con ae::.fn 213 [(0,0)]::aN 5 [.con tI,.var tI],[bz]⟩ [(.ret,⟨19,[.con ae,.fn 213 [(0,0)],.any,.any,.var tI,.any,.any,.con tI],[bz]⟩,[tI]),(.exit 0,⟨19,.con ae::.fn 213 [(0,0)]::aN 5 [.con tI],[bz]⟩,[])]
def xC (ρ:Type):Ú ρ:=⟨[3,2,1,2],115,0,Np,fun(p:Val (.pair ae aH)) (v:Val tI) b a=>nu p.1 p.2.1 p.2.2.2 v (fun c=>b c) (a 0) (a 1)⟩
def Vi:List (Nat×Ô):=[]
def Q2 (ρ:Type):List (Ú ρ):=[xC ρ]
def vZ (ρ:Type):Env ρ:=Õ Vi (Q2 ρ)
def X9:Ô:=⟨[É,tI,ae],[tI,tI,.bool],fun(x:Val (.pair É aw))=>H9 x.1 x.2.1 x.2.2⟩
def Z1:Æ:=Ls 0 [ae,tI,tI,ah] [tI,tI,tI] ⟨37,.any::.var tI::.any::.box 0 0::aN 5 [.var tI,.any,.any,.any,.con ae,.con tI,.var tI],[bz]⟩ [(.ret,⟨37,aN 3 (.box 0 0::aN 2 (.var tI::.var tI::.var .bool::aN 4 [.con ae,.con tI])),[bz]⟩,[tI,tI,.bool]),(.exit 0,⟨37,.any::.var tI::.any::.box 0 0::aN 5 [.var tI,.any,.any,.any,.con ae,.con tI],[bz]⟩,[tI,tI])]
def GH (ρ:Type):Ú ρ:=⟨[],156,0,Z1,fun(p:Val (.pair ae aH)) (v:Val Ĉ) b a=>vY p.1 p.2.1 p.2.2.2 v.1 v.2.1 v.2.2 (fun c d e=>b (c,d,e)) (a 0) (a 1)⟩
def ag4:List (Nat×Ô):=[]
def aef (ρ:Type):List (Ú ρ):=[GH ρ]
def Kf (ρ:Type):Env ρ:=Õ ag4 (aef ρ)
def B8:Ô:=⟨[É,ae],[tI],fun(x:Val aU)=>ny x.1 x.2⟩
def Kl:List (Nat×Ô):=[(146,tR),(155,Dy),(156,X9)]
def GU (ρ:Type):List (Ú ρ):=[]
def xE (ρ:Type):Env ρ:=Õ Kl (GU ρ)
def sN:Ô:=⟨[ü],[tI],fun(x:Val ü)=>jd x⟩
def J7:List (Nat×Ô):=[(43,Ś),(77,ť),(81,B8)]
def GF (ρ:Type):List (Ú ρ):=[]
def xv (ρ:Type):Env ρ:=Õ J7 (GF ρ)
def B9:Ô:=⟨[É,tI,tI,ae],[tI,tI],fun(x:Val (.pair É (.pair tI aw)))=>kq x.1 x.2.1 x.2.2.1 x.2.2.2⟩
def Km:List (Nat×Ô):=[(146,tR),(155,Dy),(156,X9),(173,NX)]
def GW (ρ:Type):List (Ú ρ):=[]
def xF (ρ:Type):Env ρ:=Õ Km (GW ρ)
def vr:Ô:=⟨[ü],[tI],fun(x:Val ü)=>mf x⟩
def Nk:List (Nat×Ô):=[(43,Ś),(53,j9),(77,ť),(107,B9)]
def J8 (ρ:Type):List (Ú ρ):=[]
def zA (ρ:Type):Env ρ:=Õ Nk (J8 ρ)
def iY:Ô:=⟨[ac,Ï],[tI],fun(x:Val (.pair ac Ï))=>ř x.1 x.2⟩
def Ź:Æ:=Ls 0 [ac,tI,tI,tI,tI,tI,tI,tI,tI,tI] [tI] ⟨19,[.con ac,.any,.any,.box 0 0,.any,.any,.any,.con tI,.var tI],[bq]⟩ [(.ret,⟨19,[.con ac,.any,.any,.box 0 0,.var tI,.any,.any,.con tI],[bq]⟩,[tI]),(.exit 0,⟨19,[.con ac,.any,.any,.box 0 0,.any,.any,.any,.con tI],[bq]⟩,[])]
def Ÿ (ρ:Type):Ú ρ:=⟨[],233,0,Ź,fun(p:Val (tyL Ź.cs)) (v:Val tI) b a=>let A:=p.2.2.2.2;Ā p.1 p.2.1 p.2.2.1 p.2.2.2.1 A.1 A.2.1 A.2.2.1 A.2.2.2.1 A.2.2.2.2.1 A.2.2.2.2.2 v (fun c=>b c) (a 0) (a 1)⟩
def mu:List (Nat×Ô):=[]
def lK (ρ:Type):List (Ú ρ):=[Ÿ ρ]
def ņ (ρ:Type):Env ρ:=Õ mu (lK ρ)
def κ:Ô:=⟨[ac,Ï],[.bool],fun(x:Val (.pair ac Ï))=>Ĝ x.1 x.2⟩
def kT:List (Nat×Ô):=[(233,iY)]
def ke (ρ:Type):List (Ú ρ):=[]
def ź (ρ:Type):Env ρ:=Õ kT (ke ρ)
def j7:Ô:=⟨[aa,Â],[tI],fun(x:Val bg)=>δ x.1 x.2⟩
def nE:Æ:=Ls 0 [aa,tI,tI,tI] [tI] ⟨19,[.con aa,.any,.any,.box 0 0,.any,.any,.any,.con tI,.var tI],[bw]⟩ [(.ret,⟨19,[.con aa,.any,.any,.box 0 0,.var tI,.any,.any,.con tI],[bw]⟩,[tI]),(.exit 0,⟨19,[.con aa,.any,.any,.box 0 0,.any,.any,.any,.con tI],[bw]⟩,[])]
def iz (ρ:Type):Ú ρ:=⟨[],235,0,nE,fun(p:Val (.pair aa Ĉ)) (v:Val tI) b a=>ĕ p.1 p.2.1 p.2.2.1 p.2.2.2 v (fun c=>b c) (a 0) (a 1)⟩
def oP:List (Nat×Ô):=[]
def ou (ρ:Type):List (Ú ρ):=[iz ρ]
def ŭ (ρ:Type):Env ρ:=Õ oP (ou ρ)
def ji:Ô:=⟨[aa,Â],[.bool],fun(x:Val bg)=>Ę x.1 x.2⟩
def mS:List (Nat×Ô):=[(235,j7)]
def mw (ρ:Type):List (Ú ρ):=[]
def iA (ρ:Type):Env ρ:=Õ mS (mw ρ)
def jr:Ô:=⟨[af,Ń],[tI],fun(x:Val (.pair af Ń))=>Ų x.1 x.2⟩
def π:Æ:=Ls 0 [af,tI,tI,tI,tI,tI] [tI] ⟨19,[.con af,.any,.any,.box 0 0,.any,.any,.any,.con tI,.var tI],[br]⟩ [(.ret,⟨19,[.con af,.any,.any,.box 0 0,.var tI,.any,.any,.con tI],[br]⟩,[tI]),(.exit 0,⟨19,[.con af,.any,.any,.box 0 0,.any,.any,.any,.con tI],[br]⟩,[])]
def ο (ρ:Type):Ú ρ:=⟨[],237,0,π,fun(p:Val (tyL π.cs)) (v:Val tI) b a=>ċ p.1 p.2.1 p.2.2.1 p.2.2.2.1 p.2.2.2.2.1 p.2.2.2.2.2 v (fun c=>b c) (a 0) (a 1)⟩
def nH:List (Nat×Ô):=[]
def mQ (ρ:Type):List (Ú ρ):=[ο ρ]
def ŗ (ρ:Type):Env ρ:=Õ nH (mQ ρ)
def iy:Ô:=⟨[af,Ń],[.bool],fun(x:Val (.pair af Ń))=>č x.1 x.2⟩
def lM:List (Nat×Ô):=[(237,jr)]
def lz (ρ:Type):List (Ú ρ):=[]
def ς (ρ:Type):Env ρ:=Õ lM (lz ρ)
def aiT:Ô:=⟨[Ã,Ã],[.bool],fun(x:Val aW)=>H5 x.1 x.2⟩
def Gs:Æ:=Ls 0 [ac,tI,tI,tI,ac,aa,af,ab,aa,tI,tI,ac,aa,af,ab,aa] [tI,am] ⟨87,aN 2 (.box 0 0::.box 1 0::.any::.box 2 0::aN 10 [.con ac,.con tI,.var tI]),[bp,bp,bM,.mapv tI .bool]⟩ [(.exit 0,⟨87,aN 2 (.box 0 0::.box 1 0::.any::.box 2 0::aN 10 [.con ac,.con tI]),[bp,bp,bM,.mapv tI .bool]⟩,[am])]
def Gr (ρ:Type):Ú ρ:=⟨[],55,0,Gs,fun(p:Val (tyL Gs.cs)) (v:Val (.pair tI am)) a b=>vN p.1 p.2.1 v.1 v.2 (fun c d=>a (c,d)) (b 0)⟩
def Gl:Æ:=Ls 6 [ae,ae,tI,tI,tI,ac,aa,af,ab,aa,tI,tI,ac,aa,af,ab,aa,am,tI,tI,ae,ae,tI,tI,tI,tI,tI,tI,ae,ae,tI,tI,tI,tI] [tI] ⟨26,.con ae::.con ae::aN 10 [.con tI,.var tI],cA⟩ [(.ret,⟨26,.con ae::.con ae::aN 2 (.var .bool::aN 7 [.con tI]),cA⟩,[.bool]),(.exit 0,⟨26,.con ae::.con ae::aN 10 [.con tI],cA⟩,[])]
def Gk (ρ:Type):Ú ρ:=⟨[14,3,1,2,4,5,1,38],126,0,Gl,fun(p:Val (tyL Gl.cs)) (v:Val tI) b a=>mZ p.1 p.2.1 p.2.2.1 v (fun c=>b c) (a 0) (a 1)⟩
def Gj:Æ:=Ls 6 [ae,ae,tI,tI,tI,ac,aa,af,ab,aa,tI,tI,ac,aa,af,ab,aa,am,tI,tI,ae,ae,tI,tI,tI,tI,tI,tI,ae,ae,tI,tI,tI,tI] [tI] ⟨26,.con ae::.con ae::aN 10 [.con tI,.var tI],cA⟩ [(.ret,⟨26,.con ae::.con ae::aN 2 (.var .bool::aN 7 [.con tI]),cA⟩,[.bool]),(.exit 0,⟨26,.con ae::.con ae::aN 10 [.con tI],cA⟩,[])]
def Gi (ρ:Type):Ú ρ:=⟨[14,3,1,2,4,5,1,45],126,0,Gj,fun(p:Val (tyL Gj.cs)) (v:Val tI) b a=>vM p.1 p.2.1 p.2.2.1 v (fun c=>b c) (a 0) (a 1)⟩
def Gn:Æ:=Ls 5 [ab,tI,tI,tI,ac,aa,af,ab,aa,tI,tI,ac,aa,af,ab,aa,am,tI,tI,ae,ae,tI,tI,tI,tI] [tI] ⟨19,.con ab::.fn 125 [(4,0)]::aN 5 [.con tI,.var tI],cB⟩ [(.ret,⟨19,[.con ab,.fn 125 [(4,0)],.any,.any,.var tI,.any,.any,.con tI],cB⟩,[tI]),(.exit 0,⟨19,.con ab::.fn 125 [(4,0)]::aN 5 [.con tI],cB⟩,[])]
def Gm (ρ:Type):Ú ρ:=⟨[14,3,1,2],187,0,Gn,fun(p:Val (tyL Gn.cs)) (v:Val tI) b a=>let A:=p.2.2.2.2.2.2.2.2.2.2.2.2.2.2.2.2.2;let B:=A.2.2.2.2;qo p.1 p.2.1 A.1 A.2.1 A.2.2.1 A.2.2.2.1 B.1 B.2.1 B.2.2.1 B.2.2.2 v (fun c=>b c) (a 0) (a 1)⟩
def Gq:Æ:=Ls 0 [ab,tI,tI,tI,ac,aa,af,ab,aa,tI,tI,ac,aa,af,ab,aa,am] [tI] ⟨87,aN 2 (.box 0 0::.box 1 0::aN 4 (.fn 122 []::.fn 123 [(2,0)]::.fn 124 [(2,0)]::aN 18 [.con ab,.con tI,.var tI])),cD⟩ [(.ret,⟨87,aN 2 (.box 0 0::.box 1 0::.var .bool::aN 3 (.fn 122 []::.fn 123 [(2,0)]::.fn 124 [(2,0)]::aN 18 [.con ab,.con tI])),cD⟩,[.bool]),(.exit 2,⟨87,aN 2 (.box 0 0::.box 1 0::aN 4 (.fn 122 []::.fn 123 [(2,0)]::.fn 124 [(2,0)]::aN 18 [.con ab,.con tI])),cD⟩,[])]
def Gp (ρ:Type):Ú ρ:=⟨[],55,2,Gq,fun(p:Val (tyL Gq.cs)) (v:Val tI) b a=>qp p.1 p.2.1 p.2.2.2.2.2.2.2.2.2.2.2.2.2.2.1 v (fun c=>b c) (a 0) (a 1)⟩
def Gh:Æ:=Ls 6 [ac,tI,tI,tI,ac,aa,af,ab,aa,tI,tI,ac,aa,af,ab,aa,am,ac] [tI] ⟨19,.con ac::.fn 189 [(5,0),(4,0)]::aN 5 [.con tI,.var tI],cE⟩ [(.ret,⟨19,[.con ac,.fn 189 [(5,0),(4,0)],.any,.any,.var tI,.any,.any,.con tI],cE⟩,[tI]),(.exit 0,⟨19,.con ac::.fn 189 [(5,0),(4,0)]::aN 5 [.con tI],cE⟩,[])]
def Gg (ρ:Type):Ú ρ:=⟨[17,11,1,2,1,2],232,0,Gh,fun(p:Val (tyL Gh.cs)) (v:Val tI) b a=>qn p.1 p.2.1 p.2.2.2.2.2.2.2.2.2.2.2.2.2.2.2.2.2 v (fun c=>b c) (a 0) (a 1)⟩
def Gf:Æ:=Ls 8 [aa,tI,tI,tI,ac,aa,af,ab,aa,tI,tI,ac,aa,af,ab,aa,am,ac,aa] [tI] ⟨19,.con aa::.fn 192 [(7,0),(6,0)]::aN 5 [.con tI,.var tI],cF⟩ [(.ret,⟨19,[.con aa,.fn 192 [(7,0),(6,0)],.any,.any,.var tI,.any,.any,.con tI],cF⟩,[tI]),(.exit 0,⟨19,.con aa::.fn 192 [(7,0),(6,0)]::aN 5 [.con tI],cF⟩,[])]
def Ge (ρ:Type):Ú ρ:=⟨[17,19,1,2,1,2],234,0,Gf,fun(p:Val (tyL Gf.cs)) (v:Val tI) b a=>kV p.1 p.2.1 p.2.2.2.2.2.2.2.2.2.2.2.2.2.2.2.2.1 p.2.2.2.2.2.2.2.2.2.2.2.2.2.2.2.2.2.2 v (fun c=>b c) (a 0) (a 1)⟩
def Gd:Æ:=Ls 10 [aa,tI,tI,tI,ac,aa,af,ab,aa,tI,tI,ac,aa,af,ab,aa,am,ac,aa,aa] [tI] ⟨19,.con aa::.fn 192 [(9,0),(8,0)]::aN 5 [.con tI,.var tI],cG⟩ [(.ret,⟨19,[.con aa,.fn 192 [(9,0),(8,0)],.any,.any,.var tI,.any,.any,.con tI],cG⟩,[tI]),(.exit 0,⟨19,.con aa::.fn 192 [(9,0),(8,0)]::aN 5 [.con tI],cG⟩,[])]
def Gc (ρ:Type):Ú ρ:=⟨[17,27,1,2,1,2],234,0,Gd,fun(p:Val (tyL Gd.cs)) (v:Val tI) b a=>mY p.1 p.2.1 p.2.2.2.2.2.2.2.2.2.2.2.2.2.2.2.2.1 p.2.2.2.2.2.2.2.2.2.2.2.2.2.2.2.2.2.2.2 v (fun c=>b c) (a 0) (a 1)⟩
def Gb:Æ:=Ls 12 [af,tI,tI,tI,ac,aa,af,ab,aa,tI,tI,ac,aa,af,ab,aa,am,ac,aa,aa,af] [tI] ⟨19,.con af::.fn 195 [(11,0),(10,0)]::aN 5 [.con tI,.var tI],cH⟩ [(.ret,⟨19,[.con af,.fn 195 [(11,0),(10,0)],.any,.any,.var tI,.any,.any,.con tI],cH⟩,[tI]),(.exit 0,⟨19,.con af::.fn 195 [(11,0),(10,0)]::aN 5 [.con tI],cH⟩,[])]
def Ga (ρ:Type):Ú ρ:=⟨[17,35,1,2,1,2],236,0,Gb,fun(p:Val (tyL Gb.cs)) (v:Val tI) b a=>Ĺ p.1 p.2.1 p.2.2.2.2.2.2.2.2.2.2.2.2.2.2.2.2.1 p.2.2.2.2.2.2.2.2.2.2.2.2.2.2.2.2.2.2.2.2 v (fun c=>b c) (a 0) (a 1)⟩
def F9:Æ:=Ls 14 [af,tI,tI,tI,ac,aa,af,ab,aa,tI,tI,ac,aa,af,ab,aa,am,ac,aa,aa,af,af] [tI] ⟨19,.con af::.fn 195 [(13,0),(12,0)]::aN 5 [.con tI,.var tI],cI⟩ [(.ret,⟨19,[.con af,.fn 195 [(13,0),(12,0)],.any,.any,.var tI,.any,.any,.con tI],cI⟩,[tI]),(.exit 0,⟨19,.con af::.fn 195 [(13,0),(12,0)]::aN 5 [.con tI],cI⟩,[])]
def F8 (ρ:Type):Ú ρ:=⟨[17,43,1,2,1,2],236,0,F9,fun(p:Val (tyL F9.cs)) (v:Val tI) b a=>Ē p.1 p.2.1 p.2.2.2.2.2.2.2.2.2.2.2.2.2.2.2.2.1 p.2.2.2.2.2.2.2.2.2.2.2.2.2.2.2.2.2.2.2.2.2 v (fun c=>b c) (a 0) (a 1)⟩
def agZ:List (Nat×Ô):=[(190,κ),(193,ji),(196,iy)]
def adZ (ρ:Type):List (Ú ρ):=[Gr ρ,Gk ρ,Gi ρ,Gm ρ,Gp ρ,Gg ρ,Ge ρ,Gc ρ,Ga ρ,F8 ρ]
def Α (ρ:Type):Env ρ:=Õ agZ (adZ ρ)
def Wx:Ô:=⟨[Ã,ü],[.bool,tI],fun(x:Val (.pair Ã ü))=>Bj x.1 x.2⟩
def ZV:List (Nat×Ô):=[(25,sN),(40,vr),(43,Ś),(55,aiT)]
def Vb (ρ:Type):List (Ú ρ):=[]
def LQ (ρ:Type):Env ρ:=Õ ZV (Vb ρ)
def OO:Ô:=⟨[],[.bool],fun(_:Unit)=>iQ⟩
def TL:List (Nat×Ô):=[(9,Lz),(10,aiU),(12,OY),(24,OW),(34,Lv),(35,acQ),(36,OX),(37,acP),(38,OV),(39,Wx),(40,vr)]
def Pg (ρ:Type):List (Ú ρ):=[]
def FB (ρ:Type):Env ρ:=Õ TL (Pg ρ)
def nA:Ô:=⟨[Â,tI,tI],[.bool],fun(x:Val å)=>jB x.1 x.2.1 x.2.2⟩
def PC:List (Nat×Ô):=[]
def Mx (ρ:Type):List (Ú ρ):=[]
def Cm (ρ:Type):Env ρ:=Õ PC (Mx ρ)
def I3:Ô:=⟨[tI,tI,tI],[.bool],fun(x:Val Ĉ)=>l9 x.1 x.2.1 x.2.2⟩
def akt:List (Nat×Ô):=[]
def agJ (ρ:Type):List (Ú ρ):=[]
def ady (ρ:Type):Env ρ:=Õ akt (agJ ρ)
def Fg:Ô:=⟨[tI],[.bool],fun(x:Val tI)=>wO x⟩
def agN:List (Nat×Ô):=[(132,I3)]
def adC (ρ:Type):List (Ú ρ):=[]
def WH (ρ:Type):Env ρ:=Õ agN (adC ρ)
def X7:Ô:=⟨[tI,tI],[tI],fun(x:Val Â)=>Bh x.1 x.2⟩
def Zx:Æ:=Ls 0 [] [tI,tI] ⟨14,[.var tI,.var tI],[]⟩ [(.exit 0,⟨14,[.var tI],[]⟩,[tI])]
def FW (ρ:Type):Ú ρ:=⟨[],197,0,Zx,fun(p:Unit) (v:Val Â) a b=>vK v.1 v.2 (fun c d=>a (c,d)) (b 0)⟩
def agV:List (Nat×Ô):=[]
def adQ (ρ:Type):List (Ú ρ):=[FW ρ]
def JO (ρ:Type):Env ρ:=Õ agV (adQ ρ)
def X8:Ô:=⟨[tI],[tI],fun(x:Val tI)=>H4 x⟩
def agX:List (Nat×Ô):=[]
def adV (ρ:Type):List (Ú ρ):=[]
def WN (ρ:Type):Env ρ:=Õ agX (adV ρ)
def Wt:Ô:=⟨[Â],[.bool],fun(x:Val Â)=>Bf x⟩
def Zs:List (Nat×Ô):=[(197,X7),(198,X8)]
def UK (ρ:Type):List (Ú ρ):=[]
def LI (ρ:Type):Env ρ:=Õ Zs (UK ρ)
def Wq:Ô:=⟨[Ï],[.bool],fun(x:Val Ï)=>Bc x⟩
def YM:List (Nat×Ô):=[(56,nA),(62,Fg),(131,Wt),(132,I3)]
def T8 (ρ:Type):List (Ú ρ):=[]
def LF (ρ:Type):Env ρ:=Õ YM (T8 ρ)
def yk:Ô:=⟨[Ã,tI],[tI],fun(x:Val aJ)=>qD x.1 x.2⟩
def Uw:Æ:=Ls 0 [tI,tI,tI,ac,aa,af,ab,aa] [tI] ⟨22,[.any,.con tI,.box 0 0,.any,.any,.var tI],[bp]⟩ [(.ret,⟨22,[.any,.con tI,.box 0 0,.any,.var tI],[bp]⟩,[tI]),(.exit 0,⟨22,[.any,.con tI,.box 0 0],[bp]⟩,[])]
def Cz (ρ:Type):Ú ρ:=⟨[],134,0,Uw,fun(p:Val aF) (v:Val tI) b a=>rN p.1 p.2.2.2.1 v (fun c=>b c) (a 0) (a 1)⟩
def adB:List (Nat×Ô):=[]
def Zd (ρ:Type):List (Ú ρ):=[Cz ρ]
def DZ (ρ:Type):Env ρ:=Õ adB (Zd ρ)
def tO:Ô:=⟨[Ã,tI,tI],[tI],fun(x:Val aG)=>nc x.1 x.2.1 x.2.2⟩
def YU:List (Nat×Ô):=[(134,yk)]
def Uh (ρ:Type):List (Ú ρ):=[]
def LG (ρ:Type):Env ρ:=Õ YU (Uh ρ)
def acB:Ô:=⟨[Ã],[tI],fun(x:Val Ã)=>HU x⟩
def T1:Æ:=Ls 0 [tI,tI,ac,aa,af,ab,aa] [tI] ⟨37,[.any,.box 0 0,.any,.var tI],[bp]⟩ [(.ret,⟨37,[.any,.box 0 0,.var tI],[bp]⟩,[tI]),(.exit 0,⟨37,[.any,.box 0 0],[bp]⟩,[])]
def Cl (ρ:Type):Ú ρ:=⟨[],58,0,T1,fun(p:Val ai) (v:Val tI) b a=>let A:=p.2.2.2.2;rr p.1 p.2.1 p.2.2.1 p.2.2.2.1 A.1 A.2.1 A.2.2 v (fun c=>b c) (a 0) (a 1)⟩
def adk:List (Nat×Ô):=[(62,Fg),(63,tO)]
def YG (ρ:Type):List (Ú ρ):=[Cl ρ]
def DJ (ρ:Type):Env ρ:=Õ adk (YG ρ)
def Wo:Ô:=⟨[Ã],[tI],fun(x:Val Ã)=>Bb x⟩
def PE:Æ:=Ls 0 [tI,tI,tI,ac,aa,af,ab,aa,tI,tI,tI,tI] [tI] ⟨111,[.any,.box 0 0,.any,.con tI,.box 1 0,.any,.var tI],bY⟩ [(.ret,⟨111,[.any,.box 0 0,.var tI,.con tI,.box 1 0],bY⟩,[tI]),(.exit 2,⟨111,[.any,.box 0 0,.any,.con tI,.box 1 0],bY⟩,[])]
def yF (ρ:Type):Ú ρ:=⟨[],59,2,PE,fun(p:Val (.pair tI ay)) (v:Val tI) b a=>let A:=p.2.2.2.2.2;oS p.1 A.1 A.2.2.2.1 A.2.2.2.2.1 A.2.2.2.2.2.1 v (fun c=>b c) (a 0) (a 1)⟩
def PD:Æ:=Ls 0 [tI,tI,tI,ac,aa,af,ab,aa,tI,tI,tI,tI] [tI] ⟨111,[.any,.box 0 0,.any,.con tI,.box 1 0,.any,.any,.var tI],bY⟩ [(.ret,⟨111,[.any,.box 0 0,.var tI,.con tI,.box 1 0],bY⟩,[tI]),(.exit 4,⟨111,[.any,.box 0 0,.any,.con tI,.box 1 0],bY⟩,[])]
def yE (ρ:Type):Ú ρ:=⟨[],59,4,PD,fun(p:Val (.pair tI ay)) (v:Val tI) b a=>let A:=p.2.2.2.2;let B:=A.2.2.2.2;lQ A.1 B.1 B.2.1 B.2.2.1 v (fun c=>b c) (a 0) (a 1)⟩
def PF:Æ:=Ls 0 [tI,tI,ac,aa,af,ab,aa] [tI] ⟨111,[.any,.box 0 0,.any,.var tI],[bp]⟩ [(.ret,⟨111,[.any,.box 0 0,.var tI],[bp]⟩,[tI]),(.exit 0,⟨111,[.any,.box 0 0],[bp]⟩,[])]
def yG (ρ:Type):Ú ρ:=⟨[],59,0,PF,fun(p:Val ai) (v:Val tI) b a=>let A:=p.2.2.2.2;oT p.1 p.2.1 p.2.2.1 p.2.2.2.1 A.1 A.2.1 A.2.2 v (fun c=>b c) (a 0) (a 1)⟩
def YK:List (Nat×Ô):=[(56,nA),(63,tO),(132,I3)]
def T4 (ρ:Type):List (Ú ρ):=[yF ρ,yE ρ,yG ρ]
def nJ (ρ:Type):Env ρ:=Õ YK (T4 ρ)
def acG:Ô:=⟨[ae],[.bool],fun(x:Val ae)=>Ai x⟩
def Un:Æ:=Ls 0 [ae] [tI] ⟨35,[.con ae,.any,.any,.var tI],[]⟩ [(.ret,⟨35,[.con ae,.any,.var .bool],[]⟩,[.bool]),(.exit 0,⟨35,[.con ae],[]⟩,[])]
def Cu (ρ:Type):Ú ρ:=⟨[],133,0,Un,fun(p:Val ae) (v:Val tI) b a=>rJ p v (fun c=>b c) (a 0) (a 1)⟩
def adt:List (Nat×Ô):=[(132,I3)]
def YZ (ρ:Type):List (Ú ρ):=[Cu ρ]
def DT (ρ:Type):Env ρ:=Õ adt (YZ ρ)
def Wn:Ô:=⟨[È],[.bool],fun(x:Val È)=>Ba x⟩
def YI:List (Nat×Ô):=[(56,nA),(62,Fg),(132,I3),(133,acG)]
def T2 (ρ:Type):List (Ú ρ):=[]
def LC (ρ:Type):Env ρ:=Õ YI (T2 ρ)
def OP:Ô:=⟨[Ã,tI,tI],[Ń,.bool],fun(x:Val aG)=>Aj x.1 x.2.1 x.2.2⟩
def Uq:Æ:=Ls 0 [tI,tI,tI,tI,ac,aa,af,ab,aa] [tI,tI,tI,tI,tI] ⟨42,[.any,.con tI,.con tI,.box 0 0,.any,.any,.box 1 0,.any,.var tI],[bp,bT]⟩ [(.ret,⟨42,[.any,.con tI,.con tI,.box 0 0,.any,.any,.box 1 0,.var .bool],[bp,bT]⟩,[.bool,tI,tI,tI,tI]),(.exit 0,⟨42,[.any,.con tI,.con tI,.box 0 0,.any,.any,.box 1 0],[bp,bT]⟩,[tI,tI,tI,tI])]
def Cx (ρ:Type):Ú ρ:=⟨[],135,0,Uq,fun(p:Val (.pair tI aF)) (v:Val (.pair tI bf)) b a=>rL p.1 p.2.1 p.2.2.2.2.2.2.1 v.1 v.2.1 v.2.2.1 v.2.2.2.1 v.2.2.2.2 (fun c d e f g=>b (c,d,e,f,g)) (a 0) (a 1)⟩
def adw:List (Nat×Ô):=[]
def Y6 (ρ:Type):List (Ú ρ):=[Cx ρ]
def DW (ρ:Type):Env ρ:=Õ adw (Y6 ρ)
def aiM:Ô:=⟨[ae,tI],[.bool],fun(x:Val aL)=>Oc x.1 x.2⟩
def Zb:Æ:=Ls 0 [ae,tI] [tI] ⟨18,[.con ae,.con tI,.any,.any,.any,.var tI],[]⟩ [(.ret,⟨18,[.con ae,.con tI,.any,.any,.var .bool],[]⟩,[.bool]),(.exit 0,⟨18,[.con ae,.con tI],[]⟩,[])]
def FP (ρ:Type):Ú ρ:=⟨[],199,0,Zb,fun(p:Val aL) (v:Val tI) b a=>vG p.1 p.2 v (fun c=>b c) (a 0) (a 1)⟩
def agM:List (Nat×Ô):=[]
def adz (ρ:Type):List (Ú ρ):=[FP ρ]
def Jv (ρ:Type):Env ρ:=Õ agM (adz ρ)
def OQ:Ô:=⟨[ae,ae],[ae],fun(x:Val aO)=>km x.1 x.2⟩
def Ur:Æ:=Ls 0 [ae,ae] [tI,ae] ⟨28,[.con ae,.con ae,.any,.any,.any,.own 0,.var tI],[.rowv tI]⟩ [(.exit 0,⟨28,[.con ae,.con ae,.any,.any,.any,.own 0],[.rowv tI]⟩,[ae])]
def Cy (ρ:Type):Ú ρ:=⟨[],136,0,Ur,fun(p:Val aO) (v:Val aw) a b=>rM p.1 p.2 v.1 v.2 (fun c d=>a (c,d)) (b 0)⟩
def adx:List (Nat×Ô):=[(199,aiM)]
def Y8 (ρ:Type):List (Ú ρ):=[Cy ρ]
def DX (ρ:Type):Env ρ:=Õ adx (Y8 ρ)
def Fe:Ô:=⟨[Ã,È],[tI],fun(x:Val aE)=>jU x.1 x.2⟩
def FG:Æ:=Ls 0 [tI,tI,ac,aa,af,ab,aa,tI,tI,ae,ae,tI,tI,tI,tI,ae] [tI] ⟨90,[.any,.any,.box 0 0,.box 1 0,.any,.own 2,.var tI],bZ⟩ [(.ret,⟨90,[.any,.any,.box 0 0,.box 1 0,.var tI,.own 2],bZ⟩,[tI]),(.exit 0,⟨90,[.any,.any,.box 0 0,.box 1 0,.any,.own 2],bZ⟩,[])]
def rz (ρ:Type):Ú ρ:=⟨[],61,0,FG,fun(p:Val aA) (v:Val tI) b a=>let A:=p.2.2.2.2;kB p.1 p.2.1 p.2.2.1 p.2.2.2.1 A.1 A.2.1 A.2.2.1 A.2.2.2.2.2.2.2.2.2.2.2 v (fun c=>b c) (a 0) (a 1)⟩
def FF:Æ:=Ls 0 [tI,tI,ac,aa,af,ab,aa,tI,tI,ae,ae,tI,tI,tI,tI,ae] [tI] ⟨90,[.any,.any,.box 0 0,.box 1 0,.any,.own 2,.any,.var tI],bZ⟩ [(.ret,⟨90,[.any,.any,.box 0 0,.box 1 0,.var tI,.own 2],bZ⟩,[tI]),(.exit 2,⟨90,[.any,.any,.box 0 0,.box 1 0,.any,.own 2],bZ⟩,[])]
def ru (ρ:Type):Ú ρ:=⟨[],61,2,FF,fun(p:Val aA) (v:Val tI) b a=>let A:=p.2.2.2.2;iZ p.1 p.2.1 p.2.2.1 p.2.2.2.1 A.1 A.2.1 A.2.2.1 A.2.2.2.2.1 A.2.2.2.2.2.2.2.2.2.2.2 v (fun c=>b c) (a 0) (a 1)⟩
def FE:Æ:=Ls 0 [tI,tI,ac,aa,af,ab,aa,tI,tI,ae,ae,tI,tI,tI,tI,ae] [tI] ⟨90,[.any,.any,.box 0 0,.box 1 0,.any,.own 2,.any,.any,.var tI],bZ⟩ [(.ret,⟨90,[.any,.any,.box 0 0,.box 1 0,.var tI,.own 2],bZ⟩,[tI]),(.exit 4,⟨90,[.any,.any,.box 0 0,.box 1 0,.any,.own 2],bZ⟩,[])]
def rt (ρ:Type):Ú ρ:=⟨[],61,4,FE,fun(p:Val aA) (v:Val tI) b a=>let A:=p.2.2.2.2;ž p.1 p.2.1 p.2.2.1 p.2.2.2.1 A.1 A.2.1 A.2.2.1 A.2.2.2.2.1 A.2.2.2.2.2.2.2.2.2.2.2 v (fun c=>b c) (a 0) (a 1)⟩
def MC:List (Nat×Ô):=[(63,tO),(134,yk),(135,OP),(136,OQ)]
def Jn (ρ:Type):List (Ú ρ):=[rz ρ,ru ρ,rt ρ]
def ju (ρ:Type):Env ρ:=Õ MC (Jn ρ)
def NW:Ô:=⟨[ae,ae],[tI],fun(x:Val aO)=>pj x.1 x.2⟩
def agH:List (Nat×Ô):=[(136,OQ)]
def adl (ρ:Type):List (Ú ρ):=[]
def WG (ρ:Type):Env ρ:=Õ agH (adl ρ)
def acC:Ô:=⟨[Ã,Ï,tI],[.bool],fun(x:Val (.pair Ã (.pair Ï tI)))=>HV x.1 x.2.1 x.2.2⟩
def Ub:Æ:=Ls 0 [tI,tI,tI,ac,aa,af,ab,aa,tI,tI,tI,tI,tI,tI,tI,tI] [tI] ⟨76,[.any,.any,.con tI,.box 0 0,.box 1 0,.any,.any,.var tI],ce⟩ [(.ret,⟨76,[.any,.any,.con tI,.box 0 0,.box 1 0,.any,.var .bool],ce⟩,[.bool]),(.exit 0,⟨76,[.any,.any,.con tI,.box 0 0,.box 1 0],ce⟩,[])]
def Co (ρ:Type):Ú ρ:=⟨[],137,0,Ub,fun(p:Val (.pair tI aD)) (v:Val tI) b a=>rA p.1 p.2.2.2.2.2.2.1 p.2.2.2.2.2.2.2.2.1 v (fun c=>b c) (a 0) (a 1)⟩
def Ua:Æ:=Ls 0 [tI,tI,tI,ac,aa,af,ab,aa,tI,tI,tI,tI,tI,tI,tI,tI] [tI] ⟨76,aN 2 (.con tI::.box 0 0::.box 1 0::aN 4 [.var tI]),ce⟩ [(.ret,⟨76,[.any,.any,.con tI,.box 0 0,.box 1 0,.any,.var .bool],ce⟩,[.bool]),(.exit 2,⟨76,[.any,.any,.con tI,.box 0 0,.box 1 0],ce⟩,[])]
def Cn (ρ:Type):Ú ρ:=⟨[],137,2,Ua,fun(p:Val (.pair tI aD)) (v:Val tI) b a=>nM p.1 p.2.2.2.2.2.2.2.1 p.2.2.2.2.2.2.2.2.1 v (fun c=>b c) (a 0) (a 1)⟩
def adn:List (Nat×Ô):=[(139,NW)]
def YN (ρ:Type):List (Ú ρ):=[Co ρ,Cn ρ]
def vC (ρ:Type):Env ρ:=Õ adn (YN ρ)
def tP:Ô:=⟨[Ã],[aa],fun(x:Val Ã)=>jW x⟩
def PY:Æ:=Ls 0 [tI,tI,ac,aa,af,ab,aa] [tI,ae] ⟨114,[.any,.box 0 0,.any,.own 1,.var tI],cJ⟩ [(.exit 0,⟨114,[.any,.box 0 0,.any,.own 1],cJ⟩,[ae])]
def yP (ρ:Type):Ú ρ:=⟨[],64,0,PY,fun(p:Val ai) (v:Val aw) a b=>oX p.2.2.1 v.1 v.2 (fun c d=>a (c,d)) (b 0)⟩
def PX:Æ:=Ls 0 [tI,tI,ac,aa,af,ab,aa] [tI,ae] ⟨114,[.any,.box 0 0,.any,.own 1,.any,.var tI],cJ⟩ [(.exit 2,⟨114,[.any,.box 0 0,.any,.own 1],cJ⟩,[ae])]
def yO (ρ:Type):Ú ρ:=⟨[],64,2,PX,fun(p:Val ai) (v:Val aw) a b=>oW p.2.2.2.2.2.1 v.1 v.2 (fun c d=>a (c,d)) (b 0)⟩
def PW:Æ:=Ls 0 [tI,tI,ac,aa,af,ab,aa] [tI,ae] ⟨114,[.any,.box 0 0,.any,.own 1,.any,.any,.var tI],cJ⟩ [(.exit 4,⟨114,[.any,.box 0 0,.any,.own 1],cJ⟩,[ae])]
def yN (ρ:Type):Ú ρ:=⟨[],64,4,PW,fun(p:Val ai) (v:Val aw) a b=>oV p.2.2.2.2.2.2 v.1 v.2 (fun c d=>a (c,d)) (b 0)⟩
def yI:Æ:=Ls 0 [tI,tI,tI,tI,ac,aa,af,ab,aa,ae,aa] [tI,tI] ⟨114,[.any,.box 0 0,.any,.own 1,.any,.any,.any,.own 2,.con tI,.con tI,.var tI,.var tI],[bp,.rowc tI,.rowc Â]⟩ [(.exit 10,⟨114,[.any,.box 0 0,.any,.own 1,.any,.any,.any,.own 2,.con tI,.con tI,.var tI],[bp,.rowc tI,.rowc Â]⟩,[tI])]
def yH (ρ:Type):Ú ρ:=⟨[],64,10,yI,fun(p:Val (tyL yI.cs)) (v:Val Â) a b=>lR p.2.1 p.2.2.2.2.2.2.2.2.2.1 v.1 v.2 (fun c d=>a (c,d)) (b 0)⟩
def yK:Æ:=Ls 0 [tI,tI,tI,ac,aa,af,ab,aa,ae] [tI,aa] ⟨114,[.any,.box 0 0,.any,.own 1,.any,.any,.any,.own 2,.con tI,.var tI],cM⟩ [(.exit 8,⟨114,[.any,.box 0 0,.any,.own 1,.any,.any,.any,.own 2,.con tI],cM⟩,[aa])]
def yJ (ρ:Type):Ú ρ:=⟨[],64,8,yK,fun(p:Val (tyL yK.cs)) (v:Val aI) a b=>let A:=p.2.2.2.2;lS p.1 p.2.1 p.2.2.1 p.2.2.2.1 A.1 A.2.1 A.2.2.1 A.2.2.2.1 A.2.2.2.2 v.1 v.2 (fun c d=>a (c,d)) (b 0)⟩
def yM:Æ:=Ls 0 [tI,tI,ac,aa,af,ab,aa,ae] [tI,aa] ⟨114,[.any,.box 0 0,.any,.own 1,.any,.any,.any,.own 2,.var tI],cM⟩ [(.exit 6,⟨114,[.any,.box 0 0,.any,.own 1,.any,.any,.any,.own 2],cM⟩,[aa])]
def yL (ρ:Type):Ú ρ:=⟨[],64,6,yM,fun(p:Val (tyL yM.cs)) (v:Val aI) a b=>let A:=p.2.2.2.2;oU p.1 p.2.1 p.2.2.1 p.2.2.2.1 A.1 A.2.1 A.2.2.1 A.2.2.2 v.1 v.2 (fun c d=>a (c,d)) (b 0)⟩
def Y1:List (Nat×Ô):=[(137,acC)]
def Uo (ρ:Type):List (Ú ρ):=[yP ρ,yO ρ,yN ρ,yH ρ,yJ ρ,yL ρ]
def iB (ρ:Type):Env ρ:=Õ Y1 (Uo ρ)
def I2:Ô:=⟨[Ã,Â],[tI],fun(x:Val aG)=>Ε x.1 x.2⟩
def P7:Æ:=Ls 0 [aa,tI,tI] [tI] ⟨23,[.any,.any,.any,.box 0 0,.any,.con aa,.var tI],[bw]⟩ [(.ret,⟨23,[.any,.any,.any,.box 0 0,.var tI,.con aa],[bw]⟩,[tI]),(.exit 0,⟨23,[.any,.any,.any,.box 0 0,.any,.con aa],[bw]⟩,[])]
def yQ (ρ:Type):Ú ρ:=⟨[],85,0,P7,fun(p:Val bg) (v:Val tI) b a=>oY p.1 p.2.1 p.2.2 v (fun c=>b c) (a 0) (a 1)⟩
def Za:List (Nat×Ô):=[(64,tP)]
def Us (ρ:Type):List (Ú ρ):=[yQ ρ]
def yR (ρ:Type):Env ρ:=Õ Za (Us ρ)
def acD:Ô:=⟨[Ã,tI,tI],[.bool],fun(x:Val aG)=>HW x.1 x.2.1 x.2.2⟩
def Uc:Æ:=Ls 0 [tI,tI,tI,tI,ac,aa,af,ab,aa] [tI] ⟨33,[.any,.con tI,.con tI,.box 0 0,.any,.any,.any,.var tI],[bp]⟩ [(.ret,⟨33,[.any,.con tI,.con tI,.box 0 0,.any,.any,.var .bool],[bp]⟩,[.bool]),(.exit 0,⟨33,[.any,.con tI,.con tI,.box 0 0],[bp]⟩,[])]
def Cp (ρ:Type):Ú ρ:=⟨[],200,0,Uc,fun(p:Val (.pair tI aF)) (v:Val tI) b a=>rB p.1 p.2.1 p.2.2.2.2.2.1 v (fun c=>b c) (a 0) (a 1)⟩
def ado:List (Nat×Ô):=[]
def YP (ρ:Type):List (Ú ρ):=[Cp ρ]
def DN (ρ:Type):Env ρ:=Õ ado (YP ρ)
def acH:Ô:=⟨[Ã,tI,tI,tI],[tI],fun(x:Val (.pair Ã Ĉ))=>uP x.1 x.2.1 x.2.2.1 x.2.2.2⟩
def Cw:Æ:=Ls 0 [tI,tI,tI,tI,tI,ac,aa,af,ab,aa] [tI,tI] ⟨48,.any::.con tI::.any::.con tI::.box 0 0::aN 4 [.con tI,.var tI,.var tI],[bp]⟩ [(.exit 0,⟨48,.any::.con tI::.any::.con tI::.box 0 0::aN 4 [.con tI,.var tI],[bp]⟩,[tI])]
def Cv (ρ:Type):Ú ρ:=⟨[],138,0,Cw,fun(p:Val (tyL Cw.cs)) (v:Val Â) a b=>let A:=p.2.2.2.2;rK p.1 p.2.1 p.2.2.1 p.2.2.2.1 A.1 A.2.1 A.2.2.1 A.2.2.2.1 A.2.2.2.2.1 A.2.2.2.2.2 v.1 v.2 (fun c d=>a (c,d)) (b 0)⟩
def adu:List (Nat×Ô):=[(134,yk),(135,OP),(200,acD)]
def Y2 (ρ:Type):List (Ú ρ):=[Cv ρ]
def DU (ρ:Type):Env ρ:=Õ adu (Y2 ρ)
def Dv:Ô:=⟨[tI,tI],[ķ],fun(x:Val Â)=>qE x.1 x.2⟩
def UJ:List (Nat×Ô):=[(197,X7),(198,X8)]
def Qv (ρ:Type):List (Ú ρ):=[]
def FV (ρ:Type):Env ρ:=Õ UJ (Qv ρ)
def aiR:Ô:=⟨[Â,Â],[ķ],fun(x:Val å)=>abe x.1 x.2⟩
def agW:List (Nat×Ô):=[(274,Dv)]
def adT (ρ:Type):List (Ú ρ):=[]
def WM (ρ:Type):Env ρ:=Õ agW (adT ρ)
def aiP:Ô:=⟨[Â],[Â],fun(x:Val Â)=>abd x⟩
def agT:List (Nat×Ô):=[]
def adM (ρ:Type):List (Ú ρ):=[]
def WK (ρ:Type):Env ρ:=Õ agT (adM ρ)
def aiO:Ô:=⟨[Â,Â],[ķ],fun(x:Val å)=>Oe x.1 x.2⟩
def agS:List (Nat×Ô):=[(254,aiR),(255,aiP)]
def adK (ρ:Type):List (Ú ρ):=[]
def WJ (ρ:Type):Env ρ:=Õ agS (adK ρ)
def Wp:Ô:=⟨[Ã,tI],[Â],fun(x:Val aJ)=>uN x.1 x.2⟩
def YL:List (Nat×Ô):=[(134,yk)]
def T6 (ρ:Type):List (Ú ρ):=[]
def LD (ρ:Type):Env ρ:=Õ YL (T6 ρ)
def acL:Ô:=⟨[ķ,ķ],[tG],fun(x:Val (.pair ķ ķ))=>HY x.1 x.2⟩
def adJ:List (Nat×Ô):=[]
def Zq (ρ:Type):List (Ú ρ):=[]
def Qz (ρ:Type):Env ρ:=Õ adJ (Zq ρ)
def aiQ:Ô:=⟨[Â,Â],[ķ],fun(x:Val å)=>wQ x.1 x.2⟩
def agU:List (Nat×Ô):=[(274,Dv)]
def adO (ρ:Type):List (Ú ρ):=[]
def WL (ρ:Type):Env ρ:=Õ agU (adO ρ)
def Wu:Ô:=⟨[å,Â],[tG],fun(x:Val (.pair å Â))=>Bg x.1 x.2⟩
def Zu:List (Nat×Ô):=[(256,acL),(257,aiQ)]
def UM (ρ:Type):List (Ú ρ):=[]
def LJ (ρ:Type):Env ρ:=Õ Zu (UM ρ)
def OS:Ô:=⟨[Ã,È],[å],fun(x:Val aE)=>wN x.1 x.2⟩
def Uv:List (Nat×Ô):=[(139,NW),(238,aiO),(239,Wp),(240,Wu)]
def P8 (ρ:Type):List (Ú ρ):=[]
def FQ (ρ:Type):Env ρ:=Õ Uv (P8 ρ)
def Wr:Ô:=⟨[Ã,È],[Â],fun(x:Val aE)=>Be x.1 x.2⟩
def Zf:List (Nat×Ô):=[]
def Ux (ρ:Type):List (Ú ρ):=[]
def LH (ρ:Type):Env ρ:=Õ Zf (Ux ρ)
def acK:Ô:=⟨[tI,tI],[tI],fun(x:Val Â)=>SC x.1 x.2⟩
def adI:List (Nat×Ô):=[]
def Zo (ρ:Type):List (Ú ρ):=[]
def Qx (ρ:Type):Env ρ:=Õ adI (Zo ρ)
end Go.Proofs.ZzM
end
