/- lemmas -/
import Derived.Test.YtmadligicacpkaaGreatAmF
import Derived.KernelRfl
import Derived.Test.YtmadligicacpkaaGreatMdTA
import Derived.Test.YtmadligicacpkaaGreatProg
set_option linter.all false
set_option linter.unusedSectionVars false
set_option linter.unusedVariables false
set_option linter.unusedSimpArgs false
noncomputable section
set_option maxRecDepth 100000
namespace Go.Proofs.ZzM
open Go Go.Am
def SK:Nat→Bool
  |116=>true
  |130=>true
  |253=>true
  |254=>true
  |255=>true
  |256=>true
  |257=>true
  |_=>false
def ad7:Nat→Bool
  |232=>true
  |_=>false
def Ao:Nat→Bool
  |233=>true
  |_=>false
def isInl:Nat→Bool
  |2=>true
  |47=>true
  |79=>true
  |85=>true
  |87=>true
  |113=>true
  |115=>true
  |118=>true
  |119=>true
  |123=>true
  |124=>true
  |125=>true
  |126=>true
  |127=>true
  |128=>true
  |129=>true
  |134=>true
  |153=>true
  |155=>true
  |161=>true
  |172=>true
  |173=>true
  |174=>true
  |175=>true
  |176=>true
  |177=>true
  |178=>true
  |179=>true
  |180=>true
  |181=>true
  |182=>true
  |183=>true
  |184=>true
  |185=>true
  |186=>true
  |191=>true
  |195=>true
  |196=>true
  |201=>true
  |213=>true
  |214=>true
  |215=>true
  |217=>true
  |218=>true
  |220=>true
  |221=>true
  |223=>true
  |224=>true
  |225=>true
  |228=>true
  |229=>true
  |230=>true
  |234=>true
  |236=>true
  |237=>true
  |247=>true
  |249=>true
  |251=>true
  |260=>true
  |261=>true
  |272=>true
  |273=>true
  |274=>true
  |275=>true
  |276=>true
  |277=>true
  |279=>true
  |280=>true
  |286=>true
  |287=>true
  |289=>true
  |290=>true
  |292=>true
  |293=>true
  |296=>true
  |297=>true
  |299=>true
  |301=>true
  |302=>true
  |_=>false
def isFz:Nat→Bool
  |62=>true
  |81=>true
  |108=>true
  |_=>false
def isEat:Nat→Nat→Bool
  |24,4=>true
  |24,5=>true
  |47,67=>true
  |115,30=>true
  |147,8=>true
  |147,11=>true
  |153,25=>true
  |225,0=>true
  |_,_=>false
def Ù {ρ:Type} (pt:List (Nat×Ö)) (tab:List (Ý ρ)):Env ρ :=
  {P:=Tryz.prog,eat:=isEat,clone:=SK,sort:=ad7,compact:=Ao,inl:=isInl,fz:=isFz,pure:=ajJ pt,loops:=oZ tab}
def ap5 {ρ:Type} (pt:List (Nat×Ö)) (tab:List (Ý ρ)) (us:List anY):Env ρ :=
  {P:=Tryz.prog,eat:=isEat,clone:=SK,sort:=ad7,compact:=Ao,inl:=isInl,fz:=isFz,pure:=ajJ pt,loops:=adY (Ù pt tab) us}
abbrev bo:jb:=.cells [.con tI,.con tI,.con ac,.con aa,.con ae,.con ab,.con aa]
abbrev bp:jb:=.cells [.con tI,.con tI,.con tI,.con tI,.con tI,.con tI,.con tI,.con tI]
abbrev bq:jb:=.cells [.con tI,.con tI,.con tI,.con tI]
abbrev br:jb:=.cells [.con af]
abbrev bt:jb:=.cells [.con tI]
abbrev bu:jb:=.cells [.con tI,.con tI,.con af,.con af,.con tI,.con tI,.con tI,.con tI]
abbrev bv:jb:=.cells [.con tI,.con tI]
abbrev bw:jb:=.cells [.con tI,.con ai]
abbrev bz:jb:=.cells [.own 6]
abbrev bB:jb:=.cells [.con tI,.con tI,.con ac,.con aa,.con ae,.con ab,.con aa,.con aa,.con tI,.own 3,.own 4]
abbrev bC:jb:=.cells [.con tI,.con tI,.con ac,.con aa,.con ae,.con ab,.con aa,.con aa,.con tI,.own 2,.own 3]
abbrev bD:jb:=.cells [.con tI,.con tI,.nils,.nils,.nils,.nils,.nils]
abbrev bE:jb:=.cells [.con tI,.con tI,.own 9,.own 10,.own 11,.con ab,.own 12]
abbrev bG:jb:=.cells [.var tI,.var tI,.var ac,.var aa,.var ae,.var ab,.var aa]
abbrev bH:jb:=.cells [.con tI,.con tI,.nils,.nils,.nils,.nils,.nils,.con tI,.con tI,.con .bool,.con tI,.nils]
abbrev bI:jb:=.cells [.con tI,.con tI,.own 11,.own 12,.own 13,.con ab,.own 14]
abbrev bJ:jb:=.cells [.con tI,.con tI,.con ac,.con aa,.con ae,.con ab,.con aa,.con tI,.own 6]
abbrev bK:jb:=.cells [.con tI,.con tI,.con tI]
abbrev bL:jb:=.cells [.omp 3]
abbrev bM:jb:=.cells [.con ac]
abbrev bN:jb:=.cells [.fn 172 []]
abbrev bO:jb:=.cells [.con aa]
abbrev bP:jb:=.cells [.fn 173 [(2,0)]]
abbrev bQ:jb:=.cells [.con ae]
abbrev bR:jb:=.cells [.fn 174 [(2,0)]]
abbrev bS:jb:=.cells [.var tI,.var tI,.var tI,.var tI]
abbrev bT:jb:=.cells [.nils,.nils]
abbrev bU:jb:=.cells [.own 3,.own 4]
abbrev bV:jb:=.cells [.var tI,.var tI,.nils,.nils,.nils,.nils,.nils,.var tI,.nils,.nils,.var tI]
abbrev bW:List jb:=[bp,.rowv tI]
abbrev bX:List jb:=[bo,bq]
abbrev bY:List jb:=[bo,bu,.rowc tI]
abbrev bZ:List jb:=[bw,.rowc tI,bw,bz,.rowv .bool,.rowc tI,.rowv tI]
abbrev b7:List jb:=[bw,.rowv tI,bw,bz,.rowv .bool,.rowc tI,.rowv tI]
abbrev b8:List jb:=[bw,.rowv tI,bw,bz,.rowv .bool,.rowv tI,.rowv tI]
abbrev b9:List jb:=[bo,bp]
abbrev ca:List jb:=[bo,bC,.rowv ć,.rowv Â]
abbrev cd:List jb:=[bo,bv,bD,bo,bD,.dead,bE,bD,.rowv Ê,.rowc Ð,.rowc Â,.rowc ő,.rowc Â]
abbrev ce:List jb:=[bo,bv,bv,.rowc Â,bG]
abbrev cf:List jb:=[bo,bv,bv,bv,.rowc Â,bG]
abbrev cg:List jb:=[.rowc af,bw,.dead,.dead,.rowv tI]
abbrev ci:List jb:=[bw,bt,bt,bw,.rowv tI]
abbrev cj:List jb:=[bo,.dead,.dead,bH,.rowc Â,bG]
abbrev cm:List jb:=[bo,.dead,.dead,bH,.rowc Â,bo,bw,.dead,.rowf Â 0,bo,bo]
abbrev cn:List jb:=[bo,bu,bD,.dead,.dead,bo,bD,.dead,bI,bD,.rowv Ê,.rowc Ð,.rowc Â,.rowc ő,.rowc Â]
abbrev cp:List jb:=[bo,bv,bu,.rowc Â,bG]
abbrev cq:List jb:=[bo,bv,bv,bu,.rowc Â,bG]
abbrev cr:List jb:=[bo,bv,bv,bu,.rowc Â,bo,bw,.dead,bp,.rowf af 0,.rowf af 0,.rowf af 0]
abbrev cu:List jb:=[bw,.rowc am,bK,bw,.rowv tI]
abbrev cw:List jb:=[bo,bo,bL,.mapc tI .bool,bu,bu]
abbrev cz:List jb:=[bo,bo,bL,.mapc tI .bool,bu]
abbrev cA:List jb:=[bo,bo,bL,.mapc tI .bool]
abbrev cB:List jb:=[bo,bo,bL,.mapc tI .bool,bM,bN]
abbrev cD:List jb:=[bo,bo,bL,.mapc tI .bool,bM,bN,bO,bP]
abbrev cE:List jb:=[bo,bo,bL,.mapc tI .bool,bM,bN,bO,bP,bO,bP]
abbrev cF:List jb:=[bo,bo,bL,.mapc tI .bool,bM,bN,bO,bP,bO,bP,bQ,bR]
abbrev cG:List jb:=[bo,bo,bL,.mapc tI .bool,bM,bN,bO,bP,bO,bP,bQ,bR,bQ,bR]
abbrev cH:List jb:=[bo,.rowv tI]
abbrev cI:List jb:=[bo,.rowc tI,.rowv Â]
abbrev cJ:List jb:=[bo,bT,bU,.rowv ć,.rowv Â]
abbrev cM:List jb:=[bw,.deepv .i64]
abbrev cN:List jb:=[bo,bo]
abbrev cO:List jb:=[bo,bo,bo]
def ŝ:Ö:=⟨[am],[af],fun(x:Val am)=>ï x⟩
def lC:È:={pin:=0,cs:=[am,am,tI],vs:=[tI,tI],head:=⟨36,.con am::aN 2 (.var tI::aN 5 [.con am,.con tI,.var tI]),[]⟩,exits:=[(.exit 0,⟨36,.con am::aN 2 (.var tI::aN 5 [.con am,.con tI]),[]⟩,[tI])]}
def lz (ρ:Type):Ý ρ:=⟨[],81,0,lC,fun(p:Val (tyL lC.cs)) (v:Val Â) a b=>ļ p.2.1 p.2.2 v.1 v.2 (fun c d=>a (c,d)) (b 0)⟩
def vI:È:={pin:=0,cs:=[am,tI],vs:=[tI,af],head:=⟨36,aN 6 (.own 0::aN 18 [.con am,.con tI,.var tI]),[.rowv tI]⟩,exits:=[(.exit 2,⟨36,aN 6 (.own 0::aN 18 [.con am,.con tI]),[.rowv tI]⟩,[af])]}
def lv (ρ:Type):Ý ρ:=⟨[],81,2,vI,fun(p:Val (.pair am tI)) (v:Val au) a b=>ñ p.1 p.2 v.1 v.2 (fun c d=>a (c,d)) (b 0)⟩
def yB:List (Nat×Ö):=[]
def mj (ρ:Type):List (Ý ρ):=[lz ρ,lv ρ]
def hZ (ρ:Type):Env ρ:=Ù yB (mj ρ)
def pJ:Ö:=⟨[Ä,aa,aa],[Ä],fun(x:Val (.pair Ä (.pair aa aa)))=>Tb x.1 x.2.1 x.2.2⟩
noncomputable def adk:È:={pin:=8,cs:=[af,tI,tI,tI,ac,aa,ae,ab,aa,tI,tI,ak,tI,tI],vs:=[tI,ak],head:=⟨34,.any::.any::.any::.box 2 0::aN 21 [.con af,.con tI,.var tI],[.cells [.con tI,.con tI,.con ac,.con aa,.con ae,.con ab,.con aa],.cells [.con tI,.con tI,.nils,.nils,.nils,.nils,.nils],.cells [.omp 5],.cells [.omp 6],.cells [.nilfn,.fn 127 [(2,0),(0,0)],.fn 127 [(2,0),(0,0)],.fn 128 [(3,0),(0,0),(2,0)]],.mapv tI .bool,.mapc tI .bool,.cells [.con tI,.con tI]]⟩,exits:=[(.exit 0,⟨34,.any::.any::.any::.box 2 0::aN 21 [.con af,.con tI],[.cells [.con tI,.con tI,.con ac,.con aa,.con ae,.con ab,.con aa],.cells [.con tI,.con tI,.nils,.nils,.nils,.nils,.nils],.cells [.omp 5],.cells [.omp 6],.cells [.nilfn,.fn 127 [(2,0),(0,0)],.fn 127 [(2,0),(0,0)],.fn 128 [(3,0),(0,0),(2,0)]],.mapv tI .bool,.mapc tI .bool,.cells [.con tI,.con tI]]⟩,[ak])]}
noncomputable def Mx (ρ:Type):Ý ρ:=⟨[7,5],128,0,adk,fun(p:Val (.pair af (.pair tI (.pair tI (.pair tI (.pair ac (.pair aa (.pair ae (.pair ab (.pair aa (.pair tI (.pair tI (.pair ak Â))))))))))))) (v:Val (.pair tI ak)) kn kx=>uq p.1 p.2.1 v.1 v.2 (fun u0 u1=>kn (u0,u1)) (kx 0)⟩
noncomputable def adl:È:={pin:=0,cs:=[aa,aa,tI,tI,tI,ac,aa,ae,ab,aa,tI,tI],vs:=[tI,ak,ak],head:=⟨130,.any::.any::.con aa::.box 0 0::.any::.any::.box 1 0::.box 2 0::.box 3 0::.any::.box 4 0::aN 19 [.con aa,.con tI,.var tI],[.cells [.con tI,.con tI,.con ac,.con aa,.con ae,.con ab,.con aa],.cells [.con tI,.con tI,.nils,.nils,.nils,.nils,.nils],.cells [.omp 5],.cells [.omp 6],.cells [.nilfn,.fn 127 [(2,0),(0,0)],.fn 127 [(2,0),(0,0)],.fn 128 [(3,0),(0,0),(2,0)]],.mapv tI .bool,.mapv tI .bool]⟩,exits:=[(.exit 0,⟨130,.any::.any::.con aa::.box 0 0::.any::.any::.box 1 0::.box 2 0::.box 3 0::.any::.box 4 0::aN 19 [.con aa,.con tI],[.cells [.con tI,.con tI,.con ac,.con aa,.con ae,.con ab,.con aa],.cells [.con tI,.con tI,.nils,.nils,.nils,.nils,.nils],.cells [.omp 5],.cells [.omp 6],.cells [.nilfn,.fn 127 [(2,0),(0,0)],.fn 127 [(2,0),(0,0)],.fn 128 [(3,0),(0,0),(2,0)]],.mapv tI .bool,.mapv tI .bool]⟩,[ak,ak])]}
noncomputable def My (ρ:Type):Ý ρ:=⟨[],62,0,adl,fun(p:Val (.pair aa (.pair aa (.pair tI (.pair tI (.pair tI (.pair ac (.pair aa (.pair ae (.pair ab ba)))))))))) (v:Val (.pair tI (.pair ak ak))) kn kx=>A9 p.2.1 p.2.2.1 p.2.2.2.2.2.1 p.2.2.2.2.2.2.2.2.1 v.1 v.2.1 v.2.2 (fun u0 u1 u2=>kn (u0,u1,u2)) (kx 0)⟩
noncomputable def adj:È:={pin:=0,cs:=[aa,aa,tI,tI,tI,ac,aa,ae,ab,aa,tI,tI,ak],vs:=[tI,ak],head:=⟨130,.any::.any::.con aa::.box 0 0::.any::.any::.box 1 0::.box 2 0::.box 3 0::aN 34 [.con aa,.con tI,.var tI],[.cells [.con tI,.con tI,.con ac,.con aa,.con ae,.con ab,.con aa],.cells [.con tI,.con tI,.nils,.nils,.nils,.nils,.nils],.cells [.omp 4],.cells [.omp 5],.mapv tI .bool,.mapc tI .bool]⟩,exits:=[(.exit 2,⟨130,.any::.any::.con aa::.box 0 0::.any::.any::.box 1 0::.box 2 0::.box 3 0::aN 34 [.con aa,.con tI],[.cells [.con tI,.con tI,.con ac,.con aa,.con ae,.con ab,.con aa],.cells [.con tI,.con tI,.nils,.nils,.nils,.nils,.nils],.cells [.omp 4],.cells [.omp 5],.mapv tI .bool,.mapc tI .bool]⟩,[ak])]}
noncomputable def Mw (ρ:Type):Ý ρ:=⟨[],62,2,adj,fun(p:Val (.pair aa (.pair aa (.pair tI (.pair tI (.pair tI (.pair ac (.pair aa (.pair ae (.pair ab (.pair aa (.pair tI (.pair tI ak))))))))))))) (v:Val (.pair tI ak)) kn kx=>un p.2.1 p.2.2.1 v.1 v.2 (fun u0 u1=>kn (u0,u1)) (kx 0)⟩
noncomputable def adi:È:={pin:=0,cs:=[aa,tI,tI,tI,ac,aa,ae,ab,aa,tI,tI,ac,aa,ae,ab,aa,tI,tI,aa,ak,ak,ac],vs:=[tI,aa],head:=⟨130,.any::.any::.any::.box 0 0::.any::.any::.box 1 0::.box 2 0::.box 3 0::aN 6 (.box 4 0::aN 52 [.con aa,.con tI,.var tI]),[.cells [.con tI,.con tI,.con ac,.con aa,.con ae,.con ab,.con aa],.cells [.con tI,.con tI,.con ac,.con aa,.con ae,.con ab,.con aa],.cells [.omp 5],.cells [.omp 6],.cells [.con tI,.con tI,.own 7,.own 8,.nils,.nils,.con aa],.mapc tI .bool,.mapc tI .bool,.rowc Ð,.rowv Â]⟩,exits:=[(.exit 6,⟨130,.any::.any::.any::.box 0 0::.any::.any::.box 1 0::.box 2 0::.box 3 0::aN 6 (.box 4 0::aN 52 [.con aa,.con tI]),[.cells [.con tI,.con tI,.con ac,.con aa,.con ae,.con ab,.con aa],.cells [.con tI,.con tI,.con ac,.con aa,.con ae,.con ab,.con aa],.cells [.omp 5],.cells [.omp 6],.cells [.con tI,.con tI,.own 7,.own 8,.nils,.nils,.con aa],.mapc tI .bool,.mapc tI .bool,.rowc Ð,.rowv Â]⟩,[aa])]}
noncomputable def rW (ρ:Type):Ý ρ:=⟨[],62,6,adi,fun(p:Val (.pair aa (.pair tI (.pair tI (.pair tI (.pair ac (.pair aa (.pair ae (.pair ab (.pair aa (.pair tI (.pair tI (.pair ac (.pair aa (.pair ae (.pair ab (.pair aa (.pair tI (.pair tI (.pair aa (.pair ak (.pair ak ac)))))))))))))))))))))) (v:Val aF) kn kx=>uk p.1 p.2.1 p.2.2.2.2.2.2.2.2.2.2.2.2.2.2.2.2.2.2.2.1 v.1 v.2 (fun u0 u1=>kn (u0,u1)) (kx 0)⟩
noncomputable def adh:È:={pin:=0,cs:=[ae,tI,tI,tI,ac,aa,ae,ab,aa,tI,tI,ac,aa,ae,ab,aa,tI,tI,aa,ak,ak,ac,aa],vs:=[tI,ae],head:=⟨130,.any::.any::.any::.box 0 0::.any::.any::.box 1 0::.box 2 0::.box 3 0::aN 6 (.box 4 0::aN 70 [.con ae,.con tI,.var tI]),[.cells [.con tI,.con tI,.con ac,.con aa,.con ae,.con ab,.con aa],.cells [.con tI,.con tI,.con ac,.con aa,.con ae,.con ab,.con aa],.cells [.omp 5],.cells [.omp 6],.cells [.con tI,.con tI,.own 7,.own 8,.own 9,.nils,.con aa],.mapc tI .bool,.mapc tI .bool,.rowc Ð,.rowc Â,.rowv ő]⟩,exits:=[(.exit 8,⟨130,.any::.any::.any::.box 0 0::.any::.any::.box 1 0::.box 2 0::.box 3 0::aN 6 (.box 4 0::aN 70 [.con ae,.con tI]),[.cells [.con tI,.con tI,.con ac,.con aa,.con ae,.con ab,.con aa],.cells [.con tI,.con tI,.con ac,.con aa,.con ae,.con ab,.con aa],.cells [.omp 5],.cells [.omp 6],.cells [.con tI,.con tI,.own 7,.own 8,.own 9,.nils,.con aa],.mapc tI .bool,.mapc tI .bool,.rowc Ð,.rowc Â,.rowv ő]⟩,[ae])]}
noncomputable def rV (ρ:Type):Ý ρ:=⟨[],62,8,adh,fun(p:Val (.pair ae (.pair tI (.pair tI (.pair tI (.pair ac (.pair aa (.pair ae (.pair ab (.pair aa (.pair tI (.pair tI (.pair ac (.pair aa (.pair ae (.pair ab (.pair aa (.pair tI (.pair tI (.pair aa (.pair ak (.pair ak (.pair ac aa))))))))))))))))))))))) (v:Val (.pair tI ae)) kn kx=>uj p.1 p.2.1 p.2.2.2.2.2.2.2.2.2.2.2.2.2.2.2.2.2.2.2.1 v.1 v.2 (fun u0 u1=>kn (u0,u1)) (kx 0)⟩
noncomputable def adg:È:={pin:=0,cs:=[ab,tI,tI,tI,ac,aa,ae,ab,aa,tI,tI,aa,ak,ac,aa,ae],vs:=[tI,ab],head:=⟨130,aN 6 (.box 0 0::.any::.box 1 0::aN 6 (.box 2 0::aN 88 [.con ab,.con tI,.var tI])),[.cells [.con tI,.con tI,.con ac,.con aa,.con ae,.con ab,.con aa],.cells [.omp 3],.cells [.con tI,.con tI,.own 4,.own 5,.own 6,.own 7,.con aa],.mapc tI .bool,.rowc Ð,.rowc Â,.rowc ő,.rowv Ê]⟩,exits:=[(.exit 10,⟨130,aN 6 (.box 0 0::.any::.box 1 0::aN 6 (.box 2 0::aN 88 [.con ab,.con tI])),[.cells [.con tI,.con tI,.con ac,.con aa,.con ae,.con ab,.con aa],.cells [.omp 3],.cells [.con tI,.con tI,.own 4,.own 5,.own 6,.own 7,.con aa],.mapc tI .bool,.rowc Ð,.rowc Â,.rowc ő,.rowv Ê]⟩,[ab])]}
noncomputable def rU (ρ:Type):Ý ρ:=⟨[],62,10,adg,fun(p:Val (.pair ab (.pair tI (.pair tI (.pair tI (.pair ac (.pair aa (.pair ae (.pair ab (.pair aa (.pair tI (.pair tI (.pair aa (.pair ak (.pair ac (.pair aa ae)))))))))))))))) (v:Val (.pair tI ab)) kn kx=>uh p.1 p.2.1 p.2.2.2.2.2.2.2.2.2.2.2.2.1 v.1 v.2 (fun u0 u1=>kn (u0,u1)) (kx 0)⟩
noncomputable def KD:List (Nat×Ö):=[(81,ŝ)]
noncomputable def EE (ρ:Type):List (Ý ρ):=[Mx ρ,My ρ,Mw ρ,rW ρ,rV ρ,rU ρ]
noncomputable def ź (ρ:Type):Env ρ:=Ù KD (EE ρ)
noncomputable def ug:Tpl:=⟨130,.any::.any::.any::.box 0 0::.any::.any::.box 1 0::.box 2 0::.box 3 0::aN 6 (.box 4 0::aN 43 [.fn 186 [(5,0),(6,0)]]),[.cells [.var tI,.var tI,.var ac,.var aa,.var ae,.var ab,.var aa],.cells [.var tI,.var tI,.var ac,.var aa,.var ae,.var ab,.var aa],.cells [.omp 7],.cells [.omp 8],.cells [.con tI,.con tI,.own 9,.nils,.nils,.nils,.con aa],.cells [.var tI,.var tI,.var ac,.var aa,.var ae,.var ab,.var aa],.cells [.omp 7],.mapv tI .bool,.mapv tI .bool,.rowv Ð]⟩
noncomputable def Ri:Tpl:=⟨130,.any::.any::.any::.box 0 0::.any::.any::.box 1 0::.box 2 0::.box 3 0::aN 6 (.box 4 0::.box 10 0::aN 42 [.fn 186 [(5,0),(6,0)]]),[.cells [.var tI,.var tI,.var ac,.var aa,.var ae,.var ab,.var aa],.cells [.var tI,.var tI,.var ac,.var aa,.var ae,.var ab,.var aa],.cells [.omp 7],.cells [.omp 8],.cells [.con tI,.con tI,.own 9,.nils,.nils,.nils,.con aa],.cells [.var tI,.var tI,.var ac,.var aa,.var ae,.var ab,.var aa],.cells [.omp 7],.mapv tI .bool,.mapv tI .bool,.rowv Ð,.cells [.var tI,.var tI,.var tI,.var tI,.var tI,.var tI,.var tI,.var tI]]⟩
noncomputable def rR (ρ:Type):List (Ý ρ):=[rW ρ,rV ρ,rU ρ]
noncomputable def ğ (ρ:Type):Env ρ:={Ù KD (rR ρ) with inl:=fun _=>false}
noncomputable def qe:Tpl:=⟨130,aN 6 [.box 0 0],[.cells [.var tI,.var tI,.var ac,.var aa,.var ae,.var ab,.var aa]]⟩
abbrev jG:List Ty:=[tI,tI,ac,aa,ae,ab,aa]
noncomputable def kU (y:Val Ä):Val ah:=(y.1.1,y.1.2,y.2.1,y.2.2.1,y.2.2.2.1,y.2.2.2.2.1,y.2.2.2.2.2)
noncomputable def Ĥ:Code:=(sJ Tryz.prog 62).getD .skip
abbrev i8:List Ty:=[tI,tI,aa]
abbrev mJ:List Ty:=[tI,tI,ac,aa,ae,ab,aa,tI,tI,ac,aa,ae,ab,aa,tI,tI,ac,aa,ae,ab,aa,ak,ak,ac]
abbrev A8:List Ty:=[tI,tI,ac,aa,ae,ab,aa,tI,tI,ac,aa,ae,ab,aa,tI,tI,ac,aa,ae,ab,aa,ak,ak,ac,tI,tI,tI,tI,tI,tI,tI,tI]
abbrev ó (v:Val aj):List (Val Ð):=v.2.2.2.2.2.2.2.2.2.2.2.2.2.2.2.2.1
abbrev Ş (v:Val aj):List (Int×Bool):=v.2.2.2.2.2.2.2.2.2.2.2.2.2.2.2.2.2.2.2.2.2.1
abbrev wa (v:Val aj):List (Val Ð):=v.2.2.2.2.2.2.2.2.2.2.2.2.2.2.2.2.2.2.2.2.2.2.2
noncomputable def ģ (v:Val aj) (z:List (Val Ð)):Val aj:=(v.1,v.2.1,v.2.2.1,v.2.2.2.1,v.2.2.2.2.1,v.2.2.2.2.2.1,v.2.2.2.2.2.2.1,v.2.2.2.2.2.2.2.1,v.2.2.2.2.2.2.2.2.1,v.2.2.2.2.2.2.2.2.2.1,v.2.2.2.2.2.2.2.2.2.2.1,v.2.2.2.2.2.2.2.2.2.2.2.1,v.2.2.2.2.2.2.2.2.2.2.2.2.1,v.2.2.2.2.2.2.2.2.2.2.2.2.2.1,v.2.2.2.2.2.2.2.2.2.2.2.2.2.2.1,v.2.2.2.2.2.2.2.2.2.2.2.2.2.2.2.1,v.2.2.2.2.2.2.2.2.2.2.2.2.2.2.2.2.1,v.2.2.2.2.2.2.2.2.2.2.2.2.2.2.2.2.2.1,v.2.2.2.2.2.2.2.2.2.2.2.2.2.2.2.2.2.2.1,v.2.2.2.2.2.2.2.2.2.2.2.2.2.2.2.2.2.2.2.1,v.2.2.2.2.2.2.2.2.2.2.2.2.2.2.2.2.2.2.2.2.1,v.2.2.2.2.2.2.2.2.2.2.2.2.2.2.2.2.2.2.2.2.2.1,v.2.2.2.2.2.2.2.2.2.2.2.2.2.2.2.2.2.2.2.2.2.2.1,z)
noncomputable def EF (v:Val aj) (x:Val Ð):Val (.pair tI (.pair tI (.pair ac (.pair aa (.pair ae (.pair ab (.pair aa (.pair tI (.pair tI (.pair ac (.pair aa (.pair ae (.pair ab (.pair aa (.pair tI (.pair tI (.pair ac (.pair aa (.pair ae (.pair ab (.pair aa (.pair ak (.pair ak (.pair ac OJ)))))))))))))))))))))))):=(v.1,v.2.1,v.2.2.1,v.2.2.2.1,v.2.2.2.2.1,v.2.2.2.2.2.1,v.2.2.2.2.2.2.1,v.2.2.2.2.2.2.2.1,v.2.2.2.2.2.2.2.2.1,v.2.2.2.2.2.2.2.2.2.1,v.2.2.2.2.2.2.2.2.2.2.1,v.2.2.2.2.2.2.2.2.2.2.2.1,v.2.2.2.2.2.2.2.2.2.2.2.2.1,v.2.2.2.2.2.2.2.2.2.2.2.2.2.1,v.2.2.2.2.2.2.2.2.2.2.2.2.2.2.1,v.2.2.2.2.2.2.2.2.2.2.2.2.2.2.2.1,v.2.2.2.2.2.2.2.2.2.2.2.2.2.2.2.2.1,v.2.2.2.2.2.2.2.2.2.2.2.2.2.2.2.2.2.1,v.2.2.2.2.2.2.2.2.2.2.2.2.2.2.2.2.2.2.1,v.2.2.2.2.2.2.2.2.2.2.2.2.2.2.2.2.2.2.2.1,v.2.2.2.2.2.2.2.2.2.2.2.2.2.2.2.2.2.2.2.2.1,v.2.2.2.2.2.2.2.2.2.2.2.2.2.2.2.2.2.2.2.2.2.1,v.2.2.2.2.2.2.2.2.2.2.2.2.2.2.2.2.2.2.2.2.2.2.1,v.2.2.2.2.2.2.2.2.2.2.2.2.2.2.2.2.2.2.2.2.2.2.2,x.1,x.2.1,x.2.2.1,x.2.2.2.1.1,x.2.2.2.1.2,x.2.2.2.2.1.1,x.2.2.2.2.1.2,x.2.2.2.2.2)
def tP:Ö:=⟨[Â,tI,tI],[.bool],fun(x:Val ç)=>Ν x.1 x.2.1 x.2.2⟩
def Z0:List (Nat×Ö):=[]
def DC (ρ:Type):List (Ý ρ):=[]
def MT (ρ:Type):Env ρ:=Ù Z0 (DC ρ)
def kP:Ö:=⟨[tI,tI,tI],[.bool],fun(x:Val ć)=>Ġ x.1 x.2.1 x.2.2⟩
def ZO:List (Nat×Ö):=[]
def Dw (ρ:Type):List (Ý ρ):=[]
def MO (ρ:Type):Env ρ:=Ù ZO (Dw ρ)
def FV:Ö:=⟨[tI],[.bool],fun(x:Val tI)=>nX x⟩
def adQ:List (Nat×Ö):=[(227,kP)]
def Ij (ρ:Type):List (Ý ρ):=[]
def Sr (ρ:Type):Env ρ:=Ù adQ (Ij ρ)
def X5:Ö:=⟨[tI],[(.int .u64)],fun(x:Val tI)=>sG x⟩
def af7:List (Nat×Ö):=[]
def MJ (ρ:Type):List (Ý ρ):=[]
def WY (ρ:Type):Env ρ:=Ù af7 (MJ ρ)
def afx:Ö:=⟨[(.int .u64),(.int .u64)],[(.int .u64)],fun(x:Val bi)=>Tc x.1 x.2⟩
def adA:È:={pin:=0,cs:=[],vs:=[(.int .u64),(.int .u64)],head:=⟨12,[.var (.int .u64),.var (.int .u64)],[]⟩,exits:=[(.exit 0,⟨12,[.var (.int .u64)],[]⟩,[(.int .u64)])]}
def MK (ρ:Type):Ý ρ:=⟨[],259,0,adA,fun(p:Unit) (v:Val bi) a b=>Bc v.1 v.2 (fun c d=>a (c,d)) (b 0)⟩
def ajt:List (Nat×Ö):=[]
def RP (ρ:Type):List (Ý ρ):=[MK ρ]
def RQ (ρ:Type):Env ρ:=Ù ajt (RP ρ)
def FR:Ö:=⟨[Â],[.bool],fun(x:Val Â)=>vf x⟩
def adD:List (Nat×Ö):=[(258,X5),(259,afx)]
def HT (ρ:Type):List (Ý ρ):=[]
def RU (ρ:Type):Env ρ:=Ù adD (HT ρ)
def PL:Ö:=⟨[Ð],[.bool],fun(x:Val Ð)=>w8 x⟩
def VC:List (Nat×Ö):=[(131,tP),(189,FV),(226,FR),(227,kP)]
def Ae (ρ:Type):List (Ý ρ):=[]
def Ii (ρ:Type):Env ρ:=Ù VC (Ae ρ)
def yu:Ö:=⟨[Ä],[tI],fun(x:Val Ä)=>ž x⟩
def B3:È:={pin:=0,cs:=[ac,tI,tI,tI,ac,aa,ae,ab,aa],vs:=[tI],head:=⟨31,.any::.box 0 0::aN 4 [.con ac,.con tI,.var tI],[bo]⟩,exits:=[(.ret,⟨31,[.any,.box 0 0,.var tI,.any,.any,.any,.con ac,.con tI],[bo]⟩,[tI]),(.exit 0,⟨31,.any::.box 0 0::aN 4 [.con ac,.con tI],[bo]⟩,[])]}
def oB (ρ:Type):Ý ρ:=⟨[],132,0,B3,fun(p:Val (.pair ac aD)) (v:Val tI) b a=>jh p.1 p.2.1 p.2.2.2.2.1 v (fun c=>b c) (a 0) (a 1)⟩
def Ip:List (Nat×Ö):=[(187,PL)]
def qi (ρ:Type):List (Ý ρ):=[oB ρ]
def mK (ρ:Type):Env ρ:=Ù Ip (qi ρ)
def D7:Ö:=⟨[Ä],[ar],fun(x:Val Ä)=>υ x⟩
def Ol:È:={pin:=0,cs:=[ac,tI],vs:=[tI,ar],head:=⟨20,aN 3 (.omp 0::aN 4 [.con ac,.con tI,.var tI]),[.mapv tI Ð]⟩,exits:=[(.exit 0,⟨20,aN 3 (.omp 0::aN 4 [.con ac,.con tI]),[.mapv tI Ð]⟩,[ar])]}
def xM (ρ:Type):Ý ρ:=⟨[],133,0,Ol,fun(p:Val (.pair ac tI)) (v:Val (.pair tI ar)) a b=>nc p.1 p.2 v.1 v.2 (fun c d=>a (c,d)) (b 0)⟩
def Vr:List (Nat×Ö):=[]
def zX (ρ:Type):List (Ý ρ):=[xM ρ]
def wu (ρ:Type):Env ρ:=Ù Vr (zX ρ)
def tJ:Ö:=⟨[af,tI],[tI],fun(x:Val aH)=>jJ x.1 x.2⟩
def xT:È:={pin:=0,cs:=[af,tI,tI],vs:=[tI],head:=⟨19,.con af::.con tI::aN 5 [.con tI,.var tI],[]⟩,exits:=[(.ret,⟨19,[.con af,.con tI,.any,.any,.var tI,.any,.any,.con tI],[]⟩,[tI]),(.exit 0,⟨19,.con af::.con tI::aN 5 [.con tI],[]⟩,[])]}
def mh (ρ:Type):Ý ρ:=⟨[],78,0,xT,fun(p:Val (.pair af Â)) (v:Val tI) b a=>hO p.1 p.2.1 p.2.2 v (fun c=>b c) (a 0) (a 1)⟩
def BP:List (Nat×Ö):=[]
def np (ρ:Type):List (Ý ρ):=[mh ρ]
def kE (ρ:Type):Env ρ:=Ù BP (np ρ)
def jU:Ö:=⟨[af,tI],[.bool],fun(x:Val aH)=>ĩ x.1 x.2⟩
def vH:List (Nat×Ö):=[(78,tJ)]
def kS (ρ:Type):List (Ý ρ):=[]
def mi (ρ:Type):Env ρ:=Ù vH (kS ρ)
def X9:Ö:=⟨[Ä,Ð],[af],fun(x:Val (.pair Ä Ð))=>pf x.1 x.2⟩
def Io:È:={pin:=0,cs:=[ab,tI,tI,tI,ac,aa,ae,ab,aa,tI,tI,tI,tI,tI,tI,tI,tI],vs:=[tI,af],head:=⟨59,aN 2 (.box 0 0::.box 1 0::.any::.own 2::aN 8 [.con ab,.con tI,.var tI]),[bo,bp,.rowv tI]⟩,exits:=[(.exit 0,⟨59,aN 2 (.box 0 0::.box 1 0::.any::.own 2::aN 8 [.con ab,.con tI]),[bo,bp,.rowv tI]⟩,[af])]}
def Im (ρ:Type):Ý ρ:=⟨[],194,0,Io,fun(p:Val (tyL Io.cs)) (v:Val au) a b=>wG p.1 p.2.1 p.2.2.2.2.2.2.2.2.2.1 v.1 v.2 (fun c d=>a (c,d)) (b 0)⟩
def Z3:È:={pin:=0,cs:=[aa,tI,tI,tI,tI,tI,tI,tI,tI,tI],vs:=[tI,af],head:=⟨59,aN 3 (.box 0 0::.any::.own 1::aN 32 [.con aa,.con tI,.var tI]),bW⟩,exits:=[(.exit 2,⟨59,aN 3 (.box 0 0::.any::.own 1::aN 32 [.con aa,.con tI]),bW⟩,[af])]}
def Il (ρ:Type):Ý ρ:=⟨[],194,2,Z3,fun(p:Val (.pair aa bf)) (v:Val au) a b=>wF p.1 p.2.1 p.2.2.1 v.1 v.2 (fun c d=>a (c,d)) (b 0)⟩
def agm:List (Nat×Ö):=[(121,jU)]
def MV (ρ:Type):List (Ý ρ):=[Im ρ,Il ρ]
def Bg (ρ:Type):Env ρ:=Ù agm (MV ρ)
def FU:Ö:=⟨[Ä],[aa],fun(x:Val Ä)=>qE x⟩
def Dy:È:={pin:=0,cs:=[ac,tI,tI,af,tI,tI,tI,ac,aa,ae,ab,aa,tI,tI,tI,tI,tI,tI,tI,tI],vs:=[tI,aa],head:=⟨33,.any::.box 0 0::.any::.own 1::.any::.box 2 0::aN 3 (.con ac::.con tI::.con tI::aN 5 [.con af,.con tI,.var tI]),[bo,.rowv Â,bp]⟩,exits:=[(.exit 2,⟨33,.any::.box 0 0::.any::.own 1::.any::.box 2 0::aN 3 (.con ac::.con tI::.con tI::aN 5 [.con af,.con tI]),[bo,.rowv Â,bp]⟩,[aa])]}
def Dx (ρ:Type):Ý ρ:=⟨[],135,2,Dy,fun(p:Val (tyL Dy.cs)) (v:Val aF) a b=>sk p.2.2.2.1 p.2.2.2.2.1 p.2.2.2.2.2.2.2.2.2.2.2.2.1 v.1 v.2 (fun c d=>a (c,d)) (b 0)⟩
def Vt:È:={pin:=0,cs:=[ac,tI,tI,tI,ac,aa,ae,ab,aa],vs:=[tI,aa],head:=⟨33,.any::.box 0 0::.any::.own 1::aN 5 [.con ac,.con tI,.var tI],[bo,.rowv Â]⟩,exits:=[(.exit 0,⟨33,.any::.box 0 0::.any::.own 1::aN 5 [.con ac,.con tI],[bo,.rowv Â]⟩,[aa])]}
def Dz (ρ:Type):Ý ρ:=⟨[],135,0,Vt,fun(p:Val (.pair ac aD)) (v:Val aF) a b=>let A:=p.2.2.2.2;sl p.1 p.2.1 p.2.2.1 p.2.2.2.1 A.1 A.2.1 A.2.2.1 A.2.2.2.1 A.2.2.2.2 v.1 v.2 (fun c d=>a (c,d)) (b 0)⟩
def adM:List (Nat×Ö):=[(194,X9)]
def H4 (ρ:Type):List (Ý ρ):=[Dx ρ,Dz ρ]
def wy (ρ:Type):Env ρ:=Ù adM (H4 ρ)
def mY:Ö:=⟨[ar,tI,tI],[tI],fun(x:Val (.pair ar Â))=>i9 x.1 x.2.1 x.2.2⟩
def K3:List (Nat×Ö):=[]
def sj (ρ:Type):List (Ý ρ):=[]
def xN (ρ:Type):Env ρ:=Ù K3 (sj ρ)
def afz:Ö:=⟨[tI,tI,(.ptr ar)],[tI],fun(x:Val (.pair tI (.pair tI (.ptr ar))))=>Ň x.1 x.2.1 x.2.2⟩
def Vs:List (Nat×Ö):=[(189,FV),(190,mY)]
def Aa (ρ:Type):List (Ý ρ):=[]
def HZ (ρ:Type):Env ρ:=Ù Vs (Aa ρ)
def Ya:Ö:=⟨[Ä,ar,tI],[tI],fun(x:Val bn)=>Ψ x.1 x.2.1 x.2.2⟩
def sr:È:={pin:=2,cs:=[ae,tI,tI,tI,ac,aa,ae,ab,aa,tI,tI,tI,tI],vs:=[tI],head:=⟨19,.con ae::.fn 228 [(1,0)]::aN 5 [.con tI,.var tI],bX⟩,exits:=[(.ret,⟨19,[.con ae,.fn 228 [(1,0)],.any,.any,.var tI,.any,.any,.con tI],bX⟩,[tI]),(.exit 0,⟨19,.con ae::.fn 228 [(1,0)]::aN 5 [.con tI],bX⟩,[])]}
def sq (ρ:Type):Ý ρ:=⟨[9,5,1,2],251,0,sr,fun(p:Val (tyL sr.cs)) (v:Val tI) b a=>let A:=p.2.2.2.2.2.2.2.2.2;kr p.1 p.2.1 A.1 A.2.1 A.2.2.1 v (fun c=>b c) (a 0) (a 1)⟩
def sn:È:={pin:=2,cs:=[aa,tI,tI,tI,ac,aa,ae,ab,aa,tI,tI,tI,tI],vs:=[tI],head:=⟨19,.con aa::.fn 229 [(1,0)]::aN 5 [.con tI,.var tI],bX⟩,exits:=[(.ret,⟨19,[.con aa,.fn 229 [(1,0)],.any,.any,.var tI,.any,.any,.con tI],bX⟩,[tI]),(.exit 0,⟨19,.con aa::.fn 229 [(1,0)]::aN 5 [.con tI],bX⟩,[])]}
def sm (ρ:Type):Ý ρ:=⟨[9,10,1,2],249,0,sn,fun(p:Val (tyL sn.cs)) (v:Val tI) b a=>let A:=p.2.2.2.2.2.2.2.2.2;Λ p.1 p.2.1 A.1 A.2.1 A.2.2.1 v (fun c=>b c) (a 0) (a 1)⟩
def Ot:List (Nat×Ö):=[(131,tP),(190,mY),(227,kP)]
def uN (ρ:Type):List (Ý ρ):=[sq ρ,sm ρ]
def lP (ρ:Type):Env ρ:=Ù Ot (uN ρ)
def A4:Ö:=⟨[af,af],[af],fun(x:Val aJ)=>ũ x.1 x.2⟩
def ZW:È:={pin:=2,cs:=[tI,af,af],vs:=[tI],head:=⟨19,.own 1::.fn 237 [(0,0)]::aN 5 [.con tI,.var tI],[br,.rowc tI]⟩,exits:=[(.ret,⟨19,[.own 1,.fn 237 [(0,0)],.any,.any,.var tI,.any,.any,.con tI],[br,.rowc tI]⟩,[tI]),(.exit 0,⟨19,.own 1::.fn 237 [(0,0)]::aN 5 [.con tI],[br,.rowc tI]⟩,[])]}
def Ih (ρ:Type):Ý ρ:=⟨[1,3,1,2],155,0,ZW,fun(p:Val (.pair tI aJ)) (v:Val tI) b a=>wE p.1 p.2.1 p.2.2 v (fun c=>b c) (a 0) (a 1)⟩
def ZV:È:={pin:=2,cs:=[af],vs:=[tI,tI,af],head:=⟨42,[.own 1,.fn 237 [(0,0)],.any,.any,.any,.var tI,.var tI],[br,.rowv tI]⟩,exits:=[(.exit 0,⟨42,[.own 1,.fn 237 [(0,0)],.any,.any,.any,.var tI],[br,.rowv tI]⟩,[tI,af])]}
def Ig (ρ:Type):Ý ρ:=⟨[1,3],236,0,ZV,fun(p:Val af) (v:Val (.pair tI au)) a b=>kL p v.1 v.2.1 v.2.2 (fun c d e=>a (c,d,e)) (b 0)⟩
def agl:List (Nat×Ö):=[(121,jU)]
def MS (ρ:Type):List (Ý ρ):=[Ih ρ,Ig ρ]
def Bf (ρ:Type):Env ρ:=Ù agl (MS ρ)
def JW:Ö:=⟨[af],[.bool],fun(x:Val af)=>mR x⟩
def Sn:È:={pin:=0,cs:=[af,af,tI],vs:=[tI],head:=⟨32,.con af::aN 4 [.con af,.con tI,.var tI],[]⟩,exits:=[(.ret,⟨32,[.con af,.any,.var .bool,.any,.any,.con af,.con tI],[]⟩,[.bool]),(.exit 0,⟨32,.con af::aN 4 [.con af,.con tI],[]⟩,[])]}
def Ac (ρ:Type):Ý ρ:=⟨[],204,0,Sn,fun(p:Val (.pair af aH)) (v:Val tI) b a=>oY p.1 p.2.1 p.2.2 v (fun c=>b c) (a 0) (a 1)⟩
def ZY:List (Nat×Ö):=[(227,kP)]
def DB (ρ:Type):List (Ý ρ):=[Ac ρ]
def Ad (ρ:Type):Env ρ:=Ù ZY (DB ρ)
def ahS:Ö:=⟨[Ä,tI,tI],[ő,.bool],fun(x:Val aE)=>BA x.1 x.2.1 x.2.2⟩
def Ir:È:={pin:=4,cs:=[ae,tI,tI,tI,ac,aa,ae,ab,aa,tI,tI,tI,tI,tI,tI],vs:=[tI],head:=⟨19,.con ae::.fn 260 [(1,0),(2,0)]::aN 5 [.con tI,.var tI],[bo,bt,bt,bq]⟩,exits:=[(.ret,⟨19,[.con ae,.fn 260 [(1,0),(2,0)],.any,.any,.var tI,.any,.any,.con tI],[bo,bt,bt,bq]⟩,[tI]),(.exit 0,⟨19,.con ae::.fn 260 [(1,0),(2,0)]::aN 5 [.con tI],[bo,bt,bt,bq]⟩,[])]}
def Iq (ρ:Type):Ý ρ:=⟨[1,3],251,0,Ir,fun(p:Val (tyL Ir.cs)) (v:Val tI) b a=>wI p.1 p.2.1 p.2.2.2.2.2.2.2.2.2.1 p.2.2.2.2.2.2.2.2.2.2.1 v (fun c=>b c) (a 0) (a 1)⟩
def agn:List (Nat×Ö):=[(227,kP)]
def MW (ρ:Type):List (Ý ρ):=[Iq ρ]
def La (ρ:Type):Env ρ:=Ù agn (MW ρ)
def Nt:Ö:=⟨[Ä,ar,tI],[tI],fun(x:Val bn)=>Ō x.1 x.2.1 x.2.2⟩
def nN:È:={pin:=2,cs:=[ab,tI,tI,tI,ac,aa,ae,ab,aa,tI,tI,af,af,tI,tI,tI,tI],vs:=[tI],head:=⟨19,.con ab::.fn 230 [(1,0)]::aN 5 [.con tI,.var tI],[bo,bu]⟩,exits:=[(.ret,⟨19,[.con ab,.fn 230 [(1,0)],.any,.any,.var tI,.any,.any,.con tI],[bo,bu]⟩,[tI]),(.exit 0,⟨19,.con ab::.fn 230 [(1,0)]::aN 5 [.con tI],[bo,bu]⟩,[])]}
def nM (ρ:Type):Ý ρ:=⟨[4,5,1,2],213,0,nN,fun(p:Val (tyL nN.cs)) (v:Val tI) b a=>iJ p.1 p.2.1 p.2.2.2.2.2.2.2.2.2.1 v (fun c=>b c) (a 0) (a 1)⟩
def nH:È:={pin:=0,cs:=[ar,af,tI,tI,tI,af,tI,tI,tI,ac,aa,ae,ab,aa,tI,tI,af,af,tI,tI,tI,tI,af],vs:=[tI],head:=⟨140,.any::.con ar::.any::.box 0 0::aN 3 (.box 1 0::.con af::.any::.con tI::aN 65 [.own 2,.con tI,.con tI,.any,.any,.any,.con af,.con tI,.var tI]),bY⟩,exits:=[(.ret,⟨140,.any::.con ar::.any::.box 0 0::aN 2 (.var tI::.box 1 0::.con af::.any::.con tI::aN 65 [.own 2,.con tI,.con tI,.any,.any,.any,.con af,.con tI]),bY⟩,[tI]),(.exit 2,⟨140,.any::.con ar::.any::.box 0 0::aN 3 (.box 1 0::.con af::.any::.con tI::aN 65 [.own 2,.con tI,.con tI,.any,.any,.any,.con af,.con tI]),bY⟩,[])]}
def nF (ρ:Type):Ý ρ:=⟨[],193,2,nH,fun(p:Val (tyL nH.cs)) (v:Val tI) b a=>let A:=p.2.2.2.2.2;iI p.1 p.2.2.1 A.1 A.2.1 A.2.2.2.2.2.2.2.2.2.2.1 v (fun c=>b c) (a 0) (a 1)⟩
def nJ:È:={pin:=0,cs:=[ar,af,tI,tI,tI,ac,aa,ae,ab,aa,tI,tI,af,af,tI,tI,tI,tI,af],vs:=[tI],head:=⟨140,.any::.con ar::.any::.box 0 0::aN 3 (.box 1 0::.con af::aN 67 [.own 2,.con tI,.var tI]),bY⟩,exits:=[(.ret,⟨140,.any::.con ar::.any::.box 0 0::aN 2 (.var tI::.box 1 0::.con af::aN 67 [.own 2,.con tI]),bY⟩,[tI]),(.exit 0,⟨140,.any::.con ar::.any::.box 0 0::aN 3 (.box 1 0::.con af::aN 67 [.own 2,.con tI]),bY⟩,[])]}
def nI (ρ:Type):Ý ρ:=⟨[],193,0,nJ,fun(p:Val (tyL nJ.cs)) (v:Val tI) b a=>Ŗ p.1 p.2.1 p.2.2.1 p.2.2.2.2.2.2.2.2.2.2.2.1 p.2.2.2.2.2.2.2.2.2.2.2.2.2.2.2.2.2.2 v (fun c=>b c) (a 0) (a 1)⟩
def nE:È:={pin:=0,cs:=[af,tI,tI,tI,ac,aa,ae,ab,aa,tI,tI,af,af,tI,tI,tI,tI],vs:=[tI],head:=⟨140,aN 3 (.box 0 0::aN 3 (.box 1 0::aN 90 [.con af,.con tI,.var tI])),[bo,bu]⟩,exits:=[(.ret,⟨140,aN 3 (.box 0 0::aN 2 (.var tI::.box 1 0::aN 90 [.con af,.con tI])),[bo,bu]⟩,[tI]),(.exit 4,⟨140,aN 3 (.box 0 0::aN 3 (.box 1 0::aN 90 [.con af,.con tI])),[bo,bu]⟩,[])]}
def nD (ρ:Type):Ý ρ:=⟨[],193,4,nE,fun(p:Val (tyL nE.cs)) (v:Val tI) b a=>let A:=p.2.2.2.2;ŕ p.1 p.2.1 p.2.2.1 p.2.2.2.1 A.1 A.2.1 A.2.2.1 A.2.2.2.1 A.2.2.2.2.1 A.2.2.2.2.2.2.1 v (fun c=>b c) (a 0) (a 1)⟩
def EY:List (Nat×Ö):=[(81,ŝ),(131,tP),(189,FV),(190,mY),(199,A4),(204,JW),(227,kP),(231,ahS)]
def oC (ρ:Type):List (Ý ρ):=[nM ρ,nF ρ,nI ρ,nD ρ]
def ş (ρ:Type):Env ρ:=Ù EY (oC ρ)
def ť:Ö:=⟨[Ä],[tI],fun(x:Val Ä)=>Ā x⟩
def Wg:Ö:=⟨[Ê],[.bool],fun(x:Val Ê)=>Bn x⟩
def Yq:List (Nat×Ö):=[]
def Cj (ρ:Type):List (Ý ρ):=[]
def L5 (ρ:Type):Env ρ:=Ù Yq (Cj ρ)
def ahH:Ö:=⟨[Ä],[.bool],fun(x:Val Ä)=>IV x⟩
def Yo:È:={pin:=0,cs:=[tI,tI,ac,aa,ae,ab,aa],vs:=[tI],head:=⟨50,[.any,.box 0 0,.any,.var tI],[bo]⟩,exits:=[(.ret,⟨50,[.any,.box 0 0,.var .bool],[bo]⟩,[.bool]),(.exit 0,⟨50,[.any,.box 0 0],[bo]⟩,[])]}
def F8 (ρ:Type):Ý ρ:=⟨[],10,0,Yo,fun(p:Val ah) (v:Val tI) b a=>vF p.2.2.2.2.2.1 v (fun c=>b c) (a 0) (a 1)⟩
def afF:List (Nat×Ö):=[(30,Wg)]
def L4 (ρ:Type):List (Ý ρ):=[F8 ρ]
def J1 (ρ:Type):Env ρ:=Ù afF (L4 ρ)
def ŵ:Ö:=⟨[aa,Â],[tI],fun(x:Val ba)=>þ x.1 x.2⟩
def l9:È:={pin:=0,cs:=[aa,tI,tI,tI],vs:=[tI],head:=⟨19,[.con aa,.any,.any,.box 0 0,.any,.any,.any,.con tI,.var tI],[bv]⟩,exits:=[(.ret,⟨19,[.con aa,.any,.any,.box 0 0,.var tI,.any,.any,.con tI],[bv]⟩,[tI]),(.exit 0,⟨19,[.con aa,.any,.any,.box 0 0,.any,.any,.any,.con tI],[bv]⟩,[])]}
def gX (ρ:Type):Ý ρ:=⟨[],136,0,l9,fun(p:Val (.pair aa ć)) (v:Val tI) b a=>Ī p.1 p.2.1 p.2.2.1 p.2.2.2 v (fun c=>b c) (a 0) (a 1)⟩
def nr:List (Nat×Ö):=[]
def ii (ρ:Type):List (Ý ρ):=[gX ρ]
def š (ρ:Type):Env ρ:=Ù nr (ii ρ)
def j3:Ö:=⟨[Ä,Â],[tI,tI],fun(x:Val aE)=>Ŧ x.1 x.2⟩
def adX:List (Nat×Ö):=[(66,ť),(135,FU),(136,ŵ)]
def Iz (ρ:Type):List (Ý ρ):=[]
def Sx (ρ:Type):Env ρ:=Ù adX (Iz ρ)
def kB:Ö:=⟨[ay,Â],[tI],fun(x:Val aT)=>ς x.1 x.2⟩
def UW:List (Nat×Ö):=[(67,j3)]
def zt (ρ:Type):List (Ý ρ):=[]
def GS (ρ:Type):Env ρ:=Ù UW (zt ρ)
def qR:Ö:=⟨[Ï,ak],[af,.bool],fun(x:Val (.pair Ï ak))=>kX x.1 x.2⟩
def uJ:È:={pin:=2,cs:=[ak,ai,tI,tI,ai,af,tI,ai,aA,af],vs:=[tI,tI],head:=⟨140,.any::.con ak::.own 1::.box 2 0::aN 3 (.box 3 0::.own 4::.own 5::.var tI::aN 14 [.con ai,.con tI,.var tI]),[bw,.rowc tI,bw,.cells [.nils],.rowc .bool,.rowc tI]⟩,exits:=[(.exit 0,⟨140,.any::.con ak::.own 1::.box 2 0::aN 3 (.box 3 0::.own 4::.own 5::.var tI::aN 14 [.con ai,.con tI]),[bw,.rowc tI,bw,.cells [.nils],.rowc .bool,.rowc tI]⟩,[tI])]}
def uI (ρ:Type):Ý ρ:=⟨[2,3],183,0,uJ,fun(p:Val (tyL uJ.cs)) (v:Val Â) a b=>il p.2.1 p.2.2.1 v.1 v.2 (fun c d=>a (c,d)) (b 0)⟩
def uH:È:={pin:=2,cs:=[ak,tI,tI,tI,ai,af,tI,ai,af],vs:=[tI,aA,af],head:=⟨140,.any::.con ak::.own 1::.box 2 0::aN 3 (.box 3 0::.own 4::.own 5::.con tI::aN 27 [.con tI,.var tI]),bZ⟩,exits:=[(.exit 2,⟨140,.any::.con ak::.own 1::.box 2 0::aN 3 (.box 3 0::.own 4::.own 5::.con tI::aN 27 [.con tI]),bZ⟩,[aA,af])]}
def uG (ρ:Type):Ý ρ:=⟨[2,3],183,2,uH,fun(p:Val (tyL uH.cs)) (v:Val (.pair tI aP)) a b=>ś p.2.2.1 p.2.2.2.2.2.1 v.1 v.2.1 v.2.2 (fun c d e=>a (c,d,e)) (b 0)⟩
def uD:È:={pin:=2,cs:=[ak,tI,tI,ai,tI,tI,ai,tI,ai,af],vs:=[tI,af,aA,af],head:=⟨140,.any::.con ak::.own 1::.box 2 0::aN 3 (.box 3 0::.own 4::.own 5::.con tI::aN 3 (.con tI::aN 62 [.con ai,.con tI,.var tI])),b7⟩,exits:=[(.ret,⟨140,.any::.con ak::.own 1::.box 2 0::aN 2 (.var .bool::.box 3 0::.own 4::.own 5::.con tI::aN 3 (.con tI::aN 62 [.con ai,.con tI])),b7⟩,[.bool,af,aA,af]),(.exit 6,⟨140,.any::.con ak::.own 1::.box 2 0::aN 3 (.box 3 0::.own 4::.own 5::.con tI::aN 3 (.con tI::aN 62 [.con ai,.con tI])),b7⟩,[af,aA,af])]}
def uC (ρ:Type):Ý ρ:=⟨[2,3],183,6,uD,fun(p:Val (tyL uD.cs)) (v:Val (.pair tI (.pair af aP))) b a=>jp p.1 p.2.1 p.2.2.1 p.2.2.2.1 p.2.2.2.2.1 v.1 v.2.1 v.2.2.1 v.2.2.2 (fun c d e f=>b (c,d,e,f)) (a 0) (a 1)⟩
def uF:È:={pin:=2,cs:=[ak,tI,tI,ai,tI,ai],vs:=[af,aA,af,af],head:=⟨140,[.any,.con ak,.own 1,.box 2 0,.any,.any,.any,.box 3 0,.own 4,.own 5,.con tI],b8⟩,exits:=[(.ret,⟨140,[.any,.con ak,.own 1,.box 2 0,.any,.any,.var .bool,.box 3 0,.own 4,.own 5,.con tI],b8⟩,[.bool,af,aA,af,af])]}
def uE (ρ:Type):Ý ρ:=⟨[2,3],183,4,uF,fun(p:Val (tyL uF.cs)) (v:Val aY) a b=>Ĵ p.1 p.2.1 p.2.2.2.2.1 p.2.2.2.2.2 v.1 v.2.1 v.2.2.1 v.2.2.2 (fun c d e f=>a (c,d,e,f)) (b 0)⟩
def KQ:È:={pin:=0,cs:=[tI,tI],vs:=[tI,af],head:=⟨34,aN 6 (.own 0::.con tI::aN 13 [.con tI,.var tI]),[.rowv tI]⟩,exits:=[(.exit 0,⟨34,aN 6 (.own 0::.con tI::aN 13 [.con tI]),[.rowv tI]⟩,[af])]}
def uB (ρ:Type):Ý ρ:=⟨[],117,0,KQ,fun(p:Val Â) (v:Val au) a b=>jo p.1 p.2 v.1 v.2 (fun c d=>a (c,d)) (b 0)⟩
def Rt:List (Nat×Ö):=[]
def xG (ρ:Type):List (Ý ρ):=[uI ρ,uG ρ,uC ρ,uE ρ,uB ρ]
def κ (ρ:Type):Env ρ:=Ù Rt (xG ρ)
def OS:Ö:=⟨[Ï,tI],[.bool],fun(x:Val (.pair Ï tI))=>sF x.1 x.2⟩
def af2:List (Nat×Ö):=[]
def MC (ρ:Type):List (Ý ρ):=[]
def WQ (ρ:Type):Env ρ:=Ù af2 (MC ρ)
def tN:Ö:=⟨[Ï],[tI,tI],fun(x:Val Ï)=>nW x⟩
def Vn:È:={pin:=0,cs:=[ai,tI,tI,ai],vs:=[tI],head:=⟨57,.any::.box 0 0::aN 17 [.con ai,.con tI,.var tI],[bw]⟩,exits:=[(.ret,⟨57,.any::.box 0 0::.var tI::.var tI::aN 15 [.con ai,.con tI],[bw]⟩,[tI,tI]),(.exit 0,⟨57,.any::.box 0 0::aN 17 [.con ai,.con tI],[bw]⟩,[])]}
def Dn (ρ:Type):Ý ρ:=⟨[],138,0,Vn,fun(p:Val (.pair ai aI)) (v:Val tI) b a=>sa p.1 p.2.1 p.2.2.1 p.2.2.2 v (fun c=>b c) (a 0) (a 1)⟩
def adv:List (Nat×Ö):=[(139,OS)]
def HJ (ρ:Type):List (Ý ρ):=[Dn ρ]
def EN (ρ:Type):Env ρ:=Ù adv (HJ ρ)
def aci:Ö:=⟨[Ï,af],[tI],fun(x:Val bj)=>Ja x.1 x.2⟩
def Vl:È:={pin:=0,cs:=[af,tI,tI,ai],vs:=[tI],head:=⟨37,aN 2 (.box 0 0::aN 16 [.con af,.con tI,.var tI]),[bw]⟩,exits:=[(.ret,⟨37,aN 2 (.box 0 0::.any::.var tI::aN 14 [.con af,.con tI]),[bw]⟩,[tI]),(.exit 0,⟨37,aN 2 (.box 0 0::aN 16 [.con af,.con tI]),[bw]⟩,[])]}
def Dc (ρ:Type):Ý ρ:=⟨[],112,0,Vl,fun(p:Val (.pair af aI)) (v:Val tI) b a=>rY p.1 p.2.1 p.2.2.1 p.2.2.2 v (fun c=>b c) (a 0) (a 1)⟩
def adt:List (Nat×Ö):=[(117,qR),(138,tN),(139,OS)]
def HG (ρ:Type):List (Ý ρ):=[Dc ρ]
def EM (ρ:Type):Env ρ:=Ù adt (HG ρ)
def Wx:Ö:=⟨[Ï,ak,tI],[af],fun(x:Val (.pair Ï (.pair ak tI)))=>By x.1 x.2.1 x.2.2⟩
def zV:È:={pin:=0,cs:=[ak,tI,tI,tI,ai],vs:=[tI,af],head:=⟨29,.any::.con ak::.con tI::.box 0 0::aN 3 (.own 1::aN 5 [.con tI,.var tI]),[bw,.rowv tI]⟩,exits:=[(.exit 0,⟨29,.any::.con ak::.con tI::.box 0 0::aN 3 (.own 1::aN 5 [.con tI]),[bw,.rowv tI]⟩,[af])]}
def zU (ρ:Type):Ý ρ:=⟨[],120,0,zV,fun(p:Val (tyL zV.cs)) (v:Val au) a b=>oX p.2.2.1 v.1 v.2 (fun c d=>a (c,d)) (b 0)⟩
def zT:È:={pin:=2,cs:=[ak,ai,tI,tI,ai,af,tI,ai,aA,af],vs:=[tI,tI],head:=⟨140,.any::.con ak::.own 1::.box 2 0::aN 3 (.box 3 0::.own 4::.own 5::.var tI::aN 14 [.con ai,.con tI,.var tI]),[bw,.rowc tI,bw,.cells [.nils],.rowc .bool,.rowc tI]⟩,exits:=[(.exit 0,⟨140,.any::.con ak::.own 1::.box 2 0::aN 3 (.box 3 0::.own 4::.own 5::.var tI::aN 14 [.con ai,.con tI]),[bw,.rowc tI,bw,.cells [.nils],.rowc .bool,.rowc tI]⟩,[tI])]}
def zS (ρ:Type):Ý ρ:=⟨[8,3],183,0,zT,fun(p:Val (tyL zT.cs)) (v:Val Â) a b=>wq p.2.1 p.2.2.1 v.1 v.2 (fun c d=>a (c,d)) (b 0)⟩
def zR:È:={pin:=2,cs:=[ak,tI,tI,tI,ai,af,tI,ai,af],vs:=[tI,aA,af],head:=⟨140,.any::.con ak::.own 1::.box 2 0::aN 3 (.box 3 0::.own 4::.own 5::.con tI::aN 27 [.con tI,.var tI]),bZ⟩,exits:=[(.exit 2,⟨140,.any::.con ak::.own 1::.box 2 0::aN 3 (.box 3 0::.own 4::.own 5::.con tI::aN 27 [.con tI]),bZ⟩,[aA,af])]}
def zQ (ρ:Type):Ý ρ:=⟨[8,3],183,2,zR,fun(p:Val (tyL zR.cs)) (v:Val (.pair tI aP)) a b=>wp p.2.2.1 p.2.2.2.2.2.1 v.1 v.2.1 v.2.2 (fun c d e=>a (c,d,e)) (b 0)⟩
def zN:È:={pin:=2,cs:=[ak,tI,tI,ai,tI,tI,ai,tI,ai,af],vs:=[tI,af,aA,af],head:=⟨140,.any::.con ak::.own 1::.box 2 0::aN 3 (.box 3 0::.own 4::.own 5::.con tI::aN 3 (.con tI::aN 62 [.con ai,.con tI,.var tI])),b7⟩,exits:=[(.ret,⟨140,.any::.con ak::.own 1::.box 2 0::aN 2 (.var .bool::.box 3 0::.own 4::.own 5::.con tI::aN 3 (.con tI::aN 62 [.con ai,.con tI])),b7⟩,[.bool,af,aA,af]),(.exit 6,⟨140,.any::.con ak::.own 1::.box 2 0::aN 3 (.box 3 0::.own 4::.own 5::.con tI::aN 3 (.con tI::aN 62 [.con ai,.con tI])),b7⟩,[af,aA,af])]}
def zM (ρ:Type):Ý ρ:=⟨[8,3],183,6,zN,fun(p:Val (tyL zN.cs)) (v:Val (.pair tI (.pair af aP))) b a=>HF p.1 p.2.1 p.2.2.1 p.2.2.2.1 p.2.2.2.2.1 v.1 v.2.1 v.2.2.1 v.2.2.2 (fun c d e f=>b (c,d,e,f)) (a 0) (a 1)⟩
def zP:È:={pin:=2,cs:=[ak,tI,tI,ai,tI,ai],vs:=[af,aA,af,af],head:=⟨140,[.any,.con ak,.own 1,.box 2 0,.any,.any,.any,.box 3 0,.own 4,.own 5,.con tI],b8⟩,exits:=[(.ret,⟨140,[.any,.con ak,.own 1,.box 2 0,.any,.any,.var .bool,.box 3 0,.own 4,.own 5,.con tI],b8⟩,[.bool,af,aA,af,af])]}
def zO (ρ:Type):Ý ρ:=⟨[8,3],183,4,zP,fun(p:Val (tyL zP.cs)) (v:Val aY) a b=>wo p.1 p.2.1 p.2.2.2.2.1 p.2.2.2.2.2 v.1 v.2.1 v.2.2.1 v.2.2.2 (fun c d e f=>a (c,d,e,f)) (b 0)⟩
def ZA:List (Nat×Ö):=[]
def Db (ρ:Type):List (Ý ρ):=[zU ρ,zS ρ,zQ ρ,zM ρ,zO ρ]
def jq (ρ:Type):Env ρ:=Ù ZA (Db ρ)
def FQ:Ö:=⟨[Ï,tI,tI],[tI,tI],fun(x:Val bc)=>qC x.1 x.2.1 x.2.2⟩
def adx:List (Nat×Ö):=[(112,aci),(120,Wx)]
def HN (ρ:Type):List (Ý ρ):=[]
def RK (ρ:Type):Env ρ:=Ù adx (HN ρ)
def jZ:Ö:=⟨[ay,tI,tI],[tI],fun(x:Val aT)=>Ď x.1 x.2.1 x.2.2⟩
def Ky:List (Nat×Ö):=[(114,FQ)]
def rO (ρ:Type):List (Ý ρ):=[]
def xv (ρ:Type):Env ρ:=Ù Ky (rO ρ)
def sN:Ö:=⟨[ay,Â],[tI],fun(x:Val aT)=>π x.1 x.2⟩
def Kx:List (Nat×Ö):=[(50,kB),(51,jZ)]
def rN (ρ:Type):List (Ý ρ):=[]
def xu (ρ:Type):Env ρ:=Ù Kx (rN ρ)
def mr:Ö:=⟨[ay,Â],[tI],fun(x:Val aT)=>iv x.1 x.2⟩
def BZ:List (Nat×Ö):=[(50,kB),(51,jZ)]
def nA (ρ:Type):List (Ý ρ):=[]
def pX (ρ:Type):Env ρ:=Ù BZ (nA ρ)
def jz:Ö:=⟨[ay,Â],[Â],fun(x:Val aT)=>ű x.1 x.2⟩
def BX:List (Nat×Ö):=[(64,sN),(65,mr)]
def nz (ρ:Type):List (Ý ρ):=[]
def kI (ρ:Type):Env ρ:={Ù BX (nz ρ) with hint:=Lm [(12,64),(16,65)]}
def yr:Ö:=⟨[aX,af,tI],[tI],fun(x:Val (.pair aX aH))=>iC x.1 x.2.1 x.2.2⟩
def Sl:List (Nat×Ö):=[(136,ŵ)]
def xO (ρ:Type):List (Ý ρ):=[]
def DA (ρ:Type):Env ρ:=Ù Sl (xO ρ)
def xn:Ö:=⟨[ar,af],[Â],fun(x:Val (.pair ar af))=>i5 x.1 x.2⟩
def ES:List (Nat×Ö):=[]
def oA (ρ:Type):List (Ý ρ):=[]
def si (ρ:Type):Env ρ:=Ù ES (oA ρ)
def tO:Ö:=⟨[aa],[tI],fun(x:Val aa)=>kf x⟩
def Vo:È:={pin:=0,cs:=[aa,tI],vs:=[tI],head:=⟨15,aN 5 [.con aa,.con tI,.var tI],[]⟩,exits:=[(.ret,⟨15,[.any,.any,.var tI,.any,.any,.con aa,.con tI],[]⟩,[tI]),(.exit 0,⟨15,aN 5 [.con aa,.con tI],[]⟩,[])]}
def Dv (ρ:Type):Ý ρ:=⟨[],266,0,Vo,fun(p:Val (.pair aa tI)) (v:Val tI) b a=>sg p.1 p.2 v (fun c=>b c) (a 0) (a 1)⟩
def ady:List (Nat×Ö):=[(226,FR)]
def HO (ρ:Type):List (Ý ρ):=[Dv ρ]
def EO (ρ:Type):Env ρ:=Ù ady (HO ρ)
def D6:Ö:=⟨[tI,tI],[Â,tI],fun(x:Val Â)=>qD x.1 x.2⟩
def Vp:List (Nat×Ö):=[(258,X5),(259,afx)]
def zW (ρ:Type):List (Ý ρ):=[]
def HP (ρ:Type):Env ρ:=Ù Vp (zW ρ)
def ak8:Ö:=⟨[Â,Â],[Â,tI],fun(x:Val ç)=>aaA x.1 x.2⟩
def ajv:List (Nat×Ö):=[(266,tO),(294,D6)]
def RW (ρ:Type):List (Ý ρ):=[]
def adE (ρ:Type):Env ρ:=Ù ajv (RW ρ)
def FT:Ö:=⟨[Â,Â],[Â],fun(x:Val ç)=>w7 x.1 x.2⟩
def On:List (Nat×Ö):=[(283,ak8)]
def uL (ρ:Type):List (Ý ρ):=[]
def zZ (ρ:Type):Env ρ:=Ù On (uL ρ)
def afy:Ö:=⟨[Â,Â],[tI],fun(x:Val ç)=>Td x.1 x.2⟩
def aju:List (Nat×Ö):=[]
def RT (ρ:Type):List (Ý ρ):=[]
def adC (ρ:Type):Env ρ:=Ù aju (RT ρ)
def Ch:Ö:=⟨[ç],[.bool],fun(x:Val ç)=>tp x⟩
def KX:List (Nat×Ö):=[(266,tO),(300,afy)]
def sh (ρ:Type):List (Ý ρ):=[]
def xL (ρ:Type):Env ρ:=Ù KX (sh ρ)
def ak9:Ö:=⟨[Â,Â],[Â,tI],fun(x:Val ç)=>Tf x.1 x.2⟩
def ajw:List (Nat×Ö):=[(266,tO),(294,D6)]
def RY (ρ:Type):List (Ý ρ):=[]
def adG (ρ:Type):Env ρ:=Ù ajw (RY ρ)
def acl:Ö:=⟨[ç,Â],[ç,tI],fun(x:Val (.pair ç Â))=>Te x.1 x.2⟩
def MM:List (Nat×Ö):=[(226,FR),(295,Ch),(298,ak9),(300,afy)]
def wt (ρ:Type):List (Ý ρ):=[]
def ML:List anY:=[⟨[3,2],296,0,4⟩]
def adF (ρ:Type):Env ρ:=Ù MM (wt ρ)
def EQ (ρ:Type):Env ρ:=ap5 MM (wt ρ) ML
def FS:Ö:=⟨[Â,Â],[ç],fun(x:Val ç)=>pd x.1 x.2⟩
def Om:List (Nat×Ö):=[(284,acl)]
def uK (ρ:Type):List (Ý ρ):=[]
def zY (ρ:Type):Env ρ:=Ù Om (uK ρ)
def JX:Ö:=⟨[Ä,Ê],[ç],fun(x:Val aC)=>pB x.1 x.2⟩
def Z1:List (Nat×Ö):=[(133,D7),(199,A4),(263,xn),(264,FT),(265,FS)]
def DD (ρ:Type):List (Ý ρ):=[]
def MU (ρ:Type):Env ρ:=Ù Z1 (DD ρ)
def PM:Ö:=⟨[Ä,Ê],[Â],fun(x:Val aC)=>vh x.1 x.2⟩
def adR:List (Nat×Ö):=[]
def Ik (ρ:Type):List (Ý ρ):=[]
def Su (ρ:Type):Env ρ:=Ù adR (Ik ρ)
def PJ:Ö:=⟨[tI,tI],[tI],fun(x:Val Â)=>ve x.1 x.2⟩
def adB:List (Nat×Ö):=[]
def HQ (ρ:Type):List (Ý ρ):=[]
def RS (ρ:Type):Env ρ:=Ù adB (HQ ρ)
def X6:Ö:=⟨[Â],[tI,tI],fun(x:Val Â)=>Jb x⟩
def agh:List (Nat×Ö):=[(266,tO),(267,PJ)]
def MN (ρ:Type):List (Ý ρ):=[]
def WZ (ρ:Type):Env ρ:=Ù agh (MN ρ)
def PK:Ö:=⟨[Â],[tI,tI],fun(x:Val Â)=>AC x⟩
def adH:List (Nat×Ö):=[(266,tO),(267,PJ)]
def HV (ρ:Type):List (Ý ρ):=[]
def RZ (ρ:Type):Env ρ:=Ù adH (HV ρ)
def X7:Ö:=⟨[Ä,Ê],[Â],fun(x:Val aC)=>wZ x.1 x.2⟩
def agi:List (Nat×Ö):=[(238,JX),(239,PM),(240,X6),(241,PK)]
def MP (ρ:Type):List (Ý ρ):=[]
def W0 (ρ:Type):Env ρ:=Ù agi (MP ρ)
def ahR:Ö:=⟨[Ä,Ð,tI,tI],[tI],fun(x:Val (.pair Ä (.pair Ð Â)))=>Bz x.1 x.2.1 x.2.2.1 x.2.2.2⟩
def If:È:={pin:=0,cs:=[tI,tI,ae,tI,tI,tI,ac,aa,ae,ab,aa,tI,tI,tI,tI,tI,tI,tI,tI],vs:=[tI,tI],head:=⟨88,aN 2 (.con tI::.con tI::.box 0 0::.box 1 0::aN 3 (.var tI::aN 7 [.con ae,.con tI,.var tI])),b9⟩,exits:=[(.exit 0,⟨88,aN 2 (.con tI::.con tI::.box 0 0::.box 1 0::aN 3 (.var tI::aN 7 [.con ae,.con tI])),b9⟩,[tI])]}
def Ie (ρ:Type):Ý ρ:=⟨[],235,0,If,fun(p:Val (tyL If.cs)) (v:Val Â) a b=>wD p.1 p.2.1 p.2.2.1 p.2.2.2.1 p.2.2.2.2.2.2.2.2.2.2.2.1 v.1 v.2 (fun c d=>a (c,d)) (b 0)⟩
def Ic:È:={pin:=0,cs:=[tI,tI,tI,aa,tI,tI,tI,tI,tI,tI,tI,tI,tI],vs:=[tI,af],head:=⟨88,aN 2 (.con tI::.con tI::.any::.box 0 0::aN 3 (.con tI::aN 3 (.own 1::aN 39 [.con aa,.con tI,.var tI]))),bW⟩,exits:=[(.exit 2,⟨88,aN 2 (.con tI::.con tI::.any::.box 0 0::aN 3 (.con tI::aN 3 (.own 1::aN 39 [.con aa,.con tI]))),bW⟩,[af])]}
def Ib (ρ:Type):Ý ρ:=⟨[],235,2,Ic,fun(p:Val (tyL Ic.cs)) (v:Val au) a b=>wC p.1 p.2.1 p.2.2.2.1 p.2.2.2.2.1 p.2.2.2.2.2.1 v.1 v.2 (fun c d=>a (c,d)) (b 0)⟩
def agk:List (Nat×Ö):=[(227,kP)]
def MR (ρ:Type):List (Ý ρ):=[Ie ρ,Ib ρ]
def Be (ρ:Type):Env ρ:=Ù agk (MR ρ)
def X8:Ö:=⟨[Ä],[aX],fun(x:Val Ä)=>Jd x⟩
def H8:È:={pin:=2,cs:=[tI,af,tI,ac,tI,tI,tI,tI,ac,aa,ae,ab,aa,tI,tI,ac,aa,ae,ab,aa,aa,tI,tI,tI,tI,tI,tI,tI,tI,tI],vs:=[tI,ai,aa],head:=⟨144,.box 1 0::.any::.con tI::.box 2 0::.con af::.con tI::.var tI::aN 24 [.con ac,.con tI,.con tI],[bo,bB,bp,.rowv ć,.rowv Â]⟩,exits:=[(.exit 2,⟨144,.box 1 0::.any::.con tI::.box 2 0::.con af::.con tI::aN 25 [.con ac,.con tI,.con tI],[bo,bB,bp,.rowv ć,.rowv Â]⟩,[ai,aa])]}
def H7 (ρ:Type):Ý ρ:=⟨[2,1],195,2,H8,fun(p:Val (tyL H8.cs)) (v:Val aQ) a b=>let A:=p.2.2.2.2.2.2.2.2.2.2.2.2.2;let B:=A.2.2.2.2;let C:=B.2.2.2.2.2;let D:=C.2.2.2.2;wA p.1 p.2.1 p.2.2.1 A.1 A.2.1 A.2.2.1 A.2.2.2.1 B.1 B.2.1 B.2.2.1 C.1 C.2.1 C.2.2.1 C.2.2.2.1 D.1 D.2.1 D.2.2.1 D.2.2.2 v.1 v.2.1 v.2.2 (fun c d e=>a (c,d,e)) (b 0)⟩
def Ia:È:={pin:=2,cs:=[ac,tI,tI,tI,ac,aa,ae,ab,aa,tI,tI,ac,aa,ae,ab,aa,aa,tI],vs:=[tI,ai,aa],head:=⟨144,.box 1 0::aN 30 [.con ac,.con tI,.var tI],ca⟩,exits:=[(.exit 0,⟨144,.box 1 0::aN 30 [.con ac,.con tI],ca⟩,[ai,aa])]}
def H9 (ρ:Type):Ý ρ:=⟨[2,1],195,0,Ia,fun(p:Val (tyL Ia.cs)) (v:Val aQ) a b=>let A:=p.2.2.2.2.2.2.2.2.2;let B:=A.2.2.2.2;wB p.1 p.2.1 A.1 A.2.1 A.2.2.1 A.2.2.2.1 B.1 B.2.1 B.2.2.1 B.2.2.2.1 B.2.2.2.2 v.1 v.2.1 v.2.2 (fun c d e=>a (c,d,e)) (b 0)⟩
def H6:È:={pin:=2,cs:=[ab,tI,tI,tI,ac,aa,ae,ab,aa,tI,tI,ac,aa,ae,ab,aa,aa,tI],vs:=[tI,ai,aa],head:=⟨144,.box 1 0::aN 107 [.con ab,.con tI,.var tI],ca⟩,exits:=[(.exit 4,⟨144,.box 1 0::aN 107 [.con ab,.con tI],ca⟩,[ai,aa])]}
def H5 (ρ:Type):Ý ρ:=⟨[2,1],195,4,H6,fun(p:Val (tyL H6.cs)) (v:Val aQ) a b=>let A:=p.2.2.2.2.2.2.2.2.2;let B:=A.2.2.2.2;wz p.1 p.2.1 A.1 A.2.1 A.2.2.1 A.2.2.2.1 B.1 B.2.1 B.2.2.1 B.2.2.2.1 B.2.2.2.2 v.1 v.2.1 v.2.2 (fun c d e=>a (c,d,e)) (b 0)⟩
def agj:List (Nat×Ö):=[(135,FU),(194,X9),(198,yr),(199,A4),(203,X7),(235,ahR)]
def MQ (ρ:Type):List (Ý ρ):=[H7 ρ,H9 ρ,H5 ρ]
def uM (ρ:Type):Env ρ:=Ù agj (MQ ρ)
def ů:Ö:=⟨[Ä],[Ï,aa,tI],fun(x:Val Ä)=>Į x⟩
def Z7:List (Nat×Ö):=[(66,ť),(137,X8)]
def DE (ρ:Type):List (Ý ρ):=[]
def MY (ρ:Type):Env ρ:=Ù Z7 (DE ρ)
def qS:Ö:=⟨[Ä,Â],[Ä,tI],fun(x:Val aE)=>kv x.1 x.2⟩
def Iy:È:={pin:=6,cs:=[tI,tI,tI,ac,aa,ae,ab,aa,tI,tI,tI,tI,tI,tI,ac,aa,ae,ab,aa,tI,tI,tI,tI,ab,tI,tI,ac,aa,ae,aa],vs:=[tI,ab],head:=⟨50,.any::.box 6 0::.box 7 0::.own 8::aN 21 [.own 8,.con tI,.var tI],cd⟩,exits:=[(.exit 0,⟨50,.any::.box 6 0::.box 7 0::.own 8::aN 21 [.own 8,.con tI],cd⟩,[ab])]}
def Ix (ρ:Type):Ý ρ:=⟨[1,2,4,1],223,0,Iy,fun(p:Val (tyL Iy.cs)) (v:Val (.pair tI ab)) a b=>wK p.1 v.1 v.2 (fun c d=>a (c,d)) (b 0)⟩
def agq:List (Nat×Ö):=[(66,ť)]
def M3 (ρ:Type):List (Ý ρ):=[Ix ρ]
def Ld (ρ:Type):Env ρ:=Ù agq (M3 ρ)
def ū:Ö:=⟨[Ï],[.bool,tI],fun(x:Val Ï)=>ĥ x⟩
def KU:List (Nat×Ö):=[(117,qR),(138,tN)]
def rZ (ρ:Type):List (Ý ρ):=[]
def xI (ρ:Type):Env ρ:=Ù KU (rZ ρ)
def L3:Ö:=⟨[Ä,Â],[Â,tI],fun(x:Val aE)=>nV x.1 x.2⟩
def uw:È:={pin:=4,cs:=[tI,tI,tI,ac,aa,ae,ab,aa,tI,tI,tI,tI,aa],vs:=[tI,tI,tI,ac,aa,ae,ab,aa],head:=⟨68,aN 2 (.box 4 0::aN 20 [.own 3,.con tI,.var tI]),ce⟩,exits:=[(.ret,⟨68,aN 2 (.box 4 0::.any::.nilp::.var tI::aN 17 [.own 3,.con tI]),ce⟩,[tI,tI,tI,ac,aa,ae,ab,aa]),(.exit 0,⟨68,aN 2 (.box 4 0::aN 20 [.own 3,.con tI]),ce⟩,[tI,tI,ac,aa,ae,ab,aa])]}
def ut (ρ:Type):Ý ρ:=⟨[1,3],47,0,uw,fun(p:Val (tyL uw.cs)) (v:Val aD) b a=>ĕ p.1 p.2.2.2.2.2.2.2.2.2.2.2.2 v.1 v.2.1 v.2.2.1 v.2.2.2.1 v.2.2.2.2.1 v.2.2.2.2.2.1 v.2.2.2.2.2.2.1 v.2.2.2.2.2.2.2 (fun c d e f g h i j=>b (c,d,e,f,g,h,i,j)) (a 0) (a 1)⟩
def Ro:List (Nat×Ö):=[(48,jz),(66,ť),(67,j3),(68,ů),(110,qS),(111,ū)]
def xy (ρ:Type):List (Ý ρ):=[ut ρ]
def sW (ρ:Type):Env ρ:=Ù Ro (xy ρ)
def PH:Ö:=⟨[Ä,Â,Â],[Â,tI],fun(x:Val (.pair Ä ç))=>wY x.1 x.2.1 x.2.2⟩
def xF:È:={pin:=5,cs:=[tI,tI,tI,ac,aa,ae,ab,aa,tI,tI,tI,tI,tI,tI,aa],vs:=[tI,tI,tI,ac,aa,ae,ab,aa],head:=⟨68,aN 2 (.box 5 0::aN 20 [.own 4,.con tI,.var tI]),cf⟩,exits:=[(.ret,⟨68,aN 2 (.box 5 0::.any::.nilp::.var tI::aN 17 [.own 4,.con tI]),cf⟩,[tI,tI,tI,ac,aa,ae,ab,aa]),(.exit 0,⟨68,aN 2 (.box 5 0::aN 20 [.own 4,.con tI]),cf⟩,[tI,tI,ac,aa,ae,ab,aa])]}
def xE (ρ:Type):Ý ρ:=⟨[1,4],47,0,xF,fun(p:Val (tyL xF.cs)) (v:Val aD) b a=>s7 p.1 p.2.2.2.2.2.2.2.2.2.2.2.2.2.2 v.1 v.2.1 v.2.2.1 v.2.2.2.1 v.2.2.2.2.1 v.2.2.2.2.2.1 v.2.2.2.2.2.2.1 v.2.2.2.2.2.2.2 (fun c d e f g h i j=>b (c,d,e,f,g,h,i,j)) (a 0) (a 1)⟩
def Vh:List (Nat×Ö):=[(50,kB),(51,jZ),(66,ť),(67,j3),(68,ů),(110,qS),(111,ū)]
def zJ (ρ:Type):List (Ý ρ):=[xE ρ]
def wj (ρ:Type):Env ρ:=Ù Vh (zJ ρ)
def D2:Ö:=⟨[Â,Â],[tI],fun(x:Val ç)=>qx x.1 x.2⟩
def UU:List (Nat×Ö):=[]
def zo (ρ:Type):List (Ý ρ):=[]
def GP (ρ:Type):Env ρ:=Ù UU (zo ρ)
def acg:Ö:=⟨[Ä,Â,Â],[tI,tI],fun(x:Val (.pair Ä ç))=>I7 x.1 x.2.1 x.2.2⟩
def Da:È:={pin:=4,cs:=[tI,tI,tI,ac,aa,ae,ab,aa,tI,tI,tI,tI,aa],vs:=[tI,tI,tI,ac,aa,ae,ab,aa],head:=⟨68,aN 2 (.box 4 0::aN 20 [.own 3,.con tI,.var tI]),ce⟩,exits:=[(.ret,⟨68,aN 2 (.box 4 0::.any::.nilp::.var tI::aN 17 [.own 3,.con tI]),ce⟩,[tI,tI,tI,ac,aa,ae,ab,aa]),(.exit 0,⟨68,aN 2 (.box 4 0::aN 20 [.own 3,.con tI]),ce⟩,[tI,tI,ac,aa,ae,ab,aa])]}
def C9 (ρ:Type):Ý ρ:=⟨[1,3],47,0,Da,fun(p:Val (tyL Da.cs)) (v:Val aD) b a=>zE p.1 p.2.2.2.2.2.2.2.2.2.2.2.2 v.1 v.2.1 v.2.2.1 v.2.2.2.1 v.2.2.2.2.1 v.2.2.2.2.2.1 v.2.2.2.2.2.2.1 v.2.2.2.2.2.2.2 (fun c d e f g h i j=>b (c,d,e,f,g,h,i,j)) (a 0) (a 1)⟩
def ado:List (Nat×Ö):=[(48,jz),(57,D2),(66,ť),(67,j3),(68,ů),(110,qS),(111,ū)]
def Hu (ρ:Type):List (Ý ρ):=[C9 ρ]
def EI (ρ:Type):Env ρ:=Ù ado (Hu ρ)
def PI:Ö:=⟨[Ï,tI,tI],[am],fun(x:Val bc)=>Az x.1 x.2.1 x.2.2⟩
def WX:È:={pin:=0,cs:=[tI,tI,tI,tI,ai],vs:=[tI,af],head:=⟨45,.any::.con tI::.con tI::.box 0 0::aN 3 (.own 1::aN 7 [.con tI,.var tI]),[bw,.rowv tI]⟩,exits:=[(.exit 0,⟨45,.any::.con tI::.con tI::.box 0 0::aN 3 (.own 1::aN 7 [.con tI]),[bw,.rowv tI]⟩,[af])]}
def WW (ρ:Type):Ý ρ:=⟨[],122,0,WX,fun(p:Val (tyL WX.cs)) (v:Val au) a b=>Bb p.2.2.1 v.1 v.2 (fun c d=>a (c,d)) (b 0)⟩
def WU:È:={pin:=4,cs:=[af,tI,am,tI,ai],vs:=[tI,af],head:=⟨53,.con af::.box 1 0::aN 2 (.own 4::aN 7 [.con tI,.var tI]),cg⟩,exits:=[(.exit 0,⟨53,.con af::.box 1 0::aN 2 (.own 4::aN 7 [.con tI]),cg⟩,[af])]}
def WT (ρ:Type):Ý ρ:=⟨[12,8],185,0,WU,fun(p:Val (tyL WU.cs)) (v:Val au) a b=>Zz p.2.1 v.1 v.2 (fun c d=>a (c,d)) (b 0)⟩
def WS:È:={pin:=4,cs:=[af,ai,tI,am,tI,ai],vs:=[tI,af],head:=⟨53,.con af::aN 3 (.own 4::aN 16 [.con ai,.con tI,.var tI]),cg⟩,exits:=[(.exit 2,⟨53,.con af::aN 3 (.own 4::aN 16 [.con ai,.con tI]),cg⟩,[af])]}
def WR (ρ:Type):Ý ρ:=⟨[12,8],185,2,WS,fun(p:Val (tyL WS.cs)) (v:Val au) a b=>HE p.1 p.2.1 p.2.2.1 v.1 v.2 (fun c d=>a (c,d)) (b 0)⟩
def ajs:È:={pin:=0,cs:=[tI,tI,ai],vs:=[tI,am],head:=⟨45,aN 9 (.own 0::.fn 185 [(1,0)]::aN 18 [.con tI,.var tI]),[.rowv af,bw]⟩,exits:=[(.exit 2,⟨45,aN 9 (.own 0::.fn 185 [(1,0)]::aN 18 [.con tI]),[.rowv af,bw]⟩,[am])]}
def WV (ρ:Type):Ý ρ:=⟨[],122,2,ajs,fun(p:Val aI) (v:Val aR) a b=>O0 p.1 p.2.1 p.2.2 v.1 v.2 (fun c d=>a (c,d)) (b 0)⟩
def aoH:List (Nat×Ö):=[]
def ads (ρ:Type):List (Ý ρ):=[WW ρ,WT ρ,WR ρ,WV ρ]
def KS (ρ:Type):Env ρ:=Ù aoH (ads ρ)
def ack:Ö:=⟨[Ï,tI,tI],[af,tI],fun(x:Val bc)=>AB x.1 x.2.1 x.2.2⟩
def Du:È:={pin:=3,cs:=[am,tI,tI,ai,tI,tI],vs:=[tI],head:=⟨19,.con am::.fn 124 [(1,0),(2,0)]::aN 5 [.con tI,.var tI],[bw,bt,bt]⟩,exits:=[(.ret,⟨19,[.con am,.fn 124 [(1,0),(2,0)],.any,.any,.var tI,.any,.any,.con tI],[bw,bt,bt]⟩,[tI]),(.exit 0,⟨19,.con am::.fn 124 [(1,0),(2,0)]::aN 5 [.con tI],[bw,bt,bt]⟩,[])]}
def Dt (ρ:Type):Ý ρ:=⟨[5,2],123,0,Du,fun(p:Val (tyL Du.cs)) (v:Val tI) b a=>sf p.1 p.2.1 p.2.2.2.2.1 p.2.2.2.2.2 v (fun c=>b c) (a 0) (a 1)⟩
def Dq:È:={pin:=3,cs:=[tI,am,ai,tI,tI,ai,tI,tI,tI,ai],vs:=[tI,tI,tI,af],head:=⟨73,.any::.var tI::.con tI::.con am::.fn 126 [(2,0)]::.box 3 0::aN 5 (.own 4::.var tI::aN 7 [.con ai,.con tI,.var tI]),ci⟩,exits:=[(.exit 2,⟨73,.any::.var tI::.con tI::.con am::.fn 126 [(2,0)]::.box 3 0::aN 5 (.own 4::.var tI::aN 7 [.con ai,.con tI]),ci⟩,[tI,tI,af])]}
def Dp (ρ:Type):Ý ρ:=⟨[6,5],125,2,Dq,fun(p:Val (tyL Dq.cs)) (v:Val aM) a b=>MI p.1 p.2.1 p.2.2.1 p.2.2.2.1 p.2.2.2.2.2.2.2.1 v.1 v.2.1 v.2.2.1 v.2.2.2 (fun c d e f=>a (c,d,e,f)) (b 0)⟩
def Ds:È:={pin:=3,cs:=[am,tI,ai,tI,tI,tI,ai],vs:=[tI,tI,tI,af],head:=⟨73,.any::.var tI::.var tI::.con am::.fn 126 [(2,0)]::.box 3 0::aN 5 [.own 4,.var tI],ci⟩,exits:=[(.exit 0,⟨73,aN 3 (.con am::.fn 126 [(2,0)]::.box 3 0::aN 5 [.own 4]),ci⟩,[af])]}
def Dr (ρ:Type):Ý ρ:=⟨[6,5],125,0,Ds,fun(p:Val (tyL Ds.cs)) (v:Val aM) a b=>se p.1 p.2.2.2.2.1 p.2.2.2.2.2.2 v.1 v.2.1 v.2.2.1 v.2.2.2 (fun c d e f=>a (c,d,e,f)) (b 0)⟩
def adw:List (Nat×Ö):=[(114,FQ),(122,PI)]
def HM (ρ:Type):List (Ý ρ):=[Dt ρ,Dp ρ,Dr ρ]
def qg (ρ:Type):Env ρ:=Ù adw (HM ρ)
def FP:Ö:=⟨[ay,aW,(.ptr .bool)],[af],fun(x:Val (.pair ay (.pair aW (.ptr .bool))))=>lV x.1 x.2.1 x.2.2⟩
def Ob:List (Nat×Ö):=[(50,kB),(61,ack)]
def uA (ρ:Type):List (Ý ρ):=[]
def zI (ρ:Type):Env ρ:=Ù Ob (uA ρ)
def D3:Ö:=⟨[Ä,af],[aa],fun(x:Val (.pair Ä af))=>qy x.1 x.2⟩
def N2:È:={pin:=0,cs:=[aa,af,tI],vs:=[tI,aa],head:=⟨32,aN 6 (.con aa::.any::.own 0::aN 8 [.con af,.con tI,.var tI]),[.rowv Â]⟩,exits:=[(.exit 0,⟨32,aN 6 (.con aa::.any::.own 0::aN 8 [.con af,.con tI]),[.rowv Â]⟩,[aa])]}
def xt (ρ:Type):Ý ρ:=⟨[],63,0,N2,fun(p:Val (.pair aa aH)) (v:Val aF) a b=>m7 p.1 p.2.1 p.2.2 v.1 v.2 (fun c d=>a (c,d)) (b 0)⟩
def UV:List (Nat×Ö):=[(68,ů)]
def zp (ρ:Type):List (Ý ρ):=[xt ρ]
def vV (ρ:Type):Env ρ:=Ù UV (zp ρ)
def D4:Ö:=⟨[Ä,Â,.bool],[ö,tI],fun(x:Val (.pair Ä (.pair Â .bool)))=>qA x.1 x.2.1 x.2.2⟩
def xD:È:={pin:=5,cs:=[tI,tI,tI,ac,aa,ae,ab,aa,tI,tI,tI,tI,.bool,tI,aa],vs:=[tI,tI,tI,ac,aa,ae,ab,aa],head:=⟨68,aN 2 (.box 5 0::aN 20 [.own 4,.con tI,.var tI]),cj⟩,exits:=[(.ret,⟨68,aN 2 (.box 5 0::.any::.nilp::.var tI::aN 17 [.own 4,.con tI]),cj⟩,[tI,tI,tI,ac,aa,ae,ab,aa]),(.exit 0,⟨68,aN 2 (.box 5 0::aN 20 [.own 4,.con tI]),cj⟩,[tI,tI,ac,aa,ae,ab,aa])]}
def xC (ρ:Type):Ý ρ:=⟨[1,3],47,0,xD,fun(p:Val (tyL xD.cs)) (v:Val aD) b a=>sZ p.1 p.2.2.2.2.2.2.2.2.2.2.2.2.2.2 v.1 v.2.1 v.2.2.1 v.2.2.2.1 v.2.2.2.2.1 v.2.2.2.2.2.1 v.2.2.2.2.2.2.1 v.2.2.2.2.2.2.2 (fun c d e f g h i j=>b (c,d,e,f,g,h,i,j)) (a 0) (a 1)⟩
def xB:È:={pin:=10,cs:=[tI,tI,tI,ac,aa,ae,ab,aa,tI,tI,tI,tI,.bool,tI,aa,tI,tI,ac,aa,ae,ab,aa,tI,ai,aa,tI,tI,ac,aa,ae,ab,aa,tI,tI,ac,aa,ae,ab,aa],vs:=[tI],head:=⟨68,aN 2 (.box 10 0::aN 20 [.nils,.con tI,.var tI]),cm⟩,exits:=[(.exit 0,⟨68,aN 2 (.box 10 0::aN 20 [.nils,.con tI]),cm⟩,[])]}
def xA (ρ:Type):Ý ρ:=⟨[6,1],47,0,xB,fun(p:Val (tyL xB.cs)) (v:Val tI) a b=>sY p.1 v (fun c=>a c) (b 0)⟩
def Vg:List (Nat×Ö):=[(60,FP),(62,pJ),(63,D3),(64,sN),(65,mr),(66,ť),(67,j3),(68,ů),(110,qS),(111,ū)]
def zH (ρ:Type):List (Ý ρ):=[xC ρ,xA ρ]
def lO (ρ:Type):Env ρ:={Ù Vg (zH ρ) with hint:=Lm [(34,60),(56,60)]}
def D5:Ö:=⟨[Ï,af],[tI],fun(x:Val bj)=>qB x.1 x.2⟩
def Od:È:={pin:=1,cs:=[af,tI,tI,ai],vs:=[tI],head:=⟨19,.con af::.fn 196 [(0,0)]::aN 5 [.con tI,.var tI],[bw]⟩,exits:=[(.ret,⟨19,[.con af,.fn 196 [(0,0)],.any,.any,.var tI,.any,.any,.con tI],[bw]⟩,[tI]),(.exit 0,⟨19,.con af::.fn 196 [(0,0)]::aN 5 [.con tI],[bw]⟩,[])]}
def xH (ρ:Type):Ý ρ:=⟨[3,2,1,2],155,0,Od,fun(p:Val (.pair af aI)) (v:Val tI) b a=>m9 p.1 p.2.1 p.2.2.2 v (fun c=>b c) (a 0) (a 1)⟩
def Vj:List (Nat×Ö):=[]
def zL (ρ:Type):List (Ý ρ):=[xH ρ]
def wn (ρ:Type):Env ρ:=Ù Vj (zL ρ)
def X4:Ö:=⟨[Ï,tI,af],[tI,tI,.bool],fun(x:Val (.pair Ï au))=>I9 x.1 x.2.1 x.2.2⟩
def Zw:È:={pin:=0,cs:=[af,tI,tI,ai],vs:=[tI,tI,tI],head:=⟨37,.any::.var tI::.any::.box 0 0::aN 5 [.var tI,.any,.any,.any,.con af,.con tI,.var tI],[bw]⟩,exits:=[(.ret,⟨37,aN 3 (.box 0 0::aN 2 (.var tI::.var tI::.var .bool::aN 4 [.con af,.con tI])),[bw]⟩,[tI,tI,.bool]),(.exit 0,⟨37,.any::.var tI::.any::.box 0 0::aN 5 [.var tI,.any,.any,.any,.con af,.con tI],[bw]⟩,[tI,tI])]}
def Hy (ρ:Type):Ý ρ:=⟨[],141,0,Zw,fun(p:Val (.pair af aI)) (v:Val ć) b a=>wm p.1 p.2.1 p.2.2.2 v.1 v.2.1 v.2.2 (fun c d e=>b (c,d,e)) (a 0) (a 1)⟩
def af1:List (Nat×Ö):=[]
def MB (ρ:Type):List (Ý ρ):=[Hy ρ]
def KP (ρ:Type):Env ρ:=Ù af1 (MB ρ)
def Cg:Ö:=⟨[Ï,tI,tI,af],[tI,tI],fun(x:Val (.pair Ï (.pair tI au)))=>ke x.1 x.2.1 x.2.2.1 x.2.2.2⟩
def KW:List (Nat×Ö):=[(138,tN),(139,OS),(140,D5),(141,X4)]
def sd (ρ:Type):List (Ý ρ):=[]
def xK (ρ:Type):Env ρ:=Ù KW (sd ρ)
def oI:Ö:=⟨[ö],[tI],fun(x:Val ö)=>Ĉ x⟩
def Oa:List (Nat×Ö):=[(66,ť),(67,j3),(68,ů),(69,Cg)]
def uz (ρ:Type):List (Ý ρ):=[]
def zG (ρ:Type):Env ρ:=Ù Oa (uz ρ)
def Yb:Ö:=⟨[Ä,Ê],[Ä,tI],fun(x:Val aC)=>ph x.1 x.2⟩
def Iv:È:={pin:=8,cs:=[tI,tI,tI,ac,aa,ae,ab,aa,tI,tI,af,af,tI,tI,tI,tI,tI,tI,tI,tI,ac,aa,ae,ab,aa,tI,tI,tI,tI,ab,tI,tI,ac,aa,ae,aa],vs:=[tI,ab],head:=⟨50,.any::.box 8 0::.box 9 0::.own 10::aN 21 [.own 10,.con tI,.var tI],cn⟩,exits:=[(.exit 0,⟨50,.any::.box 8 0::.box 9 0::.own 10::aN 21 [.own 10,.con tI],cn⟩,[ab])]}
def Iu (ρ:Type):Ý ρ:=⟨[2,2,4,1],223,0,Iv,fun(p:Val (tyL Iv.cs)) (v:Val (.pair tI ab)) a b=>wJ p.1 v.1 v.2 (fun c d=>a (c,d)) (b 0)⟩
def ago:List (Nat×Ö):=[(66,ť)]
def MX (ρ:Type):List (Ý ρ):=[Iu ρ]
def Lb (ρ:Type):Env ρ:=Ù ago (MX ρ)
def acn:Ö:=⟨[Ä,Ê,Â],[Â,tI],fun(x:Val (.pair Ä (.pair Ê Â)))=>vg x.1 x.2.1 x.2.2⟩
def adK:List (Nat×Ö):=[(238,JX),(239,PM),(240,X6),(241,PK)]
def HX (ρ:Type):List (Ý ρ):=[]
def Se (ρ:Type):Env ρ:=Ù adK (HX ρ)
def PN:Ö:=⟨[Ä,Ê],[Â,tI],fun(x:Val aC)=>w9 x.1 x.2⟩
def VK:List (Nat×Ö):=[(114,FQ),(137,X8),(147,Yb),(198,yr),(199,A4),(200,acn)]
def Ag (ρ:Type):List (Ý ρ):=[]
def Iw (ρ:Type):Env ρ:=Ù VK (Ag ρ)
def acm:Ö:=⟨[Ä,tI],[Ê,tI],fun(x:Val aG)=>Jc x.1 x.2⟩
def adJ:List (Nat×Ö):=[(66,ť)]
def HW (ρ:Type):List (Ý ρ):=[]
def Sb (ρ:Type):Env ρ:=Ù adJ (HW ρ)
def ahT:Ö:=⟨[Ä,tI],[Â,tI],fun(x:Val aG)=>Pa x.1 x.2⟩
def agp:List (Nat×Ö):=[(202,acm),(203,X7)]
def MZ (ρ:Type):List (Ý ρ):=[]
def W4 (ρ:Type):Env ρ:=Ù agp (MZ ρ)
def JY:Ö:=⟨[af,af],[af,af,tI],fun(x:Val aJ)=>vk x.1 x.2⟩
def aab:List (Nat×Ö):=[(199,A4),(204,JW)]
def DF (ρ:Type):List (Ý ρ):=[]
def M4 (ρ:Type):Env ρ:=Ù aab (DF ρ)
def L2:Ö:=⟨[af,ay,(.ptr Ê)],[tI],fun(x:Val (.pair af (.pair ay (.ptr Ê))))=>nT x.1 x.2.1 x.2.2⟩
def Re:List (Nat×Ö):=[(50,kB)]
def xx (ρ:Type):List (Ý ρ):=[]
def C3 (ρ:Type):Env ρ:=Ù Re (xx ρ)
def L1:Ö:=⟨[tI,tI,ay,(.ptr tI),aW,(.ptr tI)],[ć],fun(x:Val (.pair tI (.pair tI (.pair ay (.pair (.ptr tI) (.pair aW (.ptr tI)))))))=>nS x.1 x.2.1 x.2.2.1 x.2.2.2.1 x.2.2.2.2.1 x.2.2.2.2.2⟩
def Rc:List (Nat×Ö):=[(51,jZ)]
def xw (ρ:Type):List (Ý ρ):=[]
def C2 (ρ:Type):Env ρ:=Ù Rc (xw ρ)
def JV:Ö:=⟨[ay,Â,Ê],[ų,tI],fun(x:Val (.pair ay aZ))=>vc x.1 x.2.1 x.2.2⟩
def zw:È:={pin:=0,cs:=[tI,af,af,aa,ai,tI,tI,tI,tI,tI,af,af,tI,tI,tI,tI,tI,tI,tI,tI,tI,tI,tI,tI,tI,tI,tI,tI,tI,tI,ac,aa,ae,ab,aa,tI],vs:=[tI,ai],head:=⟨127,aN 4 (.box 0 0::.box 1 0::.box 2 0::.any::.box 3 0::aN 2 (.con tI::.box 4 0::.any::.con af::.con af::aN 2 (.con aa::.any::.box 5 0::aN 65 [.con ai,.con tI,.var tI]))),[bv,bu,bp,bv,bv,bJ,.rowv ć]⟩,exits:=[(.exit 0,⟨127,aN 4 (.box 0 0::.box 1 0::.box 2 0::.any::.box 3 0::aN 2 (.con tI::.box 4 0::.any::.con af::.con af::aN 2 (.con aa::.any::.box 5 0::aN 65 [.con ai,.con tI]))),[bv,bu,bp,bv,bv,bJ,.rowv ć]⟩,[ai])]}
def zu (ρ:Type):Ý ρ:=⟨[],76,0,zw,fun(p:Val (tyL zw.cs)) (v:Val Ï) a b=>lN p.1 p.2.2.2.1 p.2.2.2.2.1 p.2.2.2.2.2.1 v.1 v.2 (fun c d=>a (c,d)) (b 0)⟩
def Zi:List (Nat×Ö):=[(50,kB),(68,ů),(146,PN),(147,Yb),(148,ahT),(149,JY),(150,L2),(151,L1)]
def C1 (ρ:Type):List (Ý ρ):=[zu ρ]
def rQ (ρ:Type):Env ρ:={Ù Zi (C1 ρ) with hint:=Lm [(110,150),(113,150),(120,151),(123,151)]}
def vA:Ö:=⟨[ć],[af],fun(x:Val ć)=>iP x⟩
def N6:List (Nat×Ö):=[]
def ue (ρ:Type):List (Ý ρ):=[]
def zz (ρ:Type):Env ρ:=Ù N6 (ue ρ)
def Wv:Ö:=⟨[ć,tI],[tI],fun(x:Val (.pair ć tI))=>vd x.1 x.2⟩
def Zk:List (Nat×Ö):=[]
def C4 (ρ:Type):List (Ý ρ):=[]
def Mu (ρ:Type):Env ρ:=Ù Zk (C4 ρ)
def sL:Ö:=⟨[ų,tI],[Â],fun(x:Val (.pair ų tI))=>Ř x.1 x.2⟩
def Ku:List (Nat×Ö):=[(154,Wv)]
def rL (ρ:Type):List (Ý ρ):=[]
def xr (ρ:Type):Env ρ:=Ù Ku (rL ρ)
def sM:Ö:=⟨[ų,af],[af],fun(x:Val (.pair ų af))=>kd x.1 x.2⟩
def pV:È:={pin:=0,cs:=[tI,af,tI,tI,tI,tI,tI,tI,tI,tI,tI,tI],vs:=[tI,af],head:=⟨48,aN 2 (.box 0 0::aN 2 (.own 1::.any::.con tI::.var tI::aN 7 [.con af,.con tI,.con tI])),bW⟩,exits:=[(.exit 2,⟨48,aN 2 (.box 0 0::aN 2 (.own 1::.any::.con tI::aN 8 [.con af,.con tI,.con tI])),bW⟩,[af])]}
def pU (ρ:Type):Ý ρ:=⟨[],88,2,pV,fun(p:Val (tyL pV.cs)) (v:Val au) a b=>ik p.1 p.2.2.2.2.1 p.2.2.2.2.2.1 v.1 v.2 (fun c d=>a (c,d)) (b 0)⟩
def Ez:È:={pin:=0,cs:=[af,tI,tI,tI,tI,tI,tI,tI,tI,tI],vs:=[tI,af],head:=⟨48,aN 2 (.box 0 0::aN 2 (.own 1::aN 10 [.con af,.con tI,.var tI])),bW⟩,exits:=[(.exit 0,⟨48,aN 2 (.box 0 0::aN 2 (.own 1::aN 10 [.con af,.con tI])),bW⟩,[af])]}
def pW (ρ:Type):Ý ρ:=⟨[],88,0,Ez,fun(p:Val (.pair af bf)) (v:Val au) a b=>jF p.1 p.2.1 p.2.2.1 p.2.2.2.1 v.1 v.2 (fun c d=>a (c,d)) (b 0)⟩
def Kv:List (Nat×Ö):=[]
def rM (ρ:Type):List (Ý ρ):=[pU ρ,pW ρ]
def kq (ρ:Type):Env ρ:=Ù Kv (rM ρ)
def yq:Ö:=⟨[ų],[tI],fun(x:Val ų)=>lT x⟩
def BU:È:={pin:=0,cs:=[af,tI,tI,tI,tI,tI,tI,tI,tI,tI],vs:=[tI,tI],head:=⟨34,.any::.box 0 0::.any::.var tI::aN 12 [.con af,.con tI,.var tI],[bp]⟩,exits:=[(.exit 0,⟨34,.any::.box 0 0::.any::.var tI::aN 12 [.con af,.con tI],[bp]⟩,[tI])]}
def oz (ρ:Type):Ý ρ:=⟨[],77,0,BU,fun(p:Val (.pair af bf)) (v:Val Â) a b=>let A:=p.2.2.2.2;jg p.1 p.2.1 p.2.2.1 p.2.2.2.1 A.1 A.2.1 A.2.2.1 A.2.2.2.1 A.2.2.2.2.1 A.2.2.2.2.2 v.1 v.2 (fun c d=>a (c,d)) (b 0)⟩
def GM:List (Nat×Ö):=[(81,ŝ),(82,vA),(86,sL),(88,sM)]
def pS (ρ:Type):List (Ý ρ):=[oz ρ]
def mE (ρ:Type):Env ρ:=Ù GM (pS ρ)
def acf:Ö:=⟨[Ä,Â,Ê],[tI,tI],fun(x:Val (.pair Ä aZ))=>Ay x.1 x.2.1 x.2.2⟩
def C6:È:={pin:=4,cs:=[tI,tI,tI,ac,aa,ae,ab,aa,tI,tI,tI,tI,af,af,tI,tI,tI,tI,aa],vs:=[tI,tI,tI,ac,aa,ae,ab,aa],head:=⟨68,aN 2 (.box 4 0::aN 20 [.own 3,.con tI,.var tI]),cp⟩,exits:=[(.ret,⟨68,aN 2 (.box 4 0::.any::.nilp::.var tI::aN 17 [.own 3,.con tI]),cp⟩,[tI,tI,tI,ac,aa,ae,ab,aa]),(.exit 0,⟨68,aN 2 (.box 4 0::aN 20 [.own 3,.con tI]),cp⟩,[tI,tI,ac,aa,ae,ab,aa])]}
def C5 (ρ:Type):Ý ρ:=⟨[1,3],47,0,C6,fun(p:Val (tyL C6.cs)) (v:Val aD) b a=>zB p.1 p.2.2.2.2.2.2.2.2.2.2.2.2.2.2.2.2.2.2 v.1 v.2.1 v.2.2.1 v.2.2.2.1 v.2.2.2.2.1 v.2.2.2.2.2.1 v.2.2.2.2.2.2.1 v.2.2.2.2.2.2.2 (fun c d e f g h i j=>b (c,d,e,f,g,h,i,j)) (a 0) (a 1)⟩
def adm:List (Nat×Ö):=[(66,ť),(67,j3),(68,ů),(76,JV),(77,yq),(110,qS),(111,ū)]
def Hl (ρ:Type):List (Ý ρ):=[C5 ρ]
def EG (ρ:Type):Env ρ:=Ù adm (Hl ρ)
def FO:Ö:=⟨[tI],[tI],fun(x:Val tI)=>lU x⟩
def N8:List (Nat×Ö):=[]
def ur (ρ:Type):List (Ý ρ):=[]
def zD (ρ:Type):Env ρ:=Ù N8 (ur ρ)
def FN:Ö:=⟨[ć,tI],[af],fun(x:Val (.pair ć tI))=>iQ x.1 x.2⟩
def N7:List (Nat×Ö):=[]
def uf (ρ:Type):List (Ý ρ):=[]
def zA (ρ:Type):Env ρ:=Ù N7 (uf ρ)
def PG:Ö:=⟨[Ä,Â,Â,Ê],[.bool,tI],fun(x:Val (.pair Ä (.pair Â aZ)))=>qz x.1 x.2.1 x.2.2.1 x.2.2.2⟩
def Κ:È:={pin:=5,cs:=[tI,tI,tI,ac,aa,ae,ab,aa,tI,tI,tI,tI,tI,tI,af,af,tI,tI,tI,tI,aa],vs:=[tI,tI,tI,ac,aa,ae,ab,aa],head:=⟨68,aN 2 (.box 5 0::aN 20 [.own 4,.con tI,.var tI]),cq⟩,exits:=[(.ret,⟨68,aN 2 (.box 5 0::.any::.nilp::.var tI::aN 17 [.own 4,.con tI]),cq⟩,[tI,tI,tI,ac,aa,ae,ab,aa]),(.exit 0,⟨68,aN 2 (.box 5 0::aN 20 [.own 4,.con tI]),cq⟩,[tI,tI,ac,aa,ae,ab,aa])]}
def om (ρ:Type):Ý ρ:=⟨[1,3],47,0,Κ,fun(p:Val aw) (v:Val aD) b a=>sV p.1 p.2.2.2.2.2.2.2.2.2.2.2.2.2.2.2.2.2.2.2.2 v.1 v.2.1 v.2.2.1 v.2.2.2.1 v.2.2.2.2.1 v.2.2.2.2.2.1 v.2.2.2.2.2.2.1 v.2.2.2.2.2.2.2 (fun c d e f g h i j=>b (c,d,e,f,g,h,i,j)) (a 0) (a 1)⟩
def Ι:È:={pin:=12,cs:=[af,tI,tI,tI,ac,aa,ae,ab,aa,tI,tI,tI,tI,tI,tI,af,af,tI,tI,tI,tI,aa,tI,tI,ac,aa,ae,ab,aa,tI,ai,tI,tI,tI,tI,tI,tI,tI,tI,am,am,am],vs:=[tI],head:=⟨19,.con af::.fn 85 [(8,0),(2,0)]::aN 5 [.con tI,.var tI],cr⟩,exits:=[(.ret,⟨19,[.con af,.fn 85 [(8,0),(2,0)],.any,.any,.var tI,.any,.any,.con tI],cr⟩,[tI]),(.exit 0,⟨19,.con af::.fn 85 [(8,0),(2,0)]::aN 5 [.con tI],cr⟩,[])]}
def ol (ρ:Type):Ý ρ:=⟨[18,4,1,2],155,0,Ι,fun(p:Val ao) (v:Val tI) b a=>let A:=p.2.2.2.2.2.2.2.2.2.2.2;let B:=A.2.2.2.2.2.2.2.2.2.2.2.2.2.2.2.2.2.2.2.2;let C:=B.2.2.2.2;m8 p.1 p.2.1 A.1 A.2.1 B.1 B.2.1 B.2.2.1 B.2.2.2.1 C.1 C.2.1 C.2.2.1 C.2.2.2.1 v (fun c=>b c) (a 0) (a 1)⟩
def C8:List (Nat×Ö):=[(57,D2),(66,ť),(67,j3),(68,ů),(76,JV),(81,ŝ),(82,vA),(83,FO),(84,FN),(86,sL),(88,sM),(110,qS),(111,ū)]
def qf (ρ:Type):List (Ý ρ):=[om ρ,ol ρ]
def sU:List anY:=[⟨[],35,0,4⟩]
def ė (ρ:Type):Env ρ:={Ù C8 (qf ρ) with hint:=Lm [(51,83),(55,83)]}
def wc (ρ:Type):Env ρ:={{ap5 C8 (qf ρ) sU with loops:=adY (ė ρ) sU} with hint:=Lm [(51,83),(55,83)]}
def acj:Ö:=⟨[Ï],[af,tI],fun(x:Val Ï)=>AA x⟩
def Vm:È:={pin:=0,cs:=[tI,tI,ai],vs:=[tI,aS],head:=⟨93,.any::.box 0 0::aN 6 (.own 1::aN 24 [.con tI,.var tI]),[bw,.rowv am]⟩,exits:=[(.exit 0,⟨93,.any::.box 0 0::aN 6 (.own 1::aN 24 [.con tI]),[bw,.rowv am]⟩,[aS])]}
def Dm (ρ:Type):Ý ρ:=⟨[],91,0,Vm,fun(p:Val aI) (v:Val (.pair tI aS)) a b=>MH p.1 p.2.1 p.2.2 v.1 v.2 (fun c d=>a (c,d)) (b 0)⟩
def Df:È:={pin:=3,cs:=[tI,am,ai,tI,tI,ai,aS,tI,tI,tI,tI,ai],vs:=[tI,tI,tI,af],head:=⟨73,.any::.var tI::.con tI::.con am::.fn 161 []::.box 3 0::aN 5 (.own 4::.var tI::aN 7 [.con ai,.con tI,.var tI]),cu⟩,exits:=[(.exit 2,⟨73,.any::.var tI::.con tI::.con am::.fn 161 []::.box 3 0::aN 5 (.own 4::.var tI::aN 7 [.con ai,.con tI]),cu⟩,[tI,tI,af])]}
def De (ρ:Type):Ý ρ:=⟨[22,10],125,2,Df,fun(p:Val (tyL Df.cs)) (v:Val aM) a b=>MD p.1 p.2.1 p.2.2.1 p.2.2.2.1 v.1 v.2.1 v.2.2.1 v.2.2.2 (fun c d e f=>a (c,d,e,f)) (b 0)⟩
def Dh:È:={pin:=3,cs:=[am,tI,ai,aS,tI,tI,tI,tI,ai],vs:=[tI,tI,tI,af],head:=⟨73,.any::.var tI::.var tI::.con am::.fn 161 []::.box 3 0::aN 5 [.own 4,.var tI],cu⟩,exits:=[(.exit 0,⟨73,aN 3 (.con am::.fn 161 []::.box 3 0::aN 5 [.own 4]),cu⟩,[af])]}
def Dg (ρ:Type):Ý ρ:=⟨[22,10],125,0,Dh,fun(p:Val (tyL Dh.cs)) (v:Val aM) a b=>ME p.1 p.2.2.2.2.2.2.2.2 v.1 v.2.1 v.2.2.1 v.2.2.2 (fun c d e f=>a (c,d,e,f)) (b 0)⟩
def Dj:È:={pin:=0,cs:=[tI,ai,tI,tI,ai,aS],vs:=[tI],head:=⟨93,.any::.box 0 0::aN 6 (.own 1::.any::.fn 161 []::.con tI::aN 37 [.con ai,.con tI,.var tI]),[bw,.rowc am]⟩,exits:=[(.exit 2,⟨93,.any::.box 0 0::aN 6 (.own 1::.any::.fn 161 []::.con tI::aN 37 [.con ai,.con tI]),[bw,.rowc am]⟩,[]),(.ret,⟨93,.any::.box 0 0::.own 2::.var tI::aN 4 (.own 1::.any::.fn 161 []::.con tI::aN 37 [.con ai,.con tI]),[bw,.rowc am,.rowv tI]⟩,[tI,af]),(.exit 4,⟨93,.any::.box 0 0::aN 6 (.own 1::.any::.fn 161 []::.con tI::aN 37 [.con ai,.con tI]),[bw,.rowc am]⟩,[])]}
def Di (ρ:Type):Ý ρ:=⟨[],91,4,Dj,fun(p:Val (tyL Dj.cs)) (v:Val tI) b a=>MF p.1 p.2.1 p.2.2.1 p.2.2.2.1 p.2.2.2.2.1 p.2.2.2.2.2 v (fun c=>b c) (a 0) (a 1) (a 2)⟩
def Dl:È:={pin:=0,cs:=[tI,ai,aS],vs:=[tI],head:=⟨93,.any::.box 0 0::aN 6 [.own 1,.any,.fn 161 [],.var tI],[bw,.rowc am]⟩,exits:=[(.exit 2,⟨93,.any::.box 0 0::aN 6 [.own 1,.any,.fn 161 []],[bw,.rowc am]⟩,[]),(.ret,⟨93,.any::.box 0 0::.own 2::.var tI::aN 4 [.own 1,.any,.fn 161 []],[bw,.rowc am,.rowv tI]⟩,[tI,af])]}
def Dk (ρ:Type):Ý ρ:=⟨[],91,2,Dl,fun(p:Val (tyL Dl.cs)) (v:Val tI) b a=>MG p.1 p.2.1 p.2.2 v (fun c=>b c) (a 0) (a 1)⟩
def adu:List (Nat×Ö):=[(117,qR),(122,PI),(138,tN)]
def HI (ρ:Type):List (Ý ρ):=[Dm ρ,De ρ,Dg ρ,Di ρ,Dk ρ]
def kK (ρ:Type):Env ρ:=Ù adu (HI ρ)
def ach:Ö:=⟨[Ä],[ö,tI],fun(x:Val Ä)=>I8 x⟩
def adp:List (Nat×Ö):=[(62,pJ),(63,D3),(68,ů),(91,acj)]
def Hw (ρ:Type):List (Ý ρ):=[]
def Rp (ρ:Type):Env ρ:=Ù adp (Hw ρ)
def LZ:Ö:=⟨[],[Ä],fun(_:Unit)=>As⟩
def PZ:List (Nat×Ö):=[]
def xo (ρ:Type):List (Ý ρ):=[]
def Ci (ρ:Type):Env ρ:=Ù PZ (xo ρ)
def ahO:Ö:=⟨[af,tI],[.bool],fun(x:Val aH)=>O8 x.1 x.2⟩
def afV:List (Nat×Ö):=[(149,JY)]
def Mr (ρ:Type):List (Ý ρ):=[]
def WP (ρ:Type):Env ρ:=Ù afV (Mr ρ)
def ace:Ö:=⟨[tI],[.bool],fun(x:Val tI)=>I6 x⟩
def ade:List (Nat×Ö):=[]
def Hg (ρ:Type):List (Ý ρ):=[]
def Rf (ρ:Type):Env ρ:=Ù ade (Hg ρ)
def acd:Ö:=⟨[tI,am],[aa],fun(x:Val aR)=>I5 x.1 x.2⟩
def U7:È:={pin:=0,cs:=[tI,af,tI],vs:=[tI,aa],head:=⟨23,.con tI::aN 4 [.own 0,.any,.any,.any,.con af,.con tI,.var tI],[.rowv Â]⟩,exits:=[(.exit 0,⟨23,.con tI::aN 4 [.own 0,.any,.any,.any,.con af,.con tI],[.rowv Â]⟩,[aa])]}
def C0 (ρ:Type):Ý ρ:=⟨[],108,0,U7,fun(p:Val (.pair tI aH)) (v:Val aF) a b=>rP p.1 p.2.1 p.2.2 v.1 v.2 (fun c d=>a (c,d)) (b 0)⟩
def adc:List (Nat×Ö):=[(81,ŝ)]
def Hf (ρ:Type):List (Ý ρ):=[C0 ρ]
def ED (ρ:Type):Env ρ:=Ù adc (Hf ρ)
def ahQ:Ö:=⟨[Ä,tI,af],[Â,tI],fun(x:Val (.pair Ä au))=>O9 x.1 x.2.1 x.2.2⟩
def Ht:È:={pin:=3,cs:=[aa,tI,tI,tI,ac,aa,ae,ab,aa,tI,tI,am],vs:=[tI,tI,tI,ac,aa,ae,ab,aa],head:=⟨68,aN 2 (.box 3 0::aN 20 [.con aa,.con tI,.var tI]),[bo,bv,.rowf af 0,bG]⟩,exits:=[(.ret,⟨68,aN 2 (.box 3 0::.any::.nilp::.var tI::aN 17 [.con aa,.con tI]),[bo,bv,.rowf af 0,bG]⟩,[tI,tI,tI,ac,aa,ae,ab,aa]),(.exit 0,⟨68,aN 2 (.box 3 0::aN 20 [.con aa,.con tI]),[bo,bv,.rowf af 0,bG]⟩,[tI,tI,ac,aa,ae,ab,aa])]}
def Hs (ρ:Type):Ý ρ:=⟨[7,2],47,0,Ht,fun(p:Val (tyL Ht.cs)) (v:Val aD) b a=>wg p.1 p.2.1 v.1 v.2.1 v.2.2.1 v.2.2.2.1 v.2.2.2.2.1 v.2.2.2.2.2.1 v.2.2.2.2.2.2.1 v.2.2.2.2.2.2.2 (fun c d e f g h i j=>b (c,d,e,f,g,h,i,j)) (a 0) (a 1)⟩
def Hr:È:={pin:=0,cs:=[ay,aa,tI,tI,tI],vs:=[tI,tI,tI],head:=⟨87,aN 6 (.box 0 0::aN 3 (.con ay::aN 2 (.box 1 0::aN 51 [.con aa,.con tI,.var tI]))),[bv,.cells [.var tI,.var tI]]⟩,exits:=[(.exit 0,⟨87,aN 6 (.box 0 0::aN 3 (.con ay::aN 2 (.box 1 0::aN 51 [.con aa,.con tI]))),[bv,.cells [.var tI,.var tI]]⟩,[tI,tI])]}
def Hq (ρ:Type):Ý ρ:=⟨[],45,0,Hr,fun(p:Val (tyL Hr.cs)) (v:Val ć) a b=>we p.1 p.2.1 p.2.2.1 v.1 v.2.1 v.2.2 (fun c d e=>a (c,d,e)) (b 0)⟩
def af0:List (Nat×Ö):=[(48,jz),(66,ť),(67,j3),(68,ů),(106,ahO),(107,ace),(108,acd),(110,qS),(111,ū)]
def MA (ρ:Type):List (Ý ρ):=[Hs ρ,Hq ρ]
def Ba (ρ:Type):Env ρ:=Ù af0 (MA ρ)
def Cf:Ö:=⟨[Ï,af],[tI],fun(x:Val bj)=>nh x.1 x.2⟩
def KV:List (Nat×Ö):=[(138,tN),(140,D5),(141,X4)]
def sc (ρ:Type):List (Ý ρ):=[]
def xJ (ρ:Type):Env ρ:=Ù KV (sc ρ)
def Ce:Ö:=⟨[ö],[tI],fun(x:Val ö)=>ng x⟩
def KJ:List (Nat×Ö):=[(66,ť),(68,ů),(92,Cf)]
def rX (ρ:Type):List (Ý ρ):=[]
def xz (ρ:Type):Env ρ:=Ù KJ (rX ρ)
def iV:Ö:=⟨[ac,Ð],[tI],fun(x:Val (.pair ac Ð))=>Ť x.1 x.2⟩
def la:È:={pin:=0,cs:=[ac,tI,tI,tI,tI,tI,tI,tI,tI,tI],vs:=[tI],head:=⟨19,[.con ac,.any,.any,.box 0 0,.any,.any,.any,.con tI,.var tI],[bp]⟩,exits:=[(.ret,⟨19,[.con ac,.any,.any,.box 0 0,.var tI,.any,.any,.con tI],[bp]⟩,[tI]),(.exit 0,⟨19,[.con ac,.any,.any,.box 0 0,.any,.any,.any,.con tI],[bp]⟩,[])]}
def Γ (ρ:Type):Ý ρ:=⟨[],248,0,la,fun(p:Val (.pair ac bf)) (v:Val tI) b a=>let A:=p.2.2.2.2;ą p.1 p.2.1 p.2.2.1 p.2.2.2.1 A.1 A.2.1 A.2.2.1 A.2.2.2.1 A.2.2.2.2.1 A.2.2.2.2.2 v (fun c=>b c) (a 0) (a 1)⟩
def md:List (Nat×Ö):=[]
def Ρ (ρ:Type):List (Ý ρ):=[Γ ρ]
def Ŕ (ρ:Type):Env ρ:=Ù md (Ρ ρ)
def gW:Ö:=⟨[ac,Ð],[.bool],fun(x:Val (.pair ac Ð))=>ġ x.1 x.2⟩
def kG:List (Nat×Ö):=[(248,iV)]
def Ŭ (ρ:Type):List (Ý ρ):=[]
def Ε (ρ:Type):Env ρ:=Ù kG (Ŭ ρ)
def jY:Ö:=⟨[aa,Â],[tI],fun(x:Val ba)=>ο x.1 x.2⟩
def nq:È:={pin:=0,cs:=[aa,tI,tI,tI],vs:=[tI],head:=⟨19,[.con aa,.any,.any,.box 0 0,.any,.any,.any,.con tI,.var tI],[bv]⟩,exits:=[(.ret,⟨19,[.con aa,.any,.any,.box 0 0,.var tI,.any,.any,.con tI],[bv]⟩,[tI]),(.exit 0,⟨19,[.con aa,.any,.any,.box 0 0,.any,.any,.any,.con tI],[bv]⟩,[])]}
def ix (ρ:Type):Ý ρ:=⟨[],250,0,nq,fun(p:Val (.pair aa ć)) (v:Val tI) b a=>Ě p.1 p.2.1 p.2.2.1 p.2.2.2 v (fun c=>b c) (a 0) (a 1)⟩
def oL:List (Nat×Ö):=[]
def iW (ρ:Type):List (Ý ρ):=[ix ρ]
def ŷ (ρ:Type):Env ρ:=Ù oL (iW ρ)
def jd:Ö:=⟨[aa,Â],[.bool],fun(x:Val ba)=>ĝ x.1 x.2⟩
def mB:List (Nat×Ö):=[(250,jY)]
def gZ (ρ:Type):List (Ý ρ):=[]
def iy (ρ:Type):Env ρ:=Ù mB (gZ ρ)
def jl:Ö:=⟨[ae,ő],[tI],fun(x:Val (.pair ae ő))=>Ž x.1 x.2⟩
def mc:È:={pin:=0,cs:=[ae,tI,tI,tI,tI,tI],vs:=[tI],head:=⟨19,[.con ae,.any,.any,.box 0 0,.any,.any,.any,.con tI,.var tI],[bq]⟩,exits:=[(.ret,⟨19,[.con ae,.any,.any,.box 0 0,.var tI,.any,.any,.con tI],[bq]⟩,[tI]),(.exit 0,⟨19,[.con ae,.any,.any,.box 0 0,.any,.any,.any,.con tI],[bq]⟩,[])]}
def gY (ρ:Type):Ý ρ:=⟨[],252,0,mc,fun(p:Val (.pair ae bm)) (v:Val tI) b a=>Đ p.1 p.2.1 p.2.2.1 p.2.2.2.1 p.2.2.2.2.1 p.2.2.2.2.2 v (fun c=>b c) (a 0) (a 1)⟩
def nt:List (Nat×Ö):=[]
def ij (ρ:Type):List (Ý ρ):=[gY ρ]
def Ţ (ρ:Type):Env ρ:=Ù nt (ij ρ)
def iw:Ö:=⟨[ae,ő],[.bool],fun(x:Val (.pair ae ő))=>đ x.1 x.2⟩
def lu:List (Nat×Ö):=[(252,jl)]
def Δ (ρ:Type):List (Ý ρ):=[]
def g8 (ρ:Type):Env ρ:=Ù lu (Δ ρ)
def ahP:Ö:=⟨[Ä,Ä],[.bool],fun(x:Val aU)=>I4 x.1 x.2⟩
def He:È:={pin:=0,cs:=[ac,tI,tI,tI,ac,aa,ae,ab,aa,tI,tI,ac,aa,ae,ab,aa],vs:=[tI,ak],head:=⟨87,aN 2 (.box 0 0::.box 1 0::.any::.box 2 0::aN 10 [.con ac,.con tI,.var tI]),[bo,bo,bL,.mapv tI .bool]⟩,exits:=[(.exit 0,⟨87,aN 2 (.box 0 0::.box 1 0::.any::.box 2 0::aN 10 [.con ac,.con tI]),[bo,bo,bL,.mapv tI .bool]⟩,[ak])]}
def Hc (ρ:Type):Ý ρ:=⟨[],109,0,He,fun(p:Val (tyL He.cs)) (v:Val (.pair tI ak)) a b=>vX p.1 p.2.1 v.1 v.2 (fun c d=>a (c,d)) (b 0)⟩
def G7:È:={pin:=6,cs:=[af,af,tI,tI,tI,ac,aa,ae,ab,aa,tI,tI,ac,aa,ae,ab,aa,ak,tI,tI,af,af,tI,tI,tI,tI,tI,tI,af,af,tI,tI,tI,tI],vs:=[tI],head:=⟨26,.con af::.con af::aN 10 [.con tI,.var tI],cw⟩,exits:=[(.ret,⟨26,.con af::.con af::aN 2 (.var .bool::aN 7 [.con tI]),cw⟩,[.bool]),(.exit 0,⟨26,.con af::.con af::aN 10 [.con tI],cw⟩,[])]}
def G6 (ρ:Type):Ý ρ:=⟨[14,3,1,2,4,5,1,38],176,0,G7,fun(p:Val (tyL G7.cs)) (v:Val tI) b a=>mI p.1 p.2.1 p.2.2.1 v (fun c=>b c) (a 0) (a 1)⟩
def G5:È:={pin:=6,cs:=[af,af,tI,tI,tI,ac,aa,ae,ab,aa,tI,tI,ac,aa,ae,ab,aa,ak,tI,tI,af,af,tI,tI,tI,tI,tI,tI,af,af,tI,tI,tI,tI],vs:=[tI],head:=⟨26,.con af::.con af::aN 10 [.con tI,.var tI],cw⟩,exits:=[(.ret,⟨26,.con af::.con af::aN 2 (.var .bool::aN 7 [.con tI]),cw⟩,[.bool]),(.exit 0,⟨26,.con af::.con af::aN 10 [.con tI],cw⟩,[])]}
def G4 (ρ:Type):Ý ρ:=⟨[14,3,1,2,4,5,1,45],176,0,G5,fun(p:Val (tyL G5.cs)) (v:Val tI) b a=>vW p.1 p.2.1 p.2.2.1 v (fun c=>b c) (a 0) (a 1)⟩
def G9:È:={pin:=5,cs:=[ab,tI,tI,tI,ac,aa,ae,ab,aa,tI,tI,ac,aa,ae,ab,aa,ak,tI,tI,af,af,tI,tI,tI,tI],vs:=[tI],head:=⟨19,.con ab::.fn 175 [(4,0)]::aN 5 [.con tI,.var tI],cz⟩,exits:=[(.ret,⟨19,[.con ab,.fn 175 [(4,0)],.any,.any,.var tI,.any,.any,.con tI],cz⟩,[tI]),(.exit 0,⟨19,.con ab::.fn 175 [(4,0)]::aN 5 [.con tI],cz⟩,[])]}
def G8 (ρ:Type):Ý ρ:=⟨[14,3,1,2],213,0,G9,fun(p:Val (tyL G9.cs)) (v:Val tI) b a=>let A:=p.2.2.2.2.2.2.2.2.2.2.2.2.2.2.2.2.2;let B:=A.2.2.2.2;pZ p.1 p.2.1 A.1 A.2.1 A.2.2.1 A.2.2.2.1 B.1 B.2.1 B.2.2.1 B.2.2.2 v (fun c=>b c) (a 0) (a 1)⟩
def Hb:È:={pin:=0,cs:=[ab,tI,tI,tI,ac,aa,ae,ab,aa,tI,tI,ac,aa,ae,ab,aa,ak],vs:=[tI],head:=⟨87,aN 2 (.box 0 0::.box 1 0::aN 4 (.fn 172 []::.fn 173 [(2,0)]::.fn 174 [(2,0)]::aN 18 [.con ab,.con tI,.var tI])),cA⟩,exits:=[(.ret,⟨87,aN 2 (.box 0 0::.box 1 0::.var .bool::aN 3 (.fn 172 []::.fn 173 [(2,0)]::.fn 174 [(2,0)]::aN 18 [.con ab,.con tI])),cA⟩,[.bool]),(.exit 2,⟨87,aN 2 (.box 0 0::.box 1 0::aN 4 (.fn 172 []::.fn 173 [(2,0)]::.fn 174 [(2,0)]::aN 18 [.con ab,.con tI])),cA⟩,[])]}
def Ha (ρ:Type):Ý ρ:=⟨[],109,2,Hb,fun(p:Val (tyL Hb.cs)) (v:Val tI) b a=>qd p.1 p.2.1 p.2.2.2.2.2.2.2.2.2.2.2.2.2.2.1 v (fun c=>b c) (a 0) (a 1)⟩
def G3:È:={pin:=6,cs:=[ac,tI,tI,tI,ac,aa,ae,ab,aa,tI,tI,ac,aa,ae,ab,aa,ak,ac],vs:=[tI],head:=⟨19,.con ac::.fn 215 [(5,0),(4,0)]::aN 5 [.con tI,.var tI],cB⟩,exits:=[(.ret,⟨19,[.con ac,.fn 215 [(5,0),(4,0)],.any,.any,.var tI,.any,.any,.con tI],cB⟩,[tI]),(.exit 0,⟨19,.con ac::.fn 215 [(5,0),(4,0)]::aN 5 [.con tI],cB⟩,[])]}
def G2 (ρ:Type):Ý ρ:=⟨[17,11,1,2,1,2],247,0,G3,fun(p:Val (tyL G3.cs)) (v:Val tI) b a=>pY p.1 p.2.1 p.2.2.2.2.2.2.2.2.2.2.2.2.2.2.2.2.2 v (fun c=>b c) (a 0) (a 1)⟩
def G1:È:={pin:=8,cs:=[aa,tI,tI,tI,ac,aa,ae,ab,aa,tI,tI,ac,aa,ae,ab,aa,ak,ac,aa],vs:=[tI],head:=⟨19,.con aa::.fn 218 [(7,0),(6,0)]::aN 5 [.con tI,.var tI],cD⟩,exits:=[(.ret,⟨19,[.con aa,.fn 218 [(7,0),(6,0)],.any,.any,.var tI,.any,.any,.con tI],cD⟩,[tI]),(.exit 0,⟨19,.con aa::.fn 218 [(7,0),(6,0)]::aN 5 [.con tI],cD⟩,[])]}
def G0 (ρ:Type):Ý ρ:=⟨[17,19,1,2,1,2],249,0,G1,fun(p:Val (tyL G1.cs)) (v:Val tI) b a=>kJ p.1 p.2.1 p.2.2.2.2.2.2.2.2.2.2.2.2.2.2.2.2.1 p.2.2.2.2.2.2.2.2.2.2.2.2.2.2.2.2.2.2 v (fun c=>b c) (a 0) (a 1)⟩
def GZ:È:={pin:=10,cs:=[aa,tI,tI,tI,ac,aa,ae,ab,aa,tI,tI,ac,aa,ae,ab,aa,ak,ac,aa,aa],vs:=[tI],head:=⟨19,.con aa::.fn 218 [(9,0),(8,0)]::aN 5 [.con tI,.var tI],cE⟩,exits:=[(.ret,⟨19,[.con aa,.fn 218 [(9,0),(8,0)],.any,.any,.var tI,.any,.any,.con tI],cE⟩,[tI]),(.exit 0,⟨19,.con aa::.fn 218 [(9,0),(8,0)]::aN 5 [.con tI],cE⟩,[])]}
def GY (ρ:Type):Ý ρ:=⟨[17,27,1,2,1,2],249,0,GZ,fun(p:Val (tyL GZ.cs)) (v:Val tI) b a=>mH p.1 p.2.1 p.2.2.2.2.2.2.2.2.2.2.2.2.2.2.2.2.1 p.2.2.2.2.2.2.2.2.2.2.2.2.2.2.2.2.2.2.2 v (fun c=>b c) (a 0) (a 1)⟩
def GX:È:={pin:=12,cs:=[ae,tI,tI,tI,ac,aa,ae,ab,aa,tI,tI,ac,aa,ae,ab,aa,ak,ac,aa,aa,ae],vs:=[tI],head:=⟨19,.con ae::.fn 221 [(11,0),(10,0)]::aN 5 [.con tI,.var tI],cF⟩,exits:=[(.ret,⟨19,[.con ae,.fn 221 [(11,0),(10,0)],.any,.any,.var tI,.any,.any,.con tI],cF⟩,[tI]),(.exit 0,⟨19,.con ae::.fn 221 [(11,0),(10,0)]::aN 5 [.con tI],cF⟩,[])]}
def GW (ρ:Type):Ý ρ:=⟨[17,35,1,2,1,2],251,0,GX,fun(p:Val (tyL GX.cs)) (v:Val tI) b a=>Ņ p.1 p.2.1 p.2.2.2.2.2.2.2.2.2.2.2.2.2.2.2.2.1 p.2.2.2.2.2.2.2.2.2.2.2.2.2.2.2.2.2.2.2.2 v (fun c=>b c) (a 0) (a 1)⟩
def GV:È:={pin:=14,cs:=[ae,tI,tI,tI,ac,aa,ae,ab,aa,tI,tI,ac,aa,ae,ab,aa,ak,ac,aa,aa,ae,ae],vs:=[tI],head:=⟨19,.con ae::.fn 221 [(13,0),(12,0)]::aN 5 [.con tI,.var tI],cG⟩,exits:=[(.ret,⟨19,[.con ae,.fn 221 [(13,0),(12,0)],.any,.any,.var tI,.any,.any,.con tI],cG⟩,[tI]),(.exit 0,⟨19,.con ae::.fn 221 [(13,0),(12,0)]::aN 5 [.con tI],cG⟩,[])]}
def GU (ρ:Type):Ý ρ:=⟨[17,43,1,2,1,2],251,0,GV,fun(p:Val (tyL GV.cs)) (v:Val tI) b a=>Ę p.1 p.2.1 p.2.2.2.2.2.2.2.2.2.2.2.2.2.2.2.2.1 p.2.2.2.2.2.2.2.2.2.2.2.2.2.2.2.2.2.2.2.2.2 v (fun c=>b c) (a 0) (a 1)⟩
def afW:List (Nat×Ö):=[(216,gW),(219,jd),(222,iw)]
def Ms (ρ:Type):List (Ý ρ):=[Hc ρ,G6 ρ,G4 ρ,G8 ρ,Ha ρ,G2 ρ,G0 ρ,GY ρ,GW ρ,GU ρ]
def Θ (ρ:Type):Env ρ:=Ù afW (Ms ρ)
def Ww:Ö:=⟨[Ä,ö],[.bool,tI],fun(x:Val (.pair Ä ö))=>Bx x.1 x.2⟩
def Zs:List (Nat×Ö):=[(25,oI),(39,Ce),(66,ť),(109,ahP)]
def C7 (ρ:Type):List (Ý ρ):=[]
def Mz (ρ:Type):Env ρ:=Ù Zs (C7 ρ)
def PC:Ö:=⟨[],[.bool],fun(_:Unit)=>ż⟩
def T8:List (Nat×Ö):=[(12,L3),(14,PH),(21,acg),(24,D4),(25,oI),(31,acf),(35,PG),(38,ach),(44,LZ),(45,ahQ),(46,Ww)]
def yy (ρ:Type):List (Ý ρ):=[]
def F7 (ρ:Type):Env ρ:=Ù T8 (yy ρ)
def nk:Ö:=⟨[Â,tI,tI],[.bool],fun(x:Val ç)=>jv x.1 x.2.1 x.2.2⟩
def Qh:List (Nat×Ö):=[]
def xq (ρ:Type):List (Ý ρ):=[]
def Cw (ρ:Type):Env ρ:=Ù Qh (xq ρ)
def JU:Ö:=⟨[tI,tI,tI],[.bool],fun(x:Val ć)=>lS x.1 x.2.1 x.2.2⟩
def ajn:List (Nat×Ö):=[]
def QM (ρ:Type):List (Ý ρ):=[]
def acV (ρ:Type):Env ρ:=Ù ajn (QM ρ)
def FM:Ö:=⟨[tI],[.bool],fun(x:Val tI)=>wW x⟩
def afL:List (Nat×Ö):=[(164,JU)]
def Mg (ρ:Type):List (Ý ρ):=[]
def WJ (ρ:Type):Env ρ:=Ù afL (Mg ρ)
def X2:Ö:=⟨[tI,tI],[tI],fun(x:Val Â)=>Bv x.1 x.2⟩
def Y9:È:={pin:=0,cs:=[],vs:=[tI,tI],head:=⟨14,[.var tI,.var tI],[]⟩,exits:=[(.exit 0,⟨14,[.var tI],[]⟩,[tI])]}
def GJ (ρ:Type):Ý ρ:=⟨[],209,0,Y9,fun(p:Unit) (v:Val Â) a b=>vU v.1 v.2 (fun c d=>a (c,d)) (b 0)⟩
def afS:List (Nat×Ö):=[]
def Mn (ρ:Type):List (Ý ρ):=[GJ ρ]
def Ks (ρ:Type):Env ρ:=Ù afS (Mn ρ)
def X3:Ö:=⟨[tI],[tI],fun(x:Val tI)=>I3 x⟩
def afU:List (Nat×Ö):=[]
def Mq (ρ:Type):List (Ý ρ):=[]
def WO (ρ:Type):Env ρ:=Ù afU (Mq ρ)
def Ws:Ö:=⟨[Â],[.bool],fun(x:Val Â)=>Bt x⟩
def Y4:List (Nat×Ö):=[(209,X2),(210,X3)]
def CX (ρ:Type):List (Ý ρ):=[]
def Mi (ρ:Type):Env ρ:=Ù Y4 (CX ρ)
def Wp:Ö:=⟨[Ð],[.bool],fun(x:Val Ð)=>Br x⟩
def YD:List (Nat×Ö):=[(94,nk),(100,FM),(163,Ws),(164,JU)]
def CA (ρ:Type):List (Ý ρ):=[]
def Ma (ρ:Type):Env ρ:=Ù YD (CA ρ)
def yp:Ö:=⟨[Ä,tI],[tI],fun(x:Val aG)=>qv x.1 x.2⟩
def UK:È:={pin:=0,cs:=[tI,tI,tI,ac,aa,ae,ab,aa],vs:=[tI],head:=⟨22,[.any,.con tI,.box 0 0,.any,.any,.var tI],[bo]⟩,exits:=[(.ret,⟨22,[.any,.con tI,.box 0 0,.any,.var tI],[bo]⟩,[tI]),(.exit 0,⟨22,[.any,.con tI,.box 0 0],[bo]⟩,[])]}
def CT (ρ:Type):Ý ρ:=⟨[],166,0,UK,fun(p:Val aD) (v:Val tI) b a=>rJ p.1 p.2.2.2.1 v (fun c=>b c) (a 0) (a 1)⟩
def acX:List (Nat×Ö):=[]
def GC (ρ:Type):List (Ý ρ):=[CT ρ]
def Eu (ρ:Type):Env ρ:=Ù acX (GC ρ)
def tK:Ö:=⟨[Ä,tI,tI],[tI],fun(x:Val aE)=>mQ x.1 x.2.1 x.2.2⟩
def YJ:List (Nat×Ö):=[(166,yp)]
def CE (ρ:Type):List (Ý ρ):=[]
def Mc (ρ:Type):Env ρ:=Ù YJ (CE ρ)
def ab1:Ö:=⟨[Ä],[tI],fun(x:Val Ä)=>IX x⟩
def Um:È:={pin:=0,cs:=[tI,tI,ac,aa,ae,ab,aa],vs:=[tI],head:=⟨37,[.any,.box 0 0,.any,.var tI],[bo]⟩,exits:=[(.ret,⟨37,[.any,.box 0 0,.var tI],[bo]⟩,[tI]),(.exit 0,⟨37,[.any,.box 0 0],[bo]⟩,[])]}
def Cv (ρ:Type):Ý ρ:=⟨[],96,0,Um,fun(p:Val ah) (v:Val tI) b a=>let A:=p.2.2.2.2;rj p.1 p.2.1 p.2.2.1 p.2.2.2.1 A.1 A.2.1 A.2.2 v (fun c=>b c) (a 0) (a 1)⟩
def acJ:List (Nat×Ö):=[(100,FM),(101,tK)]
def Gf (ρ:Type):List (Ý ρ):=[Cv ρ]
def Ef (ρ:Type):Env ρ:=Ù acJ (Gf ρ)
def Wn:Ö:=⟨[Ä],[tI],fun(x:Val Ä)=>Bq x⟩
def Qj:È:={pin:=0,cs:=[tI,tI,tI,ac,aa,ae,ab,aa,tI,tI,tI,tI],vs:=[tI],head:=⟨111,[.any,.box 0 0,.any,.con tI,.box 1 0,.any,.var tI],bX⟩,exits:=[(.ret,⟨111,[.any,.box 0 0,.var tI,.con tI,.box 1 0],bX⟩,[tI]),(.exit 2,⟨111,[.any,.box 0 0,.any,.con tI,.box 1 0],bX⟩,[])]}
def yK (ρ:Type):Ý ρ:=⟨[],97,2,Qj,fun(p:Val (.pair tI ax)) (v:Val tI) b a=>let A:=p.2.2.2.2.2;oO p.1 A.1 A.2.2.2.1 A.2.2.2.2.1 A.2.2.2.2.2.1 v (fun c=>b c) (a 0) (a 1)⟩
def Qi:È:={pin:=0,cs:=[tI,tI,tI,ac,aa,ae,ab,aa,tI,tI,tI,tI],vs:=[tI],head:=⟨111,[.any,.box 0 0,.any,.con tI,.box 1 0,.any,.any,.var tI],bX⟩,exits:=[(.ret,⟨111,[.any,.box 0 0,.var tI,.con tI,.box 1 0],bX⟩,[tI]),(.exit 4,⟨111,[.any,.box 0 0,.any,.con tI,.box 1 0],bX⟩,[])]}
def yJ (ρ:Type):Ý ρ:=⟨[],97,4,Qi,fun(p:Val (.pair tI ax)) (v:Val tI) b a=>let A:=p.2.2.2.2;let B:=A.2.2.2.2;lF A.1 B.1 B.2.1 B.2.2.1 v (fun c=>b c) (a 0) (a 1)⟩
def Qk:È:={pin:=0,cs:=[tI,tI,ac,aa,ae,ab,aa],vs:=[tI],head:=⟨111,[.any,.box 0 0,.any,.var tI],[bo]⟩,exits:=[(.ret,⟨111,[.any,.box 0 0,.var tI],[bo]⟩,[tI]),(.exit 0,⟨111,[.any,.box 0 0],[bo]⟩,[])]}
def yL (ρ:Type):Ý ρ:=⟨[],97,0,Qk,fun(p:Val ah) (v:Val tI) b a=>let A:=p.2.2.2.2;oP p.1 p.2.1 p.2.2.1 p.2.2.2.1 A.1 A.2.1 A.2.2 v (fun c=>b c) (a 0) (a 1)⟩
def YB:List (Nat×Ö):=[(94,nk),(101,tK),(164,JU)]
def Cy (ρ:Type):List (Ý ρ):=[yK ρ,yJ ρ,yL ρ]
def nw (ρ:Type):Env ρ:=Ù YB (Cy ρ)
def ab6:Ö:=⟨[af],[.bool],fun(x:Val af)=>Aw x⟩
def UD:È:={pin:=0,cs:=[af],vs:=[tI],head:=⟨35,[.con af,.any,.any,.var tI],[]⟩,exits:=[(.ret,⟨35,[.con af,.any,.var .bool],[]⟩,[.bool]),(.exit 0,⟨35,[.con af],[]⟩,[])]}
def CL (ρ:Type):Ý ρ:=⟨[],165,0,UD,fun(p:Val af) (v:Val tI) b a=>rE p v (fun c=>b c) (a 0) (a 1)⟩
def acQ:List (Nat×Ö):=[(164,JU)]
def Gv (ρ:Type):List (Ý ρ):=[CL ρ]
def Eo (ρ:Type):Env ρ:=Ù acQ (Gv ρ)
def Wm:Ö:=⟨[Ê],[.bool],fun(x:Val Ê)=>Bp x⟩
def Yz:List (Nat×Ö):=[(94,nk),(100,FM),(164,JU),(165,ab6)]
def Cx (ρ:Type):List (Ý ρ):=[]
def L7 (ρ:Type):Env ρ:=Ù Yz (Cx ρ)
def PD:Ö:=⟨[Ä,tI,tI],[ő,.bool],fun(x:Val aE)=>Ax x.1 x.2.1 x.2.2⟩
def UF:È:={pin:=0,cs:=[tI,tI,tI,tI,ac,aa,ae,ab,aa],vs:=[tI,tI,tI,tI,tI],head:=⟨42,[.any,.con tI,.con tI,.box 0 0,.any,.any,.box 1 0,.any,.var tI],[bo,bS]⟩,exits:=[(.ret,⟨42,[.any,.con tI,.con tI,.box 0 0,.any,.any,.box 1 0,.var .bool],[bo,bS]⟩,[.bool,tI,tI,tI,tI]),(.exit 0,⟨42,[.any,.con tI,.con tI,.box 0 0,.any,.any,.box 1 0],[bo,bS]⟩,[tI,tI,tI,tI])]}
def CP (ρ:Type):Ý ρ:=⟨[],167,0,UF,fun(p:Val (.pair tI aD)) (v:Val bm) b a=>rH p.1 p.2.1 p.2.2.2.2.2.2.1 v.1 v.2.1 v.2.2.1 v.2.2.2.1 v.2.2.2.2 (fun c d e f g=>b (c,d,e,f,g)) (a 0) (a 1)⟩
def acT:List (Nat×Ö):=[]
def Gy (ρ:Type):List (Ý ρ):=[CP ρ]
def Er (ρ:Type):Env ρ:=Ù acT (Gy ρ)
def ahI:Ö:=⟨[af,tI],[.bool],fun(x:Val aH)=>O6 x.1 x.2⟩
def YT:È:={pin:=0,cs:=[af,tI],vs:=[tI],head:=⟨18,[.con af,.con tI,.any,.any,.any,.var tI],[]⟩,exits:=[(.ret,⟨18,[.con af,.con tI,.any,.any,.var .bool],[]⟩,[.bool]),(.exit 0,⟨18,[.con af,.con tI],[]⟩,[])]}
def GA (ρ:Type):Ý ρ:=⟨[],211,0,YT,fun(p:Val aH) (v:Val tI) b a=>vR p.1 p.2 v (fun c=>b c) (a 0) (a 1)⟩
def afK:List (Nat×Ö):=[]
def Md (ρ:Type):List (Ý ρ):=[GA ρ]
def Kj (ρ:Type):Env ρ:=Ù afK (Md ρ)
def PE:Ö:=⟨[af,af],[af],fun(x:Val aJ)=>ka x.1 x.2⟩
def UG:È:={pin:=0,cs:=[af,af],vs:=[tI,af],head:=⟨28,[.con af,.con af,.any,.any,.any,.own 0,.var tI],[.rowv tI]⟩,exits:=[(.exit 0,⟨28,[.con af,.con af,.any,.any,.any,.own 0],[.rowv tI]⟩,[af])]}
def CQ (ρ:Type):Ý ρ:=⟨[],168,0,UG,fun(p:Val aJ) (v:Val au) a b=>rI p.1 p.2 v.1 v.2 (fun c d=>a (c,d)) (b 0)⟩
def acU:List (Nat×Ö):=[(211,ahI)]
def Gz (ρ:Type):List (Ý ρ):=[CQ ρ]
def Es (ρ:Type):Env ρ:=Ù acU (Gz ρ)
def FK:Ö:=⟨[Ä,Ê],[tI],fun(x:Val aC)=>jM x.1 x.2⟩
def Gi:È:={pin:=0,cs:=[tI,tI,ac,aa,ae,ab,aa,tI,tI,af,af,tI,tI,tI,tI,af],vs:=[tI],head:=⟨90,[.any,.any,.box 0 0,.box 1 0,.any,.own 2,.var tI],bY⟩,exits:=[(.ret,⟨90,[.any,.any,.box 0 0,.box 1 0,.var tI,.own 2],bY⟩,[tI]),(.exit 0,⟨90,[.any,.any,.box 0 0,.box 1 0,.any,.own 2],bY⟩,[])]}
def ro (ρ:Type):Ý ρ:=⟨[],99,0,Gi,fun(p:Val az) (v:Val tI) b a=>let A:=p.2.2.2.2;kj p.1 p.2.1 p.2.2.1 p.2.2.2.1 A.1 A.2.1 A.2.2.1 A.2.2.2.2.2.2.2.2.2.2.2 v (fun c=>b c) (a 0) (a 1)⟩
def Gh:È:={pin:=0,cs:=[tI,tI,ac,aa,ae,ab,aa,tI,tI,af,af,tI,tI,tI,tI,af],vs:=[tI],head:=⟨90,[.any,.any,.box 0 0,.box 1 0,.any,.own 2,.any,.var tI],bY⟩,exits:=[(.ret,⟨90,[.any,.any,.box 0 0,.box 1 0,.var tI,.own 2],bY⟩,[tI]),(.exit 2,⟨90,[.any,.any,.box 0 0,.box 1 0,.any,.own 2],bY⟩,[])]}
def rl (ρ:Type):Ý ρ:=⟨[],99,2,Gh,fun(p:Val az) (v:Val tI) b a=>let A:=p.2.2.2.2;iX p.1 p.2.1 p.2.2.1 p.2.2.2.1 A.1 A.2.1 A.2.2.1 A.2.2.2.2.1 A.2.2.2.2.2.2.2.2.2.2.2 v (fun c=>b c) (a 0) (a 1)⟩
def Gg:È:={pin:=0,cs:=[tI,tI,ac,aa,ae,ab,aa,tI,tI,af,af,tI,tI,tI,tI,af],vs:=[tI],head:=⟨90,[.any,.any,.box 0 0,.box 1 0,.any,.own 2,.any,.any,.var tI],bY⟩,exits:=[(.ret,⟨90,[.any,.any,.box 0 0,.box 1 0,.var tI,.own 2],bY⟩,[tI]),(.exit 4,⟨90,[.any,.any,.box 0 0,.box 1 0,.any,.own 2],bY⟩,[])]}
def rk (ρ:Type):Ý ρ:=⟨[],99,4,Gg,fun(p:Val az) (v:Val tI) b a=>let A:=p.2.2.2.2;Η p.1 p.2.1 p.2.2.1 p.2.2.2.1 A.1 A.2.1 A.2.2.1 A.2.2.2.2.1 A.2.2.2.2.2.2.2.2.2.2.2 v (fun c=>b c) (a 0) (a 1)⟩
def NG:List (Nat×Ö):=[(101,tK),(166,yp),(167,PD),(168,PE)]
def tZ (ρ:Type):List (Ý ρ):=[ro ρ,rl ρ,rk ρ]
def jn (ρ:Type):Env ρ:=Ù NG (tZ ρ)
def OQ:Ö:=⟨[af,af],[tI],fun(x:Val aJ)=>pb x.1 x.2⟩
def afG:List (Nat×Ö):=[(168,PE)]
def L8 (ρ:Type):List (Ý ρ):=[]
def WH (ρ:Type):Env ρ:=Ù afG (L8 ρ)
def ab2:Ö:=⟨[Ä,Ð,tI],[.bool],fun(x:Val (.pair Ä (.pair Ð tI)))=>IY x.1 x.2.1 x.2.2⟩
def Us:È:={pin:=0,cs:=[tI,tI,tI,ac,aa,ae,ab,aa,tI,tI,tI,tI,tI,tI,tI,tI],vs:=[tI],head:=⟨76,[.any,.any,.con tI,.box 0 0,.box 1 0,.any,.any,.var tI],b9⟩,exits:=[(.ret,⟨76,[.any,.any,.con tI,.box 0 0,.box 1 0,.any,.var .bool],b9⟩,[.bool]),(.exit 0,⟨76,[.any,.any,.con tI,.box 0 0,.box 1 0],b9⟩,[])]}
def CC (ρ:Type):Ý ρ:=⟨[],169,0,Us,fun(p:Val (.pair tI aB)) (v:Val tI) b a=>rq p.1 p.2.2.2.2.2.2.1 p.2.2.2.2.2.2.2.2.1 v (fun c=>b c) (a 0) (a 1)⟩
def Ur:È:={pin:=0,cs:=[tI,tI,tI,ac,aa,ae,ab,aa,tI,tI,tI,tI,tI,tI,tI,tI],vs:=[tI],head:=⟨76,aN 2 (.con tI::.box 0 0::.box 1 0::aN 4 [.var tI]),b9⟩,exits:=[(.ret,⟨76,[.any,.any,.con tI,.box 0 0,.box 1 0,.any,.var .bool],b9⟩,[.bool]),(.exit 2,⟨76,[.any,.any,.con tI,.box 0 0,.box 1 0],b9⟩,[])]}
def CB (ρ:Type):Ý ρ:=⟨[],169,2,Ur,fun(p:Val (.pair tI aB)) (v:Val tI) b a=>ny p.1 p.2.2.2.2.2.2.2.1 p.2.2.2.2.2.2.2.2.1 v (fun c=>b c) (a 0) (a 1)⟩
def acL:List (Nat×Ö):=[(158,OQ)]
def Gj (ρ:Type):List (Ý ρ):=[CC ρ,CB ρ]
def vN (ρ:Type):Env ρ:=Ù acL (Gj ρ)
def tM:Ö:=⟨[Ä],[aa],fun(x:Val Ä)=>jO x⟩
def QC:È:={pin:=0,cs:=[tI,tI,ac,aa,ae,ab,aa],vs:=[tI,af],head:=⟨114,[.any,.box 0 0,.any,.own 1,.var tI],cH⟩,exits:=[(.exit 0,⟨114,[.any,.box 0 0,.any,.own 1],cH⟩,[af])]}
def yV (ρ:Type):Ý ρ:=⟨[],102,0,QC,fun(p:Val ah) (v:Val au) a b=>oT p.2.2.1 v.1 v.2 (fun c d=>a (c,d)) (b 0)⟩
def QB:È:={pin:=0,cs:=[tI,tI,ac,aa,ae,ab,aa],vs:=[tI,af],head:=⟨114,[.any,.box 0 0,.any,.own 1,.any,.var tI],cH⟩,exits:=[(.exit 2,⟨114,[.any,.box 0 0,.any,.own 1],cH⟩,[af])]}
def yU (ρ:Type):Ý ρ:=⟨[],102,2,QB,fun(p:Val ah) (v:Val au) a b=>oS p.2.2.2.2.2.1 v.1 v.2 (fun c d=>a (c,d)) (b 0)⟩
def QA:È:={pin:=0,cs:=[tI,tI,ac,aa,ae,ab,aa],vs:=[tI,af],head:=⟨114,[.any,.box 0 0,.any,.own 1,.any,.any,.var tI],cH⟩,exits:=[(.exit 4,⟨114,[.any,.box 0 0,.any,.own 1],cH⟩,[af])]}
def yT (ρ:Type):Ý ρ:=⟨[],102,4,QA,fun(p:Val ah) (v:Val au) a b=>oR p.2.2.2.2.2.2 v.1 v.2 (fun c d=>a (c,d)) (b 0)⟩
def yO:È:={pin:=0,cs:=[tI,tI,tI,tI,ac,aa,ae,ab,aa,af,aa],vs:=[tI,tI],head:=⟨114,[.any,.box 0 0,.any,.own 1,.any,.any,.any,.own 2,.con tI,.con tI,.var tI,.var tI],[bo,.rowc tI,.rowc Â]⟩,exits:=[(.exit 10,⟨114,[.any,.box 0 0,.any,.own 1,.any,.any,.any,.own 2,.con tI,.con tI,.var tI],[bo,.rowc tI,.rowc Â]⟩,[tI])]}
def yN (ρ:Type):Ý ρ:=⟨[],102,10,yO,fun(p:Val (tyL yO.cs)) (v:Val Â) a b=>lG p.2.1 p.2.2.2.2.2.2.2.2.2.1 v.1 v.2 (fun c d=>a (c,d)) (b 0)⟩
def yQ:È:={pin:=0,cs:=[tI,tI,tI,ac,aa,ae,ab,aa,af],vs:=[tI,aa],head:=⟨114,[.any,.box 0 0,.any,.own 1,.any,.any,.any,.own 2,.con tI,.var tI],cI⟩,exits:=[(.exit 8,⟨114,[.any,.box 0 0,.any,.own 1,.any,.any,.any,.own 2,.con tI],cI⟩,[aa])]}
def yP (ρ:Type):Ý ρ:=⟨[],102,8,yQ,fun(p:Val (tyL yQ.cs)) (v:Val aF) a b=>let A:=p.2.2.2.2;lH p.1 p.2.1 p.2.2.1 p.2.2.2.1 A.1 A.2.1 A.2.2.1 A.2.2.2.1 A.2.2.2.2 v.1 v.2 (fun c d=>a (c,d)) (b 0)⟩
def yS:È:={pin:=0,cs:=[tI,tI,ac,aa,ae,ab,aa,af],vs:=[tI,aa],head:=⟨114,[.any,.box 0 0,.any,.own 1,.any,.any,.any,.own 2,.var tI],cI⟩,exits:=[(.exit 6,⟨114,[.any,.box 0 0,.any,.own 1,.any,.any,.any,.own 2],cI⟩,[aa])]}
def yR (ρ:Type):Ý ρ:=⟨[],102,6,yS,fun(p:Val (tyL yS.cs)) (v:Val aF) a b=>let A:=p.2.2.2.2;oQ p.1 p.2.1 p.2.2.1 p.2.2.2.1 A.1 A.2.1 A.2.2.1 A.2.2.2 v.1 v.2 (fun c d=>a (c,d)) (b 0)⟩
def YN:List (Nat×Ö):=[(169,ab2)]
def CM (ρ:Type):List (Ý ρ):=[yV ρ,yU ρ,yT ρ,yN ρ,yP ρ,yR ρ]
def iz (ρ:Type):Env ρ:=Ù YN (CM ρ)
def pr:Ö:=⟨[Ä,Â],[tI],fun(x:Val aE)=>Ľ x.1 x.2⟩
def QL:È:={pin:=0,cs:=[aa,tI,tI],vs:=[tI],head:=⟨23,[.any,.any,.any,.box 0 0,.any,.con aa,.var tI],[bv]⟩,exits:=[(.ret,⟨23,[.any,.any,.any,.box 0 0,.var tI,.con aa],[bv]⟩,[tI]),(.exit 0,⟨23,[.any,.any,.any,.box 0 0,.any,.con aa],[bv]⟩,[])]}
def yW (ρ:Type):Ý ρ:=⟨[],52,0,QL,fun(p:Val ba) (v:Val tI) b a=>oU p.1 p.2.1 p.2.2 v (fun c=>b c) (a 0) (a 1)⟩
def YS:List (Nat×Ö):=[(102,tM)]
def CS (ρ:Type):List (Ý ρ):=[yW ρ]
def yX (ρ:Type):Env ρ:=Ù YS (CS ρ)
def ab3:Ö:=⟨[Ä,tI,tI],[.bool],fun(x:Val aE)=>IZ x.1 x.2.1 x.2.2⟩
def Ut:È:={pin:=0,cs:=[tI,tI,tI,tI,ac,aa,ae,ab,aa],vs:=[tI],head:=⟨33,[.any,.con tI,.con tI,.box 0 0,.any,.any,.any,.var tI],[bo]⟩,exits:=[(.ret,⟨33,[.any,.con tI,.con tI,.box 0 0,.any,.any,.var .bool],[bo]⟩,[.bool]),(.exit 0,⟨33,[.any,.con tI,.con tI,.box 0 0],[bo]⟩,[])]}
def CD (ρ:Type):Ý ρ:=⟨[],212,0,Ut,fun(p:Val (.pair tI aD)) (v:Val tI) b a=>rr p.1 p.2.1 p.2.2.2.2.2.1 v (fun c=>b c) (a 0) (a 1)⟩
def acM:List (Nat×Ö):=[]
def Gk (ρ:Type):List (Ý ρ):=[CD ρ]
def Ej (ρ:Type):Env ρ:=Ù acM (Gk ρ)
def ab7:Ö:=⟨[Ä,tI,tI,tI],[tI],fun(x:Val (.pair Ä ć))=>uX x.1 x.2.1 x.2.2.1 x.2.2.2⟩
def CO:È:={pin:=0,cs:=[tI,tI,tI,tI,tI,ac,aa,ae,ab,aa],vs:=[tI,tI],head:=⟨48,.any::.con tI::.any::.con tI::.box 0 0::aN 4 [.con tI,.var tI,.var tI],[bo]⟩,exits:=[(.exit 0,⟨48,.any::.con tI::.any::.con tI::.box 0 0::aN 4 [.con tI,.var tI],[bo]⟩,[tI])]}
def CN (ρ:Type):Ý ρ:=⟨[],170,0,CO,fun(p:Val (tyL CO.cs)) (v:Val Â) a b=>let A:=p.2.2.2.2;rG p.1 p.2.1 p.2.2.1 p.2.2.2.1 A.1 A.2.1 A.2.2.1 A.2.2.2.1 A.2.2.2.2.1 A.2.2.2.2.2 v.1 v.2 (fun c d=>a (c,d)) (b 0)⟩
def acR:List (Nat×Ö):=[(166,yp),(167,PD),(212,ab3)]
def Gw (ρ:Type):List (Ý ρ):=[CN ρ]
def Ep (ρ:Type):Env ρ:=Ù acR (Gw ρ)
def D1:Ö:=⟨[tI,tI],[ł],fun(x:Val Â)=>qw x.1 x.2⟩
def UP:List (Nat×Ö):=[(209,X2),(210,X3)]
def zm (ρ:Type):List (Ý ρ):=[]
def GG (ρ:Type):Env ρ:=Ù UP (zm ρ)
def ahN:Ö:=⟨[Â,Â],[ł],fun(x:Val ç)=>aaz x.1 x.2⟩
def afT:List (Nat×Ö):=[(285,D1)]
def Mp (ρ:Type):List (Ý ρ):=[]
def WN (ρ:Type):Env ρ:=Ù afT (Mp ρ)
def ahL:Ö:=⟨[Â],[Â],fun(x:Val Â)=>aay x⟩
def afQ:List (Nat×Ö):=[]
def Ml (ρ:Type):List (Ý ρ):=[]
def WL (ρ:Type):Env ρ:=Ù afQ (Ml ρ)
def ahK:Ö:=⟨[Â,Â],[ł],fun(x:Val ç)=>O7 x.1 x.2⟩
def afP:List (Nat×Ö):=[(268,ahN),(269,ahL)]
def Mj (ρ:Type):List (Ý ρ):=[]
def WK (ρ:Type):Env ρ:=Ù afP (Mj ρ)
def Wo:Ö:=⟨[Ä,tI],[Â],fun(x:Val aG)=>uV x.1 x.2⟩
def YC:List (Nat×Ö):=[(166,yp)]
def Cz (ρ:Type):List (Ý ρ):=[]
def L9 (ρ:Type):Env ρ:=Ù YC (Cz ρ)
def aca:Ö:=⟨[ł,ł],[tD],fun(x:Val (.pair ł ł))=>I1 x.1 x.2⟩
def ac2:List (Nat×Ö):=[]
def GI (ρ:Type):List (Ý ρ):=[]
def Q3 (ρ:Type):Env ρ:=Ù ac2 (GI ρ)
def ahM:Ö:=⟨[Â,Â],[ł],fun(x:Val ç)=>wX x.1 x.2⟩
def afR:List (Nat×Ö):=[(285,D1)]
def Mm (ρ:Type):List (Ý ρ):=[]
def WM (ρ:Type):Env ρ:=Ù afR (Mm ρ)
def Wt:Ö:=⟨[ç,Â],[tD],fun(x:Val (.pair ç Â))=>Bu x.1 x.2⟩
def Y6:List (Nat×Ö):=[(270,aca),(271,ahM)]
def CY (ρ:Type):List (Ý ρ):=[]
def Mk (ρ:Type):Env ρ:=Ù Y6 (CY ρ)
def PF:Ö:=⟨[Ä,Ê],[ç],fun(x:Val aC)=>wV x.1 x.2⟩
def UJ:List (Nat×Ö):=[(158,OQ),(242,ahK),(243,Wo),(244,Wt)]
def yY (ρ:Type):List (Ý ρ):=[]
def GB (ρ:Type):Env ρ:=Ù UJ (yY ρ)
def Wq:Ö:=⟨[Ä,Ê],[Â],fun(x:Val aC)=>Bs x.1 x.2⟩
def YW:List (Nat×Ö):=[]
def CU (ρ:Type):List (Ý ρ):=[]
def Me (ρ:Type):Env ρ:=Ù YW (CU ρ)
def ak7:Ö:=⟨[tI,tI],[tI],fun(x:Val Â)=>agB x.1 x.2⟩
def ajo:List (Nat×Ö):=[]
def QZ (ρ:Type):List (Ý ρ):=[]
def ac0 (ρ:Type):Env ρ:=Ù ajo (QZ ρ)
end Go.Proofs.ZzM
end
