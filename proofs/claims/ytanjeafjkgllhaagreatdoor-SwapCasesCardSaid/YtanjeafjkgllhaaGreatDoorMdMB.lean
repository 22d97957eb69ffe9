/- lemmas -/
import Derived.Test.YtanjeafjkgllhaaGreatDoorMdMA
set_option linter.all false
noncomputable section
set_option maxRecDepth 100000
namespace Go.Proofs.ZzM
open Go Go.Am
variable [LC]
def acQ:ì:=⟨[Æ],[Æ],fun(x:bx)=>WB x⟩
def ae4 (ρ:Type):Env ρ:=Ö [] []
def acP:ì:=⟨[Æ,Æ],[kX],fun(x:gv)=>Mc x.1 x.2⟩
def ae3 (ρ:Type):Env ρ:=Ö [(318,acS),(319,acQ)] []
def Tk:ì:=⟨[È,tI],[Æ],fun(x:rd)=>uL x.1 x.2⟩
def YM (ρ:Type):Env ρ:=Ö [(111,td)] []
def X4:ì:=⟨[kX,kX],[Ej],fun(x:Val (.pair kX kX))=>Ha x.1 x.2⟩
def abi (ρ:Type):Env ρ:=Ö [] []
def acR:ì:=⟨[Æ,Æ],[kX],fun(x:gv)=>vK x.1 x.2⟩
def ae5 (ρ:Type):Env ρ:=Ö [(329,Df)] []
def Tr:ì:=⟨[Ą,Æ],[Ej],fun(x:Val (.pair Ą Æ))=>AM x.1 x.2⟩
def Y4 (ρ:Type):Env ρ:=Ö [(320,X4),(321,acR)] []
def MP:ì:=⟨[È,Ò],[Ą],fun(x:Val aZ)=>vI x.1 x.2⟩
def VS (ρ:Type):Env ρ:=Ö [(191,LW),(295,acP),(296,Tk),(297,Tr)] []
def Tp:ì:=⟨[È,Ò],[Æ],fun(x:Val aZ)=>AJ x.1 x.2⟩
def YY (ρ:Type):Env ρ:=Ö [] []
def X3:ì:=⟨[tI,tI],[tI],fun(x:bx)=>P9 x.1 x.2⟩
def abh (ρ:Type):Env ρ:=Ö [] []
def Ts:ì:=⟨[Æ],[tI],fun(x:bx)=>AP x⟩
def Y5 (ρ:Type):Env ρ:=Ö [(298,X3)] []
def ag4:ì:=⟨[tI,tI],[tI],fun(x:bx)=>abG x.1 x.2⟩
def ahH (ρ:Type):Env ρ:=Ö [] []
def X5:ì:=⟨[Æ],[tI],fun(x:bx)=>Hb x⟩
def abj (ρ:Type):Env ρ:=Ö [(299,ag4)] []
def XX:ì:=⟨[È,Ò],[Æ],fun(x:Val aZ)=>uM x.1 x.2⟩
def abg (ρ:Type):Env ρ:=Ö [(248,MP),(249,Tp),(250,Ts),(251,X5)] []
def acN:ì:=⟨[È],[Bo],fun(x:bA)=>AI x⟩
def VO:Å:=Ls 0 [aa,tI,tI,tI,ae,aa,af,ac,aa,tI,tI,tI,tI,tI,tI,tI,tI] [tI,ak,aa] ⟨182,[.any,.box 0 0,.box 1 0,.box 2 0,.con aa,.con tI,.box 3 0,.var tI],[bK,cw,.cells [.own 4,.own 5],bL,.rowv Ę,.rowv Æ]⟩ [(.exit 2,⟨182,[.any,.box 0 0,.box 1 0,.box 2 0,.con aa,.con tI,.box 3 0],[bK,cw,.cells [.own 4,.own 5],bL,.rowv Ę,.rowv Æ]⟩,[ak,aa])]
def FO (ρ:Type):é ρ:=⟨[],109,2,VO,fun(p:Val (.pair aa au)) (v:l7) a b=>let A:=p.2.2.2.2;let B:=A.2.2.2.2;qj p.1 p.2.1 p.2.2.1 p.2.2.2.1 A.1 A.2.1 A.2.2.1 A.2.2.2.1 B.1 B.2.1 B.2.2.1 B.2.2.2.1 B.2.2.2.2.1 B.2.2.2.2.2.1 v.1 v.2.1 v.2.2 (fun c d e=>a (c,d,e)) (b 0)⟩
def VP:Å:=Ls 0 [aa,tI,tI,ae,aa,af,ac,aa] [tI,ak,aa] ⟨182,[.any,.box 0 0,.box 1 0,.box 2 0,.con aa,.var tI],dl⟩ [(.exit 0,⟨182,[.any,.box 0 0,.box 1 0,.box 2 0,.con aa],dl⟩,[ak,aa])]
def FP (ρ:Type):é ρ:=⟨[],109,0,VP,fun(p:Val (.pair aa aj)) (v:l7) a b=>let A:=p.2.2.2.2;vv p.1 p.2.1 p.2.2.1 p.2.2.2.1 A.1 A.2.1 A.2.2.1 A.2.2.2 v.1 v.2.1 v.2.2 (fun c d e=>a (c,d,e)) (b 0)⟩
def VN:Å:=Ls 0 [tI,tI,ae,aa,af,ac,aa] [tI,ak,aa] ⟨182,.any::.box 0 0::.box 1 0::.box 2 0::aN 5 [.var tI],dl⟩ [(.exit 4,⟨182,[.any,.box 0 0,.box 1 0,.box 2 0],dl⟩,[ak,aa])]
def FN (ρ:Type):é ρ:=⟨[],109,4,VN,fun(p:kN) (v:l7) a b=>let A:=p.2.2.2.2;vu p.1 p.2.1 p.2.2.1 p.2.2.2.1 A.1 A.2.1 A.2.2 v.1 v.2.1 v.2.2 (fun c d e=>a (c,d,e)) (b 0)⟩
def Ak (ρ:Type):Env ρ:=Ö [(108,Ag),(189,X0),(190,Tn),(191,LW),(192,XX)] [FO ρ,FP ρ,FN ρ]
def HW:ì:=⟨[È],[tI],fun(x:bA)=>iF x⟩
def OK:Å:=Ls 0 [tI,tI,ae,aa,af,ac,aa] [tI] ⟨170,[.any,.box 0 0,.any,.var tI],[bK]⟩ [(.ret,⟨170,[.any,.box 0 0,.var tI],[bK]⟩,[tI]),(.exit 0,⟨170,[.any,.box 0 0],[bK]⟩,[])]
def zc (ρ:Type):é ρ:=⟨[],45,0,OK,fun(p:kN) (v:Int) b a=>oT p.2.2.1 v (fun c=>b c) (a 0) (a 1)⟩
def OI:Å:=Ls 0 [tI,tI,tI,ae,aa,af,ac,aa] [tI] ⟨170,.any::.box 0 0::aN 4 [.con tI,.any,.var tI],[bK]⟩ [(.ret,⟨170,[.any,.box 0 0,.var tI,.any,.any,.any,.con tI],[bK]⟩,[tI]),(.exit 4,⟨170,.any::.box 0 0::aN 4 [.con tI],[bK]⟩,[])]
def za (ρ:Type):é ρ:=⟨[],45,4,OI,fun(p:Val bg) (v:Int) b a=>oS p.1 p.2.2.2.2.2.2.1 v (fun c=>b c) (a 0) (a 1)⟩
def OJ:Å:=Ls 0 [tI,tI,ae,aa,af,ac,aa] [tI] ⟨170,.any::.box 0 0::aN 4 [.var tI],[bK]⟩ [(.ret,⟨170,[.any,.box 0 0,.var tI],[bK]⟩,[tI]),(.exit 2,⟨170,[.any,.box 0 0],[bK]⟩,[])]
def zb (ρ:Type):é ρ:=⟨[],45,2,OJ,fun(p:kN) (v:Int) b a=>let A:=p.2.2.2.2;jj p.1 p.2.1 p.2.2.1 p.2.2.2.1 A.1 A.2.1 A.2.2 v (fun c=>b c) (a 0) (a 1)⟩
def OH:Å:=Ls 0 [tI,tI,ae,aa,af,ac,aa] [tI] ⟨170,.any::.box 0 0::aN 7 [.var tI],[bK]⟩ [(.ret,⟨170,[.any,.box 0 0,.var tI],[bK]⟩,[tI]),(.exit 6,⟨170,[.any,.box 0 0],[bK]⟩,[])]
def y0 (ρ:Type):é ρ:=⟨[],45,6,OH,fun(p:kN) (v:Int) b a=>let A:=p.2.2.2.2;ji p.1 p.2.1 p.2.2.1 p.2.2.2.1 A.1 A.2.1 A.2.2 v (fun c=>b c) (a 0) (a 1)⟩
def kM (ρ:Type):Env ρ:=Ö [(100,mS),(101,Tl),(102,XT),(103,Tj),(104,Th),(105,EB),(106,ED),(107,pp),(108,Ag),(109,acN)] [zc ρ,za ρ,zb ρ,y0 ρ]
def acM:ì:=⟨[È,ð],[tI],fun(x:Val (.pair È ð))=>Ma x.1 x.2⟩
def VM:Å:=Ls 0 [tI,tI,ae,aa,af,ac,aa,tI,ab] [tI] ⟨70,[.any,.any,.box 0 0,.box 1 0,.any,.var tI],cI⟩ [(.ret,⟨70,[.any,.any,.box 0 0,.box 1 0,.var tI],cI⟩,[tI]),(.exit 0,⟨70,[.any,.any,.box 0 0,.box 1 0],cI⟩,[])]
def FF (ρ:Type):é ρ:=⟨[],46,0,VM,fun(p:Val aJ) (v:Int) b a=>vp p.2.2.2.2.2.2.2.2 v (fun c=>b c) (a 0) (a 1)⟩
def VL:Å:=Ls 0 [tI,tI,ae,aa,af,ac,aa,tI,ab] [tI] ⟨70,[.any,.any,.box 0 0,.box 1 0,.any,.any,.var tI],cI⟩ [(.ret,⟨70,[.any,.any,.box 0 0,.box 1 0,.var tI],cI⟩,[tI]),(.exit 2,⟨70,[.any,.any,.box 0 0,.box 1 0],cI⟩,[])]
def FE (ρ:Type):é ρ:=⟨[],46,2,VL,fun(p:Val aJ) (v:Int) b a=>let A:=p.2.2.2.2;DD p.1 p.2.1 p.2.2.1 p.2.2.2.1 A.1 A.2.1 A.2.2.1 A.2.2.2.2 v (fun c=>b c) (a 0) (a 1)⟩
def VK:Å:=Ls 0 [tI,tI,ae,aa,af,ac,aa,tI,ab] [tI] ⟨70,[.any,.any,.box 0 0,.box 1 0,.any,.any,.any,.var tI],cI⟩ [(.ret,⟨70,[.any,.any,.box 0 0,.box 1 0,.var tI],cI⟩,[tI]),(.exit 4,⟨70,[.any,.any,.box 0 0,.box 1 0],cI⟩,[])]
def FD (ρ:Type):é ρ:=⟨[],46,4,VK,fun(p:Val aJ) (v:Int) b a=>let A:=p.2.2.2.2;DC p.1 p.2.1 p.2.2.1 p.2.2.2.1 A.1 A.2.1 A.2.2.1 A.2.2.2.1 A.2.2.2.2 v (fun c=>b c) (a 0) (a 1)⟩
def Aj (ρ:Type):Env ρ:=Ö [(107,pp),(110,De),(111,td)] [FF ρ,FE ρ,FD ρ]
def HT:ì:=⟨[Ä],[tI],fun(x:a8)=>Ο x⟩
def yA:Å:=Ls 0 [tI,tI,tI,ae,aa,af,ac,aa,ai,tI,ab] [tI,tI] ⟨99,[.any,.box 0 0,.any,.any,.var tI,.con tI,.box 1 0,.var tI],[bP,bQ]⟩ [(.ret,⟨99,[.any,.box 0 0,.var tI,.any,.any,.con tI,.box 1 0],[bP,bQ]⟩,[tI]),(.exit 2,⟨99,[.any,.box 0 0,.any,.any,.var tI,.con tI,.box 1 0],[bP,bQ]⟩,[tI])]
def yz (ρ:Type):é ρ:=⟨[],13,2,yA,fun(p:Val (tyL yA.cs)) (v:bx) b a=>let A:=p.2.2.2.2;ψ p.2.1 p.2.2.1 p.2.2.2.1 A.1 A.2.1 A.2.2.1 A.2.2.2.1 A.2.2.2.2.2.1 A.2.2.2.2.2.2 v.1 v.2 (fun c d=>b (c,d)) (a 0) (a 1)⟩
def NX:Å:=Ls 0 [tI,tI,ae,aa,af,ac,aa,ai] [tI,tI] ⟨99,[.any,.box 0 0,.any,.any,.var tI,.var tI],[bP]⟩ [(.ret,⟨99,[.any,.box 0 0,.var tI],[bP]⟩,[tI]),(.exit 0,⟨99,[.any,.box 0 0,.any,.any,.var tI],[bP]⟩,[tI])]
def yB (ρ:Type):é ρ:=⟨[],13,0,NX,fun(p:lw) (v:bx) b a=>let A:=p.2.2.2.2;oF p.1 p.2.1 p.2.2.1 p.2.2.2.1 A.1 A.2.1 A.2.2.1 A.2.2.2 v.1 v.2 (fun c d=>b (c,d)) (a 0) (a 1)⟩
def yC (ρ:Type):Env ρ:=Ö [(45,HW),(46,acM),(47,EC)] [yz ρ,yB ρ]
def MT:ì:=⟨[È,ab],[È,tI],fun(x:Val (.pair È ab))=>vO x.1 x.2⟩
def wO:Å:=Ls 6 [tI,tI,tI,ae,aa,af,ac,aa,ab,tI,tI,tI,tI,ae,aa,af,ac,aa,tI,tI,tI,tI,ac,tI,tI,ae,aa,af,aa] [tI,ac] ⟨50,.any::.box 6 0::.box 7 0::.own 8::aN 21 [.own 8,.con tI,.var tI],dm⟩ [(.exit 0,⟨50,.any::.box 6 0::.box 7 0::.own 8::aN 21 [.own 8,.con tI],dm⟩,[ac])]
def wN (ρ:Type):é ρ:=⟨[1,2,4,1],252,0,wO,fun(p:Val (tyL wO.cs)) (v:Val aU) a b=>mO p.1 v.1 v.2 (fun c d=>a (c,d)) (b 0)⟩
def wM:Å:=Ls 13 [tI,tI,tI,ae,aa,af,ac,aa,ab,tI,tI,tI,tI,ae,aa,af,ac,aa,tI,tI,tI,tI,tI,tI,tI,tI,ac,ae,aa,af,aa] [tI] ⟨19,.own 8::.fn 195 [(1,0)]::aN 5 [.con tI,.var tI],dp⟩ [(.ret,⟨19,[.own 8,.fn 195 [(1,0)],.any,.any,.var tI,.any,.any,.con tI],dp⟩,[tI]),(.exit 0,⟨19,.own 8::.fn 195 [(1,0)]::aN 5 [.con tI],dp⟩,[])]
def wL (ρ:Type):é ρ:=⟨[1,2,5,1,0,6,1,2],140,0,wM,fun(p:Val (tyL wM.cs)) (v:Int) b a=>mN p.1 p.2.2.2.2.2.2.2.2.1 p.2.2.2.2.2.2.2.2.2.2.2.2.2.2.2.2.2.2.2.2.2.2.2.2.2.2.1 v (fun c=>b c) (a 0) (a 1)⟩
def wK:Å:=Ls 13 [tI,tI,ae,aa,af,ac,aa,ab,tI,tI,tI,tI,ae,aa,af,ac,aa,tI,tI,tI,tI,tI,tI,tI,tI,ae,aa,af,aa] [tI,tI,ac] ⟨42,[.own 8,.fn 195 [(1,0)],.any,.any,.any,.var tI,.var tI],dq⟩ [(.exit 0,⟨42,[.own 8,.fn 195 [(1,0)],.any,.any,.any,.var tI],dq⟩,[tI,ac])]
def wJ (ρ:Type):é ρ:=⟨[1,2,5,1,0,6],142,0,wK,fun(p:Val (tyL wK.cs)) (v:im) a b=>ź p.2.2.2.2.2.2.2.1 v.1 v.2.1 v.2.2 (fun c d e=>a (c,d,e)) (b 0)⟩
def lV (ρ:Type):Env ρ:=Ö [(54,mT),(75,Ħ)] [wN ρ,wL ρ,wJ ρ]
def Td:ì:=⟨[È],[È],fun(x:bA)=>AD x⟩
def YD (ρ:Type):Env ρ:=Ö [(112,MT)] []
def acJ:ì:=⟨[Ä,ð],[Ä,tI],fun(x:Val (.pair Ä ð))=>L9 x.1 x.2⟩
def VG:Å:=Ls 0 [tI,tI,tI,tI,tI,ae,aa,af,ac,aa,ai] [tI,ai] ⟨51,aN 4 (.box 0 0::aN 2 (.box 1 0::aN 18 [.own 2,.con tI,.var tI])),[cg,cB,.rowc ð,.rowv ð]⟩ [(.exit 0,⟨51,aN 4 (.box 0 0::aN 2 (.box 1 0::aN 18 [.own 2,.con tI])),[cg,cB,.rowc ð,.rowv ð]⟩,[ai])]
def Fm (ρ:Type):é ρ:=⟨[],14,0,VG,fun(p:Val bt) (v:Val (.pair tI ai)) a b=>vl p.1 p.2.2.2.2.2.2.2.2.2.2 v.1 v.2 (fun c d=>a (c,d)) (b 0)⟩
def TI (ρ:Type):Env ρ:=Ö [(16,ŭ),(48,Td)] [Fm ρ]
def xE:ì:=⟨[tI],[.str],fun(x:Int)=>nS x⟩
def Ő:Å:=Ls 0 [] [tI,.str] ⟨46,[.var tI,.any,.any,.any,.var .str],[]⟩ [(.exit 0,⟨46,aN 4 [.var .str],[]⟩,[.str])]
def mu (rec:Int->rF ByteArray) (ρ:Type):é ρ:=⟨[],57,0,Ő,fun(p:Unit) (v:ly) a b=>lT rec v.1 v.2 (fun c d=>a (c,d)) (b 0)⟩
def OG (rec:Int->rF ByteArray):rT (Nat×ì):=[(57,⟨[tI],[.str],fun(x:Int)=>rec x⟩)]
def wF (rec:Int->rF ByteArray) (ρ:Type):rT (é ρ):=[mu rec ρ]
def Ÿ (rec:Int->rF ByteArray) (ρ:Type):Env ρ:=Ö (OG rec) (wF rec ρ)
def XU:ì:=⟨[.str,ab],[.str],fun(x:Val (.pair .str ab))=>iy x.1 x.2⟩
def Rt:Å:=Ls 0 [ab] [.str,tI] ⟨23,[.any,.con ab,.any,.any,.any,.var .str,.var tI],[]⟩ [(.exit 0,⟨23,[.any,.con ab,.any,.any,.any,.var .str],[]⟩,[.str])]
def B5 (ρ:Type):é ρ:=⟨[],124,0,Rt,fun(p:an) (v:ge) a b=>rE p v.1 v.2 (fun c d=>a (c,d)) (b 0)⟩
def N6 (ρ:Type):Env ρ:=Ö [(57,xE)] [B5 ρ]
def HV:ì:=⟨[È],[.str],fun(x:bA)=>Ρ x⟩
def Om:Å:=Ls 0 [tI,tI,ae,aa,af,ac,aa] [.str,tI] ⟨173,[.any,.box 0 0,.any,.var .str,.var tI],[bK]⟩ [(.exit 0,⟨173,[.any,.box 0 0,.any,.var .str],[bK]⟩,[.str])]
def yN (ρ:Type):é ρ:=⟨[],56,0,Om,fun(p:kN) (v:ge) a b=>oM p.2.2.1 v.1 v.2 (fun c d=>a (c,d)) (b 0)⟩
def Ol:Å:=Ls 0 [tI,tI,ae,aa,af,ac,aa] [.str,tI] ⟨173,[.any,.box 0 0,.any,.var .str,.any,.any,.var tI],[bK]⟩ [(.exit 2,⟨173,[.any,.box 0 0,.any,.var .str],[bK]⟩,[.str])]
def yM (ρ:Type):é ρ:=⟨[],56,2,Ol,fun(p:kN) (v:ge) a b=>oL p.2.2.2.1 v.1 v.2 (fun c d=>a (c,d)) (b 0)⟩
def Oj:Å:=Ls 0 [tI,tI,ae,aa,af,ac,aa] [.str,tI] ⟨173,[.any,.box 0 0,.any,.var .str,.any,.any,.any,.var tI],[bK]⟩ [(.exit 4,⟨173,[.any,.box 0 0,.any,.var .str],[bK]⟩,[.str])]
def yL (ρ:Type):é ρ:=⟨[],56,4,Oj,fun(p:kN) (v:ge) a b=>oK p.2.2.2.2.1 v.1 v.2 (fun c d=>a (c,d)) (b 0)⟩
def Oi:Å:=Ls 0 [tI,tI,ae,aa,af,ac,aa] [.str,tI] ⟨173,.any::.box 0 0::.any::.var .str::aN 5 [.var tI],[bK]⟩ [(.exit 6,⟨173,[.any,.box 0 0,.any,.var .str],[bK]⟩,[.str])]
def yK (ρ:Type):é ρ:=⟨[],56,6,Oi,fun(p:kN) (v:ge) a b=>oJ p.2.2.2.2.2.1 v.1 v.2 (fun c d=>a (c,d)) (b 0)⟩
def Oh:Å:=Ls 0 [tI,tI,ae,aa,af,ac,aa] [.str,tI] ⟨173,.any::.box 0 0::.any::.var .str::aN 7 [.var tI],[bK]⟩ [(.exit 8,⟨173,[.any,.box 0 0,.any,.var .str],[bK]⟩,[.str])]
def yJ (ρ:Type):é ρ:=⟨[],56,8,Oh,fun(p:kN) (v:ge) a b=>oI p.2.2.2.2.2.2 v.1 v.2 (fun c d=>a (c,d)) (b 0)⟩
def kL (ρ:Type):Env ρ:=Ö [(124,XU)] [yN ρ,yM ρ,yL ρ,yK ρ,yJ ρ]
def HS:ì:=⟨[Ä],[.str],fun(x:a8)=>ĵ x⟩
def NV:Å:=Ls 0 [tI,tI,tI,ae,aa,af,ac,aa,ai] [.str,tI] ⟨53,[.any,.box 0 0,.any,.var .str,.con tI,.var tI],[bP]⟩ [(.exit 2,⟨53,[.any,.box 0 0,.any,.var .str,.con tI],[bP]⟩,[.str])]
def yu (ρ:Type):é ρ:=⟨[],17,2,NV,fun(p:ry) (v:ge) a b=>lM p.1 p.2.2.2.2.2.2.2.2 v.1 v.2 (fun c d=>a (c,d)) (b 0)⟩
def NW:Å:=Ls 0 [tI,tI,ae,aa,af,ac,aa,ai] [.str,tI] ⟨53,[.any,.box 0 0,.any,.var .str,.var tI],[bP]⟩ [(.exit 0,⟨53,[.any,.box 0 0,.any,.var .str],[bP]⟩,[.str])]
def yv (ρ:Type):é ρ:=⟨[],17,0,NW,fun(p:lw) (v:ge) a b=>lN p.2.2.2.2.2.2.2 v.1 v.2 (fun c d=>a (c,d)) (b 0)⟩
def yw (ρ:Type):Env ρ:=Ö [(56,HV),(57,xE)] [yu ρ,yv ρ]
def HU:ì:=⟨[.str,(.int .u8)],[ao],fun(x:Val (.pair .str (.int .u8)))=>mD x.1 x.2⟩
def N9:Å:=Ls 0 [.str,(.int .u8)] [tI,tI,ao] ⟨34,[.con .str,.con (.int .u8),.any,.any,.any,.own 0,.var tI,.var tI],[.rowv .str]⟩ [(.exit 0,⟨34,[.con .str,.con (.int .u8),.any,.any,.any,.own 0,.var tI],[.rowv .str]⟩,[tI,ao])]
def yH (ρ:Type):é ρ:=⟨[],51,0,N9,fun(p:Val (.pair .str (.int .u8))) (v:Val (.pair tI bi)) a b=>vt p.1 p.2 v.1 v.2.1 v.2.2 (fun c d e=>a (c,d,e)) (b 0)⟩
def JL (ρ:Type):Env ρ:=Ö [] [yH ρ]
def Jl:ì:=⟨[ao],[ab],fun(x:ey)=>sl x⟩
def H8:Å:=Ls 0 [ao,tI,ab] [tI,tI] ⟨62,[.con ao,.any,.any,.own 0,.con tI,.var tI,.var tI],[.rowc tI]⟩ [(.exit 2,⟨62,[.con ao,.any,.any,.own 0,.con tI,.var tI],[.rowc tI]⟩,[tI])]
def t8 (ρ:Type):é ρ:=⟨[],52,2,H8,fun(p:Val (.pair ao ð)) (v:bx) a b=>lL p.1 p.2.1 v.1 v.2 (fun c d=>a (c,d)) (b 0)⟩
def H9:Å:=Ls 0 [ao] [tI,ab] ⟨62,[.con ao,.any,.any,.own 0,.var tI],cF⟩ [(.exit 0,⟨62,[.con ao,.any,.any,.own 0],cF⟩,[ab])]
def ud (ρ:Type):é ρ:=⟨[],52,0,H9,fun(p:ey) (v:dy) a b=>qg p v.1 v.2 (fun c d=>a (c,d)) (b 0)⟩
def sM (ρ:Type):Env ρ:=Ö [] [t8 ρ,ud ρ]
def Dc:ì:=⟨[.str],[tI],fun(x:Val .str)=>ks x⟩
def KN:Å:=Ls 0 [.str] [tI,tI] ⟨44,[.con .str,.any,.any,.var tI,.var tI],[]⟩ [(.exit 0,⟨44,[.con .str,.any,.any,.var tI],[]⟩,[tI])]
def wC (ρ:Type):é ρ:=⟨[],253,0,KN,fun(p:Val .str) (v:bx) a b=>sO p v.1 v.2 (fun c d=>a (c,d)) (b 0)⟩
def FJ (ρ:Type):Env ρ:=Ö [] [wC ρ]
def Jn:ì:=⟨[ao,tI],[ab],fun(x:Val (.pair ao tI))=>sm x.1 x.2⟩
def Ic:Å:=Ls 0 [ao,tI] [tI,ab] ⟨29,[.con ao,.con tI,.any,.any,.any,.own 0,.var tI],cF⟩ [(.exit 0,⟨29,[.con ao,.con tI,.any,.any,.any,.own 0],cF⟩,[ab])]
def uh (ρ:Type):é ρ:=⟨[],196,0,Ic,fun(p:Val (.pair ao tI)) (v:dy) a b=>lO p.1 v.1 v.2 (fun c d=>a (c,d)) (b 0)⟩
def Ib:Å:=Ls 0 [tI] [ab] ⟨29,[.any,.con tI,.any,.any,.any,.own 0],cF⟩ [(.exit 2,⟨29,[.any,.con tI,.any,.any,.any,.own 0],cF⟩,[ab])]
def ug (ρ:Type):é ρ:=⟨[],196,2,Ib,fun(p:Int) (v:an) a b=>qi p v (fun c=>a c) (b 0)⟩
def sN (ρ:Type):Env ρ:=Ö [(253,Dc)] [uh ρ,ug ρ]
def Ti:ì:=⟨[ao],[ab,ab],fun(x:ey)=>AF x⟩
def N0:Å:=Ls 0 [ao] [.bool,tI,ab,ab] ⟨50,[.con ao,.any,.any,.any,.own 0,.own 1,.var .bool,.var tI],[.rowv tI,.rowv tI]⟩ [(.exit 0,⟨50,[.con ao,.any,.any,.any,.own 0,.own 1],[.rowv tI,.rowv tI]⟩,[ab,ab])]
def yD (ρ:Type):é ρ:=⟨[],197,0,N0,fun(p:ey) (v:Val (.pair .bool (.pair tI aT))) a b=>vq p v.1 v.2.1 v.2.2.1 v.2.2.2 (fun c d e f=>a (c,d,e,f)) (b 0)⟩
def JJ (ρ:Type):Env ρ:=Ö [(253,Dc)] [yD ρ]
def Tm:ì:=⟨[.str],[È,.bool],fun(x:Val .str)=>pz x⟩
def yP:Å:=Ls 0 [.str,ao,tI,tI] [tI,tI,tI,ae,aa,af,ac,aa] ⟨38,[.con .str,.any,.box 0 0,.any,.con ao,.box 1 0,.var tI],dr⟩ [(.exit 0,⟨38,[.con .str,.any,.box 0 0,.any,.con ao,.box 1 0],dr⟩,[tI,tI,ae,aa,af,ac,aa])]
def yO (ρ:Type):é ρ:=⟨[],53,0,yP,fun(p:Val (tyL yP.cs)) (v:Val bg) a b=>lQ p.2.1 v.1 v.2.1 v.2.2.1 v.2.2.2.1 v.2.2.2.2.1 v.2.2.2.2.2.1 v.2.2.2.2.2.2.1 v.2.2.2.2.2.2.2 (fun c d e f g h i j=>a (c,d,e,f,g,h,i,j)) (b 0)⟩
def JM (ρ:Type):Env ρ:=Ö [(45,HW),(51,HU),(56,HV),(196,Jn),(197,Ti)] [yO ρ]
def Tg:ì:=⟨[.str],[Ä,.bool],fun(x:Val .str)=>uK x⟩
def yy:Å:=Ls 0 [.str,ao,tI,tI,tI,tI] [.str,tI,ai] ⟨76,[.con .str,.any,.box 0 0,.any,.con ao,.var .str,.box 1 0,.var tI],[cg,cE,.rowv ð]⟩ [(.exit 0,⟨76,[.con .str,.any,.box 0 0,.any,.con ao,.var .str,.box 1 0],[cg,cE,.rowv ð]⟩,[.str,ai])]
def yx (ρ:Type):é ρ:=⟨[],15,0,yy,fun(p:Val (tyL yy.cs)) (v:Val (.pair .str (.pair tI ai))) a b=>jg p.2.1 v.1 v.2.1 v.2.2 (fun c d e=>a (c,d,e)) (b 0)⟩
def JH (ρ:Type):Env ρ:=Ö [(13,HT),(17,HS),(51,HU),(52,Jl),(53,Tm)] [yx ρ]
def mI:ì:=⟨[Ä,ð,.str],[.bool],fun(x:Val (.pair Ä (.pair ð .str)))=>sS x.1 x.2.1 x.2.2⟩
def wo (ρ:Type):Env ρ:=Ö [(5,Ta),(6,Db),(7,XQ),(8,MN),(11,XS),(13,HT),(14,acJ),(15,Tg),(16,ŭ),(17,HS)] []
end Go.Proofs.ZzM
end
