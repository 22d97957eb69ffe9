/- lemmas -/
import Derived.Test.YtbiecdpaididoaaGreatDoorAmC
set_option linter.all false
noncomputable section
namespace Go.Am
open Go
def qn:Ğ:=⟨[.int .i64],[.str],fun n=>M3 n⟩
def iu:Ğ:=⟨[.str,.str],[.str],fun(x:ByteArray×ByteArray)=>Lq x.1 x.2⟩
def ο:Ğ:=⟨[.str,.int .u8],[.int .i64],fun(x:ByteArray×Int)=>indexF x.1 x.2⟩
def nZ:Ğ:=⟨[.str,.str],[.slice .str],fun(x:ByteArray×ByteArray)=>Ea x.1 x.2⟩
def qm:Ğ:=⟨[.slice .str,.str],[.str],fun(x:AS ByteArray×ByteArray)=>MY x.1 x.2⟩
end Go.Am
end
