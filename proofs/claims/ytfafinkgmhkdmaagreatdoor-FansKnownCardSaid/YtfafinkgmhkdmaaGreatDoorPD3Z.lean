/-
 What the functions on units and patterns compute: units, kinds, patterns of kinds.
-/
import Derived.Test.YtfafinkgmhkdmaaGreatDoorPC3Z
import Derived.Test.YtfafinkgmhkdmaaGreatDoorAb6
set_option maxRecDepth 1000000
set_option linter.unusedVariables false
namespace Go.Proofs.YtfafinkgmhkdmaaGreatDoor.P
open Go Go.Ab Go.Proofs.YtfafinkgmhkdmaaGreatDoor.X
def unB (w h c:Int):Bool:=ltb (c/3) (nbI w h (c/3) (c%3))
def unL (w h:Int)(n:Nat):List Int:=((List.range n).map Int.ofNat).filter (unB w h)
def units (w h:Int):List Int:=unL w h (3*(4*w*h).toNat)
structure L20 where (i:Int)(l:List AV)(n:Nat)
abbrev Cr:Type:=Int×Int×Int
def RCr:RowS Cr where
 k:=3
 row x:=[(.i64,x.1),(.u8,x.2.1),(.u8,x.2.2)]
 len _:=rfl
def flatC (l:List Cr):List AV:=l.flatMap RCr.av
def cC (l:List Cr)(i:Int):Int:=(l[i.toNat]?.getD (0,0,0)).1
def cE (l:List Cr)(i:Int):Int:=(l[i.toNat]?.getD (0,0,0)).2.1
def cK (l:List Cr)(i:Int):Int:=(l[i.toNat]?.getD (0,0,0)).2.2
def crV (l:List Cr)(i:Int):List AV:=[.int .i64 (cC l i),.int .u8 (cE l i),.int .u8 (cK l i)]
def wthL:List Int->List Int->List Cr
 |c::us,k::ks=>if k=0 then wthL us ks else(c/3,c%3,k)::wthL us ks
 |_,_=>[]
def C1O (w h:Int)(cs:List Cr):AV:=.agg [.int .i64 w,.int .i64 h,.imm (.vals (flatC cs)) cs.length none]
structure L23 where (i:Int)(l:List AV)(n:Nat)
structure L1 where (i:Int)
structure L19 where (i:Int)(l:List Int)
end Go.Proofs.YtfafinkgmhkdmaaGreatDoor.P
