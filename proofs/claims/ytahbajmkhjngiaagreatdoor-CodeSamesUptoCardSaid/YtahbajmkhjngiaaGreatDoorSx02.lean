/-
  Plain laws: tokens, expressions as trees, and the grammar of expressions as plain functions over lists of tokens. No program, no world. The byte of a text at a place.
-/
import Derived.WalkKit
set_option linter.all false
set_option maxRecDepth 100000
set_option maxHeartbeats 8000000
namespace Go.Proofs.YtahbajmkhjngiaaGreatDoor
abbrev Bs:=List UInt8
structure Tok where
 kind:Int
 pos:Int
 text:Bs
 deriving DecidableEq
def AM(b:UInt8):Bool:=(65≤b&&b≤90)||(48≤b&&b≤57)||b==95
def Ay(s:Bs):Bool:= !s.isEmpty&&decide (s.length≤10)&&!(match s with|b::_=>(48≤b&&b≤57)| []=>false)&&s.all AM
def bAt(s:Bs)(i:Nat):UInt8:=(s[i]?).getD 0
theorem Bc{s:Bs}{i:Nat}(h:i<s.length):bAt s i=s[i]:=by simp[bAt,h]
end Go.Proofs.YtahbajmkhjngiaaGreatDoor
