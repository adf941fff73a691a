/- What TimesFor and the law about it compute. -/
import Derived.Test.YtffjfnoocbgajaaM13
import Derived.Test.YtffjfnoocbgajaaM18
import Derived.Test.YtffjfnoocbgajaaM19
import Derived.Test.YtffjfnoocbgajaaM20
import Derived.Test.YtffjfnoocbgajaaM21
import Derived.Test.YtffjfnoocbgajaaM26
import Derived.Test.YtffjfnoocbgajaaM30
namespace Go.Proofs.Ytffjfnoocbgajaa.M
open Go.RowKit Go.Proofs.YtffjfnoocbgajaaW.PrintWords Go.Proofs.YtffjfnoocbgajaaW.PrintLast Go.Proofs.YtffjfnoocbgajaaW.PrintMore
mutual
/-- find: on from a code, the knobs behind the list out being turned; whether it leads to the other code, and the list then. -/
def impl_TimesFor.l0 : Nat → Int → Int → List (List Int) → ByteArray → ByteArray → List Int → Option (Bool × List Int)
  | 0, _, _, _, _, _, _ => none
  | k + 1, W, D, ks, to_, code, pre => if ((pre.length : Int) == (ks.length : Int)) = true then some (code.toList == to_.toList, pre) else impl_TimesFor.l1 k W D ks to_ code pre 0
def impl_TimesFor.l1 : Nat → Int → Int → List (List Int) → ByteArray → ByteArray → List Int → Int → Option (Bool × List Int)
  | 0, _, _, _, _, _, _, _ => none
  | k + 1, W, D, ks, to_, code, pre, n => if n < D then (if pre.length < 17592186044416 then (impl_Gears_turned.f k W D ks code (pre.length : Int) n).bind fun c => (impl_TimesFor.l0 k W D ks to_ c (pre ++ [n])).bind fun r => if r.1 = true then some (true, r.2) else (if pre.length ≤ r.2.length then impl_TimesFor.l1 k W D ks to_ code (r.2.take pre.length) (wrap64 (n + 1)) else none) else none) else some (false, pre)
end
def impl_TimesFor.f (k : Nat) (W D : Int) (ks : List (List Int)) (s t : ByteArray) : Option (List Int × Bool) :=
  (impl_geared.f k W D ks [s, t]).bind fun b => if (!b) = true then some ([], false) else (impl_TimesFor.l0 k W D ks t s []).bind fun r => if (!r.1) = true then some ([], false) else some (r.2, true)
mutual
def spec_joTimes.f : Nat → Int → Int → List (List Int) → ByteArray → ByteArray → List Int → Option (List Int × Bool)
  | 0, _, _, _, _, _, _ => none
  | k + 1, W, D, ks, s, t, beg => if ((beg.length : Int) == (ks.length : Int)) = true then some (beg, s.toList == t.toList) else (if beg.length + 1 ≤ ks.length then spec_joTimes.l0 k W D ks s t beg 0 else none)
def spec_joTimes.l0 : Nat → Int → Int → List (List Int) → ByteArray → ByteArray → List Int → Int → Option (List Int × Bool)
  | 0, _, _, _, _, _, _, _ => none
  | k + 1, W, D, ks, s, t, beg, n => if n < D then (spec_joTurn.f k W D ks s (beg.length : Int) n).bind fun nx => (spec_joFar.f k W D (ks.drop (beg.length + 1)) nx).bind fun far => (spec_whNumber.f k W D t).bind fun i => if 0 ≤ i then (if i < (far.length : Int) then (if 0 ≤ rd far i then (spec_l1Own.f beg).bind fun q => (if q.length < 17592186044416 then spec_joTimes.f k W D ks nx t (q ++ [n]) else none) else spec_joTimes.l0 k W D ks s t beg (wrap64 (n + 1))) else none) else none else some ([], false)
end
def spec_TimesFor.f (k : Nat) (W D : Int) (ks : List (List Int)) (s t : ByteArray) : Option (List Int × Bool) :=
  (spec_joTwo.f k W D ks s t).bind fun b => if (!b) = true then some ([], false) else (spec_joTimes.f k W D ks s t []).bind fun r => if (!r.2) = true then some ([], false) else some (r.1, true)
end Go.Proofs.Ytffjfnoocbgajaa.M
