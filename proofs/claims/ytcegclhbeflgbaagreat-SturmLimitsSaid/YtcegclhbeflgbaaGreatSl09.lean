/- rules, arithmetic and contracts: part 10
   Proved without conditions of its own: each theorem bears its own. -/
import Derived.Test.YtcegclhbeflgbaaGreatSl03
set_option linter.all false
namespace Go.Sky
end Go.Sky
namespace Go.Sky
def rterm (a b : Int) : Nat → List Int
  | 0 => [1]
  | i + 1 => pmul (rterm a b i) (tzl [a, b])
def rsum (p : List Int) (a b d : Int) : Nat → List Int
  | 0 => []
  | i + 1 => padd (rsum p a b d i) (pscale (rterm a b i) (cf p i * d ^ (p.length - 1 - i)))
def hs (f : Nat → PS) : Nat → PS
  | 0 => 0
  | n + 1 => hs f n + f n
theorem ps_tzl (p : List Int) : ps (tzl p) = ps p := PS.ext' fun i => cf_tzl p i
end Go.Sky

