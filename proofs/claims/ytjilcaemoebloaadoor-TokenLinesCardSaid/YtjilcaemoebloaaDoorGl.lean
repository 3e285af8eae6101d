/- What is known of package-level variables, whatever the call: one holds a number, two hold errors, three are tables. -/
import Derived.WalkKit
namespace Go.Proofs.YtjilcaemoebloaaDoor
def tab64 : List Int := [0, 1, 56, 2, 57, 49, 28, 3, 61, 58, 42, 50, 38, 29, 17, 4, 62, 47, 59, 36, 45, 43, 51, 22, 53, 39, 33, 30, 24, 18, 12, 5, 63, 55, 48, 27, 60, 41, 37, 16, 46, 35, 44, 21, 52, 32, 23, 11, 54, 26, 40, 15, 34, 20, 31, 10, 25, 14, 19, 9, 13, 8, 7, 6]
def tab32 : List Int := [0, 1, 28, 2, 29, 14, 24, 3, 30, 22, 20, 15, 25, 17, 4, 8, 31, 27, 13, 23, 21, 19, 16, 7, 26, 12, 18, 6, 11, 5, 10, 9]
def tab10 : List Int := [1, 10, 100, 1000, 10000, 100000, 1000000, 10000000, 100000000, 1000000000, 10000000000, 100000000000, 1000000000000, 10000000000000, 100000000000000, 1000000000000000, 10000000000000000, 100000000000000000, 1000000000000000000, 10000000000000000000]
def glT (g : Nat) (k : IntKind) (l : List Int) : List (Addr × (Value → Prop)) := (List.range l.length).map fun i => (⟨g, i, none⟩, fun v => v = .int k (l.getD i 0))
def glL : List (Addr × (Value → Prop)) := [(⟨0, 0, none⟩, fun v => ∃ m : Int, v = .int .i64 m), (⟨2, 0, none⟩, fun v => ∃ t x, v = .iface t x), (⟨3, 0, none⟩, fun v => ∃ t x, v = .iface t x)] ++
  (glT 5 .u8 tab64 ++ (glT 4 .u8 tab32 ++ glT 1 .u64 tab10))
end Go.Proofs.YtjilcaemoebloaaDoor
