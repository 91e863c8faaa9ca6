/- The data of the chain, as plain inductive types, and how they lie in memory. -/
import Derived.Test.YtcinhjfonmjneaaLibB
import Derived.IntWalk
namespace Go.Abs

theorem w64 {n : Int} (h1 : -9223372036854775808 ≤ n) (h2 : n ≤ 9223372036854775807) : IntKind.i64.wrap n = n := IntWalk.i64_in n ⟨h1, h2⟩

inductive Ty where
  | mk (T : Int) (args : List Ty)
  deriving Inhabited

inductive Nd where
  | mk (kind n p : Int) (s : List UInt8) (args : List Nd)
  deriving Inhabited

inductive Vl where
  | mk (k n a : Int) (s : List UInt8) (args : List Vl) (types : List Ty) (code : List Nd)
  deriving Inhabited

abbrev cint (n : Int) : CV := .int .i64 n

mutual
def encTy : Ty → CV
  | .mk T args => .agg [.int .i64 T, .sl 2 (encTys args)]
def encTys : List Ty → List CV
  | [] => []
  | t :: l => encTy t :: encTys l
end

mutual
def encNd : Nd → CV
  | .mk kind n p s args => .agg [.int .i64 kind, .int .i64 n, .int .i64 p, .str s, .sl 5 (encNds args)]
def encNds : List Nd → List CV
  | [] => []
  | t :: l => encNd t :: encNds l
end

mutual
def encVl : Vl → CV
  | .mk k n a s args types code => .agg [.int .i64 k, .int .i64 n, .int .i64 a, .str s, .sl 7 (encVls args), .sl 2 (encTys types), .sl 5 (encNds code)]
def encVls : List Vl → List CV
  | [] => []
  | t :: l => encVl t :: encVls l
end

theorem encTys_get : ∀ (l : List Ty) (i : Nat), (encTys l)[i]? = l[i]?.map encTy
  | [], i => by simp [encTys]
  | t :: l, 0 => by simp [encTys]
  | t :: l, i + 1 => by simp [encTys, encTys_get l i]
theorem encTys_length : ∀ (l : List Ty), (encTys l).length = l.length
  | [] => rfl
  | t :: l => by simp [encTys, encTys_length l]
theorem encNds_get : ∀ (l : List Nd) (i : Nat), (encNds l)[i]? = l[i]?.map encNd
  | [], i => by simp [encNds]
  | t :: l, 0 => by simp [encNds]
  | t :: l, i + 1 => by simp [encNds, encNds_get l i]
theorem encNds_length : ∀ (l : List Nd), (encNds l).length = l.length
  | [] => rfl
  | t :: l => by simp [encNds, encNds_length l]
theorem encVls_get : ∀ (l : List Vl) (i : Nat), (encVls l)[i]? = l[i]?.map encVl
  | [], i => by simp [encVls]
  | t :: l, 0 => by simp [encVls]
  | t :: l, i + 1 => by simp [encVls, encVls_get l i]
theorem encVls_length : ∀ (l : List Vl), (encVls l).length = l.length
  | [] => rfl
  | t :: l => by simp [encVls, encVls_length l]


end Go.Abs
