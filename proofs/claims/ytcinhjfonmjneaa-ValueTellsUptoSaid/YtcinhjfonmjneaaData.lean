/- The data of the chain, as plain inductive types, and how they lie in memory. -/
import Derived.Test.YtcinhjfonmjneaaLibC
import Derived.IntWalk
namespace Go.Abs

theorem w64 {n : Int} (h1 : -9223372036854775808 ≤ n) (h2 : n ≤ 9223372036854775807) : IntKind.i64.wrap n = n := IntWalk.i64_in n ⟨h1, h2⟩

inductive Ty where
  | mk (T : Int) (args : List Ty)
  deriving Inhabited

inductive Nd where
  | mk (kind n p : Int) (s : List UInt8) (args : List Nd)
  deriving Inhabited

inductive Vl where
  | mk (k n a : Int) (s : List UInt8) (args : List Vl) (types : List Ty) (code : List Nd)
  deriving Inhabited

abbrev cint (n : Int) : CV := .int .i64 n

mutual
def encTy : Ty → CV
  | .mk T args => .agg [.int .i64 T, .sl 2 (encTys args)]
def encTys : List Ty → List CV
  | [] => []
  | t :: l => encTy t :: encTys l
end

mutual
def encNd : Nd → CV
  | .mk kind n p s args => .agg [.int .i64 kind, .int .i64 n, .int .i64 p, .str s, .sl 5 (encNds args)]
def encNds : List Nd → List CV
  | [] => []
  | t :: l => encNd t :: encNds l
end

mutual
def encVl : Vl → CV
  | .mk k n a s args types code => .agg [.int .i64 k, .int .i64 n, .int .i64 a, .str s, .sl 7 (encVls args), .sl 2 (encTys types), .sl 5 (encNds code)]
def encVls : List Vl → List CV
  | [] => []
  | t :: l => encVl t :: encVls l
end

theorem encTys_get : ∀ (l : List Ty) (i : Nat), (encTys l)[i]? = l[i]?.map encTy
  | [], i => by simp [encTys]
  | t :: l, 0 => by simp [encTys]
  | t :: l, i + 1 => by simp [encTys, encTys_get l i]
theorem encTys_length : ∀ (l : List Ty), (encTys l).length = l.length
  | [] => rfl
  | t :: l => by simp [encTys, encTys_length l]
theorem encNds_get : ∀ (l : List Nd) (i : Nat), (encNds l)[i]? = l[i]?.map encNd
  | [], i => by simp [encNds]
  | t :: l, 0 => by simp [encNds]
  | t :: l, i + 1 => by simp [encNds, encNds_get l i]
theorem encNds_length : ∀ (l : List Nd), (encNds l).length = l.length
  | [] => rfl
  | t :: l => by simp [encNds, encNds_length l]
theorem encVls_get : ∀ (l : List Vl) (i : Nat), (encVls l)[i]? = l[i]?.map encVl
  | [], i => by simp [encVls]
  | t :: l, 0 => by simp [encVls]
  | t :: l, i + 1 => by simp [encVls, encVls_get l i]
theorem encVls_length : ∀ (l : List Vl), (encVls l).length = l.length
  | [] => rfl
  | t :: l => by simp [encVls, encVls_length l]

abbrev I64 (n : Int) : Prop := -9223372036854775808 ≤ n ∧ n ≤ 9223372036854775807

mutual
/-- All numbers in it are numbers of 64 bits. -/
def tyWf : Ty → Prop
  | .mk T args => I64 T ∧ tysWf args
def tysWf : List Ty → Prop
  | [] => True
  | t :: l => tyWf t ∧ tysWf l
end
mutual
def ndWf : Nd → Prop
  | .mk kind n p _ args => I64 kind ∧ I64 n ∧ I64 p ∧ ndsWf args
def ndsWf : List Nd → Prop
  | [] => True
  | t :: l => ndWf t ∧ ndsWf l
end
mutual
def vlWf : Vl → Prop
  | .mk k n a _ args types code => I64 k ∧ I64 n ∧ I64 a ∧ vlsWf args ∧ tysWf types ∧ ndsWf code
def vlsWf : List Vl → Prop
  | [] => True
  | t :: l => vlWf t ∧ vlsWf l
end
mutual
/-- How large it is, all told. -/
def tySize : Ty → Nat
  | .mk _ args => tysSize args + 1
def tysSize : List Ty → Nat
  | [] => 0
  | t :: l => tySize t + tysSize l
end
mutual
def ndSize : Nd → Nat
  | .mk _ _ _ s args => s.length + ndsSize args + 1
def ndsSize : List Nd → Nat
  | [] => 0
  | t :: l => ndSize t + ndsSize l
end
mutual
def vlSize : Vl → Nat
  | .mk _ _ _ s args types code => s.length + vlsSize args + tysSize types + ndsSize code + 1
def vlsSize : List Vl → Nat
  | [] => 0
  | t :: l => vlSize t + vlsSize l
end

theorem tySize_pos (t : Ty) : 1 ≤ tySize t := by cases t; simp [tySize]
theorem ndSize_pos (t : Nd) : 1 ≤ ndSize t := by cases t; simp [ndSize]
theorem vlSize_pos (t : Vl) : 1 ≤ vlSize t := by cases t; simp [vlSize]
theorem tysSize_len : ∀ (l : List Ty), l.length ≤ tysSize l
  | [] => Nat.le_refl _
  | t :: l => by have := tySize_pos t; have := tysSize_len l; simp only [List.length_cons, tysSize]; omega
theorem ndsSize_len : ∀ (l : List Nd), l.length ≤ ndsSize l
  | [] => Nat.le_refl _
  | t :: l => by have := ndSize_pos t; have := ndsSize_len l; simp only [List.length_cons, ndsSize]; omega
theorem vlsSize_len : ∀ (l : List Vl), l.length ≤ vlsSize l
  | [] => Nat.le_refl _
  | t :: l => by have := vlSize_pos t; have := vlsSize_len l; simp only [List.length_cons, vlsSize]; omega
theorem tysSize_mem : ∀ {l : List Ty} {x : Ty}, x ∈ l → tySize x ≤ tysSize l
  | [], x, h => by simp at h
  | t :: l, x, h => by
    simp only [tysSize]
    rcases List.mem_cons.1 h with rfl | h
    · omega
    · have := tysSize_mem h; omega
theorem ndsSize_mem : ∀ {l : List Nd} {x : Nd}, x ∈ l → ndSize x ≤ ndsSize l
  | [], x, h => by simp at h
  | t :: l, x, h => by
    simp only [ndsSize]
    rcases List.mem_cons.1 h with rfl | h
    · omega
    · have := ndsSize_mem h; omega
theorem vlsSize_mem : ∀ {l : List Vl} {x : Vl}, x ∈ l → vlSize x ≤ vlsSize l
  | [], x, h => by simp at h
  | t :: l, x, h => by
    simp only [vlsSize]
    rcases List.mem_cons.1 h with rfl | h
    · omega
    · have := vlsSize_mem h; omega
theorem ndsWf_mem : ∀ {l : List Nd} {x : Nd}, ndsWf l → x ∈ l → ndWf x
  | [], x, _, h => by simp at h
  | t :: l, x, hw, h => by
    rcases List.mem_cons.1 h with rfl | h
    · exact hw.1
    · exact ndsWf_mem hw.2 h
theorem vlsWf_mem : ∀ {l : List Vl} {x : Vl}, vlsWf l → x ∈ l → vlWf x
  | [], x, _, h => by simp at h
  | t :: l, x, hw, h => by
    rcases List.mem_cons.1 h with rfl | h
    · exact hw.1
    · exact vlsWf_mem hw.2 h

end Go.Abs
