/- The closed call awake of the package tree returns true. -/
import Derived.Test.YtcanjngalglfiaaGreatDoorAeE
/- What is known of closed calls; and the closed call that it is for. -/
set_option maxRecDepth 1000000
namespace Go.AE
open Go.Proofs
/-- toponym/rules.masked, 329 operations -/
def TKa0 : List AV := [.str [32, 97, 32]]
def TKr0 : AV := .str [32, 97, 32]
/-- toponym/chars.Kind, 217 operations -/
def TKa1 : List AV := [.int .i32 65]
def TKr1 : AV := .int .i64 1
/-- toponym/chars.Kind, 217 operations -/
def TKa2 : List AV := [.int .i32 97]
def TKr2 : AV := .int .i64 1
/-- toponym/chars.Kind, 217 operations -/
def TKa3 : List AV := [.int .i32 98]
def TKr3 : AV := .int .i64 1
/-- toponym/chars.Kind, 217 operations -/
def TKa4 : List AV := [.int .i32 99]
def TKr4 : AV := .int .i64 1
/-- slices.BinarySearch[[]string,string], 110 operations -/
def TKa5 : List AV := [.list [.str [99, 110, 61, 32, 97, 32, 0], .str [99, 110, 61, 32, 97, 32, 0, 99, 110, 61, 32, 98, 32, 0]] false, .str [99, 110, 61, 32, 97, 32, 0]]
def TKr5 : AV := .tuple [.int .i64 0, .bool true]
/-- toponym/dn.Word, 62 operations -/
def TKa6 : List AV := [.str [99, 110]]
def TKr6 : AV := .bool true
/-- toponym/rules.Key, 872 operations -/
def TKa7 : List AV := [.agg [.list [.agg [.str [99, 108, 115], .str [], .int .i64 9, .int .i64 9, .bool false, .bool false], .agg [.str [99, 110], .str [], .int .i64 1, .int .i64 2, .bool false, .bool false]] false, .list [.agg [.str [116, 104, 105, 110, 103], .str [], .bool false, .list [.str [99, 108, 115], .str [99, 110]] false, .nils]] false], .int .i64 2, .str [65]]
def TKr7 : AV := .tuple [.str [32, 97, 32], .int .i64 0]
/-- toponym/prep.Value, 976 operations -/
def TKa8 : List AV := [.int .i64 2, .str [97]]
def TKr8 : AV := .tuple [.str [32, 97, 32], .int .i64 0]
/-- toponym/prep.Value, 976 operations -/
def TKa9 : List AV := [.int .i64 2, .str [98]]
def TKr9 : AV := .tuple [.str [32, 98, 32], .int .i64 0]
/-- toponym/prep.Value, 976 operations -/
def TKa10 : List AV := [.int .i64 2, .str [99]]
def TKr10 : AV := .tuple [.str [32, 99, 32], .int .i64 0]
/-- toponym/attrs.Check, 893 operations -/
def TKa11 : List AV := [.list [.agg [.str [99, 108, 115], .str [], .int .i64 9, .int .i64 9, .bool false, .bool false], .agg [.str [99, 110], .str [], .int .i64 1, .int .i64 2, .bool false, .bool false]] false]
def TKr11 : AV := .int .i64 0
/-- toponym/attrs.Is, 372 operations -/
def TKa12 : List AV := [.list [.agg [.str [99, 108, 115], .str [], .int .i64 9, .int .i64 9, .bool false, .bool false], .agg [.str [99, 110], .str [], .int .i64 1, .int .i64 2, .bool false, .bool false]] false, .str [99, 108, 115], .str [99, 108, 115]]
def TKr12 : AV := .bool true
/-- toponym/attrs.Is, 373 operations -/
def TKa13 : List AV := [.list [.agg [.str [99, 108, 115], .str [], .int .i64 9, .int .i64 9, .bool false, .bool false], .agg [.str [99, 110], .str [], .int .i64 1, .int .i64 2, .bool false, .bool false]] false, .str [99, 110], .str [99, 110]]
def TKr13 : AV := .bool true
/-- toponym/rules.Key, 38 operations -/
def TKa14 : List AV := [.agg [.list [.agg [.str [99, 108, 115], .str [], .int .i64 9, .int .i64 9, .bool false, .bool false], .agg [.str [99, 110], .str [], .int .i64 1, .int .i64 2, .bool false, .bool false]] false, .list [.agg [.str [116, 104, 105, 110, 103], .str [], .bool false, .list [.str [99, 108, 115], .str [99, 110]] false, .nils]] false], .int .i64 2, .str [97]]
def TKr14 : AV := .tuple [.str [32, 97, 32], .int .i64 0]
/-- toponym/rules.Key, 38 operations -/
def TKa15 : List AV := [.agg [.list [.agg [.str [99, 108, 115], .str [], .int .i64 9, .int .i64 9, .bool false, .bool false], .agg [.str [99, 110], .str [], .int .i64 1, .int .i64 2, .bool false, .bool false]] false, .list [.agg [.str [116, 104, 105, 110, 103], .str [], .bool false, .list [.str [99, 108, 115], .str [99, 110]] false, .nils]] false], .int .i64 2, .str [98]]
def TKr15 : AV := .tuple [.str [32, 98, 32], .int .i64 0]
/-- toponym/rules.Key, 38 operations -/
def TKa16 : List AV := [.agg [.list [.agg [.str [99, 108, 115], .str [], .int .i64 9, .int .i64 9, .bool false, .bool false], .agg [.str [99, 110], .str [], .int .i64 1, .int .i64 2, .bool false, .bool false]] false, .list [.agg [.str [116, 104, 105, 110, 103], .str [], .bool false, .list [.str [99, 108, 115], .str [99, 110]] false, .nils]] false], .int .i64 2, .str [99]]
def TKr16 : AV := .tuple [.str [32, 99, 32], .int .i64 0]
/-- toponym/classes.Check, 1068 operations -/
def TKa17 : List AV := [.agg [.list [.agg [.str [99, 108, 115], .str [], .int .i64 9, .int .i64 9, .bool false, .bool false], .agg [.str [99, 110], .str [], .int .i64 1, .int .i64 2, .bool false, .bool false]] false, .list [.agg [.str [116, 104, 105, 110, 103], .str [], .bool false, .list [.str [99, 108, 115], .str [99, 110]] false, .nils]] false]]
def TKr17 : AV := .int .i64 0
/-- toponym/rules.NameKey, 422 operations -/
def TKa18 : List AV := [.agg [.list [.agg [.str [99, 108, 115], .str [], .int .i64 9, .int .i64 9, .bool false, .bool false], .agg [.str [99, 110], .str [], .int .i64 1, .int .i64 2, .bool false, .bool false]] false, .list [.agg [.str [116, 104, 105, 110, 103], .str [], .bool false, .list [.str [99, 108, 115], .str [99, 110]] false, .nils]] false], .list [.list [.agg [.str [99, 110], .str [65]]] false] false]
def TKr18 : AV := .tuple [.str [99, 110, 61, 32, 97, 32, 0], .int .i64 0]
/-- toponym/entry.attribute, 762 operations -/
def TKa19 : List AV := [.agg [.list [.agg [.str [99, 108, 115], .str [], .int .i64 9, .int .i64 9, .bool false, .bool false], .agg [.str [99, 110], .str [], .int .i64 1, .int .i64 2, .bool false, .bool false]] false, .list [.agg [.str [116, 104, 105, 110, 103], .str [], .bool false, .list [.str [99, 108, 115], .str [99, 110]] false, .nils]] false], .agg [.str [99, 108, 115], .list [.str [116, 104, 105, 110, 103]] false]]
def TKr19 : AV := .int .i64 0
/-- toponym/entry.attribute, 1099 operations -/
def TKa20 : List AV := [.agg [.list [.agg [.str [99, 108, 115], .str [], .int .i64 9, .int .i64 9, .bool false, .bool false], .agg [.str [99, 110], .str [], .int .i64 1, .int .i64 2, .bool false, .bool false]] false, .list [.agg [.str [116, 104, 105, 110, 103], .str [], .bool false, .list [.str [99, 108, 115], .str [99, 110]] false, .nils]] false], .agg [.str [99, 110], .list [.str [65]] false]]
def TKr20 : AV := .int .i64 0
/-- toponym/entry.attribute, 1099 operations -/
def TKa21 : List AV := [.agg [.list [.agg [.str [99, 108, 115], .str [], .int .i64 9, .int .i64 9, .bool false, .bool false], .agg [.str [99, 110], .str [], .int .i64 1, .int .i64 2, .bool false, .bool false]] false, .list [.agg [.str [116, 104, 105, 110, 103], .str [], .bool false, .list [.str [99, 108, 115], .str [99, 110]] false, .nils]] false], .agg [.str [99, 110], .list [.str [97]] false]]
def TKr21 : AV := .int .i64 0
/-- toponym/entry.attribute, 1099 operations -/
def TKa22 : List AV := [.agg [.list [.agg [.str [99, 108, 115], .str [], .int .i64 9, .int .i64 9, .bool false, .bool false], .agg [.str [99, 110], .str [], .int .i64 1, .int .i64 2, .bool false, .bool false]] false, .list [.agg [.str [116, 104, 105, 110, 103], .str [], .bool false, .list [.str [99, 108, 115], .str [99, 110]] false, .nils]] false], .agg [.str [99, 110], .list [.str [98]] false]]
def TKr22 : AV := .int .i64 0
/-- toponym/entry.attribute, 1099 operations -/
def TKa23 : List AV := [.agg [.list [.agg [.str [99, 108, 115], .str [], .int .i64 9, .int .i64 9, .bool false, .bool false], .agg [.str [99, 110], .str [], .int .i64 1, .int .i64 2, .bool false, .bool false]] false, .list [.agg [.str [116, 104, 105, 110, 103], .str [], .bool false, .list [.str [99, 108, 115], .str [99, 110]] false, .nils]] false], .agg [.str [99, 110], .list [.str [99]] false]]
def TKr23 : AV := .int .i64 0
/-- toponym/classes.Fit, 2059 operations -/
def TKa24 : List AV := [.agg [.list [.agg [.str [99, 108, 115], .str [], .int .i64 9, .int .i64 9, .bool false, .bool false], .agg [.str [99, 110], .str [], .int .i64 1, .int .i64 2, .bool false, .bool false]] false, .list [.agg [.str [116, 104, 105, 110, 103], .str [], .bool false, .list [.str [99, 108, 115], .str [99, 110]] false, .nils]] false], .list [.str [116, 104, 105, 110, 103]] false, .list [.str [99, 108, 115], .str [99, 110]] false]
def TKr24 : AV := .int .i64 0
/-- toponym/rules.part, 282 operations -/
def TKa25 : List AV := [.agg [.list [.agg [.str [99, 108, 115], .str [], .int .i64 9, .int .i64 9, .bool false, .bool false], .agg [.str [99, 110], .str [], .int .i64 1, .int .i64 2, .bool false, .bool false]] false, .list [.agg [.str [116, 104, 105, 110, 103], .str [], .bool false, .list [.str [99, 108, 115], .str [99, 110]] false, .nils]] false], .list [.agg [.str [99, 110], .str [97]]] false]
def TKr25 : AV := .tuple [.str [99, 110, 61, 32, 97, 32, 0], .int .i64 0]
/-- toponym/rules.part, 609 operations -/
def TKa26 : List AV := [.agg [.list [.agg [.str [99, 108, 115], .str [], .int .i64 9, .int .i64 9, .bool false, .bool false], .agg [.str [99, 110], .str [], .int .i64 1, .int .i64 2, .bool false, .bool false]] false, .list [.agg [.str [116, 104, 105, 110, 103], .str [], .bool false, .list [.str [99, 108, 115], .str [99, 110]] false, .nils]] false], .list [.agg [.str [99, 110], .str [98]]] false]
def TKr26 : AV := .tuple [.str [99, 110, 61, 32, 98, 32, 0], .int .i64 0]
/-- toponym/rules.part, 609 operations -/
def TKa27 : List AV := [.agg [.list [.agg [.str [99, 108, 115], .str [], .int .i64 9, .int .i64 9, .bool false, .bool false], .agg [.str [99, 110], .str [], .int .i64 1, .int .i64 2, .bool false, .bool false]] false, .list [.agg [.str [116, 104, 105, 110, 103], .str [], .bool false, .list [.str [99, 108, 115], .str [99, 110]] false, .nils]] false], .list [.agg [.str [99, 110], .str [99]]] false]
def TKr27 : AV := .tuple [.str [99, 110, 61, 32, 99, 32, 0], .int .i64 0]
/-- toponym/entry.Check, 459 operations -/
def TKa28 : List AV := [.agg [.list [.agg [.str [99, 108, 115], .str [], .int .i64 9, .int .i64 9, .bool false, .bool false], .agg [.str [99, 110], .str [], .int .i64 1, .int .i64 2, .bool false, .bool false]] false, .list [.agg [.str [116, 104, 105, 110, 103], .str [], .bool false, .list [.str [99, 108, 115], .str [99, 110]] false, .nils]] false], .agg [.list [.list [.agg [.str [99, 110], .str [65]]] false] false, .list [.agg [.str [99, 108, 115], .list [.str [116, 104, 105, 110, 103]] false], .agg [.str [99, 110], .list [.str [65]] false]] false]]
def TKr28 : AV := .int .i64 0
/-- toponym/entry.Check, 599 operations -/
def TKa29 : List AV := [.agg [.list [.agg [.str [99, 108, 115], .str [], .int .i64 9, .int .i64 9, .bool false, .bool false], .agg [.str [99, 110], .str [], .int .i64 1, .int .i64 2, .bool false, .bool false]] false, .list [.agg [.str [116, 104, 105, 110, 103], .str [], .bool false, .list [.str [99, 108, 115], .str [99, 110]] false, .nils]] false], .agg [.list [.list [.agg [.str [99, 110], .str [97]]] false] false, .list [.agg [.str [99, 108, 115], .list [.str [116, 104, 105, 110, 103]] false], .agg [.str [99, 110], .list [.str [97]] false]] false]]
def TKr29 : AV := .int .i64 0
/-- toponym/entry.Check, 599 operations -/
def TKa30 : List AV := [.agg [.list [.agg [.str [99, 108, 115], .str [], .int .i64 9, .int .i64 9, .bool false, .bool false], .agg [.str [99, 110], .str [], .int .i64 1, .int .i64 2, .bool false, .bool false]] false, .list [.agg [.str [116, 104, 105, 110, 103], .str [], .bool false, .list [.str [99, 108, 115], .str [99, 110]] false, .nils]] false], .agg [.list [.list [.agg [.str [99, 110], .str [99]]] false] false, .list [.agg [.str [99, 108, 115], .list [.str [116, 104, 105, 110, 103]] false], .agg [.str [99, 110], .list [.str [99]] false]] false]]
def TKr30 : AV := .int .i64 0
def TKk0 : Known := .leaf
theorem TKk0_ok : KnownOk TNB TKk0 := trivial
theorem TKp0 : PureC (TNB.env .leaf) Tryz.prog 116 TKa0 TKr0 := pure_of (t := TKk0) (n := 3000) TNB_ok TKk0_ok (by decide +kernel)
theorem TKp1 : PureC (TNB.env .leaf) Tryz.prog 269 TKa1 TKr1 := pure_of (t := TKk0) (n := 3000) TNB_ok TKk0_ok (by decide +kernel)
theorem TKp2 : PureC (TNB.env .leaf) Tryz.prog 269 TKa2 TKr2 := pure_of (t := TKk0) (n := 3000) TNB_ok TKk0_ok (by decide +kernel)
theorem TKp3 : PureC (TNB.env .leaf) Tryz.prog 269 TKa3 TKr3 := pure_of (t := TKk0) (n := 3000) TNB_ok TKk0_ok (by decide +kernel)
theorem TKp4 : PureC (TNB.env .leaf) Tryz.prog 269 TKa4 TKr4 := pure_of (t := TKk0) (n := 3000) TNB_ok TKk0_ok (by decide +kernel)
theorem TKp5 : PureC (TNB.env .leaf) Tryz.prog 41 TKa5 TKr5 := pure_of (t := TKk0) (n := 3000) TNB_ok TKk0_ok (by decide +kernel)
theorem TKp6 : PureC (TNB.env .leaf) Tryz.prog 69 TKa6 TKr6 := pure_of (t := TKk0) (n := 3000) TNB_ok TKk0_ok (by decide +kernel)
def TKk1 : Known := (.node (.node (.node .leaf 41 [(TKa5, TKr5)] .leaf) 69 [(TKa6, TKr6)] .leaf) 116 [(TKa0, TKr0)] (.node .leaf 269 [(TKa1, TKr1), (TKa2, TKr2), (TKa3, TKr3), (TKa4, TKr4)] .leaf))
theorem TKm1_41 : ∀ p ∈ [(TKa5, TKr5)], PureC (TNB.env .leaf) Tryz.prog 41 p.1 p.2 := by
  intro p hp
  simp only [List.mem_cons, List.not_mem_nil, or_false] at hp
  rcases hp with rfl
  · exact TKp5
theorem TKm1_69 : ∀ p ∈ [(TKa6, TKr6)], PureC (TNB.env .leaf) Tryz.prog 69 p.1 p.2 := by
  intro p hp
  simp only [List.mem_cons, List.not_mem_nil, or_false] at hp
  rcases hp with rfl
  · exact TKp6
theorem TKm1_116 : ∀ p ∈ [(TKa0, TKr0)], PureC (TNB.env .leaf) Tryz.prog 116 p.1 p.2 := by
  intro p hp
  simp only [List.mem_cons, List.not_mem_nil, or_false] at hp
  rcases hp with rfl
  · exact TKp0
theorem TKm1_269 : ∀ p ∈ [(TKa1, TKr1), (TKa2, TKr2), (TKa3, TKr3), (TKa4, TKr4)], PureC (TNB.env .leaf) Tryz.prog 269 p.1 p.2 := by
  intro p hp
  simp only [List.mem_cons, List.not_mem_nil, or_false] at hp
  rcases hp with rfl | rfl | rfl | rfl
  · exact TKp1
  · exact TKp2
  · exact TKp3
  · exact TKp4
theorem TKk1_ok : KnownOk TNB TKk1 := ⟨⟨⟨trivial, TKm1_41, trivial⟩, TKm1_69, trivial⟩, TKm1_116, ⟨trivial, TKm1_269, trivial⟩⟩
theorem TKp7 : PureC (TNB.env .leaf) Tryz.prog 115 TKa7 TKr7 := pure_of (t := TKk1) (n := 3000) TNB_ok TKk1_ok (by decide +kernel)
theorem TKp8 : PureC (TNB.env .leaf) Tryz.prog 136 TKa8 TKr8 := pure_of (t := TKk1) (n := 3000) TNB_ok TKk1_ok (by decide +kernel)
theorem TKp9 : PureC (TNB.env .leaf) Tryz.prog 136 TKa9 TKr9 := pure_of (t := TKk1) (n := 3000) TNB_ok TKk1_ok (by decide +kernel)
theorem TKp10 : PureC (TNB.env .leaf) Tryz.prog 136 TKa10 TKr10 := pure_of (t := TKk1) (n := 3000) TNB_ok TKk1_ok (by decide +kernel)
theorem TKp11 : PureC (TNB.env .leaf) Tryz.prog 47 TKa11 TKr11 := pure_of (t := TKk1) (n := 3000) TNB_ok TKk1_ok (by decide +kernel)
def TKk2 : Known := (.node (.node (.node .leaf 41 [(TKa5, TKr5)] .leaf) 47 [(TKa11, TKr11)] (.node .leaf 69 [(TKa6, TKr6)] .leaf)) 115 [(TKa7, TKr7)] (.node (.node .leaf 116 [(TKa0, TKr0)] .leaf) 136 [(TKa8, TKr8), (TKa9, TKr9), (TKa10, TKr10)] (.node .leaf 269 [(TKa1, TKr1), (TKa2, TKr2), (TKa3, TKr3), (TKa4, TKr4)] .leaf)))
theorem TKm2_41 : ∀ p ∈ [(TKa5, TKr5)], PureC (TNB.env .leaf) Tryz.prog 41 p.1 p.2 := by
  intro p hp
  simp only [List.mem_cons, List.not_mem_nil, or_false] at hp
  rcases hp with rfl
  · exact TKp5
theorem TKm2_47 : ∀ p ∈ [(TKa11, TKr11)], PureC (TNB.env .leaf) Tryz.prog 47 p.1 p.2 := by
  intro p hp
  simp only [List.mem_cons, List.not_mem_nil, or_false] at hp
  rcases hp with rfl
  · exact TKp11
theorem TKm2_69 : ∀ p ∈ [(TKa6, TKr6)], PureC (TNB.env .leaf) Tryz.prog 69 p.1 p.2 := by
  intro p hp
  simp only [List.mem_cons, List.not_mem_nil, or_false] at hp
  rcases hp with rfl
  · exact TKp6
theorem TKm2_115 : ∀ p ∈ [(TKa7, TKr7)], PureC (TNB.env .leaf) Tryz.prog 115 p.1 p.2 := by
  intro p hp
  simp only [List.mem_cons, List.not_mem_nil, or_false] at hp
  rcases hp with rfl
  · exact TKp7
theorem TKm2_116 : ∀ p ∈ [(TKa0, TKr0)], PureC (TNB.env .leaf) Tryz.prog 116 p.1 p.2 := by
  intro p hp
  simp only [List.mem_cons, List.not_mem_nil, or_false] at hp
  rcases hp with rfl
  · exact TKp0
theorem TKm2_136 : ∀ p ∈ [(TKa8, TKr8), (TKa9, TKr9), (TKa10, TKr10)], PureC (TNB.env .leaf) Tryz.prog 136 p.1 p.2 := by
  intro p hp
  simp only [List.mem_cons, List.not_mem_nil, or_false] at hp
  rcases hp with rfl | rfl | rfl
  · exact TKp8
  · exact TKp9
  · exact TKp10
theorem TKm2_269 : ∀ p ∈ [(TKa1, TKr1), (TKa2, TKr2), (TKa3, TKr3), (TKa4, TKr4)], PureC (TNB.env .leaf) Tryz.prog 269 p.1 p.2 := by
  intro p hp
  simp only [List.mem_cons, List.not_mem_nil, or_false] at hp
  rcases hp with rfl | rfl | rfl | rfl
  · exact TKp1
  · exact TKp2
  · exact TKp3
  · exact TKp4
theorem TKk2_ok : KnownOk TNB TKk2 := ⟨⟨⟨trivial, TKm2_41, trivial⟩, TKm2_47, ⟨trivial, TKm2_69, trivial⟩⟩, TKm2_115, ⟨⟨trivial, TKm2_116, trivial⟩, TKm2_136, ⟨trivial, TKm2_269, trivial⟩⟩⟩
theorem TKp12 : PureC (TNB.env .leaf) Tryz.prog 106 TKa12 TKr12 := pure_of (t := TKk2) (n := 3000) TNB_ok TKk2_ok (by decide +kernel)
theorem TKp13 : PureC (TNB.env .leaf) Tryz.prog 106 TKa13 TKr13 := pure_of (t := TKk2) (n := 3000) TNB_ok TKk2_ok (by decide +kernel)
theorem TKp14 : PureC (TNB.env .leaf) Tryz.prog 115 TKa14 TKr14 := pure_of (t := TKk2) (n := 3000) TNB_ok TKk2_ok (by decide +kernel)
theorem TKp15 : PureC (TNB.env .leaf) Tryz.prog 115 TKa15 TKr15 := pure_of (t := TKk2) (n := 3000) TNB_ok TKk2_ok (by decide +kernel)
theorem TKp16 : PureC (TNB.env .leaf) Tryz.prog 115 TKa16 TKr16 := pure_of (t := TKk2) (n := 3000) TNB_ok TKk2_ok (by decide +kernel)
theorem TKp17 : PureC (TNB.env .leaf) Tryz.prog 32 TKa17 TKr17 := pure_of (t := TKk2) (n := 3000) TNB_ok TKk2_ok (by decide +kernel)
theorem TKp18 : PureC (TNB.env .leaf) Tryz.prog 53 TKa18 TKr18 := pure_of (t := TKk2) (n := 3000) TNB_ok TKk2_ok (by decide +kernel)
theorem TKp19 : PureC (TNB.env .leaf) Tryz.prog 71 TKa19 TKr19 := pure_of (t := TKk2) (n := 3000) TNB_ok TKk2_ok (by decide +kernel)
theorem TKp20 : PureC (TNB.env .leaf) Tryz.prog 71 TKa20 TKr20 := pure_of (t := TKk2) (n := 3000) TNB_ok TKk2_ok (by decide +kernel)
def TKk3 : Known := (.node (.node (.node (.node .leaf 32 [(TKa17, TKr17)] .leaf) 41 [(TKa5, TKr5)] .leaf) 47 [(TKa11, TKr11)] (.node (.node .leaf 53 [(TKa18, TKr18)] .leaf) 69 [(TKa6, TKr6)] .leaf)) 71 [(TKa19, TKr19), (TKa20, TKr20)] (.node (.node (.node .leaf 106 [(TKa12, TKr12), (TKa13, TKr13)] .leaf) 115 [(TKa7, TKr7), (TKa14, TKr14), (TKa15, TKr15), (TKa16, TKr16)] .leaf) 116 [(TKa0, TKr0)] (.node (.node .leaf 136 [(TKa8, TKr8), (TKa9, TKr9), (TKa10, TKr10)] .leaf) 269 [(TKa1, TKr1), (TKa2, TKr2), (TKa3, TKr3), (TKa4, TKr4)] .leaf)))
theorem TKm3_32 : ∀ p ∈ [(TKa17, TKr17)], PureC (TNB.env .leaf) Tryz.prog 32 p.1 p.2 := by
  intro p hp
  simp only [List.mem_cons, List.not_mem_nil, or_false] at hp
  rcases hp with rfl
  · exact TKp17
theorem TKm3_41 : ∀ p ∈ [(TKa5, TKr5)], PureC (TNB.env .leaf) Tryz.prog 41 p.1 p.2 := by
  intro p hp
  simp only [List.mem_cons, List.not_mem_nil, or_false] at hp
  rcases hp with rfl
  · exact TKp5
theorem TKm3_47 : ∀ p ∈ [(TKa11, TKr11)], PureC (TNB.env .leaf) Tryz.prog 47 p.1 p.2 := by
  intro p hp
  simp only [List.mem_cons, List.not_mem_nil, or_false] at hp
  rcases hp with rfl
  · exact TKp11
theorem TKm3_53 : ∀ p ∈ [(TKa18, TKr18)], PureC (TNB.env .leaf) Tryz.prog 53 p.1 p.2 := by
  intro p hp
  simp only [List.mem_cons, List.not_mem_nil, or_false] at hp
  rcases hp with rfl
  · exact TKp18
theorem TKm3_69 : ∀ p ∈ [(TKa6, TKr6)], PureC (TNB.env .leaf) Tryz.prog 69 p.1 p.2 := by
  intro p hp
  simp only [List.mem_cons, List.not_mem_nil, or_false] at hp
  rcases hp with rfl
  · exact TKp6
theorem TKm3_71 : ∀ p ∈ [(TKa19, TKr19), (TKa20, TKr20)], PureC (TNB.env .leaf) Tryz.prog 71 p.1 p.2 := by
  intro p hp
  simp only [List.mem_cons, List.not_mem_nil, or_false] at hp
  rcases hp with rfl | rfl
  · exact TKp19
  · exact TKp20
theorem TKm3_106 : ∀ p ∈ [(TKa12, TKr12), (TKa13, TKr13)], PureC (TNB.env .leaf) Tryz.prog 106 p.1 p.2 := by
  intro p hp
  simp only [List.mem_cons, List.not_mem_nil, or_false] at hp
  rcases hp with rfl | rfl
  · exact TKp12
  · exact TKp13
theorem TKm3_115 : ∀ p ∈ [(TKa7, TKr7), (TKa14, TKr14), (TKa15, TKr15), (TKa16, TKr16)], PureC (TNB.env .leaf) Tryz.prog 115 p.1 p.2 := by
  intro p hp
  simp only [List.mem_cons, List.not_mem_nil, or_false] at hp
  rcases hp with rfl | rfl | rfl | rfl
  · exact TKp7
  · exact TKp14
  · exact TKp15
  · exact TKp16
theorem TKm3_116 : ∀ p ∈ [(TKa0, TKr0)], PureC (TNB.env .leaf) Tryz.prog 116 p.1 p.2 := by
  intro p hp
  simp only [List.mem_cons, List.not_mem_nil, or_false] at hp
  rcases hp with rfl
  · exact TKp0
theorem TKm3_136 : ∀ p ∈ [(TKa8, TKr8), (TKa9, TKr9), (TKa10, TKr10)], PureC (TNB.env .leaf) Tryz.prog 136 p.1 p.2 := by
  intro p hp
  simp only [List.mem_cons, List.not_mem_nil, or_false] at hp
  rcases hp with rfl | rfl | rfl
  · exact TKp8
  · exact TKp9
  · exact TKp10
theorem TKm3_269 : ∀ p ∈ [(TKa1, TKr1), (TKa2, TKr2), (TKa3, TKr3), (TKa4, TKr4)], PureC (TNB.env .leaf) Tryz.prog 269 p.1 p.2 := by
  intro p hp
  simp only [List.mem_cons, List.not_mem_nil, or_false] at hp
  rcases hp with rfl | rfl | rfl | rfl
  · exact TKp1
  · exact TKp2
  · exact TKp3
  · exact TKp4
theorem TKk3_ok : KnownOk TNB TKk3 := ⟨⟨⟨⟨trivial, TKm3_32, trivial⟩, TKm3_41, trivial⟩, TKm3_47, ⟨⟨trivial, TKm3_53, trivial⟩, TKm3_69, trivial⟩⟩, TKm3_71, ⟨⟨⟨trivial, TKm3_106, trivial⟩, TKm3_115, trivial⟩, TKm3_116, ⟨⟨trivial, TKm3_136, trivial⟩, TKm3_269, trivial⟩⟩⟩
theorem TKp21 : PureC (TNB.env .leaf) Tryz.prog 71 TKa21 TKr21 := pure_of (t := TKk3) (n := 3000) TNB_ok TKk3_ok (by decide +kernel)
theorem TKp22 : PureC (TNB.env .leaf) Tryz.prog 71 TKa22 TKr22 := pure_of (t := TKk3) (n := 3000) TNB_ok TKk3_ok (by decide +kernel)
theorem TKp23 : PureC (TNB.env .leaf) Tryz.prog 71 TKa23 TKr23 := pure_of (t := TKk3) (n := 3000) TNB_ok TKk3_ok (by decide +kernel)
theorem TKp24 : PureC (TNB.env .leaf) Tryz.prog 72 TKa24 TKr24 := pure_of (t := TKk3) (n := 3000) TNB_ok TKk3_ok (by decide +kernel)
theorem TKp25 : PureC (TNB.env .leaf) Tryz.prog 77 TKa25 TKr25 := pure_of (t := TKk3) (n := 3000) TNB_ok TKk3_ok (by decide +kernel)
theorem TKp26 : PureC (TNB.env .leaf) Tryz.prog 77 TKa26 TKr26 := pure_of (t := TKk3) (n := 3000) TNB_ok TKk3_ok (by decide +kernel)
theorem TKp27 : PureC (TNB.env .leaf) Tryz.prog 77 TKa27 TKr27 := pure_of (t := TKk3) (n := 3000) TNB_ok TKk3_ok (by decide +kernel)
def TKk4 : Known := (.node (.node (.node (.node .leaf 32 [(TKa17, TKr17)] .leaf) 41 [(TKa5, TKr5)] (.node .leaf 47 [(TKa11, TKr11)] .leaf)) 53 [(TKa18, TKr18)] (.node (.node .leaf 69 [(TKa6, TKr6)] .leaf) 71 [(TKa19, TKr19), (TKa20, TKr20), (TKa21, TKr21), (TKa22, TKr22), (TKa23, TKr23)] .leaf)) 72 [(TKa24, TKr24)] (.node (.node (.node .leaf 77 [(TKa25, TKr25), (TKa26, TKr26), (TKa27, TKr27)] .leaf) 106 [(TKa12, TKr12), (TKa13, TKr13)] (.node .leaf 115 [(TKa7, TKr7), (TKa14, TKr14), (TKa15, TKr15), (TKa16, TKr16)] .leaf)) 116 [(TKa0, TKr0)] (.node (.node .leaf 136 [(TKa8, TKr8), (TKa9, TKr9), (TKa10, TKr10)] .leaf) 269 [(TKa1, TKr1), (TKa2, TKr2), (TKa3, TKr3), (TKa4, TKr4)] .leaf)))
theorem TKm4_32 : ∀ p ∈ [(TKa17, TKr17)], PureC (TNB.env .leaf) Tryz.prog 32 p.1 p.2 := by
  intro p hp
  simp only [List.mem_cons, List.not_mem_nil, or_false] at hp
  rcases hp with rfl
  · exact TKp17
theorem TKm4_41 : ∀ p ∈ [(TKa5, TKr5)], PureC (TNB.env .leaf) Tryz.prog 41 p.1 p.2 := by
  intro p hp
  simp only [List.mem_cons, List.not_mem_nil, or_false] at hp
  rcases hp with rfl
  · exact TKp5
theorem TKm4_47 : ∀ p ∈ [(TKa11, TKr11)], PureC (TNB.env .leaf) Tryz.prog 47 p.1 p.2 := by
  intro p hp
  simp only [List.mem_cons, List.not_mem_nil, or_false] at hp
  rcases hp with rfl
  · exact TKp11
theorem TKm4_53 : ∀ p ∈ [(TKa18, TKr18)], PureC (TNB.env .leaf) Tryz.prog 53 p.1 p.2 := by
  intro p hp
  simp only [List.mem_cons, List.not_mem_nil, or_false] at hp
  rcases hp with rfl
  · exact TKp18
theorem TKm4_69 : ∀ p ∈ [(TKa6, TKr6)], PureC (TNB.env .leaf) Tryz.prog 69 p.1 p.2 := by
  intro p hp
  simp only [List.mem_cons, List.not_mem_nil, or_false] at hp
  rcases hp with rfl
  · exact TKp6
theorem TKm4_71 : ∀ p ∈ [(TKa19, TKr19), (TKa20, TKr20), (TKa21, TKr21), (TKa22, TKr22), (TKa23, TKr23)], PureC (TNB.env .leaf) Tryz.prog 71 p.1 p.2 := by
  intro p hp
  simp only [List.mem_cons, List.not_mem_nil, or_false] at hp
  rcases hp with rfl | rfl | rfl | rfl | rfl
  · exact TKp19
  · exact TKp20
  · exact TKp21
  · exact TKp22
  · exact TKp23
theorem TKm4_72 : ∀ p ∈ [(TKa24, TKr24)], PureC (TNB.env .leaf) Tryz.prog 72 p.1 p.2 := by
  intro p hp
  simp only [List.mem_cons, List.not_mem_nil, or_false] at hp
  rcases hp with rfl
  · exact TKp24
theorem TKm4_77 : ∀ p ∈ [(TKa25, TKr25), (TKa26, TKr26), (TKa27, TKr27)], PureC (TNB.env .leaf) Tryz.prog 77 p.1 p.2 := by
  intro p hp
  simp only [List.mem_cons, List.not_mem_nil, or_false] at hp
  rcases hp with rfl | rfl | rfl
  · exact TKp25
  · exact TKp26
  · exact TKp27
theorem TKm4_106 : ∀ p ∈ [(TKa12, TKr12), (TKa13, TKr13)], PureC (TNB.env .leaf) Tryz.prog 106 p.1 p.2 := by
  intro p hp
  simp only [List.mem_cons, List.not_mem_nil, or_false] at hp
  rcases hp with rfl | rfl
  · exact TKp12
  · exact TKp13
theorem TKm4_115 : ∀ p ∈ [(TKa7, TKr7), (TKa14, TKr14), (TKa15, TKr15), (TKa16, TKr16)], PureC (TNB.env .leaf) Tryz.prog 115 p.1 p.2 := by
  intro p hp
  simp only [List.mem_cons, List.not_mem_nil, or_false] at hp
  rcases hp with rfl | rfl | rfl | rfl
  · exact TKp7
  · exact TKp14
  · exact TKp15
  · exact TKp16
theorem TKm4_116 : ∀ p ∈ [(TKa0, TKr0)], PureC (TNB.env .leaf) Tryz.prog 116 p.1 p.2 := by
  intro p hp
  simp only [List.mem_cons, List.not_mem_nil, or_false] at hp
  rcases hp with rfl
  · exact TKp0
theorem TKm4_136 : ∀ p ∈ [(TKa8, TKr8), (TKa9, TKr9), (TKa10, TKr10)], PureC (TNB.env .leaf) Tryz.prog 136 p.1 p.2 := by
  intro p hp
  simp only [List.mem_cons, List.not_mem_nil, or_false] at hp
  rcases hp with rfl | rfl | rfl
  · exact TKp8
  · exact TKp9
  · exact TKp10
theorem TKm4_269 : ∀ p ∈ [(TKa1, TKr1), (TKa2, TKr2), (TKa3, TKr3), (TKa4, TKr4)], PureC (TNB.env .leaf) Tryz.prog 269 p.1 p.2 := by
  intro p hp
  simp only [List.mem_cons, List.not_mem_nil, or_false] at hp
  rcases hp with rfl | rfl | rfl | rfl
  · exact TKp1
  · exact TKp2
  · exact TKp3
  · exact TKp4
theorem TKk4_ok : KnownOk TNB TKk4 := ⟨⟨⟨⟨trivial, TKm4_32, trivial⟩, TKm4_41, ⟨trivial, TKm4_47, trivial⟩⟩, TKm4_53, ⟨⟨trivial, TKm4_69, trivial⟩, TKm4_71, trivial⟩⟩, TKm4_72, ⟨⟨⟨trivial, TKm4_77, trivial⟩, TKm4_106, ⟨trivial, TKm4_115, trivial⟩⟩, TKm4_116, ⟨⟨trivial, TKm4_136, trivial⟩, TKm4_269, trivial⟩⟩⟩
theorem TKp28 : PureC (TNB.env .leaf) Tryz.prog 52 TKa28 TKr28 := pure_of (t := TKk4) (n := 3000) TNB_ok TKk4_ok (by decide +kernel)
theorem TKp29 : PureC (TNB.env .leaf) Tryz.prog 52 TKa29 TKr29 := pure_of (t := TKk4) (n := 3000) TNB_ok TKk4_ok (by decide +kernel)
theorem TKp30 : PureC (TNB.env .leaf) Tryz.prog 52 TKa30 TKr30 := pure_of (t := TKk4) (n := 3000) TNB_ok TKk4_ok (by decide +kernel)
def TKk5 : Known := (.node (.node (.node (.node .leaf 32 [(TKa17, TKr17)] .leaf) 41 [(TKa5, TKr5)] (.node .leaf 47 [(TKa11, TKr11)] .leaf)) 52 [(TKa28, TKr28), (TKa29, TKr29), (TKa30, TKr30)] (.node (.node .leaf 53 [(TKa18, TKr18)] .leaf) 69 [(TKa6, TKr6)] (.node .leaf 71 [(TKa19, TKr19), (TKa20, TKr20), (TKa21, TKr21), (TKa22, TKr22), (TKa23, TKr23)] .leaf))) 72 [(TKa24, TKr24)] (.node (.node (.node .leaf 77 [(TKa25, TKr25), (TKa26, TKr26), (TKa27, TKr27)] .leaf) 106 [(TKa12, TKr12), (TKa13, TKr13)] (.node .leaf 115 [(TKa7, TKr7), (TKa14, TKr14), (TKa15, TKr15), (TKa16, TKr16)] .leaf)) 116 [(TKa0, TKr0)] (.node (.node .leaf 136 [(TKa8, TKr8), (TKa9, TKr9), (TKa10, TKr10)] .leaf) 269 [(TKa1, TKr1), (TKa2, TKr2), (TKa3, TKr3), (TKa4, TKr4)] .leaf)))
theorem TKm5_32 : ∀ p ∈ [(TKa17, TKr17)], PureC (TNB.env .leaf) Tryz.prog 32 p.1 p.2 := by
  intro p hp
  simp only [List.mem_cons, List.not_mem_nil, or_false] at hp
  rcases hp with rfl
  · exact TKp17
theorem TKm5_41 : ∀ p ∈ [(TKa5, TKr5)], PureC (TNB.env .leaf) Tryz.prog 41 p.1 p.2 := by
  intro p hp
  simp only [List.mem_cons, List.not_mem_nil, or_false] at hp
  rcases hp with rfl
  · exact TKp5
theorem TKm5_47 : ∀ p ∈ [(TKa11, TKr11)], PureC (TNB.env .leaf) Tryz.prog 47 p.1 p.2 := by
  intro p hp
  simp only [List.mem_cons, List.not_mem_nil, or_false] at hp
  rcases hp with rfl
  · exact TKp11
theorem TKm5_52 : ∀ p ∈ [(TKa28, TKr28), (TKa29, TKr29), (TKa30, TKr30)], PureC (TNB.env .leaf) Tryz.prog 52 p.1 p.2 := by
  intro p hp
  simp only [List.mem_cons, List.not_mem_nil, or_false] at hp
  rcases hp with rfl | rfl | rfl
  · exact TKp28
  · exact TKp29
  · exact TKp30
theorem TKm5_53 : ∀ p ∈ [(TKa18, TKr18)], PureC (TNB.env .leaf) Tryz.prog 53 p.1 p.2 := by
  intro p hp
  simp only [List.mem_cons, List.not_mem_nil, or_false] at hp
  rcases hp with rfl
  · exact TKp18
theorem TKm5_69 : ∀ p ∈ [(TKa6, TKr6)], PureC (TNB.env .leaf) Tryz.prog 69 p.1 p.2 := by
  intro p hp
  simp only [List.mem_cons, List.not_mem_nil, or_false] at hp
  rcases hp with rfl
  · exact TKp6
theorem TKm5_71 : ∀ p ∈ [(TKa19, TKr19), (TKa20, TKr20), (TKa21, TKr21), (TKa22, TKr22), (TKa23, TKr23)], PureC (TNB.env .leaf) Tryz.prog 71 p.1 p.2 := by
  intro p hp
  simp only [List.mem_cons, List.not_mem_nil, or_false] at hp
  rcases hp with rfl | rfl | rfl | rfl | rfl
  · exact TKp19
  · exact TKp20
  · exact TKp21
  · exact TKp22
  · exact TKp23
theorem TKm5_72 : ∀ p ∈ [(TKa24, TKr24)], PureC (TNB.env .leaf) Tryz.prog 72 p.1 p.2 := by
  intro p hp
  simp only [List.mem_cons, List.not_mem_nil, or_false] at hp
  rcases hp with rfl
  · exact TKp24
theorem TKm5_77 : ∀ p ∈ [(TKa25, TKr25), (TKa26, TKr26), (TKa27, TKr27)], PureC (TNB.env .leaf) Tryz.prog 77 p.1 p.2 := by
  intro p hp
  simp only [List.mem_cons, List.not_mem_nil, or_false] at hp
  rcases hp with rfl | rfl | rfl
  · exact TKp25
  · exact TKp26
  · exact TKp27
theorem TKm5_106 : ∀ p ∈ [(TKa12, TKr12), (TKa13, TKr13)], PureC (TNB.env .leaf) Tryz.prog 106 p.1 p.2 := by
  intro p hp
  simp only [List.mem_cons, List.not_mem_nil, or_false] at hp
  rcases hp with rfl | rfl
  · exact TKp12
  · exact TKp13
theorem TKm5_115 : ∀ p ∈ [(TKa7, TKr7), (TKa14, TKr14), (TKa15, TKr15), (TKa16, TKr16)], PureC (TNB.env .leaf) Tryz.prog 115 p.1 p.2 := by
  intro p hp
  simp only [List.mem_cons, List.not_mem_nil, or_false] at hp
  rcases hp with rfl | rfl | rfl | rfl
  · exact TKp7
  · exact TKp14
  · exact TKp15
  · exact TKp16
theorem TKm5_116 : ∀ p ∈ [(TKa0, TKr0)], PureC (TNB.env .leaf) Tryz.prog 116 p.1 p.2 := by
  intro p hp
  simp only [List.mem_cons, List.not_mem_nil, or_false] at hp
  rcases hp with rfl
  · exact TKp0
theorem TKm5_136 : ∀ p ∈ [(TKa8, TKr8), (TKa9, TKr9), (TKa10, TKr10)], PureC (TNB.env .leaf) Tryz.prog 136 p.1 p.2 := by
  intro p hp
  simp only [List.mem_cons, List.not_mem_nil, or_false] at hp
  rcases hp with rfl | rfl | rfl
  · exact TKp8
  · exact TKp9
  · exact TKp10
theorem TKm5_269 : ∀ p ∈ [(TKa1, TKr1), (TKa2, TKr2), (TKa3, TKr3), (TKa4, TKr4)], PureC (TNB.env .leaf) Tryz.prog 269 p.1 p.2 := by
  intro p hp
  simp only [List.mem_cons, List.not_mem_nil, or_false] at hp
  rcases hp with rfl | rfl | rfl | rfl
  · exact TKp1
  · exact TKp2
  · exact TKp3
  · exact TKp4
theorem TKk5_ok : KnownOk TNB TKk5 := ⟨⟨⟨⟨trivial, TKm5_32, trivial⟩, TKm5_41, ⟨trivial, TKm5_47, trivial⟩⟩, TKm5_52, ⟨⟨trivial, TKm5_53, trivial⟩, TKm5_69, ⟨trivial, TKm5_71, trivial⟩⟩⟩, TKm5_72, ⟨⟨⟨trivial, TKm5_77, trivial⟩, TKm5_106, ⟨trivial, TKm5_115, trivial⟩⟩, TKm5_116, ⟨⟨trivial, TKm5_136, trivial⟩, TKm5_269, trivial⟩⟩⟩
theorem TK_root : PureC (TNB.env .leaf) Tryz.prog 6 [] (.bool true) := pure_of (t := TKk5) (n := 3000) TNB_ok TKk5_ok (by decide +kernel)
end Go.AE
