/- Words for sets of addresses that a call makes and keeps to itself: maps from an address to a bool (no condition). -/
import Derived.Test.YtjifdgicamlikaaWMore
import Derived.Maps.OwnSet
import Derived.DeepKeys4
namespace Go.Proofs.Ytjifdgicamlikaa.XM
open Go.RowKit Go.Proofs.YtjifdgicamlikaaW.PrintWords Go.Maps Go.ChangeMaps
def val (x : Bool × Int × Int) : Value := .agg #[.bool x.1, .int .u64 x.2.1, .int .u64 x.2.2]
def ok (x : Bool × Int × Int) : Bool := (Lit.int .u64 x.2.1).wf && (Lit.int .u64 x.2.2).wf
def put (S : List (Bool × Int × Int)) (x : Bool × Int × Int) : List (Bool × Int × Int) := if S.contains x then S else S ++ [x]
def del (S : List (Bool × Int × Int)) (x : Bool × Int × Int) : List (Bool × Int × Int) := S.filter (fun y => !(y == x))
theorem val_inj {x y : Bool × Int × Int} (h : val x = val y) : x = y := by
  unfold val at h
  simp at h
  obtain ⟨h1, h2, h3⟩ := h
  exact Prod.ext h1 (Prod.ext h2 h3)
def IsSet (P : Program) (k e : TypeId) (w : World) (b n : Nat) (S : List (Bool × Int × Int)) : Prop :=
  ∃ D : DataW Unit, w.ownsMap P k (plainElem P e) b n D ∧ Tidy D ∧ S.Nodup ∧ Maps.size D = S.length ∧ ∀ x kl, keyOf P k (val x) = some kl → Maps.has D kl = S.contains x
theorem IsSet.move {P : Program} {k e : TypeId} {w w' : World} {b n : Nat} {S : List (Bool × Int × Int)} (h : IsSet P k e w b n S) (hm : w'.heap[b]? = w.heap[b]?) : IsSet P k e w' b n S := by
  obtain ⟨D, ⟨es, clock, hb, r⟩, hr⟩ := h
  exact ⟨D, ⟨es, clock, hm.trans hb, r⟩, hr⟩
theorem IsSet.lt {P : Program} {k e : TypeId} {w : World} {b n : Nat} {S : List (Bool × Int × Int)} (h : IsSet P k e w b n S) : b < w.heap.size := by
  obtain ⟨D, h, _⟩ := h
  exact h.lt
theorem IsSet.below {P : Program} {k e : TypeId} {w w' : World} {b n : Nat} {S : List (Bool × Int × Int)} (h : IsSet P k e w b n S) (hb : Below w.heap.size w w') : IsSet P k e w' b n S :=
  h.move (hb.block b h.lt)
theorem IsSet.drew {P : Program} {k e : TypeId} {w : World} {b n : Nat} {S : List (Bool × Int × Int)} (h : IsSet P k e w b n S) : IsSet P k e w.drew b n S := h
theorem IsSet.drewN {P : Program} {k e : TypeId} {w : World} {b n : Nat} {S : List (Bool × Int × Int)} (h : IsSet P k e w b n S) (m : Nat) : IsSet P k e (w.drewN m) b n S := h
theorem IsSet.alloc {P : Program} {k e : TypeId} {w : World} {b n : Nat} {S : List (Bool × Int × Int)} (h : IsSet P k e w b n S) (o : Obj) : IsSet P k e (w.alloc o) b n S := h.below (below_alloc (Below.refl _ _) o)
theorem IsSet.setCell {P : Program} {k e : TypeId} {w : World} {b n : Nat} {S : List (Bool × Int × Int)} (h : IsSet P k e w b n S) {a : Addr} (ha : b ≠ a.block) (u : Value) : IsSet P k e (w.setCell a u) b n S := by
  obtain ⟨D, h, r⟩ := h
  exact ⟨D, h.setCell ha u, r⟩
theorem IsSet.mono {P : Program} {k e : TypeId} {w : World} {b n m : Nat} {S : List (Bool × Int × Int)} (h : IsSet P k e w b n S) (hn : n ≤ m) : IsSet P k e w b m S := by
  obtain ⟨D, h, r⟩ := h
  exact ⟨D, h.mono hn, r⟩
theorem isSet_made (P : Program) (k e : TypeId) (w : World) : IsSet P k e (w.alloc (.map #[] 0)) w.heap.size 0 [] :=
  ⟨.map [], World.ownsMap_made w P k _, tidy_empty, List.nodup_nil, rfl, fun _ _ _ => rfl⟩
theorem put_parts {P : Program} {k : TypeId} (K : Keyed P k) {D : DataW Unit} {S : List (Bool × Int × Int)} (hT : Tidy D) (hN : S.Nodup) (hs : Maps.size D = S.length) (hh : ∀ x kl, keyOf P k (val x) = some kl → Maps.has D kl = S.contains x)
    {x : Bool × Int × Int} {kl : Lit} (hkey : keyOf P k (val x) = some kl) (d : DataW Unit) :
    Tidy (D.put kl d) ∧ (put S x).Nodup ∧ Maps.size (D.put kl d) = (put S x).length ∧ ∀ y kl', keyOf P k (val y) = some kl' → Maps.has (D.put kl d) kl' = (put S x).contains y := by
  have hx := hh x kl hkey
  refine ⟨hT.put (K.key hkey) d, ?_, ?_, fun y kl' hy => ?_⟩
  · unfold put
    split
    · exact hN
    · rename_i hc
      refine List.nodup_append.2 ⟨hN, by simp, fun a ha b hb => ?_⟩
      simp at hb
      subst hb
      rintro rfl
      exact hc (by simpa using ha)
  · rw [size_put hT d, hx, hs]
    unfold put
    split <;> simp
  · by_cases he : kl' = kl
    · subst he
      have : y = x := val_inj (K.inj hy hkey)
      subst this
      rw [has_put_same hT.isMap (K.key hkey) d]
      unfold put
      split
      · rename_i hc; exact hc.symm
      · simp
    · rw [has_put_other he d, hh y kl' hy]
      have hne : y ≠ x := by
        rintro rfl
        exact he (Option.some.inj (hy.symm.trans hkey))
      unfold put
      split
      · rfl
      · simp [hne]
theorem del_parts {P : Program} {k : TypeId} (K : Keyed P k) {D : DataW Unit} {S : List (Bool × Int × Int)} (hT : Tidy D) (hN : S.Nodup) (hs : Maps.size D = S.length) (hh : ∀ x kl, keyOf P k (val x) = some kl → Maps.has D kl = S.contains x)
    {x : Bool × Int × Int} {kl : Lit} (hkey : keyOf P k (val x) = some kl) :
    Tidy (D.del kl) ∧ (del S x).Nodup ∧ Maps.size (D.del kl) = (del S x).length ∧ ∀ y kl', keyOf P k (val y) = some kl' → Maps.has (D.del kl) kl' = (del S x).contains y := by
  have hx := hh x kl hkey
  have hlen : (del S x).length + (if S.contains x then 1 else 0) = S.length := by
    clear hs hh hx
    unfold del
    induction S with
    | nil => simp
    | cons a r ih =>
      obtain ⟨h1, h2⟩ := List.nodup_cons.1 hN
      have ih := ih h2
      by_cases ha : a = x
      · subst ha
        have hf : r.filter (fun y => !(y == a)) = r := List.filter_eq_self.2 (fun y hy => by
          have : y ≠ a := by rintro rfl; exact h1 hy
          simp [this])
        simp [hf]
      · have ha' : (x == a) = false := by simpa using fun h => ha h.symm
        have ha2 : (!(a == x)) = true := by simpa using ha
        rw [List.filter_cons, if_pos ha2, List.length_cons, List.contains_cons, ha', Bool.false_or, List.length_cons]
        omega
  refine ⟨hT.del kl, ?_, ?_, fun y kl' hy => ?_⟩
  · exact hN.filter _
  · have := size_del (k := kl) hT
    rw [hx, hs] at this
    omega
  · by_cases he : kl' = kl
    · subst he
      have : y = x := val_inj (K.inj hy hkey)
      subst this
      rw [has_del_same]
      unfold del
      symm
      simp
    · rw [has_del_other he, hh y kl' hy]
      have hne : y ≠ x := by
        rintro rfl
        exact he (Option.some.inj (hy.symm.trans hkey))
      unfold del
      rw [Bool.eq_iff_iff]
      simp [hne]
theorem wp_put {P : Program} (w : World) {ops : Array Oper} {rest : List Oper} {o : Oper} {a : Act} {Q : Exit → Act → World → Prop}
    (hg : o.guard = none) (m x v : Operand) (t : TypeId) (hop : o.op = Op.mapUpdate t m x v)
    (k e : TypeId) (K : Keyed P k) (ht : P.underlying t = some (.map k e)) (he : P.underlying e = some .bool) (b n : Nat) (S : List (Bool × Int × Int))
    (hm : a.eval m = .map (some b)) (hown : IsSet P k e w b n S) (hn : n < maxLen) (y : Bool × Int × Int) (kl : Lit) (hx : a.eval x = val y) (hv : a.eval v = .bool true) (hkey : keyOf P k (val y) = some kl)
    (hK : ∀ w', IsSet P k e w' b (n + 1) (put S y) → w.grownBy w' (some b) → wpList P ops Q rest (a.put o.dst undef) w') :
    wpList P ops Q (o :: rest) a w := by
  obtain ⟨D, hD, hT, hN, hs, hh⟩ := hown
  refine wpList_mapUpdate_own w hg m x v t hop k e K ht (plainElem P e) b n D hm hD hn (val y) (.bool true) kl hx hv hkey (.lit (.bool true)) [] (plainElem_bool he true) (fun w' h1 h2 => hK w' ?_ h2)
  exact ⟨_, h1, put_parts K hT hN hs hh hkey _⟩
theorem wp_del {P : Program} (w : World) {ops : Array Oper} {rest : List Oper} {o : Oper} {a : Act} {Q : Exit → Act → World → Prop}
    (hg : o.guard = none) (m x : Operand) (t k : TypeId) (hop : o.op = Op.call { callee := Callee.builtin Builtin.delete, args := #[m, x], argTypes := #[t, k] })
    (e : TypeId) (K : Keyed P k) (ht : P.underlying t = some (.map k e)) (b n : Nat) (S : List (Bool × Int × Int))
    (hm : a.eval m = .map (some b)) (hown : IsSet P k e w b n S) (y : Bool × Int × Int) (kl : Lit) (hx : a.eval x = val y) (hkey : keyOf P k (val y) = some kl)
    (hK : ∀ w', IsSet P k e w' b n (del S y) → w.mapTurned w' b → wpList P ops Q rest (a.put o.dst (.tuple #[])) w') :
    wpList P ops Q (o :: rest) a w := by
  obtain ⟨D, hD, hT, hN, hs, hh⟩ := hown
  refine wpList_delete_own w hg m x t k hop e K ht (plainElem P e) b n D hm hD (val y) kl hx hkey (fun w' h1 h2 => hK w' ?_ h2)
  exact ⟨_, h1, del_parts K hT hN hs hh hkey⟩
theorem len_run {P : Program} {k e t : TypeId} {w : World} {b n : Nat} {S : List (Bool × Int × Int)} (h : IsSet P k e w b n S) (ht : P.underlying t = some (.map k e)) (ty : TypeId) : (Builtin.len_ #[t] ty #[.map (some b)]).run P w = .ok (.int .i64 (S.length : Nat)) w := by
  obtain ⟨D, hD, hT, hN, hs, hh⟩ := h
  rw [hD.len ht ty, hs]
end Go.Proofs.Ytjifdgicamlikaa.XM
