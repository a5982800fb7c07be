import PyProof.Rows.All
import Wide.All
import OpenK.AllK
import Wide.FinOn
import PySem.Challenge.RW_anyworth_k97_terms_unified
import HandS.ForMost
import HandS.Deep
import HandS.TupAny
import HandS.IsInst
import HandS.Strs
import HandS.DictComp
import HandS.WordsDict
import HandS.RaiseMore
import HandS.More
import HandS.SetFor
import HandS.TupSets
import HandS.Zip
import KE.KDictZip
import KE.KDictList
set_option Elab.async false
set_option linter.all false
set_option maxRecDepth 100000
set_option maxHeartbeats 4000000
/-! G1: deep data, owned slots, what a heap says of them; readings by functions on slots. -/
namespace G
open PySem PySem.Spec PyProof.Rows L2

/-- data -/
inductive D where
  | non | bl (b : Bool) | int (i : Int) | str (s : Str) | lst (xs : List D) | tup (xs : List D) | dic (kvs : List (D × D))

mutual
def D.beq : D → D → Bool
  | .non, .non => true
  | .bl a, .bl b => a == b
  | .int a, .int b => a == b
  | .str a, .str b => decide (a = b)
  | .lst a, .lst b => D.beqL a b
  | .tup a, .tup b => D.beqL a b
  | .dic a, .dic b => D.beqK a b
  | _, _ => false
def D.beqL : List D → List D → Bool
  | [], [] => true
  | a :: r, b :: s => D.beq a b && D.beqL r s
  | _, _ => false
def D.beqK : List (D × D) → List (D × D) → Bool
  | [], [] => true
  | a :: r, b :: s => D.beqP a b && D.beqK r s
  | _, _ => false
def D.beqP : D × D → D × D → Bool
  | (a, b), (c, d) => D.beq a c && D.beq b d
end
mutual
theorem D.eq_of_beq : ∀ {a b : D}, D.beq a b = true → a = b
  | .non, b, h => by cases b <;> simp_all [D.beq]
  | .bl x, b, h => by cases b <;> simp_all [D.beq]
  | .int x, b, h => by cases b <;> simp_all [D.beq]
  | .str x, b, h => by cases b <;> simp_all [D.beq]
  | .lst x, b, h => by
    cases b with
    | lst y => rw [D.eqL_of_beq (a := x) (b := y) (by simpa [D.beq] using h)]
    | _ => simp [D.beq] at h
  | .tup x, b, h => by
    cases b with
    | tup y => rw [D.eqL_of_beq (a := x) (b := y) (by simpa [D.beq] using h)]
    | _ => simp [D.beq] at h
  | .dic x, b, h => by
    cases b with
    | dic y => rw [D.eqK_of_beq (a := x) (b := y) (by simpa [D.beq] using h)]
    | _ => simp [D.beq] at h
theorem D.eqL_of_beq : ∀ {a b : List D}, D.beqL a b = true → a = b
  | [], b, h => by cases b <;> simp_all [D.beqL]
  | x :: a, b, h => by
    cases b with
    | nil => simp [D.beqL] at h
    | cons y b =>
      simp only [D.beqL, Bool.and_eq_true] at h
      rw [D.eq_of_beq h.1, D.eqL_of_beq h.2]
theorem D.eqK_of_beq : ∀ {a b : List (D × D)}, D.beqK a b = true → a = b
  | [], b, h => by cases b <;> simp_all [D.beqK]
  | x :: a, b, h => by
    cases b with
    | nil => simp [D.beqK] at h
    | cons y b =>
      simp only [D.beqK, Bool.and_eq_true] at h
      rw [D.eqP_of_beq h.1, D.eqK_of_beq h.2]
theorem D.eqP_of_beq : ∀ {a b : D × D}, D.beqP a b = true → a = b
  | (x, y), (z, u), h => by
    simp only [D.beqP, Bool.and_eq_true] at h
    rw [D.eq_of_beq h.1, D.eq_of_beq h.2]
end
mutual
theorem D.beq_refl : ∀ a : D, D.beq a a = true
  | .non => by simp [D.beq]
  | .bl x => by simp [D.beq]
  | .int x => by simp [D.beq]
  | .str x => by simp [D.beq]
  | .lst x => by simp only [D.beq]; exact D.beqL_refl x
  | .tup x => by simp only [D.beq]; exact D.beqL_refl x
  | .dic x => by simp only [D.beq]; exact D.beqK_refl x
theorem D.beqL_refl : ∀ a : List D, D.beqL a a = true
  | [] => by simp [D.beqL]
  | x :: a => by simp only [D.beqL, Bool.and_eq_true]; exact ⟨D.beq_refl x, D.beqL_refl a⟩
theorem D.beqK_refl : ∀ a : List (D × D), D.beqK a a = true
  | [] => by simp [D.beqK]
  | x :: a => by simp only [D.beqK, Bool.and_eq_true]; exact ⟨D.beqP_refl x, D.beqK_refl a⟩
theorem D.beqP_refl : ∀ a : D × D, D.beqP a a = true
  | (x, y) => by simp only [D.beqP, Bool.and_eq_true]; exact ⟨D.beq_refl x, D.beq_refl y⟩
end
instance : DecidableEq D := fun a b => decidable_of_iff (D.beq a b = true) ⟨D.eq_of_beq, fun h => h ▸ D.beq_refl a⟩

def kD : Key → D
  | .inl i => .int i
  | .inr x => .str x
theorem kD_inj : ∀ {a b : Key}, kD a = kD b → a = b
  | .inl _, .inl _, h => by cases h; rfl
  | .inr _, .inr _, h => by cases h; rfl
  | .inl _, .inr _, h => by cases h
  | .inr _, .inl _, h => by cases h

/-! ### what a heap says: O, the owned addresses -/
mutual
inductive Is (K : PySem.W.Frag) (O : Addr → Prop) (H : Hp) : V → D → Prop
  | non : Is K O H .non .non
  | bl (b : Bool) : Is K O H (.bl b) (.bl b)
  | int (i : Int) : Is K O H (.int i) (.int i)
  | str (x : Str) : Is K O H (.str x) (.str x)
  | lst {a : Addr} {xs : List V} {ds : List D} : ¬ O a → Rd H a (.lst xs) → IsAll K O H xs ds → Is K O H (.ref a) (.lst ds)
  | lstK {a : Addr} {xs : List V} {ds : List D} : (∀ H', SqL K H' a xs) → IsAll K O H xs ds → Is K O H (.ref a) (.lst ds)
  | tup {a : Addr} {xs : List V} {ds : List D} : SqT K H a xs → IsAll K O H xs ds → Is K O H (.ref a) (.tup ds)
  | dic {a : Addr} {ks : List (Key × V)} {kvs : List (D × D)} : ¬ O a → Rd H a (.dK ks) → IsKV K O H ks kvs → Is K O H (.ref a) (.dic kvs)
inductive IsAll (K : PySem.W.Frag) (O : Addr → Prop) (H : Hp) : List V → List D → Prop
  | nil : IsAll K O H [] []
  | cons {v : V} {d : D} {vs : List V} {ds : List D} : Is K O H v d → IsAll K O H vs ds → IsAll K O H (v :: vs) (d :: ds)
inductive IsKV (K : PySem.W.Frag) (O : Addr → Prop) (H : Hp) : List (Key × V) → List (D × D) → Prop
  | nil : IsKV K O H [] []
  | cons {k : Key} {v : V} {d : D} {ks : List (Key × V)} {kvs : List (D × D)} : Is K O H v d → IsKV K O H ks kvs → IsKV K O H ((k, v) :: ks) ((kD k, d) :: kvs)
end

/-- mutable things -/
def mutO : HO → Bool
  | .lst _ | .dK _ | .dT _ | .set _ _ | .ext _ | .ins _ _ _ => true
  | _ => false
/-- every owned address is tracked and mutable -/
def Own (O : Addr → Prop) (H : Hp) : Prop := ∀ a, O a → ∃ u, H a = some u ∧ mutO u = true
/-- from (O, H) to (O', H'): all but W is kept -/
structure Ext (O : Addr → Prop) (H : Hp) (O' : Addr → Prop) (H' : Hp) (W : Addr → Prop) : Prop where
  keep : ∀ a u, H a = some u → ¬ W a → H' a = some u
  own : ∀ a, O a → ¬ W a → O' a
  new : ∀ a, O' a → O a ∨ H a = none
  trk : ∀ a, H' a = none → H a = none
section
variable {K : PySem.W.Frag} {O O' O1 O2 : Addr → Prop} {H H' H1 H2 : Hp} {W W1 : Addr → Prop} {v : V} {d : D} {vs : List V} {ds : List D}
theorem Ext.refl : Ext O H O H W := ⟨fun _ _ h _ => h, fun _ h _ => h, fun _ h => .inl h, fun _ h => h⟩
theorem Ext.trans (hO : Own O H) (a : Ext O H O1 H1 W) (b : Ext O1 H1 O2 H2 W1) (hW : ∀ x, W1 x → W x ∨ H x = none) : Ext O H O2 H2 W where
  keep := fun x u e n => b.keep x u (a.keep x u e n) fun z => (hW x z).elim n fun q => by rw [e] at q; cases q
  own := fun x o n => b.own x (a.own x o n) fun z => (hW x z).elim n fun q => by
    obtain ⟨u, e, _⟩ := hO x o
    rw [e] at q; cases q
  new := fun x o => (b.new x o).elim (a.new x) fun q => .inr (a.trk x q)
  trk := fun x h => a.trk x (b.trk x h)
/-- immutable objects stay -/
theorem Ext.rdT (e : Ext O H O' H' W) (hW : ∀ a, W a → O a) (hO : Own O H) {a : Addr} {u : HO} (hu : mutO u = false) (h : Rd H a u) : Rd H' a u := by
  rcases h with h | ⟨o, h⟩
  · refine .inl (e.keep a _ h fun w => ?_)
    obtain ⟨z, q, m⟩ := hO a (hW a w)
    rw [h] at q; cases q
    rw [hu] at m; cases m
  · refine .inr ⟨o, e.keep a _ h fun w => ?_⟩
    obtain ⟨z, q, m⟩ := hO a (hW a w)
    rw [h] at q; cases q
    cases m
theorem Ext.sqT (e : Ext O H O' H' W) (hW : ∀ a, W a → O a) (hO : Own O H) {a : Addr} {xs : List V} (h : SqT K H a xs) : SqT K H' a xs := by
  rcases h with h | h
  · exact .inl (e.rdT hW hO rfl h)
  · exact .inr h
theorem Ext.rd (e : Ext O H O' H' W) (hW : ∀ a, W a → O a) {a : Addr} {u : HO} (n : ¬ O a) (h : Rd H a u) : Rd H' a u := by
  rcases h with h | ⟨o, h⟩
  · exact .inl (e.keep a _ h fun w => n (hW a w))
  · exact .inr ⟨o, e.keep a _ h fun w => n (hW a w)⟩
theorem Ext.not (e : Ext O H O' H' W) {a : Addr} {u : HO} (n : ¬ O a) (h : Rd H a u) : ¬ O' a := fun o => by
  rcases e.new a o with z | z
  · exact n z
  · rcases h with h | ⟨_, h⟩ <;> (rw [h] at z; cases z)
mutual
theorem Is.ext (e : Ext O H O' H' W) (hW : ∀ a, W a → O a) (hO : Own O H) : ∀ {v : V} {d : D}, Is K O H v d → Is K O' H' v d
  | _, _, .non => .non
  | _, _, .bl b => .bl b
  | _, _, .int i => .int i
  | _, _, .str x => .str x
  | _, _, .lst n r t => .lst (e.not n r) (e.rd hW n r) (IsAll.ext e hW hO t)
  | _, _, .lstK r t => .lstK r (IsAll.ext e hW hO t)
  | _, _, .tup r t => .tup (e.sqT hW hO r) (IsAll.ext e hW hO t)
  | _, _, .dic n r t => .dic (e.not n r) (e.rd hW n r) (IsKV.ext e hW hO t)
theorem IsAll.ext (e : Ext O H O' H' W) (hW : ∀ a, W a → O a) (hO : Own O H) : ∀ {vs : List V} {ds : List D}, IsAll K O H vs ds → IsAll K O' H' vs ds
  | _, _, .nil => .nil
  | _, _, .cons h t => .cons (Is.ext e hW hO h) (IsAll.ext e hW hO t)
theorem IsKV.ext (e : Ext O H O' H' W) (hW : ∀ a, W a → O a) (hO : Own O H) : ∀ {ks : List (Key × V)} {kvs : List (D × D)}, IsKV K O H ks kvs → IsKV K O' H' ks kvs
  | _, _, .nil => .nil
  | _, _, .cons h t => .cons (Is.ext e hW hO h) (IsKV.ext e hW hO t)
end
theorem IsAll.len : ∀ {vs : List V} {ds : List D}, IsAll K O H vs ds → vs.length = ds.length
  | _, _, .nil => rfl
  | _, _, .cons _ t => by rw [List.length_cons, List.length_cons, IsAll.len t]
theorem IsAll.get : ∀ {vs : List V} {ds : List D} {i : Nat} {d : D}, IsAll K O H vs ds → ds[i]? = some d → ∃ v, vs[i]? = some v ∧ Is K O H v d
  | _, _, _, _, .nil, e => by simp at e
  | _, _, 0, _, .cons h _, e => by simp at e; subst e; exact ⟨_, rfl, h⟩
  | _, _, i + 1, _, .cons _ t, e => by
    obtain ⟨v, h1, h2⟩ := IsAll.get (i := i) t (by simpa using e)
    exact ⟨v, by simpa using h1, h2⟩
theorem IsAll.getV : ∀ {vs : List V} {ds : List D} {i : Nat} {v : V}, IsAll K O H vs ds → vs[i]? = some v → ∃ d, ds[i]? = some d ∧ Is K O H v d
  | _, _, _, _, .nil, e => by simp at e
  | _, _, 0, _, .cons h _, e => by simp at e; subst e; exact ⟨_, rfl, h⟩
  | _, _, i + 1, _, .cons _ t, e => by
    obtain ⟨v, h1, h2⟩ := IsAll.getV (i := i) t (by simpa using e)
    exact ⟨v, by simpa using h1, h2⟩
theorem IsAll.append : ∀ {vs ws : List V} {ds es : List D}, IsAll K O H vs ds → IsAll K O H ws es → IsAll K O H (vs ++ ws) (ds ++ es)
  | _, _, _, _, .nil, s => s
  | _, _, _, _, .cons h t, s => .cons h (IsAll.append t s)
theorem IsAll.snoc (h : IsAll K O H vs ds) (x : Is K O H v d) : IsAll K O H (vs ++ [v]) (ds ++ [d]) := h.append (.cons x .nil)
theorem IsAll.reverse : ∀ {vs : List V} {ds : List D}, IsAll K O H vs ds → IsAll K O H vs.reverse ds.reverse
  | _, _, .nil => .nil
  | _, _, .cons h t => by rw [List.reverse_cons, List.reverse_cons]; exact (IsAll.reverse t).snoc h
theorem IsAll.take : ∀ {vs : List V} {ds : List D} (n : Nat), IsAll K O H vs ds → IsAll K O H (vs.take n) (ds.take n)
  | _, _, 0, _ => .nil
  | _, _, _ + 1, .nil => .nil
  | _, _, n + 1, .cons h t => .cons h (IsAll.take n t)
theorem IsAll.drop : ∀ {vs : List V} {ds : List D} (n : Nat), IsAll K O H vs ds → IsAll K O H (vs.drop n) (ds.drop n)
  | _, _, 0, h => h
  | _, _, _ + 1, .nil => .nil
  | _, _, n + 1, .cons _ t => IsAll.drop n t
theorem IsAll.set : ∀ {vs : List V} {ds : List D} (n : Nat), IsAll K O H vs ds → Is K O H v d → IsAll K O H (vs.set n v) (ds.set n d)
  | _, _, _, .nil, _ => .nil
  | _, _, 0, .cons _ t, x => .cons x t
  | _, _, n + 1, .cons h t, x => .cons h (IsAll.set n t x)
theorem IsAll.dropLast : ∀ {vs : List V} {ds : List D}, IsAll K O H vs ds → IsAll K O H vs.dropLast ds.dropLast
  | _, _, .nil => .nil
  | _, _, .cons _ .nil => .nil
  | _, _, .cons h (.cons h2 t) => .cons h (IsAll.dropLast (.cons h2 t))
theorem IsAll.eraseIdx : ∀ {vs : List V} {ds : List D} (n : Nat), IsAll K O H vs ds → IsAll K O H (vs.eraseIdx n) (ds.eraseIdx n)
  | _, _, _, .nil => .nil
  | _, _, 0, .cons _ t => t
  | _, _, n + 1, .cons h t => .cons h (IsAll.eraseIdx n t)

/-- an owned object's content -/
def Ct (K : PySem.W.Frag) (O : Addr → Prop) (H : Hp) (a : Addr) : D → Prop
  | .lst ds => ∃ xs, H a = some (.lst xs) ∧ IsAll K O H xs ds
  | .dic kvs => ∃ ks, H a = some (.dK ks) ∧ IsKV K O H ks kvs
  | _ => False
theorem Ct.ext (e : Ext O H O' H' W) (hW : ∀ a, W a → O a) (hO : Own O H) {a : Addr} (n : ¬ W a) : ∀ {d : D}, Ct K O H a d → Ct K O' H' a d
  | .lst _, ⟨xs, h, t⟩ => ⟨xs, e.keep a _ h n, t.ext e hW hO⟩
  | .dic _, ⟨ks, h, t⟩ => ⟨ks, e.keep a _ h n, t.ext e hW hO⟩
/-- data at hand: frozen, or an owned object's content -/
def VV (K : PySem.W.Frag) (O : Addr → Prop) (H : Hp) (v : V) (d : D) : Prop := Is K O H v d ∨ ∃ a, v = .ref a ∧ O a ∧ Ct K O H a d
/-- an owned thing is given free -/
theorem Ct.is {a : Addr} (hO : Own O H) (ha : O a) : ∀ {d : D}, Ct K O H a d → Is K (fun b => O b ∧ b ≠ a) H (.ref a) d
  | .lst _, ⟨xs, h, t⟩ => .lst (fun z => z.2 rfl) (.inl h) (t.ext (W := fun b => b = a) ⟨fun _ _ h _ => h, fun b o n => ⟨o, n⟩, fun b z => .inl z.1, fun _ h => h⟩ (fun b z => z ▸ ha) hO)
  | .dic _, ⟨ks, h, t⟩ => .dic (fun z => z.2 rfl) (.inl h) (t.ext (W := fun b => b = a) ⟨fun _ _ h _ => h, fun b o n => ⟨o, n⟩, fun b z => .inl z.1, fun _ h => h⟩ (fun b z => z ▸ ha) hO)
end
end G

set_option Elab.async false
set_option linter.all false
set_option maxRecDepth 100000
set_option maxHeartbeats 4000000
/-! G2: slots; readings of expressions by functions on slots. -/
namespace G
open PySem PySem.Spec PyProof.Rows L2

inductive SV where
  | im (d : D) | ow (lk : Bool) (d : D)
abbrev Slots := List (Option SV)
inductive Res where
  | im (d : D) | fr (d : D) | bo (i : Nat)
abbrev EX := Slots → Option (Res × Slots)
def owAt (sd : Slots) (i : Nat) : Option D := match sd[i]? with
  | some (some (.ow _ d)) => some d
  | _ => none
def imAt (sd : Slots) (i : Nat) : Option D := match sd[i]? with
  | some (some (.im d)) => some d
  | _ => none
def Res.get (sd : Slots) : Res → Option D
  | .im d => some d
  | .fr d => some d
  | .bo i => owAt sd i
theorem owAt_of {sd : Slots} {i : Nat} {d : D} (h : owAt sd i = some d) : ∃ b, sd[i]? = some (some (.ow b d)) := by
  unfold owAt at h
  split at h
  · rename_i b d' e; cases h; exact ⟨b, e⟩
  · cases h
theorem imAt_of {sd : Slots} {i : Nat} {d : D} (h : imAt sd i = some d) : sd[i]? = some (some (.im d)) := by
  unfold imAt at h
  split at h
  · rename_i e; cases h; exact e
  · cases h

/-- addresses of owned slots -/
def OwA (sd : Slots) (σ : L2.St) (a : Addr) : Prop := ∃ (i : Nat) (b : Bool) (d : D), sd[i]? = some (some (SV.ow b d)) ∧ σ[i]? = some (some (V.ref a))
structure SR (K : PySem.W.Frag) (O : Addr → Prop) (sd : Slots) (σ : L2.St) (H : Hp) : Prop where
  own : Own O H
  len : sd.length = σ.length
  im : ∀ (i : Nat) (d : D), sd[i]? = some (some (SV.im d)) → ∃ v, σ[i]? = some (some v) ∧ Is K O H v d
  ow : ∀ (i : Nat) (b : Bool) (d : D), sd[i]? = some (some (SV.ow b d)) → ∃ a, σ[i]? = some (some (V.ref a)) ∧ O a ∧ Ct K O H a d
  ne : ∀ (i j : Nat) (b c : Bool) (d e : D) (a : Addr), i ≠ j → sd[i]? = some (some (SV.ow b d)) → sd[j]? = some (some (SV.ow c e)) → σ[i]? = some (some (V.ref a)) → σ[j]? ≠ some (some (V.ref a))
/-- no slot becomes owned -/
structure Sub (sd' sd : Slots) : Prop where
  ow : ∀ (i : Nat) (b : Bool) (d : D), sd'[i]? = some (some (SV.ow b d)) → ∃ d0, sd[i]? = some (some (SV.ow b d0))
  lk : ∀ (i : Nat) (d : D), sd[i]? = some (some (SV.ow true d)) → ∃ d0, sd'[i]? = some (some (SV.ow true d0))
theorem Sub.refl (sd : Slots) : Sub sd sd := ⟨fun _ _ d h => ⟨d, h⟩, fun _ d h => ⟨d, h⟩⟩
theorem Sub.trans {a b c : Slots} (h : Sub a b) (k : Sub b c) : Sub a c := ⟨fun i x d e => let ⟨d0, e0⟩ := h.ow i x d e; k.ow i x d0 e0, fun i d e => let ⟨d0, e0⟩ := k.lk i d e; h.lk i d0 e0⟩
section
variable {K : PySem.W.Frag} {O O' O1 O2 : Addr → Prop} {H H' H0 H1 H2 : Hp} {W W1 : Addr → Prop} {v : V} {d : D} {vs : List V} {ds : List D} {sd sd' s1 s2 : Slots} {σ : L2.St}
theorem OwA.sub (h : Sub sd' sd) {a : Addr} (x : OwA sd' σ a) : OwA sd σ a := by
  obtain ⟨i, b, d, e, k⟩ := x
  obtain ⟨d0, e0⟩ := h.ow i b d e
  exact ⟨i, b, d0, e0, k⟩
theorem SR.owO (S : SR K O sd σ H) : ∀ a, OwA sd σ a → O a := fun a ⟨i, c, d, e, k⟩ => by
  obtain ⟨b, e2, o, _⟩ := S.ow i c d e
  rw [k] at e2; cases e2
  exact o
/-- a result: H0 the heap ahead of it -/
def RR (K : PySem.W.Frag) (O : Addr → Prop) (H H0 : Hp) (σ : L2.St) (sd : Slots) (v : V) : Res → Prop
  | .im d => Is K O H v d
  | .fr d => ∃ a, v = .ref a ∧ H0 a = none ∧ O a ∧ ¬ OwA sd σ a ∧ Ct K O H a d
  | .bo i => σ[i]? = some (some v)
/-- what stands behind an expression -/
structure Aft (K : PySem.W.Frag) (O : Addr → Prop) (H : Hp) (sd : Slots) (σ : L2.St) (O' : Addr → Prop) (H' : Hp) (sd' : Slots) : Prop where
  ext : Ext O H O' H' (OwA sd σ)
  sr : SR K O' sd' σ H'
  sub : Sub sd' sd
theorem Aft.refl (S : SR K O sd σ H) : Aft K O H sd σ O H sd := ⟨Ext.refl, S, Sub.refl _⟩
theorem Aft.trans (S : SR K O sd σ H) (a : Aft K O H sd σ O1 H1 s1) (b : Aft K O1 H1 s1 σ O2 H2 s2) : Aft K O H sd σ O2 H2 s2 :=
  ⟨a.ext.trans S.own b.ext fun x h => .inl (h.sub a.sub), b.sr, b.sub.trans a.sub⟩
theorem Aft.is (S : SR K O sd σ H) (a : Aft K O H sd σ O' H' sd') (h : Is K O H v d) : Is K O' H' v d := h.ext a.ext S.owO S.own
theorem RR.aft {r : Res} (S : SR K O sd σ H) (a : Aft K O H sd σ O' H' sd') (h : RR K O H H0 σ sd v r) : RR K O' H' H0 σ sd' v r := by
  cases r with
  | im d => exact a.is S h
  | fr d =>
    obtain ⟨x, e, n, o, w, c⟩ := h
    exact ⟨x, e, n, a.ext.own x o w, fun z => w (z.sub a.sub), c.ext a.ext S.owO S.own w⟩
  | bo i => exact h
theorem RR.old {r : Res} (h : RR K O H H1 σ sd v r) (k : ∀ a, H1 a = none → H0 a = none) : RR K O H H0 σ sd v r := by
  cases r with
  | im d => exact h
  | fr d => obtain ⟨x, e, n, q⟩ := h; exact ⟨x, e, k x n, q⟩
  | bo i => exact h
/-- the data of a result -/
theorem RR.vv {r : Res} (S : SR K O sd σ H) (h : RR K O H H0 σ sd v r) (g : r.get sd = some d) : VV K O H v d := by
  cases r with
  | im e => cases g; exact .inl h
  | fr e => cases g; obtain ⟨x, e, n, o, w, c⟩ := h; exact .inr ⟨x, e, o, c⟩
  | bo i =>
    obtain ⟨b, g'⟩ := owAt_of g
    obtain ⟨a, e, o, c⟩ := S.ow i b d g'
    have h' : σ[i]? = some (some v) := h
    rw [h'] at e; cases e
    exact .inr ⟨a, rfl, o, c⟩
/-- a fresh result given free -/
theorem Aft.free (S : SR K O sd σ H) (a : Aft K O H sd σ O' H' sd') {x : Addr} (n : H x = none) (w : ¬ OwA sd' σ x) : Aft K O H sd σ (fun b => O' b ∧ b ≠ x) H' sd' := by
  have e1 : Ext O' H' (fun b => O' b ∧ b ≠ x) H' (fun b => b = x ∧ O' b) := ⟨fun _ _ h _ => h, fun b o z => ⟨o, fun q => z ⟨q, o⟩⟩, fun b z => .inl z.1, fun _ h => h⟩
  have hW : ∀ b, (b = x ∧ O' b) → O' b := fun b z => z.2
  refine ⟨⟨a.ext.keep, fun b o z => ⟨a.ext.own b o z, fun q => ?_⟩, fun b z => a.ext.new b z.1, a.ext.trk⟩, ⟨fun b z => a.sr.own b z.1, a.sr.len, fun i d e => ?_, fun i c d e => ?_, a.sr.ne⟩, a.sub⟩
  · subst q
    obtain ⟨u, e, _⟩ := S.own b o
    rw [n] at e; cases e
  · obtain ⟨v, k, q⟩ := a.sr.im i d e
    exact ⟨v, k, q.ext e1 hW a.sr.own⟩
  · obtain ⟨b, k, o, q⟩ := a.sr.ow i c d e
    have nb : b ≠ x := fun z => w ⟨i, c, d, e, z ▸ k⟩
    exact ⟨b, k, ⟨o, nb⟩, q.ext e1 hW a.sr.own fun z => nb z.1⟩

/-! ### readings -/
/-- an expression's reading by a function on slots -/
def rd (K : PySem.W.Frag) (f : EX) : TE := fun σ H Q => ∃ O sd r sd', SR K O sd σ H ∧ f sd = some (r, sd') ∧ ∀ v H' O', Aft K O H sd σ O' H' sd' → RR K O' H' H σ sd' v r → Q v H'
abbrev TX := Slots → Option (Bool × Slots)
def rdT (K : PySem.W.Frag) (f : TX) : TT := fun σ H Q => ∃ O sd b sd', SR K O sd σ H ∧ f sd = some (b, sd') ∧ ∀ H' O', Aft K O H sd σ O' H' sd' → Q b H'
abbrev AX := Slots → Option (List Res × Slots)
/-- results in a row -/
inductive RRs (K : PySem.W.Frag) (O : Addr → Prop) (H H0 : Hp) (σ : L2.St) (sd : Slots) : List V → List Res → Prop
  | nil : RRs K O H H0 σ sd [] []
  | cons {v : V} {r : Res} {vs : List V} {rs : List Res} : RR K O H H0 σ sd v r → RRs K O H H0 σ sd vs rs → RRs K O H H0 σ sd (v :: vs) (r :: rs)
def rdA (K : PySem.W.Frag) (f : AX) : TA := fun σ H Q => ∃ O sd rs sd', SR K O sd σ H ∧ f sd = some (rs, sd') ∧ ∀ vs H' O', Aft K O H sd σ O' H' sd' → RRs K O' H' H σ sd' vs rs → Q vs H'
end

/-- the judgements -/
abbrev GE (X : Cx) (e : Expr) (f : EX) : Prop := PE X e (rd X.K f)
abbrev GT (X : Cx) (e : Expr) (f : TX) : Prop := PT X e (rdT X.K f)
abbrev GW (X : Cx) (e : Expr) (f : TX) : Prop := PW X e (rdT X.K f)
abbrev GA (X : Cx) (es : List Expr) (f : AX) : Prop := PA X es (rdA X.K f)
theorem _root_.L2.PE.imp {X : Cx} {e : Expr} {t t' : TE} (h : PE X e t) (k : ∀ σ H Q, t' σ H Q → t σ H Q) : PE X e t' := ⟨fun pins s σ H Q I q => h.run pins s σ H Q I (k σ H Q q)⟩
theorem _root_.L2.PT.imp {X : Cx} {e : Expr} {t t' : TT} (h : PT X e t) (k : ∀ σ H Q, t' σ H Q → t σ H Q) : PT X e t' := ⟨fun pins s σ H Q I q => h.run pins s σ H Q I (k σ H Q q)⟩
theorem _root_.L2.PW.imp {X : Cx} {e : Expr} {t t' : TT} (h : PW X e t) (k : ∀ σ H Q, t' σ H Q → t σ H Q) : PW X e t' := ⟨fun w pins s σ H Q I q => h.run w pins s σ H Q I (k σ H Q q)⟩
theorem _root_.L2.PA.imp {X : Cx} {es : List Expr} {t t' : TA} (h : PA X es t) (k : ∀ σ H Q, t' σ H Q → t σ H Q) : PA X es t' := ⟨fun p pins s σ H Q I q => h.run p pins s σ H Q I (k σ H Q q)⟩
theorem _root_.L2.PS.imp {X : Cx} {e : Stmt} {t t' : TS} (h : PS X e t) (k : ∀ D σ H, t' D σ H → t D σ H) : PS X e t' := ⟨fun pins s σ H D I q => h.run pins s σ H D I (k D σ H q)⟩
theorem _root_.L2.PSs.imp {X : Cx} {e : List Stmt} {t t' : TS} (h : PSs X e t) (k : ∀ D σ H, t' D σ H → t D σ H) : PSs X e t' := ⟨fun pins s σ H D I q => h.run pins s σ H D I (k D σ H q)⟩
theorem _root_.L2.PI.imp {X : Cx} {tg e : Expr} {t t' : TI} (h : PI X tg e t) (k : ∀ σ H R, t' σ H R → t σ H R) : PI X tg e t' := ⟨fun pins s σ H R I q => h.run pins s σ H R I (k σ H R q)⟩
theorem _root_.L2.PG.imp {X : Cx} {e : Expr} {t t' : TG} (h : PG X e t) (k : ∀ v σ H Q, t' v σ H Q → t v σ H Q) : PG X e t' := ⟨fun pins s σ H v u Q I r q => h.run pins s σ H v u Q I r (k v σ H Q q)⟩

/-! ### names, constants -/
def eV (i : Nat) : EX := fun sd => match sd[i]? with
  | some (some (.im d)) => some (.im d, sd)
  | some (some (.ow _ _)) => some (.bo i, sd)
  | _ => none
/-- the owned thing in slot i is given free -/
def eFz (i : Nat) : EX := fun sd => match sd[i]? with
  | some (some (.im d)) => some (.im d, sd)
  | some (some (.ow false d)) => some (.im d, sd.set i (some (.im d)))
  | _ => none
def eC (d : D) : EX := fun sd => some (.im d, sd)
section
variable {X : Cx} {K : PySem.W.Frag} {O O' : Addr → Prop} {H H' : Hp} {sd sd' : Slots} {σ : L2.St}
theorem rd_v {i : Nat} {σ : L2.St} {H : Hp} {Q : VK} (h : rd K (eV i) σ H Q) : tVar i σ H Q := by
  obtain ⟨O, sd, r, sd', S, e, q⟩ := h
  unfold eV at e
  split at e
  · rename_i d h1
    cases e
    obtain ⟨v, h2, h3⟩ := S.im i d h1
    exact ⟨v, h2, q v H O (Aft.refl S) h3⟩
  · rename_i b d h1
    cases e
    obtain ⟨a, h2, h3, h4⟩ := S.ow i b d h1
    exact ⟨_, h2, q _ H O (Aft.refl S) h2⟩
  · cases e
theorem ge_v (i : Nat) {x : Str} {pos : Pos} (hN : X.N[i]? = some x := by rfl) (hv : Vis X.env.scope x := by first | exact Or.inl rfl | exact Or.inr (Or.inl rfl) | exact Or.inr (Or.inr rfl)) (hd : (x == ("__debug__" : Str)) = false := by decide)
    (hcd : (x == ("__classdict__" : Str)) = false := by decide) : GE X (.Name x pos) (eV i) := (pe_var hN hv hd hcd).imp fun _ _ _ => rd_v
theorem SR.fz (S : SR K O sd σ H) {i : Nat} {d : D} {a : Addr} (h : sd[i]? = some (some (.ow false d))) (ha : σ[i]? = some (some (.ref a))) : Aft K O H sd σ (fun b => O b ∧ b ≠ a) H (sd.set i (some (.im d))) ∧ Is K (fun b => O b ∧ b ≠ a) H (.ref a) d := by
  obtain ⟨a', h2, h3, h4⟩ := S.ow i false d h
  rw [ha] at h2; cases h2
  have hil : i < sd.length := (List.getElem?_eq_some_iff.mp h).1
  have W : OwA sd σ a := ⟨i, false, d, h, ha⟩
  have e1 : Ext O H (fun b => O b ∧ b ≠ a) H (fun b => b = a) := ⟨fun _ _ h _ => h, fun b o z => ⟨o, z⟩, fun b z => .inl z.1, fun _ h => h⟩
  have hW : ∀ b, b = a → O b := fun b z => z ▸ h3
  have isd : Is K (fun b => O b ∧ b ≠ a) H (.ref a) d := Ct.is S.own h3 h4
  refine ⟨⟨⟨fun _ _ h _ => h, fun b o z => ⟨o, fun q => z (q ▸ W)⟩, fun b z => .inl z.1, fun _ h => h⟩, ⟨fun b z => S.own b z.1, by simpa using S.len, fun j e hj => ?_, fun j c e hj => ?_, fun j k c c' e f b hjk hj hk hb => ?_⟩, ⟨fun j c e hj => ?_, fun j e hj => ?_⟩⟩, isd⟩
  · by_cases hij : i = j
    · subst hij
      rw [List.getElem?_set_self hil] at hj
      cases hj
      exact ⟨_, ha, isd⟩
    · rw [List.getElem?_set_ne hij] at hj
      obtain ⟨v, q1, q2⟩ := S.im j e hj
      exact ⟨v, q1, q2.ext e1 hW S.own⟩
  · by_cases hij : i = j
    · subst hij
      rw [List.getElem?_set_self hil] at hj
      cases hj
    · rw [List.getElem?_set_ne hij] at hj
      obtain ⟨b, q1, q2, q3⟩ := S.ow j c e hj
      have nb : b ≠ a := fun z => S.ne i j false c d e a hij h hj ha (z ▸ q1)
      exact ⟨b, q1, ⟨q2, nb⟩, q3.ext e1 hW S.own nb⟩
  · have hj' : sd[j]? = some (some (SV.ow c e)) := by
      by_cases hij : i = j
      · subst hij; rw [List.getElem?_set_self hil] at hj; cases hj
      · rwa [List.getElem?_set_ne hij] at hj
    have hk' : sd[k]? = some (some (SV.ow c' f)) := by
      by_cases hij : i = k
      · subst hij; rw [List.getElem?_set_self hil] at hk; cases hk
      · rwa [List.getElem?_set_ne hij] at hk
    exact S.ne j k c c' e f b hjk hj' hk' hb
  · by_cases hij : i = j
    · subst hij; rw [List.getElem?_set_self hil] at hj; cases hj
    · rw [List.getElem?_set_ne hij] at hj
      exact ⟨e, hj⟩
  · by_cases hij : i = j
    · subst hij
      rw [h] at hj
      cases hj
    · exact ⟨e, by rw [List.getElem?_set_ne hij]; exact hj⟩
theorem rd_fz {i : Nat} {σ : L2.St} {H : Hp} {Q : VK} (h : rd K (eFz i) σ H Q) : tVar i σ H Q := by
  obtain ⟨O, sd, r, sd', S, e, q⟩ := h
  unfold eFz at e
  split at e
  · rename_i d h1
    cases e
    obtain ⟨v, h2, h3⟩ := S.im i d h1
    exact ⟨v, h2, q v H O (Aft.refl S) h3⟩
  · rename_i d h1
    cases e
    obtain ⟨a, h2, h3, h4⟩ := S.ow i false d h1
    obtain ⟨A, I⟩ := S.fz h1 h2
    exact ⟨_, h2, q _ H _ A I⟩
  · cases e
theorem ge_fz (i : Nat) {x : Str} {pos : Pos} (hN : X.N[i]? = some x := by rfl) (hv : Vis X.env.scope x := by first | exact Or.inl rfl | exact Or.inr (Or.inl rfl) | exact Or.inr (Or.inr rfl)) (hd : (x == ("__debug__" : Str)) = false := by decide)
    (hcd : (x == ("__classdict__" : Str)) = false := by decide) : GE X (.Name x pos) (eFz i) := (pe_var hN hv hd hcd).imp fun _ _ _ => rd_fz
theorem rd_c {v : V} {d : D} (hv : ∀ O H, Is K O H v d) {σ : L2.St} {H : Hp} {Q : VK} (h : rd K (eC d) σ H Q) : tC v σ H Q := by
  obtain ⟨O, sd, r, sd', S, e, q⟩ := h
  cases e
  exact q v H O (Aft.refl S) (hv O H)
theorem ge_int {i : Int} {j pos} : GE X (.Constant (.int i) j pos) (eC (.int i)) := pe_int.imp fun _ _ _ => rd_c fun _ _ => .int i
theorem ge_str {x : Str} {j pos} : GE X (.Constant (.str x) j pos) (eC (.str x)) := pe_str.imp fun _ _ _ => rd_c fun _ _ => .str x
theorem ge_bl {b : Bool} {j pos} : GE X (.Constant (.bool b) j pos) (eC (.bl b)) := pe_bl.imp fun _ _ _ => rd_c fun _ _ => .bl b
theorem ge_non {j pos} : GE X (.Constant .none j pos) (eC .non) := pe_non.imp fun _ _ _ => rd_c fun _ _ => .non
end

/-! ### a fresh thing is frozen -/
def fz (f : EX) : EX := fun sd => do
  let (r, s) ← f sd
  match r with
  | .im d => some (.im d, s)
  | .fr d => some (.im d, s)
  | .bo _ => none
section
variable {X : Cx} {K : PySem.W.Frag} {f : EX}
theorem rd_fzE {σ : L2.St} {H : Hp} {Q : VK} (h : rd K (fz f) σ H Q) : rd K f σ H Q := by
  obtain ⟨O, sd, r, sd', S, e, q⟩ := h
  unfold fz at e
  obtain ⟨⟨r1, s1⟩, e1, e2⟩ := Option.bind_eq_some_iff.mp e
  refine ⟨O, sd, r1, s1, S, e1, fun v H' O' A R => ?_⟩
  cases r1 with
  | im d => cases e2; exact q v H' O' A R
  | fr d =>
    cases e2
    obtain ⟨a, rfl, n, o, w, c⟩ := R
    exact q _ H' _ (A.free S n w) (Ct.is A.sr.own o c)
  | bo i => cases e2
theorem ge_fzE {e : Expr} (h : GE X e f) : GE X e (fz f) := h.imp fun _ _ _ => rd_fzE
end
end G

set_option Elab.async false
set_option linter.all false
set_option maxRecDepth 100000
set_option maxHeartbeats 4000000
/-! G3: operators, displays, calls of built-ins, by functions on data. -/
namespace G
open PySem PySem.Spec PyProof.Rows L2

section
variable {K : PySem.W.Frag} {O O' O1 O2 : Addr → Prop} {H H' H0 H1 H2 : Hp} {v : V} {d : D} {vs : List V} {ds : List D} {sd sd' s1 s2 : Slots} {σ : L2.St}
abbrev W0 : Addr → Prop := fun _ => False
/-- an operation's result -/
def RO (K : PySem.W.Frag) (O : Addr → Prop) (H H0 : Hp) (v : V) : Res → Prop
  | .im d => Is K O H v d
  | .fr d => ∃ a, v = .ref a ∧ H0 a = none ∧ O a ∧ Ct K O H a d
  | .bo _ => False
abbrev Post (K : PySem.W.Frag) (O : Addr → Prop) (H : Hp) (out : Res) (Q : VK) : Prop := ∀ v H' O', Own O' H' → Ext O H O' H' W0 → RO K O' H' H v out → Q v H'
theorem Post.now {out : Res} {Q : VK} (hO : Own O H) (p : Post K O H out Q) (h : RO K O H H v out) : Q v H := p v H O hO Ext.refl h
theorem Own.new (hO : Own O H) {p : Addr} {u : HO} (hp : H p = none) (hu : mutO u = true) : Own (fun a => O a ∨ a = p) (upd H p u) := fun a z => by
  by_cases e : a = p
  · subst e; exact ⟨u, upd_same, hu⟩
  · obtain ⟨w, q, m⟩ := hO a (z.resolve_right e)
    exact ⟨w, by rw [upd_ne e]; exact q, m⟩
theorem Own.grow (hO : Own O H) {p : Addr} {u : HO} (hp : H p = none) : Own O (upd H p u) := fun a z => by
  obtain ⟨w, q, m⟩ := hO a z
  exact ⟨w, by rw [upd_ne (ne_of_none q hp)]; exact q, m⟩
theorem Ext.new_ {p : Addr} {u : HO} (hp : H p = none) : Ext O H (fun a => O a ∨ a = p) (upd H p u) W0 :=
  ⟨fun a w e _ => by rw [upd_ne (ne_of_none e hp)]; exact e, fun a o _ => .inl o, fun a o => o.elim .inl fun e => .inr (e ▸ hp), fun a e => by
    by_cases h : a = p
    · rw [h]; exact hp
    · rwa [upd_ne h] at e⟩
theorem Ext.grow {p : Addr} {u : HO} (hp : H p = none) : Ext O H O (upd H p u) W0 :=
  ⟨fun a w e _ => by rw [upd_ne (ne_of_none e hp)]; exact e, fun a o _ => o, fun a o => .inl o, fun a e => by
    by_cases h : a = p
    · rw [h]; exact hp
    · rwa [upd_ne h] at e⟩
theorem w0 {O : Addr → Prop} : ∀ a, W0 a → O a := fun _ h => h.elim
/-- a new list -/
theorem Post.lst {Q : VK} (hO : Own O H) (p : Post K O H (.fr (.lst ds)) Q) (h : IsAll K O H vs ds) : ∀ l, H l = none → Q (.ref l) (upd H l (.lst vs)) := fun l hl =>
  p _ _ _ (hO.new hl rfl) (Ext.new_ hl) ⟨l, rfl, hl, .inr rfl, vs, upd_same, h.ext (Ext.new_ hl) w0 hO⟩
/-- a new tuple -/
theorem Post.tup {Q : VK} (hO : Own O H) (p : Post K O H (.im (.tup ds)) Q) (h : IsAll K O H vs ds) : ∀ l, H l = none → Q (.ref l) (upd H l (.tup vs)) := fun l hl =>
  p _ _ _ (hO.grow hl) (Ext.grow hl) (.tup (.inl (.inl upd_same)) (h.ext (Ext.grow hl) w0 hO))
/-- a new dict -/
theorem Post.dic {Q : VK} {ks : List (Key × V)} {kvs : List (D × D)} (hO : Own O H) (p : Post K O H (.fr (.dic kvs)) Q) (h : IsKV K O H ks kvs) : ∀ l, H l = none → Q (.ref l) (upd H l (.dK ks)) := fun l hl =>
  p _ _ _ (hO.new hl rfl) (Ext.new_ hl) ⟨l, rfl, hl, .inr rfl, ks, upd_same, h.ext (Ext.new_ hl) w0 hO⟩
theorem SR.grow (S : SR K O sd σ H) (hO : Own O' H') (e : Ext O H O' H' W0) : Aft K O H sd σ O' H' sd :=
  ⟨⟨fun a u h _ => e.keep a u h (fun z => z), fun a o _ => e.own a o fun z => z, e.new, e.trk⟩,
    ⟨hO, S.len, fun i d h => let ⟨v, k, q⟩ := S.im i d h; ⟨v, k, q.ext e w0 S.own⟩, fun i b d h => let ⟨a, k, o, q⟩ := S.ow i b d h; ⟨a, k, e.own a o fun z => z, q.ext e w0 S.own fun z => z⟩, S.ne⟩, Sub.refl _⟩
theorem RO.rr {out : Res} (S : SR K O sd σ H) (k : ∀ a, H a = none → H0 a = none) (e : Ext O H O' H' W0) (h : RO K O' H' H v out) : RR K O' H' H0 σ sd v out := by
  cases out with
  | im d => exact h
  | fr d =>
    obtain ⟨a, q, n, o, c⟩ := h
    refine ⟨a, q, k a n, o, fun w => ?_, c⟩
    obtain ⟨u, z, _⟩ := S.own a (S.owO a w)
    rw [n] at z; cases z
  | bo i => exact h.elim

/-! ### operators -/
def OpS (K : PySem.W.Frag) (r : R2) (g : D → D → Option Res) : Prop :=
  ∀ (O : Addr → Prop) (H : Hp) (x y : V) (dx dy : D) (out : Res) (Q : VK), Own O H → VV K O H x dx → VV K O H y dy → g dx dy = some out → Post K O H out Q → r x y H Q
def UnS (K : PySem.W.Frag) (r : V → Hp → VK → Prop) (g : D → Option Res) : Prop :=
  ∀ (O : Addr → Prop) (H : Hp) (x : V) (dx : D) (out : Res) (Q : VK), Own O H → VV K O H x dx → g dx = some out → Post K O H out Q → r x H Q
def op2 (g : D → D → Option Res) (fa fb : EX) : EX := fun sd => do
  let (ra, s1) ← fa sd
  let (rb, s2) ← fb s1
  let da ← ra.get s2
  let db ← rb.get s2
  let o ← g da db
  some (o, s2)
def op1 (g : D → Option Res) (fa : EX) : EX := fun sd => do
  let (ra, s1) ← fa sd
  let da ← ra.get s1
  let o ← g da
  some (o, s1)
theorem Aft.trk {O' : Addr → Prop} (a : Aft K O H sd σ O' H' sd') : ∀ x, H' x = none → H x = none := a.ext.trk
theorem rd_op2 {r : R2} {g : D → D → Option Res} {fa fb : EX} (hr : OpS K r g) {Q : VK} (h : rd K (op2 g fa fb) σ H Q) : tOp r (rd K fa) (rd K fb) σ H Q := by
  obtain ⟨O, sd, r0, sd', S, e, q⟩ := h
  obtain ⟨⟨ra, s1⟩, e1, e⟩ := Option.bind_eq_some_iff.mp e
  obtain ⟨⟨rb, s2⟩, e2, e⟩ := Option.bind_eq_some_iff.mp e
  obtain ⟨da, e3, e⟩ := Option.bind_eq_some_iff.mp e
  obtain ⟨db, e4, e⟩ := Option.bind_eq_some_iff.mp e
  obtain ⟨o, e5, e⟩ := Option.bind_eq_some_iff.mp e
  cases e
  refine ⟨O, sd, ra, _, S, e1, fun x H1 O1 A1 R1 => ⟨O1, s1, rb, _, A1.sr, e2, fun y H2 O2 A2 R2 => ?_⟩⟩
  have vx := (R1.aft A1.sr A2).vv A2.sr e3
  have vy := R2.vv A2.sr e4
  refine hr O2 H2 x y da db _ Q A2.sr.own vx vy e5 fun v H' O' own ext ro => ?_
  exact q v H' O' ((A1.trans S A2).trans S (A2.sr.grow own ext)) (ro.rr A2.sr (fun a z => A1.trk a (A2.trk a z)) ext)
theorem rd_op1 {r : V → Hp → VK → Prop} {g : D → Option Res} {fa : EX} (hr : UnS K r g) {Q : VK} (h : rd K (op1 g fa) σ H Q) : tUn r (rd K fa) σ H Q := by
  obtain ⟨O, sd, r0, sd', S, e, q⟩ := h
  obtain ⟨⟨ra, s1⟩, e1, e⟩ := Option.bind_eq_some_iff.mp e
  obtain ⟨da, e3, e⟩ := Option.bind_eq_some_iff.mp e
  obtain ⟨o, e5, e⟩ := Option.bind_eq_some_iff.mp e
  cases e
  refine ⟨O, sd, ra, _, S, e1, fun x H1 O1 A1 R1 => ?_⟩
  refine hr O1 H1 x da _ Q A1.sr.own (R1.vv A1.sr e3) e5 fun v H' O' own ext ro => ?_
  exact q v H' O' (A1.trans S (A1.sr.grow own ext)) (ro.rr A1.sr (fun a z => A1.trk a z) ext)

/-! ### argument lists -/
def aNil : AX := fun sd => some ([], sd)
def aCons (f : EX) (g : AX) : AX := fun sd => do
  let (r, s1) ← f sd
  let (rs, s2) ← g s1
  some (r :: rs, s2)
theorem RRs.aft {rs : List Res} (S : SR K O sd σ H) (a : Aft K O H sd σ O' H' sd') (h : RRs K O H H0 σ sd vs rs) : RRs K O' H' H0 σ sd' vs rs := by
  induction h with
  | nil => exact .nil
  | cons x _ ih => exact .cons (x.aft S a) ih
theorem RRs.old {rs : List Res} (h : RRs K O H H1 σ sd vs rs) (k : ∀ a, H1 a = none → H0 a = none) : RRs K O H H0 σ sd vs rs := by
  induction h with
  | nil => exact .nil
  | cons x _ ih => exact .cons (x.old k) ih
theorem rd_aNil {Q : List V → Hp → Prop} (h : rdA K aNil σ H Q) : tNil σ H Q := by
  obtain ⟨O, sd, r0, sd', S, e, q⟩ := h
  cases e
  exact q [] H O (Aft.refl S) .nil
theorem rd_aCons {f : EX} {g : AX} {Q : List V → Hp → Prop} (h : rdA K (aCons f g) σ H Q) : tCons (rd K f) (rdA K g) σ H Q := by
  obtain ⟨O, sd, r0, sd', S, e, q⟩ := h
  obtain ⟨⟨ra, s1⟩, e1, e⟩ := Option.bind_eq_some_iff.mp e
  obtain ⟨⟨rs, s2⟩, e2, e⟩ := Option.bind_eq_some_iff.mp e
  cases e
  refine ⟨O, sd, ra, _, S, e1, fun x H1 O1 A1 R1 => ⟨O1, s1, rs, _, A1.sr, e2, fun ys H2 O2 A2 R2 => ?_⟩⟩
  exact q (x :: ys) H2 O2 (A1.trans S A2) (.cons (R1.aft A1.sr A2) (R2.old fun a z => A1.trk a z))
/-- results' data -/
inductive VVs (K : PySem.W.Frag) (O : Addr → Prop) (H : Hp) : List V → List D → Prop
  | nil : VVs K O H [] []
  | cons {v : V} {d : D} {vs : List V} {ds : List D} : VV K O H v d → VVs K O H vs ds → VVs K O H (v :: vs) (d :: ds)
def getAll (sd : Slots) : List Res → Option (List D)
  | [] => some []
  | r :: rs => do
    let d ← r.get sd
    let ds ← getAll sd rs
    some (d :: ds)
theorem RRs.vvs (S : SR K O sd σ H) : ∀ {vs : List V} {rs : List Res} {ds : List D}, RRs K O H H0 σ sd vs rs → getAll sd rs = some ds → VVs K O H vs ds
  | _, _, _, .nil, e => by cases e; exact .nil
  | _, _, _, .cons x t, e => by
    obtain ⟨d, e1, e⟩ := Option.bind_eq_some_iff.mp e
    obtain ⟨ds, e2, e⟩ := Option.bind_eq_some_iff.mp e
    cases e
    exact .cons (x.vv S e1) (RRs.vvs S t e2)
/-- frozen ones -/
def ims : List Res → Option (List D)
  | [] => some []
  | .im d :: rs => (ims rs).map (d :: ·)
  | _ => none
theorem RRs.isAll : ∀ {vs : List V} {rs : List Res} {ds : List D}, RRs K O H H0 σ sd vs rs → ims rs = some ds → IsAll K O H vs ds
  | _, _, _, .nil, e => by cases e; exact .nil
  | _, r :: _, _, .cons x t, e => by
    cases r with
    | im d =>
      obtain ⟨ds, e1, e2⟩ := Option.map_eq_some_iff.mp e
      cases e2
      exact .cons x (RRs.isAll t e1)
    | fr d => cases e
    | bo i => cases e
/-! displays -/
def eTup (f : AX) : EX := fun sd => do
  let (rs, s1) ← f sd
  let ds ← ims rs
  if ds.length ≤ sizeLine then some (.im (.tup ds), s1) else none
def eLst (f : AX) : EX := fun sd => do
  let (rs, s1) ← f sd
  let ds ← ims rs
  if ds.length ≤ sizeLine then some (.fr (.lst ds), s1) else none
theorem rd_tup {f : AX} {Q : VK} (h : rd K (eTup f) σ H Q) : tTup (rdA K f) σ H Q := by
  obtain ⟨O, sd, r0, sd', S, e, q⟩ := h
  obtain ⟨⟨rs, s1⟩, e1, e⟩ := Option.bind_eq_some_iff.mp e
  obtain ⟨ds, e2, e⟩ := Option.bind_eq_some_iff.mp e
  split at e
  · rename_i hz
    cases e
    refine ⟨O, sd, rs, _, S, e1, fun vs H1 O1 A1 R1 => ?_⟩
    have hA := R1.isAll e2
    refine ⟨by rw [hA.len]; exact hz, Post.tup A1.sr.own (fun v H' O' own ext ro => ?_) hA⟩
    exact q v H' O' (A1.trans S (A1.sr.grow own ext)) (ro.rr A1.sr (fun a z => A1.trk a z) ext)
  · cases e
theorem rd_lst {f : AX} {Q : VK} (h : rd K (eLst f) σ H Q) : tLst (rdA K f) σ H Q := by
  obtain ⟨O, sd, r0, sd', S, e, q⟩ := h
  obtain ⟨⟨rs, s1⟩, e1, e⟩ := Option.bind_eq_some_iff.mp e
  obtain ⟨ds, e2, e⟩ := Option.bind_eq_some_iff.mp e
  split at e
  · rename_i hz
    cases e
    refine ⟨O, sd, rs, _, S, e1, fun vs H1 O1 A1 R1 => ?_⟩
    have hA := R1.isAll e2
    refine ⟨by rw [hA.len]; exact hz, Post.lst A1.sr.own (fun v H' O' own ext ro => ?_) hA⟩
    exact q v H' O' (A1.trans S (A1.sr.grow own ext)) (ro.rr A1.sr (fun a z => A1.trk a z) ext)
  · cases e
/-! calls of built-ins by values -/
def CallS (K : PySem.W.Frag) (r : List V → Hp → VK → Prop) (g : List D → Option Res) : Prop :=
  ∀ (O : Addr → Prop) (H : Hp) (vs : List V) (ds : List D) (out : Res) (Q : VK), Own O H → VVs K O H vs ds → g ds = some out → Post K O H out Q → r vs H Q
def eCB (g : List D → Option Res) (f : AX) : EX := fun sd => do
  let (rs, s1) ← f sd
  let ds ← getAll s1 rs
  let o ← g ds
  some (o, s1)
theorem rd_cb {r : List V → Hp → VK → Prop} {g : List D → Option Res} {f : AX} (hr : CallS K r g) {Q : VK} (h : rd K (eCB g f) σ H Q) : tCB r (rdA K f) σ H Q := by
  obtain ⟨O, sd, r0, sd', S, e, q⟩ := h
  obtain ⟨⟨rs, s1⟩, e1, e⟩ := Option.bind_eq_some_iff.mp e
  obtain ⟨ds, e2, e⟩ := Option.bind_eq_some_iff.mp e
  obtain ⟨o, e3, e⟩ := Option.bind_eq_some_iff.mp e
  cases e
  refine ⟨O, sd, rs, _, S, e1, fun vs H1 O1 A1 R1 => ?_⟩
  refine hr O1 H1 vs ds _ Q A1.sr.own (R1.vvs A1.sr e2) e3 fun v H' O' own ext ro => ?_
  exact q v H' O' (A1.trans S (A1.sr.grow own ext)) (ro.rr A1.sr (fun a z => A1.trk a z) ext)
/-! methods of built-in types that change nothing: the receiver first -/
def MtS (K : PySem.W.Frag) (T : String) (r : V → List V → Hp → VK → Prop) (g : D → List D → Option Res) : Prop :=
  ∀ (O : Addr → Prop) (H : Hp) (x : V) (dx : D) (vs : List V) (ds : List D) (out : Res) (Q : VK), Own O H → VV K O H x dx → VVs K O H vs ds → g dx ds = some out → Post K O H out Q → r x vs H Q
def TyS (K : PySem.W.Frag) (T : String) (p : D → Bool) : Prop := ∀ (O : Addr → Prop) (H : Hp) (x : V) (dx : D), Own O H → VV K O H x dx → p dx = true → tyV K T x H
def eMt (p : D → Bool) (g : D → List D → Option Res) (fo : EX) (f : AX) : EX := fun sd => do
  let (ro, s1) ← fo sd
  let d0 ← ro.get s1
  if p d0 = true then do
    let (rs, s2) ← f s1
    let d ← ro.get s2
    let ds ← getAll s2 rs
    let o ← g d ds
    some (o, s2)
  else none
theorem rd_bm {T : String} {p : D → Bool} {r : V → List V → Hp → VK → Prop} {g : D → List D → Option Res} {fo : EX} {f : AX} (hp : TyS K T p) (hr : MtS K T r g) {Q : VK} (h : rd K (eMt p g fo f) σ H Q) : tBM K T r (rd K fo) (rdA K f) σ H Q := by
  obtain ⟨O, sd, r0, sd', S, e, q⟩ := h
  obtain ⟨⟨ra, s1⟩, e1, e⟩ := Option.bind_eq_some_iff.mp e
  obtain ⟨d0, e2, e⟩ := Option.bind_eq_some_iff.mp e
  split at e
  · rename_i hp0
    obtain ⟨⟨rs, s2⟩, e3, e⟩ := Option.bind_eq_some_iff.mp e
    obtain ⟨d, e4, e⟩ := Option.bind_eq_some_iff.mp e
    obtain ⟨ds, e5, e⟩ := Option.bind_eq_some_iff.mp e
    obtain ⟨o, e6, e⟩ := Option.bind_eq_some_iff.mp e
    cases e
    refine ⟨O, sd, ra, _, S, e1, fun x H1 O1 A1 R1 => ⟨hp O1 H1 x d0 A1.sr.own (R1.vv A1.sr e2) hp0, O1, _, rs, _, A1.sr, e3, fun ys H2 O2 A2 R2 => ?_⟩⟩
    refine hr O2 H2 x d ys ds _ Q A2.sr.own ((R1.aft A1.sr A2).vv A2.sr e4) (R2.vvs A2.sr e5) e6 fun v H' O' own ext ro => ?_
    exact q v H' O' ((A1.trans S A2).trans S (A2.sr.grow own ext)) (ro.rr A2.sr (fun a z => A1.trk a (A2.trk a z)) ext)
  · cases e
theorem rd_bm0 {T : String} {p : D → Bool} {r : V → List V → Hp → VK → Prop} {g : D → List D → Option Res} {fo : EX} (hp : TyS K T p) (hr : MtS K T r g) {Q : VK} (h : rd K (eMt p g fo aNil) σ H Q) : tBM0 K T r (rd K fo) σ H Q := by
  obtain ⟨O, sd, r0, sd', S, e, q⟩ := h
  obtain ⟨⟨ra, s1⟩, e1, e⟩ := Option.bind_eq_some_iff.mp e
  obtain ⟨d0, e2, e⟩ := Option.bind_eq_some_iff.mp e
  split at e
  · rename_i hp0
    obtain ⟨⟨rs, s2⟩, e3, e⟩ := Option.bind_eq_some_iff.mp e
    obtain ⟨d, e4, e⟩ := Option.bind_eq_some_iff.mp e
    obtain ⟨ds, e5, e⟩ := Option.bind_eq_some_iff.mp e
    obtain ⟨o, e6, e⟩ := Option.bind_eq_some_iff.mp e
    cases e
    cases e3
    cases e5
    refine ⟨O, sd, ra, _, S, e1, fun x H1 O1 A1 R1 => ⟨hp O1 H1 x d0 A1.sr.own (R1.vv A1.sr e2) hp0, ?_⟩⟩
    refine hr O1 H1 x d [] [] _ Q A1.sr.own (R1.vv A1.sr e4) .nil e6 fun v H' O' own ext ro => ?_
    exact q v H' O' (A1.trans S (A1.sr.grow own ext)) (ro.rr A1.sr (fun a z => A1.trk a z) ext)
  · cases e

/-! ### tests -/
def tst (f : EX) : TX := fun sd => do
  let (r, s) ← f sd
  match r with
  | .im (.bl b) => some (b, s)
  | _ => none
theorem rd_tst {f : EX} {t : TE} (ht : ∀ {σ : L2.St} {H : Hp} {Q : VK}, rd K f σ H Q → t σ H Q) {Q : Bool → Hp → Prop} (h : rdT K (tst f) σ H Q) : tTest t σ H Q := by
  obtain ⟨O, sd, b, sd', S, e, q⟩ := h
  obtain ⟨⟨r, s⟩, e1, e⟩ := Option.bind_eq_some_iff.mp e
  refine ht ⟨O, sd, r, _, S, e1, fun v H' O' A R => ?_⟩
  cases r with
  | im d =>
    cases d with
    | bl c =>
      cases e
      cases R
      exact ⟨b, rfl, q H' O' A⟩
    | _ => cases e
  | fr d => cases e
  | bo i => cases e
def tNotX (f : TX) : TX := fun sd => do
  let (b, s) ← f sd
  some (!b, s)
def tAndX (f g : TX) : TX := fun sd => do
  let (b, s) ← f sd
  if b = true then g s else some (false, s)
def tOrX (f g : TX) : TX := fun sd => do
  let (b, s) ← f sd
  if b = true then some (true, s) else g s
theorem rd_tnot {f : TX} {Q : Bool → Hp → Prop} (h : rdT K (tNotX f) σ H Q) : tNot (rdT K f) σ H Q := by
  obtain ⟨O, sd, b, sd', S, e, q⟩ := h
  obtain ⟨⟨c, s⟩, e1, e⟩ := Option.bind_eq_some_iff.mp e
  cases e
  exact ⟨O, sd, c, _, S, e1, q⟩
theorem rd_tand {f g : TX} {Q : Bool → Hp → Prop} (h : rdT K (tAndX f g) σ H Q) : tAnd (rdT K f) (rdT K g) σ H Q := by
  obtain ⟨O, sd, b, sd', S, e, q⟩ := h
  obtain ⟨⟨c, s⟩, e1, e⟩ := Option.bind_eq_some_iff.mp e
  refine ⟨O, sd, c, _, S, e1, fun H1 O1 A1 => ?_⟩
  cases c with
  | true =>
    rw [if_pos rfl]
    exact ⟨O1, _, b, _, A1.sr, e, fun H2 O2 A2 => q H2 O2 (A1.trans S A2)⟩
  | false =>
    rw [if_neg Bool.false_ne_true]
    cases e
    exact q H1 O1 A1
theorem rd_tor {f g : TX} {Q : Bool → Hp → Prop} (h : rdT K (tOrX f g) σ H Q) : tOr (rdT K f) (rdT K g) σ H Q := by
  obtain ⟨O, sd, b, sd', S, e, q⟩ := h
  obtain ⟨⟨c, s⟩, e1, e⟩ := Option.bind_eq_some_iff.mp e
  refine ⟨O, sd, c, _, S, e1, fun H1 O1 A1 => ?_⟩
  cases c with
  | true =>
    rw [if_pos rfl]
    cases e
    exact q H1 O1 A1
  | false =>
    rw [if_neg Bool.false_ne_true]
    exact ⟨O1, _, b, _, A1.sr, e, fun H2 O2 A2 => q H2 O2 (A1.trans S A2)⟩
/-- a test as a value -/
def eB (f : TX) : EX := fun sd => do
  let (b, s) ← f sd
  some (.im (.bl b), s)
/-- a if c else b -/
def eIf (c : TX) (f g : EX) : EX := fun sd => do
  let (b, s) ← c sd
  if b = true then f s else g s
theorem rd_if {c : TX} {f g : EX} {Q : VK} (h : rd K (eIf c f g) σ H Q) : tIf (rdT K c) (rd K f) (rd K g) σ H Q := by
  obtain ⟨O, sd, r, sd', S, e, q⟩ := h
  obtain ⟨⟨b, s⟩, e1, e⟩ := Option.bind_eq_some_iff.mp e
  refine ⟨O, sd, b, _, S, e1, fun H1 O1 A1 => ?_⟩
  cases b with
  | true =>
    rw [if_pos rfl]
    replace e : f s = some (r, sd') := e
    exact ⟨O1, _, r, _, A1.sr, e, fun v H2 O2 A2 R2 => q v H2 O2 (A1.trans S A2) (R2.old fun a z => A1.trk a z)⟩
  | false =>
    rw [if_neg Bool.false_ne_true]
    replace e : g s = some (r, sd') := e
    exact ⟨O1, _, r, _, A1.sr, e, fun v H2 O2 A2 R2 => q v H2 O2 (A1.trans S A2) (R2.old fun a z => A1.trk a z)⟩
/-- and, or, not as values of truth values -/
def eAnd (f g : EX) : EX := fun sd => do
  let (r, s) ← f sd
  match r with
  | .im (.bl b) => if b = true then g s else some (.im (.bl false), s)
  | _ => none
def eOr (f g : EX) : EX := fun sd => do
  let (r, s) ← f sd
  match r with
  | .im (.bl b) => if b = true then some (.im (.bl true), s) else g s
  | _ => none
def eNot (f : EX) : EX := fun sd => do
  let (r, s) ← f sd
  match r with
  | .im (.bl b) => some (.im (.bl (!b)), s)
  | _ => none
theorem rd_and {f g : EX} {Q : VK} (h : rd K (eAnd f g) σ H Q) : tAndV (rd K f) (rd K g) σ H Q := by
  obtain ⟨O, sd, r, sd', S, e, q⟩ := h
  obtain ⟨⟨r1, s⟩, e1, e⟩ := Option.bind_eq_some_iff.mp e
  refine ⟨O, sd, r1, _, S, e1, fun v H1 O1 A1 R1 => ?_⟩
  cases r1 with
  | im d =>
    cases d with
    | bl b =>
      cases R1
      refine ⟨b, rfl, ?_⟩
      cases b with
      | true =>
        rw [if_pos rfl]
        exact ⟨O1, _, r, _, A1.sr, e, fun v H2 O2 A2 R2 => q v H2 O2 (A1.trans S A2) (R2.old fun a z => A1.trk a z)⟩
      | false =>
        rw [if_neg Bool.false_ne_true]
        cases e
        exact q _ H1 O1 A1 (.bl false)
    | _ => cases e
  | fr d => cases e
  | bo i => cases e
theorem rd_or {f g : EX} {Q : VK} (h : rd K (eOr f g) σ H Q) : tOrV (rd K f) (rd K g) σ H Q := by
  obtain ⟨O, sd, r, sd', S, e, q⟩ := h
  obtain ⟨⟨r1, s⟩, e1, e⟩ := Option.bind_eq_some_iff.mp e
  refine ⟨O, sd, r1, _, S, e1, fun v H1 O1 A1 R1 => ?_⟩
  cases r1 with
  | im d =>
    cases d with
    | bl b =>
      cases R1
      refine ⟨b, rfl, ?_⟩
      cases b with
      | false =>
        rw [if_neg Bool.false_ne_true]
        exact ⟨O1, _, r, _, A1.sr, e, fun v H2 O2 A2 R2 => q v H2 O2 (A1.trans S A2) (R2.old fun a z => A1.trk a z)⟩
      | true =>
        rw [if_pos rfl]
        cases e
        exact q _ H1 O1 A1 (.bl true)
    | _ => cases e
  | fr d => cases e
  | bo i => cases e
theorem rd_not {f : EX} {Q : VK} (h : rd K (eNot f) σ H Q) : tNotV (rd K f) σ H Q := by
  obtain ⟨O, sd, r, sd', S, e, q⟩ := h
  obtain ⟨⟨r1, s⟩, e1, e⟩ := Option.bind_eq_some_iff.mp e
  refine ⟨O, sd, r1, _, S, e1, fun v H1 O1 A1 R1 => ?_⟩
  cases r1 with
  | im d =>
    cases d with
    | bl b =>
      cases R1
      cases e
      exact ⟨b, rfl, q _ H1 O1 A1 (.bl (!b))⟩
    | _ => cases e
  | fr d => cases e
  | bo i => cases e
end

section
variable {X : Cx} {a b c e : Expr} {es rest : List Expr} {fa fb f g : EX} {pos : Pos}
theorem ge_op {op : Operator} {r : R2} {g : D → D → Option Res} (ho : OpR X (binaryOp op) r) (hr : OpS X.K r g) (ha : GE X a fa) (hb : GE X b fb) : GE X (.BinOp a op b pos) (op2 g fa fb) := (pe_op ho ha hb).imp fun _ _ _ => rd_op2 hr
theorem ge_un {op : UnaryOp} {r : V → Hp → VK → Prop} {g : D → Option Res} (ho : UnR X (unaryOp op) r) (hr : UnS X.K r g) (ha : GE X a fa) : GE X (.UnaryOp op a pos) (op1 g fa) := (pe_un ho ha).imp fun _ _ _ => rd_op1 hr
theorem ge_cmp {op : CmpOp} {r : R2} {g : D → D → Option Res} (ho : OpR X (compareOp op) r) (hr : OpS X.K r g) (ha : GE X a fa) (hb : GE X b fb) (hm : behindInMarks op b = false) : GE X (.Compare a [op] [b] pos) (op2 g fa fb) := (pe_cmpR ho ha hb hm).imp fun _ _ _ => rd_op2 hr
theorem gt_cmp {op : CmpOp} {r : R2} {g : D → D → Option Res} (ho : OpR X (compareOp op) r) (hr : OpS X.K r g) (ha : GE X a fa) (hb : GE X b fb) (hm : behindInMarks op b = false) : GT X (.Compare a [op] [b] pos) (tst (op2 g fa fb)) :=
  (pt_cmpR ho ha hb hm).imp fun _ _ _ => rd_tst fun h => rd_op2 hr h
theorem gt_val (h : GE X e f) (he : ∀ whole, isTrue e X.env whole = (do let v ← whole; standAt e.pos; holding [v] (truthy v)) := by intro _; rfl) : GT X e (tst f) := (pt_val h he).imp fun _ _ _ => rd_tst fun h => h
theorem ge_ix {r : R2} {g : D → D → Option Res} (hx : IxR X r) (hr : OpS X.K r g) (ha : GE X a fa) (hb : GE X b fb) (hs : PlainIx b := by exact fun _ _ => rfl) : GE X (.Subscript a b pos) (op2 g fa fb) := (pe_ix hx ha hb hs).imp fun _ _ _ => rd_op2 hr
theorem ga_nil : GA X [] aNil := pa_nil.imp fun _ _ _ => rd_aNil
theorem ga_cons {g : AX} (ha : GE X e f) (hr : GA X es g) (hs : starEach (e :: es) X.env = (false, eval e X.env) :: starEach es X.env := by rfl) : GA X (e :: es) (aCons f g) := (pa_cons ha hr hs).imp fun _ _ _ => rd_aCons
theorem ge_tup {x1} {f : AX} (h : GA X es f) : GE X (.Tuple es x1 pos) (eTup f) := (pe_tup h).imp fun _ _ _ => rd_tup
theorem ge_lst {f : AX} (h : GA X es f) : GE X (.List es pos) (eLst f) := (pe_lst h).imp fun _ _ _ => rd_lst
theorem ge_callB {id : String} {r : List V → Hp → VK → Prop} {g : List D → Option Res} {x : Str} {p : Pos} {f : AX} (hc : CallR X (.builtin id) r) (hr : CallS X.K r g) (hg : Gl X x) (hm : X.mg x = none) (hv : bootBuiltins x = some (.builtin id)) (ha : GA X (e :: es) f) (hn : x ≠ "__name__" := by decide) (hdb : (x == ("__debug__" : Str)) = false := by decide)
    (he : starEach (e :: es) X.env = (false, eval e X.env) :: starEach es X.env := by rfl) (hpl : (backTo pos (starEach es X.env)).any (·.1) = false := by rfl) : GE X (.Call (.Name x p) (e :: es) [] pos) (eCB g f) := (pe_callB hc hg hm hv ha hn hdb he hpl).imp fun _ _ _ => rd_cb hr
theorem ge_callTy {T : String} {r : List V → Hp → VK → Prop} {g : List D → Option Res} {x : Str} {p : Pos} {f : AX} (hc : CallR X (.type T) r) (hr : CallS X.K r g) (hg : Gl X x) (hm : X.mg x = none) (hv : bootBuiltins x = some (.type T)) (ha : GA X (e :: es) f) (hn : x ≠ "__name__" := by decide) (hdb : (x == ("__debug__" : Str)) = false := by decide)
    (he : starEach (e :: es) X.env = (false, eval e X.env) :: starEach es X.env := by rfl) (hpl : (backTo pos (starEach es X.env)).any (·.1) = false := by rfl) : GE X (.Call (.Name x p) (e :: es) [] pos) (eCB g f) := (pe_callTy hc hg hm hv ha hn hdb he hpl).imp fun _ _ _ => rd_cb hr
theorem gt_not {f : TX} (h : GT X a f) : GT X (.UnaryOp .Not a pos) (tNotX f) := (pt_not h).imp fun _ _ _ => rd_tnot
theorem gw_and1 {f : TX} (h : GT X a f) : GW X (.BoolOp .And [a] pos) f := pw_and1 h
theorem gw_or1 {f : TX} (h : GT X a f) : GW X (.BoolOp .Or [a] pos) f := pw_or1 h
theorem gw_and {f g : TX} (h : GT X a f) (k : GW X (.BoolOp .And (b :: rest) pos) g) : GW X (.BoolOp .And (a :: b :: rest) pos) (tAndX f g) := (pw_and h k).imp fun _ _ _ => rd_tand
theorem gw_or {f g : TX} (h : GT X a f) (k : GW X (.BoolOp .Or (b :: rest) pos) g) : GW X (.BoolOp .Or (a :: b :: rest) pos) (tOrX f g) := (pw_or h k).imp fun _ _ _ => rd_tor
theorem gw_pt {f : TX} (h : GW X a f) : GT X a f := h.pt
theorem ge_if {c : Expr} {t : TX} (hc : GT X c t) (ha : GE X a fa) (hb : GE X b fb) : GE X (.IfExp c a b pos) (eIf t fa fb) := (pe_ifExp hc ha hb).imp fun _ _ _ => rd_if
theorem ge_one {op} (h : GE X a f) : GE X (.BoolOp op [a] pos) f := pe_one h
theorem ge_and (h : GE X a f) (k : GE X (.BoolOp .And (b :: rest) pos) g) : GE X (.BoolOp .And (a :: b :: rest) pos) (eAnd f g) := (pe_and h k).imp fun _ _ _ => rd_and
theorem ge_or (h : GE X a f) (k : GE X (.BoolOp .Or (b :: rest) pos) g) : GE X (.BoolOp .Or (a :: b :: rest) pos) (eOr f g) := (pe_or h k).imp fun _ _ _ => rd_or
theorem ge_not (h : GE X a f) : GE X (.UnaryOp .Not a pos) (eNot f) := (pe_not h).imp fun _ _ _ => rd_not
end
end G

set_option Elab.async false
set_option linter.all false
set_option maxRecDepth 100000
set_option maxHeartbeats 4000000
/-! G4: the operations by data. -/
namespace G
open PySem PySem.Spec PyProof.Rows L2

/-! ### plain data: no truth values, no dicts; nested below n -/
def pl : Nat → D → Bool
  | 0, _ => false
  | _ + 1, .non => true
  | _ + 1, .bl _ => false
  | _ + 1, .int _ => true
  | _ + 1, .str x => PyData.strOk x
  | n + 1, .lst xs => xs.all (pl n)
  | n + 1, .tup xs => xs.all (pl n)
  | _ + 1, .dic _ => false
mutual
def toPy : D → PyData
  | .non => .none
  | .bl b => .bool b
  | .int i => .int i
  | .str x => .str x
  | .lst xs => .list (toPyL xs)
  | .tup xs => .tuple (toPyL xs)
  | .dic _ => .none
def toPyL : List D → List PyData
  | [] => []
  | x :: xs => toPy x :: toPyL xs
end
section
variable {K : PySem.W.Frag} {O : Addr → Prop} {H : Hp}
mutual
theorem Is.dp : ∀ {n : Nat} {v : V} {d : D}, Is K O H v d → pl n d = true → Dp K H v (toPy d)
  | 0, _, _, _, h => by simp [pl] at h
  | _ + 1, _, _, .non, _ => by simp only [toPy]; exact .non
  | _ + 1, _, _, .bl b, h => by simp [pl] at h
  | _ + 1, _, _, .int i, _ => by simp only [toPy]; exact .int i
  | _ + 1, _, _, .str x, _ => by simp only [toPy]; exact .str x
  | n + 1, _, _, .lst _ r t, h => by simp only [toPy]; exact .lst (.inl r) (IsAll.dp t (by simpa [pl] using h))
  | n + 1, _, _, .lstK r t, h => by simp only [toPy]; exact .lst (r H) (IsAll.dp t (by simpa [pl] using h))
  | n + 1, _, _, .tup r t, h => by simp only [toPy]; exact .tup r (IsAll.dp t (by simpa [pl] using h))
  | _ + 1, _, _, .dic _ _ _, h => by simp [pl] at h
theorem IsAll.dp : ∀ {n : Nat} {vs : List V} {ds : List D}, IsAll K O H vs ds → (∀ d ∈ ds, pl n d = true) → DpAll K H vs (toPyL ds)
  | _, _, _, .nil, _ => by simp only [toPyL]; exact .nil
  | n, _, _, .cons h t, k => by simp only [toPyL]; exact .cons (Is.dp h (k _ List.mem_cons_self)) (IsAll.dp t fun d hd => k d (List.mem_cons_of_mem _ hd))
end
theorem VV.dp {n : Nat} {v : V} {d : D} (h : VV K O H v d) (p : pl n d = true) : Dp K H v (toPy d) := by
  rcases h with h | ⟨a, rfl, o, c⟩
  · exact h.dp p
  · cases n with
    | zero => simp [pl] at p
    | succ n =>
      cases d with
      | lst ds =>
        obtain ⟨xs, e, t⟩ := c
        simp only [toPy]
        exact .lst (.inl (.inl e)) (t.dp (by simpa [pl] using p))
      | dic kvs => simp [pl] at p
      | _ => exact c.elim
end
theorem pl_shape : ∀ (n : Nat) (d : D), pl n d = true → (toPy d).canLay0 = true ∧ (toPy d).depth ≤ n
  | 0, _, h => by simp [pl] at h
  | n + 1, .non, _ => by simp [toPy, PyData.canLay0, PyData.depth]
  | n + 1, .bl _, h => by simp [pl] at h
  | n + 1, .int _, _ => by simp [toPy, PyData.canLay0, PyData.depth]
  | n + 1, .str x, h => by
    have h' : PyData.strOk x = true := by simpa [pl] using h
    simp [toPy, PyData.canLay0, PyData.depth, h']
  | n + 1, .lst xs, h => by
    have q := pl_shapeL n xs (by simpa [pl] using h)
    simp only [toPy, PyData.canLay0, PyData.depth]
    exact ⟨q.1, by omega⟩
  | n + 1, .tup xs, h => by
    have q := pl_shapeL n xs (by simpa [pl] using h)
    simp only [toPy, PyData.canLay0, PyData.depth]
    exact ⟨q.1, by omega⟩
  | n + 1, .dic _, h => by simp [pl] at h
where pl_shapeL : ∀ (n : Nat) (xs : List D), (∀ d ∈ xs, pl n d = true) → PyData.canLayAll0 (toPyL xs) = true ∧ PyData.depthAll (toPyL xs) ≤ n
  | _, [], _ => by simp [toPyL, PyData.canLayAll0, PyData.depthAll]
  | n, x :: xs, h => by
    have q1 := pl_shape n x (h x List.mem_cons_self)
    have q2 := pl_shapeL n xs fun d hd => h d (List.mem_cons_of_mem _ hd)
    simp only [toPyL, PyData.canLayAll0, PyData.depthAll, Bool.and_eq_true]
    exact ⟨⟨q1.1, q2.1⟩, by omega⟩
theorem pl_shaped {n : Nat} {d : D} (h : pl n d = true) (hn : n ≤ 64) : SeqAt.shaped (toPy d) = true := by
  have q := pl_shape n d h
  unfold SeqAt.shaped
  rw [q.1, Bool.true_and]
  exact decide_eq_true (by omega)
theorem pl_eqv : ∀ (n : Nat) (d e : D), pl n d = true → pl n e = true → PyData.eqv (toPy d) (toPy e) = decide (d = e)
  | 0, _, _, h, _ => by simp [pl] at h
  | n + 1, .non, e, _, h => by cases e <;> simp_all [pl, toPy, PyData.eqv]
  | n + 1, .bl _, _, h, _ => by simp [pl] at h
  | n + 1, .int a, e, _, h => by
    cases e with
    | int b =>
      simp only [toPy, PyData.eqv]
      by_cases q : a = b <;> simp [q]
    | _ => simp_all [pl, toPy, PyData.eqv]
  | n + 1, .str a, e, _, h => by
    cases e with
    | str b =>
      simp only [toPy, PyData.eqv]
      by_cases q : a = b <;> simp [q]
    | _ => simp_all [pl, toPy, PyData.eqv]
  | n + 1, .lst xs, e, h, k => by
    cases e with
    | lst ys =>
      have q := pl_eqvL n xs ys (by simpa [pl] using h) (by simpa [pl] using k)
      simp only [toPy, PyData.eqv, q]
      by_cases z : xs = ys <;> simp [z]
    | _ => simp_all [pl, toPy, PyData.eqv]
  | n + 1, .tup xs, e, h, k => by
    cases e with
    | tup ys =>
      have q := pl_eqvL n xs ys (by simpa [pl] using h) (by simpa [pl] using k)
      simp only [toPy, PyData.eqv, q]
      by_cases z : xs = ys <;> simp [z]
    | _ => simp_all [pl, toPy, PyData.eqv]
  | n + 1, .dic _, _, h, _ => by simp [pl] at h
where pl_eqvL : ∀ (n : Nat) (xs ys : List D), (∀ d ∈ xs, pl n d = true) → (∀ d ∈ ys, pl n d = true) → PyData.eqvAll (toPyL xs) (toPyL ys) = decide (xs = ys)
  | _, [], [], _, _ => by simp [toPyL, PyData.eqvAll]
  | _, [], _ :: _, _, _ => by simp [toPyL, PyData.eqvAll]
  | _, _ :: _, [], _, _ => by simp [toPyL, PyData.eqvAll]
  | n, x :: xs, y :: ys, h, k => by
    have q1 := pl_eqv n x y (h x List.mem_cons_self) (k y List.mem_cons_self)
    have q2 := pl_eqvL n xs ys (fun d hd => h d (List.mem_cons_of_mem _ hd)) fun d hd => k d (List.mem_cons_of_mem _ hd)
    simp only [toPyL, PyData.eqvAll, q1, q2]
    by_cases z1 : x = y <;> by_cases z2 : xs = ys <;> simp [z1, z2]

section
variable {X : Cx} {K : PySem.W.Frag} {O : Addr → Prop} {H : Hp}
/-! ### what a value is, by its data -/
theorem VV.int {v : V} {i : Int} (h : VV K O H v (.int i)) : v = .int i := by
  rcases h with h | ⟨a, _, _, c⟩
  · cases h; rfl
  · exact c.elim
theorem VV.str {v : V} {x : Str} (h : VV K O H v (.str x)) : v = .str x := by
  rcases h with h | ⟨a, _, _, c⟩
  · cases h; rfl
  · exact c.elim
theorem VV.bl {v : V} {b : Bool} (h : VV K O H v (.bl b)) : v = .bl b := by
  rcases h with h | ⟨a, _, _, c⟩
  · cases h; rfl
  · exact c.elim
theorem VV.non {v : V} (h : VV K O H v .non) : v = .non := by
  rcases h with h | ⟨a, _, _, c⟩
  · cases h; rfl
  · exact c.elim
theorem VV.lst {v : V} {ds : List D} (h : VV K O H v (.lst ds)) : ∃ a xs, v = .ref a ∧ SqL K H a xs ∧ IsAll K O H xs ds := by
  rcases h with h | ⟨a, rfl, _, xs, e, t⟩
  · cases h with
    | lst n r t => exact ⟨_, _, rfl, .inl r, t⟩
    | lstK r t => exact ⟨_, _, rfl, r H, t⟩
  · exact ⟨a, xs, rfl, .inl (.inl e), t⟩
theorem VV.tup {v : V} {ds : List D} (h : VV K O H v (.tup ds)) : ∃ a xs, v = .ref a ∧ SqT K H a xs ∧ IsAll K O H xs ds := by
  rcases h with h | ⟨a, rfl, _, c⟩
  · cases h with
    | tup r t => exact ⟨_, _, rfl, r, t⟩
  · exact c.elim
theorem VV.dic {v : V} {kvs : List (D × D)} (h : VV K O H v (.dic kvs)) : ∃ a ks, v = .ref a ∧ Rd H a (.dK ks) ∧ IsKV K O H ks kvs := by
  rcases h with h | ⟨a, rfl, _, ks, e, t⟩
  · cases h with
    | dic n r t => exact ⟨_, _, rfl, r, t⟩
  · exact ⟨a, ks, rfl, .inl e, t⟩
theorem OpS.or {r r' : R2} {g g' : D → D → Option Res} (h : OpS K r g) (k : OpS K r' g') : OpS K (fun x y H Q => r x y H Q ∨ r' x y H Q) (fun a b => match g a b with | some o => some o | none => g' a b) := by
  intro O H x y dx dy out Q hO hx hy e p
  cases q : g dx dy with
  | some o =>
    simp only [q] at e
    cases e
    exact .inl (h O H x y dx dy _ Q hO hx hy q p)
  | none =>
    simp only [q] at e
    exact .inr (k O H x y dx dy _ Q hO hx hy e p)

/-! ### == and != -/
def eqD : D → D → Option Res
  | .bl a, .bl b => some (.im (.bl (a == b)))
  | a, b => if pl 60 a && pl 60 b then some (.im (.bl (decide (a = b)))) else none
def neD : D → D → Option Res
  | .bl a, .bl b => some (.im (.bl (!(a == b))))
  | a, b => if pl 60 a && pl 60 b then some (.im (.bl (!decide (a = b)))) else none
abbrev rEqQ (K : PySem.W.Frag) : R2 := fun x y H Q => rEq x y H Q ∨ rEqD K x y H Q
abbrev rNeQ (K : PySem.W.Frag) : R2 := fun x y H Q => rNe x y H Q ∨ rNeD K x y H Q
theorem or_eq (hu : X.A.units + 64 < cLine) : OpR X (compareOp .Eq) (rEqQ X.K) := op_eq.or (op_eqD hu)
theorem or_ne (hu : X.A.units + 64 < cLine) : OpR X (compareOp .NotEq) (rNeQ X.K) := op_ne.or (op_neD hu)
theorem eqD_cases {dx dy : D} {out : Res} (e : eqD dx dy = some out) : (∃ a b, dx = .bl a ∧ dy = .bl b ∧ out = .im (.bl (a == b))) ∨ (pl 60 dx = true ∧ pl 60 dy = true ∧ out = .im (.bl (decide (dx = dy)))) := by
  unfold eqD at e
  split at e
  · cases e; exact .inl ⟨_, _, rfl, rfl, rfl⟩
  · split at e
    · rename_i h
      rw [Bool.and_eq_true] at h
      cases e
      exact .inr ⟨h.1, h.2, rfl⟩
    · cases e
theorem neD_cases {dx dy : D} {out : Res} (e : neD dx dy = some out) : (∃ a b, dx = .bl a ∧ dy = .bl b ∧ out = .im (.bl (!(a == b)))) ∨ (pl 60 dx = true ∧ pl 60 dy = true ∧ out = .im (.bl (!decide (dx = dy)))) := by
  unfold neD at e
  split at e
  · cases e; exact .inl ⟨_, _, rfl, rfl, rfl⟩
  · split at e
    · rename_i h
      rw [Bool.and_eq_true] at h
      cases e
      exact .inr ⟨h.1, h.2, rfl⟩
    · cases e
theorem os_eq : OpS K (rEqQ K) eqD := by
  intro O H x y dx dy out Q hO hx hy e p
  rcases eqD_cases e with ⟨a, b, rfl, rfl, rfl⟩ | ⟨h1, h2, rfl⟩
  · rw [hx.bl, hy.bl]
    refine .inl ⟨rfl, ?_⟩
    rw [dec_bl]
    exact p.now hO (.bl _)
  · refine .inr ⟨_, _, hx.dp h1, hy.dp h2, pl_shaped h1 (by omega), pl_shaped h2 (by omega), ?_⟩
    rw [pl_eqv 60 dx dy h1 h2]
    exact p.now hO (.bl _)
theorem os_ne : OpS K (rNeQ K) neD := by
  intro O H x y dx dy out Q hO hx hy e p
  rcases neD_cases e with ⟨a, b, rfl, rfl, rfl⟩ | ⟨h1, h2, rfl⟩
  · rw [hx.bl, hy.bl]
    refine .inl ⟨rfl, ?_⟩
    rw [dec_bl]
    exact p.now hO (.bl _)
  · refine .inr ⟨_, _, hx.dp h1, hy.dp h2, pl_shaped h1 (by omega), pl_shaped h2 (by omega), ?_⟩
    rw [pl_eqv 60 dx dy h1 h2]
    exact p.now hO (.bl _)

/-! ### ints -/
def iiB (f : Int → Int → Bool) : D → D → Option Res
  | .int i, .int j => some (.im (.bl (f i j)))
  | _, _ => none
def iiI (C : Int → Int → Bool) (f : Int → Int → Int) : D → D → Option Res
  | .int i, .int j => if C i j then some (.im (.int (f i j))) else none
  | _, _ => none
theorem iiB_of {f : Int → Int → Bool} {dx dy : D} {out : Res} (e : iiB f dx dy = some out) : ∃ i j, dx = .int i ∧ dy = .int j ∧ out = .im (.bl (f i j)) := by
  unfold iiB at e
  split at e
  · cases e; exact ⟨_, _, rfl, rfl, rfl⟩
  · cases e
theorem iiI_of {C : Int → Int → Bool} {f : Int → Int → Int} {dx dy : D} {out : Res} (e : iiI C f dx dy = some out) : ∃ i j, dx = .int i ∧ dy = .int j ∧ C i j = true ∧ out = .im (.int (f i j)) := by
  unfold iiI at e
  split at e
  · split at e
    · rename_i h; cases e; exact ⟨_, _, rfl, rfl, h, rfl⟩
    · cases e
  · cases e
theorem os_iiB {f : Int → Int → Bool} : OpS K (rI0 fun i j => .bl (f i j)) (iiB f) := by
  intro O H x y dx dy out Q hO hx hy e p
  obtain ⟨i, j, rfl, rfl, rfl⟩ := iiB_of e
  exact ⟨i, j, hx.int, hy.int, p.now hO (.bl _)⟩
theorem os_iiI {C : Int → Int → Bool} {C' : Int → Int → Prop} {f : Int → Int → Int} (h : ∀ i j, C i j = true → C' i j) : OpS K (rI C' fun i j => .int (f i j)) (iiI C f) := by
  intro O H x y dx dy out Q hO hx hy e p
  obtain ⟨i, j, rfl, rfl, hc, rfl⟩ := iiI_of e
  exact ⟨i, j, hx.int, hy.int, h i j hc, p.now hO (.int _)⟩
theorem os_iiI0 {f : Int → Int → Int} : OpS K (rI0 fun i j => .int (f i j)) (iiI (fun _ _ => true) f) := by
  intro O H x y dx dy out Q hO hx hy e p
  obtain ⟨i, j, rfl, rfl, hc, rfl⟩ := iiI_of e
  exact ⟨i, j, hx.int, hy.int, p.now hO (.int _)⟩
def cMul (i j : Int) : Bool := decide (-(2 ^ 64) < i ∧ i < 2 ^ 64) || decide (-(2 ^ 64) < j ∧ j < 2 ^ 64)
def cMod (_ j : Int) : Bool := decide (0 < j)
def cDiv (_ j : Int) : Bool := decide (0 < j ∧ j < 1073741824)
def cPow (i j : Int) : Bool := decide (0 ≤ j ∧ j ≤ 1000000 ∧ i.natAbs < 2 ^ 64)
abbrev ltD := iiB fun i j => decide (i < j)
abbrev leD := iiB fun i j => decide (i ≤ j)
abbrev gtD := iiB fun i j => decide (j < i)
abbrev geD := iiB fun i j => decide (j ≤ i)
abbrev subD := iiI (fun _ _ => true) fun i j => i - j
abbrev mulD := iiI cMul fun i j => i * j
abbrev modD := iiI cMod fun i j => i % j
abbrev divD := iiI cDiv fun i j => i / j
abbrev powD := iiI cPow fun i j => i ^ j.toNat
theorem os_mul : OpS K (rI CMul fun i j => .int (i * j)) mulD := os_iiI fun i j h => by simpa [cMul, CMul] using h
theorem os_mod : OpS K (rI (fun _ j => 0 < j) fun i j => .int (i % j)) modD := os_iiI fun i j h => of_decide_eq_true h
theorem os_div : OpS K (rI CDiv fun i j => .int (i / j)) divD := os_iiI fun i j h => of_decide_eq_true (p := 0 < j ∧ j < 1073741824) h
theorem os_pow : OpS K (rI CPow fun i j => .int (i ^ j.toNat)) powD := os_iiI fun i j h => of_decide_eq_true (p := 0 ≤ j ∧ j ≤ 1000000 ∧ i.natAbs < 2 ^ 64) h

/-! ### + -/
def addD : D → D → Option Res
  | .int i, .int j => some (.im (.int (i + j)))
  | .str x, .str y => if x.length + y.length ≤ sizeLine then some (.im (.str (x ++ y))) else none
  | .lst xs, .lst ys => if xs.length + ys.length ≤ sizeLine then some (.fr (.lst (xs ++ ys))) else none
  | .tup xs, .tup ys => if xs.length + ys.length ≤ sizeLine then some (.im (.tup (xs ++ ys))) else none
  | _, _ => none
/-- list + list, wherever they stand -/
def rCatL (K : PySem.W.Frag) : R2 := fun x y H Q => ∃ l b xs zs, x = .ref l ∧ y = .ref b ∧ SqL K H l xs ∧ SqL K H b zs ∧ xs.length + zs.length ≤ sizeLine ∧ ∀ p, H p = none → Q (.ref p) (upd H p (.lst (xs ++ zs)))
theorem op_catL : OpR X (binaryOp .Add) (rCatL X.K) := by
  intro pins s σ H x y v u Q I rx ry ⟨l, b, xs, zs, ex, ey, hl, hb, hz, q⟩
  subst ex ey
  cases rx
  cases ry
  obtain ⟨i1, r1, ⟨o1, n1, h1, c1, d1, e1⟩, z1⟩ := I.list hl
  obtain ⟨i2, r2, ⟨o2, n2, h2, c2, d2, e2⟩, z2⟩ := I.list hb
  obtain ⟨oc1, od1, oe1, os1⟩ := o1
  obtain ⟨oc2, od2, oe2, os2⟩ := o2
  simp only at c1 d1 e1 c2 d2 e2
  subst c1 d1 e1 c2 d2 e2
  have k1 := r1.length
  have k2 := r2.length
  refine concat_meets ⟨_, h1, rfl⟩ ⟨_, h2, rfl⟩ noFill_list_add seq_list_add PySem.F.slot_list_add PySem.F.entry_list_add (PySem.F.args_list_add_2 _ _) (list_addW l b i1.toArray i2.toArray n1 n2 _ _ os1 os2 (by simp only [List.size_toArray]; omega)) ⟨h1, h2, ?_⟩
  rw [show i1.toArray ++ i2.toArray = (i1 ++ i2).toArray from by simp]
  exact ⟨.ref _, _, I.lnew (t' := s.toks) (r1.append r2) (by rw [List.length_append]; omega), rfl, q _ I.fresh⟩
abbrev rAddQ (K : PySem.W.Frag) : R2 := fun x y H Q => rI0 (fun i j => .int (i + j)) x y H Q ∨ (∃ i j, x = .str i ∧ y = .str j ∧ i.length + j.length ≤ sizeLine ∧ Q (.str (i ++ j)) H) ∨ rCatL K x y H Q ∨ rCatA K x y H Q
theorem or_add : OpR X (binaryOp .Add) (rAddQ X.K) := op_add.or (op_add_str.or (op_catL.or op_catA))
theorem os_add : OpS K (rAddQ K) addD := by
  intro O H x y dx dy out Q hO hx hy e p
  unfold addD at e
  split at e
  · cases e
    exact .inl ⟨_, _, hx.int, hy.int, p.now hO (.int _)⟩
  · split at e
    · rename_i hz
      cases e
      exact .inr (.inl ⟨_, _, hx.str, hy.str, hz, p.now hO (.str _)⟩)
    · cases e
  · split at e
    · rename_i hz
      cases e
      obtain ⟨a, xs, rfl, h1, t1⟩ := hx.lst
      obtain ⟨b, ys, rfl, h2, t2⟩ := hy.lst
      exact .inr (.inr (.inl ⟨a, b, xs, ys, rfl, rfl, h1, h2, by rw [t1.len, t2.len]; exact hz, Post.lst hO p (t1.append t2)⟩))
    · cases e
  · rename_i dxs dys
    split at e
    · rename_i hz
      cases e
      obtain ⟨a, xs, rfl, h1, t1⟩ := hx.tup
      obtain ⟨b, ys, rfl, h2, t2⟩ := hy.tup
      refine .inr (.inr (.inr ⟨a, b, xs, ys, rfl, rfl, h1, h2, by rw [t1.len, t2.len]; exact hz, fun z => ?_, fun z1 z2 => ?_, fun z1 z2 => Post.tup hO p (t1.append t2)⟩))
      · subst z
        cases t1
        exact p.now hO (.tup h2 (by simpa using t2))
      · subst z2
        cases t2
        exact p.now hO (.tup h1 (by simpa using t1))
    · cases e
  · cases e

/-! ### is None -/
def isND : D → D → Option Res := fun a b => match b with
  | .non => some (.im (.bl (decide (a = .non))))
  | _ => none
def notND : D → D → Option Res := fun a b => match b with
  | .non => some (.im (.bl (!decide (a = .non))))
  | _ => none
theorem VV.dec_non {v : V} {d : D} (h : VV K O H v d) : decide (v = .non) = decide (d = .non) := by
  cases d with
  | non => rw [h.non]; simp
  | bl b => rw [h.bl]; simp
  | int b => rw [h.int]; simp
  | str b => rw [h.str]; simp
  | lst b => obtain ⟨a, xs, rfl, _⟩ := h.lst; simp
  | tup b => obtain ⟨a, xs, rfl, _⟩ := h.tup; simp
  | dic b => obtain ⟨a, xs, rfl, _⟩ := h.dic; simp
theorem os_isN : OpS K (fun x y H Q => y = .non ∧ Q (.bl (decide (x = .non))) H) isND := by
  intro O H x y dx dy out Q hO hx hy e p
  unfold isND at e
  split at e
  · cases e
    exact ⟨hy.non, by rw [hx.dec_non]; exact p.now hO (.bl _)⟩
  · cases e
theorem os_notN : OpS K (fun x y H Q => y = .non ∧ Q (.bl (!decide (x = .non))) H) notND := by
  intro O H x y dx dy out Q hO hx hy e p
  unfold notND at e
  split at e
  · cases e
    exact ⟨hy.non, by rw [hx.dec_non]; exact p.now hO (.bl _)⟩
  · cases e

/-! ### subscripts of lists, tuples, texts -/
def ixD : D → D → Option Res
  | .lst xs, .int i => (atI xs i).map .im
  | .tup xs, .int i => (atI xs i).map .im
  | .str z, .int i => if z.length ≤ sizeLine then (atI z.cps.toList i).map fun c => .im (.str ⟨#[c]⟩) else none
  | _, _ => none
theorem IsAll.atI {vs : List V} {ds : List D} {i : Int} {d : D} (h : IsAll K O H vs ds) (e : atI ds i = some d) : ∃ v, L2.atI vs i = some v ∧ Is K O H v d := by
  unfold L2.atI at e ⊢
  rw [← h.len] at e
  obtain ⟨j, e1, e2⟩ := Option.bind_eq_some_iff.mp e
  obtain ⟨v, h1, h2⟩ := h.get e2
  exact ⟨v, by rw [e1]; exact h1, h2⟩
theorem os_ix : OpS K (rIx K) ixD := by
  intro O H x y dx dy out Q hO hx hy e p
  unfold ixD at e
  split at e
  · obtain ⟨d, e1, rfl⟩ := Option.map_eq_some_iff.mp e
    obtain ⟨a, xs, rfl, h1, t1⟩ := hx.lst
    obtain ⟨v, q1, q2⟩ := t1.atI e1
    exact .inl ⟨a, xs, _, v, rfl, hy.int, h1, q1, p.now hO q2⟩
  · obtain ⟨d, e1, rfl⟩ := Option.map_eq_some_iff.mp e
    obtain ⟨a, xs, rfl, h1, t1⟩ := hx.tup
    obtain ⟨v, q1, q2⟩ := t1.atI e1
    exact .inr (.inl ⟨a, xs, _, v, rfl, hy.int, h1, q1, p.now hO q2⟩)
  · split at e
    · rename_i hz
      obtain ⟨d, e1, rfl⟩ := Option.map_eq_some_iff.mp e
      exact .inr (.inr ⟨_, _, _, hx.str, hy.int, hz, e1, p.now hO (.str _)⟩)
    · cases e
  · cases e

/-! ### in -/
def flD : D → Bool
  | .non | .bl _ | .int _ | .str _ => true
  | _ => false
def inF : D → D → Bool
  | .bl a, .bl b => a == b
  | .bl _, _ => false
  | _, .bl _ => false
  | a, b => decide (a = b)
def nBl : D → Bool
  | .bl _ => false
  | _ => true
def nInt : D → Bool
  | .int _ => false
  | _ => true
/-- no truth value beside a number -/
def noMix (x : D) (xs : List D) : Bool := (nBl x && xs.all nBl) || (nInt x && xs.all nInt)
def inD : D → D → Option Bool
  | x, .lst xs => if flD x && xs.all flD && noMix x xs then some (xs.any fun y => inF y x) else if pl 60 x && pl 60 (.lst xs) then some (decide (x ∈ xs)) else none
  | x, .tup xs => if flD x && xs.all flD && noMix x xs then some (xs.any fun y => inF y x) else none
  | _, _ => none
theorem Is.fl {v : V} {d : D} (h : Is K O H v d) (f : flD d = true) : flatV v = true := by cases h <;> first | rfl | (simp [flD] at f)
theorem eqV_fl {v u : V} {d e : D} (h : Is K O H v d) (k : Is K O H u e) (f : flD d = true) (g : flD e = true) (m : (nBl d && nBl e || nInt d && nInt e) = true) : eqV v u = inF d e := by
  cases h with
  | non => cases k <;> first | rfl | (simp [flD] at g; done) | simp [eqV, inF]
  | bl a => cases k <;> first | rfl | (simp [flD] at g; done) | (simp [nBl, nInt] at m; done) | simp [eqV, inF]
  | int a =>
    cases k with
    | int b => by_cases q : a = b <;> simp [eqV, inF, q]
    | _ => first | rfl | (simp [flD] at g; done) | (simp [nBl, nInt] at m; done) | simp [eqV, inF]
  | str a =>
    cases k with
    | str b => by_cases q : a = b <;> simp [eqV, inF, q]
    | _ => first | rfl | (simp [flD] at g; done) | simp [eqV, inF]
  | _ => simp [flD] at f
theorem any_fl {v : V} {x : D} (h : Is K O H v x) (f : flD x = true) : ∀ {vs : List V} {ds : List D}, IsAll K O H vs ds → ds.all flD = true → noMix x ds = true → (vs.all flatV = true ∧ inV v vs = ds.any fun y => inF y x)
  | _, _, .nil, _, _ => ⟨rfl, rfl⟩
  | _, _, @IsAll.cons _ _ _ u e vs ds k t, g, m => by
    simp only [List.all_cons, Bool.and_eq_true] at g
    have m1 : noMix x ds = true := by
      simp only [noMix, List.all_cons, Bool.or_eq_true, Bool.and_eq_true] at m ⊢
      exact m.imp (fun z => ⟨z.1, z.2.2⟩) fun z => ⟨z.1, z.2.2⟩
    obtain ⟨q1, q2⟩ := any_fl h f t g.2 m1
    refine ⟨by simp [q1, k.fl g.1], ?_⟩
    have q3 : eqV u v = inF e x := eqV_fl k h g.1 f (by
      simp only [noMix, List.all_cons, Bool.or_eq_true, Bool.and_eq_true] at m ⊢
      exact m.imp (fun z => ⟨z.2.1, z.1⟩) fun z => ⟨z.2.1, z.1⟩)
    show (eqV u v || inV v vs) = (inF e x || _)
    rw [q2, q3]
theorem VV.fl {v : V} {d : D} (h : VV K O H v d) (f : flD d = true) : Is K O H v d := by
  rcases h with h | ⟨a, _, _, c⟩
  · exact h
  · cases d <;> first | exact c.elim | (simp [flD] at f)
theorem pl_mono : ∀ {n m : Nat} {d : D}, n ≤ m → pl n d = true → pl m d = true
  | 0, _, _, _, h => by simp [pl] at h
  | n + 1, 0, _, hn, _ => by omega
  | n + 1, m + 1, .non, _, _ => by simp [pl]
  | n + 1, m + 1, .bl _, _, h => by simp [pl] at h
  | n + 1, m + 1, .int _, _, _ => by simp [pl]
  | n + 1, m + 1, .str _, _, h => by simpa [pl] using h
  | n + 1, m + 1, .lst xs, hn, h => by
    simp only [pl, List.all_eq_true] at h ⊢
    exact fun d hd => pl_mono (by omega) (h d hd)
  | n + 1, m + 1, .tup xs, hn, h => by
    simp only [pl, List.all_eq_true] at h ⊢
    exact fun d hd => pl_mono (by omega) (h d hd)
  | n + 1, m + 1, .dic _, _, h => by simp [pl] at h
theorem toPyL_any {x : D} (hx : pl 60 x = true) : ∀ (n : Nat), n ≤ 60 → ∀ (xs : List D), (∀ d ∈ xs, pl n d = true) → ((toPyL xs).any fun z => PyData.eqv z (toPy x)) = decide (x ∈ xs)
  | _, _, [], _ => by simp [toPyL]
  | n, hn, y :: ys, h => by
    have q := toPyL_any hx n hn ys fun d hd => h d (List.mem_cons_of_mem _ hd)
    have hy : pl 60 y = true := pl_mono hn (h y List.mem_cons_self)
    simp only [toPyL, List.any_cons, q, pl_eqv 60 y x hy hx]
    by_cases e : y = x
    · simp [e]
    · have e' : ¬ x = y := fun z => e z.symm
      simp [e, e']
def isInD (neg : Bool) : D → D → Option Res := fun a b => (inD a b).map fun k => .im (.bl (if neg then !k else k))
abbrev rInQ (K : PySem.W.Frag) : R2 := fun x y H Q => rIn K false x y H Q ∨ rInD K x y H Q
abbrev rNotInQ (K : PySem.W.Frag) : R2 := fun x y H Q => rIn K true x y H Q ∨ rNotInD K x y H Q
theorem or_in (hu : X.A.units + 65 < cLine) : OpR X (compareOp .In) (rInQ X.K) := op_in_seq.or (op_inD hu)
theorem or_notin (hu : X.A.units + 65 < cLine) : OpR X (compareOp .NotIn) (rNotInQ X.K) := op_notIn_seq.or (op_notInD hu)
theorem in_core {O : Addr → Prop} {H : Hp} {x y : V} {dx dy : D} {k : Bool} (hx : VV K O H x dx) (hy : VV K O H y dy) (e : inD dx dy = some k) :
    (∃ p xs, y = .ref p ∧ (SqL K H p xs ∨ SqT K H p xs) ∧ flatV x = true ∧ xs.all flatV = true ∧ inV x xs = k) ∨ (∃ d ds, Dp K H x d ∧ Dp K H y (.list ds) ∧ SeqAt.shaped d = true ∧ SeqAt.shaped (.list ds) = true ∧ (ds.any fun z => PyData.eqv z d) = k) := by
  unfold inD at e
  split at e
  · split at e
    · rename_i h
      cases e
      simp only [Bool.and_eq_true] at h
      obtain ⟨a, xs, rfl, h1, t1⟩ := hy.lst
      have hx' := hx.fl h.1.1
      obtain ⟨q1, q2⟩ := any_fl hx' h.1.1 t1 h.1.2 h.2
      exact .inl ⟨a, xs, rfl, .inl h1, hx'.fl h.1.1, q1, q2⟩
    · split at e
      · rename_i xs _ h
        cases e
        simp only [Bool.and_eq_true] at h
        have hy' := hy.dp h.2
        rw [show toPy (.lst xs) = .list (toPyL xs) by simp only [toPy]] at hy'
        have hs := pl_shaped h.2 (by omega)
        rw [show toPy (.lst xs) = .list (toPyL xs) by simp only [toPy]] at hs
        exact .inr ⟨_, _, hx.dp h.1, hy', pl_shaped h.1 (by omega), hs, toPyL_any h.1 59 (by omega) xs (by simpa [pl] using h.2)⟩
      · cases e
  · split at e
    · rename_i h
      cases e
      simp only [Bool.and_eq_true] at h
      obtain ⟨a, xs, rfl, h1, t1⟩ := hy.tup
      have hx' := hx.fl h.1.1
      obtain ⟨q1, q2⟩ := any_fl hx' h.1.1 t1 h.1.2 h.2
      exact .inl ⟨a, xs, rfl, .inr h1, hx'.fl h.1.1, q1, q2⟩
    · cases e
  · cases e
theorem os_in : OpS K (rInQ K) (isInD false) := by
  intro O H x y dx dy out Q hO hx hy e p
  obtain ⟨k, e1, rfl⟩ := Option.map_eq_some_iff.mp e
  rcases in_core hx hy e1 with ⟨q, xs, rfl, h1, h2, h3, rfl⟩ | ⟨d, ds, h1, h2, h3, h4, rfl⟩
  · exact .inl ⟨q, xs, rfl, h1, h2, h3, p.now hO (.bl _)⟩
  · exact .inr ⟨d, ds, h1, h2, h3, h4, p.now hO (.bl _)⟩
theorem os_notin : OpS K (rNotInQ K) (isInD true) := by
  intro O H x y dx dy out Q hO hx hy e p
  obtain ⟨k, e1, rfl⟩ := Option.map_eq_some_iff.mp e
  rcases in_core hx hy e1 with ⟨q, xs, rfl, h1, h2, h3, rfl⟩ | ⟨d, ds, h1, h2, h3, h4, rfl⟩
  · exact .inl ⟨q, xs, rfl, h1, h2, h3, p.now hO (.bl _)⟩
  · exact .inr ⟨d, ds, h1, h2, h3, h4, p.now hO (.bl _)⟩
end
end G

set_option Elab.async false
set_option linter.all false
set_option maxRecDepth 100000
set_option maxHeartbeats 4000000
/-! G5: statements, loops, calls. -/
namespace G
open PySem PySem.Spec PyProof.Rows L2

inductive Out where
  | nx (s : Slots) | rt (r : Res) (s : Slots) | bk (s : Slots) | ct (s : Slots)
abbrev SX := Slots → Option Out
section
variable {K : PySem.W.Frag} {O O' O1 O2 : Addr → Prop} {H H' H0 H1 H2 : Hp} {v : V} {d : D} {vs : List V} {ds : List D} {sd sd' s1 s2 : Slots} {σ σ' σ1 σ2 : L2.St}
/-- what stands behind a statement -/
structure AftS (K : PySem.W.Frag) (O : Addr → Prop) (H : Hp) (sd : Slots) (σ : L2.St) (O' : Addr → Prop) (H' : Hp) (sd' : Slots) (σ' : L2.St) : Prop where
  ext : Ext O H O' H' (OwA sd σ)
  sr : SR K O' sd' σ' H'
  sub : ∀ a, OwA sd' σ' a → OwA sd σ a ∨ H a = none
  lk : ∀ (i : Nat) (d : D), sd[i]? = some (some (SV.ow true d)) → σ'[i]? = σ[i]? ∧ ∃ d0, sd'[i]? = some (some (SV.ow true d0))
theorem AftS.refl (S : SR K O sd σ H) : AftS K O H sd σ O H sd σ := ⟨Ext.refl, S, fun _ h => .inl h, fun i d h => ⟨rfl, d, h⟩⟩
theorem Aft.s (a : Aft K O H sd σ O' H' sd') : AftS K O H sd σ O' H' sd' σ := ⟨a.ext, a.sr, fun _ h => .inl (h.sub a.sub), fun i d h => ⟨rfl, a.sub.lk i d h⟩⟩
theorem AftS.trans (S : SR K O sd σ H) (a : AftS K O H sd σ O1 H1 s1 σ1) (b : AftS K O1 H1 s1 σ1 O2 H2 s2 σ2) : AftS K O H sd σ O2 H2 s2 σ2 :=
  ⟨a.ext.trans S.own b.ext a.sub, b.sr, fun x h => (b.sub x h).elim (a.sub x) fun z => .inr (a.ext.trk x z), fun i d h => by
    obtain ⟨e1, d1, k1⟩ := a.lk i d h
    obtain ⟨e2, d2, k2⟩ := b.lk i d1 k1
    exact ⟨e2.trans e1, d2, k2⟩⟩
theorem AftS.is (S : SR K O sd σ H) (a : AftS K O H sd σ O' H' sd' σ') (h : Is K O H v d) : Is K O' H' v d := h.ext a.ext S.owO S.own
theorem AftS.trk (a : AftS K O H sd σ O' H' sd' σ') : ∀ x, H' x = none → H x = none := a.ext.trk

def Fin (K : PySem.W.Frag) (O : Addr → Prop) (H : Hp) (sd : Slots) (σ : L2.St) (E : Ends) : Out → Prop
  | .nx s' => ∀ σ' H' O', AftS K O H sd σ O' H' s' σ' → E.nx σ' H'
  | .bk s' => ∀ σ' H' O', AftS K O H sd σ O' H' s' σ' → E.bk σ' H'
  | .ct s' => ∀ σ' H' O', AftS K O H sd σ O' H' s' σ' → E.ct σ' H'
  | .rt r s' => ∀ v σ' H' O', AftS K O H sd σ O' H' s' σ' → RR K O' H' H σ' s' v r → E.rt v H'
def rdS (K : PySem.W.Frag) (f : SX) : TS := fun E σ H => ∃ O sd out, SR K O sd σ H ∧ f sd = some out ∧ Fin K O H sd σ E out
/-- a later start -/
theorem Fin.from {E : Ends} {out : Out} (S : SR K O sd σ H) (a : AftS K O H sd σ O1 H1 s1 σ1) (h : Fin K O H sd σ E out) : Fin K O1 H1 s1 σ1 E out := by
  cases out with
  | nx s' => exact fun σ' H' O' b => h σ' H' O' (a.trans S b)
  | bk s' => exact fun σ' H' O' b => h σ' H' O' (a.trans S b)
  | ct s' => exact fun σ' H' O' b => h σ' H' O' (a.trans S b)
  | rt r s' => exact fun v σ' H' O' b R => h v σ' H' O' (a.trans S b) (R.old a.trk)

/-! ### targets: js the slots that it stores to -/
abbrev GX := D → Slots → Option Slots
def rdG (K : PySem.W.Frag) (js : List Nat) (g : GX) : TG := fun v σ H Q => ∃ O sd d sd', SR K O sd σ H ∧ Is K O H v d ∧ g d sd = some sd' ∧
  ∀ σ' H' O', AftS K O H sd σ O' H' sd' σ' → σ'.length = σ.length → (∀ i, i ∉ js → σ'[i]? = σ[i]?) → Q σ' H'
/-- slot i may be stored to -/
def okSet (sd : Slots) (i : Nat) : Bool := match sd[i]? with
  | some (some (.ow true _)) => false
  | some _ => true
  | none => false
def gN (i : Nat) : GX := fun d sd => if okSet sd i then some (sd.set i (some (.im d))) else none
theorem okSet_of {sd : Slots} {i : Nat} (h : okSet sd i = true) : i < sd.length ∧ ∀ d, sd[i]? ≠ some (some (.ow true d)) := by
  unfold okSet at h
  cases q : sd[i]? with
  | none => rw [q] at h; cases h
  | some o =>
    refine ⟨(List.getElem?_eq_some_iff.mp q).1, fun d z => ?_⟩
    cases z
    rw [q] at h
    cases h
/-- slot i set to a frozen thing -/
theorem SR.setIm (S : SR K O sd σ H) {i : Nat} (ok : okSet sd i = true) (h : Is K O H v d) : AftS K O H sd σ O H (sd.set i (some (.im d))) (σ.set i (some v)) := by
  obtain ⟨hi, hl⟩ := okSet_of ok
  have hi' : i < σ.length := by rw [← S.len]; exact hi
  refine ⟨Ext.refl, ⟨S.own, by simpa using S.len, fun j e hj => ?_, fun j b e hj => ?_, fun j k b c e f a hjk hj hk => ?_⟩, fun a h => ?_, fun j e hj => ?_⟩
  · by_cases q : i = j
    · subst q
      rw [List.getElem?_set_self hi] at hj
      cases hj
      exact ⟨v, List.getElem?_set_self hi', h⟩
    · rw [List.getElem?_set_ne q] at hj
      obtain ⟨w, k1, k2⟩ := S.im j e hj
      exact ⟨w, by rw [List.getElem?_set_ne q]; exact k1, k2⟩
  · by_cases q : i = j
    · subst q
      rw [List.getElem?_set_self hi] at hj
      cases hj
    · rw [List.getElem?_set_ne q] at hj
      rw [List.getElem?_set_ne q]
      exact S.ow j b e hj
  · have qj : i ≠ j := fun q => by subst q; rw [List.getElem?_set_self hi] at hj; cases hj
    have qk : i ≠ k := fun q => by subst q; rw [List.getElem?_set_self hi] at hk; cases hk
    rw [List.getElem?_set_ne qj] at hj
    rw [List.getElem?_set_ne qk] at hk
    rw [List.getElem?_set_ne qj, List.getElem?_set_ne qk]
    exact S.ne j k b c e f a hjk hj hk
  · obtain ⟨j, b, e, hj, ha⟩ := h
    have qj : i ≠ j := fun q => by subst q; rw [List.getElem?_set_self hi] at hj; cases hj
    rw [List.getElem?_set_ne qj] at hj ha
    exact .inl ⟨j, b, e, hj, ha⟩
  · have qj : i ≠ j := fun q => by subst q; exact hl e hj
    rw [List.getElem?_set_ne qj, List.getElem?_set_ne qj]
    exact ⟨rfl, e, hj⟩
/-- slot i set to a fresh owned thing -/
theorem SR.setOw (S : SR K O sd σ H) {i : Nat} {a : Addr} (ok : okSet sd i = true) (oa : O a) (na : ¬ OwA sd σ a) (h : Ct K O H a d) (nf : H0 a = none) :
    SR K O (sd.set i (some (.ow false d))) (σ.set i (some (.ref a))) H ∧ (∀ x, OwA (sd.set i (some (.ow false d))) (σ.set i (some (.ref a))) x → OwA sd σ x ∨ H0 x = none) ∧
      ∀ (j : Nat) (e : D), sd[j]? = some (some (SV.ow true e)) → (σ.set i (some (V.ref a)))[j]? = σ[j]? ∧ ∃ d0, (sd.set i (some (.ow false d)))[j]? = some (some (SV.ow true d0)) := by
  obtain ⟨hi, hl⟩ := okSet_of ok
  have hi' : i < σ.length := by rw [← S.len]; exact hi
  refine ⟨⟨S.own, by simpa using S.len, fun j e hj => ?_, fun j b e hj => ?_, fun j k b c e f x hjk hj hk hx => ?_⟩, fun x h => ?_, fun j e hj => ?_⟩
  · by_cases q : i = j
    · subst q
      rw [List.getElem?_set_self hi] at hj
      cases hj
    · rw [List.getElem?_set_ne q] at hj
      rw [List.getElem?_set_ne q]
      exact S.im j e hj
  · by_cases q : i = j
    · subst q
      rw [List.getElem?_set_self hi] at hj
      cases hj
      exact ⟨a, List.getElem?_set_self hi', oa, h⟩
    · rw [List.getElem?_set_ne q] at hj
      rw [List.getElem?_set_ne q]
      exact S.ow j b e hj
  · by_cases qj : i = j
    · subst qj
      rw [List.getElem?_set_self hi'] at hx
      cases hx
      have qk : i ≠ k := hjk
      rw [List.getElem?_set_ne qk] at hk ⊢
      exact fun z => na ⟨k, c, f, hk, z⟩
    · rw [List.getElem?_set_ne qj] at hj hx
      by_cases qk : i = k
      · subst qk
        rw [List.getElem?_set_self hi']
        intro z
        cases z
        exact na ⟨j, b, e, hj, hx⟩
      · rw [List.getElem?_set_ne qk] at hk ⊢
        exact S.ne j k b c e f x hjk hj hk hx
  · obtain ⟨j, b, e, hj, hx⟩ := h
    by_cases qj : i = j
    · subst qj
      rw [List.getElem?_set_self hi'] at hx
      cases hx
      exact .inr nf
    · rw [List.getElem?_set_ne qj] at hj hx
      exact .inl ⟨j, b, e, hj, hx⟩
  · have qj : i ≠ j := fun q => by subst q; exact hl e hj
    rw [List.getElem?_set_ne qj, List.getElem?_set_ne qj]
    exact ⟨rfl, e, hj⟩
theorem rd_gN {i : Nat} {Q : L2.St → Hp → Prop} (h : rdG K [i] (gN i) v σ H Q) : gName i v σ H Q := by
  obtain ⟨O, sd, d, sd', S, I, e, q⟩ := h
  unfold gN at e
  split at e
  · rename_i ok
    cases e
    exact q _ H O (S.setIm ok I) (by simp) fun j hj => List.getElem?_set_ne fun z => hj (by simp [z])
  · cases e
/-- several, from a tuple -/
def gNs : List GX → List D → Slots → Option Slots
  | [], [], sd => some sd
  | g :: gs, d :: ds, sd => do
    let s1 ← g d sd
    gNs gs ds s1
  | _, _, _ => none
def gT (gs : List GX) : GX := fun d sd => match d with
  | .tup ds => if ds.length = gs.length then gNs gs ds sd else none
  | _ => none
def rdGs (K : PySem.W.Frag) (js : List Nat) (gs : List GX) : TGs := fun vs σ H Q => ∃ O sd ds sd', SR K O sd σ H ∧ IsAll K O H vs ds ∧ gNs gs ds sd = some sd' ∧
  ∀ σ' H' O', AftS K O H sd σ O' H' sd' σ' → σ'.length = σ.length → (∀ i, i ∉ js → σ'[i]? = σ[i]?) → Q σ' H'
theorem rd_gNil {Q : L2.St → Hp → Prop} (h : rdGs K [] [] vs σ H Q) : gNil vs σ H Q := by
  obtain ⟨O, sd, ds, sd', S, I, e, q⟩ := h
  cases I with
  | nil =>
    cases e
    exact ⟨rfl, q σ H O (AftS.refl S) rfl fun _ _ => rfl⟩
  | cons _ _ => cases e
theorem rd_gCons {js ks : List Nat} {g : GX} {gs : List GX} {Q : L2.St → Hp → Prop} (h : rdGs K (js ++ ks) (g :: gs) vs σ H Q) : gCons (rdG K js g) (rdGs K ks gs) vs σ H Q := by
  obtain ⟨O, sd, ds, sd', S, I, e, q⟩ := h
  cases I with
  | nil => cases e
  | cons I1 I2 =>
    obtain ⟨s1, e1, e2⟩ := Option.bind_eq_some_iff.mp e
    refine ⟨_, _, rfl, O, sd, _, s1, S, I1, e1, fun σ1 H1 O1 A1 l1 k1 => ⟨O1, s1, _, sd', A1.sr, I2.ext A1.ext S.owO S.own, e2, fun σ2 H2 O2 A2 l2 k2 => ?_⟩⟩
    exact q σ2 H2 O2 (A1.trans S A2) (l2.trans l1) fun i hi => (k2 i fun z => hi (List.mem_append_right _ z)).trans (k1 i fun z => hi (List.mem_append_left _ z))
theorem gNs_len : ∀ {gs : List GX} {ds : List D} {sd sd' : Slots}, gNs gs ds sd = some sd' → ds.length = gs.length
  | [], [], _, _, _ => rfl
  | [], _ :: _, _, _, h => by cases h
  | _ :: _, [], _, _, h => by cases h
  | g :: gs, d :: ds, _, _, h => by
    obtain ⟨s1, e1, e2⟩ := Option.bind_eq_some_iff.mp h
    rw [List.length_cons, List.length_cons, gNs_len e2]
theorem rd_gT {js : List Nat} {gs : List GX} {n : Nat} (hn : gs.length = n) {Q : L2.St → Hp → Prop} (h : rdG K js (gT gs) v σ H Q) : gTup K n (rdGs K js gs) v σ H Q := by
  obtain ⟨O, sd, d, sd', S, I, e, q⟩ := h
  unfold gT at e
  split at e
  · rename_i ds
    split at e
    · rename_i hl
      obtain ⟨a, xs, rfl, h1, t1⟩ := VV.tup (.inl I)
      exact ⟨a, xs, rfl, h1, by rw [t1.len, hl, hn], O, sd, _, sd', S, t1, e, q⟩
    · cases e
  · cases e

/-! ### small statements -/
def sNil : SX := fun sd => some (.nx sd)
def sSeq (f g : SX) : SX := fun sd => do
  match ← f sd with
  | .nx s => g s
  | .rt r s => some (.rt r s)
  | .bk s => some (.bk s)
  | .ct s => some (.ct s)
theorem rd_nil {E : Ends} (h : rdS K sNil E σ H) : tNext E σ H := by
  obtain ⟨O, sd, out, S, e, q⟩ := h
  cases e
  exact q σ H O (AftS.refl S)
theorem rd_seq {f g : SX} {E : Ends} (h : rdS K (sSeq f g) E σ H) : tSeq (rdS K f) (rdS K g) E σ H := by
  obtain ⟨O, sd, out, S, e, q⟩ := h
  obtain ⟨o1, e1, e2⟩ := Option.bind_eq_some_iff.mp e
  refine ⟨O, sd, o1, S, e1, ?_⟩
  cases o1 with
  | nx s => exact fun σ' H' O' a => ⟨O', s, out, a.sr, e2, q.from S a⟩
  | rt r s => cases e2; exact q
  | bk s => cases e2; exact q
  | ct s => cases e2; exact q
def sBk : SX := fun sd => some (.bk sd)
def sCt : SX := fun sd => some (.ct sd)
theorem rd_bk {E : Ends} (h : rdS K sBk E σ H) : tBreak E σ H := by
  obtain ⟨O, sd, out, S, e, q⟩ := h
  cases e
  exact q σ H O (AftS.refl S)
theorem rd_ct {E : Ends} (h : rdS K sCt E σ H) : tCont E σ H := by
  obtain ⟨O, sd, out, S, e, q⟩ := h
  cases e
  exact q σ H O (AftS.refl S)
/-- name = e -/
def sAsg (i : Nat) (f : EX) : SX := fun sd => do
  let (r, s) ← f sd
  if okSet s i then
    match r with
    | .im d => some (.nx (s.set i (some (.im d))))
    | .fr d => some (.nx (s.set i (some (.ow false d))))
    | .bo _ => none
  else none
theorem rd_asg {i : Nat} {f : EX} {E : Ends} (h : rdS K (sAsg i f) E σ H) : tAsg (rd K f) (gName i) E σ H := by
  obtain ⟨O, sd, out, S, e, q⟩ := h
  obtain ⟨⟨r, s⟩, e1, e⟩ := Option.bind_eq_some_iff.mp e
  refine ⟨O, sd, r, s, S, e1, fun v H1 O1 A1 R1 => ?_⟩
  dsimp only at e
  split at e
  · rename_i ok
    cases r with
    | im d =>
      cases e
      exact q _ H1 O1 (A1.s.trans S (A1.sr.setIm ok R1))
    | fr d =>
      cases e
      obtain ⟨a, rfl, n, o, w, c⟩ := R1
      obtain ⟨k1, k2, k3⟩ := A1.sr.setOw ok o w c n
      refine q _ H1 O1 ⟨A1.ext, k1, fun x hx => (k2 x hx).imp (fun z => z.sub A1.sub) id, fun j e hj => ?_⟩
      obtain ⟨e0, he0⟩ := A1.sub.lk j e hj
      exact k3 j e0 he0
    | bo j => cases e
  · cases e
/-- target = e -/
def sAsgG (g : GX) (f : EX) : SX := fun sd => do
  let (r, s) ← f sd
  match r with
  | .im d => (g d s).map .nx
  | _ => none
theorem rd_asgG {js : List Nat} {g : GX} {f : EX} {E : Ends} (h : rdS K (sAsgG g f) E σ H) : tAsg (rd K f) (rdG K js g) E σ H := by
  obtain ⟨O, sd, out, S, e, q⟩ := h
  obtain ⟨⟨r, s⟩, e1, e⟩ := Option.bind_eq_some_iff.mp e
  refine ⟨O, sd, r, s, S, e1, fun v H1 O1 A1 R1 => ?_⟩
  cases r with
  | im d =>
    obtain ⟨s2, e2, rfl⟩ := Option.map_eq_some_iff.mp e
    exact ⟨O1, s, d, s2, A1.sr, R1, e2, fun σ' H' O' A2 _ _ => q σ' H' O' (A1.s.trans S A2)⟩
  | fr d => cases e
  | bo j => cases e
def sRet (f : EX) : SX := fun sd => do
  let (r, s) ← f sd
  some (.rt r s)
theorem rd_ret {f : EX} {E : Ends} (h : rdS K (sRet f) E σ H) : tRet (rd K f) E σ H := by
  obtain ⟨O, sd, out, S, e, q⟩ := h
  obtain ⟨⟨r, s⟩, e1, e⟩ := Option.bind_eq_some_iff.mp e
  cases e
  exact ⟨O, sd, r, _, S, e1, fun v H1 O1 A1 R1 => q v σ H1 O1 A1.s R1⟩
def sRetN : SX := fun sd => some (.rt (.im .non) sd)
theorem rd_retN {E : Ends} (h : rdS K sRetN E σ H) : tRetN E σ H := by
  obtain ⟨O, sd, out, S, e, q⟩ := h
  cases e
  exact q .non σ H O (AftS.refl S) .non
def sDrop (f : EX) : SX := fun sd => do
  let (_, s) ← f sd
  some (.nx s)
theorem rd_drop {f : EX} {E : Ends} (h : rdS K (sDrop f) E σ H) : tDrop (rd K f) E σ H := by
  obtain ⟨O, sd, out, S, e, q⟩ := h
  obtain ⟨⟨r, s⟩, e1, e⟩ := Option.bind_eq_some_iff.mp e
  cases e
  exact ⟨O, sd, r, _, S, e1, fun v H1 O1 A1 R1 => q σ H1 O1 A1.s⟩
def sIf (c : TX) (f g : SX) : SX := fun sd => do
  let (b, s) ← c sd
  if b = true then f s else g s
theorem rd_ifS {c : TX} {f g : SX} {E : Ends} (h : rdS K (sIf c f g) E σ H) : tIfS (rdT K c) (rdS K f) (rdS K g) E σ H := by
  obtain ⟨O, sd, out, S, e, q⟩ := h
  obtain ⟨⟨b, s⟩, e1, e⟩ := Option.bind_eq_some_iff.mp e
  refine ⟨O, sd, b, s, S, e1, fun H1 O1 A1 => ?_⟩
  cases b with
  | true =>
    rw [if_pos rfl]
    exact ⟨O1, s, out, A1.sr, e, q.from S A1.s⟩
  | false =>
    rw [if_neg Bool.false_ne_true]
    exact ⟨O1, s, out, A1.sr, e, q.from S A1.s⟩
/-- name op= e, two ints -/
def sAug (g : Int → Int → Int) (i : Nat) (f : EX) : SX := fun sd => do
  let .int x ← imAt sd i | none
  let (.im (.int y), s) ← f sd | none
  if okSet s i then some (.nx (s.set i (some (.im (.int (g x y)))))) else none
theorem rd_aug {g : Int → Int → Int} {i : Nat} {f : EX} {E : Ends} (h : rdS K (sAug g i f) E σ H) : tAug i (rd K f) (ipI g) E σ H := by
  obtain ⟨O, sd, out, S, e, q⟩ := h
  obtain ⟨x, e1, e⟩ := Option.bind_eq_some_iff.mp e
  split at e
  · rename_i x
    obtain ⟨⟨r, s⟩, e2, e⟩ := Option.bind_eq_some_iff.mp e
    split at e
    · rename_i y s h1
      cases h1
      split at e
      · rename_i ok
        cases e
        obtain ⟨v, k1, k2⟩ := S.im i _ (imAt_of e1)
        cases k2
        refine ⟨_, k1, O, sd, _, s, S, e2, fun w H1 O1 A1 R1 => ?_⟩
        cases R1
        exact ⟨x, y, rfl, rfl, q _ H1 O1 (A1.s.trans S (A1.sr.setIm ok (.int _)))⟩
      · cases e
    · cases e
  · cases e

/-! ### what a loop walks: a list of data; r the walked thing -/
abbrev IX := Slots → Option (List D × Slots)
def Src (K : PySem.W.Frag) (O : Addr → Prop) (H : Hp) (sd : Slots) (σ : L2.St) (ds : List D) (J : It) : Prop :=
  ∀ O2 H2 sd2 σ2, AftS K O H sd σ O2 H2 sd2 σ2 → ∀ i : Nat,
    (i < ds.length → J.go i H2 ∧ ∀ x H', J.yld i H2 x H' → ∃ d, ds[i]? = some d ∧ Own O2 H' ∧ Ext O2 H2 O2 H' W0 ∧ Is K O2 H' x d) ∧ (ds.length ≤ i → J.stop i H2)
def rdI (K : PySem.W.Frag) (f : IX) : TI := fun σ H R => ∃ O sd ds sd', SR K O sd σ H ∧ f sd = some (ds, sd') ∧ ∀ J H' O', Aft K O H sd σ O' H' sd' → Src K O' H' sd' σ ds J → R J H'
/-- a list's or a tuple's items -/
def items : D → Option (List D)
  | .lst ds => some ds
  | .tup ds => some ds
  | _ => none
def itL (f : EX) : IX := fun sd => do
  let (r, s) ← f sd
  match r with
  | .im (.lst ds) => some (ds, s)
  | .fr (.lst ds) => some (ds, s)
  | _ => none
def itT (f : EX) : IX := fun sd => do
  let (r, s) ← f sd
  match r with
  | .im (.tup ds) => some (ds, s)
  | _ => none
theorem src_list {a : Addr} {ds : List D} (S : SR K O sd σ H) (h : ∀ O2 H2 sd2 σ2, AftS K O H sd σ O2 H2 sd2 σ2 → ∃ xs, SqL K H2 a xs ∧ IsAll K O2 H2 xs ds) : Src K O H sd σ ds (Itl K a) := by
  intro O2 H2 sd2 σ2 A i
  obtain ⟨xs, h1, h2⟩ := h O2 H2 sd2 σ2 A
  refine ⟨fun hi => ?_, fun hi => ⟨xs, h1, by rw [h2.len]; exact hi⟩⟩
  obtain ⟨v, k1, k2⟩ := h2.get (List.getElem?_eq_getElem hi)
  refine ⟨⟨xs, v, h1, k1⟩, fun x H' y => ?_⟩
  obtain ⟨rfl, y⟩ := y
  have e := (y xs h1).symm.trans k1
  cases e
  exact ⟨_, List.getElem?_eq_getElem hi, A.sr.own, Ext.refl, k2⟩
theorem src_tup {a : Addr} {ds : List D} (S : SR K O sd σ H) (h : ∀ O2 H2 sd2 σ2, AftS K O H sd σ O2 H2 sd2 σ2 → ∃ xs, SqT K H2 a xs ∧ IsAll K O2 H2 xs ds) : Src K O H sd σ ds (Itt K a) := by
  intro O2 H2 sd2 σ2 A i
  obtain ⟨xs, h1, h2⟩ := h O2 H2 sd2 σ2 A
  refine ⟨fun hi => ?_, fun hi => ⟨xs, h1, by rw [h2.len]; exact hi⟩⟩
  obtain ⟨v, k1, k2⟩ := h2.get (List.getElem?_eq_getElem hi)
  refine ⟨⟨xs, v, h1, k1⟩, fun x H' y => ?_⟩
  obtain ⟨rfl, y⟩ := y
  have e := (y xs h1).symm.trans k1
  cases e
  exact ⟨_, List.getElem?_eq_getElem hi, A.sr.own, Ext.refl, k2⟩
theorem rd_itL {f : EX} {R : It → Hp → Prop} (h : rdI K (itL f) σ H R) : iList K (rd K f) σ H R := by
  obtain ⟨O, sd, ds, sd', S, e, q⟩ := h
  obtain ⟨⟨r, s⟩, e1, e⟩ := Option.bind_eq_some_iff.mp e
  refine ⟨O, sd, r, s, S, e1, fun v H1 O1 A1 R1 => ?_⟩
  dsimp only at e
  split at e
  · cases e
    obtain ⟨a, xs, rfl, h1, t1⟩ := VV.lst (.inl R1)
    refine ⟨a, rfl, ⟨xs, h1⟩, q _ H1 O1 A1 (src_list A1.sr fun O2 H2 sd2 σ2 A => ?_)⟩
    have z := A.is A1.sr R1
    obtain ⟨a', xs', e', h2, t2⟩ := VV.lst (.inl z)
    cases e'
    exact ⟨xs', h2, t2⟩
  · cases e
    obtain ⟨a, rfl, n, o, w, xs, h1, t1⟩ := R1
    refine ⟨a, rfl, ⟨xs, .inl (.inl h1)⟩, q _ H1 O1 A1 (src_list A1.sr fun O2 H2 sd2 σ2 A => ?_)⟩
    exact ⟨xs, .inl (.inl (A.ext.keep a _ h1 w)), t1.ext A.ext A1.sr.owO A1.sr.own⟩
  · cases e
theorem rd_itT {f : EX} {R : It → Hp → Prop} (h : rdI K (itT f) σ H R) : iTup K (rd K f) σ H R := by
  obtain ⟨O, sd, ds, sd', S, e, q⟩ := h
  obtain ⟨⟨r, s⟩, e1, e⟩ := Option.bind_eq_some_iff.mp e
  refine ⟨O, sd, r, s, S, e1, fun v H1 O1 A1 R1 => ?_⟩
  dsimp only at e
  split at e
  · cases e
    obtain ⟨a, xs, rfl, h1, t1⟩ := VV.tup (.inl R1)
    refine ⟨a, rfl, ⟨xs, h1⟩, q _ H1 O1 A1 (src_tup A1.sr fun O2 H2 sd2 σ2 A => ?_)⟩
    have z := A.is A1.sr R1
    obtain ⟨a', xs', e', h2, t2⟩ := VV.tup (.inl z)
    cases e'
    exact ⟨xs', h2, t2⟩
  · cases e
def ilist (lo : Int) (n : Nat) : List D := (List.range n).map fun k => D.int (lo + (k : Nat))
theorem src_rng {lo : Int} {n : Nat} : Src K O H sd σ (ilist lo n) (Itr lo n) := by
  intro O2 H2 sd2 σ2 A i
  have hl : (ilist lo n).length = n := by simp [ilist]
  rw [hl]
  refine ⟨fun hi => ⟨hi, fun x H' y => ?_⟩, fun hi => hi⟩
  obtain ⟨rfl, rfl⟩ := y
  exact ⟨.int (lo + i), by simp [ilist, hi], A.sr.own, Ext.refl, .int _⟩
def rng1 (j : Int) (s : Slots) : Option (List D × Slots) := if -(2 ^ 62) ≤ j ∧ j < 2 ^ 62 then some (ilist 0 j.toNat, s) else none
def rng2 (i j : Int) (s : Slots) : Option (List D × Slots) := if -(2 ^ 62) ≤ i ∧ i < 2 ^ 62 ∧ -(2 ^ 62) ≤ j ∧ j < 2 ^ 62 then some (ilist i (j - i).toNat, s) else none
def itR1 (f : AX) : IX := fun sd => do
  let (rs, s) ← f sd
  match rs with
  | [.im (.int j)] => rng1 j s
  | _ => none
def itR2 (f : AX) : IX := fun sd => do
  let (rs, s) ← f sd
  match rs with
  | [.im (.int i), .im (.int j)] => rng2 i j s
  | _ => none
theorem rd_itR1 {f : AX} {R : It → Hp → Prop} (h : rdI K (itR1 f) σ H R) : iRng1 (rdA K f) σ H R := by
  obtain ⟨O, sd, ds, sd', S, e, q⟩ := h
  obtain ⟨⟨rs, s⟩, e1, e⟩ := Option.bind_eq_some_iff.mp e
  refine ⟨O, sd, rs, s, S, e1, fun vs H1 O1 A1 R1 => ?_⟩
  dsimp only at e
  split at e
  · unfold rng1 at e
    split at e
    · rename_i hj
      cases e
      cases R1 with
      | cons x t =>
        cases t
        cases x
        exact ⟨_, rfl, hj.1, hj.2, q _ H1 O1 A1 src_rng⟩
    · cases e
  · cases e
theorem rd_itR2 {f : AX} {R : It → Hp → Prop} (h : rdI K (itR2 f) σ H R) : iRng2 (rdA K f) σ H R := by
  obtain ⟨O, sd, ds, sd', S, e, q⟩ := h
  obtain ⟨⟨rs, s⟩, e1, e⟩ := Option.bind_eq_some_iff.mp e
  refine ⟨O, sd, rs, s, S, e1, fun vs H1 O1 A1 R1 => ?_⟩
  dsimp only at e
  split at e
  · unfold rng2 at e
    split at e
    · rename_i hj
      cases e
      cases R1 with
      | cons x t =>
        cases t with
        | cons y t =>
          cases t
          cases x
          cases y
          exact ⟨_, _, rfl, hj, q _ H1 O1 A1 src_rng⟩
    · cases e
  · cases e

/-! ### for -/
def loopF (g : GX) (b : SX) : List D → Slots → Option Out
  | [], s => some (.nx s)
  | d :: ds, s => do
    let s1 ← g d s
    match ← b s1 with
    | .nx s2 => loopF g b ds s2
    | .ct s2 => loopF g b ds s2
    | .bk s2 => some (.nx s2)
    | .rt r s2 => some (.rt r s2)
def sFor (f : IX) (g : GX) (b : SX) : SX := fun sd => do
  let (ds, s) ← f sd
  loopF g b ds s
theorem rd_for {f : IX} {js : List Nat} {g : GX} {b : SX} {E : Ends} (h : rdS K (sFor f g b) E σ H) : tFor (rdI K f) (rdG K js g) (rdS K b) E σ H := by
  obtain ⟨O, sd, out, S, e, q⟩ := h
  obtain ⟨⟨ds, s⟩, e1, e⟩ := Option.bind_eq_some_iff.mp e
  refine ⟨O, sd, ds, s, S, e1, fun J H1 O1 A1 hJ => ?_⟩
  have q1 := q.from S A1.s
  refine ⟨fun i m σ' H' => m = ds.length - i ∧ i ≤ ds.length ∧ ∃ O' s', AftS K O1 H1 s σ O' H' s' σ' ∧ loopF g b (ds.drop i) s' = some out, ⟨ds.length, by simp, Nat.zero_le _, O1, s, AftS.refl A1.sr, by simpa using e⟩, ?_⟩
  rintro i m σ' H' ⟨rfl, hi, O', s', A, el⟩
  obtain ⟨j1, j2⟩ := hJ O' H' s' σ' A i
  by_cases hlt : i < ds.length
  · obtain ⟨k1, k2⟩ := j1 hlt
    have q2 := q1.from A1.sr A
    rw [List.drop_eq_getElem_cons hlt] at el
    obtain ⟨s1, e2, el⟩ := Option.bind_eq_some_iff.mp el
    obtain ⟨o2, e3, el⟩ := Option.bind_eq_some_iff.mp el
    refine .inr ⟨k1, fun σ2 H2 => ∃ O2 s2, AftS K O1 H1 s σ O2 H2 s2 σ2 ∧ loopF g b (ds.drop (i + 1)) s2 = some out, fun σ2 H2 ⟨O2, s2, A2, e4⟩ => ⟨ds.length - (i + 1), by omega, rfl, hlt, O2, s2, A2, e4⟩, fun x H2 hy => ?_⟩
    obtain ⟨d, hd, ow, ex, hx⟩ := k2 x H2 hy
    rw [List.getElem?_eq_getElem hlt] at hd
    cases hd
    have A2 := A.sr.grow ow ex
    have A3 := A.trans A1.sr A2.s
    refine ⟨O', s', _, s1, A2.sr, hx, e2, fun σ3 H3 O3 A4 _ _ => ?_⟩
    have A5 := A3.trans A1.sr A4
    refine ⟨O3, s1, o2, A5.sr, e3, ?_⟩
    cases o2 with
    | nx s2 => exact fun σ4 H4 O4 A6 => ⟨O4, s2, A5.trans A1.sr A6, el⟩
    | ct s2 => exact fun σ4 H4 O4 A6 => ⟨O4, s2, A5.trans A1.sr A6, el⟩
    | bk s2 =>
      cases el
      exact fun σ4 H4 O4 A6 => q1 σ4 H4 O4 (A5.trans A1.sr A6)
    | rt r s2 =>
      cases el
      exact fun v σ4 H4 O4 A6 R => q1 v σ4 H4 O4 (A5.trans A1.sr A6) (R.old A5.trk)
  · have hn : i = ds.length := by omega
    subst hn
    rw [List.drop_length] at el
    cases el
    exact .inl ⟨j2 (Nat.le_refl _), q1 σ' H' O' A⟩

/-! ### while -/
def whileF (c : TX) (b : SX) : Nat → Slots → Option Out
  | 0, _ => none
  | n + 1, s => do
    let (k, s1) ← c s
    if k = true then
      match ← b s1 with
      | .nx s2 => whileF c b n s2
      | .ct s2 => whileF c b n s2
      | .bk s2 => some (.nx s2)
      | .rt r s2 => some (.rt r s2)
    else some (.nx s1)
/-- some number of turns is enough -/
noncomputable def sWhile (c : TX) (b : SX) : SX := fun sd => by
  classical
  exact if h : ∃ out n, whileF c b n sd = some out then some (Classical.choose h) else none
theorem rd_while {c : TX} {b : SX} {E : Ends} (h : rdS K (sWhile c b) E σ H) : tWhile (rdT K c) (rdS K b) E σ H := by
  obtain ⟨O, sd, out, S, e, q⟩ := h
  unfold sWhile at e
  split at e
  · rename_i hx
    obtain ⟨n, hn⟩ := Classical.choose_spec hx
    cases e
    generalize Classical.choose hx = out at hn q
    refine ⟨fun m σ' H' => ∃ O' s', AftS K O H sd σ O' H' s' σ' ∧ whileF c b m s' = some out, ⟨n, O, sd, AftS.refl S, hn⟩, ?_⟩
    rintro m σ' H' ⟨O', s', A, el⟩
    cases m with
    | zero => cases el
    | succ m =>
      obtain ⟨⟨k, s1⟩, e1, el⟩ := Option.bind_eq_some_iff.mp el
      refine ⟨O', s', k, s1, A.sr, e1, fun H1 O1 A1 => ?_⟩
      have A2 := A.trans S A1.s
      cases k with
      | true =>
        refine iteT ?_
        refine ⟨fun σ2 H2 => ∃ O2 s2, AftS K O H sd σ O2 H2 s2 σ2 ∧ whileF c b m s2 = some out, fun σ2 H2 h2 => ⟨m, Nat.lt_succ_self m, h2⟩, ?_⟩
        replace el : (do
          match ← b s1 with
          | .nx s2 => whileF c b m s2
          | .ct s2 => whileF c b m s2
          | .bk s2 => some (.nx s2)
          | .rt r s2 => some (.rt r s2)) = some out := el
        obtain ⟨o2, e3, el⟩ := Option.bind_eq_some_iff.mp el
        refine ⟨O1, s1, o2, A2.sr, e3, ?_⟩
        cases o2 with
        | nx s2 => exact fun σ4 H4 O4 A6 => ⟨O4, s2, A2.trans S A6, el⟩
        | ct s2 => exact fun σ4 H4 O4 A6 => ⟨O4, s2, A2.trans S A6, el⟩
        | bk s2 =>
          cases el
          exact fun σ4 H4 O4 A6 => q σ4 H4 O4 (A2.trans S A6)
        | rt r s2 =>
          cases el
          exact fun v σ4 H4 O4 A6 R => q v σ4 H4 O4 (A2.trans S A6) (R.old A2.trk)
      | false =>
        refine iteF ?_
        cases el
        exact q σ' H1 O1 A2
  · cases e
theorem whileF_mono {c : TX} {b : SX} : ∀ {n m : Nat} {s : Slots} {out : Out}, n ≤ m → whileF c b n s = some out → whileF c b m s = some out
  | 0, _, _, _, _, h => by cases h
  | n + 1, 0, _, _, hn, _ => by omega
  | n + 1, m + 1, s, out, hn, h => by
    obtain ⟨⟨k, s1⟩, e1, el⟩ := Option.bind_eq_some_iff.mp h
    show (do
      let (k, s1) ← c s
      if k = true then
        match ← b s1 with
        | .nx s2 => whileF c b m s2
        | .ct s2 => whileF c b m s2
        | .bk s2 => some (.nx s2)
        | .rt r s2 => some (.rt r s2)
      else some (.nx s1)) = some out
    rw [e1]
    cases k with
    | false => exact el
    | true =>
      replace el : (do
        match ← b s1 with
        | .nx s2 => whileF c b n s2
        | .ct s2 => whileF c b n s2
        | .bk s2 => some (.nx s2)
        | .rt r s2 => some (.rt r s2)) = some out := el
      obtain ⟨o2, e3, el⟩ := Option.bind_eq_some_iff.mp el
      show (do
        match ← b s1 with
        | .nx s2 => whileF c b m s2
        | .ct s2 => whileF c b m s2
        | .bk s2 => some (.nx s2)
        | .rt r s2 => some (.rt r s2)) = some out
      rw [e3]
      cases o2 with
      | nx s2 => exact whileF_mono (by omega) el
      | ct s2 => exact whileF_mono (by omega) el
      | bk s2 => exact el
      | rt r s2 => exact el
theorem sWhile_of {c : TX} {b : SX} {n : Nat} {s : Slots} {out : Out} (h : whileF c b n s = some out) : sWhile c b s = some out := by
  unfold sWhile
  have hx : ∃ out n, whileF c b n s = some out := ⟨out, n, h⟩
  rw [dif_pos hx]
  obtain ⟨n2, hn⟩ := Classical.choose_spec hx
  generalize Classical.choose hx = o2 at hn ⊢
  have h1 := whileF_mono (Nat.le_max_left n n2) h
  have h2 := whileF_mono (Nat.le_max_right n n2) hn
  rw [h1] at h2
  exact h2.symm
end

abbrev GS (X : Cx) (e : Stmt) (f : SX) : Prop := PS X e (rdS X.K f)
abbrev GSs (X : Cx) (e : List Stmt) (f : SX) : Prop := PSs X e (rdS X.K f)
abbrev GG (X : Cx) (e : Expr) (js : List Nat) (g : GX) : Prop := PG X e (rdG X.K js g)
abbrev GGs (X : Cx) (es : List Expr) (js : List Nat) (gs : List GX) : Prop := PGs X es (rdGs X.K js gs)
abbrev GI (X : Cx) (tg e : Expr) (f : IX) : Prop := PI X tg e (rdI X.K f)
section
variable {X : Cx} {e c tg iter : Expr} {st : Stmt} {rest a b : List Stmt} {f : EX} {t : TX} {fs gs : SX} {pos : Pos}
theorem gs_nil : GSs X [] sNil := pss_nil.imp fun _ _ _ => rd_nil
theorem gs_cons (h : GS X st fs) (k : GSs X rest gs) : GSs X (st :: rest) (sSeq fs gs) := (pss_cons h k).imp fun _ _ _ => rd_seq
theorem gs_one (h : GS X st fs) : GSs X [st] fs := pss_one h
theorem gs_break : GS X (.Break pos) sBk := ps_break.imp fun _ _ _ => rd_bk
theorem gs_continue : GS X (.Continue pos) sCt := ps_continue.imp fun _ _ _ => rd_ct
theorem gs_pass : GS X (.Pass pos) sNil := ps_pass.imp fun _ _ _ => rd_nil
theorem gs_set {i : Nat} {x : Str} {pos' : Pos} (hN : X.N.Nodup) (hi : X.N[i]? = some x) (hx : Loc X.env.scope x) (he : GE X e f) (hs : swapsWith e (some (.Name x pos')) pos.line X.env = pure false := by rfl) (hf : X.fn x = true ∨ X.env.scope.names.lookup x = some .local := by first | exact .inl rfl | exact .inr rfl | assumption) :
    GS X (.Assign [.Name x pos'] e pos) (sAsg i f) := (ps_set hN hi hx he hs hf).imp fun _ _ _ => rd_asg
theorem gs_asg {js : List Nat} {g : GX} (he : GE X e f) (hg : GG X tg js g) (hs : swapsWithSole [tg] e pos.line X.env = pure false := by rfl) (hw : swappedStores [tg] e X.env = pure none := by rfl)
    (h1 : (assignEach [tg] X.env).map (·.2) = [assign tg X.env] := by rfl) : GS X (.Assign [tg] e pos) (sAsgG g f) := (ps_asg he hg hs hw h1).imp fun _ _ _ => rd_asgG
theorem gs_ret (he : GE X e f) : GS X (.Return (some e) pos) (sRet f) := (ps_ret he).imp fun _ _ _ => rd_ret
theorem gs_retN : GS X (.Return none pos) sRetN := ps_retN.imp fun _ _ _ => rd_retN
theorem gs_expr (he : GE X e f) (hs : swapsWith e none pos.line X.env = pure false := by rfl) : GS X (.Expr e pos) (sDrop f) := (ps_expr he hs).imp fun _ _ _ => rd_drop
theorem gs_if (hc : GT X c t) (ha : GSs X a fs) (hb : GSs X b gs) : GS X (.If c a b pos) (sIf t fs gs) := (ps_if hc ha hb).imp fun _ _ _ => rd_ifS
theorem gs_aug_add {i : Nat} {x : Str} {pos' : Pos} (hN : X.N.Nodup) (hi : X.N[i]? = some x) (hx : Loc X.env.scope x) (he : GE X e f) (hf : X.fn x = true ∨ X.env.scope.names.lookup x = some .local := by first | exact .inl rfl | exact .inr rfl | assumption) :
    GS X (.AugAssign (.Name x pos') .Add e pos) (sAug (fun i j => i + j) i f) := (ps_aug hN hi hx he ip_add hf).imp fun _ _ _ => rd_aug
theorem gg_name {i : Nat} {x : Str} (hN : X.N.Nodup) (hi : X.N[i]? = some x) (hx : Loc X.env.scope x) (hf : X.fn x = true ∨ X.env.scope.names.lookup x = some .local := by first | exact .inl rfl | exact .inr rfl | assumption) : GG X (.Name x pos) [i] (gN i) :=
  (pg_name hN hi hx hf).imp fun _ _ _ _ => rd_gN
theorem ggs_nil : GGs X [] [] [] := by
  refine ⟨fun pins s σ H vs us Q I r h => pgs_nil.run pins s σ H vs us Q I r (rd_gNil h)⟩
theorem ggs_cons {e : Expr} {es : List Expr} {js ks : List Nat} {g : GX} {gs : List GX} (h1 : GG X e js g) (h2 : GGs X es ks gs)
    (hs : (assignEach (e :: es) X.env).map (·.2) = assign e X.env :: (assignEach es X.env).map (·.2) := by rfl) : GGs X (e :: es) (js ++ ks) (g :: gs) := by
  refine ⟨fun pins s σ H vs us Q I r h => (pgs_cons h1 h2 hs).run pins s σ H vs us Q I r (rd_gCons h)⟩
theorem gg_tup {es : List Expr} {k : Nat} {js : List Nat} {gs : List GX} (hc : X.calm = true) (h : GGs X es js gs)
    (hn : (assignEach es X.env).length = gs.length := by rfl) (hst : (assignEach es X.env).findIdx? (·.1) = none := by rfl) : GG X (.Tuple es k pos) js (gT gs) :=
  (pg_tup hc h hn hst).imp fun _ _ _ _ => rd_gT rfl
theorem gi_list (h : GE X e f) : GI X tg e (itL f) := (pi_list h).imp fun _ _ _ => rd_itL
theorem gi_tup (h : GE X e f) : GI X tg e (itT f) := (pi_tup h).imp fun _ _ _ => rd_itT
theorem gi_range1 {e : Expr} {f : AX} {p : Pos} (hg : Gl X "range") (hm : X.mg "range" = none) (ha : GA X [e] f) (hs : starEach [e] X.env = [(false, eval e X.env)] := by rfl) : GI X tg (.Call (.Name "range" p) [e] [] pos) (itR1 f) :=
  (pi_range1 hg hm ha hs).imp fun _ _ _ => rd_itR1
theorem gi_range2 {e e2 : Expr} {f : AX} {p : Pos} (hg : Gl X "range") (hm : X.mg "range" = none) (ha : GA X [e, e2] f) (hs : starEach [e, e2] X.env = [(false, eval e X.env), (false, eval e2 X.env)] := by rfl) (hs2 : starEach [e2] X.env = [(false, eval e2 X.env)] := by rfl) :
    GI X tg (.Call (.Name "range" p) [e, e2] [] pos) (itR2 f) := (pi_range2 hg hm ha hs hs2).imp fun _ _ _ => rd_itR2
theorem gs_for {js : List Nat} {g : GX} {fi : IX} {body : List Stmt} (hp : PassesOwn (model X.prog X.w) X.A X.env X.xe) (hc : X.calm = true) (hi : GI X tg iter fi) (hg : GG X tg js g) (hb : GSs X body fs)
    (hs : ∀ x, foldedSetIterable iter X.env x = pure x := by intro _; rfl) : GS X (.For tg iter body [] pos) (sFor fi g fs) := (ps_for hp hc hi hg hb hs).imp fun _ _ _ => rd_for
theorem gs_while {body : List Stmt} (hp : PassesOwn (model X.prog X.w) X.A X.env X.xe) (hc : GT X c t) (hb : GSs X body fs) : GS X (.While c body [] pos) (sWhile t fs) := (ps_while hp hc hb).imp fun _ _ _ => rd_while
end
end G

set_option Elab.async false
set_option linter.all false
set_option maxRecDepth 100000
set_option maxHeartbeats 4000000
/-! G6: a def's promise by a function on data, calls, comprehensions, things that change. -/
namespace G
open PySem PySem.Spec PyProof.Rows L2

section
variable {K : PySem.W.Frag} {O O' O1 O2 : Addr → Prop} {H H' H0 H1 H2 : Hp} {v : V} {d : D} {vs : List V} {ds : List D} {sd sd' s1 s2 : Slots} {σ σ' σ1 σ2 : L2.St}
/-! ### a def -/
abbrev Fn := List SV → Option (Res × List D)
/-- the arguments: frozen, or owned by the caller and lent -/
inductive ArgsR (K : PySem.W.Frag) (O : Addr → Prop) (H : Hp) : List V → List SV → Prop
  | nil : ArgsR K O H [] []
  | im {v : V} {d : D} {vs : List V} {as : List SV} : Is K O H v d → ArgsR K O H vs as → ArgsR K O H (v :: vs) (.im d :: as)
  | ow {a : Addr} {d : D} {vs : List V} {as : List SV} : O a → Ct K O H a d → ArgsR K O H vs as → ArgsR K O H (.ref a :: vs) (.ow true d :: as)
def ArgA (vs : List V) (as : List SV) (a : Addr) : Prop := ∃ (i : Nat) (b : Bool) (d : D), as[i]? = some (.ow b d) ∧ vs[i]? = some (.ref a)
def ArgD (vs : List V) (as : List SV) : Prop := ∀ (i j : Nat) (b c : Bool) (d e : D) (a : Addr), i ≠ j → as[i]? = some (.ow b d) → as[j]? = some (.ow c e) → vs[i]? = some (.ref a) → vs[j]? ≠ some (.ref a)
/-- what the lent ones hold behind the call -/
inductive OutsR (K : PySem.W.Frag) (O : Addr → Prop) (H : Hp) : List V → List SV → List D → Prop
  | nil : OutsR K O H [] [] []
  | im {v : V} {d : D} {vs : List V} {as : List SV} {outs : List D} : OutsR K O H vs as outs → OutsR K O H (v :: vs) (.im d :: as) outs
  | ow {a : Addr} {b : Bool} {d e : D} {vs : List V} {as : List SV} {outs : List D} : O a → Ct K O H a e → OutsR K O H vs as outs → OutsR K O H (.ref a :: vs) (.ow b d :: as) (e :: outs)
def spG (K : PySem.W.Frag) (F : Fn) : Sp := fun vs H Q _ => ∃ O as r outs, Own O H ∧ ArgsR K O H vs as ∧ ArgD vs as ∧ F as = some (r, outs) ∧
  ∀ v H' O', Own O' H' → Ext O H O' H' (ArgA vs as) → OutsR K O' H' vs as outs → RO K O' H' H v r → Q v H'
/-- lent things' contents -/
def outsOf (s : Slots) : List SV → Nat → Option (List D)
  | [], _ => some []
  | .im _ :: as, i => outsOf s as (i + 1)
  | .ow _ _ :: as, i => do
    let d ← owAt s i
    let r ← outsOf s as (i + 1)
    some (d :: r)
def endF (as : List SV) (r : Res) (s : Slots) : Option (Res × List D) := do
  let outs ← outsOf s as 0
  match r with
  | .im d => some (.im d, outs)
  | .fr d => some (.fr d, outs)
  | .bo i => match s[i]? with
    | some (some (.ow false d)) => some (.fr d, outs)
    | _ => none
def slots0 (n : Nat) (as : List SV) : Slots := as.map some ++ List.replicate (n - as.length) none
/-- a def of np parameters and n names, by its body -/
def fnF (n np : Nat) (b : SX) : Fn := fun as =>
  if as.length = np then
    match b (slots0 n as) with
    | some (.nx s) => endF as (.im .non) s
    | some (.rt r s) => endF as r s
    | _ => none
  else none
theorem ArgsR.len : ∀ {vs : List V} {as : List SV}, ArgsR K O H vs as → vs.length = as.length
  | _, _, .nil => rfl
  | _, _, .im _ t => by rw [List.length_cons, List.length_cons, ArgsR.len t]
  | _, _, .ow _ _ t => by rw [List.length_cons, List.length_cons, ArgsR.len t]
theorem ArgsR.get : ∀ {vs : List V} {as : List SV} {i : Nat}, ArgsR K O H vs as → (∀ d, as[i]? = some (.im d) → ∃ v, vs[i]? = some v ∧ Is K O H v d) ∧ (∀ b d, as[i]? = some (.ow b d) → b = true ∧ ∃ a, vs[i]? = some (.ref a) ∧ O a ∧ Ct K O H a d)
  | _, _, _, .nil => ⟨fun _ h => by simp at h, fun _ _ h => by simp at h⟩
  | _, _, 0, .im h t => ⟨fun _ e => by simp at e; subst e; exact ⟨_, rfl, h⟩, fun _ _ e => by simp at e⟩
  | _, _, 0, .ow o c t => ⟨fun _ e => by simp at e, fun _ _ e => by simp at e; obtain ⟨rfl, rfl⟩ := e; exact ⟨rfl, _, rfl, o, c⟩⟩
  | _, _, i + 1, .im h t => by simpa using ArgsR.get (i := i) t
  | _, _, i + 1, .ow o c t => by simpa using ArgsR.get (i := i) t
theorem get_slots0 {n : Nat} {as : List SV} {i : Nat} {x : SV} (h : (slots0 n as)[i]? = some (some x)) : as[i]? = some x := by
  unfold slots0 at h
  by_cases hi : i < as.length
  · rw [List.getElem?_append_left (by simpa using hi), List.getElem?_map] at h
    cases e : as[i]? with
    | none => rw [e] at h; cases h
    | some y => rw [e] at h; cases h; rfl
  · rw [List.getElem?_append_right (by simpa using hi), List.getElem?_replicate] at h
    split at h <;> cases h
theorem slots0_get {n : Nat} {as : List SV} {i : Nat} {x : SV} (h : as[i]? = some x) : (slots0 n as)[i]? = some (some x) := by
  unfold slots0
  have hi : i < as.length := (List.getElem?_eq_some_iff.mp h).1
  rw [List.getElem?_append_left (by simpa using hi), List.getElem?_map, h]
  rfl
theorem start_get {N : List Str} {vs : List V} {i : Nat} {x : V} (h : vs[i]? = some x) : (L2.start N vs)[i]? = some (some x) := by
  unfold L2.start
  have hi : i < vs.length := (List.getElem?_eq_some_iff.mp h).1
  rw [List.getElem?_append_left (by simpa using hi), List.getElem?_map, h]
  rfl
theorem sr_start {N : List Str} {as : List SV} (hO : Own O H) (h : ArgsR K O H vs as) (hd : ArgD vs as) : SR K O (slots0 N.length as) (L2.start N vs) H := by
  refine ⟨hO, ?_, fun i d e => ?_, fun i b d e => ?_, fun i j b c d e a hij hi hj ha => ?_⟩
  · unfold slots0 L2.start
    simp only [List.length_append, List.length_map, List.length_replicate, h.len]
  · obtain ⟨v, k1, k2⟩ := (h.get (i := i)).1 d (get_slots0 e)
    exact ⟨v, start_get k1, k2⟩
  · obtain ⟨_, a, k1, k2, k3⟩ := (h.get (i := i)).2 b d (get_slots0 e)
    exact ⟨a, start_get k1, k2, k3⟩
  · obtain ⟨_, a1, k1, _, _⟩ := (h.get (i := i)).2 b d (get_slots0 hi)
    obtain ⟨_, a2, k2, _, _⟩ := (h.get (i := j)).2 c e (get_slots0 hj)
    rw [start_get k1] at ha
    rw [start_get k2]
    intro z
    have ha' : a1 = a := by cases ha; rfl
    have z' : a2 = a := by cases z; rfl
    subst ha'
    subst z'
    exact hd i j b c d e _ hij (get_slots0 hi) (get_slots0 hj) k1 k2
theorem owa_start {N : List Str} {as : List SV} (h : ArgsR K O H vs as) {a : Addr} (w : OwA (slots0 N.length as) (L2.start N vs) a) : ArgA vs as a := by
  obtain ⟨i, b, d, e, k⟩ := w
  obtain ⟨_, a1, k1, _, _⟩ := (h.get (i := i)).2 b d (get_slots0 e)
  rw [start_get k1] at k
  cases k
  exact ⟨i, b, d, get_slots0 e, k1⟩
theorem outs_of {s : Slots} : ∀ {vs : List V} {as : List SV} {outs : List D} {i : Nat}, ArgsR K O H vs as → outsOf s as i = some outs →
    (∀ (j : Nat) (b : Bool) (d e : D), as[j]? = some (.ow b d) → owAt s (i + j) = some e → ∃ a, vs[j]? = some (.ref a) ∧ O' a ∧ Ct K O' H' a e) → OutsR K O' H' vs as outs
  | _, _, _, _, .nil, e, _ => by cases e; exact .nil
  | _, _, _, i, .im _ t, e, k => .im (outs_of (i := i + 1) t e fun j b d e' h1 h2 => k (j + 1) b d e' (by simpa using h1) (by rw [show i + (j + 1) = i + 1 + j by omega]; exact h2))
  | _, _, _, i, .ow _ _ t, e, k => by
    obtain ⟨d0, e1, e⟩ := Option.bind_eq_some_iff.mp e
    obtain ⟨r, e2, e⟩ := Option.bind_eq_some_iff.mp e
    cases e
    obtain ⟨a, h1, h2, h3⟩ := k 0 true _ d0 rfl e1
    cases h1
    exact .ow h2 h3 (outs_of (i := i + 1) t e2 fun j b d e' h1 h2 => k (j + 1) b d e' (by simpa using h1) (by rw [show i + (j + 1) = i + 1 + j by omega]; exact h2))
theorem fn_close {X : Cx} {N : List Str} {np : Nat} {body : List Stmt} {f : SX} {Q : VK} {E : XK} (hb : GSs X body f) (h : spG X.K (fnF N.length np f) vs H Q E) :
    ∃ t, PSs X body t ∧ t { nx := fun _ H' => Q .non H', rt := Q } (L2.start N vs) H := by
  refine ⟨_, hb, ?_⟩
  obtain ⟨O, as, r, outs, hO, hA, hD, e, q⟩ := h
  unfold fnF at e
  split at e
  · have S := sr_start (N := N) hO hA hD
    have fin : ∀ {r0 : Res} {s' : Slots} {v : V} {σ' : L2.St} {H' : Hp} {O' : Addr → Prop}, endF as r0 s' = some (r, outs) → AftS X.K O H (slots0 N.length as) (L2.start N vs) O' H' s' σ' → RR X.K O' H' H σ' s' v r0 → Q v H' := by
      intro r0 s' v σ' H' O' e2 A R
      obtain ⟨o2, e3, e4⟩ := Option.bind_eq_some_iff.mp e2
      have lk : ∀ (j : Nat) (b : Bool) (d : D), as[j]? = some (.ow b d) → ∃ a, vs[j]? = some (.ref a) ∧ σ'[j]? = some (some (.ref a)) ∧ ∃ d0, s'[j]? = some (some (SV.ow true d0)) := by
        intro j b d hj
        obtain ⟨rfl, a, k1, _, _⟩ := (hA.get (i := j)).2 b d hj
        obtain ⟨k2, d0, k3⟩ := A.lk j d (slots0_get hj)
        exact ⟨a, k1, by rw [k2]; exact start_get k1, d0, k3⟩
      have hext : Ext O H O' H' (ArgA vs as) :=
        ⟨fun a u h n => A.ext.keep a u h fun w => n (owa_start hA w), fun a o n => A.ext.own a o fun w => n (owa_start hA w), A.ext.new, A.ext.trk⟩
      have houts : o2 = outs → OutsR X.K O' H' vs as outs := by
        rintro rfl
        refine outs_of (i := 0) hA e3 fun j b d e' h1 h2 => ?_
        obtain ⟨a, k1, k2, d0, k3⟩ := lk j b d h1
        obtain ⟨b', k4⟩ := owAt_of (show owAt s' j = some e' from by simpa using h2)
        obtain ⟨a', k5, k6, k7⟩ := A.sr.ow j b' e' k4
        rw [k2] at k5
        cases k5
        exact ⟨a, k1, k6, k7⟩
      cases r0 with
      | im d =>
        cases e4
        exact q v H' O' A.sr.own hext (houts rfl) R
      | fr d =>
        cases e4
        obtain ⟨a, rfl, n, o, w, c⟩ := R
        exact q _ H' O' A.sr.own hext (houts rfl) ⟨a, rfl, n, o, c⟩
      | bo i =>
        dsimp only at e4
        split at e4
        · rename_i d hi
          cases e4
          obtain ⟨a, k1, k2, k3⟩ := A.sr.ow i false d hi
          have k0 : σ'[i]? = some (some v) := R
          rw [k0] at k1
          cases k1
          refine q _ H' O' A.sr.own hext (houts rfl) ⟨a, rfl, ?_, k2, k3⟩
          rcases A.sub a ⟨i, false, d, hi, k0⟩ with w | w
          · obtain ⟨j, b, dj, hj, ha⟩ := owa_start hA w
            obtain ⟨a', m1, m2, d0, m3⟩ := lk j b dj hj
            rw [ha] at m1
            cases m1
            have hij : i ≠ j := fun z => by
              subst z
              rw [hi] at m3
              cases m3
            exact absurd m2 (A.sr.ne i j false true d d0 a hij hi m3 k0)
          · exact w
        · cases e4
    split at e
    · rename_i s' hs
      exact ⟨O, _, _, S, hs, fun σ' H' O' A => fin e A .non⟩
    · rename_i r0 s' hs
      exact ⟨O, _, _, S, hs, fun v σ' H' O' A R => fin e A R⟩
    · cases e
  · cases e
theorem spG_len {F : Fn} {np n : Nat} {f : SX} (hF : F = fnF n np f) {Q : VK} {E : XK} (h : spG K F vs H Q E) : vs.length = np := by
  obtain ⟨O, as, r, outs, hO, hA, hD, e, q⟩ := h
  rw [hF] at e
  unfold fnF at e
  split at e
  · rename_i hl
    rw [hA.len, hl]
  · cases e

/-! ### a call -/
def toSV (s : Slots) : Res → Option SV
  | .im d => some (.im d)
  | .fr _ => none
  | .bo i => (owAt s i).map (.ow true)
def toSVs (s : Slots) : List Res → Option (List SV)
  | [] => some []
  | r :: rs => do
    let a ← toSV s r
    let as ← toSVs s rs
    some (a :: as)
def bos : List Res → List Nat
  | [] => []
  | .bo i :: rs => i :: bos rs
  | _ :: rs => bos rs
def setC (s : Slots) (i : Nat) (d : D) : Slots := match s[i]? with
  | some (some (.ow b _)) => s.set i (some (.ow b d))
  | _ => s
def putBack : Slots → List Res → List D → Slots
  | s, .bo i :: rs, d :: outs => putBack (setC s i d) rs outs
  | s, .bo _ :: _, [] => s
  | s, .im _ :: rs, outs => putBack s rs outs
  | s, .fr _ :: rs, outs => putBack s rs outs
  | s, [], _ => s
def eCall (F : Fn) (f : AX) : EX := fun sd => do
  let (rs, s) ← f sd
  let as ← toSVs s rs
  if (bos rs).Nodup then do
    let (r, outs) ← F as
    match r with
    | .bo _ => none
    | r => some (r, putBack s rs outs)
  else none
theorem setC_get {s : Slots} {i j : Nat} {d : D} : (setC s i d)[j]? = if i = j then (match s[i]? with | some (some (.ow b _)) => some (some (.ow b d)) | x => x) else s[j]? := by
  unfold setC
  split
  · rename_i b e h
    by_cases q : i = j
    · subst q
      rw [if_pos rfl, List.getElem?_set_self (List.getElem?_eq_some_iff.mp h).1]
    · rw [if_neg q, List.getElem?_set_ne q]
  · rename_i h
    by_cases q : i = j
    · subst q
      rw [if_pos rfl]
    · rw [if_neg q]
theorem setC_len {s : Slots} {i : Nat} {d : D} : (setC s i d).length = s.length := by
  unfold setC
  split <;> simp
/-- the slots behind the call -/
theorem putBack_spec : ∀ {vs : List V} {rs : List Res} {as : List SV} {outs : List D} {s s0 : Slots}, (∀ i ∈ bos rs, s[i]? = s0[i]?) → RRs K O H H0 σ s0 vs rs → toSVs s0 rs = some as → (bos rs).Nodup → OutsR K O' H' vs as outs →
    (putBack s rs outs).length = s.length ∧ (∀ j, j ∉ bos rs → (putBack s rs outs)[j]? = s[j]?) ∧
      ∀ j, j ∈ bos rs → ∃ b d e a, s0[j]? = some (some (.ow b d)) ∧ (putBack s rs outs)[j]? = some (some (.ow b e)) ∧ σ[j]? = some (some (.ref a)) ∧ O' a ∧ Ct K O' H' a e
  | _, _, _, _, s, s0, hs, .nil, e, _, _ => by
    refine ⟨by simp [putBack], fun j _ => by simp [putBack], fun j hj => by simp [bos] at hj⟩
  | _, r :: rs, _, _, s, s0, hs, .cons x t, e, nd, ho => by
    obtain ⟨a0, e1, e⟩ := Option.bind_eq_some_iff.mp e
    obtain ⟨as, e2, e⟩ := Option.bind_eq_some_iff.mp e
    cases e
    cases r with
    | fr d => cases e1
    | im d =>
      cases e1
      cases ho with
      | im ho => exact putBack_spec (rs := rs) hs t e2 nd ho
    | bo i =>
      obtain ⟨d, e3, e4⟩ := Option.map_eq_some_iff.mp e1
      subst e4
      cases ho with
      | @ow a b _ dn vs2 as2 outs2 oa ct ho =>
        have nd' := List.nodup_cons.mp nd
        obtain ⟨b, e5⟩ := owAt_of e3
        have x' : σ[i]? = some (some (.ref a)) := x
        have si : s[i]? = some (some (.ow b d)) := by rw [hs i List.mem_cons_self]; exact e5
        have get_i : ∀ j, (setC s i dn)[j]? = if i = j then some (some (.ow b dn)) else s[j]? := fun j => by
          rw [setC_get]
          by_cases q : i = j
          · rw [if_pos q, if_pos q, si]
          · rw [if_neg q, if_neg q]
        obtain ⟨k1, k2, k3⟩ := putBack_spec (s := setC s i dn) (rs := rs) (fun j hj => by
          have q : i ≠ j := fun z => nd'.1 (z ▸ hj)
          rw [get_i, if_neg q]
          exact hs j (List.mem_cons_of_mem _ hj)) t e2 nd'.2 ho
        refine ⟨by rw [show putBack s (.bo i :: rs) (dn :: outs2) = putBack (setC s i dn) rs outs2 from rfl, k1, setC_len], fun j hj => ?_, fun j hj => ?_⟩
        · have q : i ≠ j := fun z => hj (by simp [bos, z])
          rw [show putBack s (.bo i :: rs) (dn :: outs2) = putBack (setC s i dn) rs outs2 from rfl, k2 j fun z => hj (by simp [bos, z]), get_i, if_neg q]
        · rw [show putBack s (.bo i :: rs) (dn :: outs2) = putBack (setC s i dn) rs outs2 from rfl]
          by_cases q : i = j
          · subst q
            refine ⟨b, d, dn, a, e5, ?_, x', oa, ct⟩
            rw [k2 i nd'.1, get_i, if_pos rfl]
          · have hj' : j ∈ bos rs := by
              rcases List.mem_cons.mp (show j ∈ i :: bos rs from hj) with z | z
              · exact absurd z.symm q
              · exact z
            exact k3 j hj'
theorem args_of : ∀ {vs : List V} {rs : List Res} {as : List SV}, SR K O sd σ H → RRs K O H H0 σ sd vs rs → toSVs sd rs = some as → ArgsR K O H vs as ∧ (∀ a, ArgA vs as a → ∃ j ∈ bos rs, ∃ b d, sd[j]? = some (some (.ow b d)) ∧ σ[j]? = some (some (.ref a)))
  | _, _, _, _, .nil, e => by
    cases e
    exact ⟨.nil, fun a ⟨i, b, d, h, _⟩ => by simp at h⟩
  | _, r :: rs, _, S, .cons x t, e => by
    obtain ⟨a0, e1, e⟩ := Option.bind_eq_some_iff.mp e
    obtain ⟨as, e2, e⟩ := Option.bind_eq_some_iff.mp e
    cases e
    obtain ⟨k1, k2⟩ := args_of S t e2
    cases r with
    | fr d => cases e1
    | im d =>
      cases e1
      refine ⟨.im x k1, fun a ⟨i, b, d, h, h2⟩ => ?_⟩
      cases i with
      | zero => simp at h
      | succ i => exact k2 a ⟨i, b, d, by simpa using h, by simpa using h2⟩
    | bo i0 =>
      obtain ⟨d, e3, e4⟩ := Option.map_eq_some_iff.mp e1
      subst e4
      obtain ⟨b0, e5⟩ := owAt_of e3
      obtain ⟨a1, m1, m2, m3⟩ := S.ow i0 b0 d e5
      have x' : σ[i0]? = some (some _) := x
      rw [m1] at x'
      cases x'
      refine ⟨.ow m2 m3 k1, fun a ⟨i, b, d', h, h2⟩ => ?_⟩
      cases i with
      | zero =>
        simp at h2
        subst h2
        exact ⟨i0, List.mem_cons_self, b0, d, e5, m1⟩
      | succ i =>
        obtain ⟨j, hj, r⟩ := k2 a ⟨i, b, d', by simpa using h, by simpa using h2⟩
        exact ⟨j, List.mem_cons_of_mem _ hj, r⟩
theorem argD_of : ∀ {vs : List V} {rs : List Res} {as : List SV}, SR K O sd σ H → RRs K O H H0 σ sd vs rs → toSVs sd rs = some as → (bos rs).Nodup → ArgD vs as
  | _, _, _, _, .nil, e, _ => by
    cases e
    exact fun i j b c d e a _ h => by simp at h
  | _, r :: rs, _, S, .cons x t, e, nd => by
    obtain ⟨a0, e1, e⟩ := Option.bind_eq_some_iff.mp e
    obtain ⟨as, e2, e⟩ := Option.bind_eq_some_iff.mp e
    cases e
    cases r with
    | fr d => cases e1
    | im d =>
      cases e1
      have ih := argD_of S t e2 nd
      intro i j b c d e a hij hi hj ha
      cases i with
      | zero => simp at hi
      | succ i =>
        cases j with
        | zero => simp at hj
        | succ j => simpa using ih i j b c d e a (by omega) (by simpa using hi) (by simpa using hj) (by simpa using ha)
    | bo i0 =>
      obtain ⟨d0, e3, e4⟩ := Option.map_eq_some_iff.mp e1
      subst e4
      obtain ⟨b0, e5⟩ := owAt_of e3
      have nd' := List.nodup_cons.mp nd
      have ih := argD_of S t e2 nd'.2
      have hA := (args_of S t e2).2
      have x' : σ[i0]? = some (some _) := x
      intro i j b c d e a hij hi hj ha
      cases i with
      | zero =>
        cases j with
        | zero => exact absurd rfl hij
        | succ j =>
          intro z
          simp at ha
          subst ha
          obtain ⟨k, hk, b', d', q1, q2⟩ := hA a ⟨j, c, e, by simpa using hj, by simpa using z⟩
          have hne : i0 ≠ k := fun y => nd'.1 (y ▸ hk)
          exact S.ne i0 k b0 b' d0 d' a hne e5 q1 x' q2
      | succ i =>
        cases j with
        | zero =>
          intro z
          simp at z
          subst z
          obtain ⟨k, hk, b', d', q1, q2⟩ := hA a ⟨i, b, d, by simpa using hi, by simpa using ha⟩
          have hne : i0 ≠ k := fun y => nd'.1 (y ▸ hk)
          exact S.ne i0 k b0 b' d0 d' a hne e5 q1 x' q2
        | succ j => simpa using ih i j b c d e a (by omega) (by simpa using hi) (by simpa using hj) (by simpa using ha)
theorem rd_call {F : Fn} {f : AX} {E : XK} {Q : VK} (h : rd K (eCall F f) σ H Q) : tCall (spG K F) [] E (rdA K f) σ H Q := by
  obtain ⟨O, sd, r, sd', S, e, q⟩ := h
  obtain ⟨⟨rs, s⟩, e1, e⟩ := Option.bind_eq_some_iff.mp e
  obtain ⟨as, e2, e⟩ := Option.bind_eq_some_iff.mp e
  split at e
  · rename_i nd
    obtain ⟨⟨r1, outs⟩, e3, e⟩ := Option.bind_eq_some_iff.mp e
    refine ⟨O, sd, rs, s, S, e1, fun vs H1 O1 A1 R1 => ?_⟩
    show spG K F (vs ++ []) H1 Q E
    rw [List.append_nil]
    have hA := args_of A1.sr R1 e2
    refine ⟨O1, as, r1, outs, A1.sr.own, hA.1, argD_of A1.sr R1 e2 nd, e3, fun v H' O' hO' ext ho ro => ?_⟩
    have hW : ∀ a, ArgA vs as a → OwA s σ a := fun a w => by
      obtain ⟨j, _, b, d, q1, q2⟩ := hA.2 a w
      exact ⟨j, b, d, q1, q2⟩
    have ext' : Ext O1 H1 O' H' (OwA s σ) := ⟨fun a u h n => ext.keep a u h fun w => n (hW a w), fun a o n => ext.own a o fun w => n (hW a w), ext.new, ext.trk⟩
    obtain ⟨p1, p2, p3⟩ := putBack_spec (s := s) (fun _ _ => rfl) R1 e2 nd ho
    have S' : SR K O' (putBack s rs outs) σ H' := by
      refine ⟨hO', by rw [p1]; exact A1.sr.len, fun i d hi => ?_, fun i b d hi => ?_, fun i j b c d e a hij hi hj ha => ?_⟩
      · by_cases q : i ∈ bos rs
        · obtain ⟨b, d0, e0, a, _, q2, _⟩ := p3 i q
          rw [q2] at hi
          cases hi
        · rw [p2 i q] at hi
          obtain ⟨w, k1, k2⟩ := A1.sr.im i d hi
          exact ⟨w, k1, k2.ext ext' A1.sr.owO A1.sr.own⟩
      · by_cases q : i ∈ bos rs
        · obtain ⟨b', d0, e0, a, _, q2, q3, q4, q5⟩ := p3 i q
          rw [q2] at hi
          cases hi
          exact ⟨a, q3, q4, q5⟩
        · rw [p2 i q] at hi
          obtain ⟨a, k1, k2, k3⟩ := A1.sr.ow i b d hi
          have nw : ¬ ArgA vs as a := fun w => by
            obtain ⟨j, hj, b', d', q1, q2⟩ := hA.2 a w
            exact A1.sr.ne i j b b' d d' a (fun z => q (z ▸ hj)) hi q1 k1 q2
          exact ⟨a, k1, ext.own a k2 nw, k3.ext (W := ArgA vs as) ext (fun x w => A1.sr.owO x (hW x w)) A1.sr.own nw⟩
      · have get0 : ∀ {k : Nat} {b : Bool} {d : D}, (putBack s rs outs)[k]? = some (some (SV.ow b d)) → ∃ d0, s[k]? = some (some (SV.ow b d0)) := by
          intro k b d hk
          by_cases q : k ∈ bos rs
          · obtain ⟨b', d0, e0, a, q1, q2, _⟩ := p3 k q
            rw [q2] at hk
            cases hk
            exact ⟨d0, q1⟩
          · rw [p2 k q] at hk
            exact ⟨d, hk⟩
        obtain ⟨d1, h1⟩ := get0 hi
        obtain ⟨d2, h2⟩ := get0 hj
        exact A1.sr.ne i j b c d1 d2 a hij h1 h2 ha
    have sub' : Sub (putBack s rs outs) s := by
      refine ⟨fun i b d hi => ?_, fun i d hi => ?_⟩
      · by_cases q : i ∈ bos rs
        · obtain ⟨b', d0, e0, a, q1, q2, _⟩ := p3 i q
          rw [q2] at hi
          cases hi
          exact ⟨d0, q1⟩
        · rw [p2 i q] at hi
          exact ⟨d, hi⟩
      · by_cases q : i ∈ bos rs
        · obtain ⟨b', d0, e0, a, q1, q2, _⟩ := p3 i q
          rw [q1] at hi
          cases hi
          exact ⟨e0, q2⟩
        · exact ⟨d, by rw [p2 i q]; exact hi⟩
    have A2 : Aft K O H sd σ O' H' (putBack s rs outs) := A1.trans S ⟨ext', S', sub'⟩
    have fr : ∀ {r2 : Res}, RO K O' H' H1 v r2 → RR K O' H' H σ (putBack s rs outs) v r2 := by
      intro r2 ro
      cases r2 with
      | im d => exact ro
      | fr d =>
        obtain ⟨a, k1, k2, k3, k4⟩ := ro
        refine ⟨a, k1, A1.trk a k2, k3, fun w => ?_, k4⟩
        obtain ⟨u, z, _⟩ := A1.sr.own a (A1.sr.owO a (w.sub sub'))
        rw [k2] at z
        cases z
      | bo i => exact ro.elim
    cases r1 with
    | im d => cases e; exact q v H' O' A2 (fr ro)
    | fr d => cases e; exact q v H' O' A2 (fr ro)
    | bo i => cases e
  · cases e
end
end G

set_option Elab.async false
set_option linter.all false
set_option maxRecDepth 100000
set_option maxHeartbeats 4000000
/-! G7: comprehensions. -/
namespace G
open PySem PySem.Spec PyProof.Rows L2

section
variable {K : PySem.W.Frag} {O O' O1 O2 : Addr → Prop} {H H' H0 H1 H2 : Hp} {v : V} {d : D} {vs : List V} {ds : List D} {sd sd' s s' s1 s2 : Slots} {σ σ' σ1 σ2 : L2.St} {ws js : List Nat}
def wipeD (s : Slots) : List Nat → Slots
  | [] => s
  | v :: vs => (wipeD s vs).set v none
/-- the names of a block come back as they were -/
def backD (s0 : Slots) (s : Slots) : List Nat → Slots
  | [] => s
  | v :: vs => (backD s0 s vs).set v (s0[v]?.getD none)
def noOw (s : Slots) (ws : List Nat) : Bool := ws.all fun v => match s[v]? with
  | some (some (.ow _ _)) => false
  | some _ => true
  | none => false
theorem wipeD_len : ∀ ws : List Nat, (wipeD s ws).length = s.length
  | [] => rfl
  | v :: vs => by unfold wipeD; rw [List.length_set, wipeD_len vs]
theorem wipeD_in {i : Nat} : ∀ {ws : List Nat}, i ∈ ws → ∀ x, (wipeD s ws)[i]? ≠ some (some x)
  | [], h, _ => by cases h
  | v :: vs, h, x => by
    unfold wipeD
    by_cases q : v = i
    · subst q
      by_cases hv : v < (wipeD s vs).length
      · rw [List.getElem?_set_self hv]; intro z; cases z
      · rw [List.getElem?_eq_none (by simpa using hv)]; intro z; cases z
    · rw [List.getElem?_set_ne q]
      exact wipeD_in ((List.mem_cons.mp h).resolve_left fun z => q z.symm) x
theorem wipeD_out {i : Nat} : ∀ {ws : List Nat}, i ∉ ws → (wipeD s ws)[i]? = s[i]?
  | [], _ => rfl
  | v :: vs, h => by
    simp only [List.mem_cons, not_or] at h
    unfold wipeD
    rw [List.getElem?_set_ne (Ne.symm h.1)]
    exact wipeD_out h.2
theorem backD_len {s0 : Slots} : ∀ ws : List Nat, (backD s0 s ws).length = s.length
  | [] => rfl
  | v :: vs => by unfold backD; rw [List.length_set, backD_len vs]
theorem backD_out {s0 : Slots} {i : Nat} : ∀ {ws : List Nat}, i ∉ ws → (backD s0 s ws)[i]? = s[i]?
  | [], _ => rfl
  | v :: vs, h => by
    simp only [List.mem_cons, not_or] at h
    unfold backD
    rw [List.getElem?_set_ne (Ne.symm h.1)]
    exact backD_out h.2
theorem backD_in {s0 : Slots} {i : Nat} : ∀ {ws : List Nat}, i ∈ ws → i < s.length → (backD s0 s ws)[i]? = some (s0[i]?.getD none)
  | [], h, _ => by cases h
  | v :: vs, h, hl => by
    unfold backD
    by_cases q : v = i
    · subst q
      rw [List.getElem?_set_self (by rw [backD_len]; exact hl)]
    · rw [List.getElem?_set_ne q]
      exact backD_in ((List.mem_cons.mp h).resolve_left fun z => q z.symm) hl
theorem wipe_out' {i : Nat} : ∀ {ws : List Nat}, i ∉ ws → (L2.wipe σ ws)[i]? = σ[i]?
  | [], _ => rfl
  | v :: vs, h => by
    simp only [List.mem_cons, not_or] at h
    unfold L2.wipe
    rw [List.getElem?_set_ne (Ne.symm h.1)]
    exact wipe_out' h.2
theorem wipe_in' {i : Nat} : ∀ {ws : List Nat}, i ∈ ws → i < σ.length → (L2.wipe σ ws)[i]? = some none
  | [], h, _ => by cases h
  | v :: vs, h, hl => by
    unfold L2.wipe
    by_cases q : v = i
    · subst q
      rw [List.getElem?_set_self (by rw [L2.wipe_length]; exact hl)]
    · rw [List.getElem?_set_ne q]
      exact wipe_in' ((List.mem_cons.mp h).resolve_left fun z => q z.symm) hl
theorem wipe_eq (hl : σ2.length = σ.length) (h : ∀ i, i ∉ ws → σ2[i]? = σ[i]?) : L2.wipe σ2 ws = L2.wipe σ ws := by
  apply List.ext_getElem?
  intro i
  by_cases q : i ∈ ws
  · by_cases hi : i < σ.length
    · rw [wipe_in' q hi, wipe_in' q (by rw [hl]; exact hi)]
    · rw [List.getElem?_eq_none (by rw [L2.wipe_length]; omega), List.getElem?_eq_none (by rw [L2.wipe_length]; omega)]
  · rw [wipe_out' q, wipe_out' q]
    exact h i q
/-- the block's names forgotten -/
theorem SR.wipe (S : SR K O s σ H) : SR K O (wipeD s ws) (L2.wipe σ ws) H := by
  refine ⟨S.own, by rw [wipeD_len, L2.wipe_length]; exact S.len, fun i d h => ?_, fun i b d h => ?_, fun i j b c d e a hij hi hj ha => ?_⟩
  · have q : i ∉ ws := fun z => wipeD_in z _ h
    rw [wipeD_out q] at h
    rw [wipe_out' q]
    exact S.im i d h
  · have q : i ∉ ws := fun z => wipeD_in z _ h
    rw [wipeD_out q] at h
    rw [wipe_out' q]
    exact S.ow i b d h
  · have qi : i ∉ ws := fun z => wipeD_in z _ hi
    have qj : j ∉ ws := fun z => wipeD_in z _ hj
    rw [wipeD_out qi] at hi
    rw [wipeD_out qj] at hj
    rw [wipe_out' qi] at ha
    rw [wipe_out' qj]
    exact S.ne i j b c d e a hij hi hj ha
theorem OwA.wipe {a : Addr} (h : OwA (wipeD s ws) (L2.wipe σ ws) a) : OwA s σ a := by
  obtain ⟨i, b, d, h, k⟩ := h
  have q : i ∉ ws := fun z => wipeD_in z _ h
  rw [wipeD_out q] at h
  rw [wipe_out' q] at k
  exact ⟨i, b, d, h, k⟩
theorem noOw_lk (h : noOw s ws = true) {i : Nat} {b : Bool} {d : D} (e : s[i]? = some (some (SV.ow b d))) : i ∉ ws := fun z => by
  have q := List.all_eq_true.mp h i z
  rw [e] at q
  cases q
theorem AftS.wipe (hn : noOw s ws = true) (A : AftS K O H s σ O' H' s' σ') : AftS K O H s σ O' H' (wipeD s' ws) (L2.wipe σ' ws) :=
  ⟨A.ext, A.sr.wipe, fun a h => A.sub a h.wipe, fun i d h => by
    have q := noOw_lk hn h
    obtain ⟨k1, d0, k2⟩ := A.lk i d h
    exact ⟨by rw [wipe_out' q]; exact k1, d0, by rw [wipeD_out q]; exact k2⟩⟩
/-- outside the block's names no slot becomes owned -/
structure SubX (ws : List Nat) (s' s : Slots) : Prop where
  len : s'.length = s.length
  ow : ∀ (i : Nat) (b : Bool) (d : D), i ∉ ws → s'[i]? = some (some (SV.ow b d)) → ∃ d0, s[i]? = some (some (SV.ow b d0))
theorem SubX.refl : SubX ws s s := ⟨rfl, fun _ _ d _ h => ⟨d, h⟩⟩
theorem SubX.trans {a b c : Slots} (h : SubX ws a b) (k : SubX ws b c) : SubX ws a c := ⟨h.len.trans k.len, fun i x d q e => let ⟨d0, e0⟩ := h.ow i x d q e; k.ow i x d0 q e0⟩
theorem SubX.wipe : SubX ws (wipeD s ws) s := ⟨wipeD_len _, fun i b d q h => ⟨d, by rwa [wipeD_out q] at h⟩⟩
theorem SubX.of (S : SR K O s σ H) (A : Aft K O H s σ O' H' s') : SubX ws s' s := ⟨by rw [A.sr.len, S.len], fun i b d _ h => A.sub.ow i b d h⟩
/-- a target stores at js alone -/
def LocG (js : List Nat) (g : GX) : Prop := ∀ d s s', g d s = some s' → s'.length = s.length ∧ ∀ i, i ∉ js → s'[i]? = s[i]?
theorem loc_gN {i : Nat} : LocG [i] (gN i) := fun d s s' h => by
  unfold gN at h
  split at h
  · cases h
    exact ⟨by simp, fun j hj => List.getElem?_set_ne fun z => hj (by simp [z])⟩
  · cases h
def LocGs (js : List Nat) (gs : List GX) : Prop := ∀ ds s s', gNs gs ds s = some s' → s'.length = s.length ∧ ∀ i, i ∉ js → s'[i]? = s[i]?
theorem loc_nil : LocGs [] [] := fun ds s s' h => by
  cases ds with
  | nil => cases h; exact ⟨rfl, fun _ _ => rfl⟩
  | cons _ _ => cases h
theorem loc_cons {js ks : List Nat} {g : GX} {gs : List GX} (h1 : LocG js g) (h2 : LocGs ks gs) : LocGs (js ++ ks) (g :: gs) := fun ds s s' h => by
  cases ds with
  | nil => cases h
  | cons d ds =>
    obtain ⟨s1, e1, e2⟩ := Option.bind_eq_some_iff.mp h
    obtain ⟨l1, k1⟩ := h1 _ _ _ e1
    obtain ⟨l2, k2⟩ := h2 _ _ _ e2
    exact ⟨l2.trans l1, fun i hi => (k2 i fun z => hi (List.mem_append_right _ z)).trans (k1 i fun z => hi (List.mem_append_left _ z))⟩
theorem loc_gT {js : List Nat} {gs : List GX} (h : LocGs js gs) : LocG js (gT gs) := fun d s s' e => by
  unfold gT at e
  split at e
  · split at e
    · exact h _ _ _ e
    · cases e
  · cases e

/-- an owned temporary changes -/
theorem SR.temp (S : SR K O s σ H) {x : Addr} {u w : HO} (ox : O x) (nx : ¬ OwA s σ x) (hw : mutO w = true) : Ext O H O (upd H x w) (fun a => a = x) ∧ SR K O s σ (upd H x w) := by
  obtain ⟨u0, hx, _⟩ := S.own x ox
  have e : Ext O H O (upd H x w) (fun a => a = x) := ⟨fun a v h n => by rw [upd_ne n]; exact h, fun a o _ => o, fun a o => .inl o, fun a h => by
    by_cases q : a = x
    · subst q; rw [upd_same] at h; cases h
    · rwa [upd_ne q] at h⟩
  have hW : ∀ a, a = x → O a := fun a z => z ▸ ox
  refine ⟨e, ⟨fun a o => ?_, S.len, fun i d h => ?_, fun i b d h => ?_, S.ne⟩⟩
  · by_cases q : a = x
    · subst q; exact ⟨w, upd_same, hw⟩
    · obtain ⟨v, k, m⟩ := S.own a o
      exact ⟨v, by rw [upd_ne q]; exact k, m⟩
  · obtain ⟨v, k, m⟩ := S.im i d h
    exact ⟨v, k, m.ext e hW S.own⟩
  · obtain ⟨a, k, o, c⟩ := S.ow i b d h
    exact ⟨a, k, o, c.ext e hW S.own fun z => nx ⟨i, b, d, h, z ▸ k⟩⟩
/-- behind a block -/
theorem AftS.back (S : SR K O s σ H) (hn : noOw s ws = true) (A : AftS K O H s σ O' H' (wipeD s' ws) (L2.wipe σ ws)) (X : SubX ws s' s) : Aft K O H s σ O' H' (backD s s' ws) := by
  have out : ∀ {i : Nat} {b : Bool} {d : D}, (backD s s' ws)[i]? = some (some (SV.ow b d)) → i ∉ ws ∧ (wipeD s' ws)[i]? = some (some (SV.ow b d)) ∧ s'[i]? = some (some (SV.ow b d)) := by
    intro i b d h
    by_cases q : i ∈ ws
    · have hi : i < s'.length := by
        have := (List.getElem?_eq_some_iff.mp h).1
        rwa [backD_len] at this
      rw [backD_in q hi] at h
      have z := List.all_eq_true.mp hn i q
      cases k : s[i]? with
      | none => rw [k] at h; cases h
      | some o =>
        rw [k] at h z
        have h' : o = some (SV.ow b d) := Option.some.inj h
        rw [h'] at z
        cases z
    · rw [backD_out q] at h
      exact ⟨q, by rw [wipeD_out q]; exact h, h⟩
  refine ⟨A.ext, ⟨A.sr.own, ?_, fun i d h => ?_, fun i b d h => ?_, fun i j b c d e a hij hi hj ha => ?_⟩, ⟨fun i b d h => ?_, fun i d h => ?_⟩⟩
  · rw [backD_len, X.len]
    exact S.len
  · by_cases q : i ∈ ws
    · have hi : i < s'.length := by
        have := (List.getElem?_eq_some_iff.mp h).1
        rwa [backD_len] at this
      rw [backD_in q hi] at h
      cases k : s[i]? with
      | none => rw [k] at h; cases h
      | some o =>
        rw [k] at h
        have h' : o = some (SV.im d) := Option.some.inj h
        rw [h'] at k
        obtain ⟨v, k1, k2⟩ := S.im i d k
        exact ⟨v, k1, A.is S k2⟩
    · rw [backD_out q] at h
      obtain ⟨v, k1, k2⟩ := A.sr.im i d (by rw [wipeD_out q]; exact h)
      rw [wipe_out' q] at k1
      exact ⟨v, k1, k2⟩
  · obtain ⟨q, h1, _⟩ := out h
    obtain ⟨a, k1, k2⟩ := A.sr.ow i b d h1
    rw [wipe_out' q] at k1
    exact ⟨a, k1, k2⟩
  · obtain ⟨qi, h1, _⟩ := out hi
    obtain ⟨qj, h2, _⟩ := out hj
    have z := A.sr.ne i j b c d e a hij h1 h2 (by rw [wipe_out' qi]; exact ha)
    rwa [wipe_out' qj] at z
  · obtain ⟨q, _, h2⟩ := out h
    exact X.ow i b d q h2
  · obtain ⟨_, d0, k⟩ := A.lk i d h
    have q := noOw_lk hn h
    rw [wipeD_out q] at k
    exact ⟨d0, by rw [backD_out q]; exact k⟩
theorem OwA.back (hn : noOw s ws = true) {a : Addr} (h : OwA (backD s s' ws) σ a) : OwA (wipeD s' ws) (L2.wipe σ ws) a := by
  obtain ⟨i, b, d, h, k⟩ := h
  by_cases q : i ∈ ws
  · have hi : i < s'.length := by
      have := (List.getElem?_eq_some_iff.mp h).1
      rwa [backD_len] at this
    rw [backD_in q hi] at h
    have z := List.all_eq_true.mp hn i q
    cases m : s[i]? with
    | none => rw [m] at h; cases h
    | some o =>
      rw [m] at h z
      have h' : o = some (SV.ow b d) := Option.some.inj h
      rw [h'] at z
      cases z
  · rw [backD_out q] at h
    exact ⟨i, b, d, by rw [wipeD_out q]; exact h, by rw [wipe_out' q]; exact k⟩

/-! ### list comprehensions -/
def lcF (ws : List Nat) (g : GX) (ct : TX) (fe : EX) : List D → Slots → Option (List D × Slots)
  | [], s => some ([], s)
  | d :: ds, s => do
    let s1 ← g d (wipeD s ws)
    let (b, s2) ← ct s1
    if b = true then do
      let (r, s3) ← fe s2
      match r with
      | .im x => do
        let (xs, s4) ← lcF ws g ct fe ds s3
        some (x :: xs, s4)
      | _ => none
    else lcF ws g ct fe ds s2
def eLc (ws : List Nat) (fi : IX) (g : GX) (ct : TX) (fe : EX) : EX := fun sd => do
  let (ds, s) ← fi sd
  if noOw s ws = true then do
    let (xs, s2) ← lcF ws g ct fe ds s
    if xs.length ≤ sizeLine then some (.fr (.lst xs), backD s s2 ws) else none
  else none
theorem lc_main {wi : TI} {g : GX} {ct : TX} {fe : EX} {xs : List D} {Q : VK} (hjs : ∀ i ∈ js, i ∈ ws) (hl : LocG js g) (S : SR K O sd σ H)
    (hw : ∀ R : It → Hp → Prop, (∀ J H1 O1, Aft K O H sd σ O1 H1 s → Src K O1 H1 s σ ds J → R J H1) → wi σ H R) (hn : noOw s ws = true) (e : lcF ws g ct fe ds s = some (xs, s2)) (hz : xs.length ≤ sizeLine)
    (q : ∀ v H' O', Aft K O H sd σ O' H' (backD s s2 ws) → RR K O' H' H σ (backD s s2 ws) v (.fr (.lst xs)) → Q v H') : tLc wi (rdG K js g) (rdT K ct) (rd K fe) ws σ H Q := by
  refine hw _ fun J H1 O1 A1 hJ => fun D hD => ?_
  have A0 := A1.sr.grow (A1.sr.own.new hD (u := .lst []) rfl) (Ext.new_ hD)
  have nD : ¬ OwA s σ D := fun z => by
    obtain ⟨u, k, _⟩ := A1.sr.own D (A1.sr.owO D z)
    rw [hD] at k
    cases k
  refine ⟨fun i m H' => m = ds.length - i ∧ i ≤ ds.length ∧ ∃ O' s' acc accV rest, AftS K O1 H1 s σ O' H' (wipeD s' ws) (L2.wipe σ ws) ∧ SubX ws s' s ∧ lcF ws g ct fe (ds.drop i) s' = some (rest, s2) ∧ xs = acc ++ rest ∧
    H' D = some (.lst accV) ∧ IsAll K O' H' accV acc ∧ O' D ∧ ¬ OwA (wipeD s' ws) (L2.wipe σ ws) D,
    ⟨ds.length, by simp, Nat.zero_le _, _, s, [], [], xs, A0.s.wipe hn, SubX.refl, by simpa using e, rfl, upd_same, .nil, .inr rfl, fun z => nD z.wipe⟩, ?_⟩
  rintro i m H' ⟨rfl, hi, O', s', acc, accV, rest, A, X, el, ex, hDV, hacc, oD, nD'⟩
  obtain ⟨j1, j2⟩ := hJ O' H' (wipeD s' ws) (L2.wipe σ ws) A i
  by_cases hlt : i < ds.length
  · obtain ⟨k1, k2⟩ := j1 hlt
    rw [List.drop_eq_getElem_cons hlt] at el
    obtain ⟨s1, e1, el⟩ := Option.bind_eq_some_iff.mp el
    obtain ⟨⟨b, s3⟩, e2, el⟩ := Option.bind_eq_some_iff.mp el
    refine .inr ⟨k1, fun H2 => ∃ O' s' acc accV rest, AftS K O1 H1 s σ O' H2 (wipeD s' ws) (L2.wipe σ ws) ∧ SubX ws s' s ∧ lcF ws g ct fe (ds.drop (i + 1)) s' = some (rest, s2) ∧ xs = acc ++ rest ∧
      H2 D = some (.lst accV) ∧ IsAll K O' H2 accV acc ∧ O' D ∧ ¬ OwA (wipeD s' ws) (L2.wipe σ ws) D, fun H2 h2 => ⟨ds.length - (i + 1), by omega, rfl, hlt, h2⟩, fun x H2 hy => ?_⟩
    obtain ⟨d, hd, ow, ext, hx⟩ := k2 x H2 hy
    rw [List.getElem?_eq_getElem hlt] at hd
    cases hd
    have A2 := A.sr.grow ow ext
    obtain ⟨gl, gk⟩ := hl _ _ _ e1
    refine ⟨O', wipeD s' ws, _, s1, A2.sr, hx, e1, fun σ3 H3 O3 A4 l4 k4 => ?_⟩
    have wq : L2.wipe σ3 ws = L2.wipe σ ws := wipe_eq (by rw [l4, L2.wipe_length]) fun i hi => by
      rw [k4 i fun z => hi (hjs i z), wipe_out' hi]
    have wq2 : L2.wipe σ3 ws = L2.wipe (L2.wipe σ ws) ws := wipe_eq l4 fun i hi => k4 i fun z => hi (hjs i z)
    have B2 := A2.s.trans A.sr A4
    have D2 : ¬ OwA s1 σ3 D := fun z => (A4.sub D z).elim nD' fun y => by
      rw [ext.keep D _ hDV (fun z => z)] at y
      cases y
    have X1 : SubX ws s1 s := SubX.trans ⟨by rw [gl], fun i b d q h => ⟨d, by rw [← gk i fun z => q (hjs i z)]; exact h⟩⟩ (SubX.wipe.trans X)
    refine ⟨wq, O3, s1, b, s3, A4.sr, e2, fun H4 O4 A5 => ?_⟩
    have B4 := B2.trans A.sr A5.s
    have X3 := (SubX.of A4.sr A5).trans X1
    have D4 : ¬ OwA s3 σ3 D := fun z => D2 (z.sub A5.sub)
    cases b with
    | true =>
      refine iteT ?_
      replace el : (do
        let (r, s5) ← fe s3
        match r with
        | .im x => do
          let (xs, s4) ← lcF ws g ct fe (ds.drop (i + 1)) s5
          some (x :: xs, s4)
        | _ => none) = some (rest, s2) := el
      obtain ⟨⟨r, s5⟩, e3, el⟩ := Option.bind_eq_some_iff.mp el
      refine ⟨O4, s3, r, s5, A5.sr, e3, fun y H5 O5 A6 R6 => ?_⟩
      have B5 := B4.trans A.sr A6.s
      have C5 := A.trans A1.sr B5
      have X5 := (SubX.of A5.sr A6).trans X3
      have D5 : ¬ OwA s5 σ3 D := fun z => D4 (z.sub A6.sub)
      have hD5 : H5 D = some (.lst accV) := B5.ext.keep D _ hDV nD'
      have oD5 : O5 D := B5.ext.own D oD nD'
      have ha5 : IsAll K O5 H5 accV acc := hacc.ext B5.ext A.sr.owO A.sr.own
      cases r with
      | im x =>
        obtain ⟨⟨xs', s6⟩, e4, el⟩ := Option.bind_eq_some_iff.mp el
        cases el
        refine ⟨accV, hD5, ?_, ?_⟩
        · rw [ha5.len]
          have : xs.length = acc.length + (xs'.length + 1) := by rw [ex, List.length_append, List.length_cons]
          omega
        · obtain ⟨T1, T2⟩ := A6.sr.temp (u := .lst accV) (w := .lst (accV ++ [y])) oD5 D5 rfl
          have C6 : AftS K O1 H1 s σ O5 (upd H5 D (.lst (accV ++ [y]))) s5 σ3 :=
            ⟨⟨fun a u h n => by
              have na : a ≠ D := fun z => by rw [z, hD] at h; cases h
              rw [upd_ne na]
              exact C5.ext.keep a u h n, C5.ext.own, C5.ext.new, fun a h => C5.ext.trk a (T1.trk a h)⟩, T2, C5.sub, C5.lk⟩
          have C7 := C6.wipe hn
          rw [wq] at C7
          refine ⟨O5, s5, acc ++ [x], accV ++ [y], xs', C7, X5, e4, by rw [ex, List.append_assoc]; rfl, upd_same, (ha5.snoc R6).ext T1 (fun a z => z ▸ oD5) A6.sr.own, oD5, fun z => D5 ?_⟩
          rw [← wq] at z
          exact z.wipe
      | fr x => cases el
      | bo x => cases el
    | false =>
      refine iteF ?_
      have C4 := (A.trans A1.sr B4).wipe hn
      rw [wq] at C4
      refine ⟨O4, s3, acc, accV, rest, C4, X3, el, ex, B4.ext.keep D _ hDV nD', hacc.ext B4.ext A.sr.owO A.sr.own, B4.ext.own D oD nD', fun z => D4 ?_⟩
      rw [← wq] at z
      exact z.wipe
  · have hn2 : i = ds.length := by omega
    subst hn2
    rw [List.drop_length] at el
    cases el
    rw [List.append_nil] at ex
    subst ex
    have B := A.back A1.sr hn X
    refine .inl ⟨j2 (Nat.le_refl _), q _ H' O' (A1.trans S B) ⟨D, rfl, A1.trk D hD, oD, fun z => nD' (z.back hn), accV, hDV, hacc⟩⟩
theorem rd_lc {fi : IX} {g : GX} {ct : TX} {fe : EX} {Q : VK} (hjs : ∀ i ∈ js, i ∈ ws) (hl : LocG js g) (h : rd K (eLc ws fi g ct fe) σ H Q) : tLc (rdI K fi) (rdG K js g) (rdT K ct) (rd K fe) ws σ H Q := by
  obtain ⟨O, sd, r, sd', S, e, q⟩ := h
  obtain ⟨⟨ds, s⟩, e1, e⟩ := Option.bind_eq_some_iff.mp e
  dsimp only at e
  split at e
  · rename_i hn
    obtain ⟨⟨xs, s2⟩, e2, e⟩ := Option.bind_eq_some_iff.mp e
    dsimp only at e
    split at e
    · rename_i hz
      cases e
      exact lc_main hjs hl S (fun R hR => ⟨O, sd, ds, s, S, e1, hR⟩) hn e2 hz q
    · cases e
  · cases e
end
def tTrue : TX := fun sd => some (true, sd)
section
variable {K : PySem.W.Frag} {H : Hp} {σ : L2.St}
theorem rd_yes {Q : Bool → Hp → Prop} (h : rdT K tTrue σ H Q) : tYes σ H Q := by
  obtain ⟨O, sd, b, sd', S, e, q⟩ := h
  cases e
  exact q H O (Aft.refl S)
end
abbrev GTs (X : Cx) (es : List Expr) (t : TX) : Prop := PTs X es (rdT X.K t)
theorem gts_nil {X : Cx} : GTs X [] tTrue := ⟨fun pins s σ H Q I h => pts_nil.run pins s σ H Q I (rd_yes h)⟩
theorem gts_one {X : Cx} {c : Expr} {t : TX} (h : GT X c t) : GTs X [c] t := pts_one h
section
variable {X : Cx}
theorem ge_lc {elt tg iter : Expr} {ifs : List Expr} {scope : Scope} {own : List (Str × Nat)} {pos : Pos} {fi : IX} {js : List Nat} {g : GX} {ct : TX} {fe : EX} (hc : X.calm = true) (hN : X.N.Nodup) (hi : GI X tg iter fi) (ok : BlkOk X.N X.env.scope scope own)
    (hjs : ∀ i ∈ js, i ∈ own.map (·.2)) (hl : LocG js g)
    (hg : ∀ (s : Shared) (H : Hp) (C : Addr) (cl : List (Str × Addr)) (fp : List Addr), GG (X.blk s H scope (compEnvC scope cl C X.env) fp) tg js g) (ht : ∀ (s : Shared) (H : Hp) (C : Addr) (cl : List (Str × Addr)) (fp : List Addr), GTs (X.blk s H scope (compEnvC scope cl C X.env) fp) ifs ct)
    (he : ∀ (s : Shared) (H : Hp) (C : Addr) (cl : List (Str × Addr)) (fp : List Addr), GE (X.blk s H scope (compEnvC scope cl C X.env) fp) elt fe) (hs : ∀ x, foldedSetIterable iter X.env x = pure x := by intro _; rfl) :
    GE X (.ListComp elt [⟨tg, iter, ifs, 0⟩] scope pos) (eLc (own.map (·.2)) fi g ct fe) := (pe_lc hc hN hi ok hg ht he hs).imp fun _ _ _ h => rd_lc hjs hl h
theorem gs_setLc {i : Nat} {y : Str} {py : Pos} {elt tg iter : Expr} {ifs : List Expr} {scope : Scope} {own : List (Str × Nat)} {pos spos : Pos} {fi : IX} {js : List Nat} {g : GX} {ct : TX} {fe : EX} (hc : X.calm = true) (hN : X.N.Nodup) (hy : X.N[i]? = some y) (hyl : X.env.scope.names.lookup y = some .local)
    (hsw : swapsWith (.ListComp elt [⟨tg, iter, ifs, 0⟩] scope pos) (some (.Name y py)) spos.line X.env = pure true) (hi : GI X tg iter fi) (ok : BlkOk X.N X.env.scope scope own)
    (hjs : ∀ i ∈ js, i ∈ own.map (·.2)) (hl : LocG js g)
    (hg : ∀ (s : Shared) (H : Hp) (C : Addr) (cl : List (Str × Addr)) (fp : List Addr), GG (X.blk s H scope (compEnvC scope cl C X.env) fp) tg js g) (ht : ∀ (s : Shared) (H : Hp) (C : Addr) (cl : List (Str × Addr)) (fp : List Addr), GTs (X.blk s H scope (compEnvC scope cl C X.env) fp) ifs ct)
    (he : ∀ (s : Shared) (H : Hp) (C : Addr) (cl : List (Str × Addr)) (fp : List Addr), GE (X.blk s H scope (compEnvC scope cl C X.env) fp) elt fe) (hs : ∀ x, foldedSetIterable iter X.env x = pure x := by intro _; rfl) :
    GS X (.Assign [.Name y py] (.ListComp elt [⟨tg, iter, ifs, 0⟩] scope pos) spos) (sAsg i (eLc (own.map (·.2)) fi g ct fe)) := by
  refine (ps_setLc (g := rdG X.K js g) (tt := rdT X.K ct) (te := rd X.K fe) hc hN hy hyl hsw hi ok hg ht he hs).imp fun D σ H h => ?_
  have h1 : tAsg (rd X.K (eLc (own.map (·.2)) fi g ct fe)) (gName i) D σ H := rd_asg h
  exact rd_lc hjs hl h1
end
end G

set_option Elab.async false
set_option linter.all false
set_option maxRecDepth 100000
set_option maxHeartbeats 4000000
/-! G8: what changes owned things; dicts; built-ins. -/
namespace G
open PySem PySem.Spec PyProof.Rows L2

section
variable {X : Cx} {K : PySem.W.Frag} {O O' O1 O2 : Addr → Prop} {H H' H0 H1 H2 : Hp} {v : V} {d : D} {vs : List V} {ds : List D} {sd sd' s s' s1 s2 : Slots} {σ σ' σ1 σ2 : L2.St}
/-! ### an owned thing changes -/
theorem SR.mut (S : SR K O s σ H) {i : Nat} {b : Bool} {c c' : D} {a : Addr} (hi : s[i]? = some (some (.ow b c))) (ha : σ[i]? = some (some (.ref a))) (hO : Own O' H') (e : Ext O H O' H' (fun x => x = a)) (oa : O' a) (ct : Ct K O' H' a c') :
    Aft K O H s σ O' H' (setC s i c') := by
  have W : OwA s σ a := ⟨i, b, c, hi, ha⟩
  have hW : ∀ x, x = a → O x := fun x z => z ▸ S.owO a W
  have get : ∀ j, (setC s i c')[j]? = if i = j then some (some (.ow b c')) else s[j]? := fun j => by
    rw [setC_get]
    by_cases q : i = j
    · rw [if_pos q, if_pos q, hi]
    · rw [if_neg q, if_neg q]
  refine ⟨⟨fun x u h n => e.keep x u h fun z => n (z ▸ W), fun x o n => e.own x o fun z => n (z ▸ W), e.new, e.trk⟩, ⟨hO, by rw [setC_len]; exact S.len, fun j d hj => ?_, fun j b' d hj => ?_, fun j k b1 b2 d1 d2 x hjk hj hk hx => ?_⟩, ⟨fun j b' d hj => ?_, fun j d hj => ?_⟩⟩
  · rw [get] at hj
    split at hj
    · cases hj
    · obtain ⟨v, k1, k2⟩ := S.im j d hj
      exact ⟨v, k1, k2.ext e hW S.own⟩
  · rw [get] at hj
    split at hj
    · rename_i q
      cases hj
      exact ⟨a, by rw [← q]; exact ha, oa, ct⟩
    · rename_i q
      obtain ⟨x, k1, k2, k3⟩ := S.ow j b' d hj
      have nx : x ≠ a := fun z => S.ne i j b b' c d a q hi hj ha (z ▸ k1)
      exact ⟨x, k1, e.own x k2 nx, k3.ext e hW S.own nx⟩
  · have g0 : ∀ {m : Nat} {b' : Bool} {d : D}, (setC s i c')[m]? = some (some (SV.ow b' d)) → ∃ d0, s[m]? = some (some (SV.ow b' d0)) := by
      intro m b' d hm
      rw [get] at hm
      split at hm
      · rename_i q
        cases hm
        exact ⟨c, by rw [← q]; exact hi⟩
      · exact ⟨d, hm⟩
    obtain ⟨e1, h1⟩ := g0 hj
    obtain ⟨e2, h2⟩ := g0 hk
    exact S.ne j k b1 b2 e1 e2 x hjk h1 h2 hx
  · rw [get] at hj
    split at hj
    · rename_i q
      cases hj
      exact ⟨c, by rw [← q]; exact hi⟩
    · exact ⟨d, hj⟩
  · rw [get]
    split
    · rename_i q
      rw [← q, hi] at hj
      cases hj
      exact ⟨c', rfl⟩
    · exact ⟨d, hj⟩
abbrev PostM (K : PySem.W.Frag) (O : Addr → Prop) (H : Hp) (a : Addr) (c' : D) (out : Res) (Q : VK) : Prop :=
  ∀ v H' O', Own O' H' → Ext O H O' H' (fun x => x = a) → O' a → Ct K O' H' a c' → RO K O' H' H v out → Q v H'
def MuS (K : PySem.W.Frag) (r : V → List V → Hp → VK → Prop) (g : D → List D → Option (Res × D)) : Prop :=
  ∀ (O : Addr → Prop) (H : Hp) (a : Addr) (c c' : D) (vs : List V) (ds : List D) (out : Res) (Q : VK), Own O H → O a → Ct K O H a c → IsAll K O H vs ds → g c ds = some (out, c') → PostM K O H a c' out Q → r (.ref a) vs H Q
def isLst : D → Bool
  | .lst _ => true
  | _ => false
def isDic : D → Bool
  | .dic _ => true
  | _ => false
def eMu (p : D → Bool) (g : D → List D → Option (Res × D)) (i : Nat) (f : AX) : EX := fun sd => do
  let c0 ← owAt sd i
  if p c0 = true then do
    let (rs, s) ← f sd
    let ds ← ims rs
    let c ← owAt s i
    let (out, c') ← g c ds
    some (out, setC s i c')
  else none
theorem mu_aft {a : Addr} {i : Nat} {b : Bool} {c c' : D} {out : Res} {A1 : Aft K O H sd σ O1 H1 s} (S : SR K O sd σ H) (hi : s[i]? = some (some (.ow b c))) (ha : σ[i]? = some (some (.ref a))) {Q : VK}
    (q : ∀ v H' O', Aft K O H sd σ O' H' (setC s i c') → RR K O' H' H σ (setC s i c') v out → Q v H') : PostM K O1 H1 a c' out Q := by
  intro v H' O' hO e oa ct ro
  have A2 := A1.sr.mut hi ha hO e oa ct
  refine q v H' O' (A1.trans S A2) ?_
  cases out with
  | im d => exact ro
  | fr d =>
    obtain ⟨x, k1, k2, k3, k4⟩ := ro
    refine ⟨x, k1, A1.trk x k2, k3, fun w => ?_, k4⟩
    obtain ⟨u, z, _⟩ := A1.sr.own x (A1.sr.owO x (w.sub A2.sub))
    rw [k2] at z
    cases z
  | bo j => exact ro.elim
theorem rd_mu {T : String} {p : D → Bool} {r : V → List V → Hp → VK → Prop} {g : D → List D → Option (Res × D)} {i : Nat} {f : AX} (hp : TyS K T p) (hr : MuS K r g) {Q : VK} (h : rd K (eMu p g i f) σ H Q) : tBM K T r (tVar i) (rdA K f) σ H Q := by
  obtain ⟨O, sd, r0, sd', S, e, q⟩ := h
  obtain ⟨c0, e0, e⟩ := Option.bind_eq_some_iff.mp e
  split at e
  · rename_i hp0
    obtain ⟨⟨rs, s⟩, e1, e⟩ := Option.bind_eq_some_iff.mp e
    obtain ⟨ds, e2, e⟩ := Option.bind_eq_some_iff.mp e
    obtain ⟨c, e3, e⟩ := Option.bind_eq_some_iff.mp e
    obtain ⟨⟨out, c'⟩, e4, e⟩ := Option.bind_eq_some_iff.mp e
    cases e
    obtain ⟨b0, e0⟩ := owAt_of e0
    obtain ⟨a, k1, k2, k3⟩ := S.ow i b0 c0 e0
    refine ⟨.ref a, k1, hp O H _ c0 S.own (.inr ⟨a, rfl, k2, k3⟩) hp0, O, sd, rs, s, S, e1, fun vs H1 O1 A1 R1 => ?_⟩
    obtain ⟨b, e3⟩ := owAt_of e3
    obtain ⟨a', m1, m2, m3⟩ := A1.sr.ow i b c e3
    rw [k1] at m1
    cases m1
    exact hr O1 H1 a c c' vs ds _ Q A1.sr.own m2 m3 (R1.isAll e2) e4 (mu_aft (A1 := A1) S e3 k1 q)
  · cases e
theorem rd_mu0 {T : String} {p : D → Bool} {r : V → List V → Hp → VK → Prop} {g : D → List D → Option (Res × D)} {i : Nat} (hp : TyS K T p) (hr : MuS K r g) {Q : VK} (h : rd K (eMu p g i aNil) σ H Q) : tBM0 K T r (tVar i) σ H Q := by
  obtain ⟨O, sd, r0, sd', S, e, q⟩ := h
  obtain ⟨c0, e0, e⟩ := Option.bind_eq_some_iff.mp e
  split at e
  · rename_i hp0
    obtain ⟨⟨rs, s⟩, e1, e⟩ := Option.bind_eq_some_iff.mp e
    obtain ⟨ds, e2, e⟩ := Option.bind_eq_some_iff.mp e
    obtain ⟨c, e3, e⟩ := Option.bind_eq_some_iff.mp e
    obtain ⟨⟨out, c'⟩, e4, e⟩ := Option.bind_eq_some_iff.mp e
    cases e
    cases e1
    cases e2
    obtain ⟨b0, e0⟩ := owAt_of e0
    obtain ⟨b, e3⟩ := owAt_of e3
    obtain ⟨a, k1, k2, k3⟩ := S.ow i b c e3
    obtain ⟨a', m1, m2, m3⟩ := S.ow i b0 c0 e0
    rw [k1] at m1
    cases m1
    exact ⟨.ref a, k1, hp O H _ c0 S.own (.inr ⟨a, rfl, m2, m3⟩) hp0, hr O H a c c' [] [] _ Q S.own k2 k3 .nil e4 (mu_aft (A1 := Aft.refl S) S e3 k1 q)⟩
  · cases e
theorem ty_list : TyS K "list" isLst := by
  intro O H x dx hO h e
  cases dx with
  | lst ds =>
    obtain ⟨a, xs, rfl, h1, _⟩ := h.lst
    exact .inl ⟨rfl, xs, h1⟩
  | _ => cases e
theorem Ext.upd {a : Addr} {u : HO} (hO : Own O H) (oa : O a) (hu : mutO u = true) : Ext O H O (upd H a u) (fun x => x = a) ∧ Own O (upd H a u) := by
  obtain ⟨u0, hx, _⟩ := hO a oa
  refine ⟨⟨fun b v h n => by rw [upd_ne n]; exact h, fun b o _ => o, fun b o => .inl o, fun b h => ?_⟩, fun b o => ?_⟩
  · by_cases q : b = a
    · subst q; rw [upd_same] at h; cases h
    · rwa [upd_ne q] at h
  · by_cases q : b = a
    · subst q; exact ⟨u, upd_same, hu⟩
    · obtain ⟨v, k, m⟩ := hO b o
      exact ⟨v, by rw [upd_ne q]; exact k, m⟩
/-- a list's new content -/
theorem PostM.lst {a : Addr} {out : Res} {Q : VK} {xs : List V} (hO : Own O H) (oa : O a) (p : PostM K O H a (.lst ds) out Q) (h : IsAll K O H xs ds) {v : V} (hv : ∀ O' H', Ext O H O' H' (fun x => x = a) → RO K O' H' H v out) : Q v (upd H a (.lst xs)) := by
  obtain ⟨e, o⟩ := Ext.upd (u := .lst xs) hO oa rfl
  exact p v _ O o e oa ⟨xs, upd_same, h.ext e (fun b z => z ▸ oa) hO⟩ (hv _ _ e)
theorem PostM.dic {a : Addr} {out : Res} {Q : VK} {ks : List (Key × V)} {kvs : List (D × D)} (hO : Own O H) (oa : O a) (p : PostM K O H a (.dic kvs) out Q) (h : IsKV K O H ks kvs) {v : V} (hv : ∀ O' H', Ext O H O' H' (fun x => x = a) → RO K O' H' H v out) : Q v (upd H a (.dK ks)) := by
  obtain ⟨e, o⟩ := Ext.upd (u := .dK ks) hO oa rfl
  exact p v _ O o e oa ⟨ks, upd_same, h.ext e (fun b z => z ▸ oa) hO⟩ (hv _ _ e)
def muAppend : D → List D → Option (Res × D)
  | .lst xs, [x] => if xs.length < sizeLine then some (.im .non, .lst (xs ++ [x])) else none
  | _, _ => none
theorem mu_append : MuS K rAppend muAppend := by
  intro O H a c c' vs ds out Q hO oa ct hv e p
  unfold muAppend at e
  split at e
  · split at e
    · rename_i hz
      cases e
      obtain ⟨xs, k, t⟩ := ct
      cases hv with
      | cons h1 h2 =>
        cases h2
        exact ⟨a, xs, _, rfl, rfl, k, by rw [t.len]; exact hz, PostM.lst hO oa p (t.snoc h1) fun _ _ _ => .non⟩
    · cases e
  · cases e
def muPop : D → List D → Option (Res × D)
  | .lst xs, [] => (xs[xs.length - 1]?).map fun x => (.im x, .lst xs.dropLast)
  | _, _ => none
theorem mu_pop : MuS K rPop muPop := by
  intro O H a c c' vs ds out Q hO oa ct hv e p
  unfold muPop at e
  split at e
  · obtain ⟨x, e1, e2⟩ := Option.map_eq_some_iff.mp e
    cases e2
    obtain ⟨xs, k, t⟩ := ct
    cases hv
    rw [← t.len] at e1
    obtain ⟨y, h1, h2⟩ := t.get e1
    exact ⟨a, xs, y, rfl, rfl, k, h1, PostM.lst hO oa p t.dropLast fun _ _ e => h2.ext e (fun b z => z ▸ oa) hO⟩
  · cases e
def muReverse : D → List D → Option (Res × D)
  | .lst xs, [] => some (.im .non, .lst xs.reverse)
  | _, _ => none
theorem mu_reverse : MuS K rReverse muReverse := by
  intro O H a c c' vs ds out Q hO oa ct hv e p
  unfold muReverse at e
  split at e
  · cases e
    obtain ⟨xs, k, t⟩ := ct
    cases hv
    exact ⟨a, xs, rfl, rfl, k, PostM.lst hO oa p t.reverse fun _ _ _ => .non⟩
  · cases e

/-! ### dicts -/
def toKey : D → Option Key
  | .int i => some (.inl i)
  | .str x => some (.inr x)
  | _ => none
theorem toKey_of {d : D} {k : Key} (h : toKey d = some k) : d = kD k := by
  cases d <;> first | (cases h; done) | (cases h; rfl)
theorem Is.key {k : Key} (h : Is K O H v (kD k)) : v = kV k := by
  cases k <;> (cases h; rfl)
def lkD : List (D × D) → D → Option D
  | [], _ => none
  | (a, b) :: r, k => if a = k then some b else lkD r k
def putD (kvs : List (D × D)) (k d : D) : List (D × D) :=
  if (kvs.any fun kv => decide (kv.1 = k)) = true then kvs.map (fun kv => if kv.1 = k then (kv.1, d) else kv) else kvs ++ [(k, d)]
theorem IsKV.val {k : Key} : ∀ {ks : List (Key × V)} {kvs : List (D × D)}, IsKV K O H ks kvs → (valV ks k = none ∧ lkD kvs (kD k) = none) ∨ ∃ v d, valV ks k = some v ∧ lkD kvs (kD k) = some d ∧ Is K O H v d
  | _, _, .nil => .inl ⟨rfl, rfl⟩
  | _, _, @IsKV.cons _ _ _ k' v d ks kvs h t => by
    by_cases q : k' = k
    · subst q
      refine .inr ⟨v, d, valV_pos rfl, ?_, h⟩
      simp [lkD]
    · have q' : ¬ kD k' = kD k := fun z => q (kD_inj z)
      rw [valV_neg (p := (k', v)) q]
      unfold lkD
      rw [if_neg q']
      exact IsKV.val t
theorem IsKV.len : ∀ {ks : List (Key × V)} {kvs : List (D × D)}, IsKV K O H ks kvs → ks.length = kvs.length
  | _, _, .nil => rfl
  | _, _, .cons _ t => by rw [List.length_cons, List.length_cons, IsKV.len t]
theorem IsKV.any {k : Key} : ∀ {ks : List (Key × V)} {kvs : List (D × D)}, IsKV K O H ks kvs → (ks.any fun kv => decide (kv.1 = k)) = kvs.any fun kv => decide (kv.1 = kD k)
  | _, _, .nil => rfl
  | _, _, @IsKV.cons _ _ _ k' v d ks kvs h t => by
    rw [List.any_cons, List.any_cons, IsKV.any t]
    congr 1
    by_cases q : k' = k
    · simp [q]
    · have q' : ¬ kD k' = kD k := fun z => q (kD_inj z)
      simp [q, q']
theorem IsKV.map {k : Key} (hv : Is K O H v d) : ∀ {ks : List (Key × V)} {kvs : List (D × D)}, IsKV K O H ks kvs → IsKV K O H (ks.map fun kv => if kv.1 = k then (kv.1, v) else kv) (kvs.map fun kv => if kv.1 = kD k then (kv.1, d) else kv)
  | _, _, .nil => .nil
  | _, _, @IsKV.cons _ _ _ k' v' d' ks kvs h t => by
    rw [List.map_cons, List.map_cons]
    by_cases q : k' = k
    · subst q
      simp only [if_true]
      exact .cons hv (IsKV.map hv t)
    · have q' : ¬ kD k' = kD k := fun z => q (kD_inj z)
      simp only [if_neg q, if_neg q']
      exact .cons h (IsKV.map hv t)
theorem IsKV.snoc {k : Key} (hv : Is K O H v d) : ∀ {ks : List (Key × V)} {kvs : List (D × D)}, IsKV K O H ks kvs → IsKV K O H (ks ++ [(k, v)]) (kvs ++ [(kD k, d)])
  | _, _, .nil => .cons hv .nil
  | _, _, .cons h t => .cons h (IsKV.snoc hv t)
theorem IsKV.put {k : Key} {ks : List (Key × V)} {kvs : List (D × D)} (h : IsKV K O H ks kvs) (hv : Is K O H v d) : IsKV K O H (putK ks k v) (putD kvs (kD k) d) := by
  unfold putK putD
  rw [h.any]
  split
  · exact h.map hv
  · exact h.snoc hv
/-- {} -/
def eDic0 : EX := fun sd => some (.fr (.dic []), sd)
theorem rd_dic0 {Q : VK} (h : rd K eDic0 σ H Q) : tDNewK σ H Q := by
  obtain ⟨O, sd, r, sd', S, e, q⟩ := h
  cases e
  exact Post.dic S.own (fun v H' O' own ext ro => q v H' O' (S.grow own ext) (ro.rr S (fun _ z => z) ext)) .nil
/-- o[k] = v of an owned list or dict -/
def subSet : D → D → D → Option D
  | .lst xs, .int i, v => (ixN xs.length i).map fun j => .lst (xs.set j v)
  | .dic kvs, k, v => if (toKey k).isSome ∧ kvs.length < sizeLine then some (.dic (putD kvs k v)) else none
  | _, _, _ => none
def sSub (i : Nat) (fk fv : EX) : SX := fun sd => do
  let (rv, s1) ← fv sd
  match rv with
  | .im v => do
    let _ ← owAt s1 i
    let (rk, s2) ← fk s1
    match rk with
    | .im k => do
      let c ← owAt s2 i
      let c' ← subSet c k v
      some (.nx (setC s2 i c'))
    | _ => none
  | _ => none
theorem rd_sub {i : Nat} {fk fv : EX} {E : Ends} (h : rdS K (sSub i fk fv) E σ H) : tAsg (rd K fv) (gSub (tVar i) (rd K fk) rSetL) E σ H ∨ sDPut (tVar i) (rd K fk) (rd K fv) E σ H := by
  obtain ⟨O, sd, out, S, e, q⟩ := h
  obtain ⟨⟨rv, s1⟩, e1, e⟩ := Option.bind_eq_some_iff.mp e
  cases rv with
  | im v =>
    obtain ⟨c0, e0, e⟩ := Option.bind_eq_some_iff.mp e
    obtain ⟨⟨rk, s2⟩, e2, e⟩ := Option.bind_eq_some_iff.mp e
    cases rk with
    | im k =>
      obtain ⟨c, e3, e⟩ := Option.bind_eq_some_iff.mp e
      obtain ⟨c', e4, e⟩ := Option.bind_eq_some_iff.mp e
      cases e
      obtain ⟨b, e3⟩ := owAt_of e3
      obtain ⟨b0, e0⟩ := owAt_of e0
      have fin : ∀ {H1 H2 : Hp} {O1 O2 : Addr → Prop} {a : Addr} {u : HO}, Aft K O H sd σ O1 H1 s1 → Aft K O1 H1 s1 σ O2 H2 s2 → σ[i]? = some (some (.ref a)) → O2 a → mutO u = true → (∀ {O' : Addr → Prop} {H' : Hp}, H' a = some u → Ext O2 H2 O' H' (fun x => x = a) → Ct K O' H' a c') → E.nx σ (upd H2 a u) := by
        intro H1 H2 O1 O2 a u A1 A2 k1 k2 hu ct
        obtain ⟨ex, ow⟩ := Ext.upd (u := u) A2.sr.own k2 hu
        exact q σ _ O2 ((A1.trans S A2).trans S (A2.sr.mut e3 k1 ow ex k2 (ct upd_same ex))).s
      cases c with
      | lst xs =>
        cases k with
        | int j =>
          obtain ⟨n, e5, rfl⟩ := Option.map_eq_some_iff.mp e4
          refine .inl ⟨O, sd, _, s1, S, e1, fun y H1 O1 A1 R1 => ?_⟩
          obtain ⟨a0, k0, _⟩ := A1.sr.ow i b0 c0 e0
          refine ⟨.ref a0, k0, O1, s1, _, s2, A1.sr, e2, fun z H2 O2 A2 R2 => ?_⟩
          obtain ⟨a, k1, k2, ys, k3, t⟩ := A2.sr.ow i b _ e3
          rw [k0] at k1
          cases k1
          have hz : z = .int j := VV.int (.inl R2)
          subst hz
          have hy := A2.is A1.sr R1
          exact ⟨a0, ys, j, n, rfl, rfl, k3, by rw [t.len]; exact e5, fin A1 A2 k0 k2 rfl fun hu ex => ⟨_, hu, (t.set n hy).ext ex (fun b z => z ▸ k2) A2.sr.own⟩⟩
        | _ => cases e4
      | dic kvs =>
        replace e4 : (if (toKey k).isSome ∧ kvs.length < sizeLine then some (D.dic (putD kvs k v)) else none) = some c' := e4
        split at e4
        · rename_i hk
          cases e4
          obtain ⟨kk, hkk⟩ := Option.isSome_iff_exists.mp hk.1
          have hkd := toKey_of hkk
          subst hkd
          refine .inr ⟨O, sd, _, s1, S, e1, fun y H1 O1 A1 R1 => ?_⟩
          obtain ⟨a0, k0, _⟩ := A1.sr.ow i b0 c0 e0
          refine ⟨.ref a0, k0, O1, s1, _, s2, A1.sr, e2, fun z H2 O2 A2 R2 => ?_⟩
          obtain ⟨a, k1, k2, ks, k3, t⟩ := A2.sr.ow i b _ e3
          rw [k0] at k1
          cases k1
          have hz : z = kV kk := Is.key R2
          subst hz
          have hy := A2.is A1.sr R1
          exact ⟨a0, _, rfl, DPut.k k3 (by rw [t.len]; exact hk.2), fin A1 A2 k0 k2 rfl fun hu ex => ⟨_, hu, (t.put hy).ext ex (fun b z => z ▸ k2) A2.sr.own⟩⟩
        · cases e4
      | _ => cases e4
    | fr _ => cases e
    | bo _ => cases e
  | fr _ => cases e
  | bo _ => cases e

/-! ### reading dicts: d[k], k in d, d.get(k, x) -/
def ixA : D → D → Option Res
  | .dic kvs, k => if (toKey k).isSome then (lkD kvs k).map .im else none
  | a, b => ixD a b
theorem rd_ixA {fa fb : EX} {Q : VK} (h : rd K (op2 ixA fa fb) σ H Q) : tOp (rIx K) (rd K fa) (rd K fb) σ H Q ∨ tDGet (rd K fa) (rd K fb) σ H Q := by
  obtain ⟨O, sd, r0, sd', S, e, q⟩ := h
  obtain ⟨⟨ra, s1⟩, e1, e⟩ := Option.bind_eq_some_iff.mp e
  obtain ⟨⟨rb, s2⟩, e2, e⟩ := Option.bind_eq_some_iff.mp e
  obtain ⟨da, e3, e⟩ := Option.bind_eq_some_iff.mp e
  obtain ⟨db, e4, e⟩ := Option.bind_eq_some_iff.mp e
  obtain ⟨o, e5, e⟩ := Option.bind_eq_some_iff.mp e
  cases e
  by_cases hd : ∃ kvs, da = .dic kvs
  · obtain ⟨kvs, rfl⟩ := hd
    unfold ixA at e5
    dsimp only at e5
    split at e5
    · rename_i hk
      obtain ⟨d, e6, rfl⟩ := Option.map_eq_some_iff.mp e5
      obtain ⟨kk, hkk⟩ := Option.isSome_iff_exists.mp hk
      have hkd := toKey_of hkk
      subst hkd
      refine .inr ⟨O, sd, ra, s1, S, e1, fun x H1 O1 A1 R1 => ⟨O1, s1, rb, _, A1.sr, e2, fun y H2 O2 A2 R2 => ?_⟩⟩
      obtain ⟨a, ks, rfl, h1, t1⟩ := ((R1.aft A1.sr A2).vv A2.sr e3).dic
      have hy : y = kV kk := by
        rcases R2.vv A2.sr e4 with z | ⟨_, _, _, c⟩
        · exact z.key
        · cases kk <;> exact c.elim
      subst hy
      rcases t1.val (k := kk) with ⟨_, z⟩ | ⟨v, d', m1, m2, m3⟩
      · rw [z] at e6; cases e6
      · rw [m2] at e6
        cases e6
        exact ⟨a, v, rfl, .inl ⟨ks, kk, h1, rfl, m1.symm⟩, q v H2 O2 (A1.trans S A2) m3⟩
    · cases e5
  · refine .inl (rd_op2 os_ix ⟨O, sd, r0, _, S, ?_, q⟩)
    unfold op2
    rw [e1]
    show (do
      let (rb, s2) ← fb s1
      let da ← ra.get s2
      let db ← rb.get s2
      let o ← ixD da db
      some (o, s2)) = _
    rw [e2]
    show (do
      let da ← ra.get sd'
      let db ← rb.get sd'
      let o ← ixD da db
      some (o, sd')) = _
    rw [e3, e4]
    show (do
      let o ← ixD da db
      some (o, sd')) = _
    have e6 : ixA da db = ixD da db := by
      cases da <;> first | rfl | exact absurd ⟨_, rfl⟩ hd
    rw [← e6, e5]
    rfl
def inA (neg : Bool) : D → D → Option Res
  | k, .dic kvs => if (toKey k).isSome then some (.im (.bl (if neg then !(lkD kvs k).isSome else (lkD kvs k).isSome))) else none
  | a, b => isInD neg a b
theorem rd_inA {neg : Bool} {fa fb : EX} {Q : VK} (h : rd K (op2 (inA neg) fa fb) σ H Q) : tOp (if neg then rNotInQ K else rInQ K) (rd K fa) (rd K fb) σ H Q ∨ (if neg then tDNotIn (rd K fa) (rd K fb) else tDIn (rd K fa) (rd K fb)) σ H Q := by
  obtain ⟨O, sd, r0, sd', S, e, q⟩ := h
  obtain ⟨⟨ra, s1⟩, e1, e⟩ := Option.bind_eq_some_iff.mp e
  obtain ⟨⟨rb, s2⟩, e2, e⟩ := Option.bind_eq_some_iff.mp e
  obtain ⟨da, e3, e⟩ := Option.bind_eq_some_iff.mp e
  obtain ⟨db, e4, e⟩ := Option.bind_eq_some_iff.mp e
  obtain ⟨o, e5, e⟩ := Option.bind_eq_some_iff.mp e
  cases e
  by_cases hd : ∃ kvs, db = .dic kvs
  · obtain ⟨kvs, rfl⟩ := hd
    unfold inA at e5
    dsimp only at e5
    split at e5
    · rename_i hk
      cases e5
      obtain ⟨kk, hkk⟩ := Option.isSome_iff_exists.mp hk
      have hkd := toKey_of hkk
      subst hkd
      have core : ∀ {x y : V} {H1 H2 : Hp} {O1 O2 : Addr → Prop}, Aft K O H sd σ O1 H1 s1 → RR K O1 H1 H σ s1 x ra → Aft K O1 H1 s1 σ O2 H2 sd' → RR K O2 H2 H1 σ sd' y rb → ∃ a o, y = .ref a ∧ DGet H2 a x o ∧ o.isSome = (lkD kvs (kD kk)).isSome ∧ ∀ b, b = (if neg then !(lkD kvs (kD kk)).isSome else (lkD kvs (kD kk)).isSome) → Q (.bl b) H2 := by
        intro x y H1 H2 O1 O2 A1 R1 A2 R2
        obtain ⟨a, ks, rfl, h1, t1⟩ := (R2.vv A2.sr e4).dic
        have hy : x = kV kk := by
          rcases (R1.aft A1.sr A2).vv A2.sr e3 with z | ⟨_, _, _, c⟩
          · exact z.key
          · cases kk <;> exact c.elim
        subst hy
        refine ⟨a, valV ks kk, rfl, .inl ⟨ks, kk, h1, rfl, rfl⟩, ?_, fun b hb => ?_⟩
        · rcases t1.val (k := kk) with ⟨z1, z2⟩ | ⟨v, d', m1, m2, m3⟩
          · rw [z1, z2]; rfl
          · rw [m1, m2]; rfl
        · subst hb
          exact q _ H2 O2 (A1.trans S A2) (.bl _)
      refine .inr ?_
      cases neg with
      | true =>
        refine ⟨O, sd, ra, s1, S, e1, fun x H1 O1 A1 R1 => ⟨O1, s1, rb, _, A1.sr, e2, fun y H2 O2 A2 R2 => ?_⟩⟩
        obtain ⟨a, o, k1, k2, k3, k4⟩ := core A1 R1 A2 R2
        exact ⟨a, o, k1, k2, k4 _ (by rw [k3]; rfl)⟩
      | false =>
        refine ⟨O, sd, ra, s1, S, e1, fun x H1 O1 A1 R1 => ⟨O1, s1, rb, _, A1.sr, e2, fun y H2 O2 A2 R2 => ?_⟩⟩
        obtain ⟨a, o, k1, k2, k3, k4⟩ := core A1 R1 A2 R2
        exact ⟨a, o, k1, k2, k4 _ (by rw [k3]; rfl)⟩
    · cases e5
  · have hr : OpS K (if neg then rNotInQ K else rInQ K) (isInD neg) := by
      cases neg
      · exact os_in
      · exact os_notin
    refine .inl (rd_op2 hr ⟨O, sd, r0, _, S, ?_, q⟩)
    unfold op2
    rw [e1]
    show (do
      let (rb, s2) ← fb s1
      let da ← ra.get s2
      let db ← rb.get s2
      let o ← isInD neg da db
      some (o, s2)) = _
    rw [e2]
    show (do
      let da ← ra.get sd'
      let db ← rb.get sd'
      let o ← isInD neg da db
      some (o, sd')) = _
    rw [e3, e4]
    show (do
      let o ← isInD neg da db
      some (o, sd')) = _
    have e6 : inA neg da db = isInD neg da db := by
      cases db <;> first | rfl | exact absurd ⟨_, rfl⟩ hd
    rw [← e6, e5]
    rfl
/-- d.get(k, x) -/
def eGet (fd fk fx : EX) : EX := fun sd => do
  let (rd_, s1) ← fd sd
  match ← rd_.get s1 with
  | .dic _ => do
    let (rk, s2) ← fk s1
    let (rx, s3) ← fx s2
    match ← rd_.get s3 with
    | .dic kvs => do
      let k ← rk.get s3
      match rx with
      | .im x => if (toKey k).isSome then some (.im ((lkD kvs k).getD x), s3) else none
      | _ => none
    | _ => none
  | _ => none
theorem rd_get {fd fk fx : EX} {Q : VK} (h : rd K (eGet fd fk fx) σ H Q) : tDGet2 (rd K fd) (rd K fk) (rd K fx) σ H Q := by
  obtain ⟨O, sd, r0, sd', S, e, q⟩ := h
  obtain ⟨⟨r1, s1⟩, e1, e⟩ := Option.bind_eq_some_iff.mp e
  obtain ⟨d0, e2, e⟩ := Option.bind_eq_some_iff.mp e
  cases d0 with
  | dic kvs0 =>
    obtain ⟨⟨rk, s2⟩, e3, e⟩ := Option.bind_eq_some_iff.mp e
    obtain ⟨⟨rx, s3⟩, e4, e⟩ := Option.bind_eq_some_iff.mp e
    obtain ⟨d1, e5, e⟩ := Option.bind_eq_some_iff.mp e
    cases d1 with
    | dic kvs =>
      obtain ⟨k, e6, e⟩ := Option.bind_eq_some_iff.mp e
      cases rx with
      | im x =>
        dsimp only at e
        split at e
        · rename_i hk
          cases e
          obtain ⟨kk, hkk⟩ := Option.isSome_iff_exists.mp hk
          have hkd := toKey_of hkk
          subst hkd
          refine ⟨O, sd, r1, s1, S, e1, fun v H1 O1 A1 R1 => ?_⟩
          obtain ⟨a, ks, rfl, h1, t1⟩ := (R1.vv A1.sr e2).dic
          refine ⟨a, rfl, .inl ⟨ks, h1⟩, O1, s1, rk, s2, A1.sr, e3, fun y H2 O2 A2 R2 => ⟨O2, s2, _, _, A2.sr, e4, fun z H3 O3 A3 R3 => ?_⟩⟩
          obtain ⟨a', ks', ha, h3, t3⟩ := (((R1.aft A1.sr A2).aft A2.sr A3).vv A3.sr e5).dic
          cases ha
          have hy : y = kV kk := by
            rcases (R2.aft A2.sr A3).vv A3.sr e6 with z | ⟨_, _, _, c⟩
            · exact z.key
            · cases kk <;> exact c.elim
          subst hy
          have A := (A1.trans S A2).trans S A3
          refine ⟨valV ks' kk, .inl ⟨ks', kk, h3, rfl, rfl⟩, ?_⟩
          rcases t3.val (k := kk) with ⟨z1, z2⟩ | ⟨v, d', m1, m2, m3⟩
          · rw [z1]
            refine q _ H3 O3 A ?_
            rw [z2]
            exact R3
          · rw [m1]
            refine q _ H3 O3 A ?_
            rw [m2]
            exact m3
        · cases e
      | fr _ => cases e
      | bo _ => cases e
    | _ => cases e
  | _ => cases e
end
theorem PE_or {X : Cx} {e : Expr} {t u : TE} (h : PE X e t) (k : PE X e u) : PE X e (fun σ H Q => t σ H Q ∨ u σ H Q) := ⟨fun pins s σ H Q I q => q.elim (h.run pins s σ H Q I) (k.run pins s σ H Q I)⟩
theorem PT_or {X : Cx} {e : Expr} {t u : TT} (h : PT X e t) (k : PT X e u) : PT X e (fun σ H Q => t σ H Q ∨ u σ H Q) := ⟨fun pins s σ H Q I q => q.elim (h.run pins s σ H Q I) (k.run pins s σ H Q I)⟩
theorem PS_or {X : Cx} {e : Stmt} {t u : TS} (h : PS X e t) (k : PS X e u) : PS X e (fun D σ H => t D σ H ∨ u D σ H) := ⟨fun pins s σ H D I q => q.elim (h.run pins s σ H D I) (k.run pins s σ H D I)⟩
section
variable {X : Cx} {o k v e : Expr} {fo fk fv f : EX} {pos pos' apos : Pos}
theorem ge_ixA (ho : GE X o fo) (hk : GE X k fk) (hu : X.A.units + 1 < cLine) (hs : PlainIx k := by exact fun _ _ => rfl) (hs2 : NoSl k := by exact fun _ _ => rfl) : GE X (.Subscript o k pos) (op2 ixA fo fk) :=
  (PE_or (pe_ix ix_seq ho hk hs) (pe_dget hu ho hk hs2)).imp fun _ _ _ h => rd_ixA h
theorem ge_in (hu : X.A.units + 65 < cLine) (hk : GE X k fk) (ho : GE X o fo) (hm : behindInMarks .In o = false := by rfl) : GE X (.Compare k [.In] [o] pos) (op2 (inA false) fk fo) :=
  (PE_or (pe_cmpR (or_in hu) hk ho hm) (pe_cmp (pc_din (by omega) hk ho) hm)).imp fun _ _ _ h => rd_inA (neg := false) h
theorem ge_notin (hu : X.A.units + 65 < cLine) (hk : GE X k fk) (ho : GE X o fo) (hm : behindInMarks .NotIn o = false := by rfl) : GE X (.Compare k [.NotIn] [o] pos) (op2 (inA true) fk fo) :=
  (PE_or (pe_cmpR (or_notin hu) hk ho hm) (pe_cmp (pc_dnotin (by omega) hk ho) hm)).imp fun _ _ _ h => rd_inA (neg := true) h
theorem gt_in (hu : X.A.units + 65 < cLine) (hk : GE X k fk) (ho : GE X o fo) (hm : behindInMarks .In o = false := by rfl) : GT X (.Compare k [.In] [o] pos) (tst (op2 (inA false) fk fo)) :=
  (PT_or (pt_cmpR (or_in hu) hk ho hm) (pt_cmp (pc_din (by omega) hk ho) hm)).imp fun σ H Q h => rd_tst (t := fun σ H Q => tOp (rInQ X.K) (rd X.K fk) (rd X.K fo) σ H Q ∨ tDIn (rd X.K fk) (rd X.K fo) σ H Q) (fun h => rd_inA (neg := false) h) h
theorem gt_notin (hu : X.A.units + 65 < cLine) (hk : GE X k fk) (ho : GE X o fo) (hm : behindInMarks .NotIn o = false := by rfl) : GT X (.Compare k [.NotIn] [o] pos) (tst (op2 (inA true) fk fo)) :=
  (PT_or (pt_cmpR (or_notin hu) hk ho hm) (pt_cmp (pc_dnotin (by omega) hk ho) hm)).imp fun σ H Q h => rd_tst (t := fun σ H Q => tOp (rNotInQ X.K) (rd X.K fk) (rd X.K fo) σ H Q ∨ tDNotIn (rd X.K fk) (rd X.K fo) σ H Q) (fun h => rd_inA (neg := true) h) h
theorem ge_get {x : Expr} {fx : EX} (hu : X.A.units + 1 < cLine) (ho : GE X o fo) (hk : GE X k fk) (hx : GE X x fx) (m : M2 X o "get" apos k x pos) : GE X (.Call (.Attribute o "get" apos) [k, x] [] pos) (eGet fo fk fx) := (pe_dget2 hu ho hk hx m).imp fun _ _ _ h => rd_get h
theorem ge_dic0 : GE X (.Dict [] [] pos) eDic0 := pe_dnewK.imp fun _ _ _ h => rd_dic0 h
theorem gs_sub (i : Nat) {x : Str} {xp : Pos} (hu : X.A.units + 1 < cLine) (hk : GE X k fk) (hv : GE X v fv) (hN : X.N[i]? = some x := by rfl) (hx : Vis X.env.scope x := by first | exact Or.inl rfl | exact Or.inr (Or.inl rfl) | exact Or.inr (Or.inr rfl))
    (hd : (x == ("__debug__" : Str)) = false := by decide) (hcd : (x == ("__classdict__" : Str)) = false := by decide)
    (ha : ∀ u, assign (.Subscript (.Name x xp) k pos') X.env u = (do
      let ov ← holding [u] (eval (.Name x xp) X.env)
      let iv ← holding [u, ov] (eval k X.env)
      standAt pos'
      holding [u, ov, iv] (setItem ov iv u)
      release [u, ov, iv] []) := by intro _; rfl)
    (hs : swapsWithSole [.Subscript (.Name x xp) k pos'] v pos.line X.env = pure false := by rfl) (hw : swappedStores [.Subscript (.Name x xp) k pos'] v X.env = pure none := by rfl)
    (h1 : (assignEach [.Subscript (.Name x xp) k pos'] X.env).map (·.2) = [assign (.Subscript (.Name x xp) k pos') X.env] := by rfl)
    (hs2 : swapsWith v (some (.Subscript (.Name x xp) k pos')) pos.line X.env = pure false := by rfl) : GS X (.Assign [.Subscript (.Name x xp) k pos'] v pos) (sSub i fk fv) :=
  (PS_or (ps_asg hv (pg_sub (pe_var hN hx hd hcd) hk set_list ha) hs hw h1) (ps_dput hu (pe_var hN hx hd hcd) hk hv hs2)).imp fun _ _ _ h => rd_sub h
theorem ge_mu {T id : String} {name : Str} {p : D → Bool} {r : V → List V → Hp → VK → Prop} {g : D → List D → Option (Res × D)} {es : List Expr} {fa : AX} (i : Nat) {x : Str} {xp cpos : Pos} (pa : PlainAttrs T) (slot : Slot T name id) (hty : typeOf (.builtin id) = pure (.type "method_descriptor"))
    (hm : MtR X id r) (hp : TyS X.K T p) (hr : MuS X.K r g) (ha : GA X (e :: es) fa) (hN : X.N[i]? = some x := by rfl) (hx : Vis X.env.scope x := by first | exact Or.inl rfl | exact Or.inr (Or.inl rfl) | exact Or.inr (Or.inr rfl))
    (hd : (x == ("__debug__" : Str)) = false := by decide) (hcd : (x == ("__classdict__" : Str)) = false := by decide)
    (hbase : attributeBase (.Name x xp) name X.env (eval (.Name x xp) X.env) = eval (.Name x xp) X.env := by rfl)
    (hfew : ((backTo cpos (starEach (e :: es) X.env)).all (fun x => !x.1) && (backToKw cpos (keywordEach [] X.env)).all (fun x => x.1.isSome)
      && decide ((e :: es).length + ([] : List Keyword).length + (if ([] : List Keyword).isEmpty then 0 else 1) < 30)) = true := by rfl)
    (hline : (apos.endLine == cpos.line) = true := by rfl) (hs : starEach (e :: es) X.env = (false, eval e X.env) :: starEach es X.env := by rfl) (hplain : (backTo cpos (starEach es X.env)).any (·.1) = false := by rfl) :
    GE X (.Call (.Attribute (.Name x xp) name apos) (e :: es) [] cpos) (eMu p g i fa) := (pe_bm pa slot hty hm (pe_var hN hx hd hcd) ha hbase hfew hline hs hplain).imp fun _ _ _ h => rd_mu hp hr h
theorem ge_mu0 {T id : String} {name : Str} {p : D → Bool} {r : V → List V → Hp → VK → Prop} {g : D → List D → Option (Res × D)} (i : Nat) {x : Str} {xp cpos : Pos} (pa : PlainAttrs T) (slot : Slot T name id) (hty : typeOf (.builtin id) = pure (.type "method_descriptor"))
    (hm : MtR X id r) (hp : TyS X.K T p) (hr : MuS X.K r g) (hN : X.N[i]? = some x := by rfl) (hx : Vis X.env.scope x := by first | exact Or.inl rfl | exact Or.inr (Or.inl rfl) | exact Or.inr (Or.inr rfl))
    (hd : (x == ("__debug__" : Str)) = false := by decide) (hcd : (x == ("__classdict__" : Str)) = false := by decide)
    (hbase : attributeBase (.Name x xp) name X.env (eval (.Name x xp) X.env) = eval (.Name x xp) X.env := by rfl) (hline : (apos.endLine == cpos.line) = true := by rfl) :
    GE X (.Call (.Attribute (.Name x xp) name apos) [] [] cpos) (eMu p g i aNil) := (pe_bm0 pa slot hty hm (pe_var hN hx hd hcd) hbase hline).imp fun _ _ _ h => rd_mu0 hp hr h
theorem ge_call {CX : CXT} {E : XK} {k : Nat} {fA : Addr} {fd : FuncData} {ps : List Str} {F : Fn} {x : Str} {p : Pos} {es : List Expr} {fa : AX} (Gf : FnOk X.prog X.w X.K X.mg X.base CX k fA fd ps (spG X.K F)) (hr : Room k X.A) (hg : Gl X x) (hm : X.mg x = some (.ref fA)) (hk : PySem.W.keepIn X.K (.ref fA) = true) (hb : Binds X.K fd ps []) (hx : Passes CX X E)
    (ha : GA X (e :: es) fa) (hdb : (x == ("__debug__" : Str)) = false := by decide) (he : starEach (e :: es) X.env = (false, eval e X.env) :: starEach es X.env := by rfl) (hpl : (backTo pos (starEach es X.env)).any (·.1) = false := by rfl) :
    GE X (.Call (.Name x p) (e :: es) [] pos) (eCall F fa) := (pe_call Gf hr hg hm hk hb .nil hx ha hdb he hpl).imp fun _ _ _ h => rd_call h
end
end G

set_option Elab.async false
set_option linter.all false
set_option maxRecDepth 100000
set_option maxHeartbeats 4000000
/-! G9: built-ins by data. -/
namespace G
open PySem PySem.Spec PyProof.Rows L2

/-! ### order of texts -/
def ltS (a b : Str) : Bool := ltCps a.cps.toList b.cps.toList
theorem ltS_iff {a b : Str} : ltS a b = true ↔ a.cps.toList < b.cps.toList := by
  unfold ltS
  rw [ltCps_eq]
  exact decide_eq_true_iff
theorem ltS_false {a b : Str} : ltS a b = false ↔ ¬ a.cps.toList < b.cps.toList := by
  rw [← ltS_iff]
  cases ltS a b <;> simp
theorem str_ext {a b : Str} (h : a.cps.toList = b.cps.toList) : a = b := by
  obtain ⟨⟨x⟩⟩ := a
  obtain ⟨⟨y⟩⟩ := b
  simp only at h
  rw [h]
theorem ltS_antisymm {a b : Str} (h1 : ltS b a = false) (h2 : ltS a b = false) : a = b := by
  rw [ltS_false] at h1 h2
  exact str_ext (List.le_antisymm (List.not_lt.mp h1) (List.not_lt.mp h2))
theorem leS_trans {a b c : Str} (h1 : ltS b a = false) (h2 : ltS c b = false) : ltS c a = false := by
  rw [ltS_false] at *
  exact List.not_lt.mpr (List.le_trans (List.not_lt.mp h1) (List.not_lt.mp h2))
theorem leS_total (a b : Str) : ltS b a = false ∨ ltS a b = false := by
  rw [ltS_false, ltS_false]
  rcases List.le_total a.cps.toList b.cps.toList with h | h
  · exact .inl (List.not_lt.mpr h)
  · exact .inr (List.not_lt.mpr h)
abbrev SortedS (l : List Str) : Prop := l.Pairwise fun a b => ltS b a = false
def insS (x : Str) : List Str → List Str
  | [] => [x]
  | y :: r => if ltS y x = true then y :: insS x r else x :: y :: r
def sortS : List Str → List Str
  | [] => []
  | x :: r => insS x (sortS r)
theorem insS_perm (x : Str) : ∀ l, (insS x l).Perm (x :: l)
  | [] => List.Perm.refl _
  | y :: r => by
    unfold insS
    split
    · exact ((insS_perm x r).cons y).trans (List.Perm.swap x y r)
    · exact List.Perm.refl _
theorem sortS_perm : ∀ l, (sortS l).Perm l
  | [] => List.Perm.refl _
  | x :: r => (insS_perm x _).trans ((sortS_perm r).cons x)
theorem insS_sorted (x : Str) : ∀ {l}, SortedS l → SortedS (insS x l)
  | [], _ => List.pairwise_singleton _ _
  | y :: r, h => by
    have h' := List.pairwise_cons.mp h
    unfold insS
    split
    · rename_i hyx
      have q : ltS x y = false := by
        rcases leS_total x y with z | z
        · rw [hyx] at z; cases z
        · exact z
      refine List.pairwise_cons.mpr ⟨fun z hz => ?_, insS_sorted x h'.2⟩
      rcases List.mem_cons.mp ((insS_perm x r).mem_iff.mp hz) with rfl | hz
      · exact q
      · exact h'.1 z hz
    · rename_i hyx
      have q : ltS y x = false := by cases e : ltS y x <;> simp_all
      refine List.pairwise_cons.mpr ⟨fun z hz => ?_, h⟩
      rcases List.mem_cons.mp hz with rfl | hz
      · exact q
      · exact leS_trans q (h'.1 z hz)
theorem sortS_sorted : ∀ l, SortedS (sortS l)
  | [] => List.Pairwise.nil
  | x :: r => insS_sorted x (sortS_sorted r)
theorem sortS_unique {l m : List Str} (h : m.Perm l) (s : SortedS m) : m = sortS l :=
  List.Perm.eq_of_pairwise (fun a b _ _ h1 h2 => ltS_antisymm h1 h2) s (sortS_sorted l) (h.trans (sortS_perm l).symm)
theorem sortedS_pw : ∀ {l : List Str}, sortedS l = true → SortedS l
  | [], _ => List.Pairwise.nil
  | x :: r, h => go x r h
where go : ∀ (p : Str) (l : List Str), risingS p l = true → SortedS (p :: l)
  | p, [], _ => List.pairwise_singleton _ _
  | p, x :: r, h => by
    unfold risingS at h
    rw [Bool.and_eq_true] at h
    have h1 : ltS x p = false := by
      have := h.1
      unfold ltS
      cases e : ltCps x.cps.toList p.cps.toList
      · rfl
      · rw [e] at this; cases this
    have ih := go x r h.2
    refine List.pairwise_cons.mpr ⟨fun z hz => ?_, ih⟩
    rcases List.mem_cons.mp hz with rfl | hz
    · exact h1
    · exact leS_trans h1 ((List.pairwise_cons.mp ih).1 z hz)

section
variable {X : Cx} {K : PySem.W.Frag} {O O' O1 O2 : Addr → Prop} {H H' H0 H1 H2 : Hp} {v : V} {d : D} {vs : List V} {ds : List D} {sd sd' s s' s1 s2 : Slots} {σ σ' σ1 σ2 : L2.St}
/-- a list of texts -/
def strsOf : List D → Option (List Str)
  | [] => some []
  | .str x :: r => (strsOf r).map (x :: ·)
  | _ => none
theorem strsOf_map (xs : List Str) : strsOf (xs.map D.str) = some xs := by
  induction xs with
  | nil => rfl
  | cons x r ih => simp [strsOf, ih]
theorem IsAll.strs : ∀ {vs : List V} {ds : List D} {xs : List Str}, IsAll K O H vs ds → strsOf ds = some xs → vs = xs.map V.str
  | _, _, _, .nil, e => by cases e; rfl
  | _, d :: _, _, .cons h t, e => by
    cases d with
    | str x =>
      obtain ⟨ys, e1, rfl⟩ := Option.map_eq_some_iff.mp e
      cases h
      rw [IsAll.strs t e1]
      rfl
    | _ => cases e
theorem isAll_strs (xs : List Str) : IsAll K O H (xs.map V.str) (xs.map D.str) := by
  induction xs with
  | nil => exact .nil
  | cons x r ih => exact .cons (.str x) ih
/-! calls -/
def gLen : List D → Option Res
  | [.str x] => if x.length ≤ sizeLine then some (.im (.int x.length)) else none
  | [.lst xs] => some (.im (.int xs.length))
  | [.tup xs] => some (.im (.int xs.length))
  | _ => none
theorem cs_len : CallS K (fun xs H Q => ∃ x n, xs = [x] ∧ LenV K x H n ∧ Q (.int n) H) gLen := by
  intro O H vs ds out Q hO hv e p
  unfold gLen at e
  split at e
  · split at e
    · rename_i hz
      cases e
      cases hv with
      | cons h t =>
        cases t
        rw [h.str]
        exact ⟨_, _, rfl, ⟨hz, rfl⟩, p.now hO (.int _)⟩
    · cases e
  · cases e
    cases hv with
    | cons h t =>
      cases t
      obtain ⟨a, xs, rfl, h1, t1⟩ := h.lst
      refine ⟨_, xs.length, rfl, .inl ⟨xs, h1, rfl⟩, ?_⟩
      rw [t1.len]
      exact p.now hO (.int _)
  · cases e
    cases hv with
    | cons h t =>
      cases t
      obtain ⟨a, xs, rfl, h1, t1⟩ := h.tup
      refine ⟨_, xs.length, rfl, .inr ⟨xs, h1, rfl⟩, ?_⟩
      rw [t1.len]
      exact p.now hO (.int _)
  · cases e
def gInt : List D → Option Res
  | [.int i] => some (.im (.int i))
  | [.bl k] => some (.im (.int (if k then 1 else 0)))
  | _ => none
theorem cs_int : CallS K (fun xs H Q => (∃ i, xs = [.int i] ∧ Q (.int i) H) ∨ ∃ k, xs = [.bl k] ∧ Q (.int (if k then 1 else 0)) H) gInt := by
  intro O H vs ds out Q hO hv e p
  unfold gInt at e
  split at e
  · cases e
    cases hv with
    | cons h t =>
      cases t
      rw [h.int]
      exact .inl ⟨_, rfl, p.now hO (.int _)⟩
  · cases e
    cases hv with
    | cons h t =>
      cases t
      rw [h.bl]
      exact .inr ⟨_, rfl, p.now hO (.int _)⟩
  · cases e
def gStr : List D → Option Res
  | [.str x] => some (.im (.str x))
  | _ => none
theorem cs_str : CallS K (fun xs H Q => ∃ a, xs = [.str a] ∧ Q (.str a) H) gStr := by
  intro O H vs ds out Q hO hv e p
  unfold gStr at e
  split at e
  · cases e
    cases hv with
    | cons h t =>
      cases t
      rw [h.str]
      exact ⟨_, rfl, p.now hO (.str _)⟩
  · cases e
def gList : List D → Option Res
  | [.lst xs] => some (.fr (.lst xs))
  | [.tup xs] => some (.fr (.lst xs))
  | _ => none
theorem cs_list : CallS K (fun xs H Q => ∃ p ys, xs = [.ref p] ∧ (SqL K H p ys ∨ SqT K H p ys) ∧ ∀ l, H l = none → Q (.ref l) (upd H l (.lst ys))) gList := by
  intro O H vs ds out Q hO hv e p
  unfold gList at e
  split at e
  · cases e
    cases hv with
    | cons h t =>
      cases t
      obtain ⟨a, xs, rfl, h1, t1⟩ := h.lst
      exact ⟨a, xs, rfl, .inl h1, Post.lst hO p t1⟩
  · cases e
    cases hv with
    | cons h t =>
      cases t
      obtain ⟨a, xs, rfl, h1, t1⟩ := h.tup
      exact ⟨a, xs, rfl, .inr h1, Post.lst hO p t1⟩
  · cases e
def gTuple : List D → Option Res
  | [.lst xs] => some (.im (.tup xs))
  | [.tup xs] => some (.im (.tup xs))
  | _ => none
theorem cs_tuple : CallS K (fun xs H Q => ∃ p ys, xs = [.ref p] ∧ ((SqL K H p ys ∧ ∀ l, H l = none → Q (.ref l) (upd H l (.tup ys))) ∨ (SqT K H p ys ∧ Q (.ref p) H))) gTuple := by
  intro O H vs ds out Q hO hv e p
  unfold gTuple at e
  split at e
  · cases e
    cases hv with
    | cons h t =>
      cases t
      obtain ⟨a, xs, rfl, h1, t1⟩ := h.lst
      exact ⟨a, xs, rfl, .inl ⟨h1, Post.tup hO p t1⟩⟩
  · cases e
    cases hv with
    | cons h t =>
      cases t
      obtain ⟨a, xs, rfl, h1, t1⟩ := h.tup
      exact ⟨a, xs, rfl, .inr ⟨h1, p.now hO (.tup h1 t1)⟩⟩
  · cases e
/-- sorted of a list of texts -/
def gSortS : List D → Option Res
  | [.lst ds] => match strsOf ds with
    | some xs => if xs.length < 64 then some (.fr (.lst ((sortS xs).map D.str))) else none
    | none => none
  | _ => none
theorem cs_sortS : CallS K (rSortedS K) gSortS := by
  intro O H vs ds out Q hO hv e p
  unfold gSortS at e
  split at e
  · split at e
    · rename_i xs hx
      split at e
      · rename_i hz
        cases e
        cases hv with
        | cons h t =>
          cases t
          obtain ⟨a, ys, rfl, h1, t1⟩ := h.lst
          have hys := t1.strs hx
          subst hys
          refine ⟨a, xs, rfl, h1, hz, fun zs q hp hs hq => ?_⟩
          rw [sortS_unique hp (sortedS_pw hs)]
          exact Post.lst hO p (isAll_strs _) q hq
      · cases e
    · cases e
  · cases e
/-- sep.join(list or tuple of texts) -/
def eJoin (fs fl : EX) : EX := fun sd => do
  let (rs, s1) ← fs sd
  match ← rs.get s1 with
  | .str a => do
    let (rl, s2) ← fl s1
    match ← items (← rl.get s2) with
    | ds => do
      let ys ← strsOf ds
      if (ys.map (·.length)).sum + ys.length * a.length ≤ 16777216 then some (.im (.str (Str.join a ys)), s2) else none
  | _ => none
theorem rd_join {fs fl : EX} {Q : VK} (h : rd K (eJoin fs fl) σ H Q) : tM1 (fun x xs H Q => ∃ a p, ∃ ys : List Str, x = .str a ∧ xs = [.ref p] ∧ (SqL K H p (ys.map V.str) ∨ SqT K H p (ys.map V.str)) ∧
    (ys.map (·.length)).sum + ys.length * a.length ≤ 16777216 ∧ Q (.str (Txt.join a ys)) H) (rd K fs) (rd K fl) σ H Q := by
  obtain ⟨O, sd, r0, sd', S, e, q⟩ := h
  obtain ⟨⟨r1, s1⟩, e1, e⟩ := Option.bind_eq_some_iff.mp e
  obtain ⟨d1, e2, e⟩ := Option.bind_eq_some_iff.mp e
  cases d1 with
  | str a =>
    obtain ⟨⟨rl, s2⟩, e3, e⟩ := Option.bind_eq_some_iff.mp e
    obtain ⟨dl, e4, e⟩ := Option.bind_eq_some_iff.mp e
    obtain ⟨ds, e5, e⟩ := Option.bind_eq_some_iff.mp e
    obtain ⟨ys, e6, e⟩ := Option.bind_eq_some_iff.mp e
    split at e
    · rename_i hz
      cases e
      refine ⟨O, sd, r1, s1, S, e1, fun v H1 O1 A1 R1 => ?_⟩
      have hv := (R1.vv A1.sr e2).str
      subst hv
      refine ⟨⟨a, rfl⟩, O1, s1, rl, _, A1.sr, e3, fun y H2 O2 A2 R2 => ?_⟩
      have key : ∃ p, y = .ref p ∧ (SqL K H2 p (ys.map V.str) ∨ SqT K H2 p (ys.map V.str)) := by
        cases dl with
        | lst ds' =>
          cases e5
          obtain ⟨p, xs, rfl, h1, t1⟩ := (R2.vv A2.sr e4).lst
          rw [t1.strs e6] at h1
          exact ⟨p, rfl, .inl h1⟩
        | tup ds' =>
          cases e5
          obtain ⟨p, xs, rfl, h1, t1⟩ := (R2.vv A2.sr e4).tup
          rw [t1.strs e6] at h1
          exact ⟨p, rfl, .inr h1⟩
        | _ => cases e5
      obtain ⟨p, rfl, hp⟩ := key
      refine ⟨a, p, ys, rfl, rfl, hp, hz, ?_⟩
      rw [TL.join_eq]
      exact q _ H2 O2 (A1.trans S A2) (.str _)
    · cases e
  | _ => cases e

/-! ### isinstance -/
def tyN : D → String
  | .non => "NoneType"
  | .bl _ => "bool"
  | .int _ => "int"
  | .str _ => "str"
  | .lst _ => "list"
  | .tup _ => "tuple"
  | .dic _ => "dict"
theorem VV.ty (h : VV K O H v d) : TyX K H v (.type (tyN d)) := by
  cases d with
  | non => rw [h.non]; exact .base .non
  | bl b => rw [h.bl]; exact .base (.bl b)
  | int b => rw [h.int]; exact .base (.int b)
  | str b => rw [h.str]; exact .base (.str b)
  | lst b =>
    obtain ⟨a, xs, rfl, h1, _⟩ := h.lst
    rcases h1 with (h1 | ⟨o, h1⟩) | ⟨o, its, n, h1, h2, _⟩
    · exact .base (.lst h1)
    · exact .base (.frz h1)
    · exact .kList h1 h2
  | tup b =>
    obtain ⟨a, xs, rfl, h1, _⟩ := h.tup
    rcases h1 with (h1 | ⟨o, h1⟩) | ⟨o, its, n, h1, h2, _⟩
    · exact .base (.tup h1)
    · exact .fTuple h1
    · exact .kTuple h1 h2
  | dic b =>
    obtain ⟨a, xs, rfl, h1, _⟩ := h.dic
    rcases h1 with h1 | ⟨o, h1⟩
    · exact .base (.dK h1)
    · exact .fDict h1
def isI (t : String) (d : D) : Bool := tyN d == t || (t == "int" && tyN d == "bool")
def eIsi (t : String) (f : EX) : EX := fun sd => do
  let (r, s) ← f sd
  let d ← r.get s
  some (.im (.bl (isI t d)), s)
def KitT (t : String) : Prop := kitB "NoneType" t = some (isI t .non) ∧ kitB "bool" t = some (isI t (.bl true)) ∧ kitB "int" t = some (isI t (.int 0)) ∧ kitB "str" t = some (isI t (.str Str.empty)) ∧ kitB "list" t = some (isI t (.lst [])) ∧ kitB "tuple" t = some (isI t (.tup [])) ∧ kitB "dict" t = some (isI t (.dic []))
theorem KitT.at {t : String} (h : KitT t) (d : D) : kitB (tyN d) t = some (isI t d) := by
  cases d with
  | non => exact h.1
  | bl b => exact h.2.1
  | int b => exact h.2.2.1
  | str b => exact h.2.2.2.1
  | lst b => exact h.2.2.2.2.1
  | tup b => exact h.2.2.2.2.2.1
  | dic b => exact h.2.2.2.2.2.2
theorem rd_isi {t : String} {f : EX} {Q : VK} (ht : KitT t) (h : rd K (eIsi t f) σ H Q) : tCB (rIsi K) (tCons (rd K f) (tCons (tC (.ty t)) tNil)) σ H Q := by
  obtain ⟨O, sd, r0, sd', S, e, q⟩ := h
  obtain ⟨⟨r, s⟩, e1, e⟩ := Option.bind_eq_some_iff.mp e
  obtain ⟨d, e2, e⟩ := Option.bind_eq_some_iff.mp e
  cases e
  refine ⟨O, sd, r, _, S, e1, fun v H1 O1 A1 R1 => ?_⟩
  exact ⟨v, .ty t, _, _, _, rfl, .ty t, (R1.vv A1.sr e2).ty, kit_ty (ht.at d), q _ H1 O1 A1 (.bl _)⟩
end
theorem kit_tuple : KitT "tuple" := by unfold KitT; decide +kernel
theorem kit_str : KitT "str" := by unfold KitT; decide +kernel
theorem kit_int : KitT "int" := by unfold KitT; decide +kernel
theorem kit_list : KitT "list" := by unfold KitT; decide +kernel
theorem kit_bool : KitT "bool" := by unfold KitT; decide +kernel
section
variable {X : Cx} {e e2 : Expr} {f f2 : EX} {pos p p2 apos : Pos}
theorem ge_isi {t : String} {y : Str} (ht : KitT t) (he : GE X e f) (hg : Gl X "isinstance") (hm : X.mg "isinstance" = none) (hg2 : Gl X y) (hm2 : X.mg y = none) (hv2 : bootBuiltins y = some (.type t)) (hn : y ≠ "__name__" := by decide) (hd : (y == ("__debug__" : Str)) = false := by decide)
    (hs : starEach [e, .Name y p2] X.env = (false, eval e X.env) :: starEach [.Name y p2] X.env := by rfl) (hs2 : starEach [.Name y p2] X.env = (false, eval (.Name y p2) X.env) :: starEach [] X.env := by rfl) (hpl : (backTo pos (starEach [.Name y p2] X.env)).any (·.1) = false := by rfl) :
    GE X (.Call (.Name "isinstance" p) [e, .Name y p2] [] pos) (eIsi t f) :=
  (pe_callB call_isi hg hm (by decide +kernel) (pa_cons he (pa_cons (pe_bltn (v := .ty t) hg2 hm2 hv2 rfl hn hd) pa_nil hs2) hs) (by decide) (by decide) hs hpl).imp fun _ _ _ h => rd_isi ht h
theorem ge_join (ho : GE X e f) (he : GE X e2 f2) (hs : starEach [e2] X.env = [(false, eval e2 X.env)] := by rfl) (hbase : attributeBase e "join" X.env (eval e X.env) = eval e X.env := by rfl) (hline : (apos.endLine == pos.line) = true := by rfl) :
    GE X (.Call (.Attribute e "join" apos) [e2] [] pos) (eJoin f f2) := (pe_m1 PySem.F.slot_str_join PySem.F.type_str_join mt_join ho he hs hbase hline).imp fun _ _ _ h => rd_join h
end
end G

set_option Elab.async false
set_option linter.all false
set_option maxRecDepth 100000
set_option maxHeartbeats 4000000
/-! G10: slices, index, displays of dicts, comprehensions that make dicts, walks over a dict's keys. -/
namespace G
open PySem PySem.Spec PyProof.Rows L2

section
variable {X : Cx} {K : PySem.W.Frag} {O O' O1 O2 : Addr → Prop} {H H' H0 H1 H2 : Hp} {v : V} {d : D} {vs : List V} {ds : List D} {sd sd' s s' s1 s2 : Slots} {σ σ' σ1 σ2 : L2.St} {ws js : List Nat}
/-! ### slices -/
abbrev PX := Slots → Option (Option Int × Slots)
def rdO (K : PySem.W.Frag) (f : PX) : TO := fun σ H Q => ∃ O sd o sd', SR K O sd σ H ∧ f sd = some (o, sd') ∧ ∀ H' O', Aft K O H sd σ O' H' sd' → Q o H'
def pNo : PX := fun sd => some (none, sd)
def pSome (f : EX) : PX := fun sd => do
  let (r, s) ← f sd
  match r with
  | .im (.int i) => some (some i, s)
  | _ => none
theorem rd_pNo {Q : Option Int → Hp → Prop} (h : rdO K pNo σ H Q) : tNoPart σ H Q := by
  obtain ⟨O, sd, r, sd', S, e, q⟩ := h
  cases e
  exact q H O (Aft.refl S)
theorem rd_pSome {f : EX} {Q : Option Int → Hp → Prop} (h : rdO K (pSome f) σ H Q) : tPart (rd K f) σ H Q := by
  obtain ⟨O, sd, r, sd', S, e, q⟩ := h
  obtain ⟨⟨r1, s⟩, e1, e⟩ := Option.bind_eq_some_iff.mp e
  refine ⟨O, sd, r1, s, S, e1, fun v H1 O1 A1 R1 => ?_⟩
  cases r1 with
  | im d =>
    cases d with
    | int i =>
      cases e
      cases R1
      exact ⟨i, rfl, q H1 O1 A1⟩
    | _ => cases e
  | fr d => cases e
  | bo i => cases e
def cut {α : Type} (xs : List α) (lo hi : Option Int) : List α := (xs.drop (HT.sIx xs.length 0 lo)).take (HT.sIx xs.length xs.length hi - HT.sIx xs.length 0 lo)
theorem IsAll.cut {lo hi : Option Int} (h : IsAll K O H vs ds) : IsAll K O H (cutV vs lo hi) (cut ds lo hi) := by
  unfold cutV G.cut
  rw [h.len]
  exact (h.drop _).take _
def eSl (fe : EX) (fl fh : PX) : EX := fun sd => do
  let (r, s1) ← fe sd
  let (lo, s2) ← fl s1
  let (hi, s3) ← fh s2
  match ← r.get s3 with
  | .lst xs => some (.fr (.lst (cut xs lo hi)), s3)
  | .tup xs => some (.im (.tup (cut xs lo hi)), s3)
  | _ => none
theorem cut_whole {α : Type} {xs : List α} {lo hi : Option Int} (h : HT.sIx xs.length 0 lo = 0 ∧ HT.sIx xs.length xs.length hi = xs.length) : cut xs lo hi = xs := by
  unfold cut
  rw [h.1, h.2, List.drop_zero, Nat.sub_zero, List.take_length]
theorem rd_sl {fe : EX} {fl fh : PX} {Q : VK} (h : rd K (eSl fe fl fh) σ H Q) : tSl (fun x lo hi H Q => rSlL K x lo hi H Q ∨ rSlA K x lo hi H Q) (rd K fe) (rdO K fl) (rdO K fh) σ H Q := by
  obtain ⟨O, sd, r0, sd', S, e, q⟩ := h
  obtain ⟨⟨r, s1⟩, e1, e⟩ := Option.bind_eq_some_iff.mp e
  obtain ⟨⟨lo, s2⟩, e2, e⟩ := Option.bind_eq_some_iff.mp e
  obtain ⟨⟨hi, s3⟩, e3, e⟩ := Option.bind_eq_some_iff.mp e
  obtain ⟨d, e4, e⟩ := Option.bind_eq_some_iff.mp e
  refine ⟨O, sd, r, s1, S, e1, fun v H1 O1 A1 R1 => ⟨O1, s1, lo, s2, A1.sr, e2, fun H2 O2 A2 => ⟨O2, s2, hi, s3, A2.sr, e3, fun H3 O3 A3 => ?_⟩⟩⟩
  have A := (A1.trans S A2).trans S A3
  have hv := ((R1.aft A1.sr A2).aft A2.sr A3).vv A3.sr e4
  cases d with
  | lst xs =>
    cases e
    obtain ⟨a, ys, rfl, h1, t1⟩ := hv.lst
    exact .inl ⟨a, ys, rfl, h1, Post.lst A3.sr.own (fun v H' O' own ext ro => q v H' O' (A.trans S (A3.sr.grow own ext)) (ro.rr A3.sr (fun a z => A.trk a z) ext)) t1.cut⟩
  | tup xs =>
    cases e
    obtain ⟨a, ys, rfl, h1, t1⟩ := hv.tup
    refine .inr ⟨a, ys, rfl, h1, fun hw => ?_, fun hw => Post.tup A3.sr.own (fun v H' O' own ext ro => q v H' O' (A.trans S (A3.sr.grow own ext)) (ro.rr A3.sr (fun a z => A.trk a z) ext)) t1.cut⟩
    rw [t1.len] at hw
    refine q _ H3 O3 A ?_
    show Is K O3 H3 (.ref a) (.tup (cut xs lo hi))
    rw [cut_whole hw]
    exact .tup h1 t1
  | _ => cases e
/-! ### the place of an item -/
def idxD : List D → D → Option Nat
  | [], _ => none
  | y :: r, x => if y = x then some 0 else (idxD r x).map (· + 1)
theorem idxD_spec : ∀ {ds : List D} {x : D} {j : Nat}, idxD ds x = some j → ds[j]? = some x ∧ ∀ m z, m < j → ds[m]? = some z → z ≠ x
  | [], _, _, h => by cases h
  | y :: r, x, j, h => by
    unfold idxD at h
    split at h
    · rename_i q
      cases h
      exact ⟨by simp [q], fun m z hm => by omega⟩
    · rename_i q
      obtain ⟨j', e, rfl⟩ := Option.map_eq_some_iff.mp h
      obtain ⟨h1, h2⟩ := idxD_spec e
      refine ⟨by simpa using h1, fun m z hm hz => ?_⟩
      cases m with
      | zero => simp at hz; subst hz; exact q
      | succ m => exact h2 m z (by omega) (by simpa using hz)
def gIndex : D → List D → Option Res
  | .lst xs, [x] => if pl 60 x && pl 60 (.lst xs) then (idxD xs x).map (fun (j : Nat) => Res.im (D.int (j : Int))) else none
  | _, _ => none
theorem toPyL_get : ∀ {ds : List D} {j : Nat}, (toPyL ds)[j]? = (ds[j]?).map toPy
  | [], _ => by simp [toPyL]
  | y :: r, 0 => by simp [toPyL]
  | y :: r, j + 1 => by simpa [toPyL] using toPyL_get (ds := r) (j := j)
theorem ms_index : MtS K "list" (rIndexD K) gIndex := by
  intro O H x dx vs ds out Q hO hx hv e p
  unfold gIndex at e
  split at e
  · rename_i xs y
    split at e
    · rename_i hp
      rw [Bool.and_eq_true] at hp
      obtain ⟨j, e1, rfl⟩ := Option.map_eq_some_iff.mp e
      obtain ⟨h1, h2⟩ := idxD_spec e1
      cases hv with
      | cons hy t =>
        cases t
        obtain ⟨a, ys, ha, _, _⟩ := hx.lst
        subst ha
        have k1 := hx.dp hp.2
        rw [show toPy (.lst xs) = .list (toPyL xs) by simp only [toPy]] at k1
        have k2 := pl_shaped hp.2 (by omega)
        rw [show toPy (.lst xs) = .list (toPyL xs) by simp only [toPy]] at k2
        have pls : ∀ z ∈ xs, pl 60 z = true := fun z hz => pl_mono (show 59 ≤ 60 by omega) ((by simpa [pl] using hp.2 : ∀ z ∈ xs, pl 59 z = true) z hz)
        refine ⟨a, _, toPy y, toPyL xs, j, toPy y, rfl, rfl, k1, hy.dp hp.1, k2, pl_shaped hp.1 (by omega), by rw [toPyL_get, h1]; rfl, ?_, fun m z hm hz => ?_, p.now hO (.int _)⟩
        · rw [pl_eqv 60 y y hp.1 hp.1]
          exact decide_eq_true rfl
        · rw [toPyL_get] at hz
          obtain ⟨z', e3, rfl⟩ := Option.map_eq_some_iff.mp hz
          rw [pl_eqv 60 z' y (pls z' (List.mem_of_getElem? e3)) hp.1]
          exact decide_eq_false (h2 m z' hm e3)
    · cases e
  · cases e

/-! ### displays of dicts -/
def evPairs : List (EX × EX) → Slots → Option (List (D × D) × Slots)
  | [], s => some ([], s)
  | (fk, fv) :: r, s => do
    let (rk, s1) ← fk s
    let (rv, s2) ← fv s1
    match rk, rv with
    | .im k, .im v => do
      let (ps, s3) ← evPairs r s2
      some ((k, v) :: ps, s3)
    | _, _ => none
def mergeD (kvs more : List (D × D)) : List (D × D) := more.foldl (fun acc kv => putD acc kv.1 kv.2) kvs
def eDisp (fs : List (EX × EX)) : EX := fun sd => do
  let (ps, s) ← evPairs fs sd
  if (ps.all fun kv => (toKey kv.1).isSome) && decide (ps.length ≤ 15) then some (.fr (.dic (mergeD [] ps)), s) else none
inductive IsPs (K : PySem.W.Frag) (O : Addr → Prop) (H : Hp) : List (V × V) → List (D × D) → Prop
  | nil : IsPs K O H [] []
  | cons {x y : V} {k v : D} {ps : List (V × V)} {kvs : List (D × D)} : Is K O H x k → Is K O H y v → IsPs K O H ps kvs → IsPs K O H ((x, y) :: ps) ((k, v) :: kvs)
theorem rd_pairs : ∀ {fs : List (EX × EX)} {O : Addr → Prop} {H : Hp} {sd s : Slots} {ps : List (D × D)} {Q : List (V × V) → Hp → Prop}, SR K O sd σ H → evPairs fs sd = some (ps, s) → (∀ vs H' O', Aft K O H sd σ O' H' s → IsPs K O' H' vs ps → Q vs H') →
    tPairs (fs.map fun f => (rd K f.1, rd K f.2)) σ H Q
  | [], O, H, sd, s, ps, Q, S, e, q => by
    cases e
    exact q [] H O (Aft.refl S) .nil
  | (fk, fv) :: r, O, H, sd, s, ps, Q, S, e, q => by
    obtain ⟨⟨rk, s1⟩, e1, e⟩ := Option.bind_eq_some_iff.mp e
    obtain ⟨⟨rv, s2⟩, e2, e⟩ := Option.bind_eq_some_iff.mp e
    cases rk with
    | im k =>
      cases rv with
      | im v =>
        obtain ⟨⟨ps', s3⟩, e3, e⟩ := Option.bind_eq_some_iff.mp e
        cases e
        refine ⟨O, sd, _, s1, S, e1, fun x H1 O1 A1 R1 => ⟨O1, s1, _, s2, A1.sr, e2, fun y H2 O2 A2 R2 => rd_pairs A2.sr e3 fun vs H3 O3 A3 P3 => ?_⟩⟩
        exact q _ H3 O3 ((A1.trans S A2).trans S A3) (.cons (A3.is A2.sr (A2.is A1.sr R1)) (A3.is A2.sr R2) P3)
      | fr _ => cases e
      | bo _ => cases e
    | fr _ => cases e
    | bo _ => cases e
theorem IsPs.keys : ∀ {ps : List (V × V)} {kvs : List (D × D)}, IsPs K O H ps kvs → (kvs.all fun kv => (toKey kv.1).isSome) = true → ∃ ks : List (Key × V), ps = ks.map (fun kv => (kV kv.1, kv.2)) ∧ ks.length = kvs.length ∧ IsKV K O H ks kvs
  | _, _, .nil, _ => ⟨[], rfl, rfl, .nil⟩
  | _, _, .cons hx hy t, h => by
    simp only [List.all_cons, Bool.and_eq_true] at h
    obtain ⟨kk, hk⟩ := Option.isSome_iff_exists.mp h.1
    have hk' := toKey_of hk
    subst hk'
    obtain ⟨ks, h1, h2, h3⟩ := IsPs.keys t h.2
    refine ⟨(kk, _) :: ks, by rw [h1, hx.key]; rfl, by rw [List.length_cons, List.length_cons, h2], .cons hy h3⟩
theorem IsKV.merge : ∀ {more : List (Key × V)} {md : List (D × D)} {ks : List (Key × V)} {kvs : List (D × D)}, IsKV K O H more md → IsKV K O H ks kvs → IsKV K O H (mergeK ks more) (mergeD kvs md)
  | [], [], _, _, _, h => h
  | (k, v) :: more, (d, e) :: md, ks, kvs, m, h => by
    cases m with
    | cons hv t => exact IsKV.merge (more := more) (md := md) t (h.put hv)
  | [], _ :: _, _, _, m, _ => by cases m
  | _ :: _, [], _, _, m, _ => by cases m
theorem rd_disp {fs : List (EX × EX)} {Q : VK} (h : rd K (eDisp fs) σ H Q) : tDisp (fs.map fun f => (rd K f.1, rd K f.2)) σ H Q := by
  obtain ⟨O, sd, r0, sd', S, e, q⟩ := h
  obtain ⟨⟨ps, s⟩, e1, e⟩ := Option.bind_eq_some_iff.mp e
  dsimp only at e
  split at e
  · rename_i hk
    cases e
    rw [Bool.and_eq_true] at hk
    intro p hp
    have A0 := S.grow (S.own.new hp (u := .dK []) rfl) (Ext.new_ hp)
    have np : ¬ OwA sd σ p := fun z => by
      obtain ⟨u, k, _⟩ := S.own p (S.owO p z)
      rw [hp] at k
      cases k
    refine rd_pairs A0.sr e1 fun vs H' O' A P => ?_
    have hH : H' p = some (.dK []) := A.ext.keep p _ upd_same np
    have oP : O' p := A.ext.own p (.inr rfl) np
    obtain ⟨ks, h1, h2, h3⟩ := P.keys hk.1
    refine ⟨hH, ks, h1, by rw [h2]; exact of_decide_eq_true hk.2, ?_⟩
    have np' : ¬ OwA sd' σ p := fun z => np (z.sub A.sub)
    obtain ⟨T1, T2⟩ := A.sr.temp (u := .dK []) (w := .dK (mergeK [] ks)) oP np' rfl
    have A1 := A0.trans S A
    refine q _ _ O' ⟨⟨fun a u h n => ?_, A1.ext.own, A1.ext.new, fun a h => A1.ext.trk a (T1.trk a h)⟩, T2, A1.sub⟩ ⟨p, rfl, hp, oP, np', _, upd_same, (IsKV.merge h3 .nil).ext T1 (fun b z => z ▸ oP) A.sr.own⟩
    have na : a ≠ p := fun z => by rw [z, hp] at h; cases h
    rw [upd_ne na]
    exact A1.ext.keep a u h n
  · cases e

/-! ### comprehensions that make dicts -/
def dcF (ws : List Nat) (g : GX) (ct : TX) (fk fv : EX) : List D → List (D × D) → Slots → Option (List (D × D) × Slots)
  | [], acc, s => some (acc, s)
  | d :: ds, acc, s => do
    let s1 ← g d (wipeD s ws)
    let (b, s2) ← ct s1
    if b = true then do
      let (rk, s3) ← fk s2
      let (rv, s4) ← fv s3
      match rk, rv with
      | .im k, .im v => if (toKey k).isSome ∧ acc.length < sizeLine then dcF ws g ct fk fv ds (putD acc k v) s4 else none
      | _, _ => none
    else dcF ws g ct fk fv ds acc s2
def eDc (ws : List Nat) (fi : IX) (g : GX) (ct : TX) (fk fv : EX) : EX := fun sd => do
  let (ds, s) ← fi sd
  if noOw s ws = true then do
    let (kvs, s2) ← dcF ws g ct fk fv ds [] s
    some (.fr (.dic kvs), backD s s2 ws)
  else none
theorem dc_main {wi : TI} {g : GX} {ct : TX} {fk fv : EX} {kvs : List (D × D)} {Q : VK} (hjs : ∀ i ∈ js, i ∈ ws) (hl : LocG js g) (S : SR K O sd σ H)
    (hw : ∀ R : It → Hp → Prop, (∀ J H1 O1, Aft K O H sd σ O1 H1 s → Src K O1 H1 s σ ds J → R J H1) → wi σ H R) (hn : noOw s ws = true) (e : dcF ws g ct fk fv ds [] s = some (kvs, s2))
    (q : ∀ v H' O', Aft K O H sd σ O' H' (backD s s2 ws) → RR K O' H' H σ (backD s s2 ws) v (.fr (.dic kvs)) → Q v H') : tDc wi (rdG K js g) (rdT K ct) (rd K fk) (rd K fv) ws σ H Q := by
  refine hw _ fun J H1 O1 A1 hJ => fun D hD => ?_
  have A0 := A1.sr.grow (A1.sr.own.new hD (u := .dK []) rfl) (Ext.new_ hD)
  have nD : ¬ OwA s σ D := fun z => by
    obtain ⟨u, k, _⟩ := A1.sr.own D (A1.sr.owO D z)
    rw [hD] at k
    cases k
  refine ⟨fun i m H' => m = ds.length - i ∧ i ≤ ds.length ∧ ∃ O' s' acc accV, AftS K O1 H1 s σ O' H' (wipeD s' ws) (L2.wipe σ ws) ∧ SubX ws s' s ∧ dcF ws g ct fk fv (ds.drop i) acc s' = some (kvs, s2) ∧
    H' D = some (.dK accV) ∧ IsKV K O' H' accV acc ∧ O' D ∧ ¬ OwA (wipeD s' ws) (L2.wipe σ ws) D,
    ⟨ds.length, by simp, Nat.zero_le _, _, s, [], [], A0.s.wipe hn, SubX.refl, by simpa using e, upd_same, .nil, .inr rfl, fun z => nD z.wipe⟩, ?_⟩
  rintro i m H' ⟨rfl, hi, O', s', acc, accV, A, X, el, hDV, hacc, oD, nD'⟩
  obtain ⟨j1, j2⟩ := hJ O' H' (wipeD s' ws) (L2.wipe σ ws) A i
  by_cases hlt : i < ds.length
  · obtain ⟨k1, k2⟩ := j1 hlt
    rw [List.drop_eq_getElem_cons hlt] at el
    obtain ⟨s1, e1, el⟩ := Option.bind_eq_some_iff.mp el
    obtain ⟨⟨b, s3⟩, e2, el⟩ := Option.bind_eq_some_iff.mp el
    refine .inr ⟨k1, fun H2 => ∃ O' s' acc accV, AftS K O1 H1 s σ O' H2 (wipeD s' ws) (L2.wipe σ ws) ∧ SubX ws s' s ∧ dcF ws g ct fk fv (ds.drop (i + 1)) acc s' = some (kvs, s2) ∧
      H2 D = some (.dK accV) ∧ IsKV K O' H2 accV acc ∧ O' D ∧ ¬ OwA (wipeD s' ws) (L2.wipe σ ws) D, fun H2 h2 => ⟨ds.length - (i + 1), by omega, rfl, hlt, h2⟩, fun x H2 hy => ?_⟩
    obtain ⟨d, hd, ow, ext, hx⟩ := k2 x H2 hy
    rw [List.getElem?_eq_getElem hlt] at hd
    cases hd
    have A2 := A.sr.grow ow ext
    obtain ⟨gl, gk⟩ := hl _ _ _ e1
    refine ⟨O', wipeD s' ws, _, s1, A2.sr, hx, e1, fun σ3 H3 O3 A4 l4 k4 => ?_⟩
    have wq : L2.wipe σ3 ws = L2.wipe σ ws := wipe_eq (by rw [l4, L2.wipe_length]) fun i hi => by
      rw [k4 i fun z => hi (hjs i z), wipe_out' hi]
    have B2 := A2.s.trans A.sr A4
    have D2 : ¬ OwA s1 σ3 D := fun z => (A4.sub D z).elim nD' fun y => by
      rw [ext.keep D _ hDV (fun z => z)] at y
      cases y
    have X1 : SubX ws s1 s := SubX.trans ⟨by rw [gl], fun i b d q h => ⟨d, by rw [← gk i fun z => q (hjs i z)]; exact h⟩⟩ (SubX.wipe.trans X)
    refine ⟨wq, O3, s1, b, s3, A4.sr, e2, fun H4 O4 A5 => ?_⟩
    have B4 := B2.trans A.sr A5.s
    have X3 := (SubX.of A4.sr A5).trans X1
    have D4 : ¬ OwA s3 σ3 D := fun z => D2 (z.sub A5.sub)
    cases b with
    | true =>
      refine iteT ?_
      replace el : (do
        let (rk, s5) ← fk s3
        let (rv, s6) ← fv s5
        match rk, rv with
        | .im k, .im v => if (toKey k).isSome ∧ acc.length < sizeLine then dcF ws g ct fk fv (ds.drop (i + 1)) (putD acc k v) s6 else none
        | _, _ => none) = some (kvs, s2) := el
      obtain ⟨⟨rk, s5⟩, e3, el⟩ := Option.bind_eq_some_iff.mp el
      obtain ⟨⟨rv, s6⟩, e4, el⟩ := Option.bind_eq_some_iff.mp el
      refine ⟨O4, s3, rk, s5, A5.sr, e3, fun y H5 O5 A6 R6 => ⟨O5, s5, rv, s6, A6.sr, e4, fun z H6 O6 A7 R7 => ?_⟩⟩
      have B6 := (B4.trans A.sr A6.s).trans A.sr A7.s
      have C6 := A.trans A1.sr B6
      have X6 := (SubX.of A6.sr A7).trans ((SubX.of A5.sr A6).trans X3)
      have D6 : ¬ OwA s6 σ3 D := fun z => D4 ((z.sub A7.sub).sub A6.sub)
      have hD6 : H6 D = some (.dK accV) := B6.ext.keep D _ hDV nD'
      have oD6 : O6 D := B6.ext.own D oD nD'
      have ha6 : IsKV K O6 H6 accV acc := hacc.ext B6.ext A.sr.owO A.sr.own
      cases rk with
      | im k =>
        cases rv with
        | im v =>
          dsimp only at el
          split at el
          · rename_i hk
            obtain ⟨kk, hkk⟩ := Option.isSome_iff_exists.mp hk.1
            have hkd := toKey_of hkk
            subst hkd
            refine ⟨accV, kk, R6.key, hD6, by rw [ha6.len]; exact hk.2, ?_⟩
            obtain ⟨T1, T2⟩ := A7.sr.temp (u := .dK accV) (w := .dK (putK accV kk z)) oD6 D6 rfl
            have C7 : AftS K O1 H1 s σ O6 (upd H6 D (.dK (putK accV kk z))) s6 σ3 :=
              ⟨⟨fun a u h n => by
                have na : a ≠ D := fun z => by rw [z, hD] at h; cases h
                rw [upd_ne na]
                exact C6.ext.keep a u h n, C6.ext.own, C6.ext.new, fun a h => C6.ext.trk a (T1.trk a h)⟩, T2, C6.sub, C6.lk⟩
            have C8 := C7.wipe hn
            rw [wq] at C8
            refine ⟨O6, s6, putD acc (kD kk) v, putK accV kk z, C8, X6, el, upd_same, (ha6.put R7).ext T1 (fun a z => z ▸ oD6) A7.sr.own, oD6, fun z => D6 ?_⟩
            rw [← wq] at z
            exact z.wipe
          · cases el
        | fr x => cases el
        | bo x => cases el
      | fr x => cases el
      | bo x => cases el
    | false =>
      refine iteF ?_
      have C4 := (A.trans A1.sr B4).wipe hn
      rw [wq] at C4
      refine ⟨O4, s3, acc, accV, C4, X3, el, B4.ext.keep D _ hDV nD', hacc.ext B4.ext A.sr.owO A.sr.own, B4.ext.own D oD nD', fun z => D4 ?_⟩
      rw [← wq] at z
      exact z.wipe
  · have hn2 : i = ds.length := by omega
    subst hn2
    rw [List.drop_length] at el
    cases el
    have B := A.back A1.sr hn X
    exact .inl ⟨j2 (Nat.le_refl _), q _ H' O' (A1.trans S B) ⟨D, rfl, A1.trk D hD, oD, fun z => nD' (z.back hn), accV, hDV, hacc⟩⟩
theorem rd_dc {fi : IX} {g : GX} {ct : TX} {fk fv : EX} {Q : VK} (hjs : ∀ i ∈ js, i ∈ ws) (hl : LocG js g) (h : rd K (eDc ws fi g ct fk fv) σ H Q) : tDc (rdI K fi) (rdG K js g) (rdT K ct) (rd K fk) (rd K fv) ws σ H Q := by
  obtain ⟨O, sd, r, sd', S, e, q⟩ := h
  obtain ⟨⟨ds, s⟩, e1, e⟩ := Option.bind_eq_some_iff.mp e
  dsimp only at e
  split at e
  · rename_i hn
    obtain ⟨⟨kvs, s2⟩, e2, e⟩ := Option.bind_eq_some_iff.mp e
    cases e
    exact dc_main hjs hl S (fun R hR => ⟨O, sd, ds, s, S, e1, hR⟩) hn e2 q
  · cases e

/-! ### a dict's keys walked: it is locked meanwhile -/
def itK (i : Nat) : IX := fun sd => match sd[i]? with
  | some (some (.im (.dic kvs))) => some (kvs.map (·.1), sd)
  | _ => none
/-- reading does not ask whether a thing is locked -/
theorem Is.rdm (h : ∀ a u, mutO u = true → Rd H a u → Rd H' a u) (ht : ∀ a xs, Rd H a (.tup xs) → Rd H' a (.tup xs)) : ∀ {v : V} {d : D}, Is K O H v d → Is K O H' v d
  | _, _, .non => .non
  | _, _, .bl b => .bl b
  | _, _, .int i => .int i
  | _, _, .str x => .str x
  | _, _, .lst n r t => .lst n (h _ _ rfl r) (all t)
  | _, _, .lstK r t => .lstK r (all t)
  | _, _, .tup r t => .tup (r.imp (ht _ _) id) (all t)
  | _, _, .dic n r t => .dic n (h _ _ rfl r) (kv t)
where
  all : ∀ {vs : List V} {ds : List D}, IsAll K O H vs ds → IsAll K O H' vs ds
    | _, _, .nil => .nil
    | _, _, .cons x t => .cons (Is.rdm h ht x) (all t)
  kv : ∀ {ks : List (Key × V)} {kvs : List (D × D)}, IsKV K O H ks kvs → IsKV K O H' ks kvs
    | _, _, .nil => .nil
    | _, _, .cons x t => .cons (Is.rdm h ht x) (kv t)
theorem SR.rdm (S : SR K O s σ H) (h : ∀ a u, mutO u = true → Rd H a u → Rd H' a u) (ht : ∀ a xs, Rd H a (.tup xs) → Rd H' a (.tup xs)) (ho : ∀ a, O a → H' a = H a) : SR K O s σ H' := by
  refine ⟨fun a o => ?_, S.len, fun i d e => ?_, fun i b d e => ?_, S.ne⟩
  · obtain ⟨u, k, m⟩ := S.own a o
    exact ⟨u, (ho a o).trans k, m⟩
  · obtain ⟨v, k, m⟩ := S.im i d e
    exact ⟨v, k, m.rdm h ht⟩
  · obtain ⟨a, k, o, c⟩ := S.ow i b d e
    refine ⟨a, k, o, ?_⟩
    cases d with
    | lst ds =>
      obtain ⟨xs, k1, k2⟩ := c
      exact ⟨xs, (ho a o).trans k1, Is.rdm.all h ht k2⟩
    | dic kvs =>
      obtain ⟨xs, k1, k2⟩ := c
      exact ⟨xs, (ho a o).trans k1, Is.rdm.kv h ht k2⟩
    | _ => exact c.elim
theorem lock_rd {x : Addr} {o : Obj} {w : HO} (hx : H x = some w) (hw : mutO w = true) : (∀ a u, mutO u = true → Rd H a u → Rd (upd H x (.frz o w)) a u) ∧ (∀ a xs, Rd H a (.tup xs) → Rd (upd H x (.frz o w)) a (.tup xs)) := by
  have core : ∀ a u, Rd H a u → (∀ o' u', u ≠ .frz o' u') → Rd (upd H x (.frz o w)) a u := by
    intro a u r n
    by_cases q : a = x
    · subst q
      rcases r with r | ⟨o', r⟩
      · rw [hx] at r
        cases r
        exact .inr ⟨o, upd_same⟩
      · rw [hx] at r
        cases r
        cases hw
    · rcases r with r | ⟨o', r⟩
      · exact .inl (by rw [upd_ne q]; exact r)
      · exact .inr ⟨o', by rw [upd_ne q]; exact r⟩
  exact ⟨fun a u m r => core a u r (fun o' u' z => by subst z; exact absurd m (by simp [mutO])), fun a xs r => core a _ r (fun o' u' z => HO.noConfusion z)⟩
theorem unlock_rd {x : Addr} {o : Obj} {w : HO} (hx : H x = some (.frz o w)) (hw : mutO w = true) : (∀ a u, mutO u = true → Rd H a u → Rd (upd H x w) a u) ∧ (∀ a xs, Rd H a (.tup xs) → Rd (upd H x w) a (.tup xs)) := by
  have core : ∀ a u, Rd H a u → (∀ o' u', u ≠ .frz o' u') → Rd (upd H x w) a u := by
    intro a u r n
    by_cases q : a = x
    · subst q
      rcases r with r | ⟨o', r⟩
      · rw [hx] at r
        exact absurd (Option.some.inj r).symm (n o w)
      · rw [hx] at r
        cases r
        exact .inl upd_same
    · rcases r with r | ⟨o', r⟩
      · exact .inl (by rw [upd_ne q]; exact r)
      · exact .inr ⟨o', by rw [upd_ne q]; exact r⟩
  exact ⟨fun a u m r => core a u r (fun o' u' z => by subst z; exact absurd m (by simp [mutO])), fun a xs r => core a _ r (fun o' u' z => HO.noConfusion z)⟩
theorem IsKV.key : ∀ {ks : List (Key × V)} {kvs : List (D × D)} {i : Nat} {k : Key} {v : V}, IsKV K O H ks kvs → ks[i]? = some (k, v) → (kvs.map (·.1))[i]? = some (kD k)
  | _, _, _, _, _, .nil, h => by simp at h
  | _, _, 0, _, _, .cons _ _, h => by simp at h; simp [h.1]
  | _, _, i + 1, _, _, .cons _ t, h => by simpa using IsKV.key (i := i) t (by simpa using h)
/-- over a locked dict -/
theorem keys_src {i : Nat} {kvs : List (D × D)} {x : Addr} {o : Obj} {ks : List (Key × V)} (S : SR K O sd σ H) (hi : σ[i]? = some (some (.ref x))) (nx : ¬ O x) (hx : H x = some (.frz o (.dK ks))) (t : IsKV K O H ks kvs) (R : It → Hp → Prop)
    (hR : ∀ J H1 O1, Aft K O H sd σ O1 H1 sd → Src K O1 H1 sd σ (kvs.map (·.1)) J → R J H1) : iKeys (tVar i) σ H R := by
  refine ⟨.ref x, hi, x, o, rfl, .inl ⟨ks, hx, hR _ H O (Aft.refl S) fun O2 H2 sd2 σ2 A j => ?_⟩⟩
  have h2 : H2 x = some (.frz o (.dK ks)) := A.ext.keep x _ hx fun w => nx (S.owO x w)
  have hl : (kvs.map (·.1)).length = ks.length := by rw [List.length_map, t.len]
  rw [hl]
  refine ⟨fun hj => ⟨⟨h2, hj⟩, fun y H' hy => ?_⟩, fun hj => ⟨h2, hj⟩⟩
  obtain ⟨rfl, k, v, h3, rfl⟩ := hy
  refine ⟨kD k, t.key h3, A.sr.own, Ext.refl, ?_⟩
  cases k with
  | inl j => exact .int j
  | inr j => exact .str j
theorem rd_dcK {i : Nat} {g : GX} {ct : TX} {fk fv : EX} {Q : VK} (hjs : ∀ i ∈ js, i ∈ ws) (hl : LocG js g) (h : rd K (eDc ws (itK i) g ct fk fv) σ H Q) :
    tDc (iKeys (tVar i)) (rdG K js g) (rdT K ct) (rd K fk) (rd K fv) ws σ H Q ∨ tLockE (tDc (iKeys (tVar i)) (rdG K js g) (rdT K ct) (rd K fk) (rd K fv) ws) σ H Q := by
  obtain ⟨O, sd, r, sd', S, e, q⟩ := h
  obtain ⟨⟨ds, s⟩, e1, e⟩ := Option.bind_eq_some_iff.mp e
  dsimp only at e
  split at e
  · rename_i hn
    unfold itK at e1
    split at e1
    · rename_i kvs hi
      cases e1
      obtain ⟨⟨kvs2, s2⟩, e2, e⟩ := Option.bind_eq_some_iff.mp e
      cases e
      obtain ⟨v, k1, k2⟩ := S.im i _ hi
      cases k2 with
      | dic nx r t =>
        rename_i x ks
        rcases r with hx | ⟨o, hx⟩
        · refine .inr ⟨x, .dK ks, hx, trivial, fun od => ?_⟩
          obtain ⟨l1, l2⟩ := lock_rd (o := od) hx rfl
          have S' : SR K O sd σ (upd H x (.frz od (.dK ks))) := S.rdm l1 l2 fun a o => upd_ne fun z => nx (z ▸ o)
          refine dc_main hjs hl S' (fun R hR => keys_src S' k1 nx upd_same (Is.rdm.kv l1 l2 t) R hR) hn e2 fun w H' O' A RRf => ?_
          have nw : ¬ OwA sd σ x := fun w => nx (S.owO x w)
          have hx' : H' x = some (.frz od (.dK ks)) := A.ext.keep x _ upd_same nw
          have nx' : ¬ O' x := fun z => (A.ext.new x z).elim nx fun y => by rw [upd_same] at y; cases y
          obtain ⟨m1, m2⟩ := unlock_rd hx' rfl
          refine ⟨hx', q _ _ O' ⟨⟨fun a u h n => ?_, A.ext.own, fun a z => ?_, fun a z => ?_⟩, A.sr.rdm m1 m2 fun a o => upd_ne fun z => nx' (z ▸ o), A.sub⟩ ?_⟩
          · by_cases w : a = x
            · subst w
              rw [upd_same, ← hx, h]
            · rw [upd_ne w]
              exact A.ext.keep a u (by rw [upd_ne w]; exact h) n
          · rcases A.ext.new a z with y | y
            · exact .inl y
            · by_cases w : a = x
              · subst w; exact absurd z nx'
              · rw [upd_ne w] at y; exact .inr y
          · by_cases w : a = x
            · subst w; rw [upd_same] at z; cases z
            · rw [upd_ne w] at z
              have y := A.ext.trk a z
              rwa [upd_ne w] at y
          · obtain ⟨y, p1, p2, p3, p4, kk, p5, p6⟩ := RRf
            have yx : y ≠ x := fun z => nx' (z ▸ p3)
            exact ⟨y, p1, by rw [upd_ne yx] at p2; exact p2, p3, p4, kk, by rw [upd_ne yx]; exact p5, Is.rdm.kv m1 m2 p6⟩
        · exact .inl (dc_main hjs hl S (fun R hR => keys_src S k1 nx hx t R hR) hn e2 q)
    · cases e1
  · cases e
/-! ### sorted(d): keys that are texts -/
def eSortK (f : EX) : EX := fun sd => do
  let (r, s) ← f sd
  match ← r.get s with
  | .dic kvs => match strsOf (kvs.map (·.1)) with
    | some xs => if xs.length < 64 then some (.fr (.lst ((sortS xs).map D.str)), s) else none
    | none => none
  | _ => none
theorem IsKV.strs : ∀ {ks : List (Key × V)} {kvs : List (D × D)} {xs : List Str}, IsKV K O H ks kvs → strsOf (kvs.map (·.1)) = some xs → ks.map (·.1) = xs.map Sum.inr
  | _, _, _, .nil, e => by cases e; rfl
  | _, _, _, @IsKV.cons _ _ _ k v d ks kvs h t, e => by
    cases k with
    | inl i => cases e
    | inr x =>
      obtain ⟨ys, e1, rfl⟩ := Option.map_eq_some_iff.mp e
      rw [List.map_cons, IsKV.strs t e1]
      rfl
end
section
variable {X : Cx} {e e2 : Expr} {f f2 : EX} {pos p p2 apos : Pos}
theorem go_none : PO X none (rdO X.K pNo) := ⟨fun pins s σ H Q I h => po_none.run pins s σ H Q I (rd_pNo h)⟩
theorem go_some (h : GE X e f) : PO X (some e) (rdO X.K (pSome f)) := ⟨fun pins s σ H Q I q => (po_some h).run pins s σ H Q I (rd_pSome q)⟩
theorem ge_sl {lo hi : Option Expr} {fl fh : PX} {p2 : Pos} (he : GE X e f) (hl : PO X lo (rdO X.K fl)) (hh : PO X hi (rdO X.K fh)) : GE X (.Subscript e (.Slice lo hi none p2) pos) (eSl f fl fh) := (pe_slice (SlR.or sl_list sl_tupA) he hl hh).imp fun _ _ _ h => rd_sl h
theorem ge_dc {kx vx tg iter : Expr} {ifs : List Expr} {scope : Scope} {own : List (Str × Nat)} {fi : IX} {js : List Nat} {g : GX} {ct : TX} {fk fv : EX} (hc : X.calm = true) (hN : X.N.Nodup) (hi : GI X tg iter fi) (ok : BlkOk X.N X.env.scope scope own)
    (hjs : ∀ i ∈ js, i ∈ own.map (·.2)) (hl : LocG js g)
    (hg : ∀ (s : Shared) (H : Hp) (C : Addr) (cl : List (Str × Addr)) (fp : List Addr), GG (X.blk s H scope (compEnvC scope cl C X.env) fp) tg js g) (ht : ∀ (s : Shared) (H : Hp) (C : Addr) (cl : List (Str × Addr)) (fp : List Addr), GTs (X.blk s H scope (compEnvC scope cl C X.env) fp) ifs ct)
    (hk : ∀ (s : Shared) (H : Hp) (C : Addr) (cl : List (Str × Addr)) (fp : List Addr), GE (X.blk s H scope (compEnvC scope cl C X.env) fp) kx fk)
    (hv : ∀ (s : Shared) (H : Hp) (C : Addr) (cl : List (Str × Addr)) (fp : List Addr), GE (X.blk s H scope (compEnvC scope cl C X.env) fp) vx fv) (hs : ∀ x, foldedSetIterable iter X.env x = pure x := by intro _; rfl) :
    GE X (.DictComp kx vx [⟨tg, iter, ifs, 0⟩] scope pos) (eDc (own.map (·.2)) fi g ct fk fv) := (pe_dc (tk := rd X.K fk) (tv := rd X.K fv) (g := rdG X.K js g) (tt := rdT X.K ct) hc hN hi ok hg ht hk hv hs).imp fun _ _ _ h => rd_dc hjs hl h
theorem ge_dcK {kx vx tg : Expr} {ifs : List Expr} {scope : Scope} {own : List (Str × Nat)} {x : Str} {xp : Pos} (i : Nat) {js : List Nat} {g : GX} {ct : TX} {fk fv : EX} (hc : X.calm = true) (hN : X.N.Nodup) (ok : BlkOk X.N X.env.scope scope own)
    (hjs : ∀ i ∈ js, i ∈ own.map (·.2)) (hl : LocG js g)
    (hg : ∀ (s : Shared) (H : Hp) (C : Addr) (cl : List (Str × Addr)) (fp : List Addr), GG (X.blk s H scope (compEnvC scope cl C X.env) fp) tg js g) (ht : ∀ (s : Shared) (H : Hp) (C : Addr) (cl : List (Str × Addr)) (fp : List Addr), GTs (X.blk s H scope (compEnvC scope cl C X.env) fp) ifs ct)
    (hk : ∀ (s : Shared) (H : Hp) (C : Addr) (cl : List (Str × Addr)) (fp : List Addr), GE (X.blk s H scope (compEnvC scope cl C X.env) fp) kx fk)
    (hv : ∀ (s : Shared) (H : Hp) (C : Addr) (cl : List (Str × Addr)) (fp : List Addr), GE (X.blk s H scope (compEnvC scope cl C X.env) fp) vx fv) (hNi : X.N[i]? = some x := by rfl) (hx : Vis X.env.scope x := by first | exact Or.inl rfl | exact Or.inr (Or.inl rfl) | exact Or.inr (Or.inr rfl))
    (hd : (x == ("__debug__" : Str)) = false := by decide) (hcd : (x == ("__classdict__" : Str)) = false := by decide) (hs : ∀ y, foldedSetIterable (.Name x xp) X.env y = pure y := by intro _; rfl) :
    GE X (.DictComp kx vx [⟨tg, .Name x xp, ifs, 0⟩] scope pos) (eDc (own.map (·.2)) (itK i) g ct fk fv) := by
  have h1 := pe_dc (pos := pos) (tk := rd X.K fk) (tv := rd X.K fv) (g := rdG X.K js g) (tt := rdT X.K ct) hc hN (pi_keys (tg := tg) (pe_var (X := X) (pos := xp) hNi hx hd hcd)) ok hg ht hk hv hs
  exact (PE_or h1 (pe_lock h1)).imp fun _ _ _ h => rd_dcK hjs hl h
theorem ge_disp1 {k v : Expr} {fk fv : EX} (hk : GE X k fk) (hv : GE X v fv) : GE X (.Dict [some k] [v] pos) (eDisp [(fk, fv)]) :=
  (pe_disp (trs := [(rd X.K fk, rd X.K fv)]) (pps_cons hk hv pps_nil) rfl rfl (by intro h; cases h) (by simp)).imp fun _ _ _ h => rd_disp h
end
end G

set_option Elab.async false
set_option linter.all false
set_option maxRecDepth 100000
set_option maxHeartbeats 4000000
/-! S1: sets of keys (ints, texts) whose members can be walked: add, set(list), sorted(set). -/
namespace G
open PySem PySem.Spec PyProof.Rows L2
instance decKey : (a b : Key) → Decidable (a = b) := fun a b => inferInstanceAs (Decidable (@Eq (Int ⊕ Str) a b))
instance decMemKey (k : Key) (L : List Key) : Decidable (k ∈ L) := decidable_of_iff (∃ x, x ∈ L ∧ x = k) ⟨fun ⟨x, h, e⟩ => e ▸ h, fun h => ⟨k, h, rfl⟩⟩
/-- an entry's key -/
def keyM (e : Int × Value) : Key := match e.2 with
  | .int k _ => .inl k
  | .str x _ => .inr x
  | _ => .inl 0
def GoodM (w : World) (e : Int × Value) : Prop := ∃ k, keyIs k e.2 = true ∧ e.1 = keyH w k
theorem keyM_of {e : Int × Value} {k : Key} (h : keyIs k e.2 = true) : keyM e = k := by
  unfold keyM
  rcases keyIs_shape h with ⟨i, t, e1, e2⟩ | ⟨x, t, e1, e2⟩
  · rw [e2, e1]
  · rw [e2, e1]
theorem scan_of {u : Value} {k : Key} (h : keyIs k u = true) : u.scannable = true := by
  rcases keyIs_shape h with ⟨i, t, e1, e2⟩ | ⟨x, t, e1, e2⟩ <;> rw [e2] <;> rfl
/-- the set at a: L its members -/
def SetM (w : World) (h : Heap) (a : Addr) (L : List Key) : Prop :=
  ∃ o es ep t, h.get? a = some o ∧ o.ExactSet ∧ o.data = .set es ep t ∧ (∀ e ∈ es.toList, GoodM w e) ∧ (es.toList.map keyM).Perm L ∧ L.Nodup ∧
    es.size < scanBound ∧ t.fits es.size = true ∧ Ris t.place.toList ∧ (w.params.followText "set-order" = true ∨ t.led = true)
section
variable {P : Program} {w : World} {h h' : Heap} {a : Addr} {L : List Key}
theorem SetM.at (R : SetM w h a L) (k : ∀ o, h.get? a = some o → h'.get? a = some o) : SetM w h' a L := by
  obtain ⟨o, es, ep, t, ho, r⟩ := R
  exact ⟨o, es, ep, t, k o ho, r⟩
theorem goodM_elems {l : List (Int × Value)} (g : ∀ e ∈ l, GoodM w e) : ElemsOf (mixKind P w) l := fun e he => by
  obtain ⟨k, h1, h2⟩ := g e he
  exact ⟨⟨k, h1, h2⟩, scan_of h1⟩
theorem goodM_is {e : Int × Value} (g : GoodM w e) (k : Key) : (mixKind P w).is k e.2 = true ↔ keyM e = k := by
  obtain ⟨k0, h1, _⟩ := g
  constructor
  · intro h2
    exact keyM_of h2
  · intro h2
    rw [keyM_of h1] at h2
    rw [← h2]
    exact h1
theorem goodM_mem {l : List (Int × Value)} (g : ∀ e ∈ l, GoodM w e) (k : Key) : k ∈ l.map keyM ↔ ∃ e ∈ l, (mixKind P w).is k e.2 = true := by
  rw [List.mem_map]
  exact ⟨fun ⟨e, he, q⟩ => ⟨e, he, (goodM_is (g e he) k).2 q⟩, fun ⟨e, he, q⟩ => ⟨e, he, (goodM_is (g e he) k).1 q⟩⟩
end
section
variable {P : Program} {w : World} {A : Around} {E : Value → Shared → Prop} {s : Shared} {a : Addr} {L : List Key}
/-- what an add leaves once the entry lies in its place -/
theorem setM_tail {g : Bool → Sem Unit} (hg : ∀ (b : Bool) (s₁ : Shared) (Q' : Unit → Shared → Prop), Q' () s₁ → wpAny (model P w) A (g b) Q' E s₁)
    {o : Obj} {es : Array (Int × Value)} {ep : Nat} {t : SetTable} (ho : s.heap.get? a = some o) (hex : o.ExactSet) (hd : o.data = .set es ep t)
    {es1 : Array (Int × Value)} {t2 : SetTable} {L' : List Key} (g1 : ∀ e ∈ es1.toList, GoodM w e) (p1 : (es1.toList.map keyM).Perm L') (n1 : L'.Nodup)
    (hb1 : es1.size < scanBound) (hf2 : t2.fits es1.size = true) (hr : Ris t2.place.toList) (hl : w.params.followText "set-order" = true ∨ t2.led = true) {wasDummy : Bool} {R : Option Bool → Shared → Prop}
    (hR : ∀ h', Heap.SameBut a s.heap h' → SetM w h' a L' → R (some true) { s with heap := h' }) :
    wpAny (model P w) A (do
        storeSet a es1 t2
        if (!wasDummy && t2.tooFull) = true then do
            g (relayAll t2 es1 (SetTable.grown es1.size)).2.2
            storeSet a (relayAll t2 es1 (SetTable.grown es1.size)).1 (relayAll t2 es1 (SetTable.grown es1.size)).2.1
            pure (some true)
          else pure (some true)) R E s := by
  refine wpAny_bind (wpAny_storeSet_of ho hd ?_ (fits_of_scanBound hb1))
  have ho1 := store_at (es' := es1) (t' := t2) ho hd
  have sb1 := Heap.SameBut.update s.heap a (Obj.putSet es1 t2)
  split
  · have pm := relayAll_perm t2 es1 (SetTable.grown es1.size)
    have hf3 := relayAll_fits t2 es1 (SetTable.grown es1.size)
    have hr3 := relayAll_ris t2 es1 (SetTable.grown es1.size)
    have hl3 := relayAll_led t2 es1 (SetTable.grown es1.size)
    generalize relayAll t2 es1 (SetTable.grown es1.size) = Z at pm hf3 hr3 hl3 ⊢
    obtain ⟨es2, t3, gave⟩ := Z
    dsimp only at pm hf3 hr3 hl3 ⊢
    have hb2 : es2.size < scanBound := by rw [← Array.length_toList, pm.length_eq, Array.length_toList]; exact hb1
    refine wpAny_bind (hg _ _ _ (wpAny_bind (wpAny_storeSet_of ho1 rfl (wpAny_pure (hR _ (sb1.trans (Heap.SameBut.update _ a _)) ?_)) (fits_of_scanBound hb2))))
    exact ⟨_, es2, _, t3, store_at (es' := es2) (t' := t3) ho1 rfl, hex, rfl, fun e he => g1 e (pm.mem_iff.mp he), (pm.map keyM).trans p1, n1, hb2, hf3, hr3, hl.imp id fun z => by rw [hl3]; exact z⟩
  · exact wpAny_pure (hR _ sb1 ⟨_, es1, _, t2, ho1, hex, rfl, g1, p1, n1, hb1, hf2, hr, hl⟩)
def addM (L : List Key) (k : Key) : List Key := if k ∈ L then L else L ++ [k]
theorem setM_add {k : Key} {u : Value} {Q : Bool → Shared → Prop} (hk : keyIs k u = true) (R : SetM w s.heap a L) (room : L.length + 1 < scanBound)
    (hQ : ∀ h', Heap.SameBut a s.heap h' → SetM w h' a (addM L k) → Q (!decide (k ∈ L)) { s with heap := h' }) :
    wpAny (model P w) A (setAddHashed a u ((mixKind P w).hash k)) Q E s := by
  obtain ⟨o, es, ep, t, ho, hex, hd, g, pL, nd, hb, hf, hr, hl⟩ := R
  have hkey : (mixKind P w).is k u = true := hk
  have hsc := scan_of hk
  have hel : ElemsOf (mixKind P w) es.toList := goodM_elems g
  unfold setAddHashed setAddHashedIn
  refine wpAny_holding (wpAny_bind (wpAny_setState_of ho hd hf ?_))
  dsimp only
  rw [byScan_of hsc hb hel]
  simp only [↓reduceIte]
  unfold setAddByScan
  refine wpAny_bind (wpAny_bind (wpAny_rule ?_))
  refine wpAny_bind (wpAny_setScan_of hkey ho hd hf hel ?_)
  cases hfi : List.findIdx? (fun e => (mixKind P w).is k e.2) es.toList with
  | some j =>
    dsimp only
    obtain ⟨hj, pj, _⟩ := List.findIdx?_eq_some_iff_getElem.mp hfi
    have hkL : k ∈ L := pL.mem_iff.mp ((goodM_mem (P := P) g k).2 ⟨es.toList[j], List.getElem_mem hj, pj⟩)
    refine wpAny_pure (wpAny_pure ?_)
    have q := hQ s.heap (Heap.SameBut.refl a s.heap) ⟨o, es, ep, t, ho, hex, hd, g, by rw [addM, if_pos hkL]; exact pL, by rw [addM, if_pos hkL]; exact nd, hb, hf, hr, hl⟩
    rw [decide_eq_true hkL] at q
    exact q
  | none =>
    dsimp only
    have hkL : k ∉ L := fun z => by
      obtain ⟨e, he, q⟩ := (goodM_mem (P := P) g k).1 (pL.mem_iff.mpr z)
      have c := List.findIdx?_eq_none_iff.mp hfi e he
      rw [q] at c
      cases c
    have hgw : ∀ (b : Bool) {s₁ : Shared} {Q' : Unit → Shared → Prop}, Q' () s₁ → wpAny (model P w) A (match b with | true => rule "set.scan.the-table-gave-way" | false => pure ()) Q' E s₁ :=
      fun b s₁ Q' q => by cases b <;> first | exact wpAny_pure q | exact wpAny_rule q
    have pm := layNew_perm t es ((mixKind P w).hash k) u
    have hf1 := layNew_fits t es ((mixKind P w).hash k) u
    have hr1 := layNew_ris t es ((mixKind P w).hash k) u hr
    have hl1 := layNew_led t es ((mixKind P w).hash k) u
    generalize layNew t es ((mixKind P w).hash k) u = Z at pm hf1 hr1 hl1 ⊢
    obtain ⟨es1, t1, wasDummy, gave⟩ := Z
    dsimp only at pm hf1 hr1 hl1 ⊢
    rw [Array.toList_push] at pm
    have pk : (es1.toList.map keyM).Perm (addM L k) := by
      rw [addM, if_neg hkL]
      have q := pm.map keyM
      rw [List.map_append, List.map_cons, List.map_nil, show keyM ((mixKind P w).hash k, u) = k from keyM_of hk] at q
      exact q.trans (pL.append_right [k])
    have g1 : ∀ e ∈ es1.toList, GoodM w e := fun e he => by
      rcases List.mem_append.mp (pm.mem_iff.mp he) with z | z
      · exact g e z
      · rw [List.mem_singleton.mp z]
        exact ⟨k, hk, rfl⟩
    have nd1 : (addM L k).Nodup := by
      rw [addM, if_neg hkL]
      exact List.nodup_append.mpr ⟨nd, List.nodup_cons.mpr ⟨by simp, List.nodup_nil⟩, fun x hx y hy => by
        rw [List.mem_singleton.mp hy]
        exact fun z => hkL (z ▸ hx)⟩
    have hb1 : es1.size < scanBound := by
      have e1 := pm.length_eq
      have e2 := pL.length_eq
      rw [List.length_append, Array.length_toList, Array.length_toList] at e1
      rw [List.length_map, Array.length_toList] at e2
      rw [e1, e2]
      exact room
    have hled : w.params.followText "set-order" = true ∨ t1.led = true := hl.imp id fun z => by rw [hl1]; exact z
    have fin : ∀ h', Heap.SameBut a s.heap h' → SetM w h' a (addM L k) → Q true { s with heap := h' } := fun h' sb r => by
      have q := hQ h' sb r
      rw [decide_eq_false hkL] at q
      exact q
    refine wpAny_bind (hgw _ ?_)
    split
    · refine wpAny_bind ?_
      rw [hashByValue_scannable 8 hsc]
      refine wpAny_pure ?_
      refine setM_tail ?_ ho hex hd g1 pk nd1 hb1 ?_ ?_ ?_ ?_
      · intro b s₁ Q' q; cases b <;> first | exact wpAny_pure q | exact wpAny_rule q
      · first | (split <;> first | exact hf1 | exact SetTable.fits_plain_off hf1) | exact hf1
      · first | (split <;> exact hr1) | exact hr1
      · first | (split <;> exact hled) | exact hled
      · intro h' sb r; dsimp only; exact wpAny_pure (fin h' sb r)
    · refine wpAny_bind (wpAny_pure ?_)
      simp only [↓reduceIte]
      refine setM_tail ?_ ho hex hd g1 pk nd1 hb1 hf1 hr1 hled ?_
      · intro b s₁ Q' q; cases b <;> first | exact wpAny_pure q | exact wpAny_rule q
      · intro h' sb r; dsimp only; exact wpAny_pure (fin h' sb r)
end
/-- the members of a list, each once, as they come -/
def setL (ks : List Key) : List Key := ks.foldl addM []
theorem setL_snoc (ks : List Key) (k : Key) : setL (ks ++ [k]) = addM (setL ks) k := by
  unfold setL
  rw [List.foldl_append]
  rfl
theorem setL_len : ∀ (ks acc : List Key), (ks.foldl addM acc).length ≤ acc.length + ks.length
  | [], _ => by simp
  | k :: r, acc => by
    have h := setL_len r (addM acc k)
    have h2 : (addM acc k).length ≤ acc.length + 1 := by unfold addM; split <;> simp
    rw [List.foldl_cons, List.length_cons]
    omega
theorem mem_setL : ∀ (ks acc : List Key) (k : Key), k ∈ ks.foldl addM acc ↔ k ∈ acc ∨ k ∈ ks
  | [], _, _ => by simp
  | x :: r, acc, k => by
    rw [List.foldl_cons, mem_setL r (addM acc x) k]
    unfold addM
    split
    · rename_i h
      constructor
      · rintro (z | z)
        · exact .inl z
        · exact .inr (List.mem_cons_of_mem _ z)
      · rintro (z | z)
        · exact .inl z
        · rcases List.mem_cons.mp z with z | z
          · exact .inl (z ▸ h)
          · exact .inr z
    · simp [or_assoc]
theorem setM_fresh {h : Heap} {w : World} {a : Addr} (ho : h.get? a = some { cls := .type "set", dict := none, data := .set #[] 0 (.fresh 0 0 (!w.params.followText "set-order")) }) : SetM w h a [] :=
  ⟨_, #[], 0, _, ho, ⟨rfl, rfl, rfl⟩, rfl, (fun e he => by simp at he), (by simp), List.nodup_nil, (by decide), (by rfl), List.Pairwise.nil, by
    show _ ∨ (!w.params.followText "set-order") = true
    cases w.params.followText "set-order"
    · exact .inr rfl
    · exact .inl rfl⟩
section
variable {P : Program} {w : World} {A : Around} {E : Value → Shared → Prop} {s : Shared}
theorem setM_update {I : Addr} {fp wr : List Addr} {G : Array GenState → Array GenState → Prop} {n : Nat} {Pv : Nat → Value → Prop} {St : Nat → Shared → Prop} {R : Result → Shared → Prop}
    (W : WalksS P w A.in1 I fp wr G n Pv St) (S : Addr) (hSf : S ∉ fp) (ks : List Key) (hn : n = ks.length) (hb : ks.length + 1 < scanBound) (hval : ∀ i v, Pv i v → ∃ k, ks[i]? = some k ∧ keyIs k v = true) :
    ∀ (m i : Nat) (s : Shared), n - i = m → i ≤ n → St i s → SetM w s.heap S (setL (ks.take i)) →
      (∀ s', Moved (S :: wr) G s s' → SetM w s'.heap S (setL ks) → R (.ok (.ret .none)) s') →
      codeAny (model P w) A (.builtin "set.update.loop" ⟨[.ref S, .ref I], []⟩) R s := by
  have hSw : S ∉ wr := fun h => hSf (W.sub _ h)
  have hsub : ∀ b ∈ wr, b ∈ S :: wr := fun b hb => List.mem_cons_of_mem _ hb
  intro m
  induction m with
  | zero =>
    intro i s hk' hi hst hS hR
    have hin : i = n := by omega
    subst hin
    refine codeAny_builtin F.entry_set_update_loop ?_
    rw [Around.under_plainId F.plain_set_update_loop _]
    show wpAny _ A.in1 (pyNext (.ref I) >>= _) _ _ s
    refine wpAny_bind (W.done s _ _ hst fun s' hm => ?_)
    show wpAny _ A.in1 (ret Value.none) _ _ s'
    have e : ks.take i = ks := List.take_of_length_le (by omega)
    rw [e] at hS
    exact wpAny_pure (hR s' (hm.mono hsub) (hS.at fun o e => hm.heap S o hSw e))
  | succ m ih =>
    intro i s hk' hi hst hS hR
    have hlt : i < n := by omega
    refine codeAny_builtin F.entry_set_update_loop ?_
    rw [Around.under_plainId F.plain_set_update_loop _]
    show wpAny _ A.in1 (pyNext (.ref I) >>= _) _ _ s
    refine wpAny_bind (W.item i s _ _ hlt hst fun v s' hP hst' hm => ?_)
    obtain ⟨k, hz, hkv⟩ := hval i v hP
    have hS' : SetM w s'.heap S (setL (ks.take i)) := hS.at fun o e => hm.heap S o hSw e
    show wpAny _ A.in1 (holding [v] (setAdd S v) >>= _) _ _ s'
    refine wpAny_bind (wpAny_holding ?_)
    unfold setAdd
    refine wpAny_holding ?_
    refine wpAny_bind ((mixKind P w).pyHash (k := k) hkv ?_)
    have hlen : (setL (ks.take i)).length + 1 < scanBound := by
      have := setL_len (ks.take i) []
      rw [List.length_take, List.length_nil] at this
      unfold setL
      omega
    refine setM_add (s := { s' with toks := s'.toks + 1 }) hkv hS' hlen fun h' hsb hS2 => ?_
    rw [← setL_snoc, show ks.take i ++ [k] = ks.take (i + 1) by rw [List.take_add_one, hz]; rfl] at hS2
    refine wpAny_pure ⟨plainId_quiet F.plain_set_update_loop _, ih (i + 1) _ (by omega) hlt (W.frame _ s' _ _ hst' (Nat.le_succ _) fun b hb o e => ?_) hS2 fun s'' hm'' hS'' => ?_⟩
    · rw [hsb.2 b (fun h : b = S => hSf (by rw [← h]; exact hb))]; exact e
    · refine hR s'' (Moved.trans W.gtrans ((hm.mono hsub).then_heap (Nat.le_succ _) fun b o hb e => ?_) hm'') hS''
      rw [hsb.2 b (fun h : b = S => hb (by rw [h]; exact List.mem_cons_self))]; exact e
end
end G

set_option Elab.async false
set_option linter.all false
set_option maxRecDepth 100000
set_option maxHeartbeats 4000000
/-! S2: set(list of keys); sorted(set of texts). -/
namespace G
open PySem PySem.Spec PyProof.Rows L2
/-- a set as it is made -/
def bare0 (w : World) : Obj := { cls := .type "set", dict := none, data := .set #[] 0 (.fresh 0 0 (!w.params.followText "set-order")) }
def KeysAre (vs : List Value) (ks : List Key) : Prop := Paired (fun v k => keyIs k v = true) vs ks
theorem KeysAre.get : ∀ {vs : List Value} {ks : List Key} {i : Nat} {v : Value}, KeysAre vs ks → vs[i]? = some v → ∃ k, ks[i]? = some k ∧ keyIs k v = true
  | _, _, _, _, .nil, h => by simp at h
  | _, _, 0, _, .cons a _, h => by simp at h; subst h; exact ⟨_, rfl, a⟩
  | _, _, i + 1, _, .cons _ t, h => by
    obtain ⟨k, h1, h2⟩ := KeysAre.get (i := i) t (by simpa using h)
    exact ⟨k, by simpa using h1, h2⟩
theorem KeysAre.length : ∀ {vs : List Value} {ks : List Key}, KeysAre vs ks → vs.length = ks.length
  | _, _, .nil => rfl
  | _, _, .cons _ t => congrArg (· + 1) (KeysAre.length t)
section
variable {P : Program} {w : World} {A : Around} {E : Value → Shared → Prop} {s : Shared}
set_option maxRecDepth 100000 in
set_option maxHeartbeats 3200000 in
theorem call_setM {l : Addr} {items : Array Value} (ks : List Key) {Q : Value → Shared → Prop} (hh : A.handled = none) (hl : s.heap.IsList l items) (hit : KeysAre items.toList ks) (hb : ks.length + 1 < scanBound)
    (h : ∀ (h' : Heap) (tk : Nat), SetM w h' s.heap.objs.size (setL ks) → (∀ b o, s.heap.get? b = some o → h'.get? b = some o) → Q (.ref s.heap.objs.size) { s with heap := h', toks := tk }) :
    wpAny (model P w) A (call (.type "set") [.ref l]) Q E s := by
  have hisz : items.size = ks.length := by rw [← hit.length, Array.length_toList]
  obtain ⟨c, tl, hmro⟩ := F.called_set.mro
  have hmade := F.called_set.made
  have hsub := F.called_set.sub
  refine wpAny_call (codeAny_of_tree ?_)
  show wpAny _ _ (callAny (.type "set") _) _ _ _
  refine wpAny_pure ⟨Code.quiet_builtin _ (by decide +kernel), codeAny_builtin F.entry_type_call ?_⟩
  rw [Around.under_plain (weight_type_call_type "set" [.ref l] []) rfl]
  have h1 := F.called_set.notType
  have h2 := F.called_set.canCreate
  have hct := F.typeCall_set_1 (.ref l)
  repeat (any_goals (first | assumption | wp_step))
  refine codeAny_mono (code_set_led1 (.ref l) (E := E) (Q₁ := fun obj s₁ => obj = .ref s.heap.objs.size ∧ s₁ = { s with heap := s.heap.push (bare0 w) }) ⟨rfl, rfl⟩) fun r s₁ hr => ?_
  cases r with
  | error e => exact hr
  | ok fl =>
    cases fl with
    | ret obj =>
      obtain ⟨rfl, rfl⟩ := hr
      have hS : (s.heap.push (bare0 w)).get? s.heap.objs.size = some (bare0 w) := Heap.get?_push_size _ rfl
      have hT : Shared.TypeIs { s with heap := s.heap.push (bare0 w) } (.ref s.heap.objs.size) "set" := ⟨_, hS, rfl⟩
      have hli := F.called_set.init.lookup
      have hbi := F.called_set.init.bind (.ref s.heap.objs.size)
      repeat (any_goals (first | assumption | wp_step))
      refine codeAny_mono (codeAny_call_builtin (R := wants (fun r s₂ => r = .none ∧ ∃ h' tk, s₂ = { s with heap := h', toks := tk } ∧ SetM w h' s.heap.objs.size (setL ks) ∧
          (∀ b o, s.heap.get? b = some o → h'.get? b = some o)) E) F.called_set.init.plain F.entry_set_init (check_set_init_1 hT ?_)) fun r₂ s₂ hr₂ => ?_
      · obtain ⟨ol, hol, hcl, nl, hdl⟩ := hl
        obtain ⟨ocls, odict, odata, oslots⟩ := ol
        simp only at hcl hdl
        subst hcl; subst hdl
        have hol' : (s.heap.push (bare0 w)).get? l = some { cls := .type "list", dict := odict, data := .seq items nl, slots := oslots } := Heap.get?_push_of_some _ hol
        have hsls := F.sub_list_set
        have hslf := F.sub_list_frozenset
        have hne : (Value.type "list" == Value.type "dict") = false := by decide
        have hl1 : (s.heap.push (bare0 w)).IsList l items := ⟨_, hol', rfl, nl, rfl⟩
        unfold Builtin.«set.__init__» noKeywords Builtin.Frozenset.updateFrom
        generalize hPI : pyIter = PI
        wp_walk
        subst hPI
        refine wpAny_pyIter_list hl1 ?_
        refine wpAny_bind (wpAny_runValue ?_)
        have hlS : l < s.heap.objs.size := Heap.lt_size hol
        have hh3 : A.in1.in1.in1.handled = none := by simp [hh]
        have hneI : l ≠ (s.heap.push (bare0 w)).objs.size := by
          rw [Heap.size_push]; exact Nat.ne_of_lt (Nat.lt_succ_of_lt hlS)
        have hSf : s.heap.objs.size ∉ [(s.heap.push (bare0 w)).objs.size, l] := by
          rw [Heap.size_push]; simp only [List.mem_cons, List.mem_singleton, List.not_mem_nil, or_false, not_or]
          exact ⟨Nat.ne_of_lt (Nat.lt_succ_self _), Nat.ne_of_gt hlS⟩
        refine setM_update ((Walks.list hh3 _ l hneI items).toS) s.heap.objs.size hSf ks hisz hb (fun i v hv => hit.get (by rw [Array.getElem?_toList]; exact hv)) (items.size - 0) 0 _ (by omega) (Nat.zero_le _)
          ⟨⟨_, Heap.get?_push_size _ rfl, rfl, rfl⟩, (hl1.push _)⟩ ?hS0 ?hR
        case hS0 =>
          exact setM_fresh (Heap.get?_push_of_some _ hS)
        case hR =>
          intro s' hm hS'
          obtain ⟨h', g2, d', tk', os'⟩ := s'
          have eg : g2 = s.gens := hm.gens
          have ed : d' = s.drawn := hm.drawn
          have eo : os' = s.os := hm.os
          subst eg; subst ed; subst eo
          show wpAny _ _ _ _ _ _
          refine wpAny_pure ?_
          show wpAny _ _ (ret Value.none) _ _ _
          refine wpAny_pure ⟨rfl, h', tk', rfl, hS', fun b o e => ?_⟩
          have hb0 : b < s.heap.objs.size := Heap.lt_size e
          have hb2 : b ≠ (s.heap.push (bare0 w)).objs.size := by
            rw [Heap.size_push]; exact Nat.ne_of_lt (Nat.lt_succ_of_lt hb0)
          exact hm.heap b o (by simp only [List.mem_cons, List.mem_singleton, List.not_mem_nil, or_false, not_or]; exact ⟨Nat.ne_of_lt hb0, hb2⟩) (Heap.get?_push_of_some _ (Heap.get?_push_of_some _ e))
      · cases r₂ with
        | error e => exact hr₂
        | ok fl₂ =>
          cases fl₂ with
          | ret r =>
            obtain ⟨rfl, h', tk, rfl, hS', hk'⟩ := hr₂
            repeat (any_goals (first | assumption | wp_step))
            exact h _ _ hS' hk'
          | _ => exact hr₂.elim
    | _ => exact hr.elim
end
end G

set_option Elab.async false
set_option linter.all false
set_option maxRecDepth 100000
set_option maxHeartbeats 4000000
/-! S3: sorted(set of texts); both in the layer. -/
namespace G
open PySem PySem.Spec PyProof.Rows L2
section
variable {P : Program} {w : World} {A : Around} {E : Value → Shared → Prop} {s : Shared}
theorem strs_keys : ∀ {vs : List Value} {ks : List Key} {xs : List Str}, KeysAre vs ks → ks = xs.map Sum.inr → StrsAre vs xs
  | _, _, [], .nil, _ => .nil
  | _, _, _ :: _, .nil, h => by cases h
  | _, _, [], .cons _ _, h => by cases h
  | _, _, x :: xs, .cons a t, h => by
    have e1 := (List.cons.inj h).1
    have e2 := (List.cons.inj h).2
    rw [e1] at a
    rcases keyIs_shape a with ⟨i, tk, e3, e4⟩ | ⟨y, tk, e3, e4⟩
    · cases e3
    · cases e3
      rw [e4]
      exact .cons _ _ (strs_keys t e2)
theorem goodM_keys : ∀ {l : List (Int × Value)}, (∀ e ∈ l, GoodM w e) → KeysAre (l.map (·.2)) (l.map keyM)
  | [], _ => .nil
  | e :: l, h => by
    obtain ⟨k, h1, _⟩ := h e List.mem_cons_self
    refine .cons ?_ (goodM_keys fun x hx => h x (List.mem_cons_of_mem _ hx))
    rw [keyM_of h1]
    exact h1
theorem perm_keys {vs us : List Value} (p : us.Perm vs) : ∀ {ks : List Key}, KeysAre vs ks → ∃ js, KeysAre us js ∧ js.Perm ks := by
  induction p with
  | nil => exact fun h => ⟨_, h, List.Perm.refl _⟩
  | cons x _ ih =>
    intro ks h
    cases h with
    | cons a t =>
      obtain ⟨js, h1, h2⟩ := ih t
      exact ⟨_, .cons a h1, h2.cons _⟩
  | swap x y l =>
    intro ks h
    cases h with
    | cons a t =>
      cases t with
      | cons b t => exact ⟨_, .cons b (.cons a t), List.Perm.swap _ _ _⟩
  | trans _ _ ih1 ih2 =>
    intro ks h
    obtain ⟨js, h1, h2⟩ := ih2 h
    obtain ⟨is, h3, h4⟩ := ih1 h1
    exact ⟨is, h3, h4.trans h2⟩
def strK : Key → Option Str
  | .inr x => some x
  | .inl _ => none
theorem strK_map : ∀ l : List Str, (l.map (Sum.inr : Str → Key)).filterMap strK = l
  | [] => rfl
  | x :: r => by
    rw [List.map_cons, List.filterMap_cons]
    show x :: _ = _
    rw [strK_map r]
theorem strK_all : ∀ js : List Key, (∀ k ∈ js, ∃ x, k = Sum.inr x) → js = (js.filterMap strK).map Sum.inr
  | [], _ => rfl
  | k :: r, h => by
    obtain ⟨x, rfl⟩ := h k List.mem_cons_self
    rw [List.filterMap_cons]
    show _ = Sum.inr x :: List.map Sum.inr (r.filterMap strK)
    rw [← strK_all r fun k hk => h k (List.mem_cons_of_mem _ hk)]
theorem sorted_setM {a : Addr} {xs : List Str} {Q : Value → Shared → Prop} (R : SetM w s.heap a (xs.map Sum.inr)) (hh : A.handled = none) (h64 : xs.length < 64)
    (hQ : ∀ s' p (out : Array Value) (c : Nat) (ys : List Str), (∀ b o, s.heap.get? b = some o → s'.heap.get? b = some o) → s'.gens = s.gens → s'.os = s.os → s.heap.objs.size ≤ p →
      s'.heap.get? p = some (seqObj "list" out c) → StrsAre out.toList ys → ys.Perm xs → sortedS ys = true → Q (.ref p) s') :
    wpAny (model P w) A (call (.builtin "sorted") [.ref a]) Q E s := by
  obtain ⟨o, es, ep, t, ho, hex, hd, g, pL, nd, hb, hf, hr, hl⟩ := R
  refine Calls.call_function_entry kind_sorted plain_sorted entry_sorted (args_sorted1 _) ?_
  unfold Builtin.«sorted»
  refine wpAny_bind (m := checkCount "sorted" 1 1 _) (wpAny_pure ?_)
  refine wpAny_bind (collect_set (A := A.in1) hh ⟨o, ho, hex.1, hd⟩ hf hb hr hl fun s1 vs k1 hz g1 o1 pm => ?_)
  obtain ⟨js, q1, q2⟩ := perm_keys pm (goodM_keys g)
  have q3 := q2.trans pL
  obtain ⟨zs, rfl⟩ : ∃ zs : List Str, js = zs.map Sum.inr := by
    refine ⟨js.filterMap strK, strK_all js fun k hk => ?_⟩
    obtain ⟨x, _, e⟩ := List.mem_map.mp (q3.mem_iff.mp hk)
    exact ⟨x, e.symm⟩
  have hS : StrsAre vs zs := strs_keys q1 rfl
  have pz : zs.Perm xs := by
    have e := q3.filterMap strK
    rw [strK_map, strK_map] at e
    exact e
  have hal : vs.length = xs.length := by rw [q1.length, List.length_map, pz.length_eq]
  refine wpAny_bind (wpAny_newList ?_ (by rw [hal, sizeLine_eq]; omega))
  have hoL : (s1.heap.push (seqObj "list" vs.toArray 0)).get? s1.heap.objs.size = some (seqObj "list" vs.toArray 0) := Heap.get?_push_size _ rfl
  refine wpAny_bind (wpAny_holding (wpAny_call_entry slot_list_sort ⟨_, hoL, rfl⟩ entry_list_sort
    (list_sort_treeK strKind_oneLt (s := { s1 with heap := s1.heap.push (seqObj "list" vs.toArray 0) }) hoL hS.keysOf (fun v₁ v₂ rest e => keyKind_strs (by rw [← e]; exact hS)) (by rw [hal]; exact h64) fun st' hp hs => ⟨_, rfl, ?_⟩)
    (args_list_sort _)))
  obtain ⟨ys, e1, e2, e3⟩ := sorted_out_str hS hp hs
  obtain ⟨e', he'⟩ := sortedHeap_at (vs := vs) (out := (arrOf st').map (·.2)) hoL
  refine wpAny_pure ⟨_, rfl, hQ _ s1.heap.objs.size _ e' ys (fun b u e => ?_) g1 o1 hz he' e1 (e2.trans pz) e3⟩
  have q := k1 b u e
  have hlt := Heap.lt_size q
  rw [sortedHeap_old (Nat.ne_of_lt hlt) (by rw [size_push']; exact Nat.lt_succ_of_lt hlt)]
  exact Heap.get?_push_of_some _ q
end
/-! ### in the layer -/
def SetMO (w : World) (a : Addr) (L : List Key) : HO := .ext fun h => SetM w h a L
theorem setMO_new {w : World} {P : Program} {H : Hp} {h : Heap} {a : Addr} {L : List Key} (R : SetM w h a L) : ObjOk P w H h a (SetMO w a L) := by
  have ⟨o, _, _, _, ho, _⟩ := R
  exact ⟨R, ⟨o, ho⟩, fun h1 h2 p k => SetM.at p k⟩
def rSetM (K : PySem.W.Frag) (w : World) : List V → Hp → VK → Prop := fun xs H Q => ∃ (l : Addr) (ks : List Key), xs = [V.ref l] ∧ SqL K H l (ks.map kV) ∧ ks.length + 1 < scanBound ∧ ∀ a, H a = none → Q (.ref a) (upd H a (SetMO w a (setL ks)))
theorem keys_vals : ∀ {ks : List Key} {us : List Value}, Vals (ks.map kV) us → KeysAre us ks
  | [], _, .nil => .nil
  | .inl i :: ks, _, .cons r t => .cons (by obtain ⟨tk, rfl⟩ := r; exact keyIs_int i tk) (keys_vals t)
  | .inr x :: ks, _, .cons r t => .cons (by obtain ⟨tk, rfl⟩ := r; exact keyIs_str x tk) (keys_vals t)
section
variable {X : Cx} {K : PySem.W.Frag} {O : Addr → Prop} {H : Hp} {σ : L2.St}
theorem cr_setM (hc : X.calm = true) : CallR X (.type "set") (rSetM X.K X.w) := by
  intro pins s σ H xs us Q I r h
  obtain ⟨l, ks, rfl, hl, hb, q⟩ := h
  rw [Vals.ref1 r]
  obtain ⟨its, rv, pl, hz⟩ := I.list hl
  refine call_setM (P := X.prog) (w := X.w) ks (I.ok.hd hc) pl.isList (by simpa using keys_vals rv) hb fun h' tk R k => ?_
  exact ⟨.ref s.heap.objs.size, upd H s.heap.objs.size (SetMO X.w s.heap.objs.size (setL ks)), I.laid (t' := tk) k (Nat.le_refl _) (setMO_new R), rfl, q _ (I.hok.fresh (Nat.le_refl _))⟩
def rSortedM (w : World) : List V → Hp → VK → Prop := fun vs H Q => ∃ (a : Addr) (xs : List Str), vs = [V.ref a] ∧ H a = some (SetMO w a (xs.map Sum.inr)) ∧ xs.length < 64 ∧
  ∀ (ys : List Str) (p : Addr), ys.Perm xs → sortedS ys = true → H p = none → Q (.ref p) (upd H p (.lst (ys.map V.str)))
theorem cr_sortedM (hc : X.calm = true) : CallR X (.builtin "sorted") (rSortedM X.w) := by
  intro pins s σ H vs us Q I r h
  obtain ⟨a, xs, rfl, ha, h64, q⟩ := h
  have R : SetM X.w s.heap a (xs.map Sum.inr) := (I.hok a _ ha).1
  rw [Vals.ref1 r]
  refine sorted_setM R (I.ok.hd hc) h64 fun s' p out c ys k g o hp hg hi pm hs => ?_
  have hlen : (ys.map V.str).length ≤ sizeLine := by rw [List.length_map, pm.length_eq, sizeLine_eq]; omega
  have hn : H p = none := I.hok.fresh hp
  have J : Inv X pins σ (upd H p (.lst (ys.map V.str))) { s with heap := s'.heap, gens := s'.gens, drawn := s'.drawn, toks := s'.toks } :=
    I.call (ch := []) (Un.laid k hp hn) (I.hok.laid k hp ⟨hlen, out.toList, c, vals_of_strs hi, hg⟩) (by rw [g]; exact I.bare) (fun _ z => nomatch z)
  have e : s' = { s with heap := s'.heap, gens := s'.gens, drawn := s'.drawn, toks := s'.toks } := by
    cases s'
    cases s
    cases o
    rfl
  rw [e]
  exact ⟨.ref p, _, J, rfl, q ys p pm hs hn⟩
end
end G

set_option Elab.async false
set_option linter.all false
set_option maxRecDepth 100000
set_option maxHeartbeats 4000000
/-! Z1: list(zip(a, b)) of two tuples. -/
namespace G
open PySem PySem.Spec PyProof.Rows L2
section
variable {prog : Program} {w : World} {A : Around} {E : Value → Shared → Prop} {s : Shared}
theorem zipTH_item {z TI TO T i1 i2 l1 l2 : Addr} {f : Bool} {oT : Obj} {k1 k2 : Nat} {xs ys : Array Value} {x y : Value} {Q : Option Value → Shared → Prop} (D : ZipApart z TI TO i1 i2 l1 l2)
    (hz : IsZipHeld s.heap z TI TO T f) (hT : s.heap.get? T = some oT) (hTI : IsPair s.heap TI (.ref i1) (.ref i2))
    (h1 : s.heap.IsTupleIter i1 l1 k1) (h2 : s.heap.IsTupleIter i2 l2 k2) (hl1 : s.heap.IsTuple l1 xs) (hl2 : s.heap.IsTuple l2 ys) (hx : xs[k1]? = some x) (hy : ys[k2]? = some y)
    (hQ : ∀ h', IsZipHeld h' z TI TO T true → h'.IsTupleIter i1 l1 (k1 + 1) → h'.IsTupleIter i2 l2 (k2 + 1) → IsPair h' s.heap.objs.size x y → h'.objs.size = s.heap.objs.size + 1 →
      (∀ c o, c ≠ z → c ≠ i1 → c ≠ i2 → s.heap.get? c = some o → h'.get? c = some o) → Q (some (.ref s.heap.objs.size)) { s with heap := h' }) :
    wpAny (model prog w) A (pyNext (.ref z)) Q E s := by
  have hTy : s.TypeIs (.ref z) "zip" := ⟨_, hz, rfl⟩
  unfold pyNext
  refine wpAny_bind (wpAny_attempt (wpAny_callSpecial?_slot (name := Str.ofString "__next__") hTy F.slot_zip_next
    (wpAny_call_entry F.slot_zip_next hTy F.entry_zip_next ?_ (F.args_zip_next_1 _))))
  show wpAny _ _ (field (.ref z) 2 >>= _) _ _ _
  refine wpAny_bind (wpAny_field hz rfl (x := .bool false) rfl ?_)
  show wpAny _ _ (field (.ref z) 3 >>= _) _ _ _
  refine wpAny_bind (wpAny_field hz rfl (x := .ref TI) rfl ?_)
  refine wpAny_bind (wpAny_seqItems hTI rfl ?_)
  show wpAny _ _ (Builtin.SmallTypes.ownedTupleIsFree (.ref z) >>= _) _ _ _
  refine wpAny_bind (wpAny_tupleHeld_zip hz hT fun h₁ hz₁ hs₁ => ?_)
  simp only [Bool.false_eq_true, if_false]
  refine wpAny_bind ?_
  rw [← Array.forIn_toList]
  simp only [List.forIn_cons, List.forIn_nil]
  refine wpAny_bind (wpAny_bind (wpAny_holding ?_))
  show wpAny _ _ (Builtin.SmallTypes.nextOf (.ref i1) >>= _) _ _ _
  refine wpAny_bind (RZ.nextOf_tuple_item (s := { s with heap := h₁ }) (h1.extBut hs₁.extBut D.i1z) (hl1.extBut hs₁.extBut D.l1z) hx fun h₂ h1₂ hs₂ => wpAny_pure ?_)
  refine wpAny_pure ?_
  refine wpAny_bind (wpAny_bind (wpAny_holding ?_))
  show wpAny _ _ (Builtin.SmallTypes.nextOf (.ref i2) >>= _) _ _ _
  refine wpAny_bind (RZ.nextOf_tuple_item (s := { s with heap := h₂ }) ((h2.extBut hs₁.extBut D.i2z).extBut hs₂.extBut D.i12.symm) ((hl2.extBut hs₁.extBut D.l2z).extBut hs₂.extBut D.l2i1) hy fun h₃ h2₃ hs₃ => wpAny_pure ?_)
  refine wpAny_pure (wpAny_pure ?_)
  show wpAny _ _ (newTuple [x, y] >>= _) _ _ _
  refine wpAny_bind (wpAny_newTuple ?_)
  have hsz : h₃.objs.size = s.heap.objs.size := by rw [hs₃.1, hs₂.1, hs₁.1]
  have hz₃ : IsZipHeld h₃ z TI TO T true := hs₃.extBut _ _ D.i2z.symm (hs₂.extBut _ _ D.i1z.symm hz₁)
  have hk : ∀ c o, c ≠ z → c ≠ i1 → c ≠ i2 → s.heap.get? c = some o → h₃.get? c = some o := fun c o c1 c2 c3 e => hs₃.extBut _ _ c3 (hs₂.extBut _ _ c2 (hs₁.extBut _ _ c1 e))
  have h1₃ : h₃.IsTupleIter i1 l1 (k1 + 1) := h1₂.extBut hs₃.extBut D.i12
  refine wpAny_pure ⟨_, rfl, wpAny_pure ?_⟩
  show Q (some (.ref h₃.objs.size)) _
  have hp : IsPair (h₃.push { cls := .type "tuple", data := .seq #[x, y] }) h₃.objs.size x y := Heap.get?_push_size _ rfl
  have hz4 : (h₃.push { cls := .type "tuple", data := .seq #[x, y] }).objs.size = h₃.objs.size + 1 := Heap.size_push ..
  rw [hsz] at hp hz4 ⊢
  exact hQ _ (Heap.get?_push_of_some _ hz₃) (h1₃.at fun o e => Heap.get?_push_of_some _ e) (h2₃.at fun o e => Heap.get?_push_of_some _ e) hp hz4 fun c o c1 c2 c3 e => Heap.get?_push_of_some _ (hk c o c1 c2 c3 e)

theorem zipTH_end {z TI TO T i1 i2 l1 l2 : Addr} {f : Bool} {oT : Obj} {k1 k2 : Nat} {xs ys : Array Value} {Q : Option Value → Shared → Prop} (hh : A.handled = none) (D : ZipApart z TI TO i1 i2 l1 l2)
    (hz : IsZipHeld s.heap z TI TO T f) (hT : s.heap.get? T = some oT) (hTI : IsPair s.heap TI (.ref i1) (.ref i2))
    (h1 : s.heap.IsTupleIter i1 l1 k1) (h2 : s.heap.IsTupleIter i2 l2 k2) (hl1 : s.heap.IsTuple l1 xs) (hl2 : s.heap.IsTuple l2 ys) (hend : xs[k1]? = none ∨ ys[k2]? = none)
    (hQ : ∀ h', (∀ c o, c ≠ z → c ≠ i1 → c ≠ i2 → s.heap.get? c = some o → h'.get? c = some o) → Q none { s with heap := h' }) :
    wpAny (model prog w) A (pyNext (.ref z)) Q E s := by
  have hTy : s.TypeIs (.ref z) "zip" := ⟨_, hz, rfl⟩
  have stop : ∀ (h' : Heap) (e : Addr), (∀ c o, c ≠ z → c ≠ i1 → c ≠ i2 → s.heap.get? c = some o → h'.get? c = some o) → (∃ o, h'.get? e = some o ∧ o.cls = .type "StopIteration") →
      wpAny (model prog w) A (do if ← isInstance (.ref e) (.type "StopIteration") then pure none else throw (.ref e)) Q E { s with heap := h' } := fun h' e hk ⟨o, ho, hc⟩ => by
    refine wpAny_bind (wpAny_isInstance (T := "StopIteration") (b := true) ⟨o, ho, hc⟩ isSubtype_stop ?_)
    exact wpAny_pure (hQ _ hk)
  unfold pyNext
  refine wpAny_bind (wpAny_attempt (wpAny_callSpecial?_slot (name := Str.ofString "__next__") hTy F.slot_zip_next
    (wpAny_call_entry F.slot_zip_next hTy F.entry_zip_next ?_ (F.args_zip_next_1 _))))
  show wpAny _ _ (field (.ref z) 2 >>= _) _ _ _
  refine wpAny_bind (wpAny_field hz rfl (x := .bool false) rfl ?_)
  show wpAny _ _ (field (.ref z) 3 >>= _) _ _ _
  refine wpAny_bind (wpAny_field hz rfl (x := .ref TI) rfl ?_)
  refine wpAny_bind (wpAny_seqItems hTI rfl ?_)
  show wpAny _ _ (Builtin.SmallTypes.ownedTupleIsFree (.ref z) >>= _) _ _ _
  refine wpAny_bind (wpAny_tupleHeld_zip hz hT fun h₁ hz₁ hs₁ => ?_)
  simp only [Bool.false_eq_true, if_false]
  refine wpAny_bind ?_
  rw [← Array.forIn_toList]
  simp only [List.forIn_cons, List.forIn_nil]
  refine wpAny_bind (wpAny_bind (wpAny_holding ?_))
  show wpAny _ _ (Builtin.SmallTypes.nextOf (.ref i1) >>= _) _ _ _
  cases hx : xs[k1]? with
  | none =>
    refine wpAny_bind (RZ.nextOf_tuple_end (s := { s with heap := h₁ }) hh (h1.extBut hs₁.extBut D.i1z) (hl1.extBut hs₁.extBut D.l1z) hx fun h₂ e hs₂ he => ?_)
    exact stop h₂ e (fun c o c1 c2 _ x => hs₂ _ _ c2 (hs₁.extBut _ _ c1 x)) he
  | some x =>
    have hy : ys[k2]? = none := by rcases hend with h | h; rw [hx] at h; cases h; exact h
    refine wpAny_bind (RZ.nextOf_tuple_item (s := { s with heap := h₁ }) (h1.extBut hs₁.extBut D.i1z) (hl1.extBut hs₁.extBut D.l1z) hx fun h₂ h1₂ hs₂ => wpAny_pure ?_)
    refine wpAny_pure ?_
    refine wpAny_bind (wpAny_bind (wpAny_holding ?_))
    show wpAny _ _ (Builtin.SmallTypes.nextOf (.ref i2) >>= _) _ _ _
    refine wpAny_bind (RZ.nextOf_tuple_end (s := { s with heap := h₂ }) hh ((h2.extBut hs₁.extBut D.i2z).extBut hs₂.extBut D.i12.symm) ((hl2.extBut hs₁.extBut D.l2z).extBut hs₂.extBut D.l2i1) hy fun h₃ e hs₃ he => ?_)
    exact stop h₃ e (fun c o c1 c2 c3 x => hs₃ _ _ c3 (hs₂.extBut _ _ c2 (hs₁.extBut _ _ c1 x))) he
end
/-- the pairs handed out: n0 the heap's size before -/
def PsAt (n0 : Nat) (z TO i1 i2 S : Addr) (xs ys : Array Value) (h : Heap) (ps : List Addr) : Prop :=
  ∀ (j : Nat) (p : Addr), ps[j]? = some p → n0 ≤ p ∧ p ≠ z ∧ p ≠ TO ∧ p ≠ i1 ∧ p ≠ i2 ∧ p ≠ S ∧ ∃ x y, xs[j]? = some x ∧ ys[j]? = some y ∧ IsPair h p x y
/-- what stands between two turns of list(zip(..)): i turns done, ps the pairs handed out -/
structure ZSt (n0 : Nat) (z TI TO i1 i2 l1 l2 S : Addr) (xs ys : Array Value) (h : Heap) (i : Nat) (ps : List Addr) : Prop where
  hTI : IsPair h TI (.ref i1) (.ref i2)
  h1 : h.IsTupleIter i1 l1 i
  h2 : h.IsTupleIter i2 l2 i
  t1 : h.IsTuple l1 xs
  t2 : h.IsTuple l2 ys
  zip : (IsZip h z TI TO .none ∧ ∃ a b, IsPair h TO a b) ∨ ∃ T f oT, IsZipHeld h z TI TO T f ∧ h.get? T = some oT ∧ T ≠ z ∧ T ≠ i1 ∧ T ≠ i2 ∧ T ≠ S
  len : ps.length = i
  at_ : PsAt n0 z TO i1 i2 S xs ys h ps
  nd : ps.Nodup
  to_ : ∃ o, h.get? TO = some o
theorem PsAt.keep {n0 : Nat} {z TO i1 i2 S : Addr} {xs ys : Array Value} {h h' : Heap} {ps : List Addr} (Z : PsAt n0 z TO i1 i2 S xs ys h ps) (hk : ∀ b o, b ≠ z → b ≠ TO → b ≠ i1 → b ≠ i2 → b ≠ S → h.get? b = some o → h'.get? b = some o) : PsAt n0 z TO i1 i2 S xs ys h' ps := fun j p hp => by
  obtain ⟨a0, a1, a2, a3, a4, a5, x, y, b1, b2, b3⟩ := Z j p hp
  exact ⟨a0, a1, a2, a3, a4, a5, x, y, b1, b2, hk _ _ a1 a2 a3 a4 a5 b3⟩
section
variable {prog : Program} {w : World} {A : Around} {s : Shared} {R : Result → Shared → Prop}
theorem ZSt.keep {n0 : Nat} {z TI TO i1 i2 l1 l2 S : Addr} {xs ys : Array Value} {h h' : Heap} {i : Nat} {ps : List Addr} (Z : ZSt n0 z TI TO i1 i2 l1 l2 S xs ys h i ps) (hk : ∀ b o, b ≠ S → h.get? b = some o → h'.get? b = some o)
    (nS : S ≠ z ∧ S ≠ TI ∧ S ≠ TO ∧ S ≠ i1 ∧ S ≠ i2 ∧ S ≠ l1 ∧ S ≠ l2) : ZSt n0 z TI TO i1 i2 l1 l2 S xs ys h' i ps := by
  obtain ⟨n1, n2, n3, n4, n5, n6, n7⟩ := nS
  refine ⟨hk _ _ n2.symm Z.hTI, Z.h1.at fun o e => hk _ o n4.symm e, Z.h2.at fun o e => hk _ o n5.symm e, Z.t1.at fun o e => hk _ o n6.symm e, Z.t2.at fun o e => hk _ o n7.symm e, ?_, Z.len, Z.at_.keep fun b o _ _ _ _ n => hk b o n, Z.nd, let ⟨o, e⟩ := Z.to_; ⟨o, hk _ _ n3.symm e⟩⟩
  rcases Z.zip with ⟨a, x, y, b⟩ | ⟨T, f, oT, a, b, c1, c2, c3, c4⟩
  · exact .inl ⟨hk _ _ n1.symm a, x, y, hk _ _ n3.symm b⟩
  · exact .inr ⟨T, f, oT, hk _ _ n1.symm a, hk _ _ c4 b, c1, c2, c3, c4⟩
theorem zip_extend {n0 : Nat} {z TI TO i1 i2 l1 l2 S : Addr} {xs ys : Array Value} (D : ZipApart z TI TO i1 i2 l1 l2) (hh : A.handled = none) (nS : S ≠ z ∧ S ≠ TI ∧ S ≠ TO ∧ S ≠ i1 ∧ S ≠ i2 ∧ S ≠ l1 ∧ S ≠ l2) (hl : min xs.size ys.size ≤ sizeLine) (res : Value) (s0 : Heap) :
    ∀ (k i : Nat) (s : Shared) (ps : List Addr) (c : Nat), min xs.size ys.size - i = k → i ≤ min xs.size ys.size → n0 ≤ s.heap.objs.size → ZSt n0 z TI TO i1 i2 l1 l2 S xs ys s.heap i ps →
      s.heap.get? S = some { cls := .type "list", dict := none, data := .seq (ps.map Value.ref).toArray c, slots := #[] } → (∀ b o, b ≠ z → b ≠ TO → b ≠ i1 → b ≠ i2 → b ≠ S → s0.get? b = some o → s.heap.get? b = some o) →
      (∀ h' ps' c', PsAt n0 z TO i1 i2 S xs ys h' ps' → ps'.Nodup → ps'.length = min xs.size ys.size → h'.get? S = some { cls := .type "list", dict := none, data := .seq (ps'.map Value.ref).toArray c', slots := #[] } →
        (∀ b o, b ≠ z → b ≠ TO → b ≠ i1 → b ≠ i2 → b ≠ S → s0.get? b = some o → h'.get? b = some o) → R (.ok (.ret res)) { s with heap := h' }) →
      codeAny (model prog w) A (.builtin "list.extend.loop" ⟨[.ref S, .ref z, res], []⟩) R s := by
  obtain ⟨n1, n2, n3, n4, n5, n6, n7⟩ := nS
  intro k
  induction k with
  | zero =>
    intro i s ps c hk hi h0 Z hS hkeep hR
    have hin : i = min xs.size ys.size := by omega
    have hend : xs[i]? = none ∨ ys[i]? = none := by
      rcases Nat.le_total xs.size ys.size with h | h
      · exact .inl (Array.getElem?_eq_none (by omega))
      · exact .inr (Array.getElem?_eq_none (by omega))
    refine codeAny_builtin F.entry_extend_loop ?_
    rw [Around.under_plainId F.plain_extend_loop _]
    show wpAny _ A.in1 (pyNext (.ref z) >>= _) _ _ s
    refine wpAny_bind ?_
    have fin : ∀ h', (∀ c o, c ≠ z → c ≠ TO → c ≠ i1 → c ≠ i2 → s.heap.get? c = some o → h'.get? c = some o) → R (.ok (.ret res)) { s with heap := h' } := fun h' hk' =>
      hR h' ps c (Z.at_.keep fun b o a1 a2 a3 a4 _ => hk' b o a1 a2 a3 a4) Z.nd (by rw [Z.len, hin]) (hk' _ _ n1 n3 n4 n5 hS) fun b o a1 a2 a3 a4 a5 e => hk' b o a1 a2 a3 a4 (hkeep b o a1 a2 a3 a4 a5 e)
    rcases Z.zip with ⟨hz, a, b, hTO⟩ | ⟨T, f, oT, hz, hT, r1, r2, r3, r4⟩
    · exact RZ.pyNext_zipT_end hh D hz Z.hTI hTO Z.h1 Z.h2 Z.t1 Z.t2 hend fun h' hk' => wpAny_pure (fin h' hk')
    · exact zipTH_end hh D hz hT Z.hTI Z.h1 Z.h2 Z.t1 Z.t2 hend fun h' hk' => wpAny_pure (fin h' fun c o c1 _ c3 c4 e => hk' c o c1 c3 c4 e)
  | succ k ih =>
    intro i s ps c hk hi h0 Z hS hkeep hR
    have hix : i < xs.size := by omega
    have hiy : i < ys.size := by omega
    have ex := Array.getElem?_eq_getElem hix
    have ey := Array.getElem?_eq_getElem hiy
    have lt : ∀ {c o}, s.heap.get? c = some o → s.heap.objs.size ≠ c := fun e => Nat.ne_of_gt (Heap.lt_size e)
    have m1 : s.heap.objs.size ≠ i1 := let ⟨_, e, _⟩ := Z.h1; lt e
    have m2 : s.heap.objs.size ≠ i2 := let ⟨_, e, _⟩ := Z.h2; lt e
    have mS : s.heap.objs.size ≠ S := lt hS
    refine codeAny_builtin F.entry_extend_loop ?_
    rw [Around.under_plainId F.plain_extend_loop _]
    show wpAny _ A.in1 (pyNext (.ref z) >>= _) _ _ s
    refine wpAny_bind ?_
    have step : ∀ h', s.heap.objs.size ≠ z → s.heap.objs.size ≠ TO → IsPair h' s.heap.objs.size xs[i] ys[i] → h'.objs.size = s.heap.objs.size + 1 → IsPair h' TI (.ref i1) (.ref i2) → h'.IsTupleIter i1 l1 (i + 1) → h'.IsTupleIter i2 l2 (i + 1) → h'.IsTuple l1 xs → h'.IsTuple l2 ys →
        ((IsZip h' z TI TO .none ∧ ∃ a b, IsPair h' TO a b) ∨ ∃ T f oT, IsZipHeld h' z TI TO T f ∧ h'.get? T = some oT ∧ T ≠ z ∧ T ≠ i1 ∧ T ≠ i2 ∧ T ≠ S) →
        (∃ o, h'.get? TO = some o) → (∀ c o, c ≠ z → c ≠ TO → c ≠ i1 → c ≠ i2 → s.heap.get? c = some o → h'.get? c = some o) →
        wpAny (model prog w) A.in1 (updateSeq S (·.push (.ref s.heap.objs.size)) >>= fun _ => again (.builtin "list.extend.loop" ⟨[.ref S, .ref z, res], []⟩))
          (fun fin s' => match fin with | .done f => R (.ok f) s' | .again c' => c'.quiet = true ∧ codeAny (model prog w) A c' R s') (fun e s' => R (.error e) s') { s with heap := h' } := by
      intro h' mz mTO hp hsz hTI h1 h2 t1 t2 hzip hto hk'
      have hS' := hk' _ _ n1 n3 n4 n5 hS
      have hps : ps.length ≤ sizeLine := by rw [Z.len]; omega
      have Z' : ZSt n0 z TI TO i1 i2 l1 l2 S xs ys h' (i + 1) (ps ++ [s.heap.objs.size]) := by
        refine ⟨hTI, h1, h2, t1, t2, hzip, by rw [List.length_append, Z.len]; rfl, fun j p hj => ?_, ?_, hto⟩
        · rcases Nat.lt_or_ge j ps.length with q | q
          · rw [List.getElem?_append_left q] at hj
            exact (Z.at_.keep fun b o a1 a2 a3 a4 _ => hk' b o a1 a2 a3 a4) j p hj
          · rw [List.getElem?_append_right q] at hj
            have q2 : j - ps.length = 0 := by
              rcases Nat.eq_zero_or_pos (j - ps.length) with z0 | z0
              · exact z0
              · rw [List.getElem?_eq_none (by rw [List.length_singleton]; exact z0)] at hj
                cases hj
            rw [q2] at hj
            cases hj
            have hji : j = i := by have := Z.len; omega
            subst hji
            exact ⟨h0, mz, mTO, m1, m2, mS, _, _, ex, ey, hp⟩
        · refine List.nodup_append.mpr ⟨Z.nd, List.nodup_cons.mpr ⟨by simp, List.nodup_nil⟩, fun a ha b hb => ?_⟩
          rw [List.mem_singleton.mp hb]
          obtain ⟨j, hj⟩ := List.mem_iff_getElem?.mp ha
          obtain ⟨_, _, _, _, _, _, x, y, _, _, hpr⟩ := Z.at_ j a hj
          exact (lt hpr).symm
      obtain ⟨c2, e3⟩ : ∃ c2, (h'.update S (Obj.mapSeq (·.push (.ref s.heap.objs.size)))).get? S = some { cls := .type "list", dict := none, data := .seq ((ps ++ [s.heap.objs.size]).map Value.ref).toArray c2, slots := #[] } := by
        have e2 := Heap.get?_update_self (Obj.mapSeq (·.push (.ref s.heap.objs.size))) hS' rfl
        rw [List.map_append, List.map_cons, List.map_nil, ← List.push_toArray]
        exact ⟨_, e2⟩
      refine wpAny_bind ?_
      refine wpAny_updateSeq hS' rfl (wpAny_pure ⟨plainId_quiet F.plain_extend_loop _, ih (i + 1) { s with heap := h'.update S (Obj.mapSeq (·.push (.ref s.heap.objs.size))) } (ps ++ [s.heap.objs.size]) c2 (by omega) (by omega) ?_ (Z'.keep (fun b o hb e => ?_) ⟨n1, n2, n3, n4, n5, n6, n7⟩) e3 (fun b o a1 a2 a3 a4 a5 e => ?_) fun h'' ps' c' a1 a2 a3 a4 a5 => hR h'' ps' c' a1 a2 a3 a4 a5⟩)
        (by rw [List.size_toArray, List.length_map]; exact Nat.le_trans hps (by decide)) (by show ((ps.map Value.ref).toArray.push _).size ≤ sizeLine + 1; rw [Array.size_push, List.size_toArray, List.length_map]; omega)
      · show n0 ≤ (h'.update S _).objs.size
        have e1 : (h'.update S (Obj.mapSeq (·.push (.ref s.heap.objs.size)))).objs.size = h'.objs.size := (Heap.SameBut.update h' S _).1
        rw [e1, hsz]
        omega
      · exact (Heap.get?_update_other _ _ (Ne.symm hb)).trans e
      · exact (Heap.get?_update_other _ _ (Ne.symm a5)).trans (hk' b o a1 a2 a3 a4 (hkeep b o a1 a2 a3 a4 a5 e))
    rcases Z.zip with ⟨hz, a, b, hTO⟩ | ⟨T, f, oT, hz, hT, r1, r2, r3, r4⟩
    · refine RZ.pyNext_zipT_item D hz Z.hTI hTO Z.h1 Z.h2 Z.t1 Z.t2 ex ey fun h' a1 a2 a3 a4 a5 a6 hk' => ?_
      exact step h' (lt hz) (lt hTO) a5 a6 (hk' _ _ D.TIz D.TITO D.TIi1 D.TIi2 Z.hTI) a3 a4 (Z.t1.at fun o e => hk' _ o D.l1z D.l1TO D.l1i1 D.l1i2 e) (Z.t2.at fun o e => hk' _ o D.l2z D.l2TO D.l2i1 D.l2i2 e)
        (.inr ⟨s.heap.objs.size, false, _, a1, a5, lt hz, m1, m2, mS⟩) ⟨_, a2⟩ hk'
    · obtain ⟨oTO, eTO⟩ := Z.to_
      refine zipTH_item D hz hT Z.hTI Z.h1 Z.h2 Z.t1 Z.t2 ex ey fun h' a1 a3 a4 a5 a6 hk' => ?_
      exact step h' (lt hz) (lt eTO) a5 a6 (hk' _ _ D.TIz D.TIi1 D.TIi2 Z.hTI) a3 a4 (Z.t1.at fun o e => hk' _ o D.l1z D.l1i1 D.l1i2 e) (Z.t2.at fun o e => hk' _ o D.l2z D.l2i1 D.l2i2 e)
        (.inr ⟨T, true, oT, a1, hk' _ _ r1 r2 r3 hT, r1, r2, r3, r4⟩) ⟨oTO, hk' _ _ D.TOz D.TOi1 D.TOi2 eTO⟩ fun c o c1 _ c3 c4 e => hk' c o c1 c3 c4 e
end
end G

set_option Elab.async false
set_option linter.all false
set_option maxRecDepth 100000
set_option maxHeartbeats 4000000
/-! Z2: list(zip(a, b)) of two tuples, in the layer. -/
namespace G
open PySem PySem.Spec PyProof.Rows L2
open PySem.W (ktu_apart)
theorem zip_no_len : typeLookup (.type "zip") "__len__" = pure none := am_miss_of_fast (by decide +kernel)
theorem zip_no_hint : typeLookup (.type "zip") "__length_hint__" = pure none := am_miss_of_fast (by decide +kernel)
section
variable {prog : Program} {w : World} {A : Around} {E : Value → Shared → Prop} {s : Shared}
theorem list_of_zip {z TI TO i1 i2 l1 l2 : Addr} {xs ys : Array Value} {Q : Value → Shared → Prop} (D : ZipApart z TI TO i1 i2 l1 l2) (hh : A.handled = none) (hl : min xs.size ys.size ≤ sizeLine) (hz : IsZip s.heap z TI TO .none) (hTI : IsPair s.heap TI (.ref i1) (.ref i2))
    (hTO : ∃ a b, IsPair s.heap TO a b) (h1 : s.heap.IsTupleIter i1 l1 0) (h2 : s.heap.IsTupleIter i2 l2 0) (t1 : s.heap.IsTuple l1 xs) (t2 : s.heap.IsTuple l2 ys)
    (hQ : ∀ h' tk ps c, PsAt s.heap.objs.size z TO i1 i2 s.heap.objs.size xs ys h' ps → ps.Nodup → ps.length = min xs.size ys.size → h'.get? s.heap.objs.size = some { cls := .type "list", dict := none, data := .seq (ps.map Value.ref).toArray c, slots := #[] } →
      (∀ b o, b ≠ z → b ≠ TO → b ≠ i1 → b ≠ i2 → s.heap.get? b = some o → h'.get? b = some o) → Q (.ref s.heap.objs.size) { s with heap := h', toks := tk }) :
    wpAny (model prog w) A (call (.type "list") [.ref z]) Q E s := by
  obtain ⟨a, b, hTO⟩ := hTO
  have nz : s.heap.objs.size ≠ z := Nat.ne_of_gt (Heap.lt_size hz)
  have nS : s.heap.objs.size ≠ z ∧ s.heap.objs.size ≠ TI ∧ s.heap.objs.size ≠ TO ∧ s.heap.objs.size ≠ i1 ∧ s.heap.objs.size ≠ i2 ∧ s.heap.objs.size ≠ l1 ∧ s.heap.objs.size ≠ l2 := by
    obtain ⟨_, e1, _⟩ := h1
    obtain ⟨_, e2, _⟩ := h2
    obtain ⟨_, e3, _⟩ := t1
    obtain ⟨_, e4, _⟩ := t2
    exact ⟨nz, Nat.ne_of_gt (Heap.lt_size hTI), Nat.ne_of_gt (Heap.lt_size hTO), Nat.ne_of_gt (Heap.lt_size e1), Nat.ne_of_gt (Heap.lt_size e2), Nat.ne_of_gt (Heap.lt_size e3), Nat.ne_of_gt (Heap.lt_size e4)⟩
  refine callType_codes (Q₁ := fun obj s₁ => obj = .ref s.heap.objs.size ∧ s₁ = { s with heap := s.heap.push { cls := .type "list", data := .seq #[] } }) PySem.F.called_list (PySem.F.typeCall_list_1 _) PySem.F.entry_list_init
    (code_list_new _ ⟨rfl, rfl⟩) fun obj s₁ h₁ => ?_
  obtain ⟨rfl, rfl⟩ := h₁
  have hS : (s.heap.push { cls := .type "list", data := .seq #[] }).get? s.heap.objs.size = some { cls := .type "list", data := .seq #[] } := Heap.get?_push_size _ rfl
  have Z0 : ZSt s.heap.objs.size z TI TO i1 i2 l1 l2 s.heap.objs.size xs ys s.heap 0 [] := ⟨hTI, h1, h2, t1, t2, .inl ⟨hz, a, b, hTO⟩, rfl, fun j p hp => by simp at hp, List.nodup_nil, _, hTO⟩
  refine ⟨⟨_, hS, rfl⟩, PySem.F.args_list_init_2 _ _, ?_⟩
  show wpAny _ _ (do let old ← Builtin.List.listItems (.ref s.heap.objs.size); Builtin.List.listUpdate (.ref s.heap.objs.size) (fun _ => #[]); letGo old.toList.reverse; Builtin.List.listExtendWith (.ref s.heap.objs.size) (.ref z) .none) _ _ _
  refine wpAny_bind ?_
  unfold Builtin.List.listItems
  refine wpAny_bind (wpAny_seqItems hS rfl (wpAny_pure ?_))
  show wpAny _ _ (updateSeq s.heap.objs.size (fun _ => #[]) >>= fun _ => letGo (#[] : Array Value).toList.reverse >>= fun _ => Builtin.List.listExtendWith (.ref s.heap.objs.size) (.ref z) .none) _ _ _
  refine wpAny_bind (wpAny_updateSeq hS rfl ?_)
  have hS₂ := Heap.get?_update_self (Obj.mapSeq (fun _ => (#[] : Array Value))) hS rfl
  refine wpAny_bind (wpAny_letGo ?_)
  have k2 : ∀ b o, b ≠ s.heap.objs.size → s.heap.get? b = some o → ((s.heap.push { cls := .type "list", data := .seq #[] }).update s.heap.objs.size (Obj.mapSeq (fun _ => (#[] : Array Value)))).get? b = some o :=
    fun b o hb e => (Heap.get?_update_other _ _ (Ne.symm hb)).trans (Heap.get?_push_of_some _ e)
  generalize hH2 : (s.heap.push { cls := .type "list", data := .seq #[] }).update s.heap.objs.size (Obj.mapSeq (fun _ => (#[] : Array Value))) = h2' at hS₂ k2
  have sz2 : s.heap.objs.size ≤ h2'.objs.size := by
    rw [← hH2]
    rw [(Heap.SameBut.update (s.heap.push { cls := .type "list", data := .seq #[] }) s.heap.objs.size (Obj.mapSeq (fun _ => (#[] : Array Value)))).1]
    exact Nat.le_of_lt (Heap.lt_size hS)
  unfold Builtin.List.listExtendWith
  refine wpAny_bind (wpAny_typeOf (T := "zip") ⟨_, k2 _ _ nz.symm hz, rfl⟩ ?_)
  have g1 : Builtin.List.listSameRef (.ref s.heap.objs.size) (.ref z) = false := by simp [Builtin.List.listSameRef, nz]
  have g2 : (Value.type "zip" == Value.type "list") = false := by decide
  have g3 : (Value.type "zip" == Value.type "tuple") = false := by decide
  simp only [g1, g2, g3, Bool.or_false, Bool.false_eq_true, if_false]
  have hz2 := k2 _ _ nz.symm hz
  refine wpAny_bind (wpAny_pyIter_zip hz2 ?_)
  have hT2 : Shared.TypeIs { s with heap := h2' } (.ref z) "zip" := ⟨_, hz2, rfl⟩
  refine wpAny_bind (wpAny_holding ?_)
  unfold Builtin.List.listLengthHint
  refine wpAny_bind (wpAny_specialOf hT2 zip_no_len ?_)
  show wpAny _ A.in1.in1 (specialOf (Value.ref z) (Str.ofString "__length_hint__") >>= _) _ _ _
  refine wpAny_bind (wpAny_specialOf hT2 zip_no_hint ?_)
  refine wpAny_pure ?_
  show wpAny _ A.in1.in1 (rule "list.extend.makes-room" >>= fun _ => Builtin.List.listTouch (.ref s.heap.objs.size) >>= fun _ =>
    again (.builtin "list.extend.loop" ⟨[.ref s.heap.objs.size, .ref z, .none], []⟩)) _ _ _
  refine wpAny_bind (wpAny_rule ?_)
  refine wpAny_bind ?_
  show wpAny _ _ (updateSeq s.heap.objs.size (·.push .none) >>= fun _ => updateSeq s.heap.objs.size (·.pop)) _ _ _
  refine wpAny_bind (wpAny_updateSeq hS₂ rfl ?_)
  have hS3 := Heap.get?_update_self (Obj.mapSeq (·.push Value.none)) hS₂ rfl
  refine wpAny_updateSeq (hz := by seq_fits) hS3 rfl ?_
  have hS4 := Heap.get?_update_self (Obj.mapSeq (·.pop)) hS3 rfl
  have k4 : ∀ b o, b ≠ s.heap.objs.size → s.heap.get? b = some o → ((h2'.update s.heap.objs.size (Obj.mapSeq (·.push Value.none))).update s.heap.objs.size (Obj.mapSeq (·.pop))).get? b = some o :=
    fun b o hb e => (Heap.get?_update_other _ _ (Ne.symm hb)).trans ((Heap.get?_update_other _ _ (Ne.symm hb)).trans (k2 b o hb e))
  refine wpAny_pure ⟨plainId_quiet PySem.F.plain_extend_loop _, zip_extend (n0 := s.heap.objs.size) (S := s.heap.objs.size) (A := A.in1) D hh nS hl .none s.heap (min xs.size ys.size) 0 _ [] _ (by omega) (Nat.zero_le _) ?_ (Z0.keep k4 nS) hS4 (fun b o _ _ _ _ n e => k4 b o n e) fun h' ps c a1 a2 a3 a4 a5 => ?_⟩
  · have e1 := (Heap.SameBut.update h2' s.heap.objs.size (Obj.mapSeq (·.push Value.none))).1
    have e2 := (Heap.SameBut.update (h2'.update s.heap.objs.size (Obj.mapSeq (·.push Value.none))) s.heap.objs.size (Obj.mapSeq (·.pop))).1
    show s.heap.objs.size ≤ ((h2'.update s.heap.objs.size (Obj.mapSeq (·.push Value.none))).update s.heap.objs.size (Obj.mapSeq (·.pop))).objs.size
    rw [e2, e1]
    exact sz2
  · exact ⟨rfl, hQ h' s.toks ps c a1 a2 a3 a4 fun b o b1 b2 b3 b4 e => a5 b o b1 b2 b3 b4 (Nat.ne_of_lt (Heap.lt_size e)) e⟩
end
/-! ### tracked -/
section
variable {P : Program} {w : World} {H H1 : Hp} {h h' : Heap} {p : Addr} {o : HO} {fs ex : List Addr}
theorem hok_add (x : HOk P w H h) (hn : H p = none) (new : ObjOk P w (upd H p o) h p o) : HOk P w (upd H p o) h := fun b u e => by
  by_cases hb : b = p
  · subst hb; rw [upd_same] at e; cases e; exact new
  · rw [upd_ne hb] at e
    exact (x b u e).stay (fun c v _ q => q) (fun c q => by rw [upd_ne (ne_of_none q hn)]; exact q) fun c xs q => by rw [upd_ne (ne_of_none q hn)]; exact q
theorem un_add (u : Un fs ex H H1 h h') (hp : h.objs.size ≤ p) (hn : H1 p = none) : Un fs ex H (upd H1 p o) h h' where
  keep := u.keep
  slot := u.slot
  free := fun b ob q n x => by rw [upd_ne (Nat.ne_of_lt (Nat.lt_of_lt_of_le (Heap.lt_size q) hp))]; exact u.free b ob q n x
  there := u.there
  tups := fun b xs q => by rw [upd_ne (ne_of_none (u.tups b xs q) hn)]; exact u.tups b xs q
  frzs := fun b ob xs q => by rw [upd_ne (ne_of_none (u.frzs b ob xs q) hn)]; exact u.frzs b ob xs q
  tbls := fun b ps q => by
    obtain ⟨more, e⟩ := u.tbls b ps q
    exact ⟨more, by rw [upd_ne (ne_of_none e hn)]; exact e⟩
end
/-- the pairs laid one after the other -/
def layP : Hp → List Addr → List (V × V) → Hp
  | H, p :: ps, (x, y) :: r => layP (upd H p (.tup [x, y])) ps r
  | H, _, _ => H
section
variable {X : Cx} {P : Program} {w : World}
theorem layP_ok {h h' : Heap} {fs ex : List Addr} {H : Hp} : ∀ {ps : List Addr} {qs : List (V × V)} {H1 : Hp}, ps.length = qs.length → ps.Nodup → (∀ p ∈ ps, h.objs.size ≤ p ∧ H1 p = none) →
    (∀ (j : Nat) (p : Addr) (x y : V), ps[j]? = some p → qs[j]? = some (x, y) → ∃ u v, RelV x u ∧ RelV y v ∧ IsPair h' p u v) → HOk P w H1 h' → Un fs ex H H1 h h' →
    HOk P w (layP H1 ps qs) h' ∧ Un fs ex H (layP H1 ps qs) h h' ∧ ∀ b, b ∉ ps → layP H1 ps qs b = H1 b
  | [], [], H1, _, _, _, _, k, u => ⟨k, u, fun _ _ => rfl⟩
  | p :: ps, (x, y) :: qs, H1, hl, nd, hp, ha, k, u => by
    obtain ⟨n1, n2⟩ := List.nodup_cons.mp nd
    obtain ⟨p1, p2⟩ := hp p List.mem_cons_self
    obtain ⟨uu, vv, r1, r2, hpr⟩ := ha 0 p x y rfl rfl
    have k' : HOk P w (upd H1 p (.tup [x, y])) h' := hok_add k p2 ⟨show 2 ≤ sizeLine from by decide, [uu, vv], .cons r1 (.cons r2 .nil), _, hpr, rfl, _, rfl⟩
    obtain ⟨a, b, c⟩ := layP_ok (ps := ps) (qs := qs) (H1 := upd H1 p (.tup [x, y])) (by simpa using hl) n2 (fun q hq => ⟨(hp q (List.mem_cons_of_mem _ hq)).1, by
      have nq : q ≠ p := fun z => n1 (z ▸ hq)
      rw [upd_ne nq]
      exact (hp q (List.mem_cons_of_mem _ hq)).2⟩) (fun j q x' y' e1 e2 => ha (j + 1) q x' y' (by simpa using e1) (by simpa using e2)) k' (un_add u p1 p2)
    refine ⟨a, b, fun z hz => ?_⟩
    have hz' : ¬ (z = p ∨ z ∈ ps) := fun q => hz (List.mem_cons.mpr q)
    rw [show layP H1 (p :: ps) ((x, y) :: qs) = layP (upd H1 p (.tup [x, y])) ps qs from rfl, c z fun q => hz' (.inr q), upd_ne fun q => hz' (.inl q)]
  | [], _ :: _, _, hl, _, _, _, _, _ => by simp at hl
  | _ :: _, [], _, hl, _, _, _, _, _ => by simp at hl
theorem ne_lt {b c n : Nat} (h : b < n) (hc : n ≤ c) : b ≠ c := fun z => by omega
def rListZip (K : PySem.W.Frag) : List V → Hp → VK → Prop := fun vs H Q => ∃ a b xs ys, vs = [V.ref a, V.ref b] ∧ SqT K H a xs ∧ SqT K H b ys ∧
  ∀ (ps : List Addr) (S : Addr), ps.length = (xs.zip ys).length → ps.Nodup → (∀ p ∈ ps, H p = none) → S ∉ ps → H S = none → Q (.ref S) (upd (layP H ps (xs.zip ys)) S (.lst (ps.map V.ref)))
theorem vals_refsG : ∀ ps : List Addr, Vals (ps.map V.ref) (ps.map Value.ref)
  | [] => .nil
  | _ :: r => .cons rfl (vals_refsG r)
theorem pe_listZip {e e2 : Expr} {ta : TA} {p p2 q pos : Pos} (hc : X.calm = true) (hgl : Gl X "list") (hml : X.mg "list" = none) (hg : Gl X "zip") (hm : X.mg "zip" = none) (ha : PA X [e, e2] ta)
    (hs : starEach [e, e2] X.env = (false, eval e X.env) :: starEach [e2] X.env := by rfl) (hpl : (backTo q (starEach [e2] X.env)).any (·.1) = false := by rfl)
    (hs2 : starEach [(.Call (.Name "zip" p2) [e, e2] [] q)] X.env = (false, eval (.Call (.Name "zip" p2) [e, e2] [] q) X.env) :: starEach [] X.env := by rfl) :
    PE X (.Call (.Name "list" p) [.Call (.Name "zip" p2) [e, e2] [] q] [] pos) (tCB (rListZip X.K) ta) := by
  refine ⟨fun pins s σ H Q I h => ?_⟩
  refine wpAny_Call_Name_kw (ld_blt I hgl hml PyProof.Rows.boot_list ?_ (by decide) (by decide))
  refine PyProof.Rows.callWith_type1 ?_ hs2 rfl
  rw [hs2]
  refine Calls.spliced_cons ?_
  refine Call_ (ld_blt I hg hm PyProof.Rows.boot_zip (PyProof.Rows.callWith_type1 (thn (ha.run q pins s σ H _ I h) fun us s1 ⟨vs, H1, I1, r1, q1⟩ => ?_) hs hpl) (by decide) (by decide))
  obtain ⟨a, b, xs, ys, rfl, hqx, hqy, q1⟩ := q1
  cases r1 with
  | cons r rr =>
    cases rr with
    | cons r' rr =>
      cases rr
      cases r
      cases r'
      obtain ⟨its, rv, p1, z1⟩ := I1.tuple hqx
      obtain ⟨its2, rv2, p2, z2⟩ := I1.tuple hqy
      have t1 : s1.heap.IsTuple a its.toArray := p1
      have t2 : s1.heap.IsTuple b its2.toArray := p2
      obtain ⟨o1, ho1, _⟩ := id p1
      obtain ⟨o2, ho2, _⟩ := id p2
      have D := ktu_apart s1.heap.objs.size a b (Heap.lt_size ho1) (Heap.lt_size ho2)
      refine RZ.call_zipT t1 t2 fun h' hz hTI hTO h1 h2 hsz hk => ?_
      refine Calls.spliced_nil ?_
      have hmin : min its.toArray.size its2.toArray.size = (xs.zip ys).length := by rw [List.size_toArray, List.size_toArray, List.length_zip, rv.length, rv2.length]
      refine list_of_zip (s := { s1 with heap := h' }) D (I.ok.hd hc) (by rw [List.size_toArray, ← rv.length]; exact Nat.le_trans (Nat.min_le_left _ _) z1) hz hTI ⟨_, _, hTO⟩ h1 h2 (t1.at fun o e => hk _ o e) (t2.at fun o e => hk _ o e) fun h'' tk ps c a1 a2 a3 a4 a5 => ?_
      have keep : ∀ b o, s1.heap.get? b = some o → h''.get? b = some o := fun b o e => by
        have l := Heap.lt_size e
        exact a5 b o (ne_lt l (Nat.le_add_right _ _)) (ne_lt l (Nat.le_add_right _ _)) (ne_lt l (Nat.le_refl _)) (ne_lt l (Nat.le_add_right _ _)) (hk b o e)
      have hpl2 : ps.length = (xs.zip ys).length := a3.trans hmin
      have low : ∀ p ∈ ps, s1.heap.objs.size ≤ p ∧ p ≠ h'.objs.size := fun p hp => by
        obtain ⟨j, hj⟩ := List.mem_iff_getElem?.mp hp
        obtain ⟨b0, _, _, _, _, b5, _⟩ := a1 j p hj
        have b0' : h'.objs.size ≤ p := b0
        exact ⟨Nat.le_trans (by rw [hsz]; exact Nat.le_add_right _ _) b0', b5⟩
      have fr : ∀ p, s1.heap.objs.size ≤ p → H1 p = none := fun p hp => I1.hok.fresh hp
      obtain ⟨k1, k2, k3⟩ := layP_ok (P := X.prog) (w := X.w) (h := s1.heap) (h' := h'') (fs := frs X.stack) (ex := []) (H := H1) (H1 := H1) hpl2 a2 (fun p hp => ⟨(low p hp).1, fr p (low p hp).1⟩) (fun j p x y e1 e2 => by
        obtain ⟨_, _, _, _, _, _, u, v, b1, b2, b3⟩ := a1 j p e1
        obtain ⟨ex, ey⟩ := List.getElem?_zip_eq_some.mp e2
        obtain ⟨u', eu, ru⟩ := rv.get ex
        obtain ⟨v', ev, rv'⟩ := rv2.get ey
        have b1' : its[j]? = some u := by simpa using b1
        have b2' : its2[j]? = some v := by simpa using b2
        rw [eu] at b1'
        rw [ev] at b2'
        cases b1'
        cases b2'
        exact ⟨_, _, ru, rv', b3⟩) (I1.hok.kept keep) (Un.kept keep)
      have hS : h'.objs.size ∉ ps := fun z => (low _ z).2 rfl
      have hS1 : s1.heap.objs.size ≤ h'.objs.size := by rw [hsz]; exact Nat.le_add_right _ _
      have nS : layP H1 ps (xs.zip ys) h'.objs.size = none := by rw [k3 _ hS]; exact fr _ hS1
      have J := I1.call (t' := tk) (d' := s1.drawn) (g' := s1.gens) (ch := []) (un_add (o := .lst (ps.map V.ref)) k2 hS1 nS) (hok_add k1 nS ⟨by rw [List.length_map, hpl2, List.length_zip]; exact Nat.le_trans (Nat.min_le_left _ _) z1, ps.map Value.ref, c, vals_refsG ps, a4⟩) I1.bare (fun _ z => nomatch z)
      exact ⟨.ref h'.objs.size, _, J, rfl, q1 ps h'.objs.size hpl2 a2 (fun p hp => fr p (low p hp).1) hS (fr _ hS1)⟩
end
end G

set_option Elab.async false
set_option linter.all false
set_option maxRecDepth 100000
set_option maxHeartbeats 4000000
/-! G11: list(zip(..)), sorted(set(..)), sorted(d), a, b = .. -/
namespace G
open PySem PySem.Spec PyProof.Rows L2
section
variable {X : Cx} {K : PySem.W.Frag} {O O' O1 O2 : Addr → Prop} {H H' H0 H1 H2 : Hp} {v : V} {d : D} {vs : List V} {ds : List D}
theorem layP_ext : ∀ {ps : List Addr} {xs ys : List V} {dx dy : List D} {H1 : Hp}, ps.length = (xs.zip ys).length → ps.Nodup → (∀ p ∈ ps, H1 p = none) → Own O H1 → IsAll K O H1 xs dx → IsAll K O H1 ys dy →
    Own O (layP H1 ps (xs.zip ys)) ∧ Ext O H1 O (layP H1 ps (xs.zip ys)) W0 ∧ (∀ b, b ∉ ps → layP H1 ps (xs.zip ys) b = H1 b) ∧ IsAll K O (layP H1 ps (xs.zip ys)) (ps.map V.ref) ((dx.zip dy).map fun q => .tup [q.1, q.2])
  | [], [], ys, dx, dy, H1, _, _, _, hO, hx, hy => by
    cases hx
    exact ⟨hO, Ext.refl, fun _ _ => rfl, .nil⟩
  | [], x :: xs, [], dx, dy, H1, _, _, _, hO, hx, hy => by
    cases hy
    rw [List.zip_nil_right, List.zip_nil_right]
    exact ⟨hO, Ext.refl, fun _ _ => rfl, .nil⟩
  | p :: ps, x :: xs, y :: ys, dx, dy, H1, hl, nd, hp, hO, hx, hy => by
    cases hx with
    | cons ax tx =>
      cases hy with
      | cons ay ty =>
        obtain ⟨n1, n2⟩ := List.nodup_cons.mp nd
        have hp0 := hp p List.mem_cons_self
        have e1 : Ext O H1 O (upd H1 p (.tup [x, y])) W0 := Ext.grow hp0
        have hO1 : Own O (upd H1 p (.tup [x, y])) := hO.grow hp0
        obtain ⟨a, b, c, d⟩ := layP_ext (ps := ps) (xs := xs) (ys := ys) (H1 := upd H1 p (.tup [x, y])) (by simpa using hl) n2 (fun q hq => by
          have nq : q ≠ p := fun z => n1 (z ▸ hq)
          rw [upd_ne nq]
          exact hp q (List.mem_cons_of_mem _ hq)) hO1 (tx.ext e1 w0 hO) (ty.ext e1 w0 hO)
        refine ⟨a, e1.trans hO b fun _ z => .inl z, fun z hz => ?_, ?_⟩
        · have hz' : ¬ (z = p ∨ z ∈ ps) := fun q => hz (List.mem_cons.mpr q)
          rw [show layP H1 (p :: ps) ((x :: xs).zip (y :: ys)) = layP (upd H1 p (.tup [x, y])) ps (xs.zip ys) from rfl, c z fun q => hz' (.inr q), upd_ne fun q => hz' (.inl q)]
        · refine .cons ?_ d
          refine (Is.ext b w0 hO1 (.tup (.inl (.inl upd_same)) (.cons (ax.ext e1 w0 hO) (.cons (ay.ext e1 w0 hO) .nil))))
  | _ :: _, [], _, _, _, _, hl, _, _, _, _, _ => by simp at hl
  | _ :: _, _ :: _, [], _, _, _, hl, _, _, _, _, _ => by simp at hl
  | [], _ :: _, _ :: _, _, _, _, hl, _, _, _, _, _ => by simp at hl
def gListZip : List D → Option Res
  | [.tup xs, .tup ys] => some (.fr (.lst ((xs.zip ys).map fun q => .tup [q.1, q.2])))
  | _ => none
theorem cs_listZip : CallS K (rListZip K) gListZip := by
  intro O H vs ds out Q hO hv e p
  unfold gListZip at e
  split at e
  · cases e
    cases hv with
    | cons hx t =>
      cases t with
      | cons hy t =>
        cases t
        obtain ⟨a, xs, rfl, h1, t1⟩ := hx.tup
        obtain ⟨b, ys, rfl, h2, t2⟩ := hy.tup
        refine ⟨a, b, xs, ys, rfl, h1, h2, fun ps S hl nd hf hS hS0 => ?_⟩
        obtain ⟨k1, k2, k3, k4⟩ := layP_ext hl nd hf hO t1 t2
        have fS : layP H ps (xs.zip ys) S = none := by rw [k3 S hS]; exact hS0
        exact p _ _ _ (k1.new fS rfl) (k2.trans hO (Ext.new_ fS) fun _ z => .inl z) ⟨S, rfl, hS0, .inr rfl, _, upd_same, k4.ext (Ext.new_ fS) w0 k1⟩
  · cases e
/-! ### sorted(set(xs)) of texts, sorted(d) of texts -/
def setS (xs : List Str) : List Str := xs.foldl (fun acc x => if x ∈ acc then acc else acc ++ [x]) []
theorem foldM_map : ∀ (xs acc : List Str), (xs.map (Sum.inr : Str → Key)).foldl addM (acc.map Sum.inr) = (xs.foldl (fun acc x => if x ∈ acc then acc else acc ++ [x]) acc).map Sum.inr
  | [], acc => rfl
  | x :: r, acc => by
    rw [List.map_cons, List.foldl_cons, List.foldl_cons, ← foldM_map r]
    have e : addM (acc.map Sum.inr) (Sum.inr x) = (if x ∈ acc then acc else acc ++ [x]).map Sum.inr := by
      unfold addM
      by_cases h : x ∈ acc
      · rw [if_pos h, if_pos (List.mem_map_of_mem h)]
      · rw [if_neg h, if_neg fun z => h (by
          obtain ⟨y, hy, e⟩ := List.mem_map.mp z
          cases e
          exact hy), List.map_append, List.map_cons, List.map_nil]
    rw [e]
theorem setS_len : ∀ (xs acc : List Str), (xs.foldl (fun acc x => if x ∈ acc then acc else acc ++ [x]) acc).length ≤ acc.length + xs.length
  | [], acc => Nat.le_refl _
  | x :: r, acc => by
    rw [List.foldl_cons]
    have h := setS_len r (if x ∈ acc then acc else acc ++ [x])
    have h2 : (if x ∈ acc then acc else acc ++ [x]).length ≤ acc.length + 1 := by split <;> simp
    rw [List.length_cons]
    omega
def rSetSort (K : PySem.W.Frag) (w : World) : List V → Hp → VK → Prop := fun xs H Q => rSetM K w xs H fun v H1 => rSortedM w [v] H1 Q
def gSetSort : List D → Option Res
  | [.lst ds] => match strsOf ds with
    | some xs => if xs.length < 64 then some (.fr (.lst ((sortS (setS xs)).map D.str))) else none
    | none => none
  | _ => none
theorem keys_strs (xs : List Str) : (xs.map (Sum.inr : Str → Key)).map kV = xs.map V.str := by
  rw [List.map_map]
  rfl
theorem cs_setSort {w : World} : CallS K (rSetSort K w) gSetSort := by
  intro O H vs ds out Q hO hv e p
  unfold gSetSort at e
  split at e
  · split at e
    · rename_i xs hx
      split at e
      · rename_i hz
        cases e
        cases hv with
        | cons h t =>
          cases t
          obtain ⟨a, ys, rfl, h1, t1⟩ := h.lst
          have hys := t1.strs hx
          subst hys
          refine ⟨a, xs.map Sum.inr, rfl, by rw [keys_strs]; exact h1, ?_, fun b hb => ⟨b, setS xs, rfl, ?_, ?_, fun zs q hp hs hq => ?_⟩⟩
          · rw [List.length_map]
            exact Nat.lt_of_lt_of_le (show xs.length + 1 < 65 by omega) (by decide)
          · rw [show setL (xs.map Sum.inr) = (setS xs).map Sum.inr from foldM_map xs []]
            exact upd_same
          · have := setS_len xs []
            rw [List.length_nil] at this
            unfold setS
            omega
          · rw [sortS_unique hp (sortedS_pw hs)]
            have e1 : Ext O H O (upd H b (SetMO w b (setL (xs.map Sum.inr)))) W0 := Ext.grow hb
            have o1 := hO.grow hb (u := SetMO w b (setL (xs.map Sum.inr)))
            have hqH : H q = none := e1.trk q hq
            exact p _ _ _ (o1.new hq rfl) (e1.trans hO (Ext.new_ hq) fun _ z => .inl z) ⟨q, rfl, hqH, .inr rfl, _, upd_same, isAll_strs _⟩
      · cases e
    · cases e
  · cases e
theorem rd_setSort {w : World} {f : EX} {σ : L2.St} {Q : VK} (h : rd K (eCB gSetSort (aCons f aNil)) σ H Q) : tCB (rSortedM w) (tCons (tCB (rSetM K w) (tCons (rd K f) tNil)) tNil) σ H Q := by
  have h1 := rd_cb (cs_setSort (w := w)) h
  obtain ⟨O, sd, rs, sd', S, e, q⟩ := h1
  obtain ⟨⟨r, s⟩, e1, e⟩ := Option.bind_eq_some_iff.mp e
  obtain ⟨⟨rs2, s2⟩, e2, e⟩ := Option.bind_eq_some_iff.mp e
  cases e2
  cases e
  exact ⟨O, sd, r, _, S, e1, fun v H' O' A R => q [v] H' O' A (.cons R .nil)⟩
def gSortK : List D → Option Res
  | [.dic kvs] => match strsOf (kvs.map (·.1)) with
    | some xs => if xs.length < 64 then some (.fr (.lst ((sortS xs).map D.str))) else none
    | none => none
  | _ => none
def rSortK : List V → Hp → VK → Prop := fun xs H Q => ∃ (a : Addr) (kvs : List (Key × V)) (ks : List Str), xs = [.ref a] ∧ Rd H a (.dK kvs) ∧ kvs.map (·.1) = ks.map Sum.inr ∧ ks.length < 64 ∧
    ∀ ys p, ys.Perm ks → sortedS ys = true → H p = none → Q (.ref p) (upd H p (.lst (ys.map V.str)))
theorem cs_sortK : CallS K rSortK gSortK := by
  intro O H vs ds out Q hO hv e p
  unfold gSortK at e
  split at e
  · split at e
    · rename_i xs hx
      split at e
      · rename_i hz
        cases e
        cases hv with
        | cons h t =>
          cases t
          obtain ⟨a, ks, rfl, h1, t1⟩ := h.dic
          refine ⟨a, ks, xs, rfl, h1, t1.strs hx, hz, fun zs q hp hs hq => ?_⟩
          rw [sortS_unique hp (sortedS_pw hs)]
          exact Post.lst hO p (isAll_strs _) q hq
      · cases e
    · cases e
  · cases e
/-! ### a, b = x, y -/
def sPar (i j : Nat) (f : AX) : SX := fun sd => do
  let (rs, s) ← f sd
  match rs with
  | [.im a, .im b] => if okSet s i ∧ okSet (s.set i (some (.im a))) j then some (.nx ((s.set i (some (.im a))).set j (some (.im b)))) else none
  | _ => none
theorem rd_par {i j : Nat} {f : AX} {σ : L2.St} {E : Ends} (h : rdS K (sPar i j f) E σ H) : tPar i j (rdA K f) E σ H := by
  obtain ⟨O, sd, out, S, e, q⟩ := h
  obtain ⟨⟨rs, s⟩, e1, e⟩ := Option.bind_eq_some_iff.mp e
  refine ⟨O, sd, rs, s, S, e1, fun vs H1 O1 A1 R1 => ?_⟩
  dsimp only at e
  split at e
  · rename_i a b
    split at e
    · rename_i ok
      cases e
      cases R1 with
      | cons ra t =>
        cases t with
        | cons rb t =>
          cases t
          refine ⟨_, _, rfl, ?_⟩
          have B1 := A1.sr.setIm ok.1 ra
          exact q _ H1 O1 ((A1.s.trans S B1).trans S (B1.sr.setIm ok.2 (show Is K O1 H1 _ b from rb)))
    · cases e
  · cases e
end
section
variable {X : Cx} {e e2 : Expr} {f f2 : EX} {pos p p2 q apos : Pos}
theorem ge_listZip {fa : AX} (hc : X.calm = true) (hgl : Gl X "list") (hml : X.mg "list" = none) (hg : Gl X "zip") (hm : X.mg "zip" = none) (ha : GA X [e, e2] fa)
    (hs : starEach [e, e2] X.env = (false, eval e X.env) :: starEach [e2] X.env := by rfl) (hpl : (backTo q (starEach [e2] X.env)).any (·.1) = false := by rfl)
    (hs2 : starEach [(.Call (.Name "zip" p2) [e, e2] [] q)] X.env = (false, eval (.Call (.Name "zip" p2) [e, e2] [] q) X.env) :: starEach [] X.env := by rfl) :
    GE X (.Call (.Name "list" p) [.Call (.Name "zip" p2) [e, e2] [] q] [] pos) (eCB gListZip fa) := (pe_listZip hc hgl hml hg hm ha hs hpl hs2).imp fun _ _ _ => rd_cb cs_listZip
theorem ge_sortSet (hc : X.calm = true) (hgl : Gl X "sorted") (hml : X.mg "sorted" = none) (hg : Gl X "set") (hm : X.mg "set" = none) (he : GE X e f)
    (hs : starEach [e] X.env = (false, eval e X.env) :: starEach [] X.env := by rfl)
    (hs2 : starEach [(.Call (.Name "set" p2) [e] [] q)] X.env = (false, eval (.Call (.Name "set" p2) [e] [] q) X.env) :: starEach [] X.env := by rfl) :
    GE X (.Call (.Name "sorted" p) [.Call (.Name "set" p2) [e] [] q] [] pos) (eCB gSetSort (aCons f aNil)) :=
  (pe_callB (cr_sortedM hc) hgl hml PyProof.Rows.boot_sorted (pa_cons (pe_callTy (cr_setM hc) hg hm boot_set (pa_cons he pa_nil hs) (by decide) (by decide) hs rfl) pa_nil hs2) (by decide) (by decide) hs2 rfl).imp fun _ _ _ => rd_setSort
theorem ge_sortK (hc : X.calm = true) (hgl : Gl X "sorted") (hml : X.mg "sorted" = none) (he : GE X e f) (hs : starEach [e] X.env = (false, eval e X.env) :: starEach [] X.env := by rfl) :
    GE X (.Call (.Name "sorted" p) [e] [] pos) (eCB gSortK (aCons f aNil)) := ge_callB (call_sortedD hc) cs_sortK hgl hml PyProof.Rows.boot_sorted (ga_cons he ga_nil hs) (by decide) (by decide) hs rfl
theorem gs_par {i j : Nat} {x y : Str} {a b : Expr} {fa : AX} {px py pt : Pos} {kt k2 pt2} (hc : X.calm = true) (hN : X.N.Nodup) (hi : X.N[i]? = some x) (hj : X.N[j]? = some y) (hij : i ≠ j)
    (hx : X.env.scope.names.lookup x = some .local) (hy : X.env.scope.names.lookup y = some .local) (ha : GA X [a, b] fa)
    (hw : swappedStores [.Tuple [.Name x px, .Name y py] kt pt] (.Tuple [a, b] k2 pt2) X.env = pure (some [x, y]))
    (hs : swapsWithSole [.Tuple [.Name x px, .Name y py] kt pt] (.Tuple [a, b] k2 pt2) pos.line X.env = pure false := by rfl) :
    GS X (.Assign [.Tuple [.Name x px, .Name y py] kt pt] (.Tuple [a, b] k2 pt2) pos) (sPar i j fa) := (ps_par hc hN hi hj hij hx hy ha hw hs).imp fun _ _ _ => rd_par
end
end G

set_option Elab.async false
set_option linter.all false
set_option maxRecDepth 100000
set_option maxHeartbeats 4000000
/-! G12: rules that take what comes: walks over a list or a tuple, sorted of what can be sorted; what a law's text knows. -/
namespace G
open PySem PySem.Spec PyProof.Rows L2
theorem PI_or {X : Cx} {tg e : Expr} {t u : TI} (h : PI X tg e t) (k : PI X tg e u) : PI X tg e (fun σ H R => t σ H R ∨ u σ H R) := ⟨fun pins s σ H R I q => q.elim (h.run pins s σ H R I) (k.run pins s σ H R I)⟩
theorem CallR_or {X : Cx} {f : Value} {r r2 : List V → Hp → VK → Prop} (h : CallR X f r) (k : CallR X f r2) : CallR X f (fun xs H Q => r xs H Q ∨ r2 xs H Q) := fun pins s σ H xs us Q I v q => q.elim (h pins s σ H xs us Q I v) (k pins s σ H xs us Q I v)
def orG (g g2 : List D → Option Res) : List D → Option Res := fun ds => match g ds with
  | some r => some r
  | none => g2 ds
theorem cs_or {K : PySem.W.Frag} {r r2 : List V → Hp → VK → Prop} {g g2 : List D → Option Res} (h : CallS K r g) (k : CallS K r2 g2) : CallS K (fun xs H Q => r xs H Q ∨ r2 xs H Q) (orG g g2) := by
  intro O H vs ds out Q hO hv e p
  unfold orG at e
  split at e
  · rename_i r0 e0
    cases e
    exact .inl (h O H vs ds _ Q hO hv e0 p)
  · exact .inr (k O H vs ds _ Q hO hv e p)
/-- a walk over a list or a tuple -/
def itA (f : EX) : IX := fun sd => do
  let (r, s) ← f sd
  match r with
  | .im (.lst ds) => some (ds, s)
  | .fr (.lst ds) => some (ds, s)
  | .im (.tup ds) => some (ds, s)
  | _ => none
section
variable {X : Cx} {K : PySem.W.Frag} {σ : L2.St} {H : Hp}
theorem rd_itA {f : EX} {R : It → Hp → Prop} (h : rdI K (itA f) σ H R) : iList K (rd K f) σ H R ∨ iTup K (rd K f) σ H R := by
  obtain ⟨O, sd, ds, sd', S, e, q⟩ := h
  obtain ⟨⟨r, s⟩, e1, e⟩ := Option.bind_eq_some_iff.mp e
  dsimp only at e
  split at e
  · rename_i ds'
    exact .inl (rd_itL ⟨O, sd, ds, sd', S, Option.bind_eq_some_iff.mpr ⟨_, e1, e⟩, q⟩)
  · rename_i ds'
    exact .inl (rd_itL ⟨O, sd, ds, sd', S, Option.bind_eq_some_iff.mpr ⟨_, e1, e⟩, q⟩)
  · rename_i ds'
    exact .inr (rd_itT ⟨O, sd, ds, sd', S, Option.bind_eq_some_iff.mpr ⟨_, e1, e⟩, q⟩)
  · cases e
variable {e tg : Expr} {f : EX}
theorem gi_any (h : GE X e f) : GI X tg e (itA f) := by
  have k := PI_or (pi_list (tg := tg) h) (pi_tup (tg := tg) h)
  exact ⟨fun pins s σ H R I q => k.run pins s σ H R I (rd_itA q)⟩
def gSortA : List D → Option Res := orG gSortS gSortK
theorem ge_sorted {p pos : Pos} (hc : X.calm = true) (hg : Gl X "sorted") (hm : X.mg "sorted" = none) (he : GE X e f) (hs : starEach [e] X.env = (false, eval e X.env) :: starEach [] X.env := by rfl) :
    GE X (.Call (.Name "sorted" p) [e] [] pos) (eCB gSortA (aCons f aNil)) := ge_callB (CallR_or cr_sortedS (call_sortedD hc)) (cs_or cs_sortS cs_sortK) hg hm PyProof.Rows.boot_sorted (ga_cons he ga_nil hs) (by decide) (by decide) hs rfl
end
/-- what the module's text has made of a def -/
structure Df (K : PySem.W.Frag) (mg : Str → Option Value) (x : Str) (st : Stmt) (ps : List Str) where
  a : Addr
  fd : FuncData
  F : Fun K x x st a fd
  b : Binds K fd ps []
  g : mg x = some (.ref a)
end G

set_option Elab.async false
set_option linter.all false
set_option maxRecDepth 100000
set_option maxHeartbeats 4000000
/-! G13: name = {k: v for ..} on one line. -/
namespace G
open PySem PySem.Spec PyProof.Rows L2
section
variable {X : Cx}
theorem swD_true {kx vx : Expr} {gs : List Comprehension} {scope : Scope} {pos py : Pos} {y : Str} {l : Nat} {env : Env} (hk : env.scope.kind = .function) (hy : env.scope.names.lookup y = some .local) (hl : (py.line == pos.line) = true)
    (ha : (scope.names.any fun (n, k) => n == y && (k == .local || k == .cell)) = false) : swapsWith (.DictComp kx vx gs scope pos) (some (.Name y py)) l env = pure true := by
  have ky : env.kindOf y = some .local := hy
  have hb : env.blockKind = .function := by unfold Env.blockKind; rw [hk]; rfl
  unfold swapsWith
  simp only [hb, ky, ha, Expr.pos, hl]
  rfl
theorem ps_setDc {i : Nat} {y : Str} {py : Pos} {kx vx tg iter : Expr} {ifs : List Expr} {scope : Scope} {own : List (Str × Nat)} {pos spos : Pos} {wi : TI} {g : TG} {tt : TT} {tk tv : TE} (hc : X.calm = true) (hN : X.N.Nodup) (hy : X.N[i]? = some y) (hyl : X.env.scope.names.lookup y = some .local)
    (hsw : swapsWith (.DictComp kx vx [⟨tg, iter, ifs, 0⟩] scope pos) (some (.Name y py)) spos.line X.env = pure true) (hi : PI X tg iter wi) (ok : BlkOk X.N X.env.scope scope own)
    (hg : ∀ (s : Shared) (H : Hp) (C : Addr) (cl : List (Str × Addr)) (fp : List Addr), PG (X.blk s H scope (compEnvC scope cl C X.env) fp) tg g) (ht : ∀ (s : Shared) (H : Hp) (C : Addr) (cl : List (Str × Addr)) (fp : List Addr), PTs (X.blk s H scope (compEnvC scope cl C X.env) fp) ifs tt)
    (hk : ∀ (s : Shared) (H : Hp) (C : Addr) (cl : List (Str × Addr)) (fp : List Addr), PE (X.blk s H scope (compEnvC scope cl C X.env) fp) kx tk)
    (hv : ∀ (s : Shared) (H : Hp) (C : Addr) (cl : List (Str × Addr)) (fp : List Addr), PE (X.blk s H scope (compEnvC scope cl C X.env) fp) vx tv) (hs : ∀ x, foldedSetIterable iter X.env x = pure x := by intro _; rfl) :
    PS X (.Assign [.Name y py] (.DictComp kx vx [⟨tg, iter, ifs, 0⟩] scope pos) spos) (tAsg (tDc wi g tt tk tv (own.map (·.2))) (gName i)) := by
  refine ⟨fun pins s σ H D I h => ?_⟩
  rw [exec_Assign_Name_used _ _ _ _ hsw]
  refine wpAny_bind (wpAny_standAt (wpAny_bind ?_))
  show wpAny _ X.A (do let _ ← comprehension (.DictComp kx vx [⟨tg, iter, ifs, 0⟩] scope pos) scope X.env (firstIterPos [⟨tg, iter, ifs, 0⟩] pos) newDict false (eval iter X.env) (some (assign (.Name y py) X.env))) _ _ s
  have h : tDc wi g tt tk tv (own.map (·.2)) σ H (fun x H1 => gName i x σ H1 D.nx) := h
  refine wpAny_bind (thn (dc_core (Qf := fun _ s' => SP X pins D .next s') hc hN I hi ok hg ht hk hv hs h fun L C s' m H' I' q hn f => ?_) fun _ s' hq => wpAny_pure (wpAny_pure hq))
  show wpAny _ _ (assign (.Name y py) X.env (.ref L)) _ _ _
  refine wpAny_assign_Name (store_ok2 (v := V.ref L) I' hN hy (.inl hyl) rfl (fun s2 I2 ⟨a, sb, ha⟩ => ?_) (.inr hyl))
  obtain ⟨f0, f1, f2, f3, f4, f5⟩ := f
  have haC : C ≠ a := by
    rcases ha with z | z
    · rw [z]; exact f1
    · exact fun e => f4 y a z e.symm
  refine ⟨m, hn.sameBut sb haC, fun h3 sb3 => ?_⟩
  exact ⟨_, H', I2.turned (t' := s2.toks) (fun b o hb e => (sb3.2 b hb).trans e) f0 f1 f3 f4 f5, q⟩
theorem gs_setDc {i : Nat} {y : Str} {py : Pos} {kx vx tg iter : Expr} {ifs : List Expr} {scope : Scope} {own : List (Str × Nat)} {pos spos : Pos} {fi : IX} {js : List Nat} {g : GX} {ct : TX} {fk fv : EX} (hc : X.calm = true) (hN : X.N.Nodup) (hy : X.N[i]? = some y) (hyl : X.env.scope.names.lookup y = some .local)
    (hsw : swapsWith (.DictComp kx vx [⟨tg, iter, ifs, 0⟩] scope pos) (some (.Name y py)) spos.line X.env = pure true) (hi : GI X tg iter fi) (ok : BlkOk X.N X.env.scope scope own)
    (hjs : ∀ i ∈ js, i ∈ own.map (·.2)) (hl : LocG js g)
    (hg : ∀ (s : Shared) (H : Hp) (C : Addr) (cl : List (Str × Addr)) (fp : List Addr), GG (X.blk s H scope (compEnvC scope cl C X.env) fp) tg js g) (ht : ∀ (s : Shared) (H : Hp) (C : Addr) (cl : List (Str × Addr)) (fp : List Addr), GTs (X.blk s H scope (compEnvC scope cl C X.env) fp) ifs ct)
    (hk : ∀ (s : Shared) (H : Hp) (C : Addr) (cl : List (Str × Addr)) (fp : List Addr), GE (X.blk s H scope (compEnvC scope cl C X.env) fp) kx fk)
    (hv : ∀ (s : Shared) (H : Hp) (C : Addr) (cl : List (Str × Addr)) (fp : List Addr), GE (X.blk s H scope (compEnvC scope cl C X.env) fp) vx fv) (hs : ∀ x, foldedSetIterable iter X.env x = pure x := by intro _; rfl) :
    GS X (.Assign [.Name y py] (.DictComp kx vx [⟨tg, iter, ifs, 0⟩] scope pos) spos) (sAsg i (eDc (own.map (·.2)) fi g ct fk fv)) := by
  refine (ps_setDc (tk := rd X.K fk) (tv := rd X.K fv) (g := rdG X.K js g) (tt := rdT X.K ct) hc hN hy hyl hsw hi ok hg ht hk hv hs).imp fun D σ H h => ?_
  have h1 : tAsg (rd X.K (eDc (own.map (·.2)) fi g ct fk fv)) (gName i) D σ H := rd_asg h
  exact rd_dc hjs hl h1
theorem gs_setDcK {i : Nat} {y : Str} {py : Pos} {kx vx tg : Expr} {ifs : List Expr} {scope : Scope} {own : List (Str × Nat)} {pos spos : Pos} {x : Str} {xp : Pos} (ix : Nat) {js : List Nat} {g : GX} {ct : TX} {fk fv : EX} (hc : X.calm = true) (hN : X.N.Nodup) (hy : X.N[i]? = some y) (hyl : X.env.scope.names.lookup y = some .local)
    (hsw : swapsWith (.DictComp kx vx [⟨tg, .Name x xp, ifs, 0⟩] scope pos) (some (.Name y py)) spos.line X.env = pure true) (ok : BlkOk X.N X.env.scope scope own)
    (hjs : ∀ i ∈ js, i ∈ own.map (·.2)) (hl : LocG js g)
    (hg : ∀ (s : Shared) (H : Hp) (C : Addr) (cl : List (Str × Addr)) (fp : List Addr), GG (X.blk s H scope (compEnvC scope cl C X.env) fp) tg js g) (ht : ∀ (s : Shared) (H : Hp) (C : Addr) (cl : List (Str × Addr)) (fp : List Addr), GTs (X.blk s H scope (compEnvC scope cl C X.env) fp) ifs ct)
    (hk : ∀ (s : Shared) (H : Hp) (C : Addr) (cl : List (Str × Addr)) (fp : List Addr), GE (X.blk s H scope (compEnvC scope cl C X.env) fp) kx fk)
    (hv : ∀ (s : Shared) (H : Hp) (C : Addr) (cl : List (Str × Addr)) (fp : List Addr), GE (X.blk s H scope (compEnvC scope cl C X.env) fp) vx fv) (hNi : X.N[ix]? = some x := by rfl) (hx : Vis X.env.scope x := by first | exact Or.inl rfl | exact Or.inr (Or.inl rfl) | exact Or.inr (Or.inr rfl))
    (hd : (x == ("__debug__" : Str)) = false := by decide) (hcd : (x == ("__classdict__" : Str)) = false := by decide) (hs : ∀ y, foldedSetIterable (.Name x xp) X.env y = pure y := by intro _; rfl) :
    GS X (.Assign [.Name y py] (.DictComp kx vx [⟨tg, .Name x xp, ifs, 0⟩] scope pos) spos) (sAsg i (eDc (own.map (·.2)) (itK ix) g ct fk fv)) := by
  have h0 := ps_setDc (tk := rd X.K fk) (tv := rd X.K fv) (g := rdG X.K js g) (tt := rdT X.K ct) hc hN hy hyl hsw (pi_keys (tg := tg) (pe_var (X := X) (pos := xp) hNi hx hd hcd)) ok hg ht hk hv hs
  refine (PS_or h0 (ps_lock h0)).imp fun D σ H h => ?_
  have h1 : tAsg (rd X.K (eDc (own.map (·.2)) (itK ix) g ct fk fv)) (gName i) D σ H := rd_asg h
  rcases rd_dcK hjs hl h1 with z | z
  · exact .inl z
  · exact .inr z
theorem ge_bm {T id : String} {name : Str} {p : D → Bool} {r : V → List V → Hp → VK → Prop} {g : D → List D → Option Res} {o e : Expr} {es : List Expr} {fo : EX} {fa : AX} {apos cpos : Pos} (pa : PlainAttrs T) (slot : Slot T name id) (hty : typeOf (.builtin id) = pure (.type "method_descriptor"))
    (hm : MtR X id r) (hp : TyS X.K T p) (hr : MtS X.K T r g) (ho : GE X o fo) (ha : GA X (e :: es) fa) (hbase : attributeBase o name X.env (eval o X.env) = eval o X.env := by rfl)
    (hfew : ((backTo cpos (starEach (e :: es) X.env)).all (fun x => !x.1) && (backToKw cpos (keywordEach [] X.env)).all (fun x => x.1.isSome)
      && decide ((e :: es).length + ([] : List Keyword).length + (if ([] : List Keyword).isEmpty then 0 else 1) < 30)) = true := by rfl)
    (hline : (apos.endLine == cpos.line) = true := by rfl) (hs : starEach (e :: es) X.env = (false, eval e X.env) :: starEach es X.env := by rfl) (hplain : (backTo cpos (starEach es X.env)).any (·.1) = false := by rfl) :
    GE X (.Call (.Attribute o name apos) (e :: es) [] cpos) (eMt p g fo fa) := (pe_bm pa slot hty hm ho ha hbase hfew hline hs hplain).imp fun _ _ _ h => rd_bm hp hr h
end
end G

set_option Elab.async false
set_option linter.all false
set_option maxRecDepth 100000
/-! G14: what the functions on slots give: comprehensions and loops by what each turn does. -/
namespace G
open PySem PySem.Spec PyProof.Rows L2
theorem set_set {s : Slots} {i : Nat} {a b : Option SV} : (s.set i a).set i b = s.set i b := by simp
theorem gN_wiped {s : Slots} {i : Nat} {d : D} (h : i < s.length) : gN i d (wipeD s [i]) = some (s.set i (some (.im d))) := by
  unfold gN okSet wipeD wipeD
  rw [List.getElem?_set_self h]
  simp
theorem back1 {s0 s : Slots} {i : Nat} : backD s0 s [i] = s.set i (s0[i]?.getD none) := rfl
theorem noOw1 {s : Slots} {i : Nat} (h : noOw s [i] = true) : i < s.length := by
  unfold noOw at h
  simp only [List.all_cons, List.all_nil, Bool.and_true] at h
  rcases Nat.lt_or_ge i s.length with q | q
  · exact q
  · rw [List.getElem?_eq_none q] at h
    cases h
theorem set_self {s : Slots} {i : Nat} : s.set i (s[i]?.getD none) = s := by
  apply List.ext_getElem?
  intro j
  by_cases q : i = j
  · subst q
    rcases Nat.lt_or_ge i s.length with h | h
    · rw [List.getElem?_set_self h, List.getElem?_eq_getElem h]; rfl
    · rw [List.getElem?_eq_none (by simpa using h), List.getElem?_eq_none h]
  · rw [List.getElem?_set_ne q]
theorem lcF1 {i : Nat} {ct : TX} {fe : EX} {p : D → Bool} {f : D → D} {s : Slots} (hi : i < s.length) : ∀ (ds : List D) (x : Option SV), (∀ d ∈ ds, ct (s.set i (some (.im d))) = some (p d, s.set i (some (.im d)))) →
    (∀ d ∈ ds, p d = true → fe (s.set i (some (.im d))) = some (.im (f d), s.set i (some (.im d)))) → ∃ y, lcF [i] (gN i) ct fe ds (s.set i x) = some ((ds.filter p).map f, s.set i y)
  | [], x, _, _ => ⟨x, rfl⟩
  | d :: ds, x, hc, he => by
    have hi' : i < (s.set i x).length := by simpa using hi
    obtain ⟨y, ih⟩ := lcF1 hi ds (some (.im d)) (fun e h => hc e (List.mem_cons_of_mem _ h)) fun e h => he e (List.mem_cons_of_mem _ h)
    refine ⟨y, ?_⟩
    unfold lcF
    rw [gN_wiped hi', set_set]
    simp only [Option.bind_eq_bind, Option.bind_some, hc d List.mem_cons_self]
    cases hp : p d with
    | true =>
      simp only [if_true, he d List.mem_cons_self hp, Option.bind_some, ih, List.filter_cons, hp, List.map_cons]
    | false =>
      simp only [Bool.false_eq_true, if_false, ih, List.filter_cons, hp]
/-- [fe for x in fi if ct], the slots left as they are -/
theorem eLc1 {i : Nat} {fi : IX} {ct : TX} {fe : EX} {p : D → Bool} {f : D → D} {sd s : Slots} {ds : List D} (h : fi sd = some (ds, s)) (hn : noOw s [i] = true) (hc : ∀ d ∈ ds, ct (s.set i (some (.im d))) = some (p d, s.set i (some (.im d))))
    (he : ∀ d ∈ ds, p d = true → fe (s.set i (some (.im d))) = some (.im (f d), s.set i (some (.im d)))) (hz : ds.length ≤ sizeLine) : eLc [i] fi (gN i) ct fe sd = some (.fr (.lst ((ds.filter p).map f)), s) := by
  have hi := noOw1 hn
  obtain ⟨y, e⟩ := lcF1 hi ds (s[i]?.getD none) hc he
  rw [set_self] at e
  unfold eLc
  have hz' : ((ds.filter p).map f).length ≤ sizeLine := by
    rw [List.length_map]
    exact Nat.le_trans (List.length_filter_le _ _) hz
  simp only [h, Option.bind_eq_bind, Option.bind_some, hn, if_true, e, hz', back1, set_set, set_self]
theorem eLcM {i : Nat} {fi : IX} {fe : EX} {f : D → D} {sd s : Slots} {ds : List D} (h : fi sd = some (ds, s)) (hn : noOw s [i] = true)
    (he : ∀ d ∈ ds, fe (s.set i (some (.im d))) = some (.im (f d), s.set i (some (.im d)))) (hz : ds.length ≤ sizeLine) : eLc [i] fi (gN i) tTrue fe sd = some (.fr (.lst (ds.map f)), s) := by
  have e := eLc1 (ct := tTrue) (p := fun _ => true) h hn (fun _ _ => rfl) (fun d hd _ => he d hd) hz
  rw [List.filter_eq_self.mpr fun _ _ => rfl] at e
  exact e
/-- [fe for x in fi] where the elements change slots -/
theorem lcS {i : Nat} {fe : EX} (I : List D → Slots → Prop) (hlen : ∀ acc s, I acc s → i < s.length) : ∀ (ds : List D) (acc : List D) (s : Slots), (∀ d ∈ ds, ∀ acc s, I acc s → ∃ r s3, fe (s.set i (some (.im d))) = some (.im r, s3) ∧ I (acc ++ [r]) (s3.set i none)) → I acc (s.set i none) →
    ∃ rs s2, lcF [i] (gN i) tTrue fe ds s = some (rs, s2) ∧ I (acc ++ rs) (s2.set i none) ∧ rs.length = ds.length
  | [], acc, s, _, h => ⟨[], s, rfl, by rw [List.append_nil]; exact h, rfl⟩
  | d :: ds, acc, s, hs, h => by
    have hi : i < s.length := by simpa using hlen _ _ h
    obtain ⟨r, s3, e1, h1⟩ := hs d List.mem_cons_self acc _ h
    rw [set_set] at e1
    obtain ⟨rs, s2, e2, h2, h3⟩ := lcS I hlen ds (acc ++ [r]) s3 (fun e he => hs e (List.mem_cons_of_mem _ he)) h1
    refine ⟨r :: rs, s2, ?_, by rw [List.append_assoc] at h2; exact h2, by rw [List.length_cons, List.length_cons, h3]⟩
    unfold lcF
    rw [gN_wiped hi]
    simp only [Option.bind_eq_bind, Option.bind_some, tTrue, if_true, e1, e2]
theorem eLcS {i : Nat} {fi : IX} {fe : EX} (I : List D → Slots → Prop) (hlen : ∀ acc s, I acc s → i < s.length) {sd s : Slots} {ds : List D} (h : fi sd = some (ds, s)) (hn : noOw s [i] = true) (h0 : I [] (s.set i none))
    (hs : ∀ d ∈ ds, ∀ acc s, I acc s → ∃ r s3, fe (s.set i (some (.im d))) = some (.im r, s3) ∧ I (acc ++ [r]) (s3.set i none)) (hz : ds.length ≤ sizeLine) :
    ∃ rs s2, eLc [i] fi (gN i) tTrue fe sd = some (.fr (.lst rs), s2.set i (s[i]?.getD none)) ∧ I rs s2 ∧ rs.length = ds.length := by
  obtain ⟨rs, s2, e, h1, h2⟩ := lcS I hlen ds [] s hs h0
  refine ⟨rs, s2.set i none, ?_, by simpa using h1, h2⟩
  unfold eLc
  have hz' : rs.length ≤ sizeLine := by rw [h2]; exact hz
  simp only [h, Option.bind_eq_bind, Option.bind_some, hn, if_true, e, hz', back1, set_set]
/-- {fk: fv for x in fi}, keys new and each once -/
theorem dcF1 {i : Nat} {fv : EX} {f : D → D} {s : Slots} (hi : i < s.length) : ∀ (ds : List D) (acc : List (D × D)) (x : Option SV), (∀ d ∈ ds, (toKey d).isSome = true ∧ d ∉ acc.map (·.1)) → ds.Nodup → acc.length + ds.length ≤ sizeLine →
    (∀ d ∈ ds, fv (s.set i (some (.im d))) = some (.im (f d), s.set i (some (.im d)))) → ∃ y, dcF [i] (gN i) tTrue (eFz i) fv ds acc (s.set i x) = some (acc ++ ds.map fun d => (d, f d), s.set i y)
  | [], acc, x, _, _, _, _ => ⟨x, by rw [List.map_nil, List.append_nil]; rfl⟩
  | d :: ds, acc, x, hk, nd, hz, he => by
    have hi' : i < (s.set i x).length := by simpa using hi
    obtain ⟨n1, n2⟩ := List.nodup_cons.mp nd
    obtain ⟨k1, k2⟩ := hk d List.mem_cons_self
    have hput : putD acc d (f d) = acc ++ [(d, f d)] := by
      unfold putD
      rw [if_neg]
      rw [List.any_eq_true]
      rintro ⟨q, hq, e⟩
      exact k2 (of_decide_eq_true e ▸ List.mem_map_of_mem hq)
    obtain ⟨y, ih⟩ := dcF1 hi ds (acc ++ [(d, f d)]) (some (.im d)) (fun e h => ⟨(hk e (List.mem_cons_of_mem _ h)).1, fun z => by
      rw [List.map_append] at z
      rcases List.mem_append.mp z with z | z
      · exact (hk e (List.mem_cons_of_mem _ h)).2 z
      · have z' := List.mem_singleton.mp (show e ∈ [d] from z)
        rw [z'] at h
        exact n1 h⟩) n2 (by simp only [List.length_append, List.length_cons, List.length_nil] at hz ⊢; omega) fun e h => he e (List.mem_cons_of_mem _ h)
    refine ⟨y, ?_⟩
    have hz2 : acc.length < sizeLine := by rw [List.length_cons] at hz; omega
    unfold dcF
    rw [gN_wiped hi', set_set]
    have ez : eFz i (s.set i (some (.im d))) = some (.im d, s.set i (some (.im d))) := by
      unfold eFz
      rw [List.getElem?_set_self hi]
    simp only [Option.bind_eq_bind, Option.bind_some, tTrue, if_true, ez, he d List.mem_cons_self, k1, hz2, and_self, hput, ih, List.map_cons, List.append_assoc, List.cons_append, List.nil_append]
theorem eDc1 {i : Nat} {fi : IX} {fv : EX} {f : D → D} {sd s : Slots} {ds : List D} (h : fi sd = some (ds, s)) (hn : noOw s [i] = true) (hk : ∀ d ∈ ds, (toKey d).isSome = true) (nd : ds.Nodup) (hz : ds.length ≤ sizeLine)
    (he : ∀ d ∈ ds, fv (s.set i (some (.im d))) = some (.im (f d), s.set i (some (.im d)))) : eDc [i] fi (gN i) tTrue (eFz i) fv sd = some (.fr (.dic (ds.map fun d => (d, f d))), s) := by
  obtain ⟨y, e⟩ := dcF1 (noOw1 hn) ds [] (s[i]?.getD none) (fun d hd => ⟨hk d hd, by simp⟩) nd (by simpa using hz) he
  rw [set_self] at e
  unfold eDc
  simp only [h, Option.bind_eq_bind, Option.bind_some, hn, if_true, e, back1, set_set, set_self, List.nil_append]
/-- for x in fi: body -/
theorem loopI {g : GX} {b : SX} (I : List D → Slots → Prop) (R : Res → Slots → Prop) (B : Slots → Prop) : ∀ (rest done : List D) (s : Slots), I done s →
    (∀ done' d rest' s, done ++ rest = done' ++ d :: rest' → I done' s → ∃ s1 o, g d s = some s1 ∧ b s1 = some o ∧ (match o with | .nx s2 => I (done' ++ [d]) s2 | .ct s2 => I (done' ++ [d]) s2 | .rt r s2 => R r s2 | .bk s2 => B s2)) →
    ∃ o, loopF g b rest s = some o ∧ (match o with | .nx s2 => I (done ++ rest) s2 ∨ B s2 | .rt r s2 => R r s2 | _ => False)
  | [], done, s, h, _ => ⟨.nx s, rfl, .inl (by rw [List.append_nil]; exact h)⟩
  | d :: rest, done, s, h, hs => by
    obtain ⟨s1, o, e1, e2, q⟩ := hs done d rest s rfl h
    have next : ∀ s2, I (done ++ [d]) s2 → ∃ o, loopF g b rest s2 = some o ∧ (match o with | .nx s2 => I (done ++ d :: rest) s2 ∨ B s2 | .rt r s2 => R r s2 | _ => False) := fun s2 h2 => by
      obtain ⟨o, e, q⟩ := loopI I R B rest (done ++ [d]) s2 h2 fun done' d' rest' s he => hs done' d' rest' s (by rw [← he]; simp)
      rw [List.append_assoc] at q
      exact ⟨o, e, q⟩
    unfold loopF
    simp only [Option.bind_eq_bind, e1, Option.bind_some, e2]
    cases o with
    | nx s2 => exact next s2 q
    | ct s2 => exact next s2 q
    | rt r s2 => exact ⟨.rt r s2, rfl, q⟩
    | bk s2 => exact ⟨.nx s2, rfl, .inr q⟩
theorem sForI {fi : IX} {g : GX} {b : SX} {sd s : Slots} {ds : List D} (h : fi sd = some (ds, s)) (I : List D → Slots → Prop) (R : Res → Slots → Prop) (h0 : I [] s)
    (hs : ∀ done d rest s, ds = done ++ d :: rest → I done s → ∃ s1 o, g d s = some s1 ∧ b s1 = some o ∧ (match o with | .nx s2 => I (done ++ [d]) s2 | .ct s2 => I (done ++ [d]) s2 | .rt r s2 => R r s2 | .bk _ => False)) :
    ∃ o, sFor fi g b sd = some o ∧ (match o with | .nx s2 => I ds s2 | .rt r s2 => R r s2 | _ => False) := by
  obtain ⟨o, e, q⟩ := loopI I R (fun _ => False) ds [] s h0 (fun done' d rest' s he => hs done' d rest' s he)
  refine ⟨o, ?_, ?_⟩
  · unfold sFor
    simp only [h, Option.bind_eq_bind, Option.bind_some, e]
  · cases o with
    | nx s2 => exact q.elim id False.elim
    | _ => exact q
/-- the same over a mapped list -/
theorem sForM {α : Type} {f : α → D} {xs : List α} {fi : IX} {g : GX} {b : SX} {sd s : Slots} (h : fi sd = some (xs.map f, s)) (I : List α → Slots → Prop) (R : Res → Slots → Prop) (h0 : I [] s)
    (hs : ∀ pre p post s, xs = pre ++ p :: post → I pre s → ∃ s1 o, g (f p) s = some s1 ∧ b s1 = some o ∧ (match o with | .nx s2 => I (pre ++ [p]) s2 | .ct s2 => I (pre ++ [p]) s2 | .rt r s2 => R r s2 | .bk _ => False)) :
    ∃ o, sFor fi g b sd = some o ∧ (match o with | .nx s2 => I xs s2 | .rt r s2 => R r s2 | _ => False) := by
  obtain ⟨o, e, q⟩ := sForI h (fun done s => ∃ pre post, done = pre.map f ∧ xs = pre ++ post ∧ I pre s) R ⟨[], xs, rfl, rfl, h0⟩ (fun done d rest s hd hI => by
    obtain ⟨pre, post, rfl, hp, hi⟩ := hI
    cases post with
    | nil =>
      rw [hp, List.append_nil] at hd
      have := congrArg List.length hd
      simp at this
    | cons p post =>
      rw [hp, List.map_append, List.append_cancel_left_eq, List.map_cons] at hd
      have e := (List.cons.inj hd).1
      subst e
      obtain ⟨s1, o, h1, h2, h3⟩ := hs pre p post s hp hi
      refine ⟨s1, o, h1, h2, ?_⟩
      have hp' : xs = (pre ++ [p]) ++ post := by rw [hp]; simp
      cases o with
      | nx s2 => exact ⟨pre ++ [p], post, by rw [List.map_append]; rfl, hp', h3⟩
      | ct s2 => exact ⟨pre ++ [p], post, by rw [List.map_append]; rfl, hp', h3⟩
      | rt r s2 => exact h3
      | bk s2 => exact h3)
  refine ⟨o, e, ?_⟩
  cases o with
  | nx s2 =>
    obtain ⟨pre, post, h1, h2, h3⟩ := q
    have hn : post = [] := by
      have l1 := congrArg List.length h1
      have l2 := congrArg List.length h2
      rw [List.length_append] at l2
      simp only [List.length_map] at l1
      exact List.length_eq_zero_iff.mp (by omega)
    subst hn
    rw [List.append_nil] at h2
    rw [h2]
    exact h3
  | rt r s2 => exact q
  | ct s2 => exact q
  | bk s2 => exact q
theorem lcFT {α : Type} {c : α → D} {i : Nat} {ct : TX} {fe : EX} {p : α → Bool} {f : α → D} {s : Slots} (hi : i < s.length) : ∀ (xs : List α) (x : Option SV), (∀ d ∈ xs, ct (s.set i (some (.im (c d)))) = some (p d, s.set i (some (.im (c d))))) →
    (∀ d ∈ xs, p d = true → fe (s.set i (some (.im (c d)))) = some (.im (f d), s.set i (some (.im (c d))))) → ∃ y, lcF [i] (gN i) ct fe (xs.map c) (s.set i x) = some ((xs.filter p).map f, s.set i y)
  | [], x, _, _ => ⟨x, rfl⟩
  | d :: ds, x, hc, he => by
    have hi' : i < (s.set i x).length := by simpa using hi
    obtain ⟨y, ih⟩ := lcFT hi ds (some (.im (c d))) (fun e h => hc e (List.mem_cons_of_mem _ h)) fun e h => he e (List.mem_cons_of_mem _ h)
    refine ⟨y, ?_⟩
    rw [List.map_cons]
    unfold lcF
    rw [gN_wiped hi', set_set]
    simp only [Option.bind_eq_bind, Option.bind_some, hc d List.mem_cons_self]
    cases hp : p d with
    | true =>
      simp only [if_true, he d List.mem_cons_self hp, Option.bind_some, ih, List.filter_cons, hp, List.map_cons]
    | false =>
      simp only [Bool.false_eq_true, if_false, ih, List.filter_cons, hp]
/-- [fe for x in xs if ct], the slots left as they are -/
theorem eLcTF {α : Type} {c : α → D} {i : Nat} {fi : IX} {ct : TX} {fe : EX} {p : α → Bool} {f : α → D} {sd s : Slots} {xs : List α} (h : fi sd = some (xs.map c, s)) (hn : noOw s [i] = true) (hc : ∀ d ∈ xs, ct (s.set i (some (.im (c d)))) = some (p d, s.set i (some (.im (c d)))))
    (he : ∀ d ∈ xs, p d = true → fe (s.set i (some (.im (c d)))) = some (.im (f d), s.set i (some (.im (c d))))) (hz : xs.length ≤ sizeLine) : eLc [i] fi (gN i) ct fe sd = some (.fr (.lst ((xs.filter p).map f)), s) := by
  have hi := noOw1 hn
  obtain ⟨y, e⟩ := lcFT hi xs (s[i]?.getD none) hc he
  rw [set_self] at e
  unfold eLc
  have hz' : ((xs.filter p).map f).length ≤ sizeLine := by
    rw [List.length_map]
    exact Nat.le_trans (List.length_filter_le _ _) hz
  simp only [h, Option.bind_eq_bind, Option.bind_some, hn, if_true, e, hz', back1, set_set, set_self]
theorem eLcT {α : Type} {c : α → D} {i : Nat} {fi : IX} {fe : EX} {f : α → D} {sd s : Slots} {xs : List α} (h : fi sd = some (xs.map c, s)) (hn : noOw s [i] = true)
    (he : ∀ d ∈ xs, fe (s.set i (some (.im (c d)))) = some (.im (f d), s.set i (some (.im (c d))))) (hz : xs.length ≤ sizeLine) : eLc [i] fi (gN i) tTrue fe sd = some (.fr (.lst (xs.map f)), s) := by
  have e := eLcTF (ct := tTrue) (p := fun _ => true) h hn (fun _ _ => rfl) (fun d hd _ => he d hd) hz
  rw [List.filter_eq_self.mpr fun _ _ => rfl] at e
  exact e
theorem aCons_of {f : EX} {g : AX} {s s1 s2 : Slots} {r : Res} {rs : List Res} (h : f s = some (r, s1)) (h2 : g s1 = some (rs, s2)) : aCons f g s = some (r :: rs, s2) := by unfold aCons; simp only [h, h2, Option.bind_eq_bind, Option.bind_some]
theorem eCall_im {F : Fn} {f : AX} {s s' : Slots} {rs : List Res} {as : List SV} {d : D} {outs : List D} (h : f s = some (rs, s')) (h2 : toSVs s' rs = some as) (nd : (bos rs).Nodup) (hF : F as = some (.im d, outs)) : eCall F f s = some (.im d, putBack s' rs outs) := by
  unfold eCall; simp only [h, h2, nd, hF, Option.bind_eq_bind, Option.bind_some, if_true]
theorem eCall_fr {F : Fn} {f : AX} {s s' : Slots} {rs : List Res} {as : List SV} {d : D} {outs : List D} (h : f s = some (rs, s')) (h2 : toSVs s' rs = some as) (nd : (bos rs).Nodup) (hF : F as = some (.fr d, outs)) : eCall F f s = some (.fr d, putBack s' rs outs) := by
  unfold eCall; simp only [h, h2, nd, hF, Option.bind_eq_bind, Option.bind_some, if_true]
theorem op2_of {g : D → D → Option Res} {fa fb : EX} {s s1 s2 : Slots} {ra rb o : Res} {da db : D} (h1 : fa s = some (ra, s1)) (h2 : fb s1 = some (rb, s2)) (g1 : ra.get s2 = some da) (g2 : rb.get s2 = some db) (h : g da db = some o) : op2 g fa fb s = some (o, s2) := by
  unfold op2; simp only [h1, h2, g1, g2, h, Option.bind_eq_bind, Option.bind_some]
theorem eCB_of {g : List D → Option Res} {f : AX} {s s1 : Slots} {rs : List Res} {ds : List D} {o : Res} (h1 : f s = some (rs, s1)) (h2 : getAll s1 rs = some ds) (h : g ds = some o) : eCB g f s = some (o, s1) := by
  unfold eCB; simp only [h1, h2, h, Option.bind_eq_bind, Option.bind_some]
theorem tst_of {f : EX} {s s1 : Slots} {b : Bool} (h : f s = some (.im (.bl b), s1)) : tst f s = some (b, s1) := by
  unfold tst; simp only [h, Option.bind_eq_bind, Option.bind_some]
theorem eMu_of {p : D → Bool} {g : D → List D → Option (Res × D)} {i : Nat} {f : AX} {s s1 : Slots} {c0 c c' : D} {rs : List Res} {ds : List D} {o : Res} (h0 : owAt s i = some c0) (hp : p c0 = true) (h : f s = some (rs, s1)) (h2 : ims rs = some ds) (h3 : owAt s1 i = some c) (h4 : g c ds = some (o, c')) : eMu p g i f s = some (o, setC s1 i c') := by
  unfold eMu; simp only [h0, hp, h, h2, h3, h4, Option.bind_eq_bind, Option.bind_some, if_true]
theorem sDrop_of {f : EX} {s s1 : Slots} {r : Res} (h : f s = some (r, s1)) : sDrop f s = some (.nx s1) := by
  unfold sDrop; simp only [h, Option.bind_eq_bind, Option.bind_some]
theorem addD_lst {xs ys : List D} (h : xs.length + ys.length ≤ sizeLine) : addD (.lst xs) (.lst ys) = some (.fr (.lst (xs ++ ys))) := if_pos h
theorem addD_tup {xs ys : List D} (h : xs.length + ys.length ≤ sizeLine) : addD (.tup xs) (.tup ys) = some (.im (.tup (xs ++ ys))) := if_pos h
theorem addD_str {x y : Str} (h : x.length + y.length ≤ sizeLine) : addD (.str x) (.str y) = some (.im (.str (x ++ y))) := if_pos h
theorem rng1_nat {n : Nat} (hn : n ≤ sizeLine) (s : Slots) : rng1 n s = some (ilist 0 n, s) := by
  rw [sizeLine_eq] at hn
  have h : -(2 ^ 62) ≤ (n : Int) ∧ (n : Int) < 2 ^ 62 := by omega
  unfold rng1
  rw [if_pos h]
  rfl
theorem itR1_of {f : AX} {s s' : Slots} {j : Int} (h : f s = some ([.im (.int j)], s')) : itR1 f s = rng1 j s' := by
  unfold itR1
  simp only [h, Option.bind_eq_bind, Option.bind_some]
theorem itR1_nat {f : AX} {s s' : Slots} {n : Nat} (h : f s = some ([.im (.int n)], s')) (hn : n ≤ sizeLine) : itR1 f s = some (ilist 0 n, s') := (itR1_of h).trans (rng1_nat hn s')
theorem eLst_of {f : AX} {s s' : Slots} {rs : List Res} {ds : List D} (h : f s = some (rs, s')) (h2 : ims rs = some ds) (hz : ds.length ≤ sizeLine) : eLst f s = some (.fr (.lst ds), s') := by
  unfold eLst; simp only [h, h2, hz, Option.bind_eq_bind, Option.bind_some, if_true]
theorem eTup_of {f : AX} {s s' : Slots} {rs : List Res} {ds : List D} (h : f s = some (rs, s')) (h2 : ims rs = some ds) (hz : ds.length ≤ sizeLine) : eTup f s = some (.im (.tup ds), s') := by
  unfold eTup; simp only [h, h2, hz, Option.bind_eq_bind, Option.bind_some, if_true]
/-- a slot with a frozen thing or none -/
def Fr (x : Option SV) : Prop := x = none ∨ ∃ d, x = some (.im d)
theorem Fr.non : Fr none := .inl rfl
theorem Fr.im {d : D} : Fr (some (.im d)) := .inr ⟨d, rfl⟩
theorem ixA_nat {xs : List D} {k : Nat} {x : D} (h : xs[k]? = some x) : ixA (.lst xs) (.int k) = some (.im x) := by
  show (L2.atI xs k).map Res.im = _
  rw [L2.atI_nat h]
  rfl
theorem ixA_nat_t {xs : List D} {k : Nat} {x : D} (h : xs[k]? = some x) : ixA (.tup xs) (.int k) = some (.im x) := by
  show (L2.atI xs k).map Res.im = _
  rw [L2.atI_nat h]
  rfl
theorem sSeq_nx {f g : SX} {s s' : Slots} (h : f s = some (.nx s')) : sSeq f g s = g s' := by unfold sSeq; simp only [h, Option.bind_eq_bind, Option.bind_some]
theorem sSeq_rt {f g : SX} {s s' : Slots} {r : Res} (h : f s = some (.rt r s')) : sSeq f g s = some (.rt r s') := by unfold sSeq; simp only [h, Option.bind_eq_bind, Option.bind_some]
theorem sIf_t {c : TX} {f g : SX} {s s' : Slots} (h : c s = some (true, s')) : sIf c f g s = f s' := by unfold sIf; simp only [h, Option.bind_eq_bind, Option.bind_some, if_true]
theorem sIf_f {c : TX} {f g : SX} {s s' : Slots} (h : c s = some (false, s')) : sIf c f g s = g s' := by unfold sIf; simp only [h, Option.bind_eq_bind, Option.bind_some, Bool.false_eq_true, if_false]
theorem fnF_rt {n np : Nat} {b : SX} {as : List SV} {r : Res} {s : Slots} (hl : as.length = np) (e : b (slots0 n as) = some (.rt r s)) : fnF n np b as = endF as r s := by unfold fnF; rw [if_pos hl, e]
theorem sRet_of {f : EX} {s s' : Slots} {r : Res} (h : f s = some (r, s')) : sRet f s = some (.rt r s') := by unfold sRet; simp only [h, Option.bind_eq_bind, Option.bind_some]
theorem sAsg_im {i : Nat} {f : EX} {s s' : Slots} {d : D} (h : f s = some (.im d, s')) (ok : okSet s' i = true) : sAsg i f s = some (.nx (s'.set i (some (.im d)))) := by unfold sAsg; simp only [h, Option.bind_eq_bind, Option.bind_some, ok, if_true]
theorem sAsg_fr {i : Nat} {f : EX} {s s' : Slots} {d : D} (h : f s = some (.fr d, s')) (ok : okSet s' i = true) : sAsg i f s = some (.nx (s'.set i (some (.ow false d)))) := by unfold sAsg; simp only [h, Option.bind_eq_bind, Option.bind_some, ok, if_true]
theorem fz_fr {f : EX} {s s' : Slots} {d : D} (h : f s = some (.fr d, s')) : fz f s = some (.im d, s') := by unfold fz; simp only [h, Option.bind_eq_bind, Option.bind_some]
theorem fz_im {f : EX} {s s' : Slots} {d : D} (h : f s = some (.im d, s')) : fz f s = some (.im d, s') := by unfold fz; simp only [h, Option.bind_eq_bind, Option.bind_some]
end G

set_option Elab.async false
set_option linter.all false
set_option maxRecDepth 100000
set_option maxHeartbeats 4000000
/-! The walk of k97: what each def computes, and that it does. Printed by gen.py. -/
namespace G.k97
open PySem PySem.Spec PyProof.Rows L2 G
noncomputable section
def topS (i : Nat) : Stmt := PySem.Challenge.pw_anyworth_k97_terms_unified.main.body.getD i (.Pass ⟨0, 0, 0, 0⟩)
abbrev s_put_term : Stmt := topS 1
theorem sc_put_term : FnScope ["term", "terms"] ["term", "terms"] (defScope s_put_term) := ⟨rfl, rfl, rfl, by decide +kernel, rfl, by decide +kernel, by decide +kernel⟩
abbrev s__law_draws : Stmt := topS 7
theorem sc__law_draws : FnScope ["_law_script", "_law_many", "_law_cells", "_law_rest", "_law_draws_here", "_law_k", "_law_at", "_law_mixed", "_law_cell"] ["_law_script", "_law_many"] (defScope s__law_draws) := ⟨rfl, rfl, rfl, by decide +kernel, rfl, by decide +kernel, by decide +kernel⟩
abbrev s__law_take : Stmt := topS 8
theorem sc__law_take : FnScope ["_law_draws_here", "_law_many"] ["_law_draws_here", "_law_many"] (defScope s__law_take) := ⟨rfl, rfl, rfl, by decide +kernel, rfl, by decide +kernel, by decide +kernel⟩
abbrev s__law_put : Stmt := topS 15
theorem sc__law_put : FnScope ["_law_term_here", "_law_mapping", "_law_pair"] ["_law_term_here", "_law_mapping"] (defScope s__law_put) := ⟨rfl, rfl, rfl, by decide +kernel, rfl, by decide +kernel, by decide +kernel⟩
abbrev s__law_valuations_of : Stmt := topS 17
theorem sc__law_valuations_of : FnScope ["_law_names", "_law_pool_here", "_law_found", "_law_name", "_law_grown", "_law_row", "_law_value_here"] ["_law_names", "_law_pool_here"] (defScope s__law_valuations_of) := ⟨rfl, rfl, rfl, by decide +kernel, rfl, by decide +kernel, by decide +kernel⟩
abbrev s__law_is_map : Stmt := topS 18
theorem sc__law_is_map : FnScope ["_law_actual", "_law_names", "_law_pool_here", "_law_bound", "_law_pair"] ["_law_actual", "_law_names", "_law_pool_here"] (defScope s__law_is_map) := ⟨rfl, rfl, rfl, by decide +kernel, rfl, by decide +kernel, by decide +kernel⟩
abbrev s_merged : Stmt := topS 3
theorem sc_merged : FnScope ["binding", "one", "other", "left", "right", "step", "after", "name"] ["binding", "one", "other"] (defScope s_merged) := ⟨rfl, rfl, rfl, by decide +kernel, rfl, by decide +kernel, by decide +kernel⟩
abbrev s__law_pick : Stmt := topS 9
theorem sc__law_pick : FnScope ["_law_draws_here", "_law_row"] ["_law_draws_here", "_law_row"] (defScope s__law_pick) := ⟨rfl, rfl, rfl, by decide +kernel, rfl, by decide +kernel, by decide +kernel⟩
abbrev s__law_pool : Stmt := topS 10
theorem sc__law_pool : FnScope ["_law_draws_here", "_law_many", "_law_pool_here", "_law_k", "_law_letters", "_law_word", "_law_j"] ["_law_draws_here", "_law_many"] (defScope s__law_pool) := ⟨rfl, rfl, rfl, by decide +kernel, rfl, by decide +kernel, by decide +kernel⟩
abbrev s__law_values : Stmt := topS 11
theorem sc__law_values : FnScope ["_law_draws_here", "_law_words", "_law_low", "_law_values_here"] ["_law_draws_here", "_law_words"] (defScope s__law_values) := ⟨rfl, rfl, rfl, by decide +kernel, rfl, by decide +kernel, by decide +kernel⟩
abbrev s__law_value : Stmt := topS 12
theorem sc__law_value : FnScope ["_law_draws_here", "_law_values_here"] ["_law_draws_here", "_law_values_here"] (defScope s__law_value) := ⟨rfl, rfl, rfl, by decide +kernel, rfl, by decide +kernel, by decide +kernel⟩
abbrev s__law_rows : Stmt := topS 16
theorem sc__law_rows : FnScope ["_law_terms", "_law_names", "_law_values_here", "_law_term_here", "_law_k"] ["_law_terms", "_law_names", "_law_values_here"] (defScope s__law_rows) := ⟨rfl, rfl, rfl, by decide +kernel, rfl, by decide +kernel, by decide +kernel⟩
abbrev s_binding_of : Stmt := topS 4
theorem sc_binding_of : FnScope ["pairs", "binding", "one", "other"] ["pairs"] (defScope s_binding_of) := ⟨rfl, rfl, rfl, by decide +kernel, rfl, by decide +kernel, by decide +kernel⟩
abbrev s__law_world : Stmt := topS 13
theorem sc__law_world : FnScope ["_law_draws_here", "_law_pool_here"] ["_law_draws_here"] (defScope s__law_world) := ⟨rfl, rfl, rfl, by decide +kernel, rfl, by decide +kernel, by decide +kernel⟩
abbrev s__law_term : Stmt := topS 14
theorem sc__law_term : FnScope ["_law_draws_here", "_law_world_here"] ["_law_draws_here", "_law_world_here"] (defScope s__law_term) := ⟨rfl, rfl, rfl, by decide +kernel, rfl, by decide +kernel, by decide +kernel⟩
abbrev s_unified : Stmt := topS 5
theorem sc_unified : FnScope ["terms", "others", "binding", "name"] ["terms", "others"] (defScope s_unified) := ⟨rfl, rfl, rfl, by decide +kernel, rfl, by decide +kernel, by decide +kernel⟩
abbrev s_law : Stmt := topS 19
theorem sc_law : FnScope ["_law_script", "_law_draws_here", "_law_world_here", "_law_size", "_law_terms", "_law_others", "_law_names", "_law_pool_here", "_law_term_here", "_law_due", "_law_values_here", "_law_actual", "_law_bound", "_law_k", "_law_pair", "_law_name"] ["_law_script"] (defScope s_law) := ⟨rfl, rfl, rfl, by decide +kernel, rfl, by decide +kernel, by decide +kernel⟩
def b_put_term : SX := (sSeq (sIf (tst (op2 eqD (op2 ixA (eV 0) (eC (.int 0))) (eC (.str "var")))) (sRet (eGet (eV 1) (op2 ixA (eV 0) (eC (.int 1))) (eFz 0))) sNil) (sRet (eV 0)))
def F_put_term : Fn := fnF 2 2 b_put_term
def fe__law_draws_1 : EX := (fz (eCB gInt (aCons (eV 8) aNil)))
def bl__law_draws_2 : SX := (sSeq (sAsg 6 (fz (op2 modD (eV 5) (eCB gLen (aCons (eV 2) aNil))))) (sIf (tst (op2 geD (op2 ixA (eV 2) (eV 6)) (op2 powD (eC (.int 10)) (eC (.int 18))))) (sSeq (sDrop (eMu isLst muAppend 4 (aCons (fz (op2 modD (eCB gInt (aCons (op2 ixA (eV 3) (eV 6)) aNil)) (eC (.int 1000)))) aNil))) (sSub 3 (eV 6) (fz (op2 divD (op2 ixA (eV 3) (eV 6)) (eC (.int 1000)))))) (sSeq (sAsg 7 (fz (op2 modD (eCB gInt (aCons (op2 addD (op2 addD (op2 mulD (op2 ixA (eV 2) (eV 6)) (eC (.int 48271))) (op2 mulD (eV 5) (eC (.int 69621)))) (eC (.int 11))) aNil)) (eC (.int 2147483647))))) (sDrop (eMu isLst muAppend 4 (aCons (fz (op2 modD (eCB gInt (aCons (op2 addD (op2 addD (op2 mulD (eV 7) (eV 7)) (op2 mulD (eC (.int 3)) (eV 7))) (eV 5)) aNil)) (eC (.int 1000003)))) aNil))))))
def b__law_draws : SX := (sSeq (sAsg 2 (eLc [8] (itA (eFz 0)) (gN 8) tTrue fe__law_draws_1)) (sSeq (sIf (tst (op2 eqD (eCB gLen (aCons (eV 2) aNil)) (eC (.int 0)))) (sDrop (eMu isLst muAppend 2 (aCons (eC (.int 0)) aNil))) sNil) (sSeq (sAsg 3 (eCB gList (aCons (eV 2) aNil))) (sSeq (sAsg 4 (eLst aNil)) (sSeq (sFor (itR1 (aCons (eV 1) aNil)) (gN 5) bl__law_draws_2) (sSeq (sDrop (eMu isLst muReverse 4 aNil)) (sRet (eV 4))))))))
def F__law_draws : Fn := fnF 9 2 b__law_draws
def b__law_take : SX := (sSeq (sIf (tst (op2 eqD (eCB gLen (aCons (eV 0) aNil)) (eC (.int 0)))) (sRet (eC (.int 0))) sNil) (sRet (op2 modD (eCB gInt (aCons (eMu isLst muPop 0 aNil) aNil)) (eV 1))))
def F__law_take : Fn := fnF 2 2 b__law_take
def bl__law_put_1 : SX := (sIf (tst (op2 eqD (eV 0) (eTup (aCons (eC (.str "var")) (aCons (fz (op2 ixA (eV 2) (eC (.int 0)))) aNil))))) (sRet (op2 ixA (eV 2) (eC (.int 1)))) sNil)
def b__law_put : SX := (sSeq (sFor (itA (eFz 1)) (gN 2) bl__law_put_1) (sRet (eV 0)))
def F__law_put : Fn := fnF 3 2 b__law_put
def fe__law_valuations_of_1 : EX := (fz (op2 addD (eV 5) (eLst (aCons (eFz 6) aNil))))
def bl__law_valuations_of_2 : SX := (sAsg 4 (fz (op2 addD (eV 4) (eLc [6] (itA (eFz 1)) (gN 6) tTrue fe__law_valuations_of_1))))
def bl__law_valuations_of_3 : SX := (sSeq (sAsg 4 (fz (eLst aNil))) (sSeq (sFor (itA (eFz 2)) (gN 5) bl__law_valuations_of_2) (sAsg 2 (eFz 4))))
def b__law_valuations_of : SX := (sSeq (sAsg 2 (fz (eLst (aCons (fz (eLst aNil)) aNil)))) (sSeq (sFor (itA (eFz 0)) (gN 3) bl__law_valuations_of_3) (sRet (eV 2))))
def F__law_valuations_of : Fn := fnF 7 2 b__law_valuations_of
def bl__law_is_map_1 : SX := (sSeq (sIf (tOrX (tNotX (tst (eIsi "tuple" (eV 4)))) (tOrX (tst (op2 neD (eCB gLen (aCons (eV 4) aNil)) (eC (.int 2)))) (tOrX (tNotX (tst (eIsi "str" (op2 ixA (eV 4) (eC (.int 0)))))) (tst (op2 (inA true) (op2 ixA (eV 4) (eC (.int 0))) (eV 1)))))) (sRet (eC (.bl false))) sNil) (sSeq (sIf (tOrX (tNotX (tst (eIsi "tuple" (op2 ixA (eV 4) (eC (.int 1)))))) (tOrX (tst (op2 neD (eCB gLen (aCons (op2 ixA (eV 4) (eC (.int 1))) aNil)) (eC (.int 2)))) (tst (op2 (inA true) (op2 ixA (op2 ixA (eV 4) (eC (.int 1))) (eC (.int 0))) (eLst (aCons (eC (.str "var")) (aCons (eC (.str "value")) aNil))))))) (sRet (eC (.bl false))) sNil) (sSeq (sIf (tOrX (tAndX (tst (op2 eqD (op2 ixA (op2 ixA (eV 4) (eC (.int 1))) (eC (.int 0))) (eC (.str "value")))) (tst (op2 (inA true) (op2 ixA (op2 ixA (eV 4) (eC (.int 1))) (eC (.int 1))) (eV 2)))) (tAndX (tst (op2 eqD (op2 ixA (op2 ixA (eV 4) (eC (.int 1))) (eC (.int 0))) (eC (.str "var")))) (tst (op2 (inA true) (op2 ixA (op2 ixA (eV 4) (eC (.int 1))) (eC (.int 1))) (eV 1))))) (sRet (eC (.bl false))) sNil) (sDrop (eMu isLst muAppend 3 (aCons (fz (op2 ixA (eV 4) (eC (.int 0)))) aNil))))))
def ct__law_is_map_2 : TX := (tAndX (tst (op2 eqD (op2 ixA (op2 ixA (eV 4) (eC (.int 1))) (eC (.int 0))) (eC (.str "var")))) (tst (op2 (inA false) (op2 ixA (op2 ixA (eV 4) (eC (.int 1))) (eC (.int 1))) (eV 3))))
def fe__law_is_map_3 : EX := (eFz 4)
def b__law_is_map : SX := (sSeq (sIf (tNotX (tst (eIsi "tuple" (eV 0)))) (sRet (eC (.bl false))) sNil) (sSeq (sAsg 3 (eLst aNil)) (sSeq (sFor (itA (eFz 0)) (gN 4) bl__law_is_map_1) (sSeq (sIf (tst (op2 neD (eV 3) (eCB gSetSort (aCons (eV 3) aNil)))) (sRet (eC (.bl false))) sNil) (sRet (op2 eqD (eCB gLen (aCons (eLc [4] (itA (eFz 0)) (gN 4) ct__law_is_map_2 fe__law_is_map_3) aNil)) (eC (.int 0))))))))
def F__law_is_map : Fn := fnF 5 3 b__law_is_map
def fe_merged_1 : EX := (fz (eCall F_put_term (aCons (fz (op2 ixA (eV 0) (eV 7))) (aCons (eFz 5) aNil))))
def b_merged : SX := (sSeq (sAsg 3 (fz (eCall F_put_term (aCons (eFz 1) (aCons (eFz 0) aNil))))) (sSeq (sAsg 4 (fz (eCall F_put_term (aCons (eFz 2) (aCons (eFz 0) aNil))))) (sSeq (sIf (tst (op2 eqD (eV 3) (eV 4))) (sRet (eV 0)) sNil) (sSeq (sIf (tAndX (tst (op2 eqD (op2 ixA (eV 3) (eC (.int 0))) (eC (.str "value")))) (tst (op2 eqD (op2 ixA (eV 4) (eC (.int 0))) (eC (.str "value"))))) (sRet (eC .non)) sNil) (sSeq (sIf (tst (op2 eqD (op2 ixA (eV 3) (eC (.int 0))) (eC (.str "value")))) (sPar 3 4 (aCons (eFz 4) (aCons (eFz 3) aNil))) sNil) (sSeq (sAsg 5 (fz (eDisp [((fz (op2 ixA (eV 3) (eC (.int 1)))), (eFz 4))]))) (sSeq (sAsg 6 (eDc [7] (itK 0) (gN 7) tTrue (eFz 7) fe_merged_1)) (sSeq (sSub 6 (op2 ixA (eV 3) (eC (.int 1))) (eFz 4)) (sRet (eV 6))))))))))
def F_merged : Fn := fnF 8 3 b_merged
def b__law_pick : SX := (sRet (op2 ixA (eV 1) (eCall F__law_take (aCons (eV 0) (aCons (fz (eCB gLen (aCons (eV 1) aNil))) aNil)))))
def F__law_pick : Fn := fnF 2 2 b__law_pick
def fe__law_pool_1 : EX := (fz (op2 ixA (eC (.str "abcdefghijklmnopqrstuvwxyz")) (eCall F__law_take (aCons (eV 0) (aCons (eC (.int 26)) aNil)))))
def bl__law_pool_2 : SX := (sSeq (sAsg 4 (eLc [6] (itR1 (aCons (op2 addD (eC (.int 1)) (eCall F__law_take (aCons (eV 0) (aCons (eC (.int 3)) aNil)))) aNil)) (gN 6) tTrue fe__law_pool_1)) (sSeq (sAsg 5 (fz (eJoin (eC (.str "")) (eV 4)))) (sSeq (sIf (tst (op2 (inA false) (eV 5) (eV 2))) (sAsg 5 (fz (op2 addD (eJoin (eC (.str "")) (eV 2)) (eC (.str "z"))))) sNil) (sDrop (eMu isLst muAppend 2 (aCons (eFz 5) aNil))))))
def b__law_pool : SX := (sSeq (sAsg 2 (eLst aNil)) (sSeq (sFor (itR1 (aCons (eV 1) aNil)) (gN 3) bl__law_pool_2) (sRet (eV 2))))
def F__law_pool : Fn := fnF 7 2 b__law_pool
def b__law_values : SX := (sSeq (sAsg 2 (fz (op2 subD (eCall F__law_take (aCons (eV 0) (aCons (eC (.int 7)) aNil))) (eC (.int 3))))) (sSeq (sAsg 3 (eLst (aCons (eFz 2) (aCons (fz (op2 addD (op2 addD (eV 2) (eC (.int 1))) (eCall F__law_take (aCons (eV 0) (aCons (eC (.int 5)) aNil))))) (aCons (fz (op2 ixA (eV 1) (eC (.int 0)))) aNil))))) (sSeq (sIf (tst (op2 eqD (eCall F__law_take (aCons (eV 0) (aCons (eC (.int 3)) aNil))) (eC (.int 0)))) (sSub 3 (eC (.int 1)) (fz (op2 ixA (eV 1) (eC (.int 1))))) sNil) (sRet (eV 3)))))
def F__law_values : Fn := fnF 4 2 b__law_values
def b__law_value : SX := (sRet (op2 ixA (eV 1) (op2 ixA (eLst (aCons (eC (.int 0)) (aCons (eC (.int 1)) (aCons (eC (.int 0)) (aCons (eC (.int 2)) (aCons (eC (.int 1)) aNil)))))) (eCall F__law_take (aCons (eV 0) (aCons (eC (.int 5)) aNil))))))
def F__law_value : Fn := fnF 2 2 b__law_value
def fe__law_rows_1 : EX := (eTup (aCons (fz (op2 ixA (eV 1) (eV 4))) (aCons (eTup (aCons (eC (.str "value")) (aCons (fz (op2 ixA (eV 2) (eV 4))) aNil))) aNil)))
def fe__law_rows_2 : EX := (fz (op2 ixA (eCall F__law_put (aCons (eFz 3) (aCons (fz (eLc [4] (itR1 (aCons (eCB gLen (aCons (eV 1) aNil)) aNil)) (gN 4) tTrue fe__law_rows_1)) aNil))) (eC (.int 1))))
def b__law_rows : SX := (sRet (eLc [3] (itA (eFz 0)) (gN 3) tTrue fe__law_rows_2))
def F__law_rows : Fn := fnF 5 3 b__law_rows
def bl_binding_of_1 : SX := (sSeq (sAsg 1 (fz (eCall F_merged (aCons (eFz 1) (aCons (eFz 2) (aCons (eFz 3) aNil)))))) (sIf (tst (op2 isND (eV 1) (eC .non))) (sRet (eC .non)) sNil))
def b_binding_of : SX := (sSeq (sAsg 1 (fz eDic0)) (sSeq (sFor (itA (eFz 0)) (gT [(gN 2), (gN 3)]) bl_binding_of_1) (sRet (eV 1))))
def F_binding_of : Fn := fnF 4 1 b_binding_of
def b__law_world : SX := (sSeq (sAsg 1 (fz (eCall F__law_pool (aCons (eV 0) (aCons (eC (.int 5)) aNil))))) (sRet (eLst (aCons (fz (eSl (eV 1) pNo (pSome (eC (.int 2))))) (aCons (fz (eCB gSortA (aCons (eSl (eV 1) (pSome (eC (.int 2))) pNo) aNil))) (aCons (fz (eCall F__law_values (aCons (eV 0) (aCons (eFz 1) aNil)))) aNil))))))
def F__law_world : Fn := fnF 2 1 b__law_world
def b__law_term : SX := (sSeq (sIf (tst (op2 eqD (eCall F__law_take (aCons (eV 0) (aCons (eC (.int 5)) aNil))) (eC (.int 0)))) (sRet (eTup (aCons (eC (.str "value")) (aCons (fz (eCall F__law_value (aCons (eV 0) (aCons (fz (op2 ixA (eV 1) (eC (.int 2)))) aNil)))) aNil)))) sNil) (sRet (eTup (aCons (eC (.str "var")) (aCons (fz (eCall F__law_pick (aCons (eV 0) (aCons (fz (op2 ixA (eV 1) (eC (.int 1)))) aNil)))) aNil)))))
def F__law_term : Fn := fnF 2 2 b__law_term
def fe_unified_1 : EX := (eTup (aCons (eFz 3) (aCons (fz (op2 ixA (eV 2) (eV 3))) aNil)))
def b_unified : SX := (sSeq (sAsg 2 (fz (eCall F_binding_of (aCons (fz (eCB gListZip (aCons (eV 0) (aCons (eV 1) aNil)))) aNil)))) (sSeq (sIf (tst (op2 isND (eV 2) (eC .non))) (sRet (eC .non)) sNil) (sRet (eCB gTuple (aCons (eLc [3] (itA (eCB gSortA (aCons (eV 2) aNil))) (gN 3) tTrue fe_unified_1) aNil)))))
def F_unified : Fn := fnF 4 2 b_unified
def fe_law_1 : EX := (fz (eCall F__law_term (aCons (eV 1) (aCons (eFz 2) aNil))))
def fe_law_2 : EX := (fz (eCall F__law_term (aCons (eV 1) (aCons (eFz 2) aNil))))
def ct_law_3 : TX := (tst (op2 eqD (op2 ixA (eV 8) (eC (.int 0))) (eC (.str "var"))))
def fe_law_4 : EX := (fz (op2 ixA (eV 8) (eC (.int 1))))
def bl_law_5 : SX := (sIf (tAndX (tst (op2 eqD (op2 ixA (eV 8) (eC (.int 0))) (eC (.str "value")))) (tst (op2 (inA true) (op2 ixA (eV 8) (eC (.int 1))) (eV 7)))) (sDrop (eMu isLst muAppend 7 (aCons (fz (op2 ixA (eV 8) (eC (.int 1)))) aNil))) sNil)
def fe_law_6 : EX := (fz (eCB gStr (aCons (eV 15) aNil)))
def bl_law_7 : SX := (sIf (tst (op2 eqD (eCall F__law_rows (aCons (eFz 4) (aCons (eFz 6) (aCons (eFz 10) aNil)))) (eCall F__law_rows (aCons (eFz 5) (aCons (eFz 6) (aCons (eFz 10) aNil)))))) (sDrop (eMu isLst muAppend 9 (aCons (eFz 10) aNil))) sNil)
def fe_law_8 : EX := (fz (eCall F__law_put (aCons (eFz 8) (aCons (eFz 11) aNil))))
def fe_law_9 : EX := (fz (eCall F__law_put (aCons (eFz 8) (aCons (eFz 11) aNil))))
def fe_law_10 : EX := (fz (op2 ixA (eV 10) (eMt isLst gIndex (eV 6) (aCons (op2 ixA (eV 14) (eC (.int 0))) aNil))))
def fe_law_11 : EX := (fz (op2 ixA (eV 14) (eC (.int 1))))
def bl_law_12 : SX := (sSeq (sAsg 12 (eLc [14] (itA (eFz 11)) (gN 14) tTrue fe_law_10)) (sIf (tst (op2 neD (eCall F__law_rows (aCons (fz (eLc [14] (itA (eFz 11)) (gN 14) tTrue fe_law_11)) (aCons (eFz 6) (aCons (eFz 10) aNil)))) (eV 12))) (sRet (eC (.bl false))) sNil))
def b_law : SX := (sSeq (sAsg 1 (eCall F__law_draws (aCons (eFz 0) (aCons (eC (.int 120)) aNil)))) (sSeq (sAsg 2 (eCall F__law_world (aCons (eV 1) aNil))) (sSeq (sSub 2 (eC (.int 1)) (fz (op2 addD (op2 ixA (eV 2) (eC (.int 1))) (eLst (aCons (fz (op2 addD (eJoin (eC (.str "")) (op2 ixA (eV 2) (eC (.int 1)))) (eC (.str "q")))) aNil))))) (sSeq (sAsg 3 (fz (eCall F__law_take (aCons (eV 1) (aCons (eC (.int 6)) aNil))))) (sSeq (sAsg 4 (fz (eCB gTuple (aCons (eLc [13] (itR1 (aCons (eV 3) aNil)) (gN 13) tTrue fe_law_1) aNil)))) (sSeq (sAsg 5 (fz (eCB gTuple (aCons (eLc [13] (itR1 (aCons (eV 3) aNil)) (gN 13) tTrue fe_law_2) aNil)))) (sSeq (sAsg 6 (fz (eCB gSetSort (aCons (eLc [8] (itA (op2 addD (eV 4) (eV 5))) (gN 8) ct_law_3 fe_law_4) aNil)))) (sSeq (sAsg 7 (eLst aNil)) (sSeq (sFor (itA (op2 addD (eV 4) (eV 5))) (gN 8) bl_law_5) (sSeq (sDrop (eMu isLst muAppend 7 (aCons (fz (op2 addD (eJoin (eC (.str "")) (eLc [15] (itA (op2 ixA (eV 2) (eC (.int 1)))) (gN 15) tTrue fe_law_6)) (eC (.str "z")))) aNil))) (sSeq (sAsg 9 (eLst aNil)) (sSeq (sFor (itA (eCall F__law_valuations_of (aCons (eFz 6) (aCons (eFz 7) aNil)))) (gN 10) bl_law_7) (sSeq (sAsg 11 (fz (eCall F_unified (aCons (eFz 4) (aCons (eFz 5) aNil))))) (sSeq (sIf (tst (op2 isND (eV 11) (eC .non))) (sRet (op2 eqD (eCB gLen (aCons (eV 9) aNil)) (eC (.int 0)))) sNil) (sSeq (sIf (tOrX (tst (op2 eqD (eCB gLen (aCons (eV 9) aNil)) (eC (.int 0)))) (tNotX (tst (eCall F__law_is_map (aCons (eFz 11) (aCons (eFz 6) (aCons (eFz 7) aNil))))))) (sRet (eC (.bl false))) sNil) (sSeq (sIf (tst (op2 neD (eCB gTuple (aCons (eLc [8] (itA (eFz 4)) (gN 8) tTrue fe_law_8) aNil)) (eCB gTuple (aCons (eLc [8] (itA (eFz 5)) (gN 8) tTrue fe_law_9) aNil)))) (sRet (eC (.bl false))) sNil) (sSeq (sFor (itA (eFz 9)) (gN 10) bl_law_12) (sRet (eC (.bl true))))))))))))))))))))
def F_law : Fn := fnF 16 1 b_law
end
structure All (K : PySem.W.Frag) (mg : Str → Option Value) where
  d_put_term : Df K mg "put_term" s_put_term ["term", "terms"]
  d__law_draws : Df K mg "_law_draws" s__law_draws ["_law_script", "_law_many"]
  d__law_take : Df K mg "_law_take" s__law_take ["_law_draws_here", "_law_many"]
  d__law_put : Df K mg "_law_put" s__law_put ["_law_term_here", "_law_mapping"]
  d__law_valuations_of : Df K mg "_law_valuations_of" s__law_valuations_of ["_law_names", "_law_pool_here"]
  d__law_is_map : Df K mg "_law_is_map" s__law_is_map ["_law_actual", "_law_names", "_law_pool_here"]
  d_merged : Df K mg "merged" s_merged ["binding", "one", "other"]
  d__law_pick : Df K mg "_law_pick" s__law_pick ["_law_draws_here", "_law_row"]
  d__law_pool : Df K mg "_law_pool" s__law_pool ["_law_draws_here", "_law_many"]
  d__law_values : Df K mg "_law_values" s__law_values ["_law_draws_here", "_law_words"]
  d__law_value : Df K mg "_law_value" s__law_value ["_law_draws_here", "_law_values_here"]
  d__law_rows : Df K mg "_law_rows" s__law_rows ["_law_terms", "_law_names", "_law_values_here"]
  d_binding_of : Df K mg "binding_of" s_binding_of ["pairs"]
  d__law_world : Df K mg "_law_world" s__law_world ["_law_draws_here"]
  d__law_term : Df K mg "_law_term" s__law_term ["_law_draws_here", "_law_world_here"]
  d_unified : Df K mg "unified" s_unified ["terms", "others"]
  d_law : Df K mg "law" s_law ["_law_script"]
  m_int : mg "int" = none
  m_isinstance : mg "isinstance" = none
  m_len : mg "len" = none
  m_list : mg "list" = none
  m_range : mg "range" = none
  m_set : mg "set" = none
  m_sorted : mg "sorted" = none
  m_str : mg "str" = none
  m_tuple : mg "tuple" = none
  m_zip : mg "zip" = none
section
variable {P : Program} {w : World} {K : PySem.W.Frag} {mg : Str → Option Value} {base : Heap}
theorem ok_put_term (A : All K mg) : FnOk P w K mg base CX0 1 A.d_put_term.a A.d_put_term.fd ["term", "terms"] (spG K F_put_term) := by
  refine A.d_put_term.F.ok (k := 0) sc_put_term (fun vs H Q E h => spG_len rfl h) (fun cdv A' outer s H vs Q E hr h => ?_)
  have hu65 := hr.un
  have hu1 : (A'.deeper (envOfC "put_term" (defScope s_put_term) s.heap.objs.size A.d_put_term.a cdv)).units + 1 < cLine := by omega
  have hu64 : (A'.deeper (envOfC "put_term" (defScope s_put_term) s.heap.objs.size A.d_put_term.a cdv)).units + 64 < cLine := by omega
  replace hu65 : (A'.deeper (envOfC "put_term" (defScope s_put_term) s.heap.objs.size A.d_put_term.a cdv)).units + 65 < cLine := by omega
  refine fn_close (N := ["term", "terms"]) (f := b_put_term) ?_ h
  exact (gs_cons (gs_if (gt_cmp (or_eq hu64) os_eq (ge_ixA (ge_v 0) ge_int hu1) ge_str (nomark _)) (gs_one (gs_ret (ge_get hu1 (ge_v 1) (ge_ixA (ge_v 0) ge_int hu1) (ge_fz 0) ⟨rfl, rfl, rfl, rfl⟩))) gs_nil) (gs_one (gs_ret (ge_v 0))))
theorem ok__law_draws (A : All K mg) : FnOk P w K mg base CX0 1 A.d__law_draws.a A.d__law_draws.fd ["_law_script", "_law_many"] (spG K F__law_draws) := by
  refine A.d__law_draws.F.ok (k := 0) sc__law_draws (fun vs H Q E h => spG_len rfl h) (fun cdv A' outer s H vs Q E hr h => ?_)
  have hu65 := hr.un
  have hu1 : (A'.deeper (envOfC "_law_draws" (defScope s__law_draws) s.heap.objs.size A.d__law_draws.a cdv)).units + 1 < cLine := by omega
  have hu64 : (A'.deeper (envOfC "_law_draws" (defScope s__law_draws) s.heap.objs.size A.d__law_draws.a cdv)).units + 64 < cLine := by omega
  replace hu65 : (A'.deeper (envOfC "_law_draws" (defScope s__law_draws) s.heap.objs.size A.d__law_draws.a cdv)).units + 65 < cLine := by omega
  refine fn_close (N := ["_law_script", "_law_many", "_law_cells", "_law_rest", "_law_draws_here", "_law_k", "_law_at", "_law_mixed", "_law_cell"]) (f := b__law_draws) ?_ h
  exact (gs_cons (gs_setLc rfl sc__law_draws.nd rfl rfl (sw_true rfl rfl (by decide +kernel) (by decide +kernel)) (gi_any (ge_fz 0)) (blkOk_by (own := [("_law_cell", 8)]) (by kernel_rfl)) (by decide) loc_gN (fun _ _ _ _ _ => (gg_name (i := 8) sc__law_draws.nd rfl (by first | exact Or.inl rfl | exact Or.inr rfl))) (fun _ _ _ _ _ => gts_nil) (fun _ _ _ _ _ => (ge_fzE (ge_callTy call_int1 cs_int (by rfl) A.m_int (by decide +kernel) (ga_cons (ge_v 8) ga_nil))))) (gs_cons (gs_if (gt_cmp (or_eq hu64) os_eq (ge_callB call_len cs_len (by rfl) A.m_len PySem.boot_len (ga_cons (ge_v 2) ga_nil)) ge_int (nomark _)) (gs_one (gs_expr (ge_mu 2 F.plainAttrs_list F.slot_list_append F.type_list_append mt_append ty_list mu_append (ga_cons ge_int ga_nil)))) gs_nil) (gs_cons (gs_set (i := 3) sc__law_draws.nd rfl (by first | exact Or.inl rfl | exact Or.inr rfl) (ge_callTy call_list_of cs_list (by rfl) A.m_list (by decide +kernel) (ga_cons (ge_v 2) ga_nil))) (gs_cons (gs_set (i := 4) sc__law_draws.nd rfl (by first | exact Or.inl rfl | exact Or.inr rfl) (ge_lst ga_nil)) (gs_cons (gs_for PassesOwn.never rfl (gi_range1 (by rfl) A.m_range (ga_cons (ge_v 1) ga_nil)) (gg_name (i := 5) sc__law_draws.nd rfl (by first | exact Or.inl rfl | exact Or.inr rfl)) (gs_cons (gs_set (i := 6) sc__law_draws.nd rfl (by first | exact Or.inl rfl | exact Or.inr rfl) (ge_fzE (ge_op op_mod os_mod (ge_v 5) (ge_callB call_len cs_len (by rfl) A.m_len PySem.boot_len (ga_cons (ge_v 2) ga_nil))))) (gs_one (gs_if (gt_cmp op_ge os_iiB (ge_ixA (ge_v 2) (ge_v 6) hu1) (ge_op op_pow os_pow ge_int ge_int) (nomark _)) (gs_cons (gs_expr (ge_mu 4 F.plainAttrs_list F.slot_list_append F.type_list_append mt_append ty_list mu_append (ga_cons (ge_fzE (ge_op op_mod os_mod (ge_callTy call_int1 cs_int (by rfl) A.m_int (by decide +kernel) (ga_cons (ge_ixA (ge_v 3) (ge_v 6) hu1) ga_nil)) ge_int)) ga_nil))) (gs_one (gs_sub 3 hu1 (ge_v 6) (ge_fzE (ge_op op_fdiv os_div (ge_ixA (ge_v 3) (ge_v 6) hu1) ge_int))))) (gs_cons (gs_set (i := 7) sc__law_draws.nd rfl (by first | exact Or.inl rfl | exact Or.inr rfl) (ge_fzE (ge_op op_mod os_mod (ge_callTy call_int1 cs_int (by rfl) A.m_int (by decide +kernel) (ga_cons (ge_op or_add os_add (ge_op or_add os_add (ge_op op_mul os_mul (ge_ixA (ge_v 2) (ge_v 6) hu1) ge_int) (ge_op op_mul os_mul (ge_v 5) ge_int)) ge_int) ga_nil)) ge_int))) (gs_one (gs_expr (ge_mu 4 F.plainAttrs_list F.slot_list_append F.type_list_append mt_append ty_list mu_append (ga_cons (ge_fzE (ge_op op_mod os_mod (ge_callTy call_int1 cs_int (by rfl) A.m_int (by decide +kernel) (ga_cons (ge_op or_add os_add (ge_op or_add os_add (ge_op op_mul os_mul (ge_v 7) (ge_v 7)) (ge_op op_mul os_mul ge_int (ge_v 7))) (ge_v 5)) ga_nil)) ge_int)) ga_nil))))))))) (gs_cons (gs_expr (ge_mu0 4 F.plainAttrs_list F.slot_list_reverse F.type_list_reverse mt_reverse ty_list mu_reverse)) (gs_one (gs_ret (ge_v 4)))))))))
theorem ok__law_take (A : All K mg) : FnOk P w K mg base CX0 1 A.d__law_take.a A.d__law_take.fd ["_law_draws_here", "_law_many"] (spG K F__law_take) := by
  refine A.d__law_take.F.ok (k := 0) sc__law_take (fun vs H Q E h => spG_len rfl h) (fun cdv A' outer s H vs Q E hr h => ?_)
  have hu65 := hr.un
  have hu1 : (A'.deeper (envOfC "_law_take" (defScope s__law_take) s.heap.objs.size A.d__law_take.a cdv)).units + 1 < cLine := by omega
  have hu64 : (A'.deeper (envOfC "_law_take" (defScope s__law_take) s.heap.objs.size A.d__law_take.a cdv)).units + 64 < cLine := by omega
  replace hu65 : (A'.deeper (envOfC "_law_take" (defScope s__law_take) s.heap.objs.size A.d__law_take.a cdv)).units + 65 < cLine := by omega
  refine fn_close (N := ["_law_draws_here", "_law_many"]) (f := b__law_take) ?_ h
  exact (gs_cons (gs_if (gt_cmp (or_eq hu64) os_eq (ge_callB call_len cs_len (by rfl) A.m_len PySem.boot_len (ga_cons (ge_v 0) ga_nil)) ge_int (nomark _)) (gs_one (gs_ret ge_int)) gs_nil) (gs_one (gs_ret (ge_op op_mod os_mod (ge_callTy call_int1 cs_int (by rfl) A.m_int (by decide +kernel) (ga_cons (ge_mu0 0 F.plainAttrs_list F.slot_list_pop F.type_list_pop mt_pop ty_list mu_pop) ga_nil)) (ge_v 1)))))
theorem ok__law_put (A : All K mg) : FnOk P w K mg base CX0 1 A.d__law_put.a A.d__law_put.fd ["_law_term_here", "_law_mapping"] (spG K F__law_put) := by
  refine A.d__law_put.F.ok (k := 0) sc__law_put (fun vs H Q E h => spG_len rfl h) (fun cdv A' outer s H vs Q E hr h => ?_)
  have hu65 := hr.un
  have hu1 : (A'.deeper (envOfC "_law_put" (defScope s__law_put) s.heap.objs.size A.d__law_put.a cdv)).units + 1 < cLine := by omega
  have hu64 : (A'.deeper (envOfC "_law_put" (defScope s__law_put) s.heap.objs.size A.d__law_put.a cdv)).units + 64 < cLine := by omega
  replace hu65 : (A'.deeper (envOfC "_law_put" (defScope s__law_put) s.heap.objs.size A.d__law_put.a cdv)).units + 65 < cLine := by omega
  refine fn_close (N := ["_law_term_here", "_law_mapping", "_law_pair"]) (f := b__law_put) ?_ h
  exact (gs_cons (gs_for PassesOwn.never rfl (gi_any (ge_fz 1)) (gg_name (i := 2) sc__law_put.nd rfl (by first | exact Or.inl rfl | exact Or.inr rfl)) (gs_one (gs_if (gt_cmp (or_eq hu64) os_eq (ge_v 0) (ge_tup (ga_cons ge_str (ga_cons (ge_fzE (ge_ixA (ge_v 2) ge_int hu1)) ga_nil))) (nomark _)) (gs_one (gs_ret (ge_ixA (ge_v 2) ge_int hu1))) gs_nil))) (gs_one (gs_ret (ge_v 0))))
theorem ok__law_valuations_of (A : All K mg) : FnOk P w K mg base CX0 1 A.d__law_valuations_of.a A.d__law_valuations_of.fd ["_law_names", "_law_pool_here"] (spG K F__law_valuations_of) := by
  refine A.d__law_valuations_of.F.ok (k := 0) sc__law_valuations_of (fun vs H Q E h => spG_len rfl h) (fun cdv A' outer s H vs Q E hr h => ?_)
  have hu65 := hr.un
  have hu1 : (A'.deeper (envOfC "_law_valuations_of" (defScope s__law_valuations_of) s.heap.objs.size A.d__law_valuations_of.a cdv)).units + 1 < cLine := by omega
  have hu64 : (A'.deeper (envOfC "_law_valuations_of" (defScope s__law_valuations_of) s.heap.objs.size A.d__law_valuations_of.a cdv)).units + 64 < cLine := by omega
  replace hu65 : (A'.deeper (envOfC "_law_valuations_of" (defScope s__law_valuations_of) s.heap.objs.size A.d__law_valuations_of.a cdv)).units + 65 < cLine := by omega
  refine fn_close (N := ["_law_names", "_law_pool_here", "_law_found", "_law_name", "_law_grown", "_law_row", "_law_value_here"]) (f := b__law_valuations_of) ?_ h
  exact (gs_cons (gs_set (i := 2) sc__law_valuations_of.nd rfl (by first | exact Or.inl rfl | exact Or.inr rfl) (ge_fzE (ge_lst (ga_cons (ge_fzE (ge_lst ga_nil)) ga_nil)))) (gs_cons (gs_for PassesOwn.never rfl (gi_any (ge_fz 0)) (gg_name (i := 3) sc__law_valuations_of.nd rfl (by first | exact Or.inl rfl | exact Or.inr rfl)) (gs_cons (gs_set (i := 4) sc__law_valuations_of.nd rfl (by first | exact Or.inl rfl | exact Or.inr rfl) (ge_fzE (ge_lst ga_nil))) (gs_cons (gs_for PassesOwn.never rfl (gi_any (ge_fz 2)) (gg_name (i := 5) sc__law_valuations_of.nd rfl (by first | exact Or.inl rfl | exact Or.inr rfl)) (gs_one (gs_set (i := 4) sc__law_valuations_of.nd rfl (by first | exact Or.inl rfl | exact Or.inr rfl) (ge_fzE (ge_op or_add os_add (ge_v 4) (ge_lc rfl sc__law_valuations_of.nd (gi_any (ge_fz 1)) (blkOk_by (own := [("_law_value_here", 6)]) (by kernel_rfl)) (by decide) loc_gN (fun _ _ _ _ _ => (gg_name (i := 6) sc__law_valuations_of.nd rfl (by first | exact Or.inl rfl | exact Or.inr rfl))) (fun _ _ _ _ _ => gts_nil) (fun _ _ _ _ _ => (ge_fzE (ge_op or_add os_add (ge_v 5) (ge_lst (ga_cons (ge_fz 6) ga_nil))))))))))) (gs_one (gs_set (i := 2) sc__law_valuations_of.nd rfl (by first | exact Or.inl rfl | exact Or.inr rfl) (ge_fz 4)))))) (gs_one (gs_ret (ge_v 2)))))
theorem ok__law_is_map (A : All K mg) : FnOk P w K mg base CX0 1 A.d__law_is_map.a A.d__law_is_map.fd ["_law_actual", "_law_names", "_law_pool_here"] (spG K F__law_is_map) := by
  refine A.d__law_is_map.F.ok (k := 0) sc__law_is_map (fun vs H Q E h => spG_len rfl h) (fun cdv A' outer s H vs Q E hr h => ?_)
  have hu65 := hr.un
  have hu1 : (A'.deeper (envOfC "_law_is_map" (defScope s__law_is_map) s.heap.objs.size A.d__law_is_map.a cdv)).units + 1 < cLine := by omega
  have hu64 : (A'.deeper (envOfC "_law_is_map" (defScope s__law_is_map) s.heap.objs.size A.d__law_is_map.a cdv)).units + 64 < cLine := by omega
  replace hu65 : (A'.deeper (envOfC "_law_is_map" (defScope s__law_is_map) s.heap.objs.size A.d__law_is_map.a cdv)).units + 65 < cLine := by omega
  refine fn_close (N := ["_law_actual", "_law_names", "_law_pool_here", "_law_bound", "_law_pair"]) (f := b__law_is_map) ?_ h
  exact (gs_cons (gs_if (gt_not (gt_val (ge_isi kit_tuple (ge_v 0) (by rfl) A.m_isinstance (by rfl) A.m_tuple (by decide +kernel)))) (gs_one (gs_ret ge_bl)) gs_nil) (gs_cons (gs_set (i := 3) sc__law_is_map.nd rfl (by first | exact Or.inl rfl | exact Or.inr rfl) (ge_lst ga_nil)) (gs_cons (gs_for PassesOwn.never rfl (gi_any (ge_fz 0)) (gg_name (i := 4) sc__law_is_map.nd rfl (by first | exact Or.inl rfl | exact Or.inr rfl)) (gs_cons (gs_if (gw_pt (gw_or (gt_not (gt_val (ge_isi kit_tuple (ge_v 4) (by rfl) A.m_isinstance (by rfl) A.m_tuple (by decide +kernel)))) (gw_or (gt_cmp (or_ne hu64) os_ne (ge_callB call_len cs_len (by rfl) A.m_len PySem.boot_len (ga_cons (ge_v 4) ga_nil)) ge_int (nomark _)) (gw_or (gt_not (gt_val (ge_isi kit_str (ge_ixA (ge_v 4) ge_int hu1) (by rfl) A.m_isinstance (by rfl) A.m_str (by decide +kernel)))) (gw_or1 (gt_notin hu65 (ge_ixA (ge_v 4) ge_int hu1) (ge_v 1))))))) (gs_one (gs_ret ge_bl)) gs_nil) (gs_cons (gs_if (gw_pt (gw_or (gt_not (gt_val (ge_isi kit_tuple (ge_ixA (ge_v 4) ge_int hu1) (by rfl) A.m_isinstance (by rfl) A.m_tuple (by decide +kernel)))) (gw_or (gt_cmp (or_ne hu64) os_ne (ge_callB call_len cs_len (by rfl) A.m_len PySem.boot_len (ga_cons (ge_ixA (ge_v 4) ge_int hu1) ga_nil)) ge_int (nomark _)) (gw_or1 (gt_notin hu65 (ge_ixA (ge_ixA (ge_v 4) ge_int hu1) ge_int hu1) (ge_lst (ga_cons ge_str (ga_cons ge_str ga_nil)))))))) (gs_one (gs_ret ge_bl)) gs_nil) (gs_cons (gs_if (gw_pt (gw_or (gw_pt (gw_and (gt_cmp (or_eq hu64) os_eq (ge_ixA (ge_ixA (ge_v 4) ge_int hu1) ge_int hu1) ge_str (nomark _)) (gw_and1 (gt_notin hu65 (ge_ixA (ge_ixA (ge_v 4) ge_int hu1) ge_int hu1) (ge_v 2))))) (gw_or1 (gw_pt (gw_and (gt_cmp (or_eq hu64) os_eq (ge_ixA (ge_ixA (ge_v 4) ge_int hu1) ge_int hu1) ge_str (nomark _)) (gw_and1 (gt_notin hu65 (ge_ixA (ge_ixA (ge_v 4) ge_int hu1) ge_int hu1) (ge_v 1)))))))) (gs_one (gs_ret ge_bl)) gs_nil) (gs_one (gs_expr (ge_mu 3 F.plainAttrs_list F.slot_list_append F.type_list_append mt_append ty_list mu_append (ga_cons (ge_fzE (ge_ixA (ge_v 4) ge_int hu1)) ga_nil)))))))) (gs_cons (gs_if (gt_cmp (or_ne hu64) os_ne (ge_v 3) (ge_sortSet rfl (by rfl) A.m_sorted (by rfl) A.m_set (ge_v 3)) (nomark _)) (gs_one (gs_ret ge_bl)) gs_nil) (gs_one (gs_ret (ge_cmp (or_eq hu64) os_eq (ge_callB call_len cs_len (by rfl) A.m_len PySem.boot_len (ga_cons (ge_lc rfl sc__law_is_map.nd (gi_any (ge_fz 0)) (blkOk_by (own := [("_law_pair", 4)]) (by kernel_rfl)) (by decide) loc_gN (fun _ _ _ _ _ => (gg_name (i := 4) sc__law_is_map.nd rfl (by first | exact Or.inl rfl | exact Or.inr rfl))) (fun _ _ _ _ _ => (gts_one (gw_pt (gw_and (gt_cmp (or_eq hu64) os_eq (ge_ixA (ge_ixA (ge_v 4) ge_int hu1) ge_int hu1) ge_str (nomark _)) (gw_and1 (gt_in hu65 (ge_ixA (ge_ixA (ge_v 4) ge_int hu1) ge_int hu1) (ge_v 3))))))) (fun _ _ _ _ _ => (ge_fz 4))) ga_nil)) ge_int (nomark _))))))))
theorem ok_merged (A : All K mg) : FnOk P w K mg base CX0 2 A.d_merged.a A.d_merged.fd ["binding", "one", "other"] (spG K F_merged) := by
  refine A.d_merged.F.ok (k := 1) sc_merged (fun vs H Q E h => spG_len rfl h) (fun cdv A' outer s H vs Q E hr h => ?_)
  have hu65 := hr.un
  have hu1 : (A'.deeper (envOfC "merged" (defScope s_merged) s.heap.objs.size A.d_merged.a cdv)).units + 1 < cLine := by omega
  have hu64 : (A'.deeper (envOfC "merged" (defScope s_merged) s.heap.objs.size A.d_merged.a cdv)).units + 64 < cLine := by omega
  replace hu65 : (A'.deeper (envOfC "merged" (defScope s_merged) s.heap.objs.size A.d_merged.a cdv)).units + 65 < cLine := by omega
  refine fn_close (N := ["binding", "one", "other", "left", "right", "step", "after", "name"]) (f := b_merged) ?_ h
  exact (gs_cons (gs_set (i := 3) sc_merged.nd rfl (by first | exact Or.inl rfl | exact Or.inr rfl) (ge_fzE (ge_call (ok_put_term (P := P) (w := w) (base := base) A) (hr.mono (by decide)) (by rfl) A.d_put_term.g A.d_put_term.F.kp A.d_put_term.b pass0 (ga_cons (ge_fz 1) (ga_cons (ge_fz 0) ga_nil))))) (gs_cons (gs_set (i := 4) sc_merged.nd rfl (by first | exact Or.inl rfl | exact Or.inr rfl) (ge_fzE (ge_call (ok_put_term (P := P) (w := w) (base := base) A) (hr.mono (by decide)) (by rfl) A.d_put_term.g A.d_put_term.F.kp A.d_put_term.b pass0 (ga_cons (ge_fz 2) (ga_cons (ge_fz 0) ga_nil))))) (gs_cons (gs_if (gt_cmp (or_eq hu64) os_eq (ge_v 3) (ge_v 4) (nomark _)) (gs_one (gs_ret (ge_v 0))) gs_nil) (gs_cons (gs_if (gw_pt (gw_and (gt_cmp (or_eq hu64) os_eq (ge_ixA (ge_v 3) ge_int hu1) ge_str (nomark _)) (gw_and1 (gt_cmp (or_eq hu64) os_eq (ge_ixA (ge_v 4) ge_int hu1) ge_str (nomark _))))) (gs_one (gs_ret ge_non)) gs_nil) (gs_cons (gs_if (gt_cmp (or_eq hu64) os_eq (ge_ixA (ge_v 3) ge_int hu1) ge_str (nomark _)) (gs_one (gs_par (i := 3) (j := 4) rfl sc_merged.nd rfl rfl (by decide) rfl rfl (ga_cons (ge_fz 4) (ga_cons (ge_fz 3) ga_nil)) (by rfl))) gs_nil) (gs_cons (gs_set (i := 5) sc_merged.nd rfl (by first | exact Or.inl rfl | exact Or.inr rfl) (ge_fzE (ge_disp1 (ge_fzE (ge_ixA (ge_v 3) ge_int hu1)) (ge_fz 4)))) (gs_cons (gs_setDcK 0 rfl sc_merged.nd rfl rfl (swD_true rfl rfl (by decide +kernel) (by decide +kernel)) (blkOk_by (own := [("name", 7)]) (by kernel_rfl)) (by decide) loc_gN (fun _ _ _ _ _ => (gg_name (i := 7) sc_merged.nd rfl (by first | exact Or.inl rfl | exact Or.inr rfl))) (fun _ _ _ _ _ => gts_nil) (fun _ _ _ _ _ => (ge_fz 7)) (fun _ _ _ _ _ => (ge_fzE (ge_call (ok_put_term (P := P) (w := w) (base := base) A) (hr.mono (by decide)) (by rfl) A.d_put_term.g A.d_put_term.F.kp A.d_put_term.b pass0 (ga_cons (ge_fzE (ge_ixA (ge_v 0) (ge_v 7) hu1)) (ga_cons (ge_fz 5) ga_nil)))))) (gs_cons (gs_sub 6 hu1 (ge_ixA (ge_v 3) ge_int hu1) (ge_fz 4)) (gs_one (gs_ret (ge_v 6)))))))))))
theorem ok__law_pick (A : All K mg) : FnOk P w K mg base CX0 2 A.d__law_pick.a A.d__law_pick.fd ["_law_draws_here", "_law_row"] (spG K F__law_pick) := by
  refine A.d__law_pick.F.ok (k := 1) sc__law_pick (fun vs H Q E h => spG_len rfl h) (fun cdv A' outer s H vs Q E hr h => ?_)
  have hu65 := hr.un
  have hu1 : (A'.deeper (envOfC "_law_pick" (defScope s__law_pick) s.heap.objs.size A.d__law_pick.a cdv)).units + 1 < cLine := by omega
  have hu64 : (A'.deeper (envOfC "_law_pick" (defScope s__law_pick) s.heap.objs.size A.d__law_pick.a cdv)).units + 64 < cLine := by omega
  replace hu65 : (A'.deeper (envOfC "_law_pick" (defScope s__law_pick) s.heap.objs.size A.d__law_pick.a cdv)).units + 65 < cLine := by omega
  refine fn_close (N := ["_law_draws_here", "_law_row"]) (f := b__law_pick) ?_ h
  exact (gs_one (gs_ret (ge_ixA (ge_v 1) (ge_call (ok__law_take (P := P) (w := w) (base := base) A) (hr.mono (by decide)) (by rfl) A.d__law_take.g A.d__law_take.F.kp A.d__law_take.b pass0 (ga_cons (ge_v 0) (ga_cons (ge_fzE (ge_callB call_len cs_len (by rfl) A.m_len PySem.boot_len (ga_cons (ge_v 1) ga_nil))) ga_nil))) hu1)))
theorem ok__law_pool (A : All K mg) : FnOk P w K mg base CX0 2 A.d__law_pool.a A.d__law_pool.fd ["_law_draws_here", "_law_many"] (spG K F__law_pool) := by
  refine A.d__law_pool.F.ok (k := 1) sc__law_pool (fun vs H Q E h => spG_len rfl h) (fun cdv A' outer s H vs Q E hr h => ?_)
  have hu65 := hr.un
  have hu1 : (A'.deeper (envOfC "_law_pool" (defScope s__law_pool) s.heap.objs.size A.d__law_pool.a cdv)).units + 1 < cLine := by omega
  have hu64 : (A'.deeper (envOfC "_law_pool" (defScope s__law_pool) s.heap.objs.size A.d__law_pool.a cdv)).units + 64 < cLine := by omega
  replace hu65 : (A'.deeper (envOfC "_law_pool" (defScope s__law_pool) s.heap.objs.size A.d__law_pool.a cdv)).units + 65 < cLine := by omega
  refine fn_close (N := ["_law_draws_here", "_law_many", "_law_pool_here", "_law_k", "_law_letters", "_law_word", "_law_j"]) (f := b__law_pool) ?_ h
  exact (gs_cons (gs_set (i := 2) sc__law_pool.nd rfl (by first | exact Or.inl rfl | exact Or.inr rfl) (ge_lst ga_nil)) (gs_cons (gs_for PassesOwn.never rfl (gi_range1 (by rfl) A.m_range (ga_cons (ge_v 1) ga_nil)) (gg_name (i := 3) sc__law_pool.nd rfl (by first | exact Or.inl rfl | exact Or.inr rfl)) (gs_cons (gs_setLc rfl sc__law_pool.nd rfl rfl (sw_true rfl rfl (by decide +kernel) (by decide +kernel)) (gi_range1 (by rfl) A.m_range (ga_cons (ge_op or_add os_add ge_int (ge_call (ok__law_take (P := P) (w := w) (base := base) A) (hr.mono (by decide)) (by rfl) A.d__law_take.g A.d__law_take.F.kp A.d__law_take.b pass0 (ga_cons (ge_v 0) (ga_cons ge_int ga_nil)))) ga_nil)) (blkOk_by (own := [("_law_j", 6)]) (by kernel_rfl)) (by decide) loc_gN (fun _ _ _ _ _ => (gg_name (i := 6) sc__law_pool.nd rfl (by first | exact Or.inl rfl | exact Or.inr rfl))) (fun _ _ _ _ _ => gts_nil) (fun _ _ _ _ _ => (ge_fzE (ge_ixA ge_str (ge_call (ok__law_take (P := P) (w := w) (base := base) A) (hr.mono (by decide)) (by rfl) A.d__law_take.g A.d__law_take.F.kp A.d__law_take.b pass0 (ga_cons (ge_v 0) (ga_cons ge_int ga_nil))) hu1)))) (gs_cons (gs_set (i := 5) sc__law_pool.nd rfl (by first | exact Or.inl rfl | exact Or.inr rfl) (ge_fzE (ge_join ge_str (ge_v 4)))) (gs_cons (gs_if (gt_in hu65 (ge_v 5) (ge_v 2)) (gs_one (gs_set (i := 5) sc__law_pool.nd rfl (by first | exact Or.inl rfl | exact Or.inr rfl) (ge_fzE (ge_op or_add os_add (ge_join ge_str (ge_v 2)) ge_str)))) gs_nil) (gs_one (gs_expr (ge_mu 2 F.plainAttrs_list F.slot_list_append F.type_list_append mt_append ty_list mu_append (ga_cons (ge_fz 5) ga_nil)))))))) (gs_one (gs_ret (ge_v 2)))))
theorem ok__law_values (A : All K mg) : FnOk P w K mg base CX0 2 A.d__law_values.a A.d__law_values.fd ["_law_draws_here", "_law_words"] (spG K F__law_values) := by
  refine A.d__law_values.F.ok (k := 1) sc__law_values (fun vs H Q E h => spG_len rfl h) (fun cdv A' outer s H vs Q E hr h => ?_)
  have hu65 := hr.un
  have hu1 : (A'.deeper (envOfC "_law_values" (defScope s__law_values) s.heap.objs.size A.d__law_values.a cdv)).units + 1 < cLine := by omega
  have hu64 : (A'.deeper (envOfC "_law_values" (defScope s__law_values) s.heap.objs.size A.d__law_values.a cdv)).units + 64 < cLine := by omega
  replace hu65 : (A'.deeper (envOfC "_law_values" (defScope s__law_values) s.heap.objs.size A.d__law_values.a cdv)).units + 65 < cLine := by omega
  refine fn_close (N := ["_law_draws_here", "_law_words", "_law_low", "_law_values_here"]) (f := b__law_values) ?_ h
  exact (gs_cons (gs_set (i := 2) sc__law_values.nd rfl (by first | exact Or.inl rfl | exact Or.inr rfl) (ge_fzE (ge_op op_sub os_iiI0 (ge_call (ok__law_take (P := P) (w := w) (base := base) A) (hr.mono (by decide)) (by rfl) A.d__law_take.g A.d__law_take.F.kp A.d__law_take.b pass0 (ga_cons (ge_v 0) (ga_cons ge_int ga_nil))) ge_int))) (gs_cons (gs_set (i := 3) sc__law_values.nd rfl (by first | exact Or.inl rfl | exact Or.inr rfl) (ge_lst (ga_cons (ge_fz 2) (ga_cons (ge_fzE (ge_op or_add os_add (ge_op or_add os_add (ge_v 2) ge_int) (ge_call (ok__law_take (P := P) (w := w) (base := base) A) (hr.mono (by decide)) (by rfl) A.d__law_take.g A.d__law_take.F.kp A.d__law_take.b pass0 (ga_cons (ge_v 0) (ga_cons ge_int ga_nil))))) (ga_cons (ge_fzE (ge_ixA (ge_v 1) ge_int hu1)) ga_nil))))) (gs_cons (gs_if (gt_cmp (or_eq hu64) os_eq (ge_call (ok__law_take (P := P) (w := w) (base := base) A) (hr.mono (by decide)) (by rfl) A.d__law_take.g A.d__law_take.F.kp A.d__law_take.b pass0 (ga_cons (ge_v 0) (ga_cons ge_int ga_nil))) ge_int (nomark _)) (gs_one (gs_sub 3 hu1 ge_int (ge_fzE (ge_ixA (ge_v 1) ge_int hu1)))) gs_nil) (gs_one (gs_ret (ge_v 3))))))
theorem ok__law_value (A : All K mg) : FnOk P w K mg base CX0 2 A.d__law_value.a A.d__law_value.fd ["_law_draws_here", "_law_values_here"] (spG K F__law_value) := by
  refine A.d__law_value.F.ok (k := 1) sc__law_value (fun vs H Q E h => spG_len rfl h) (fun cdv A' outer s H vs Q E hr h => ?_)
  have hu65 := hr.un
  have hu1 : (A'.deeper (envOfC "_law_value" (defScope s__law_value) s.heap.objs.size A.d__law_value.a cdv)).units + 1 < cLine := by omega
  have hu64 : (A'.deeper (envOfC "_law_value" (defScope s__law_value) s.heap.objs.size A.d__law_value.a cdv)).units + 64 < cLine := by omega
  replace hu65 : (A'.deeper (envOfC "_law_value" (defScope s__law_value) s.heap.objs.size A.d__law_value.a cdv)).units + 65 < cLine := by omega
  refine fn_close (N := ["_law_draws_here", "_law_values_here"]) (f := b__law_value) ?_ h
  exact (gs_one (gs_ret (ge_ixA (ge_v 1) (ge_ixA (ge_lst (ga_cons ge_int (ga_cons ge_int (ga_cons ge_int (ga_cons ge_int (ga_cons ge_int ga_nil)))))) (ge_call (ok__law_take (P := P) (w := w) (base := base) A) (hr.mono (by decide)) (by rfl) A.d__law_take.g A.d__law_take.F.kp A.d__law_take.b pass0 (ga_cons (ge_v 0) (ga_cons ge_int ga_nil))) hu1) hu1)))
theorem ok__law_rows (A : All K mg) : FnOk P w K mg base CX0 2 A.d__law_rows.a A.d__law_rows.fd ["_law_terms", "_law_names", "_law_values_here"] (spG K F__law_rows) := by
  refine A.d__law_rows.F.ok (k := 1) sc__law_rows (fun vs H Q E h => spG_len rfl h) (fun cdv A' outer s H vs Q E hr h => ?_)
  have hu65 := hr.un
  have hu1 : (A'.deeper (envOfC "_law_rows" (defScope s__law_rows) s.heap.objs.size A.d__law_rows.a cdv)).units + 1 < cLine := by omega
  have hu64 : (A'.deeper (envOfC "_law_rows" (defScope s__law_rows) s.heap.objs.size A.d__law_rows.a cdv)).units + 64 < cLine := by omega
  replace hu65 : (A'.deeper (envOfC "_law_rows" (defScope s__law_rows) s.heap.objs.size A.d__law_rows.a cdv)).units + 65 < cLine := by omega
  refine fn_close (N := ["_law_terms", "_law_names", "_law_values_here", "_law_term_here", "_law_k"]) (f := b__law_rows) ?_ h
  exact (gs_one (gs_ret (ge_lc rfl sc__law_rows.nd (gi_any (ge_fz 0)) (blkOk_by (own := [("_law_term_here", 3)]) (by kernel_rfl)) (by decide) loc_gN (fun _ _ _ _ _ => (gg_name (i := 3) sc__law_rows.nd rfl (by first | exact Or.inl rfl | exact Or.inr rfl))) (fun _ _ _ _ _ => gts_nil) (fun _ _ _ _ _ => (ge_fzE (ge_ixA (ge_call (ok__law_put (P := P) (w := w) (base := base) A) (hr.mono (by decide)) (by rfl) A.d__law_put.g A.d__law_put.F.kp A.d__law_put.b pass0 (ga_cons (ge_fz 3) (ga_cons (ge_fzE (ge_lc rfl sc__law_rows.nd (gi_range1 (by rfl) A.m_range (ga_cons (ge_callB call_len cs_len (by rfl) A.m_len PySem.boot_len (ga_cons (ge_v 1) ga_nil)) ga_nil)) (blkOk_by (own := [("_law_k", 4)]) (by kernel_rfl)) (by decide) loc_gN (fun _ _ _ _ _ => (gg_name (i := 4) sc__law_rows.nd rfl (by first | exact Or.inl rfl | exact Or.inr rfl))) (fun _ _ _ _ _ => gts_nil) (fun _ _ _ _ _ => (ge_tup (ga_cons (ge_fzE (ge_ixA (ge_v 1) (ge_v 4) hu1)) (ga_cons (ge_tup (ga_cons ge_str (ga_cons (ge_fzE (ge_ixA (ge_v 2) (ge_v 4) hu1)) ga_nil))) ga_nil)))))) ga_nil))) ge_int hu1))))))
theorem ok_binding_of (A : All K mg) : FnOk P w K mg base CX0 3 A.d_binding_of.a A.d_binding_of.fd ["pairs"] (spG K F_binding_of) := by
  refine A.d_binding_of.F.ok (k := 2) sc_binding_of (fun vs H Q E h => spG_len rfl h) (fun cdv A' outer s H vs Q E hr h => ?_)
  have hu65 := hr.un
  have hu1 : (A'.deeper (envOfC "binding_of" (defScope s_binding_of) s.heap.objs.size A.d_binding_of.a cdv)).units + 1 < cLine := by omega
  have hu64 : (A'.deeper (envOfC "binding_of" (defScope s_binding_of) s.heap.objs.size A.d_binding_of.a cdv)).units + 64 < cLine := by omega
  replace hu65 : (A'.deeper (envOfC "binding_of" (defScope s_binding_of) s.heap.objs.size A.d_binding_of.a cdv)).units + 65 < cLine := by omega
  refine fn_close (N := ["pairs", "binding", "one", "other"]) (f := b_binding_of) ?_ h
  exact (gs_cons (gs_set (i := 1) sc_binding_of.nd rfl (by first | exact Or.inl rfl | exact Or.inr rfl) (ge_fzE ge_dic0)) (gs_cons (gs_for PassesOwn.never rfl (gi_any (ge_fz 0)) (gg_tup rfl (ggs_cons (gg_name (i := 2) sc_binding_of.nd rfl (by first | exact Or.inl rfl | exact Or.inr rfl)) (ggs_cons (gg_name (i := 3) sc_binding_of.nd rfl (by first | exact Or.inl rfl | exact Or.inr rfl)) ggs_nil))) (gs_cons (gs_set (i := 1) sc_binding_of.nd rfl (by first | exact Or.inl rfl | exact Or.inr rfl) (ge_fzE (ge_call (ok_merged (P := P) (w := w) (base := base) A) (hr.mono (by decide)) (by rfl) A.d_merged.g A.d_merged.F.kp A.d_merged.b pass0 (ga_cons (ge_fz 1) (ga_cons (ge_fz 2) (ga_cons (ge_fz 3) ga_nil)))))) (gs_one (gs_if (gt_cmp op_isN os_isN (ge_v 1) ge_non (nomark _)) (gs_one (gs_ret ge_non)) gs_nil)))) (gs_one (gs_ret (ge_v 1)))))
theorem ok__law_world (A : All K mg) : FnOk P w K mg base CX0 3 A.d__law_world.a A.d__law_world.fd ["_law_draws_here"] (spG K F__law_world) := by
  refine A.d__law_world.F.ok (k := 2) sc__law_world (fun vs H Q E h => spG_len rfl h) (fun cdv A' outer s H vs Q E hr h => ?_)
  have hu65 := hr.un
  have hu1 : (A'.deeper (envOfC "_law_world" (defScope s__law_world) s.heap.objs.size A.d__law_world.a cdv)).units + 1 < cLine := by omega
  have hu64 : (A'.deeper (envOfC "_law_world" (defScope s__law_world) s.heap.objs.size A.d__law_world.a cdv)).units + 64 < cLine := by omega
  replace hu65 : (A'.deeper (envOfC "_law_world" (defScope s__law_world) s.heap.objs.size A.d__law_world.a cdv)).units + 65 < cLine := by omega
  refine fn_close (N := ["_law_draws_here", "_law_pool_here"]) (f := b__law_world) ?_ h
  exact (gs_cons (gs_set (i := 1) sc__law_world.nd rfl (by first | exact Or.inl rfl | exact Or.inr rfl) (ge_fzE (ge_call (ok__law_pool (P := P) (w := w) (base := base) A) (hr.mono (by decide)) (by rfl) A.d__law_pool.g A.d__law_pool.F.kp A.d__law_pool.b pass0 (ga_cons (ge_v 0) (ga_cons ge_int ga_nil))))) (gs_one (gs_ret (ge_lst (ga_cons (ge_fzE (ge_sl (ge_v 1) go_none (go_some ge_int))) (ga_cons (ge_fzE (ge_sorted rfl (by rfl) A.m_sorted (ge_sl (ge_v 1) (go_some ge_int) go_none))) (ga_cons (ge_fzE (ge_call (ok__law_values (P := P) (w := w) (base := base) A) (hr.mono (by decide)) (by rfl) A.d__law_values.g A.d__law_values.F.kp A.d__law_values.b pass0 (ga_cons (ge_v 0) (ga_cons (ge_fz 1) ga_nil)))) ga_nil)))))))
theorem ok__law_term (A : All K mg) : FnOk P w K mg base CX0 3 A.d__law_term.a A.d__law_term.fd ["_law_draws_here", "_law_world_here"] (spG K F__law_term) := by
  refine A.d__law_term.F.ok (k := 2) sc__law_term (fun vs H Q E h => spG_len rfl h) (fun cdv A' outer s H vs Q E hr h => ?_)
  have hu65 := hr.un
  have hu1 : (A'.deeper (envOfC "_law_term" (defScope s__law_term) s.heap.objs.size A.d__law_term.a cdv)).units + 1 < cLine := by omega
  have hu64 : (A'.deeper (envOfC "_law_term" (defScope s__law_term) s.heap.objs.size A.d__law_term.a cdv)).units + 64 < cLine := by omega
  replace hu65 : (A'.deeper (envOfC "_law_term" (defScope s__law_term) s.heap.objs.size A.d__law_term.a cdv)).units + 65 < cLine := by omega
  refine fn_close (N := ["_law_draws_here", "_law_world_here"]) (f := b__law_term) ?_ h
  exact (gs_cons (gs_if (gt_cmp (or_eq hu64) os_eq (ge_call (ok__law_take (P := P) (w := w) (base := base) A) (hr.mono (by decide)) (by rfl) A.d__law_take.g A.d__law_take.F.kp A.d__law_take.b pass0 (ga_cons (ge_v 0) (ga_cons ge_int ga_nil))) ge_int (nomark _)) (gs_one (gs_ret (ge_tup (ga_cons ge_str (ga_cons (ge_fzE (ge_call (ok__law_value (P := P) (w := w) (base := base) A) (hr.mono (by decide)) (by rfl) A.d__law_value.g A.d__law_value.F.kp A.d__law_value.b pass0 (ga_cons (ge_v 0) (ga_cons (ge_fzE (ge_ixA (ge_v 1) ge_int hu1)) ga_nil)))) ga_nil))))) gs_nil) (gs_one (gs_ret (ge_tup (ga_cons ge_str (ga_cons (ge_fzE (ge_call (ok__law_pick (P := P) (w := w) (base := base) A) (hr.mono (by decide)) (by rfl) A.d__law_pick.g A.d__law_pick.F.kp A.d__law_pick.b pass0 (ga_cons (ge_v 0) (ga_cons (ge_fzE (ge_ixA (ge_v 1) ge_int hu1)) ga_nil)))) ga_nil))))))
theorem ok_unified (A : All K mg) : FnOk P w K mg base CX0 4 A.d_unified.a A.d_unified.fd ["terms", "others"] (spG K F_unified) := by
  refine A.d_unified.F.ok (k := 3) sc_unified (fun vs H Q E h => spG_len rfl h) (fun cdv A' outer s H vs Q E hr h => ?_)
  have hu65 := hr.un
  have hu1 : (A'.deeper (envOfC "unified" (defScope s_unified) s.heap.objs.size A.d_unified.a cdv)).units + 1 < cLine := by omega
  have hu64 : (A'.deeper (envOfC "unified" (defScope s_unified) s.heap.objs.size A.d_unified.a cdv)).units + 64 < cLine := by omega
  replace hu65 : (A'.deeper (envOfC "unified" (defScope s_unified) s.heap.objs.size A.d_unified.a cdv)).units + 65 < cLine := by omega
  refine fn_close (N := ["terms", "others", "binding", "name"]) (f := b_unified) ?_ h
  exact (gs_cons (gs_set (i := 2) sc_unified.nd rfl (by first | exact Or.inl rfl | exact Or.inr rfl) (ge_fzE (ge_call (ok_binding_of (P := P) (w := w) (base := base) A) (hr.mono (by decide)) (by rfl) A.d_binding_of.g A.d_binding_of.F.kp A.d_binding_of.b pass0 (ga_cons (ge_fzE (ge_listZip rfl (by rfl) A.m_list (by rfl) A.m_zip (ga_cons (ge_v 0) (ga_cons (ge_v 1) ga_nil)))) ga_nil)))) (gs_cons (gs_if (gt_cmp op_isN os_isN (ge_v 2) ge_non (nomark _)) (gs_one (gs_ret ge_non)) gs_nil) (gs_one (gs_ret (ge_callTy call_tuple_of cs_tuple (by rfl) A.m_tuple (by decide +kernel) (ga_cons (ge_lc rfl sc_unified.nd (gi_any (ge_sorted rfl (by rfl) A.m_sorted (ge_v 2))) (blkOk_by (own := [("name", 3)]) (by kernel_rfl)) (by decide) loc_gN (fun _ _ _ _ _ => (gg_name (i := 3) sc_unified.nd rfl (by first | exact Or.inl rfl | exact Or.inr rfl))) (fun _ _ _ _ _ => gts_nil) (fun _ _ _ _ _ => (ge_tup (ga_cons (ge_fz 3) (ga_cons (ge_fzE (ge_ixA (ge_v 2) (ge_v 3) hu1)) ga_nil))))) ga_nil))))))
theorem ok_law (A : All K mg) : FnOk P w K mg base CX0 5 A.d_law.a A.d_law.fd ["_law_script"] (spG K F_law) := by
  refine A.d_law.F.ok (k := 4) sc_law (fun vs H Q E h => spG_len rfl h) (fun cdv A' outer s H vs Q E hr h => ?_)
  have hu65 := hr.un
  have hu1 : (A'.deeper (envOfC "law" (defScope s_law) s.heap.objs.size A.d_law.a cdv)).units + 1 < cLine := by omega
  have hu64 : (A'.deeper (envOfC "law" (defScope s_law) s.heap.objs.size A.d_law.a cdv)).units + 64 < cLine := by omega
  replace hu65 : (A'.deeper (envOfC "law" (defScope s_law) s.heap.objs.size A.d_law.a cdv)).units + 65 < cLine := by omega
  refine fn_close (N := ["_law_script", "_law_draws_here", "_law_world_here", "_law_size", "_law_terms", "_law_others", "_law_names", "_law_pool_here", "_law_term_here", "_law_due", "_law_values_here", "_law_actual", "_law_bound", "_law_k", "_law_pair", "_law_name"]) (f := b_law) ?_ h
  exact (gs_cons (gs_set (i := 1) sc_law.nd rfl (by first | exact Or.inl rfl | exact Or.inr rfl) (ge_call (ok__law_draws (P := P) (w := w) (base := base) A) (hr.mono (by decide)) (by rfl) A.d__law_draws.g A.d__law_draws.F.kp A.d__law_draws.b pass0 (ga_cons (ge_fz 0) (ga_cons ge_int ga_nil)))) (gs_cons (gs_set (i := 2) sc_law.nd rfl (by first | exact Or.inl rfl | exact Or.inr rfl) (ge_call (ok__law_world (P := P) (w := w) (base := base) A) (hr.mono (by decide)) (by rfl) A.d__law_world.g A.d__law_world.F.kp A.d__law_world.b pass0 (ga_cons (ge_v 1) ga_nil))) (gs_cons (gs_sub 2 hu1 ge_int (ge_fzE (ge_op or_add os_add (ge_ixA (ge_v 2) ge_int hu1) (ge_lst (ga_cons (ge_fzE (ge_op or_add os_add (ge_join ge_str (ge_ixA (ge_v 2) ge_int hu1)) ge_str)) ga_nil))))) (gs_cons (gs_set (i := 3) sc_law.nd rfl (by first | exact Or.inl rfl | exact Or.inr rfl) (ge_fzE (ge_call (ok__law_take (P := P) (w := w) (base := base) A) (hr.mono (by decide)) (by rfl) A.d__law_take.g A.d__law_take.F.kp A.d__law_take.b pass0 (ga_cons (ge_v 1) (ga_cons ge_int ga_nil))))) (gs_cons (gs_set (i := 4) sc_law.nd rfl (by first | exact Or.inl rfl | exact Or.inr rfl) (ge_fzE (ge_callTy call_tuple_of cs_tuple (by rfl) A.m_tuple (by decide +kernel) (ga_cons (ge_lc rfl sc_law.nd (gi_range1 (by rfl) A.m_range (ga_cons (ge_v 3) ga_nil)) (blkOk_by (own := [("_law_k", 13)]) (by kernel_rfl)) (by decide) loc_gN (fun _ _ _ _ _ => (gg_name (i := 13) sc_law.nd rfl (by first | exact Or.inl rfl | exact Or.inr rfl))) (fun _ _ _ _ _ => gts_nil) (fun _ _ _ _ _ => (ge_fzE (ge_call (ok__law_term (P := P) (w := w) (base := base) A) (hr.mono (by decide)) (by rfl) A.d__law_term.g A.d__law_term.F.kp A.d__law_term.b pass0 (ga_cons (ge_v 1) (ga_cons (ge_fz 2) ga_nil)))))) ga_nil)))) (gs_cons (gs_set (i := 5) sc_law.nd rfl (by first | exact Or.inl rfl | exact Or.inr rfl) (ge_fzE (ge_callTy call_tuple_of cs_tuple (by rfl) A.m_tuple (by decide +kernel) (ga_cons (ge_lc rfl sc_law.nd (gi_range1 (by rfl) A.m_range (ga_cons (ge_v 3) ga_nil)) (blkOk_by (own := [("_law_k", 13)]) (by kernel_rfl)) (by decide) loc_gN (fun _ _ _ _ _ => (gg_name (i := 13) sc_law.nd rfl (by first | exact Or.inl rfl | exact Or.inr rfl))) (fun _ _ _ _ _ => gts_nil) (fun _ _ _ _ _ => (ge_fzE (ge_call (ok__law_term (P := P) (w := w) (base := base) A) (hr.mono (by decide)) (by rfl) A.d__law_term.g A.d__law_term.F.kp A.d__law_term.b pass0 (ga_cons (ge_v 1) (ga_cons (ge_fz 2) ga_nil)))))) ga_nil)))) (gs_cons (gs_set (i := 6) sc_law.nd rfl (by first | exact Or.inl rfl | exact Or.inr rfl) (ge_fzE (ge_sortSet rfl (by rfl) A.m_sorted (by rfl) A.m_set (ge_lc rfl sc_law.nd (gi_any (ge_op or_add os_add (ge_v 4) (ge_v 5))) (blkOk_by (own := [("_law_term_here", 8)]) (by kernel_rfl)) (by decide) loc_gN (fun _ _ _ _ _ => (gg_name (i := 8) sc_law.nd rfl (by first | exact Or.inl rfl | exact Or.inr rfl))) (fun _ _ _ _ _ => (gts_one (gt_cmp (or_eq hu64) os_eq (ge_ixA (ge_v 8) ge_int hu1) ge_str (nomark _)))) (fun _ _ _ _ _ => (ge_fzE (ge_ixA (ge_v 8) ge_int hu1))))))) (gs_cons (gs_set (i := 7) sc_law.nd rfl (by first | exact Or.inl rfl | exact Or.inr rfl) (ge_lst ga_nil)) (gs_cons (gs_for PassesOwn.never rfl (gi_any (ge_op or_add os_add (ge_v 4) (ge_v 5))) (gg_name (i := 8) sc_law.nd rfl (by first | exact Or.inl rfl | exact Or.inr rfl)) (gs_one (gs_if (gw_pt (gw_and (gt_cmp (or_eq hu64) os_eq (ge_ixA (ge_v 8) ge_int hu1) ge_str (nomark _)) (gw_and1 (gt_notin hu65 (ge_ixA (ge_v 8) ge_int hu1) (ge_v 7))))) (gs_one (gs_expr (ge_mu 7 F.plainAttrs_list F.slot_list_append F.type_list_append mt_append ty_list mu_append (ga_cons (ge_fzE (ge_ixA (ge_v 8) ge_int hu1)) ga_nil)))) gs_nil))) (gs_cons (gs_expr (ge_mu 7 F.plainAttrs_list F.slot_list_append F.type_list_append mt_append ty_list mu_append (ga_cons (ge_fzE (ge_op or_add os_add (ge_join ge_str (ge_lc rfl sc_law.nd (gi_any (ge_ixA (ge_v 2) ge_int hu1)) (blkOk_by (own := [("_law_name", 15)]) (by kernel_rfl)) (by decide) loc_gN (fun _ _ _ _ _ => (gg_name (i := 15) sc_law.nd rfl (by first | exact Or.inl rfl | exact Or.inr rfl))) (fun _ _ _ _ _ => gts_nil) (fun _ _ _ _ _ => (ge_fzE (ge_callTy SkE.call_str_str cs_str (by rfl) A.m_str (by decide +kernel) (ga_cons (ge_v 15) ga_nil)))))) ge_str)) ga_nil))) (gs_cons (gs_set (i := 9) sc_law.nd rfl (by first | exact Or.inl rfl | exact Or.inr rfl) (ge_lst ga_nil)) (gs_cons (gs_for PassesOwn.never rfl (gi_any (ge_call (ok__law_valuations_of (P := P) (w := w) (base := base) A) (hr.mono (by decide)) (by rfl) A.d__law_valuations_of.g A.d__law_valuations_of.F.kp A.d__law_valuations_of.b pass0 (ga_cons (ge_fz 6) (ga_cons (ge_fz 7) ga_nil)))) (gg_name (i := 10) sc_law.nd rfl (by first | exact Or.inl rfl | exact Or.inr rfl)) (gs_one (gs_if (gt_cmp (or_eq hu64) os_eq (ge_call (ok__law_rows (P := P) (w := w) (base := base) A) (hr.mono (by decide)) (by rfl) A.d__law_rows.g A.d__law_rows.F.kp A.d__law_rows.b pass0 (ga_cons (ge_fz 4) (ga_cons (ge_fz 6) (ga_cons (ge_fz 10) ga_nil)))) (ge_call (ok__law_rows (P := P) (w := w) (base := base) A) (hr.mono (by decide)) (by rfl) A.d__law_rows.g A.d__law_rows.F.kp A.d__law_rows.b pass0 (ga_cons (ge_fz 5) (ga_cons (ge_fz 6) (ga_cons (ge_fz 10) ga_nil)))) (nomark _)) (gs_one (gs_expr (ge_mu 9 F.plainAttrs_list F.slot_list_append F.type_list_append mt_append ty_list mu_append (ga_cons (ge_fz 10) ga_nil)))) gs_nil))) (gs_cons (gs_set (i := 11) sc_law.nd rfl (by first | exact Or.inl rfl | exact Or.inr rfl) (ge_fzE (ge_call (ok_unified (P := P) (w := w) (base := base) A) (hr.mono (by decide)) (by rfl) A.d_unified.g A.d_unified.F.kp A.d_unified.b pass0 (ga_cons (ge_fz 4) (ga_cons (ge_fz 5) ga_nil))))) (gs_cons (gs_if (gt_cmp op_isN os_isN (ge_v 11) ge_non (nomark _)) (gs_one (gs_ret (ge_cmp (or_eq hu64) os_eq (ge_callB call_len cs_len (by rfl) A.m_len PySem.boot_len (ga_cons (ge_v 9) ga_nil)) ge_int (nomark _)))) gs_nil) (gs_cons (gs_if (gw_pt (gw_or (gt_cmp (or_eq hu64) os_eq (ge_callB call_len cs_len (by rfl) A.m_len PySem.boot_len (ga_cons (ge_v 9) ga_nil)) ge_int (nomark _)) (gw_or1 (gt_not (gt_val (ge_call (ok__law_is_map (P := P) (w := w) (base := base) A) (hr.mono (by decide)) (by rfl) A.d__law_is_map.g A.d__law_is_map.F.kp A.d__law_is_map.b pass0 (ga_cons (ge_fz 11) (ga_cons (ge_fz 6) (ga_cons (ge_fz 7) ga_nil))))))))) (gs_one (gs_ret ge_bl)) gs_nil) (gs_cons (gs_if (gt_cmp (or_ne hu64) os_ne (ge_callTy call_tuple_of cs_tuple (by rfl) A.m_tuple (by decide +kernel) (ga_cons (ge_lc rfl sc_law.nd (gi_any (ge_fz 4)) (blkOk_by (own := [("_law_term_here", 8)]) (by kernel_rfl)) (by decide) loc_gN (fun _ _ _ _ _ => (gg_name (i := 8) sc_law.nd rfl (by first | exact Or.inl rfl | exact Or.inr rfl))) (fun _ _ _ _ _ => gts_nil) (fun _ _ _ _ _ => (ge_fzE (ge_call (ok__law_put (P := P) (w := w) (base := base) A) (hr.mono (by decide)) (by rfl) A.d__law_put.g A.d__law_put.F.kp A.d__law_put.b pass0 (ga_cons (ge_fz 8) (ga_cons (ge_fz 11) ga_nil)))))) ga_nil)) (ge_callTy call_tuple_of cs_tuple (by rfl) A.m_tuple (by decide +kernel) (ga_cons (ge_lc rfl sc_law.nd (gi_any (ge_fz 5)) (blkOk_by (own := [("_law_term_here", 8)]) (by kernel_rfl)) (by decide) loc_gN (fun _ _ _ _ _ => (gg_name (i := 8) sc_law.nd rfl (by first | exact Or.inl rfl | exact Or.inr rfl))) (fun _ _ _ _ _ => gts_nil) (fun _ _ _ _ _ => (ge_fzE (ge_call (ok__law_put (P := P) (w := w) (base := base) A) (hr.mono (by decide)) (by rfl) A.d__law_put.g A.d__law_put.F.kp A.d__law_put.b pass0 (ga_cons (ge_fz 8) (ga_cons (ge_fz 11) ga_nil)))))) ga_nil)) (nomark _)) (gs_one (gs_ret ge_bl)) gs_nil) (gs_cons (gs_for PassesOwn.never rfl (gi_any (ge_fz 9)) (gg_name (i := 10) sc_law.nd rfl (by first | exact Or.inl rfl | exact Or.inr rfl)) (gs_cons (gs_setLc rfl sc_law.nd rfl rfl (sw_true rfl rfl (by decide +kernel) (by decide +kernel)) (gi_any (ge_fz 11)) (blkOk_by (own := [("_law_pair", 14)]) (by kernel_rfl)) (by decide) loc_gN (fun _ _ _ _ _ => (gg_name (i := 14) sc_law.nd rfl (by first | exact Or.inl rfl | exact Or.inr rfl))) (fun _ _ _ _ _ => gts_nil) (fun _ _ _ _ _ => (ge_fzE (ge_ixA (ge_v 10) (ge_bm F.plainAttrs_list F.slot_list_index F.type_list_index (mt_indexD hu65) ty_list ms_index (ge_v 6) (ga_cons (ge_ixA (ge_v 14) ge_int hu1) ga_nil)) hu1)))) (gs_one (gs_if (gt_cmp (or_ne hu64) os_ne (ge_call (ok__law_rows (P := P) (w := w) (base := base) A) (hr.mono (by decide)) (by rfl) A.d__law_rows.g A.d__law_rows.F.kp A.d__law_rows.b pass0 (ga_cons (ge_fzE (ge_lc rfl sc_law.nd (gi_any (ge_fz 11)) (blkOk_by (own := [("_law_pair", 14)]) (by kernel_rfl)) (by decide) loc_gN (fun _ _ _ _ _ => (gg_name (i := 14) sc_law.nd rfl (by first | exact Or.inl rfl | exact Or.inr rfl))) (fun _ _ _ _ _ => gts_nil) (fun _ _ _ _ _ => (ge_fzE (ge_ixA (ge_v 14) ge_int hu1))))) (ga_cons (ge_fz 6) (ga_cons (ge_fz 10) ga_nil)))) (ge_v 12) (nomark _)) (gs_one (gs_ret ge_bl)) gs_nil)))) (gs_one (gs_ret ge_bl)))))))))))))))))))
end
end G.k97

set_option Elab.async false
set_option linter.all false
set_option maxRecDepth 100000
/-! U97: terms made equal: the plain law of one step and of all. -/
namespace G.k97
open PySem PySem.Spec PyProof.Rows L2 G
inductive T where
  | val (v : D) | var (x : Str)
  deriving DecidableEq
def T.d : T → D
  | .val v => .tup [.str "value", v]
  | .var x => .tup [.str "var", .str x]
theorem vne : ¬ ((("value" : Str)) = "var") := by decide +kernel
theorem T.d_inj : ∀ {a b : T}, a.d = b.d → a = b
  | .val v, .val w, h => by simp [T.d] at h; rw [h]
  | .var v, .var w, h => by simp [T.d] at h; rw [h]
  | .val v, .var w, h => by simp [T.d, vne] at h
  | .var v, .val w, h => by
    simp only [T.d, D.tup.injEq, List.cons.injEq, D.str.injEq] at h
    exact absurd h.1.symm vne
abbrev Bd := List (Str × T)
def lk : Bd → Str → Option T
  | [], _ => none
  | (y, t) :: r, x => if y = x then some t else lk r x
def keys (B : Bd) : List Str := B.map (·.1)
def put (B : Bd) : T → T
  | .val v => .val v
  | .var x => (lk B x).getD (.var x)
def putS (B : Bd) (x : Str) (t : T) : Bd := if x ∈ keys B then B.map (fun p => if p.1 = x then (p.1, t) else p) else B ++ [(x, t)]
def bindB (B : Bd) (x : Str) (r : T) : Bd := putS (B.map fun p => (p.1, put [(x, r)] p.2)) x r
def mg (B : Bd) (a b : T) : Option Bd :=
  if put B a = put B b then some B else
  match put B a, put B b with
  | .val _, .val _ => none
  | .val v, .var y => some (bindB B y (.val v))
  | .var x, r => some (bindB B x r)
def bof : List (T × T) → Bd → Option Bd
  | [], B => some B
  | (a, b) :: r, B => (mg B a b).bind (bof r)
/-! what it means -/
def ev (σ : Str → D) : T → D
  | .val v => v
  | .var x => σ x
def Sat (σ : Str → D) (B : Bd) : Prop := ∀ p ∈ B, σ p.1 = ev σ p.2
def SatP (σ : Str → D) (ps : List (T × T)) : Prop := ∀ p ∈ ps, ev σ p.1 = ev σ p.2
structure Inv (B : Bd) : Prop where
  nd : (keys B).Nodup
  off : ∀ p ∈ B, ∀ y, p.2 = .var y → y ∉ keys B
theorem put_var (B : Bd) (x : Str) : put B (.var x) = (lk B x).getD (.var x) := rfl
theorem lk_mem : ∀ {B : Bd} {x : Str} {t : T}, lk B x = some t → (x, t) ∈ B
  | [], _, _, h => by cases h
  | (y, s) :: r, x, t, h => by
    unfold lk at h
    split at h
    · rename_i e
      cases h
      rw [← e]
      exact List.mem_cons_self
    · exact List.mem_cons_of_mem _ (lk_mem h)
theorem lk_none : ∀ {B : Bd} {x : Str}, lk B x = none → x ∉ keys B
  | [], _, _ => by simp [keys]
  | (y, s) :: r, x, h => by
    unfold lk at h
    split at h
    · cases h
    · rename_i e
      intro m
      rcases List.mem_cons.mp (show x ∈ y :: keys r from m) with z | z
      · exact e z.symm
      · exact lk_none h z
theorem mem_keys {B : Bd} {p : Str × T} (h : p ∈ B) : p.1 ∈ keys B := List.mem_map_of_mem h
theorem lk_some : ∀ {B : Bd} {x : Str}, x ∈ keys B → ∃ t, lk B x = some t
  | [], _, h => by cases h
  | (y, s) :: r, x, h => by
    unfold lk
    split
    · exact ⟨s, rfl⟩
    · rename_i e
      rcases List.mem_cons.mp (show x ∈ y :: keys r from h) with z | z
      · exact absurd z.symm e
      · exact lk_some z
theorem lk_of_mem : ∀ {B : Bd} {p : Str × T}, (keys B).Nodup → p ∈ B → lk B p.1 = some p.2
  | (y, s) :: r, p, nd, h => by
    have nd' := List.nodup_cons.mp (show (y :: keys r).Nodup from nd)
    unfold lk
    rcases List.mem_cons.mp h with z | z
    · rw [z, if_pos rfl]
    · have ne : y ≠ p.1 := fun e => nd'.1 (by rw [e]; exact mem_keys z)
      rw [if_neg ne]
      exact lk_of_mem nd'.2 z
theorem ev_put {σ : Str → D} {B : Bd} (h : Sat σ B) (t : T) : ev σ (put B t) = ev σ t := by
  cases t with
  | val v => rfl
  | var x =>
    rw [put_var]
    cases e : lk B x with
    | none => rfl
    | some t => exact (h _ (lk_mem e)).symm
theorem put_off {B : Bd} (I : Inv B) {a : T} {x : Str} (h : put B a = .var x) : x ∉ keys B := by
  cases a with
  | val v => cases h
  | var y =>
    rw [put_var] at h
    cases e : lk B y with
    | none =>
      rw [e] at h
      cases h
      exact lk_none e
    | some t =>
      rw [e] at h
      exact I.off _ (lk_mem e) x h
theorem keys_map (B : Bd) (f : T → T) : keys (B.map fun p => (p.1, f p.2)) = keys B := by
  unfold keys
  rw [List.map_map]
  rfl
theorem bind_eq {B : Bd} {x : Str} {r : T} (hx : x ∉ keys B) : bindB B x r = (B.map fun p => (p.1, put [(x, r)] p.2)) ++ [(x, r)] := by
  unfold bindB putS
  rw [keys_map, if_neg hx]
theorem bind_keys {B : Bd} {x : Str} {r : T} (hx : x ∉ keys B) : keys (bindB B x r) = keys B ++ [x] := by
  rw [bind_eq hx]
  show (_ ++ _ : Bd).map (·.1) = _
  rw [List.map_append]
  show keys (B.map fun p => (p.1, put [(x, r)] p.2)) ++ [x] = _
  rw [keys_map]
theorem put1 {x : Str} {r : T} (t : T) : put [(x, r)] t = if t = .var x then r else t := by
  cases t with
  | val v => rfl
  | var y =>
    rw [put_var]
    unfold lk
    by_cases e : x = y
    · subst e; rw [if_pos rfl, if_pos rfl]; rfl
    · rw [if_neg e, if_neg fun z => e (by cases z; rfl)]; rfl
theorem bind_inv {B : Bd} (I : Inv B) {x : Str} {r : T} (hx : x ∉ keys B) (hr : ∀ y, r = .var y → y ∉ keys B ∧ y ≠ x) : Inv (bindB B x r) := by
  refine ⟨?_, fun p hp y e => ?_⟩
  · rw [bind_keys hx]
    exact List.nodup_append.mpr ⟨I.nd, List.nodup_cons.mpr ⟨by simp, List.nodup_nil⟩, fun a ha b hb => by
      rw [List.mem_singleton.mp hb]
      exact fun z => hx (z ▸ ha)⟩
  · rw [bind_keys hx]
    have key : y ∉ keys B ∧ y ≠ x := by
      rw [bind_eq hx] at hp
      rcases List.mem_append.mp hp with h | h
      · obtain ⟨q, hq, rfl⟩ := List.mem_map.mp h
        dsimp only at e
        rw [put1] at e
        split at e
        · exact hr y e
        · rename_i n
          exact ⟨I.off q hq y e, fun z => n (by rw [e, z])⟩
      · rw [List.mem_singleton.mp h] at e
        exact hr y e
    exact fun m => (List.mem_append.mp m).elim key.1 fun z => key.2 (List.mem_singleton.mp z)
theorem bind_sat {B : Bd} {x : Str} {r : T} (hx : x ∉ keys B) (hr : ∀ y, r = .var y → y ≠ x) (σ : Str → D) : Sat σ (bindB B x r) ↔ Sat σ B ∧ σ x = ev σ r := by
  rw [bind_eq hx]
  have h1 : σ x = ev σ r → ∀ t, ev σ (put [(x, r)] t) = ev σ t := fun e t => ev_put (B := [(x, r)]) (fun p hp => by rw [List.mem_singleton.mp hp]; exact e) t
  constructor
  · intro h
    have e : σ x = ev σ r := h (x, r) (List.mem_append_right _ List.mem_cons_self)
    refine ⟨fun p hp => ?_, e⟩
    rw [← h1 e p.2]
    exact h (p.1, put [(x, r)] p.2) (List.mem_append_left _ (List.mem_map_of_mem (f := fun p : Str × T => (p.1, put [(x, r)] p.2)) hp))
  · rintro ⟨h, e⟩ p hp
    rcases List.mem_append.mp hp with z | z
    · obtain ⟨q, hq, rfl⟩ := List.mem_map.mp z
      show σ q.1 = ev σ (put [(x, r)] q.2)
      rw [h1 e]
      exact h q hq
    · rw [List.mem_singleton.mp z]
      exact e
/-- one step -/
theorem mg_ok {B : Bd} (I : Inv B) (a b : T) : (mg B a b = none → ∀ σ, Sat σ B → ev σ a ≠ ev σ b) ∧ ∀ B', mg B a b = some B' → Inv B' ∧ ∀ σ, Sat σ B' ↔ Sat σ B ∧ ev σ a = ev σ b := by
  have key : ∀ σ, Sat σ B → (ev σ a = ev σ b ↔ ev σ (put B a) = ev σ (put B b)) := fun σ h => by rw [ev_put h, ev_put h]
  unfold mg
  split
  · rename_i e
    refine ⟨fun h => (by cases h), fun B' h => ?_⟩
    cases h
    exact ⟨I, fun σ => ⟨fun h => ⟨h, (key σ h).2 (by rw [e])⟩, fun h => h.1⟩⟩
  · rename_i ne
    split
    · rename_i v w e1 e2
      refine ⟨fun _ σ h z => ?_, fun B' h => (by cases h)⟩
      have q := (key σ h).1 z
      rw [e1, e2] at q
      exact ne (by rw [e1, e2, show v = w from q])
    · rename_i v y e1 e2
      have hy := put_off I e2
      refine ⟨fun h => (by cases h), fun B' h => ?_⟩
      cases h
      refine ⟨bind_inv I hy (fun z e => by cases e), fun σ => ?_⟩
      rw [bind_sat hy (fun z e => by cases e)]
      constructor
      · rintro ⟨h, e⟩
        refine ⟨h, (key σ h).2 ?_⟩
        rw [e1, e2]
        exact e.symm
      · rintro ⟨h, e⟩
        have q := (key σ h).1 e
        rw [e1, e2] at q
        exact ⟨h, q.symm⟩
    · rename_i x e1
      have hx := put_off I e1
      have hr : ∀ y, put B b = .var y → y ∉ keys B ∧ y ≠ x := fun y e => ⟨put_off I e, fun z => ne (by rw [e1, e, z])⟩
      refine ⟨fun h => (by cases h), fun B' h => ?_⟩
      cases h
      refine ⟨bind_inv I hx hr, fun σ => ?_⟩
      rw [bind_sat hx fun y e => (hr y e).2]
      constructor
      · rintro ⟨h, e⟩
        refine ⟨h, (key σ h).2 ?_⟩
        rw [e1]
        exact e
      · rintro ⟨h, e⟩
        have q := (key σ h).1 e
        rw [e1] at q
        exact ⟨h, q⟩
theorem bof_ok : ∀ (ps : List (T × T)) {B : Bd}, Inv B → (bof ps B = none → ∀ σ, Sat σ B → ¬ SatP σ ps) ∧ ∀ B', bof ps B = some B' → Inv B' ∧ ∀ σ, Sat σ B' ↔ Sat σ B ∧ SatP σ ps
  | [], B, I => ⟨fun h => (by cases h), fun B' h => by
    cases h
    exact ⟨I, fun σ => ⟨fun h => ⟨h, fun p hp => by cases hp⟩, fun h => h.1⟩⟩⟩
  | (a, b) :: r, B, I => by
    obtain ⟨m1, m2⟩ := mg_ok I a b
    have sp : ∀ σ, SatP σ ((a, b) :: r) ↔ ev σ a = ev σ b ∧ SatP σ r := fun σ => by
      unfold SatP
      exact ⟨fun h => ⟨h (a, b) List.mem_cons_self, fun p hp => h p (List.mem_cons_of_mem _ hp)⟩, fun h p hp => (List.mem_cons.mp hp).elim (fun e => by rw [e]; exact h.1) (h.2 p)⟩
    unfold bof
    cases e : mg B a b with
    | none =>
      refine ⟨fun _ σ h z => m1 e σ h ((sp σ).1 z).1, fun B' h => by cases h⟩
    | some B1 =>
      obtain ⟨I1, q1⟩ := m2 B1 e
      obtain ⟨k1, k2⟩ := bof_ok r I1
      refine ⟨fun h σ hB z => ?_, fun B' h => ?_⟩
      · have z' := (sp σ).1 z
        exact k1 h σ ((q1 σ).2 ⟨hB, z'.1⟩) z'.2
      · obtain ⟨I', q'⟩ := k2 B' h
        refine ⟨I', fun σ => ?_⟩
        rw [q', q1, sp]
        exact and_assoc
/-- what may stand in it -/
def OkT (N V : D → Prop) : T → Prop
  | .val v => V v
  | .var x => N (.str x)
def OkB (N V : D → Prop) (B : Bd) : Prop := ∀ p ∈ B, N (.str p.1) ∧ OkT N V p.2
theorem put_okT {N V : D → Prop} {B : Bd} (h : OkB N V B) {t : T} (ht : OkT N V t) : OkT N V (put B t) := by
  cases t with
  | val v => exact ht
  | var x =>
    rw [put_var]
    cases e : lk B x with
    | none => exact ht
    | some t => exact (h _ (lk_mem e)).2
theorem mg_okB {N V : D → Prop} {B : Bd} (I : Inv B) (h : OkB N V B) {a b : T} (ha : OkT N V a) (hb : OkT N V b) {B' : Bd} (e : mg B a b = some B') : OkB N V B' := by
  have core : ∀ x r, x ∉ keys B → N (.str x) → OkT N V r → OkB N V (bindB B x r) := fun x r hx hN hr p hp => by
    rw [bind_eq hx] at hp
    rcases List.mem_append.mp hp with z | z
    · obtain ⟨q, hq, rfl⟩ := List.mem_map.mp z
      exact ⟨(h q hq).1, put_okT (B := [(x, r)]) (fun p hp => by rw [List.mem_singleton.mp hp]; exact ⟨hN, hr⟩) (h q hq).2⟩
    · rw [List.mem_singleton.mp z]
      exact ⟨hN, hr⟩
  have h1 := put_okT h ha
  have h2 := put_okT h hb
  unfold mg at e
  split at e
  · cases e; exact h
  · split at e
    · cases e
    · rename_i v y e1 e2
      cases e
      rw [e1] at h1
      rw [e2] at h2
      exact core y _ (put_off I e2) h2 h1
    · rename_i x e1
      cases e
      rw [e1] at h1
      exact core x _ (put_off I e1) h1 h2
theorem bof_okB {N V : D → Prop} : ∀ (ps : List (T × T)) {B B' : Bd}, Inv B → OkB N V B → (∀ p ∈ ps, OkT N V p.1 ∧ OkT N V p.2) → bof ps B = some B' → OkB N V B'
  | [], B, B', I, h, _, e => by cases e; exact h
  | (a, b) :: r, B, B', I, h, hp, e => by
    unfold bof at e
    obtain ⟨B1, e1, e2⟩ := Option.bind_eq_some_iff.mp e
    obtain ⟨pa, pb⟩ := hp (a, b) List.mem_cons_self
    exact bof_okB r ((mg_ok I a b).2 B1 e1).1 (mg_okB I h pa pb e1) (fun p hp' => hp p (List.mem_cons_of_mem _ hp')) e2
theorem inv_nil : Inv [] := ⟨List.nodup_nil, fun p hp => by cases hp⟩
/-- a valuation of the free ones made whole -/
def whole (B : Bd) (σ0 : Str → D) : Str → D := fun x => match lk B x with
  | some t => ev σ0 t
  | none => σ0 x
theorem whole_ev {B : Bd} (I : Inv B) (σ0 : Str → D) {t : T} (h : ∀ y, t = .var y → y ∉ keys B) : ev (whole B σ0) t = ev σ0 t := by
  cases t with
  | val v => rfl
  | var y =>
    show whole B σ0 y = σ0 y
    unfold whole
    cases e : lk B y with
    | none => rfl
    | some t => exact absurd (mem_keys (lk_mem e)) (h y rfl)
theorem whole_sat {B : Bd} (I : Inv B) (σ0 : Str → D) : Sat (whole B σ0) B := fun p hp => by
  rw [whole_ev I σ0 (I.off p hp)]
  unfold whole
  rw [lk_of_mem I.nd hp]
theorem ev_whole {B : Bd} (σ0 : Str → D) (I : Inv B) (t : T) : ev (whole B σ0) t = ev σ0 (put B t) := by
  rw [← ev_put (whole_sat I σ0) t]
  exact whole_ev I σ0 fun y e => put_off I e
def sigma1 : Str → D := fun x => .tup [.str x]
/-- put makes the two sides one -/
theorem bof_put {ps : List (T × T)} {B : Bd} (e : bof ps [] = some B) (hv : ∀ p ∈ ps, OkT (fun _ => True) (fun v => ∀ xs, v ≠ .tup xs) p.1 ∧ OkT (fun _ => True) (fun v => ∀ xs, v ≠ .tup xs) p.2) : ∀ p ∈ ps, put B p.1 = put B p.2 := by
  obtain ⟨I, q⟩ := (bof_ok ps inv_nil).2 B e
  have hB := bof_okB ps inv_nil (fun p hp => by cases hp) hv e
  have hs := ((q _).1 (whole_sat I sigma1)).2
  intro p hp
  have h := hs p hp
  rw [ev_whole sigma1 I, ev_whole sigma1 I] at h
  have o1 := put_okT hB (hv p hp).1
  have o2 := put_okT hB (hv p hp).2
  revert h o1 o2
  cases put B p.1 with
  | val v =>
    cases put B p.2 with
    | val w => intro h _ _; rw [show v = w from h]
    | var y => intro h o1 _; exact absurd h (o1 _)
  | var x =>
    cases put B p.2 with
    | val w => intro h _ o2; exact absurd h.symm (o2 _)
    | var y =>
      intro h _ _
      have h' : D.tup [.str x] = D.tup [.str y] := h
      simp at h'
      rw [h']
end G.k97

set_option Elab.async false
set_option linter.all false
set_option maxRecDepth 100000
/-! L97a: what the defs about terms give. -/
namespace G.k97
open PySem PySem.Spec PyProof.Rows L2 G
theorem okv : PyData.strOk "var" = true := by decide +kernel
theorem okw : PyData.strOk "value" = true := by decide +kernel
/-- a value -/
def okV : D → Bool
  | .int _ => true
  | .str x => PyData.strOk x
  | _ => false
theorem okV_pl {v : D} (h : okV v = true) (n : Nat) : pl (n + 1) v = true := by
  cases v <;> first | (simp [okV] at h; done) | (simp [okV] at h; simp [pl, h]) | simp [pl]
def T.ok : T → Bool
  | .val v => okV v
  | .var x => PyData.strOk x
theorem T.pl_d {t : T} (h : t.ok = true) (n : Nat) : pl (n + 2) t.d = true := by
  cases t with
  | val v => simp only [T.d, pl, List.all_cons, List.all_nil, okw, okV_pl (show okV v = true from h), Bool.and_self]
  | var x => simp only [T.d, pl, List.all_cons, List.all_nil, okv, show PyData.strOk x = true from h, Bool.and_self]
def dB (B : Bd) : List (D × D) := B.map fun p => (.str p.1, p.2.d)
theorem lk_dB : ∀ (B : Bd) (x : Str), lkD (dB B) (.str x) = (lk B x).map T.d
  | [], _ => rfl
  | (y, t) :: r, x => by
    show (if D.str y = D.str x then some t.d else lkD (dB r) (.str x)) = _
    unfold lk
    by_cases e : y = x
    · rw [if_pos e, if_pos (by rw [e])]; rfl
    · rw [if_neg e, if_neg (by simpa using e), lk_dB r x]
theorem put_term (B : Bd) (t : T) : F_put_term [.im t.d, .im (.dic (dB B))] = some (.im (put B t).d, []) := by
  cases t with
  | val v => simp [fnF, slots0, sSeq, sIf, tst, tNotX, tAndX, tOrX, op2, op1, eV, eFz, eC, fz, Res.get, owAt, sRet, sRetN, sNil, sDrop, sAsg, sAsgG, okSet, gN, gT, gNs, endF, outsOf, eGet, toKey, eTup, eLst, aNil, aCons, ims, eCB, getAll, eMu, isLst, setC, eCall, toSVs, toSV, bos, putBack, List.set_cons_zero, List.set_cons_succ, eDic0, eDisp, evPairs, mergeD, ixA, ixD, L2.atI, L2.ixN, F_put_term, b_put_term, T.d, eqD, pl, okv, okw, vne, put]
  | var x =>
    simp [fnF, slots0, sSeq, sIf, tst, tNotX, tAndX, tOrX, op2, op1, eV, eFz, eC, fz, Res.get, owAt, sRet, sRetN, sNil, sDrop, sAsg, sAsgG, okSet, gN, gT, gNs, endF, outsOf, eGet, toKey, eTup, eLst, aNil, aCons, ims, eCB, getAll, eMu, isLst, setC, eCall, toSVs, toSV, bos, putBack, List.set_cons_zero, List.set_cons_succ, eDic0, eDisp, evPairs, mergeD, ixA, ixD, L2.atI, L2.ixN, F_put_term, b_put_term, T.d, eqD, pl, okv, okw, put_var, lk_dB]
    cases lk B x <;> rfl
theorem dB_any (B : Bd) (x : Str) : ((dB B).any fun kv => decide (kv.1 = D.str x)) = decide (x ∈ keys B) := by
  induction B with
  | nil => rfl
  | cons p r ih =>
    show (decide (D.str p.1 = D.str x) || ((dB r).any fun kv => decide (kv.1 = D.str x))) = _
    rw [ih]
    show _ = decide (x ∈ p.1 :: keys r)
    simp [List.mem_cons, eq_comm]
theorem putD_dB (B : Bd) (x : Str) (t : T) : G.putD (dB B) (.str x) t.d = dB (putS B x t) := by
  unfold G.putD putS
  rw [dB_any]
  by_cases h : x ∈ keys B
  · rw [if_pos (decide_eq_true h), if_pos h]
    unfold dB
    rw [List.map_map, List.map_map]
    refine List.map_congr_left fun p _ => ?_
    show (if D.str p.1 = D.str x then (D.str p.1, t.d) else (D.str p.1, p.2.d)) = _
    by_cases e : p.1 = x
    · rw [if_pos (by rw [e])]; simp [e]
    · rw [if_neg (by simpa using e)]; simp [e]
  · rw [if_neg (by simpa using h), if_neg h]
    unfold dB
    rw [List.map_append]
    rfl
end G.k97

set_option Elab.async false
set_option linter.all false
set_option maxRecDepth 100000
/-! L97b: merged, binding_of, unified. -/
namespace G.k97
open PySem PySem.Spec PyProof.Rows L2 G
theorem eqD_pl {a b : D} (ha : pl 60 a = true) (hb : pl 60 b = true) : eqD a b = some (.im (.bl (decide (a = b)))) := by
  cases a <;> cases b <;> first | (simp [pl] at ha; done) | (simp [pl] at hb; done) | simp only [eqD, ha, hb, Bool.and_self, if_true]
theorem dec_T {l r : T} : decide (l.d = r.d) = decide (l = r) := by
  by_cases h : l = r
  · rw [h, decide_eq_true rfl, decide_eq_true rfl]
  · rw [decide_eq_false h, decide_eq_false fun z => h (T.d_inj z)]
theorem eqD_T {l r : T} (hl : l.ok = true) (hr : r.ok = true) : eqD l.d r.d = some (.im (.bl (decide (l = r)))) := by
  rw [eqD_pl (T.pl_d hl 58) (T.pl_d hr 58), dec_T]
def OkBd (B : Bd) : Prop := ∀ p ∈ B, PyData.strOk p.1 = true ∧ p.2.ok = true
theorem lk_ok {B : Bd} (h : OkBd B) {t : T} (ht : t.ok = true) : (put B t).ok = true := by
  cases t with
  | val v => exact ht
  | var x =>
    rw [put_var]
    cases e : lk B x with
    | none => exact ht
    | some t => exact (h _ (lk_mem e)).2
def outB : Option Bd → D
  | none => .non
  | some B => .dic (dB B)
theorem dB_keys (B : Bd) : (dB B).map (·.1) = (keys B).map D.str := by
  unfold dB keys
  rw [List.map_map, List.map_map]
  rfl
theorem T.fst (t : T) : ixA t.d (.int 0) = some (.im (.str (match t with | .val _ => "value" | .var _ => "var"))) := by
  cases t <;> rfl
def T.snd : T → D
  | .val v => v
  | .var x => .str x
theorem T.snd_d (t : T) : ixA t.d (.int 1) = some (.im t.snd) := by
  cases t <;> rfl
theorem eq_ss {a b : Str} (ha : PyData.strOk a = true) (hb : PyData.strOk b = true) : eqD (.str a) (.str b) = some (.im (.bl (decide (a = b)))) := by
  rw [eqD_pl (by simp [pl, ha]) (by simp [pl, hb])]
  simp
/-- the last part of merged: left a name, right a term -/
def tailM : SX := sSeq (sAsg 5 (fz (eDisp [((fz (op2 ixA (eV 3) (eC (.int 1)))), (eFz 4))]))) (sSeq (sAsg 6 (eDc [7] (itK 0) (gN 7) tTrue (eFz 7) fe_merged_1)) (sSeq (sSub 6 (op2 ixA (eV 3) (eC (.int 1))) (eFz 4)) (sRet (eV 6))))
abbrev slM (B : Bd) (a b : D) (l r : T) (y z : Option SV) : Slots := [some (.im (.dic (dB B))), some (.im a), some (.im b), some (.im l.d), some (.im r.d), y, z, none]
theorem tail_ok {B : Bd} (nd : (keys B).Nodup) (hz : B.length < sizeLine) (x : Str) (r : T) (a b : D) : ∃ s, tailM (slM B a b (.var x) r none none) = some (.rt (.bo 6) s) ∧ s[6]? = some (some (.ow false (.dic (dB (bindB B x r))))) := by
  have h5 : (sAsg 5 (fz (eDisp [((fz (op2 ixA (eV 3) (eC (.int 1)))), (eFz 4))]))) (slM B a b (.var x) r none none) =
      some (.nx (slM B a b (.var x) r (some (.im (.dic (dB [(x, r)])))) none)) := by
    simp [fnF, slots0, sSeq, sIf, tst, tNotX, tAndX, tOrX, op2, op1, eV, eFz, eC, fz, Res.get, owAt, sRet, sRetN, sNil, sDrop, sAsg, sAsgG, okSet, gN, gT, gNs, endF, outsOf, eGet, toKey, eTup, eLst, aNil, aCons, ims, eCB, getAll, eMu, isLst, setC, eCall, toSVs, toSV, bos, putBack, List.set_cons_zero, List.set_cons_succ, eDic0, eDisp, evPairs, mergeD, ixA, ixD, L2.atI, L2.ixN, T.d, G.putD, dB]
  have h6 : eDc [7] (itK 0) (gN 7) tTrue (eFz 7) fe_merged_1 (slM B a b (.var x) r (some (.im (.dic (dB [(x, r)])))) none) =
      some (.fr (.dic (dB (B.map fun p => (p.1, put [(x, r)] p.2)))), (slM B a b (.var x) r (some (.im (.dic (dB [(x, r)])))) none)) := by
    have e := eDc1 (i := 7) (fi := itK 0) (fv := fe_merged_1) (f := fun d => match d with
        | .str y => ((lk B y).map fun t => (put [(x, r)] t).d).getD .non
        | _ => .non) (sd := (slM B a b (.var x) r (some (.im (.dic (dB [(x, r)])))) none)) (s := (slM B a b (.var x) r (some (.im (.dic (dB [(x, r)])))) none)) (ds := (keys B).map D.str) (by unfold itK; simp [dB_keys]) rfl
      (fun d hd => by obtain ⟨y, _, rfl⟩ := List.mem_map.mp hd; rfl) (List.Pairwise.map _ (fun _ _ h z => h (by cases z; rfl)) nd) (by rw [List.length_map]; unfold keys; rw [List.length_map]; omega) fun d hd => by
        obtain ⟨y, hy, rfl⟩ := List.mem_map.mp hd
        obtain ⟨t, ht⟩ := lk_some hy
        have e1 := put_term [(x, r)] t
        have e2 : lkD (dB B) (.str y) = some t.d := by rw [lk_dB, ht]; rfl
        simp [fnF, slots0, sSeq, sIf, tst, tNotX, tAndX, tOrX, op2, op1, eV, eFz, eC, fz, Res.get, owAt, sRet, sRetN, sNil, sDrop, sAsg, sAsgG, okSet, gN, gT, gNs, endF, outsOf, eGet, toKey, eTup, eLst, aNil, aCons, ims, eCB, getAll, eMu, isLst, setC, eCall, toSVs, toSV, bos, putBack, List.set_cons_zero, List.set_cons_succ, eDic0, eDisp, evPairs, mergeD, ixA, ixD, L2.atI, L2.ixN, fe_merged_1, e2, e1, ht]
    rw [e]
    congr 3
    have key : ∀ (C : Bd), (∀ p ∈ C, lk B p.1 = some p.2) → ((keys C).map D.str).map (fun d => (d, match d with
        | .str y => ((lk B y).map fun t => (put [(x, r)] t).d).getD .non
        | _ => .non)) = dB (C.map fun p => (p.1, put [(x, r)] p.2)) := by
      intro C hC
      unfold keys dB
      rw [List.map_map, List.map_map, List.map_map]
      refine List.map_congr_left fun p hp => ?_
      simp [hC p hp]
    exact congrArg D.dic (key B fun p hp => lk_of_mem nd hp)
  unfold tailM
  refine ⟨slM B a b (.var x) r (some (.im (.dic (dB [(x, r)])))) (some (.ow false (.dic (dB (bindB B x r))))), ?_, rfl⟩
  have hz2 : (dB (B.map fun p => (p.1, put [(x, r)] p.2))).length < sizeLine := by unfold dB; rw [List.length_map, List.length_map]; exact hz
  have hp := putD_dB (B.map fun p => (p.1, put [(x, r)] p.2)) x r
  unfold sSeq
  rw [h5]
  simp only [Option.bind_eq_bind, Option.bind_some]
  unfold sAsg
  rw [h6]
  simp [fnF, slots0, sSeq, sIf, tst, tNotX, tAndX, tOrX, op2, op1, eV, eFz, eC, fz, Res.get, owAt, sRet, sRetN, sNil, sDrop, sAsg, sAsgG, okSet, gN, gT, gNs, endF, outsOf, eGet, toKey, eTup, eLst, aNil, aCons, ims, eCB, getAll, eMu, isLst, setC, eCall, toSVs, toSV, bos, putBack, List.set_cons_zero, List.set_cons_succ, eDic0, eDisp, evPairs, mergeD, ixA, ixD, L2.atI, L2.ixN, T.d, sSub, subSet, hz2]
  exact hp
theorem merged_ok {B : Bd} (I : Inv B) (hB : OkBd B) (hz : B.length < sizeLine) {a b : T} (ha : a.ok = true) (hb : b.ok = true) : F_merged [.im (.dic (dB B)), .im a.d, .im b.d] = some (match mg B a b with
    | some B' => if put B a = put B b then .im (.dic (dB B')) else .fr (.dic (dB B'))
    | none => .im .non, []) := by
  have hl := lk_ok hB ha
  have hr := lk_ok hB hb
  have tl := fun x r => tail_ok I.nd hz x r a.d b.d
  have e3 : (sAsg 3 (fz (eCall F_put_term (aCons (eFz 1) (aCons (eFz 0) aNil))))) [some (.im (.dic (dB B))), some (.im a.d), some (.im b.d), none, none, none, none, none] = some (.nx [some (.im (.dic (dB B))), some (.im a.d), some (.im b.d), some (.im (put B a).d), none, none, none, none]) := by
    simp [fnF, slots0, sSeq, sIf, tst, tNotX, tAndX, tOrX, op2, op1, eV, eFz, eC, fz, Res.get, owAt, sRet, sRetN, sNil, sDrop, sAsg, sAsgG, okSet, gN, gT, gNs, endF, outsOf, eGet, toKey, eTup, eLst, aNil, aCons, ims, eCB, getAll, eMu, isLst, setC, eCall, toSVs, toSV, bos, putBack, List.set_cons_zero, List.set_cons_succ, eDic0, eDisp, evPairs, mergeD, ixA, ixD, L2.atI, L2.ixN, put_term]
  have e4 : (sAsg 4 (fz (eCall F_put_term (aCons (eFz 2) (aCons (eFz 0) aNil))))) [some (.im (.dic (dB B))), some (.im a.d), some (.im b.d), some (.im (put B a).d), none, none, none, none] = some (.nx (slM B a.d b.d (put B a) (put B b) none none)) := by
    simp [fnF, slots0, sSeq, sIf, tst, tNotX, tAndX, tOrX, op2, op1, eV, eFz, eC, fz, Res.get, owAt, sRet, sRetN, sNil, sDrop, sAsg, sAsgG, okSet, gN, gT, gNs, endF, outsOf, eGet, toKey, eTup, eLst, aNil, aCons, ims, eCB, getAll, eMu, isLst, setC, eCall, toSVs, toSV, bos, putBack, List.set_cons_zero, List.set_cons_succ, eDic0, eDisp, evPairs, mergeD, ixA, ixD, L2.atI, L2.ixN, put_term]
  have eq1 : ∀ l r : T, l.ok = true → r.ok = true → (tst (op2 eqD (eV 3) (eV 4))) (slM B a.d b.d l r none none) = some (decide (l = r), slM B a.d b.d l r none none) := fun l r h1 h2 => by
    have e := eqD_T h1 h2
    simp [fnF, slots0, sSeq, sIf, tst, tNotX, tAndX, tOrX, op2, op1, eV, eFz, eC, fz, Res.get, owAt, sRet, sRetN, sNil, sDrop, sAsg, sAsgG, okSet, gN, gT, gNs, endF, outsOf, eGet, toKey, eTup, eLst, aNil, aCons, ims, eCB, getAll, eMu, isLst, setC, eCall, toSVs, toSV, bos, putBack, List.set_cons_zero, List.set_cons_succ, eDic0, eDisp, evPairs, mergeD, ixA, ixD, L2.atI, L2.ixN, e]
  have fin : ∀ (s : Slots) (D0 : Bd), s[6]? = some (some (.ow false (.dic (dB D0)))) → endF [.im (.dic (dB B)), .im a.d, .im b.d] (.bo 6) s = some (.fr (.dic (dB D0)), []) := fun s D0 h => by
    simp [endF, outsOf, h]
  have slen : slots0 8 [.im (.dic (dB B)), .im a.d, .im b.d] = [some (.im (.dic (dB B))), some (.im a.d), some (.im b.d), none, none, none, none, none] := rfl
  unfold mg
  unfold F_merged b_merged
  generalize put B a = l at hl e3 e4 ⊢
  generalize put B b = r at hr e4 ⊢
  by_cases h : l = r
  · rw [if_pos h]
    refine (fnF_rt (r := .im (.dic (dB B))) (s := slM B a.d b.d l r none none) rfl ?_).trans ?_
    · rw [slen, sSeq_nx e3, sSeq_nx e4]
      exact sSeq_rt (by rw [sIf_t (by rw [eq1 l r hl hr, decide_eq_true h])]; rfl)
    · simp [endF, outsOf, h]
  · rw [if_neg h]
    have e5 : (sIf (tst (op2 eqD (eV 3) (eV 4))) (sRet (eV 0)) sNil) (slM B a.d b.d l r none none) = some (.nx (slM B a.d b.d l r none none)) := by
      rw [sIf_f (by rw [eq1 _ _ hl hr, decide_eq_false h])]; rfl
    cases l with
    | val v =>
      cases r with
      | val w =>
        refine (fnF_rt (r := .im .non) (s := slM B a.d b.d (.val v) (.val w) none none) rfl ?_).trans rfl
        rw [slen, sSeq_nx e3, sSeq_nx e4, sSeq_nx e5]
        refine sSeq_rt ?_
        rw [sIf_t (s' := slM B a.d b.d (.val v) (.val w) none none) (by simp [fnF, slots0, sSeq, sIf, tst, tNotX, tAndX, tOrX, op2, op1, eV, eFz, eC, fz, Res.get, owAt, sRet, sRetN, sNil, sDrop, sAsg, sAsgG, okSet, gN, gT, gNs, endF, outsOf, eGet, toKey, eTup, eLst, aNil, aCons, ims, eCB, getAll, eMu, isLst, setC, eCall, toSVs, toSV, bos, putBack, List.set_cons_zero, List.set_cons_succ, eDic0, eDisp, evPairs, mergeD, ixA, ixD, L2.atI, L2.ixN, T.d, eq_ss okw okw])]
        rfl
      | var y =>
        obtain ⟨s, q1, q2⟩ := tl y (.val v)
        refine (fnF_rt (r := .bo 6) (s := s) rfl ?_).trans ((fin s _ q2).trans ?_)
        · rw [slen, sSeq_nx e3, sSeq_nx e4, sSeq_nx e5]
          rw [sSeq_nx (s' := slM B a.d b.d (.val v) (.var y) none none) (by rw [sIf_f (s' := slM B a.d b.d (.val v) (.var y) none none) (by simp [fnF, slots0, sSeq, sIf, tst, tNotX, tAndX, tOrX, op2, op1, eV, eFz, eC, fz, Res.get, owAt, sRet, sRetN, sNil, sDrop, sAsg, sAsgG, okSet, gN, gT, gNs, endF, outsOf, eGet, toKey, eTup, eLst, aNil, aCons, ims, eCB, getAll, eMu, isLst, setC, eCall, toSVs, toSV, bos, putBack, List.set_cons_zero, List.set_cons_succ, eDic0, eDisp, evPairs, mergeD, ixA, ixD, L2.atI, L2.ixN, T.d, eq_ss okw okw, eq_ss okv okw, Ne.symm vne])]; rfl)]
          rw [sSeq_nx (s' := slM B a.d b.d (.var y) (.val v) none none) (by rw [sIf_t (s' := slM B a.d b.d (.val v) (.var y) none none) (by simp [fnF, slots0, sSeq, sIf, tst, tNotX, tAndX, tOrX, op2, op1, eV, eFz, eC, fz, Res.get, owAt, sRet, sRetN, sNil, sDrop, sAsg, sAsgG, okSet, gN, gT, gNs, endF, outsOf, eGet, toKey, eTup, eLst, aNil, aCons, ims, eCB, getAll, eMu, isLst, setC, eCall, toSVs, toSV, bos, putBack, List.set_cons_zero, List.set_cons_succ, eDic0, eDisp, evPairs, mergeD, ixA, ixD, L2.atI, L2.ixN, T.d, eq_ss okw okw])]; simp [fnF, slots0, sSeq, sIf, tst, tNotX, tAndX, tOrX, op2, op1, eV, eFz, eC, fz, Res.get, owAt, sRet, sRetN, sNil, sDrop, sAsg, sAsgG, okSet, gN, gT, gNs, endF, outsOf, eGet, toKey, eTup, eLst, aNil, aCons, ims, eCB, getAll, eMu, isLst, setC, eCall, toSVs, toSV, bos, putBack, List.set_cons_zero, List.set_cons_succ, eDic0, eDisp, evPairs, mergeD, ixA, ixD, L2.atI, L2.ixN, sPar])]
          exact q1
        · rfl
    | var x =>
      obtain ⟨s, q1, q2⟩ := tl x r
      refine (fnF_rt (r := .bo 6) (s := s) rfl ?_).trans ((fin s _ q2).trans ?_)
      · rw [slen, sSeq_nx e3, sSeq_nx e4, sSeq_nx e5]
        rw [sSeq_nx (s' := slM B a.d b.d (.var x) r none none) (by rw [sIf_f (s' := slM B a.d b.d (.var x) r none none) (by simp [fnF, slots0, sSeq, sIf, tst, tNotX, tAndX, tOrX, op2, op1, eV, eFz, eC, fz, Res.get, owAt, sRet, sRetN, sNil, sDrop, sAsg, sAsgG, okSet, gN, gT, gNs, endF, outsOf, eGet, toKey, eTup, eLst, aNil, aCons, ims, eCB, getAll, eMu, isLst, setC, eCall, toSVs, toSV, bos, putBack, List.set_cons_zero, List.set_cons_succ, eDic0, eDisp, evPairs, mergeD, ixA, ixD, L2.atI, L2.ixN, T.d, eq_ss okv okw, Ne.symm vne])]; rfl)]
        rw [sSeq_nx (s' := slM B a.d b.d (.var x) r none none) (by rw [sIf_f (s' := slM B a.d b.d (.var x) r none none) (by simp [fnF, slots0, sSeq, sIf, tst, tNotX, tAndX, tOrX, op2, op1, eV, eFz, eC, fz, Res.get, owAt, sRet, sRetN, sNil, sDrop, sAsg, sAsgG, okSet, gN, gT, gNs, endF, outsOf, eGet, toKey, eTup, eLst, aNil, aCons, ims, eCB, getAll, eMu, isLst, setC, eCall, toSVs, toSV, bos, putBack, List.set_cons_zero, List.set_cons_succ, eDic0, eDisp, evPairs, mergeD, ixA, ixD, L2.atI, L2.ixN, T.d, eq_ss okv okw, Ne.symm vne])]; rfl)]
        exact q1
      · simp [h]
end G.k97

set_option Elab.async false
set_option linter.all false
set_option maxRecDepth 100000
/-! L97c: binding_of, unified, the law's own put, rows. -/
namespace G.k97
open PySem PySem.Spec PyProof.Rows L2 G
def VV0 : D → Prop := fun d => okV d = true
theorem okT_ok {t : T} : OkT VV0 VV0 t ↔ t.ok = true := by cases t <;> rfl
theorem okB_ok {B : Bd} : OkB VV0 VV0 B ↔ OkBd B := by
  unfold OkB OkBd
  exact ⟨fun h p hp => ⟨(h p hp).1, okT_ok.1 (h p hp).2⟩, fun h p hp => ⟨(h p hp).1, okT_ok.2 (h p hp).2⟩⟩
theorem bof_app : ∀ (p q : List (T × T)) (B : Bd), bof (p ++ q) B = (bof p B).bind (bof q)
  | [], _, _ => rfl
  | (a, b) :: r, q, B => by
    show (mg B a b).bind (bof (r ++ q)) = ((mg B a b).bind (bof r)).bind (bof q)
    cases mg B a b with
    | none => rfl
    | some B1 => exact bof_app r q B1
theorem putS_len (B : Bd) (x : Str) (t : T) : (putS B x t).length ≤ B.length + 1 := by
  unfold putS
  split
  · rw [List.length_map]; omega
  · rw [List.length_append]; exact Nat.le_refl _
theorem mg_len {B B' : Bd} {a b : T} (h : mg B a b = some B') : B'.length ≤ B.length + 1 := by
  have k : ∀ x r, (bindB B x r).length ≤ B.length + 1 := fun x r => by
    have := putS_len (B.map fun p => (p.1, put [(x, r)] p.2)) x r
    rw [List.length_map] at this
    exact this
  unfold mg at h
  split at h
  · cases h; omega
  · split at h
    · cases h
    · cases h; exact k _ _
    · cases h; exact k _ _
theorem bof_len : ∀ (ps : List (T × T)) {B B' : Bd}, bof ps B = some B' → B'.length ≤ B.length + ps.length
  | [], B, B', h => by cases h; omega
  | (a, b) :: r, B, B', h => by
    obtain ⟨B1, e1, e2⟩ := Option.bind_eq_some_iff.mp (show (mg B a b).bind (bof r) = some B' from h)
    have h1 := mg_len e1
    have h2 := bof_len r e2
    rw [List.length_cons]
    omega
def pD (p : T × T) : D := .tup [p.1.d, p.2.d]
def OkPs (ps : List (T × T)) : Prop := ∀ p ∈ ps, p.1.ok = true ∧ p.2.ok = true
theorem bof_facts {ps : List (T × T)} (hp : OkPs ps) {B : Bd} (h : bof ps [] = some B) : Inv B ∧ OkBd B ∧ B.length ≤ ps.length :=
  ⟨((bof_ok ps inv_nil).2 B h).1, okB_ok.1 (bof_okB ps inv_nil (fun p hp => by cases hp) (fun p hp' => ⟨okT_ok.2 (hp p hp').1, okT_ok.2 (hp p hp').2⟩) h), by simpa using bof_len ps h⟩
theorem binding_of_ok {ps : List (T × T)} (hp : OkPs ps) (hz : ps.length < sizeLine) : F_binding_of [.im (.lst (ps.map pD))] = some (match bof ps [] with
    | some B => .im (.dic (dB B))
    | none => .im .non, []) := by
  have h0 : (sAsg 1 (fz eDic0)) (slots0 4 [.im (.lst (ps.map pD))]) = some (.nx [some (.im (.lst (ps.map pD))), some (.im (.dic (dB []))), none, none]) := rfl
  obtain ⟨o, e, q⟩ := sForI (fi := itA (eFz 0)) (g := gT [(gN 2), (gN 3)]) (b := bl_binding_of_1) (sd := [some (.im (.lst (ps.map pD))), some (.im (.dic (dB []))), none, none]) (s := [some (.im (.lst (ps.map pD))), some (.im (.dic (dB []))), none, none]) (ds := ps.map pD) rfl
    (fun done s => ∃ (pre : List (T × T)) (B : Bd) (x y : D) (x0 y0 : Option SV), done = pre.map pD ∧ bof pre [] = some B ∧ (∃ post, ps = pre ++ post) ∧ s = [some (.im (.lst (ps.map pD))), some (.im (.dic (dB B))), x0, y0] ∧ (x0 = none ∨ x0 = some (.im x)) ∧ (y0 = none ∨ y0 = some (.im y)))
    (fun r s => r = .im .non ∧ bof ps [] = none) ⟨[], [], .non, .non, none, none, rfl, rfl, ⟨ps, rfl⟩, rfl, .inl rfl, .inl rfl⟩ (fun done d rest s hd hI => by
      obtain ⟨pre, B, x, y, x0, y0, rfl, hB, ⟨post, hpost⟩, rfl, hx, hy⟩ := hI
      cases post with
      | nil =>
        rw [hpost, List.append_nil] at hd
        have := congrArg List.length hd
        simp at this
      | cons p post =>
        obtain ⟨a, b⟩ := p
        have hd2 : d = pD (a, b) := by
          rw [hpost, List.map_append, List.append_cancel_left_eq, List.map_cons] at hd
          exact (List.cons.inj hd).1.symm
        subst hd2
        have hp' : OkPs pre := fun p h => hp p (by rw [hpost]; exact List.mem_append_left _ h)
        have hab := hp (a, b) (by rw [hpost]; exact List.mem_append_right _ List.mem_cons_self)
        obtain ⟨I, ok, ln⟩ := bof_facts hp' hB
        have hl : B.length < sizeLine := by
          have := congrArg List.length hpost
          rw [List.length_append] at this
          omega
        have em := merged_ok I ok hl hab.1 hab.2
        refine ⟨[some (.im (.lst (ps.map pD))), some (.im (.dic (dB B))), some (.im a.d), some (.im b.d)], ?_⟩
        have eg : gT [gN 2, gN 3] (pD (a, b)) [some (.im (.lst (ps.map pD))), some (.im (.dic (dB B))), x0, y0] = some [some (.im (.lst (ps.map pD))), some (.im (.dic (dB B))), some (.im a.d), some (.im b.d)] := by
          rcases hx with rfl | rfl <;> rcases hy with rfl | rfl <;> rfl
        have snoc : bof (pre ++ [(a, b)]) [] = mg B a b := by
          rw [bof_app, hB]
          show (mg B a b).bind (bof []) = _
          cases mg B a b <;> rfl
        have post' : ps = (pre ++ [(a, b)]) ++ post := by rw [hpost]; simp
        cases hm : mg B a b with
        | none =>
          rw [hm] at em
          refine ⟨.rt (.im .non) [some (.im (.lst (ps.map pD))), some (.im .non), some (.im a.d), some (.im b.d)], eg, ?_, rfl, ?_⟩
          · unfold bl_binding_of_1
            rw [sSeq_nx (s' := [some (.im (.lst (ps.map pD))), some (.im .non), some (.im a.d), some (.im b.d)]) (by simp [fnF, slots0, sSeq, sIf, tst, tNotX, tAndX, tOrX, op2, op1, eV, eFz, eC, fz, Res.get, owAt, sRet, sRetN, sNil, sDrop, sAsg, sAsgG, okSet, gN, gT, gNs, endF, outsOf, eGet, toKey, eTup, eLst, aNil, aCons, ims, eCB, getAll, eMu, isLst, setC, eCall, toSVs, toSV, bos, putBack, List.set_cons_zero, List.set_cons_succ, eDic0, eDisp, evPairs, mergeD, ixA, ixD, L2.atI, L2.ixN, em])]
            simp [fnF, slots0, sSeq, sIf, tst, tNotX, tAndX, tOrX, op2, op1, eV, eFz, eC, fz, Res.get, owAt, sRet, sRetN, sNil, sDrop, sAsg, sAsgG, okSet, gN, gT, gNs, endF, outsOf, eGet, toKey, eTup, eLst, aNil, aCons, ims, eCB, getAll, eMu, isLst, setC, eCall, toSVs, toSV, bos, putBack, List.set_cons_zero, List.set_cons_succ, eDic0, eDisp, evPairs, mergeD, ixA, ixD, L2.atI, L2.ixN, isND]
          · rw [post', bof_app, snoc, hm]
            rfl
        | some B' =>
          rw [hm] at em
          refine ⟨.nx [some (.im (.lst (ps.map pD))), some (.im (.dic (dB B'))), some (.im a.d), some (.im b.d)], eg, ?_, pre ++ [(a, b)], B', a.d, b.d, _, _, by rw [List.map_append]; rfl, snoc.trans hm, ⟨post, post'⟩, rfl, .inr rfl, .inr rfl⟩
          unfold bl_binding_of_1
          have ea : (sAsg 1 (fz (eCall F_merged (aCons (eFz 1) (aCons (eFz 2) (aCons (eFz 3) aNil)))))) [some (.im (.lst (ps.map pD))), some (.im (.dic (dB B))), some (.im a.d), some (.im b.d)] = some (.nx [some (.im (.lst (ps.map pD))), some (.im (.dic (dB B'))), some (.im a.d), some (.im b.d)]) := by
            by_cases q : put B a = put B b
            · simp only [if_pos q] at em
              simp [fnF, slots0, sSeq, sIf, tst, tNotX, tAndX, tOrX, op2, op1, eV, eFz, eC, fz, Res.get, owAt, sRet, sRetN, sNil, sDrop, sAsg, sAsgG, okSet, gN, gT, gNs, endF, outsOf, eGet, toKey, eTup, eLst, aNil, aCons, ims, eCB, getAll, eMu, isLst, setC, eCall, toSVs, toSV, bos, putBack, List.set_cons_zero, List.set_cons_succ, eDic0, eDisp, evPairs, mergeD, ixA, ixD, L2.atI, L2.ixN, em]
            · simp only [if_neg q] at em
              simp [fnF, slots0, sSeq, sIf, tst, tNotX, tAndX, tOrX, op2, op1, eV, eFz, eC, fz, Res.get, owAt, sRet, sRetN, sNil, sDrop, sAsg, sAsgG, okSet, gN, gT, gNs, endF, outsOf, eGet, toKey, eTup, eLst, aNil, aCons, ims, eCB, getAll, eMu, isLst, setC, eCall, toSVs, toSV, bos, putBack, List.set_cons_zero, List.set_cons_succ, eDic0, eDisp, evPairs, mergeD, ixA, ixD, L2.atI, L2.ixN, em]
          rw [sSeq_nx ea]
          simp [fnF, slots0, sSeq, sIf, tst, tNotX, tAndX, tOrX, op2, op1, eV, eFz, eC, fz, Res.get, owAt, sRet, sRetN, sNil, sDrop, sAsg, sAsgG, okSet, gN, gT, gNs, endF, outsOf, eGet, toKey, eTup, eLst, aNil, aCons, ims, eCB, getAll, eMu, isLst, setC, eCall, toSVs, toSV, bos, putBack, List.set_cons_zero, List.set_cons_succ, eDic0, eDisp, evPairs, mergeD, ixA, ixD, L2.atI, L2.ixN, isND])
  unfold F_binding_of b_binding_of
  cases o with
  | nx s2 =>
    obtain ⟨pre, B, x, y, x0, y0, h1, hB, ⟨post, hpost⟩, rfl, hx, hy⟩ := q
    have hpost' : post = [] := by
      have := congrArg List.length h1
      have h2 := congrArg List.length hpost
      rw [List.length_append] at h2
      simp only [List.length_map] at this
      exact List.length_eq_zero_iff.mp (by omega)
    subst hpost'
    rw [List.append_nil] at hpost
    subst hpost
    refine (fnF_rt (r := .im (.dic (dB B))) (s := [some (.im (.lst (ps.map pD))), some (.im (.dic (dB B))), x0, y0]) rfl ?_).trans ?_
    · rw [sSeq_nx h0, sSeq_nx e]
      rfl
    · rw [hB]
      rfl
  | rt r s =>
    obtain ⟨rfl, hn⟩ := q
    refine (fnF_rt (r := .im .non) (s := s) rfl ?_).trans ?_
    · rw [sSeq_nx h0]
      exact sSeq_rt e
    · rw [hn]
      rfl
  | bk s => exact q.elim
  | ct s => exact q.elim
end G.k97

set_option Elab.async false
set_option linter.all false
set_option maxRecDepth 100000
/-! L97d: unified; the law's put and rows. -/
namespace G.k97
open PySem PySem.Spec PyProof.Rows L2 G
def pr (p : Str × T) : D := .tup [.str p.1, p.2.d]
theorem zip_pD : ∀ (as bs : List T), ((as.map T.d).zip (bs.map T.d)).map (fun q => D.tup [q.1, q.2]) = (as.zip bs).map pD
  | [], bs => by simp
  | a :: as, [] => by simp
  | a :: as, b :: bs => by simp [zip_pD as bs, pD]
/-- the answer, in order -/
def acts (B : Bd) : Bd := (sortS (keys B)).map fun x => (x, (lk B x).getD (.var x))
theorem sortA_dB {B : Bd} (h : B.length < 64) : gSortA [.dic (dB B)] = some (.fr (.lst ((sortS (keys B)).map D.str))) := by
  have hl : (keys B).length < 64 := by unfold keys; rw [List.length_map]; exact h
  simp [gSortA, orG, gSortS, gSortK, dB_keys, strsOf_map, hl]
theorem sortS_len (xs : List Str) : (sortS xs).length = xs.length := (sortS_perm xs).length_eq
theorem unified_ok {as bs : List T} (hp : OkPs (as.zip bs)) (hz : (as.zip bs).length < 64) : F_unified [.im (.tup (as.map T.d)), .im (.tup (bs.map T.d))] = some (match bof (as.zip bs) [] with
    | some B => .im (.tup ((acts B).map pr))
    | none => .im .non, []) := by
  have hb := binding_of_ok hp (Nat.lt_trans hz (by decide))
  unfold F_unified b_unified
  cases hB : bof (as.zip bs) [] with
  | none =>
    rw [hB] at hb
    have e1 : (sAsg 2 (fz (eCall F_binding_of (aCons (fz (eCB gListZip (aCons (eV 0) (aCons (eV 1) aNil)))) aNil)))) (slots0 4 [.im (.tup (as.map T.d)), .im (.tup (bs.map T.d))]) = some (.nx [some (.im (.tup (as.map T.d))), some (.im (.tup (bs.map T.d))), some (.im .non), none]) := by
      simp [fnF, slots0, sSeq, sIf, tst, tNotX, tAndX, tOrX, op2, op1, eV, eFz, eC, fz, Res.get, owAt, sRet, sRetN, sNil, sDrop, sAsg, sAsgG, okSet, gN, gT, gNs, endF, outsOf, eGet, toKey, eTup, eLst, aNil, aCons, ims, eCB, getAll, eMu, isLst, setC, eCall, toSVs, toSV, bos, putBack, List.set_cons_zero, List.set_cons_succ, eDic0, eDisp, evPairs, mergeD, ixA, ixD, L2.atI, L2.ixN, gListZip, zip_pD, hb]
    refine (fnF_rt (r := .im .non) (s := [some (.im (.tup (as.map T.d))), some (.im (.tup (bs.map T.d))), some (.im .non), none]) rfl ?_).trans rfl
    rw [sSeq_nx e1]
    exact sSeq_rt (by simp [fnF, slots0, sSeq, sIf, tst, tNotX, tAndX, tOrX, op2, op1, eV, eFz, eC, fz, Res.get, owAt, sRet, sRetN, sNil, sDrop, sAsg, sAsgG, okSet, gN, gT, gNs, endF, outsOf, eGet, toKey, eTup, eLst, aNil, aCons, ims, eCB, getAll, eMu, isLst, setC, eCall, toSVs, toSV, bos, putBack, List.set_cons_zero, List.set_cons_succ, eDic0, eDisp, evPairs, mergeD, ixA, ixD, L2.atI, L2.ixN, isND])
  | some B =>
    rw [hB] at hb
    obtain ⟨I, ok, ln⟩ := bof_facts hp hB
    have e1 : (sAsg 2 (fz (eCall F_binding_of (aCons (fz (eCB gListZip (aCons (eV 0) (aCons (eV 1) aNil)))) aNil)))) (slots0 4 [.im (.tup (as.map T.d)), .im (.tup (bs.map T.d))]) = some (.nx [some (.im (.tup (as.map T.d))), some (.im (.tup (bs.map T.d))), some (.im (.dic (dB B))), none]) := by
      simp [fnF, slots0, sSeq, sIf, tst, tNotX, tAndX, tOrX, op2, op1, eV, eFz, eC, fz, Res.get, owAt, sRet, sRetN, sNil, sDrop, sAsg, sAsgG, okSet, gN, gT, gNs, endF, outsOf, eGet, toKey, eTup, eLst, aNil, aCons, ims, eCB, getAll, eMu, isLst, setC, eCall, toSVs, toSV, bos, putBack, List.set_cons_zero, List.set_cons_succ, eDic0, eDisp, evPairs, mergeD, ixA, ixD, L2.atI, L2.ixN, gListZip, zip_pD, hb]
    have e2 := eLcM (i := 3) (fi := itA (eCB gSortA (aCons (eV 2) aNil))) (fe := fe_unified_1) (f := fun d => match d with
        | .str x => pr (x, (lk B x).getD (.var x))
        | _ => .non) (sd := [some (.im (.tup (as.map T.d))), some (.im (.tup (bs.map T.d))), some (.im (.dic (dB B))), none]) (s := [some (.im (.tup (as.map T.d))), some (.im (.tup (bs.map T.d))), some (.im (.dic (dB B))), none])
        (ds := (sortS (keys B)).map D.str) (by
          have e := sortA_dB (B := B) (by omega)
          simp [fnF, slots0, sSeq, sIf, tst, tNotX, tAndX, tOrX, op2, op1, eV, eFz, eC, fz, Res.get, owAt, sRet, sRetN, sNil, sDrop, sAsg, sAsgG, okSet, gN, gT, gNs, endF, outsOf, eGet, toKey, eTup, eLst, aNil, aCons, ims, eCB, getAll, eMu, isLst, setC, eCall, toSVs, toSV, bos, putBack, List.set_cons_zero, List.set_cons_succ, eDic0, eDisp, evPairs, mergeD, ixA, ixD, L2.atI, L2.ixN, itA, e]) rfl (fun d hd => by
          obtain ⟨x, hx, rfl⟩ := List.mem_map.mp hd
          obtain ⟨t, ht⟩ := lk_some ((sortS_perm (keys B)).mem_iff.mp hx)
          have e : lkD (dB B) (.str x) = some t.d := by rw [lk_dB, ht]; rfl
          have hsz : 2 ≤ sizeLine := by decide
          simp [fnF, slots0, sSeq, sIf, tst, tNotX, tAndX, tOrX, op2, op1, eV, eFz, eC, fz, Res.get, owAt, sRet, sRetN, sNil, sDrop, sAsg, sAsgG, okSet, gN, gT, gNs, endF, outsOf, eGet, toKey, eTup, eLst, aNil, aCons, ims, eCB, getAll, eMu, isLst, setC, eCall, toSVs, toSV, bos, putBack, List.set_cons_zero, List.set_cons_succ, eDic0, eDisp, evPairs, mergeD, ixA, ixD, L2.atI, L2.ixN, fe_unified_1, e, pr, ht, hsz]) (by rw [List.length_map, sortS_len]; unfold keys; rw [List.length_map]; exact Nat.le_trans (Nat.le_of_lt (show B.length < 64 by omega)) (by decide))
    have e3 : ((sortS (keys B)).map D.str).map (fun d => match d with
        | .str x => pr (x, (lk B x).getD (.var x))
        | _ => .non) = (acts B).map pr := by
      unfold acts
      rw [List.map_map, List.map_map]
      rfl
    rw [e3] at e2
    refine (fnF_rt (r := .im (.tup ((acts B).map pr))) (s := [some (.im (.tup (as.map T.d))), some (.im (.tup (bs.map T.d))), some (.im (.dic (dB B))), none]) rfl ?_).trans rfl
    rw [sSeq_nx e1, sSeq_nx (s' := [some (.im (.tup (as.map T.d))), some (.im (.tup (bs.map T.d))), some (.im (.dic (dB B))), none]) (by simp [fnF, slots0, sSeq, sIf, tst, tNotX, tAndX, tOrX, op2, op1, eV, eFz, eC, fz, Res.get, owAt, sRet, sRetN, sNil, sDrop, sAsg, sAsgG, okSet, gN, gT, gNs, endF, outsOf, eGet, toKey, eTup, eLst, aNil, aCons, ims, eCB, getAll, eMu, isLst, setC, eCall, toSVs, toSV, bos, putBack, List.set_cons_zero, List.set_cons_succ, eDic0, eDisp, evPairs, mergeD, ixA, ixD, L2.atI, L2.ixN, isND])]
    refine sRet_of ?_
    simp [fnF, slots0, sSeq, sIf, tst, tNotX, tAndX, tOrX, op2, op1, eV, eFz, eC, fz, Res.get, owAt, sRet, sRetN, sNil, sDrop, sAsg, sAsgG, okSet, gN, gT, gNs, endF, outsOf, eGet, toKey, eTup, eLst, aNil, aCons, ims, eCB, getAll, eMu, isLst, setC, eCall, toSVs, toSV, bos, putBack, List.set_cons_zero, List.set_cons_succ, eDic0, eDisp, evPairs, mergeD, ixA, ixD, L2.atI, L2.ixN, e2, gTuple]
theorem pl_pair {x : Str} (h : PyData.strOk x = true) : pl 60 (.tup [.str "var", .str x]) = true := T.pl_d (t := .var x) h 58
/-- the law's put: over a list or a tuple of pairs -/
theorem law_put_ok {t : T} {ms : Bd} (ht : t.ok = true) (hm : ∀ p ∈ ms, PyData.strOk p.1 = true) {m : D} (h : m = .lst (ms.map pr) ∨ m = .tup (ms.map pr)) : F__law_put [.im t.d, .im m] = some (.im (put ms t).d, []) := by
  have hit : itA (eFz 1) [some (.im t.d), some (.im m), none] = some (ms.map pr, [some (.im t.d), some (.im m), none]) := by
    rcases h with rfl | rfl <;> rfl
  obtain ⟨o, e, q⟩ := sForI (fi := itA (eFz 1)) (g := gN 2) (b := bl__law_put_1) hit
    (fun done s => ∃ (pre : Bd) (x0 : Option SV), done = pre.map pr ∧ (∃ post, ms = pre ++ post) ∧ (∀ p ∈ pre, t ≠ .var p.1) ∧ s = [some (.im t.d), some (.im m), x0] ∧ (x0 = none ∨ ∃ x, x0 = some (.im x)))
    (fun r s => r = .im (put ms t).d) ⟨[], none, rfl, ⟨ms, rfl⟩, (fun p hp => by cases hp), rfl, .inl rfl⟩ (fun done d rest s hd hI => by
      obtain ⟨pre, x0, rfl, ⟨post, hpost⟩, hpre, rfl, hx⟩ := hI
      cases post with
      | nil =>
        rw [hpost, List.append_nil] at hd
        have := congrArg List.length hd
        simp at this
      | cons p post =>
        obtain ⟨x, s⟩ := p
        have hd2 : d = pr (x, s) := by
          rw [hpost, List.map_append, List.append_cancel_left_eq, List.map_cons] at hd
          exact (List.cons.inj hd).1.symm
        subst hd2
        have hxs := hm (x, s) (by rw [hpost]; exact List.mem_append_right _ List.mem_cons_self)
        have eg : gN 2 (pr (x, s)) [some (.im t.d), some (.im m), x0] = some [some (.im t.d), some (.im m), some (.im (pr (x, s)))] := by
          rcases hx with rfl | ⟨x, rfl⟩ <;> rfl
        have hsz : 2 ≤ sizeLine := by decide
        have ec : (tst (op2 eqD (eV 0) (eTup (aCons (eC (.str "var")) (aCons (fz (op2 ixA (eV 2) (eC (.int 0)))) aNil))))) [some (.im t.d), some (.im m), some (.im (pr (x, s)))] = some (decide (t = .var x), [some (.im t.d), some (.im m), some (.im (pr (x, s)))]) := by
          have e := eqD_T ht (r := .var x) hxs
          have e' : eqD t.d (.tup [.str "var", .str x]) = some (.im (.bl (decide (t = .var x)))) := e
          simp [fnF, slots0, sSeq, sIf, tst, tNotX, tAndX, tOrX, op2, op1, eV, eFz, eC, fz, Res.get, owAt, sRet, sRetN, sNil, sDrop, sAsg, sAsgG, okSet, gN, gT, gNs, endF, outsOf, eGet, toKey, eTup, eLst, aNil, aCons, ims, eCB, getAll, eMu, isLst, setC, eCall, toSVs, toSV, bos, putBack, List.set_cons_zero, List.set_cons_succ, eDic0, eDisp, evPairs, mergeD, ixA, ixD, L2.atI, L2.ixN, pr, e', hsz]
        by_cases hx2 : t = .var x
        · subst hx2
          refine ⟨_, .rt (.im s.d) [some (.im (T.var x).d), some (.im m), some (.im (pr (x, s)))], eg, ?_, ?_⟩
          · unfold bl__law_put_1
            rw [sIf_t (by rw [ec, decide_eq_true rfl])]
            exact sRet_of (by simp [fnF, slots0, sSeq, sIf, tst, tNotX, tAndX, tOrX, op2, op1, eV, eFz, eC, fz, Res.get, owAt, sRet, sRetN, sNil, sDrop, sAsg, sAsgG, okSet, gN, gT, gNs, endF, outsOf, eGet, toKey, eTup, eLst, aNil, aCons, ims, eCB, getAll, eMu, isLst, setC, eCall, toSVs, toSV, bos, putBack, List.set_cons_zero, List.set_cons_succ, eDic0, eDisp, evPairs, mergeD, ixA, ixD, L2.atI, L2.ixN, pr])
          · show Res.im s.d = .im (put ms (.var x)).d
            have key : ∀ (l : Bd), (∀ p ∈ l, T.var x ≠ .var p.1) → ∀ r, lk (l ++ (x, s) :: r) x = some s := by
              intro l
              induction l with
              | nil => intro _ r; show (if x = x then some s else lk r x) = some s; rw [if_pos rfl]
              | cons q l ih =>
                intro hq r
                show (if q.1 = x then some q.2 else lk (l ++ (x, s) :: r) x) = some s
                rw [if_neg fun z => hq q List.mem_cons_self (by rw [z])]
                exact ih (fun p hp => hq p (List.mem_cons_of_mem _ hp)) r
            rw [put_var, hpost, key pre hpre post]
            rfl
        · refine ⟨_, .nx [some (.im t.d), some (.im m), some (.im (pr (x, s)))], eg, ?_, pre ++ [(x, s)], some (.im (pr (x, s))), by rw [List.map_append]; rfl, ⟨post, by rw [hpost]; simp⟩, fun p hp => ?_, rfl, .inr ⟨_, rfl⟩⟩
          · unfold bl__law_put_1
            rw [sIf_f (by rw [ec, decide_eq_false hx2])]
            rfl
          · rcases List.mem_append.mp hp with z | z
            · exact hpre p z
            · rw [List.mem_singleton.mp z]
              exact hx2)
  unfold F__law_put b__law_put
  cases o with
  | nx s2 =>
    obtain ⟨pre, x0, h1, ⟨post, hpost⟩, hpre, rfl, hx⟩ := q
    have hpost' : post = [] := by
      have := congrArg List.length h1
      have h2 := congrArg List.length hpost
      rw [List.length_append] at h2
      simp only [List.length_map] at this
      exact List.length_eq_zero_iff.mp (by omega)
    subst hpost'
    rw [List.append_nil] at hpost
    subst hpost
    have ep : put ms t = t := by
      cases t with
      | val v => rfl
      | var x =>
        rw [put_var]
        cases el : lk ms x with
        | none => rfl
        | some s => exact absurd rfl (hpre _ (lk_mem el))
    rw [ep]
    refine (fnF_rt (r := .im t.d) (s := [some (.im t.d), some (.im m), x0]) rfl ?_).trans rfl
    exact (sSeq_nx (s := slots0 3 [.im t.d, .im m]) e).trans (sRet_of rfl)
  | rt r s =>
    have q' : r = .im (put ms t).d := q
    subst q'
    refine (fnF_rt (r := .im (put ms t).d) (s := s) rfl ?_).trans rfl
    exact sSeq_rt (s := slots0 3 [.im t.d, .im m]) e
  | bk s => exact q.elim
  | ct s => exact q.elim
end G.k97

set_option Elab.async false
set_option linter.all false
set_option maxRecDepth 100000
/-! L97e: rows, valuations_of. -/
namespace G.k97
open PySem PySem.Spec PyProof.Rows L2 G
theorem ilist_map {α : Type} {xs : List α} {f : α → D} {h : D → D} (hh : ∀ (k : Nat) x, xs[k]? = some x → h (.int k) = f x) : (ilist 0 xs.length).map h = xs.map f := by
  apply List.ext_getElem?
  intro j
  unfold ilist
  rw [List.map_map, List.getElem?_map, List.getElem?_map]
  rcases Nat.lt_or_ge j xs.length with q | q
  · rw [List.getElem?_range q, List.getElem?_eq_getElem q]
    show some (h (.int (0 + (j : Int)))) = some (f xs[j])
    rw [Int.zero_add, hh j _ (List.getElem?_eq_getElem q)]
  · rw [List.getElem?_eq_none (by simpa using q), List.getElem?_eq_none q]
    rfl
theorem mem_ilist {n : Nat} {d : D} (h : d ∈ ilist 0 n) : ∃ k : Nat, k < n ∧ d = .int k := by
  obtain ⟨k, hk, rfl⟩ := List.mem_map.mp h
  exact ⟨k, List.mem_range.mp hk, by rw [Int.zero_add]⟩
def zB (names : List Str) (vals : List D) : Bd := names.zip (vals.map T.val)
def rowOf (names : List Str) (vals : List D) (t : T) : D := (put (zB names vals) t).snd
theorem zB_get {names : List Str} {vals : List D} {k : Nat} {p : Str × T} (h : (zB names vals)[k]? = some p) : ∃ v, (names.map D.str)[k]? = some (.str p.1) ∧ vals[k]? = some v ∧ p.2 = .val v := by
  obtain ⟨h1, h2⟩ := List.getElem?_zip_eq_some.mp h
  rw [List.getElem?_map] at h2
  cases e : vals[k]? with
  | none => rw [e] at h2; cases h2
  | some v =>
    rw [e] at h2
    exact ⟨v, by rw [List.getElem?_map, h1]; rfl, rfl, (Option.some.inj h2).symm⟩
theorem rows_ok {ts : List T} {names : List Str} {vals : List D} (ht : ∀ t ∈ ts, t.ok = true) (hn : ∀ x ∈ names, PyData.strOk x = true) (hl : vals.length = names.length) (h1 : ts.length ≤ sizeLine) (h2 : names.length ≤ sizeLine) {m : D}
    (hm : m = .lst (ts.map T.d) ∨ m = .tup (ts.map T.d)) : F__law_rows [.im m, .im (.lst (names.map D.str)), .im (.lst vals)] = some (.fr (.lst (ts.map (rowOf names vals))), []) := by
  have hzl : (zB names vals).length = names.length := by unfold zB; rw [List.length_zip, List.length_map, hl, Nat.min_self]
  have inner : ∀ d : D, eLc [4] (itR1 (aCons (eCB gLen (aCons (eV 1) aNil)) aNil)) (gN 4) tTrue fe__law_rows_1 [some (.im m), some (.im (.lst (names.map D.str))), some (.im (.lst vals)), some (.im d), none] =
      some (.fr (.lst ((zB names vals).map pr)), [some (.im m), some (.im (.lst (names.map D.str))), some (.im (.lst vals)), some (.im d), none]) := fun d => by
    have e := eLcM (i := 4) (fi := itR1 (aCons (eCB gLen (aCons (eV 1) aNil)) aNil)) (fe := fe__law_rows_1) (f := fun d => match d with
        | .int k => (((zB names vals)[k.toNat]?).map pr).getD .non
        | _ => .non) (sd := [some (.im m), some (.im (.lst (names.map D.str))), some (.im (.lst vals)), some (.im d), none]) (s := [some (.im m), some (.im (.lst (names.map D.str))), some (.im (.lst vals)), some (.im d), none]) (ds := ilist 0 (zB names vals).length) (by
          refine itR1_nat ?_ (by rw [hzl]; exact h2)
          simp [fnF, slots0, sSeq, sIf, tst, tNotX, tAndX, tOrX, op2, op1, eV, eFz, eC, fz, Res.get, owAt, sRet, sRetN, sNil, sDrop, sAsg, sAsgG, okSet, gN, gT, gNs, endF, outsOf, eGet, toKey, eTup, eLst, aNil, aCons, ims, eCB, getAll, eMu, isLst, setC, eCall, toSVs, toSV, bos, putBack, List.set_cons_zero, List.set_cons_succ, eDic0, eDisp, evPairs, mergeD, ixA, ixD, L2.atI, L2.ixN, gLen, hzl]) rfl (fun d hd => by
          obtain ⟨k, hk, rfl⟩ := mem_ilist hd
          obtain ⟨v, g1, g2, g3⟩ := zB_get (List.getElem?_eq_getElem hk)
          have i1 := ixA_nat g1
          have i2 := ixA_nat g2
          have hsz : 2 ≤ sizeLine := by decide
          simp [fnF, slots0, sSeq, sIf, tst, tNotX, tAndX, tOrX, op2, op1, eV, eFz, eC, fz, Res.get, owAt, sRet, sRetN, sNil, sDrop, sAsg, sAsgG, okSet, gN, gT, gNs, endF, outsOf, eGet, toKey, eTup, eLst, aNil, aCons, ims, eCB, getAll, eMu, isLst, setC, eCall, toSVs, toSV, bos, putBack, List.set_cons_zero, List.set_cons_succ, eDic0, eDisp, evPairs, mergeD, fe__law_rows_1, i1, i2, hsz, List.getElem?_eq_getElem hk, pr, g3, T.d]) (by simp [ilist, hzl, h2])
    rw [ilist_map (f := pr) (fun k x hx => by simp [hx])] at e
    exact e
  have outer := eLcT (c := T.d) (i := 3) (fi := itA (eFz 0)) (fe := fe__law_rows_2) (f := rowOf names vals) (sd := [some (.im m), some (.im (.lst (names.map D.str))), some (.im (.lst vals)), none, none]) (s := [some (.im m), some (.im (.lst (names.map D.str))), some (.im (.lst vals)), none, none]) (xs := ts) (by rcases hm with rfl | rfl <;> rfl) rfl (fun t htm => by
      have hp := law_put_ok (t := t) (ms := zB names vals) (ht t htm) (fun p hp => hn _ (List.of_mem_zip hp).1) (.inl rfl)
      have hc := eCall_im (F := F__law_put) (aCons_of (f := eFz 3) (r := .im t.d) (s := [some (.im m), some (.im (.lst (names.map D.str))), some (.im (.lst vals)), some (.im t.d), none]) rfl (aCons_of (g := aNil) (rs := []) (fz_fr (inner t.d)) rfl)) rfl List.nodup_nil hp
      exact fz_im (op2_of hc rfl rfl rfl (T.snd_d _))) h1
  refine (fnF_rt (r := .fr (.lst (ts.map (rowOf names vals)))) (s := [some (.im m), some (.im (.lst (names.map D.str))), some (.im (.lst vals)), none, none]) rfl (sRet_of outer)).trans rfl
/-! ### valuations -/
def grow (rows : List (List D)) (pool : List D) : List (List D) := rows.flatMap fun r => pool.map fun v => r ++ [v]
def valsN (pool : List D) : Nat → List (List D)
  | 0 => [[]]
  | n + 1 => grow (valsN pool n) pool
theorem grow_len (rows : List (List D)) (pool : List D) : (grow rows pool).length = rows.length * pool.length := by
  unfold grow
  induction rows with
  | nil => simp
  | cons r rs ih => rw [List.flatMap_cons, List.length_append, ih, List.length_map, List.length_cons, Nat.succ_mul, Nat.add_comm]
theorem valsN_len (pool : List D) : ∀ n, (valsN pool n).length = pool.length ^ n
  | 0 => rfl
  | n + 1 => by rw [valsN, grow_len, valsN_len pool n, Nat.pow_succ]
theorem mem_valsN {pool : List D} : ∀ {n : Nat} {row : List D}, row ∈ valsN pool n ↔ row.length = n ∧ ∀ v ∈ row, v ∈ pool
  | 0, row => by
    constructor
    · intro h
      rw [List.mem_singleton.mp h]
      exact ⟨rfl, fun v hv => by cases hv⟩
    · rintro ⟨h, _⟩
      rw [List.length_eq_zero_iff.mp h]
      exact List.mem_singleton.mpr rfl
  | n + 1, row => by
    constructor
    · intro h
      obtain ⟨r, hr, h2⟩ := List.mem_flatMap.mp h
      obtain ⟨v, hv, rfl⟩ := List.mem_map.mp h2
      obtain ⟨k1, k2⟩ := mem_valsN.mp hr
      refine ⟨by rw [List.length_append, k1]; rfl, fun w hw => ?_⟩
      rcases List.mem_append.mp hw with z | z
      · exact k2 w z
      · rw [List.mem_singleton.mp z]; exact hv
    · rintro ⟨h1, h2⟩
      have hne : row ≠ [] := fun z => by rw [z] at h1; cases h1
      have e := List.dropLast_concat_getLast hne
      refine List.mem_flatMap.mpr ⟨row.dropLast, mem_valsN.mpr ⟨by rw [List.length_dropLast, h1]; rfl, fun v hv => h2 v ((List.dropLast_sublist row).subset hv)⟩, List.mem_map.mpr ⟨row.getLast hne, h2 _ (List.getLast_mem hne), e⟩⟩
theorem valuations_ok {names : List Str} {pool : List D} (h1 : names.length ≤ 4) (h2 : pool.length ≤ 4) : F__law_valuations_of [.im (.lst (names.map D.str)), .im (.lst pool)] = some (.im (.lst ((valsN pool names.length).map D.lst)), []) := by
  have small : ∀ n, n ≤ 4 → (valsN pool n).length ≤ 256 := fun n hn => by
    rw [valsN_len]
    calc pool.length ^ n ≤ 4 ^ n := Nat.pow_le_pow_left h2 n
      _ ≤ 4 ^ 4 := Nat.pow_le_pow_right (by decide) hn
  have hbig : 1024 ≤ sizeLine := by decide
  let P : D := .lst (names.map D.str)
  let L : D := .lst pool
  -- one row grown
  have step : ∀ (x : D) (rows : List (List D)) (g : List (List D)) (r : List D) (f : D), r.length ≤ 4 → g.length ≤ 1020 → ∀ y : Option SV, Fr y →
      bl__law_valuations_of_2 [some (.im P), some (.im L), some (.im f), some (.im x), some (.im (.lst (g.map D.lst))), some (.im (.lst r)), none] = some (.nx [some (.im P), some (.im L), some (.im f), some (.im x), some (.im (.lst ((g ++ pool.map fun v => r ++ [v]).map D.lst))), some (.im (.lst r)), none]) := by
    intro x rows g r f hr hg y hy
    have e := eLcT (c := id) (i := 6) (fi := itA (eFz 1)) (fe := fe__law_valuations_of_1) (f := fun v => .lst (r ++ [v])) (sd := [some (.im P), some (.im L), some (.im f), some (.im x), some (.im (.lst (g.map D.lst))), some (.im (.lst r)), none]) (s := [some (.im P), some (.im L), some (.im f), some (.im x), some (.im (.lst (g.map D.lst))), some (.im (.lst r)), none]) (xs := pool) (by rw [List.map_id]; rfl) rfl (fun v hv => by
      have hz1 : 1 ≤ sizeLine := by decide
      have hz2 : r.length + 1 ≤ sizeLine := by omega
      simp [fnF, slots0, sSeq, sIf, tst, tNotX, tAndX, tOrX, op2, op1, eV, eFz, eC, fz, Res.get, owAt, sRet, sRetN, sNil, sDrop, sAsg, sAsgG, okSet, gN, gT, gNs, endF, outsOf, eGet, toKey, eTup, eLst, aNil, aCons, ims, eCB, getAll, eMu, isLst, setC, eCall, toSVs, toSV, bos, putBack, List.set_cons_zero, List.set_cons_succ, eDic0, eDisp, evPairs, mergeD, ixA, ixD, L2.atI, L2.ixN, fe__law_valuations_of_1, addD, hz1, hz2]) (by omega)
    have hz : (g.map D.lst).length + (pool.map fun v => D.lst (r ++ [v])).length ≤ sizeLine := by rw [List.length_map, List.length_map]; omega
    unfold bl__law_valuations_of_2
    refine sAsg_im (s' := [some (.im P), some (.im L), some (.im f), some (.im x), some (.im (.lst (g.map D.lst))), some (.im (.lst r)), none]) (d := .lst ((g ++ pool.map fun v => r ++ [v]).map D.lst)) (fz_fr (op2_of rfl e rfl rfl ?_)) rfl
    rw [addD_lst hz, List.map_append, List.map_map]
    rfl
  -- one name
  have inner : ∀ (x : D) (rows : List (List D)), (∀ r ∈ rows, r.length ≤ 4) → rows.length ≤ 255 → ∀ g y : Option SV, Fr g → Fr y → ∃ y', Fr y' ∧
      bl__law_valuations_of_3 [some (.im P), some (.im L), some (.im (.lst (rows.map D.lst))), some (.im x), g, y, none] = some (.nx [some (.im P), some (.im L), some (.im (.lst ((grow rows pool).map D.lst))), some (.im x), some (.im (.lst ((grow rows pool).map D.lst))), y', none]) := by
    intro x rows hr hl g y hg hy
    have e0 : (sAsg 4 (fz (eLst aNil))) [some (.im P), some (.im L), some (.im (.lst (rows.map D.lst))), some (.im x), g, y, none] = some (.nx [some (.im P), some (.im L), some (.im (.lst (rows.map D.lst))), some (.im x), some (.im (.lst [])), y, none]) := by
      rcases hg with rfl | ⟨g, rfl⟩ <;> rfl
    obtain ⟨o, e, q⟩ := sForM (f := D.lst) (xs := rows) (fi := itA (eFz 2)) (g := gN 5) (b := bl__law_valuations_of_2) (sd := [some (.im P), some (.im L), some (.im (.lst (rows.map D.lst))), some (.im x), some (.im (.lst [])), y, none]) rfl
      (fun pre s => ∃ y, Fr y ∧ s = [some (.im P), some (.im L), some (.im (.lst (rows.map D.lst))), some (.im x), some (.im (.lst ((grow pre pool).map D.lst))), y, none]) (fun _ _ => False) ⟨y, hy, rfl⟩ (fun pre r post s hp ⟨y, hy, hs⟩ => by
        subst hs
        have hrm : r ∈ rows := by rw [hp]; exact List.mem_append_right _ List.mem_cons_self
        have hpl : pre.length ≤ 255 := by
          have := congrArg List.length hp
          rw [List.length_append] at this
          omega
        have hgl : (grow pre pool).length ≤ 1020 := by
          rw [grow_len]
          exact Nat.le_trans (Nat.mul_le_mul hpl h2) (by decide)
        refine ⟨[some (.im P), some (.im L), some (.im (.lst (rows.map D.lst))), some (.im x), some (.im (.lst ((grow pre pool).map D.lst))), some (.im (.lst r)), none], _, ?_, step x rows (grow pre pool) r _ (hr r hrm) hgl y hy, some (.im (.lst r)), Fr.im, ?_⟩
        · rcases hy with rfl | ⟨y, rfl⟩ <;> rfl
        · have eg : grow (pre ++ [r]) pool = grow pre pool ++ pool.map fun v => r ++ [v] := by
            unfold grow
            rw [List.flatMap_append]
            simp
          rw [eg])
    cases o with
    | nx s2 =>
      obtain ⟨y', hy', rfl⟩ := q
      refine ⟨y', hy', ?_⟩
      unfold bl__law_valuations_of_3
      rw [sSeq_nx e0, sSeq_nx e]
      exact sAsg_im (d := .lst ((grow rows pool).map D.lst)) (s' := [some (.im P), some (.im L), some (.im (.lst (rows.map D.lst))), some (.im x), some (.im (.lst ((grow rows pool).map D.lst))), y', none]) rfl rfl
    | rt r s => exact q.elim
    | bk s => exact q.elim
    | ct s => exact q.elim
  have e0 : (sAsg 2 (fz (eLst (aCons (fz (eLst aNil)) aNil)))) (slots0 7 [.im P, .im L]) = some (.nx [some (.im P), some (.im L), some (.im (.lst [.lst []])), none, none, none, none]) := by
    have hz : 1 ≤ sizeLine := by decide
    simp [fnF, slots0, sSeq, sIf, tst, tNotX, tAndX, tOrX, op2, op1, eV, eFz, eC, fz, Res.get, owAt, sRet, sRetN, sNil, sDrop, sAsg, sAsgG, okSet, gN, gT, gNs, endF, outsOf, eGet, toKey, eTup, eLst, aNil, aCons, ims, eCB, getAll, eMu, isLst, setC, eCall, toSVs, toSV, bos, putBack, List.set_cons_zero, List.set_cons_succ, eDic0, eDisp, evPairs, mergeD, ixA, ixD, L2.atI, L2.ixN, hz]
  obtain ⟨o, e, q⟩ := sForM (f := D.str) (xs := names) (fi := itA (eFz 0)) (g := gN 3) (b := bl__law_valuations_of_3) (sd := [some (.im P), some (.im L), some (.im (.lst [.lst []])), none, none, none, none]) rfl
    (fun pre s => ∃ x g y, Fr x ∧ Fr g ∧ Fr y ∧ s = [some (.im P), some (.im L), some (.im (.lst ((valsN pool pre.length).map D.lst))), x, g, y, none]) (fun _ _ => False) ⟨none, none, none, .non, .non, .non, rfl⟩ (fun pre x post s hp ⟨x0, g, y, hx, hg, hy, hs⟩ => by
      subst hs
      have hpl : pre.length ≤ 3 := by
        have := congrArg List.length hp
        rw [List.length_append, List.length_cons] at this
        omega
      have hv : (valsN pool pre.length).length ≤ 255 := by
        rw [valsN_len]
        calc pool.length ^ pre.length ≤ 4 ^ pre.length := Nat.pow_le_pow_left h2 _
          _ ≤ 4 ^ 3 := Nat.pow_le_pow_right (by decide) hpl
          _ ≤ 255 := by decide
      obtain ⟨y', hy', e⟩ := inner (.str x) (valsN pool pre.length) (fun r hr => by have := (mem_valsN.mp hr).1; omega) hv g y hg hy
      refine ⟨[some (.im P), some (.im L), some (.im (.lst ((valsN pool pre.length).map D.lst))), some (.im (.str x)), g, y, none], _, ?_, e, some (.im (.str x)), some (.im (.lst ((grow (valsN pool pre.length) pool).map D.lst))), y', Fr.im, Fr.im, hy', ?_⟩
      · rcases hx with rfl | ⟨x, rfl⟩ <;> rfl
      · rw [List.length_append]
        rfl)
  unfold F__law_valuations_of b__law_valuations_of
  cases o with
  | nx s2 =>
    obtain ⟨x, g, y, hx, hg, hy, rfl⟩ := q
    refine (fnF_rt (r := .im (.lst ((valsN pool names.length).map D.lst))) (s := [some (.im P), some (.im L), some (.im (.lst ((valsN pool names.length).map D.lst))), x, g, y, none]) rfl ?_).trans rfl
    exact (sSeq_nx e0).trans ((sSeq_nx e).trans (sRet_of rfl))
  | rt r s => exact q.elim
  | bk s => exact q.elim
  | ct s => exact q.elim
end G.k97

set_option Elab.async false
set_option linter.all false
set_option maxRecDepth 100000
/-! L97f: the draws. -/
namespace G.k97
open PySem PySem.Spec PyProof.Rows L2 G
abbrev dI (is : List Int) : D := .lst (is.map D.int)
theorem eq_ii (i j : Int) : eqD (.int i) (.int j) = some (.im (.bl (decide (i = j)))) := by
  rw [eqD_pl rfl rfl]
  simp
theorem modD_pos {x : Int} {m : Nat} (h : 0 < m) : modD (.int x) (.int m) = some (.im (.int ((x % m).toNat : Nat))) := by
  have h' : (0 : Int) < m := by omega
  have e : ((x % m).toNat : Int) = x % m := Int.toNat_of_nonneg (Int.emod_nonneg _ (by omega))
  show (if cMod x m = true then _ else none) = _
  rw [if_pos (show cMod x m = true from decide_eq_true h'), e]
theorem mod_lt {x : Int} {m : Nat} (h : 0 < m) : (x % m).toNat < m := by
  have := Int.emod_lt_of_pos x (show (0 : Int) < m by omega)
  have := Int.emod_nonneg x (show (m : Int) ≠ 0 by omega)
  omega
theorem take_ok (is : List Int) {m : Nat} (hm : 0 < m) : ∃ (r : Nat) (is' : List Int), r < m ∧ F__law_take [.ow true (dI is), .im (.int m)] = some (.im (.int r), [dI is']) := by
  unfold F__law_take b__law_take
  have hlen : ∀ is : List Int, (tst (op2 eqD (eCB gLen (aCons (eV 0) aNil)) (eC (.int 0)))) [some (.ow true (dI is)), some (.im (.int m))] = some (decide ((is.length : Int) = 0), [some (.ow true (dI is)), some (.im (.int m))]) := fun is => by
    refine tst_of (op2_of (da := .int is.length) (eCB_of (rs := [.bo 0]) (ds := [dI is]) (o := .im (.int is.length)) rfl rfl ?_) rfl rfl rfl (eq_ii _ _))
    show some (Res.im (.int ((is.map D.int).length : Nat))) = _
    rw [List.length_map]
  rcases List.eq_nil_or_concat is with rfl | ⟨js, x, rfl⟩
  · refine ⟨0, [], hm, (fnF_rt (r := .im (.int 0)) (s := [some (.ow true (dI [])), some (.im (.int m))]) rfl ?_).trans rfl⟩
    exact sSeq_rt (by
      show sIf _ _ _ [some (.ow true (dI [])), some (.im (.int m))] = _
      rw [sIf_t (s' := [some (.ow true (dI [])), some (.im (.int m))]) (hlen [])]; rfl)
  · rw [List.concat_eq_append]
    refine ⟨(x % m).toNat, js, mod_lt hm, (fnF_rt (r := .im (.int ((x % m).toNat : Nat))) (s := [some (.ow true (dI js)), some (.im (.int m))]) rfl ?_).trans rfl⟩
    have hne : decide ((((js ++ [x]).length : Nat) : Int) = 0) = false := decide_eq_false (by rw [List.length_append, List.length_singleton]; omega)
    rw [sSeq_nx (s := slots0 2 [.ow true (dI (js ++ [x])), .im (.int m)]) (s' := [some (.ow true (dI (js ++ [x]))), some (.im (.int m))]) (by
      show sIf _ _ _ [some (.ow true (dI (js ++ [x]))), some (.im (.int m))] = _
      rw [sIf_f (by rw [hlen, hne])]; rfl)]
    refine sRet_of (op2_of (da := .int x) (eCB_of (rs := [.im (.int x)]) (s1 := [some (.ow true (dI js)), some (.im (.int m))]) (aCons_of (g := aNil) (rs := []) (eMu_of (c0 := dI (js ++ [x])) (c := dI (js ++ [x])) (c' := dI js) (rs := []) (ds := []) (f := aNil) (s1 := [some (.ow true (dI (js ++ [x]))), some (.im (.int m))]) rfl rfl rfl rfl rfl ?_) rfl) rfl rfl) rfl rfl rfl (modD_pos hm))
    show ((((js ++ [x]).map D.int)[((js ++ [x]).map D.int).length - 1]?).map fun y => (Res.im y, D.lst ((js ++ [x]).map D.int).dropLast)) = _
    rw [List.map_append, List.length_append]
    simp
theorem call_take {s : Slots} {i m : Nat} {b : Bool} {is : List Int} {fa : EX} (h : s[i]? = some (some (.ow b (dI is)))) (hf : fa s = some (.im (.int m), s)) (hm : 0 < m) :
    ∃ (r : Nat) (is' : List Int), r < m ∧ eCall F__law_take (aCons (eV i) (aCons fa aNil)) s = some (.im (.int r), s.set i (some (.ow b (dI is')))) := by
  obtain ⟨r, is', hr, e⟩ := take_ok is hm
  refine ⟨r, is', hr, ?_⟩
  have ev : eV i s = some (.bo i, s) := by unfold eV; rw [h]
  have eo : owAt s i = some (dI is) := by unfold owAt; rw [h]
  have e1 := eCall_im (F := F__law_take) (f := aCons (eV i) (aCons fa aNil)) (s := s) (s' := s) (rs := [.bo i, .im (.int m)]) (as := [.ow true (dI is), .im (.int m)]) (aCons_of ev (aCons_of (g := aNil) (rs := []) hf rfl)) (by simp [toSVs, toSV, eo]) (by simp [bos]) e
  rw [e1]
  simp [putBack, setC, h]
theorem dI_get {is : List Int} {k : Nat} (h : k < is.length) : (is.map D.int)[k]? = some (.int is[k]) := by
  rw [List.getElem?_map, List.getElem?_eq_getElem h]
  rfl
abbrev dS (S : D) (cells rest out : List Int) (k : Nat) (x6 x7 : Option SV) : Slots := [some (.im S), some (.im (.int 120)), some (.ow false (dI cells)), some (.ow false (dI rest)), some (.ow false (dI out)), some (.im (.int k)), x6, x7, none]
theorem mulD_of {i j : Int} (h : cMul i j = true) : mulD (.int i) (.int j) = some (.im (.int (i * j))) := by
  show (if cMul i j = true then _ else none) = _
  rw [if_pos h]
theorem cMul_r {i j : Int} (h1 : -1000000000000 < j) (h2 : j < 1000000000000) : cMul i j = true := by
  unfold cMul
  rw [Bool.or_eq_true]
  exact .inr (decide_eq_true ⟨by omega, by omega⟩)
theorem divD_of {i j : Int} (h1 : 0 < j) (h2 : j < 1073741824) : divD (.int i) (.int j) = some (.im (.int (i / j))) := by
  show (if cDiv i j = true then _ else none) = _
  rw [if_pos (show cDiv i j = true from decide_eq_true ⟨h1, h2⟩)]
theorem ixN_nat {n k : Nat} (h : k < n) : L2.ixN n (k : Int) = some k := by
  unfold L2.ixN
  rw [if_pos (by omega), if_pos (by omega)]
  simp
/-- one turn of the draws' loop -/
theorem draw_step {S : D} {cells rest out : List Int} {k : Nat} (hc : cells ≠ []) (hr : rest.length = cells.length) (ho : out.length < 1000) {x6 x7 : Option SV} (h6 : Fr x6) (h7 : Fr x7) : ∃ rest' out' x6' x7', rest'.length = cells.length ∧ out'.length = out.length + 1 ∧ Fr x6' ∧ Fr x7' ∧
    bl__law_draws_2 (dS S cells rest out k x6 x7) = some (.nx (dS S cells rest' out' k x6' x7')) := by
  have hn : 0 < cells.length := List.length_pos_iff.mpr hc
  have hk : k % cells.length < cells.length := Nat.mod_lt _ hn
  have hk2 : k % cells.length < rest.length := by rw [hr]; exact hk
  have e1 : (sAsg 6 (fz (op2 modD (eV 5) (eCB gLen (aCons (eV 2) aNil))))) (dS S cells rest out k x6 x7) = some (.nx (dS S cells rest out k (some (.im (.int (k % cells.length : Nat)))) x7)) := by
    refine sAsg_im (d := .int (k % cells.length : Nat)) (s' := dS S cells rest out k x6 x7) (fz_im (op2_of (db := .int cells.length) rfl (eCB_of (rs := [.bo 2]) (ds := [dI cells]) (o := .im (.int cells.length)) rfl rfl ?_) rfl rfl ?_)) ?_
    · show some (Res.im (.int ((cells.map D.int).length : Nat))) = _
      rw [List.length_map]
    · rw [modD_pos hn]
      congr 4
    · rcases h6 with rfl | ⟨_, rfl⟩ <;> rfl
  have ix2 : ∀ x7, op2 ixA (eV 2) (eV 6) (dS S cells rest out k (some (.im (.int (k % cells.length : Nat)))) x7) = some (.im (.int cells[k % cells.length]), dS S cells rest out k (some (.im (.int (k % cells.length : Nat)))) x7) := fun x7 =>
    op2_of (ra := .bo 2) (rb := .im (.int (k % cells.length : Nat))) (da := dI cells) rfl rfl rfl rfl (ixA_nat (dI_get hk))
  have ix3 : ∀ out x7, op2 ixA (eV 3) (eV 6) (dS S cells rest out k (some (.im (.int (k % cells.length : Nat)))) x7) = some (.im (.int rest[k % cells.length]), dS S cells rest out k (some (.im (.int (k % cells.length : Nat)))) x7) := fun out x7 =>
    op2_of (ra := .bo 3) (rb := .im (.int (k % cells.length : Nat))) (da := dI rest) rfl rfl rfl rfl (ixA_nat (dI_get hk2))
  have hbig : 1000 ≤ sizeLine := by decide
  have app : ∀ (v : Int) (f : EX) (x6 x7 : Option SV), f (dS S cells rest out k x6 x7) = some (.im (.int v), dS S cells rest out k x6 x7) →
      (sDrop (eMu isLst muAppend 4 (aCons (fz f) aNil))) (dS S cells rest out k x6 x7) = some (.nx (dS S cells rest (out ++ [v]) k x6 x7)) := fun v f x6 x7 hf => by
    have e := sDrop_of (r := .im .non) (eMu_of (p := isLst) (g := muAppend) (i := 4) (c0 := dI out) (c := dI out) (c' := dI (out ++ [v])) (rs := [.im (.int v)]) (ds := [.int v]) (s := dS S cells rest out k x6 x7) (s1 := dS S cells rest out k x6 x7) rfl rfl (aCons_of (g := aNil) (rs := []) (fz_im hf) rfl) rfl rfl (o := .im .non) (by
      show (if (out.map D.int).length < sizeLine then some (Res.im D.non, D.lst (out.map D.int ++ [.int v])) else none) = _
      rw [if_pos (by rw [List.length_map]; omega), dI, List.map_append]
      rfl))
    exact e
  unfold bl__law_draws_2
  rw [sSeq_nx e1]
  by_cases hge : (10 : Int) ^ 18 ≤ cells[k % cells.length]
  · have ec : (tst (op2 geD (op2 ixA (eV 2) (eV 6)) (op2 powD (eC (.int 10)) (eC (.int 18))))) (dS S cells rest out k (some (.im (.int (k % cells.length : Nat)))) x7) = some (true, dS S cells rest out k (some (.im (.int (k % cells.length : Nat)))) x7) := by
      refine tst_of (op2_of (ix2 x7) (rb := .im (.int (10 ^ 18))) (db := .int (10 ^ 18)) rfl rfl rfl ?_)
      show some (Res.im (.bl (decide ((10 : Int) ^ 18 ≤ cells[k % cells.length])))) = _
      rw [decide_eq_true hge]
    rw [sIf_t ec]
    have ea := app (rest[k % cells.length] % 1000) (op2 modD (eCB gInt (aCons (op2 ixA (eV 3) (eV 6)) aNil)) (eC (.int 1000))) (some (.im (.int (k % cells.length : Nat)))) x7
      (op2_of (eCB_of (rs := [.im (.int rest[k % cells.length])]) (aCons_of (g := aNil) (rs := []) (ix3 out x7) rfl) rfl rfl) rfl rfl rfl rfl)
    rw [sSeq_nx ea]
    refine ⟨rest.set (k % cells.length) (rest[k % cells.length] / 1000), out ++ [rest[k % cells.length] % 1000], some (.im (.int (k % cells.length : Nat))), x7, by rw [List.length_set, hr], by rw [List.length_append]; rfl, Fr.im, h7, ?_⟩
    have ed : fz (op2 divD (op2 ixA (eV 3) (eV 6)) (eC (.int 1000))) (dS S cells rest (out ++ [rest[k % cells.length] % 1000]) k (some (.im (.int (k % cells.length : Nat)))) x7) = some (.im (.int (rest[k % cells.length] / 1000)), dS S cells rest (out ++ [rest[k % cells.length] % 1000]) k (some (.im (.int (k % cells.length : Nat)))) x7) :=
      fz_im (op2_of (ix3 _ x7) rfl rfl rfl (divD_of (by decide) (by decide)))
    have es : subSet (dI rest) (.int (k % cells.length : Nat)) (.int (rest[k % cells.length] / 1000)) = some (dI (rest.set (k % cells.length) (rest[k % cells.length] / 1000))) := by
      show (L2.ixN (rest.map D.int).length _).map _ = _
      rw [List.length_map, ixN_nat hk2]
      show some (D.lst ((rest.map D.int).set _ _)) = _
      rw [dI, List.map_set]
    unfold sSub
    simp only [ed, Option.bind_eq_bind, Option.bind_some]
    show (Option.bind (subSet (dI rest) (.int (k % cells.length : Nat)) (.int (rest[k % cells.length] / 1000))) _) = _
    rw [es]
    rfl
  · have ec : (tst (op2 geD (op2 ixA (eV 2) (eV 6)) (op2 powD (eC (.int 10)) (eC (.int 18))))) (dS S cells rest out k (some (.im (.int (k % cells.length : Nat)))) x7) = some (false, dS S cells rest out k (some (.im (.int (k % cells.length : Nat)))) x7) := by
      refine tst_of (op2_of (ix2 x7) (rb := .im (.int (10 ^ 18))) (db := .int (10 ^ 18)) rfl rfl rfl ?_)
      show some (Res.im (.bl (decide ((10 : Int) ^ 18 ≤ cells[k % cells.length])))) = _
      rw [decide_eq_false hge]
    rw [sIf_f ec]
    let mx : Int := (cells[k % cells.length] * 48271 + (k : Int) * 69621 + 11) % 2147483647
    have hmx : 0 ≤ mx ∧ mx < 2147483647 := ⟨Int.emod_nonneg _ (by decide), Int.emod_lt_of_pos _ (by decide)⟩
    have e7 : (sAsg 7 (fz (op2 modD (eCB gInt (aCons (op2 addD (op2 addD (op2 mulD (op2 ixA (eV 2) (eV 6)) (eC (.int 48271))) (op2 mulD (eV 5) (eC (.int 69621)))) (eC (.int 11))) aNil)) (eC (.int 2147483647))))) (dS S cells rest out k (some (.im (.int (k % cells.length : Nat)))) x7) = some (.nx (dS S cells rest out k (some (.im (.int (k % cells.length : Nat)))) (some (.im (.int mx))))) := by
      refine sAsg_im (d := .int mx) (s' := dS S cells rest out k (some (.im (.int (k % cells.length : Nat)))) x7) (fz_im (op2_of (eCB_of (rs := [.im (.int (cells[k % cells.length] * 48271 + (k : Int) * 69621 + 11))]) (aCons_of (g := aNil) (rs := [])
        (op2_of (op2_of (op2_of (ix2 x7) rfl rfl rfl (mulD_of (cMul_r (by decide) (by decide)))) (op2_of (ra := .im (.int k)) rfl rfl rfl rfl (mulD_of (cMul_r (by decide) (by decide)))) rfl rfl rfl) rfl rfl rfl rfl) rfl) rfl rfl) rfl rfl rfl rfl)) ?_
      rcases h7 with rfl | ⟨_, rfl⟩ <;> rfl
    rw [sSeq_nx e7]
    have ea := app ((mx * mx + 3 * mx + (k : Int)) % 1000003) (op2 modD (eCB gInt (aCons (op2 addD (op2 addD (op2 mulD (eV 7) (eV 7)) (op2 mulD (eC (.int 3)) (eV 7))) (eV 5)) aNil)) (eC (.int 1000003))) (some (.im (.int (k % cells.length : Nat)))) (some (.im (.int mx)))
      (op2_of (eCB_of (rs := [.im (.int (mx * mx + 3 * mx + (k : Int)))]) (aCons_of (g := aNil) (rs := []) (op2_of (op2_of (op2_of (ra := .im (.int mx)) (rb := .im (.int mx)) rfl rfl rfl rfl (mulD_of (cMul_r (by omega) (by omega)))) (op2_of (rb := .im (.int mx)) rfl rfl rfl rfl (mulD_of (cMul_r (by omega) (by omega)))) rfl rfl rfl) (rb := .im (.int k)) rfl rfl rfl rfl) rfl) rfl rfl) rfl rfl rfl rfl)
    exact ⟨rest, _, _, _, hr, by rw [List.length_append]; rfl, Fr.im, Fr.im, ea⟩
end G.k97

set_option Elab.async false
set_option linter.all false
set_option maxRecDepth 100000
/-! L97g: the draws as a whole; what is drawn. -/
namespace G.k97
open PySem PySem.Spec PyProof.Rows L2 G
theorem draws_ok {ns : List Int} (h : ns.length ≤ 63) : ∃ is : List Int, F__law_draws [.im (dI ns), .im (.int 120)] = some (.fr (dI is), []) := by
  have hbig : 1000 ≤ sizeLine := by decide
  have e0 := eLcT (c := D.int) (i := 8) (fi := itA (eFz 0)) (fe := fe__law_draws_1) (f := D.int) (sd := slots0 9 [.im (dI ns), .im (.int 120)]) (s := slots0 9 [.im (dI ns), .im (.int 120)]) (xs := ns) rfl rfl (fun x _ => rfl) (by omega)
  have e1 : sAsg 2 (eLc [8] (itA (eFz 0)) (gN 8) tTrue fe__law_draws_1) (slots0 9 [.im (dI ns), .im (.int 120)]) = some (.nx [some (.im (dI ns)), some (.im (.int 120)), some (.ow false (dI ns)), none, none, none, none, none, none]) := sAsg_fr e0 rfl
  have hlen : (tst (op2 eqD (eCB gLen (aCons (eV 2) aNil)) (eC (.int 0)))) [some (.im (dI ns)), some (.im (.int 120)), some (.ow false (dI ns)), none, none, none, none, none, none] = some (decide ((ns.length : Int) = 0), [some (.im (dI ns)), some (.im (.int 120)), some (.ow false (dI ns)), none, none, none, none, none, none]) := by
    refine tst_of (op2_of (da := .int ns.length) (eCB_of (rs := [.bo 2]) (ds := [dI ns]) (o := .im (.int ns.length)) rfl rfl ?_) rfl rfl rfl (eq_ii _ _))
    show some (Res.im (.int ((ns.map D.int).length : Nat))) = _
    rw [List.length_map]
  have e2 : ∃ cs : List Int, cs ≠ [] ∧ (sIf (tst (op2 eqD (eCB gLen (aCons (eV 2) aNil)) (eC (.int 0)))) (sDrop (eMu isLst muAppend 2 (aCons (eC (.int 0)) aNil))) sNil) [some (.im (dI ns)), some (.im (.int 120)), some (.ow false (dI ns)), none, none, none, none, none, none] =
      some (.nx [some (.im (dI ns)), some (.im (.int 120)), some (.ow false (dI cs)), none, none, none, none, none, none]) := by
    cases ns with
    | nil =>
      refine ⟨[0], by simp, ?_⟩
      rw [sIf_t hlen]
      rfl
    | cons x r =>
      refine ⟨x :: r, by simp, ?_⟩
      rw [sIf_f (hlen.trans (by rw [decide_eq_false (by rw [List.length_cons]; omega)]))]
      rfl
  obtain ⟨cs, hcs, e2⟩ := e2
  have e3 : sAsg 3 (eCB gList (aCons (eV 2) aNil)) [some (.im (dI ns)), some (.im (.int 120)), some (.ow false (dI cs)), none, none, none, none, none, none] = some (.nx [some (.im (dI ns)), some (.im (.int 120)), some (.ow false (dI cs)), some (.ow false (dI cs)), none, none, none, none, none]) := rfl
  have e4 : sAsg 4 (eLst aNil) [some (.im (dI ns)), some (.im (.int 120)), some (.ow false (dI cs)), some (.ow false (dI cs)), none, none, none, none, none] = some (.nx [some (.im (dI ns)), some (.im (.int 120)), some (.ow false (dI cs)), some (.ow false (dI cs)), some (.ow false (dI [])), none, none, none, none]) := rfl
  have hit : itR1 (aCons (eV 1) aNil) [some (.im (dI ns)), some (.im (.int 120)), some (.ow false (dI cs)), some (.ow false (dI cs)), some (.ow false (dI [])), none, none, none, none] = some ((List.range 120).map (fun k : Nat => D.int (0 + (k : Int))), [some (.im (dI ns)), some (.im (.int 120)), some (.ow false (dI cs)), some (.ow false (dI cs)), some (.ow false (dI [])), none, none, none, none]) :=
    itR1_nat (n := 120) rfl (by omega)
  obtain ⟨o, e5, q⟩ := sForM (f := fun k : Nat => D.int (0 + (k : Int))) (xs := List.range 120) (fi := itR1 (aCons (eV 1) aNil)) (g := gN 5) (b := bl__law_draws_2) hit
    (fun pre s => ∃ rest out x5 x6 x7, rest.length = cs.length ∧ out.length = pre.length ∧ Fr x5 ∧ Fr x6 ∧ Fr x7 ∧ s = [some (.im (dI ns)), some (.im (.int 120)), some (.ow false (dI cs)), some (.ow false (dI rest)), some (.ow false (dI out)), x5, x6, x7, none]) (fun _ _ => False)
    ⟨cs, [], none, none, none, rfl, rfl, .non, .non, .non, rfl⟩ (fun pre k post s hp ⟨rest, out, x5, x6, x7, h1, h2, h5, h6, h7, hs⟩ => by
      subst hs
      have hpl : pre.length < 120 := by
        have := congrArg List.length hp
        rw [List.length_range, List.length_append, List.length_cons] at this
        omega
      obtain ⟨rest', out', x6', x7', k1, k2, k3, k4, k5⟩ := draw_step (S := dI ns) (k := k) hcs h1 (show out.length < 1000 by omega) h6 h7
      refine ⟨dS (dI ns) cs rest out k x6 x7, _, ?_, k5, rest', out', some (.im (.int k)), x6', x7', k1, by rw [k2, h2, List.length_append]; rfl, Fr.im, k3, k4, rfl⟩
      rw [Int.zero_add]
      rcases h5 with rfl | ⟨_, rfl⟩ <;> rfl)
  cases o with
  | nx s2 =>
    obtain ⟨rest, out, x5, x6, x7, h1, h2, h5, h6, h7, rfl⟩ := q
    refine ⟨out.reverse, ?_⟩
    unfold F__law_draws b__law_draws
    have e6 : sDrop (eMu isLst muReverse 4 aNil) [some (.im (dI ns)), some (.im (.int 120)), some (.ow false (dI cs)), some (.ow false (dI rest)), some (.ow false (dI out)), x5, x6, x7, none] = some (.nx [some (.im (dI ns)), some (.im (.int 120)), some (.ow false (dI cs)), some (.ow false (dI rest)), some (.ow false (.lst (out.map D.int).reverse)), x5, x6, x7, none]) := rfl
    refine (fnF_rt (r := .bo 4) (s := [some (.im (dI ns)), some (.im (.int 120)), some (.ow false (dI cs)), some (.ow false (dI rest)), some (.ow false (.lst (out.map D.int).reverse)), x5, x6, x7, none]) rfl ?_).trans ?_
    · rw [sSeq_nx e1, sSeq_nx e2, sSeq_nx e3, sSeq_nx e4, sSeq_nx e5, sSeq_nx e6]
      rfl
    · show some (Res.fr (D.lst (out.map D.int).reverse), []) = _
      rw [← List.map_reverse]
  | rt r s => exact q.elim
  | bk s => exact q.elim
  | ct s => exact q.elim
/-- row[take(len(row))] -/
theorem pick_ok {is : List Int} {row : List D} (h : row ≠ []) : ∃ (x : D) (is' : List Int), x ∈ row ∧ F__law_pick [.ow true (dI is), .im (.lst row)] = some (.im x, [dI is']) := by
  have hn : 0 < row.length := List.length_pos_iff.mpr h
  obtain ⟨r, is', hr, e⟩ := call_take (s := [some (.ow true (dI is)), some (.im (.lst row))]) (i := 0) (m := row.length) (b := true) (is := is) (fa := fz (eCB gLen (aCons (eV 1) aNil))) rfl rfl hn
  refine ⟨row[r], is', List.getElem_mem hr, ?_⟩
  unfold F__law_pick b__law_pick
  refine (fnF_rt (r := .im row[r]) (s := [some (.ow true (dI is')), some (.im (.lst row))]) rfl (sRet_of ?_)).trans rfl
  exact op2_of (ra := .im (.lst row)) rfl e rfl rfl (ixA_nat (List.getElem?_eq_getElem hr))
theorem value_ok {is : List Int} {v0 v1 v2 : D} : ∃ (x : D) (is' : List Int), x ∈ [v0, v1, v2] ∧ F__law_value [.ow true (dI is), .im (.lst [v0, v1, v2])] = some (.im x, [dI is']) := by
  obtain ⟨r, is', hr, e⟩ := call_take (s := [some (.ow true (dI is)), some (.im (.lst [v0, v1, v2]))]) (i := 0) (m := 5) (b := true) (is := is) (fa := eC (.int 5)) rfl rfl (by decide)
  have hz : 5 ≤ sizeLine := by decide
  have el : eLst (aCons (eC (.int 0)) (aCons (eC (.int 1)) (aCons (eC (.int 0)) (aCons (eC (.int 2)) (aCons (eC (.int 1)) aNil))))) [some (.ow true (dI is)), some (.im (.lst [v0, v1, v2]))] = some (.fr (.lst [.int 0, .int 1, .int 0, .int 2, .int 1]), [some (.ow true (dI is)), some (.im (.lst [v0, v1, v2]))]) := by
    simp [fnF, slots0, sSeq, sIf, tst, tNotX, tAndX, tOrX, op2, op1, eV, eFz, eC, fz, Res.get, owAt, sRet, sRetN, sNil, sDrop, sAsg, sAsgG, okSet, gN, gT, gNs, endF, outsOf, eGet, toKey, eTup, eLst, aNil, aCons, ims, eCB, getAll, eMu, isLst, setC, eCall, toSVs, toSV, bos, putBack, List.set_cons_zero, List.set_cons_succ, eDic0, eDisp, evPairs, mergeD, ixA, ixD, L2.atI, L2.ixN, hz]
  have key : ∀ k : Nat, k < 3 → ∃ x, x ∈ [v0, v1, v2] ∧ ixA (.lst [v0, v1, v2]) (.int k) = some (.im x) := fun k hk => by
    have : k = 0 ∨ k = 1 ∨ k = 2 := by omega
    rcases this with rfl | rfl | rfl
    · exact ⟨v0, by simp, rfl⟩
    · exact ⟨v1, by simp, rfl⟩
    · exact ⟨v2, by simp, rfl⟩
  have key2 : ∃ k : Nat, k < 3 ∧ ixA (.lst [.int 0, .int 1, .int 0, .int 2, .int 1]) (.int r) = some (.im (.int k)) := by
    have : r = 0 ∨ r = 1 ∨ r = 2 ∨ r = 3 ∨ r = 4 := by omega
    rcases this with rfl | rfl | rfl | rfl | rfl
    · exact ⟨0, by decide, rfl⟩
    · exact ⟨1, by decide, rfl⟩
    · exact ⟨0, by decide, rfl⟩
    · exact ⟨2, by decide, rfl⟩
    · exact ⟨1, by decide, rfl⟩
  obtain ⟨k, hk, ek⟩ := key2
  obtain ⟨x, hx, ex⟩ := key k hk
  refine ⟨x, is', hx, ?_⟩
  unfold F__law_value b__law_value
  refine (fnF_rt (r := .im x) (s := [some (.ow true (dI is')), some (.im (.lst [v0, v1, v2]))]) rfl (sRet_of ?_)).trans rfl
  exact op2_of (ra := .im (.lst [v0, v1, v2])) rfl (op2_of el e rfl rfl ek) rfl rfl ex
/-! ### words -/
theorem strOk_app {x y : Str} (hx : PyData.strOk x = true) (hy : PyData.strOk y = true) : PyData.strOk (x ++ y) = true := by
  unfold PyData.strOk at *
  show (x.cps ++ y.cps).all _ = true
  rw [Array.all_append, hx, hy]
  rfl
theorem strOk_join {sep : Str} (hs : PyData.strOk sep = true) : ∀ {ys : List Str}, (∀ y ∈ ys, PyData.strOk y = true) → PyData.strOk (Str.join sep ys) = true
  | [], _ => by
    show PyData.strOk Str.empty = true
    decide +kernel
  | [x], h => h x List.mem_cons_self
  | x :: y :: r, h => strOk_app (strOk_app (h x List.mem_cons_self) hs) (strOk_join hs fun z hz => h z (List.mem_cons_of_mem _ hz))
theorem join0_len (ys : List Str) : (Str.join "" ys).length ≤ (ys.map (·.length)).sum := by
  have h := StrLaws.join_length_le "" ys
  rw [show Str.length "" = 0 by decide +kernel, Nat.mul_zero] at h
  exact h
theorem emp_ok : PyData.strOk "" = true := by decide +kernel
theorem eJoin_of {fl : EX} {s s' : Slots} {r : Res} {d : D} {ys : List Str} (h : fl s = some (r, s')) (hd : r.get s' = some d) (hi : items d = some (ys.map D.str)) (hz : (ys.map (·.length)).sum ≤ 100000) : eJoin (eC (.str "")) fl s = some (.im (.str (Str.join "" ys)), s') := by
  unfold eJoin
  have e : (ys.map (·.length)).sum + ys.length * Str.length "" ≤ 16777216 := by
    rw [show Str.length "" = 0 by decide +kernel]
    omega
  have h0 : Res.get s (.im (.str "")) = some (.str "") := rfl
  simp only [eC, h0, Option.bind_eq_bind, Option.bind_some, h, hd, hi, strsOf_map, e, if_true]
def alpha : Str := "abcdefghijklmnopqrstuvwxyz"
theorem alpha_len : alpha.cps.toList.length = 26 := by decide +kernel
theorem alpha_ok : alpha.cps.toList.all (· < 0x110000) = true := by decide +kernel
theorem letter {r : Nat} (h : r < 26) : ∃ c : Nat, c < 0x110000 ∧ ixA (.str alpha) (.int r) = some (.im (.str ⟨#[c]⟩)) := by
  have hl : r < alpha.cps.toList.length := by rw [alpha_len]; exact h
  refine ⟨alpha.cps.toList[r], of_decide_eq_true (List.all_eq_true.mp alpha_ok _ (List.getElem_mem hl)), ?_⟩
  show (if alpha.length ≤ sizeLine then (L2.atI alpha.cps.toList (r : Int)).map _ else none) = _
  rw [if_pos (by decide +kernel), L2.atI_nat (List.getElem?_eq_getElem hl)]
  rfl
theorem one_ok {c : Nat} (h : c < 0x110000) : PyData.strOk ⟨#[c]⟩ = true := by
  unfold PyData.strOk
  simp [h]
/-- none, or an own list -/
def FrO (x : Option SV) : Prop := x = none ∨ ∃ d, x = some (.ow false d)
theorem any_in (w : Str) (ws : List Str) : ∃ b, inA false (.str w) (.lst (ws.map D.str)) = some (.im (.bl b)) := by
  refine ⟨(ws.map D.str).any fun y => inF y (.str w), ?_⟩
  show (inD (.str w) (.lst (ws.map D.str))).map _ = _
  have h1 : (ws.map D.str).all flD = true := by simp [flD]
  have h2 : noMix (.str w) (ws.map D.str) = true := by simp [noMix, nBl, nInt]
  have e : inD (.str w) (.lst (ws.map D.str)) = some ((ws.map D.str).any fun y => inF y (.str w)) := by
    show (if flD (.str w) && (ws.map D.str).all flD && noMix (.str w) (ws.map D.str) then _ else _) = _
    rw [h1, h2]
    rfl
  rw [e]
  rfl
abbrev pS (is : List Int) (ws : List Str) (x3 x4 x5 x6 : Option SV) : Slots := [some (.ow true (dI is)), some (.im (.int 5)), some (.ow false (.lst (ws.map D.str))), x3, x4, x5, x6]
theorem pool_step {is : List Int} {ws : List Str} {x3 x4 x5 : Option SV} (h4 : FrO x4) (h5 : Fr x5) (hw : ∀ w ∈ ws, PyData.strOk w = true) (hs : (ws.map (·.length)).sum ≤ 1000) (hl : ws.length ≤ 100) : ∃ is' w x4' x5', FrO x4' ∧ Fr x5' ∧ PyData.strOk w = true ∧ w.length ≤ (ws.map (·.length)).sum + 3 ∧
    bl__law_pool_2 (pS is ws x3 x4 x5 none) = some (.nx (pS is' (ws ++ [w]) x3 x4' x5' none)) := by
  have hbig : 1000000 ≤ sizeLine := by decide
  -- the letters
  obtain ⟨r, is1, hr, e1⟩ := call_take (s := pS is ws x3 x4 x5 none) (i := 0) (m := 3) (b := true) (is := is) (fa := eC (.int 3)) rfl rfl (by decide)
  have e1' : eCall F__law_take (aCons (eV 0) (aCons (eC (.int 3)) aNil)) (pS is ws x3 x4 x5 none) = some (.im (.int r), pS is1 ws x3 x4 x5 none) := e1
  have hit : itR1 (aCons (op2 addD (eC (.int 1)) (eCall F__law_take (aCons (eV 0) (aCons (eC (.int 3)) aNil)))) aNil) (pS is ws x3 x4 x5 none) = some (ilist 0 (1 + r), pS is1 ws x3 x4 x5 none) := by
    refine itR1_nat (n := 1 + r) (aCons_of (g := aNil) (rs := []) (op2_of rfl e1' rfl rfl ?_) rfl) (by omega)
    show some (Res.im (.int (1 + (r : Int)))) = _
    rw [Int.natCast_add]
    rfl
  obtain ⟨ls, s2, e2, ⟨ys, is2, hys, hyo, hy1, rfl⟩, hll⟩ := eLcS (i := 6) (fe := fe__law_pool_1) (fun acc s => ∃ (ys : List Str) (is' : List Int), acc = ys.map D.str ∧ (∀ y ∈ ys, PyData.strOk y = true) ∧ (∀ y ∈ ys, y.length = 1) ∧ s = pS is' ws x3 x4 x5 none)
    (fun acc s ⟨ys, is', _, _, _, h⟩ => by rw [h]; exact Nat.lt_succ_self 6) hit rfl ⟨[], is1, rfl, (fun y hy => by cases hy), (fun y hy => by cases hy), rfl⟩ (fun d hd acc s ⟨ys, is', ha, hyo, hy1, hs⟩ => by
      subst hs
      obtain ⟨q, is'', hq, e⟩ := call_take (s := pS is' ws x3 x4 x5 (some (.im d))) (i := 0) (m := 26) (b := true) (is := is') (fa := eC (.int 26)) rfl rfl (by decide)
      obtain ⟨c, hc, ec⟩ := letter hq
      refine ⟨.str ⟨#[c]⟩, pS is'' ws x3 x4 x5 (some (.im d)), fz_im (op2_of (da := .str alpha) rfl e rfl rfl ec), ys ++ [⟨#[c]⟩], is'', by rw [ha, List.map_append]; rfl, fun y hy => ?_, fun y hy => ?_, rfl⟩
      · rcases List.mem_append.mp hy with z | z
        · exact hyo y z
        · rw [List.mem_singleton.mp z]; exact one_ok hc
      · rcases List.mem_append.mp hy with z | z
        · exact hy1 y z
        · rw [List.mem_singleton.mp z]; rfl) (by simp [ilist]; omega)
  have hyl : ys.length = 1 + r := by
    have := hll
    rw [hys, List.length_map] at this
    simpa [ilist] using this
  have hsum : (ys.map (·.length)).sum = ys.length := by
    clear e2 hll hys hyl hyo
    induction ys with
    | nil => rfl
    | cons y r ih =>
      rw [List.map_cons, List.sum_cons, ih fun z hz => hy1 z (List.mem_cons_of_mem _ hz), hy1 y List.mem_cons_self, List.length_cons]
      omega
  subst hys
  have a4 : sAsg 4 (eLc [6] (itR1 (aCons (op2 addD (eC (.int 1)) (eCall F__law_take (aCons (eV 0) (aCons (eC (.int 3)) aNil)))) aNil)) (gN 6) tTrue fe__law_pool_1) (pS is ws x3 x4 x5 none) = some (.nx (pS is2 ws x3 (some (.ow false (.lst (ys.map D.str)))) x5 none)) := by
    refine sAsg_fr (s' := pS is2 ws x3 x4 x5 none) e2 ?_
    rcases h4 with rfl | ⟨_, rfl⟩ <;> rfl
  have j1 : eJoin (eC (.str "")) (eV 4) (pS is2 ws x3 (some (.ow false (.lst (ys.map D.str)))) x5 none) = some (.im (.str (Str.join "" ys)), pS is2 ws x3 (some (.ow false (.lst (ys.map D.str)))) x5 none) :=
    eJoin_of (r := .bo 4) rfl rfl rfl (by rw [hsum]; omega)
  have a5 : sAsg 5 (fz (eJoin (eC (.str "")) (eV 4))) (pS is2 ws x3 (some (.ow false (.lst (ys.map D.str)))) x5 none) = some (.nx (pS is2 ws x3 (some (.ow false (.lst (ys.map D.str)))) (some (.im (.str (Str.join "" ys)))) none)) := by
    refine sAsg_im (fz_im j1) ?_
    rcases h5 with rfl | ⟨_, rfl⟩ <;> rfl
  have jo := strOk_join emp_ok hyo
  have jl : (Str.join "" ys).length ≤ 3 := by
    have := join0_len ys
    omega
  -- the word
  have a6 : ∃ w : Str, PyData.strOk w = true ∧ w.length ≤ (ws.map (·.length)).sum + 3 ∧ (sIf (tst (op2 (inA false) (eV 5) (eV 2))) (sAsg 5 (fz (op2 addD (eJoin (eC (.str "")) (eV 2)) (eC (.str "z"))))) sNil) (pS is2 ws x3 (some (.ow false (.lst (ys.map D.str)))) (some (.im (.str (Str.join "" ys)))) none) =
      some (.nx (pS is2 ws x3 (some (.ow false (.lst (ys.map D.str)))) (some (.im (.str w))) none)) := by
    obtain ⟨b, hb⟩ := any_in (Str.join "" ys) ws
    have ec : tst (op2 (inA false) (eV 5) (eV 2)) (pS is2 ws x3 (some (.ow false (.lst (ys.map D.str)))) (some (.im (.str (Str.join "" ys)))) none) = some (b, pS is2 ws x3 (some (.ow false (.lst (ys.map D.str)))) (some (.im (.str (Str.join "" ys)))) none) := tst_of (op2_of (rb := .bo 2) rfl rfl rfl rfl hb)
    cases b with
    | false =>
      refine ⟨Str.join "" ys, jo, by omega, ?_⟩
      rw [sIf_f ec]
      rfl
    | true =>
      have l1 := join0_len ws
      have zl : Str.length "z" = 1 := by decide +kernel
      refine ⟨Str.join "" ws ++ "z", strOk_app (strOk_join emp_ok hw) (by decide +kernel), by rw [Str.length_append, zl]; omega, ?_⟩
      rw [sIf_t ec]
      refine sAsg_im (s' := pS is2 ws x3 (some (.ow false (.lst (ys.map D.str)))) (some (.im (.str (Str.join "" ys)))) none) (fz_im (op2_of (eJoin_of (ys := ws) (r := .bo 2) rfl rfl rfl (by omega)) rfl rfl rfl (addD_str ?_))) rfl
      rw [zl]
      omega
  obtain ⟨w, hwo, hwl, a6⟩ := a6
  refine ⟨is2, w, some (.ow false (.lst (ys.map D.str))), some (.im (.str w)), .inr ⟨_, rfl⟩, Fr.im, hwo, hwl, ?_⟩
  unfold bl__law_pool_2
  rw [sSeq_nx a4, sSeq_nx a5, sSeq_nx a6]
  have e := sDrop_of (r := .im .non) (eMu_of (p := isLst) (g := muAppend) (i := 2) (c0 := .lst (ws.map D.str)) (c := .lst (ws.map D.str)) (c' := .lst ((ws ++ [w]).map D.str)) (rs := [.im (.str w)]) (ds := [.str w]) (s := pS is2 ws x3 (some (.ow false (.lst (ys.map D.str)))) (some (.im (.str w))) none) (s1 := pS is2 ws x3 (some (.ow false (.lst (ys.map D.str)))) (some (.im (.str w))) none) (f := aCons (eFz 5) aNil) rfl rfl rfl rfl rfl (o := .im .non) (by
      show (if (ws.map D.str).length < sizeLine then some (Res.im D.non, D.lst (ws.map D.str ++ [.str w])) else none) = _
      rw [if_pos (by rw [List.length_map]; omega), List.map_append]
      rfl))
  exact e
end G.k97

set_option Elab.async false
set_option linter.all false
set_option maxRecDepth 100000
/-! L97h: the world, the terms. -/
namespace G.k97
open PySem PySem.Spec PyProof.Rows L2 G
theorem pool_ok (is : List Int) : ∃ (ws : List Str) (is' : List Int), ws.length = 5 ∧ (∀ w ∈ ws, PyData.strOk w = true) ∧ (ws.map (·.length)).sum ≤ 100 ∧ F__law_pool [.ow true (dI is), .im (.int 5)] = some (.fr (.lst (ws.map D.str)), [dI is']) := by
  have e0 : sAsg 2 (eLst aNil) (slots0 7 [.ow true (dI is), .im (.int 5)]) = some (.nx (pS is [] none none none none)) := rfl
  have hit : itR1 (aCons (eV 1) aNil) (pS is [] none none none none) = some ((List.range 5).map (fun k : Nat => D.int (0 + (k : Int))), pS is [] none none none none) := itR1_nat (n := 5) rfl (by decide)
  obtain ⟨o, e1, q⟩ := sForM (f := fun k : Nat => D.int (0 + (k : Int))) (xs := List.range 5) (fi := itR1 (aCons (eV 1) aNil)) (g := gN 3) (b := bl__law_pool_2) hit
    (fun pre s => ∃ (ws : List Str) (is' : List Int) (x3 x4 x5 : Option SV), ws.length = pre.length ∧ (∀ w ∈ ws, PyData.strOk w = true) ∧ (ws.map (·.length)).sum + 3 ≤ 3 * 2 ^ pre.length ∧ Fr x3 ∧ FrO x4 ∧ Fr x5 ∧ s = pS is' ws x3 x4 x5 none) (fun _ _ => False)
    ⟨[], is, none, none, none, rfl, (fun w hw => by cases hw), (by decide), .non, .inl rfl, .non, rfl⟩ (fun pre k post s hp ⟨ws, is', x3, x4, x5, hl, hw, hs, h3, h4, h5, he⟩ => by
      subst he
      have hpl : pre.length ≤ 4 := by
        have := congrArg List.length hp
        rw [List.length_range, List.length_append, List.length_cons] at this
        omega
      have hp4 : 2 ^ pre.length ≤ 2 ^ 4 := Nat.pow_le_pow_right (by decide) hpl
      have hp4' : 2 ^ pre.length ≤ 16 := hp4
      obtain ⟨is2, w, x4', x5', k1, k2, k3, k4, k5⟩ := pool_step (is := is') (ws := ws) (x3 := some (.im (.int k))) h4 h5 hw (by omega) (by omega)
      refine ⟨pS is' ws (some (.im (.int k))) x4 x5 none, _, ?_, k5, ws ++ [w], is2, some (.im (.int k)), x4', x5', by rw [List.length_append, List.length_append, hl]; rfl, fun z hz => ?_, ?_, Fr.im, k1, k2, rfl⟩
      · rw [Int.zero_add]
        rcases h3 with rfl | ⟨_, rfl⟩ <;> rfl
      · rcases List.mem_append.mp hz with z' | z'
        · exact hw z z'
        · rw [List.mem_singleton.mp z']; exact k3
      · rw [List.map_append, List.sum_append, List.length_append, List.length_singleton, Nat.pow_succ]
        show _ + (w.length + 0) + 3 ≤ _
        omega)
  cases o with
  | nx s2 =>
    obtain ⟨ws, is', x3, x4, x5, hl, hw, hs, h3, h4, h5, rfl⟩ := q
    refine ⟨ws, is', by rw [hl, List.length_range], hw, by rw [List.length_range] at hs; omega, ?_⟩
    unfold F__law_pool b__law_pool
    refine (fnF_rt (r := .bo 2) (s := pS is' ws x3 x4 x5 none) rfl ?_).trans rfl
    rw [sSeq_nx e0, sSeq_nx e1]
    rfl
  | rt r s => exact q.elim
  | bk s => exact q.elim
  | ct s => exact q.elim
theorem values_ok (is : List Int) {a b : Str} (ha : PyData.strOk a = true) (hb : PyData.strOk b = true) (ws : List D) : ∃ (v0 v1 v2 : D) (is' : List Int), okV v0 = true ∧ okV v1 = true ∧ okV v2 = true ∧ F__law_values [.ow true (dI is), .im (.lst (.str a :: .str b :: ws))] = some (.fr (.lst [v0, v1, v2]), [dI is']) := by
  have hz : 3 ≤ sizeLine := by decide
  let P : D := .lst (.str a :: .str b :: ws)
  have i0 : ixA P (.int 0) = some (.im (.str a)) := ixA_nat (xs := .str a :: .str b :: ws) (k := 0) rfl
  have i1 : ixA P (.int 1) = some (.im (.str b)) := ixA_nat (xs := .str a :: .str b :: ws) (k := 1) rfl
  obtain ⟨r, is1, hr, e1⟩ := call_take (s := [some (.ow true (dI is)), some (.im P), none, none]) (i := 0) (m := 7) (b := true) (is := is) (fa := eC (.int 7)) rfl rfl (by decide)
  have a2 : sAsg 2 (fz (op2 subD (eCall F__law_take (aCons (eV 0) (aCons (eC (.int 7)) aNil))) (eC (.int 3)))) (slots0 4 [.ow true (dI is), .im P]) = some (.nx [some (.ow true (dI is1)), some (.im P), some (.im (.int (r - 3))), none]) :=
    sAsg_im (s' := [some (.ow true (dI is1)), some (.im P), none, none]) (d := .int (r - 3)) (fz_im (op2_of e1 rfl rfl rfl rfl)) rfl
  obtain ⟨r2, is2, hr2, e2⟩ := call_take (s := [some (.ow true (dI is1)), some (.im P), some (.im (.int (r - 3))), none]) (i := 0) (m := 5) (b := true) (is := is1) (fa := eC (.int 5)) rfl rfl (by decide)
  have a3 : sAsg 3 (eLst (aCons (eFz 2) (aCons (fz (op2 addD (op2 addD (eV 2) (eC (.int 1))) (eCall F__law_take (aCons (eV 0) (aCons (eC (.int 5)) aNil))))) (aCons (fz (op2 ixA (eV 1) (eC (.int 0)))) aNil)))) [some (.ow true (dI is1)), some (.im P), some (.im (.int (r - 3))), none] =
      some (.nx [some (.ow true (dI is2)), some (.im P), some (.im (.int (r - 3))), some (.ow false (.lst [.int (r - 3), .int ((r : Int) - 3 + 1 + r2), .str a]))]) := by
    refine sAsg_fr (s' := [some (.ow true (dI is2)), some (.im P), some (.im (.int (r - 3))), none]) (d := .lst [.int (r - 3), .int ((r : Int) - 3 + 1 + r2), .str a]) ?_ rfl
    have ea : aCons (eFz 2) (aCons (fz (op2 addD (op2 addD (eV 2) (eC (.int 1))) (eCall F__law_take (aCons (eV 0) (aCons (eC (.int 5)) aNil))))) (aCons (fz (op2 ixA (eV 1) (eC (.int 0)))) aNil)) [some (.ow true (dI is1)), some (.im P), some (.im (.int (r - 3))), none] =
        some ([.im (.int (r - 3)), .im (.int ((r : Int) - 3 + 1 + r2)), .im (.str a)], [some (.ow true (dI is2)), some (.im P), some (.im (.int (r - 3))), none]) :=
      aCons_of rfl (aCons_of (fz_im (op2_of (ra := .im (.int ((r : Int) - 3 + 1))) rfl e2 rfl rfl rfl)) (aCons_of (g := aNil) (rs := []) (fz_im (op2_of (ra := .im P) rfl rfl rfl rfl i0)) rfl))
    exact eLst_of ea rfl hz
  obtain ⟨r3, is3, hr3, e3⟩ := call_take (s := [some (.ow true (dI is2)), some (.im P), some (.im (.int (r - 3))), some (.ow false (.lst [.int (r - 3), .int ((r : Int) - 3 + 1 + r2), .str a]))]) (i := 0) (m := 3) (b := true) (is := is2) (fa := eC (.int 3)) rfl rfl (by decide)
  have ec : tst (op2 eqD (eCall F__law_take (aCons (eV 0) (aCons (eC (.int 3)) aNil))) (eC (.int 0))) [some (.ow true (dI is2)), some (.im P), some (.im (.int (r - 3))), some (.ow false (.lst [.int (r - 3), .int ((r : Int) - 3 + 1 + r2), .str a]))] =
      some (decide ((r3 : Int) = 0), [some (.ow true (dI is3)), some (.im P), some (.im (.int (r - 3))), some (.ow false (.lst [.int (r - 3), .int ((r : Int) - 3 + 1 + r2), .str a]))]) := tst_of (op2_of e3 rfl rfl rfl (eq_ii _ _))
  by_cases h0 : (r3 : Int) = 0
  · refine ⟨.int (r - 3), .str b, .str a, is3, rfl, hb, ha, ?_⟩
    unfold F__law_values b__law_values
    refine (fnF_rt (r := .bo 3) (s := [some (.ow true (dI is3)), some (.im P), some (.im (.int (r - 3))), some (.ow false (.lst [.int (r - 3), .str b, .str a]))]) rfl ?_).trans rfl
    rw [sSeq_nx a2, sSeq_nx a3, sSeq_nx (s' := [some (.ow true (dI is3)), some (.im P), some (.im (.int (r - 3))), some (.ow false (.lst [.int (r - 3), .str b, .str a]))]) (by
      rw [sIf_t (ec.trans (by rw [decide_eq_true h0]))]
      have ev : fz (op2 ixA (eV 1) (eC (.int 1))) [some (.ow true (dI is3)), some (.im P), some (.im (.int (r - 3))), some (.ow false (.lst [.int (r - 3), .int ((r : Int) - 3 + 1 + r2), .str a]))] = some (.im (.str b), [some (.ow true (dI is3)), some (.im P), some (.im (.int (r - 3))), some (.ow false (.lst [.int (r - 3), .int ((r : Int) - 3 + 1 + r2), .str a]))]) :=
        fz_im (op2_of (ra := .im P) rfl rfl rfl rfl i1)
      unfold sSub
      simp only [ev, Option.bind_eq_bind, Option.bind_some]
      rfl)]
    rfl
  · refine ⟨.int (r - 3), .int ((r : Int) - 3 + 1 + r2), .str a, is3, rfl, rfl, ha, ?_⟩
    unfold F__law_values b__law_values
    refine (fnF_rt (r := .bo 3) (s := [some (.ow true (dI is3)), some (.im P), some (.im (.int (r - 3))), some (.ow false (.lst [.int (r - 3), .int ((r : Int) - 3 + 1 + r2), .str a]))]) rfl ?_).trans rfl
    rw [sSeq_nx a2, sSeq_nx a3, sSeq_nx (s' := [some (.ow true (dI is3)), some (.im P), some (.im (.int (r - 3))), some (.ow false (.lst [.int (r - 3), .int ((r : Int) - 3 + 1 + r2), .str a]))]) (by
      rw [sIf_f (ec.trans (by rw [decide_eq_false h0]))]
      rfl)]
    rfl
abbrev wD (x0 : D) (nm : List Str) (v0 v1 v2 : D) : D := .lst [x0, .lst (nm.map D.str), .lst [v0, v1, v2]]
theorem world_ok (is : List Int) : ∃ (x0 : D) (nm : List Str) (v0 v1 v2 : D) (is' : List Int), nm.length = 3 ∧ (∀ w ∈ nm, PyData.strOk w = true) ∧ (nm.map (·.length)).sum ≤ 100 ∧ okV v0 = true ∧ okV v1 = true ∧ okV v2 = true ∧
    F__law_world [.ow true (dI is)] = some (.fr (wD x0 nm v0 v1 v2), [dI is']) := by
  obtain ⟨ws, is1, hl, hw, hs, e1⟩ := pool_ok is
  obtain ⟨a, b, c, d, e, rfl⟩ : ∃ a b c d e, ws = [a, b, c, d, e] := by
    match ws, hl with
    | [a, b, c, d, e], _ => exact ⟨a, b, c, d, e, rfl⟩
  have hz : 3 ≤ sizeLine := by decide
  let P : D := .lst ([a, b, c, d, e].map D.str)
  obtain ⟨v0, v1, v2, is2, o0, o1, o2, e2⟩ := values_ok is1 (hw a (by simp)) (hw b (by simp)) ([c, d, e].map D.str)
  refine ⟨.lst ([a, b].map D.str), sortS [c, d, e], v0, v1, v2, is2, by rw [sortS_len]; rfl, fun w h => hw w ?_, ?_, o0, o1, o2, ?_⟩
  · have := (sortS_perm [c, d, e]).mem_iff.mp h
    exact List.mem_cons_of_mem _ (List.mem_cons_of_mem _ this)
  · have := ((sortS_perm [c, d, e]).map (·.length)).sum_nat
    rw [this]
    simp only [List.map_cons, List.map_nil, List.sum_cons, List.sum_nil] at hs ⊢
    omega
  · have c1 : eCall F__law_pool (aCons (eV 0) (aCons (eC (.int 5)) aNil)) [some (.ow true (dI is)), none] = some (.fr P, [some (.ow true (dI is1)), none]) :=
      eCall_fr (rs := [.bo 0, .im (.int 5)]) (s' := [some (.ow true (dI is)), none]) rfl rfl (by simp [bos]) e1
    have a1 : sAsg 1 (fz (eCall F__law_pool (aCons (eV 0) (aCons (eC (.int 5)) aNil)))) (slots0 2 [.ow true (dI is)]) = some (.nx [some (.ow true (dI is1)), some (.im P)]) :=
      sAsg_im (s' := [some (.ow true (dI is1)), none]) (fz_fr c1) rfl
    have s1 : eSl (eV 1) pNo (pSome (eC (.int 2))) [some (.ow true (dI is1)), some (.im P)] = some (.fr (.lst ([a, b].map D.str)), [some (.ow true (dI is1)), some (.im P)]) := rfl
    have s2 : eSl (eV 1) (pSome (eC (.int 2))) pNo [some (.ow true (dI is1)), some (.im P)] = some (.fr (.lst ([c, d, e].map D.str)), [some (.ow true (dI is1)), some (.im P)]) := rfl
    have s3 : eCB gSortA (aCons (eSl (eV 1) (pSome (eC (.int 2))) pNo) aNil) [some (.ow true (dI is1)), some (.im P)] = some (.fr (.lst ((sortS [c, d, e]).map D.str)), [some (.ow true (dI is1)), some (.im P)]) :=
      eCB_of (aCons_of (g := aNil) (rs := []) s2 rfl) rfl rfl
    have s4 : eCall F__law_values (aCons (eV 0) (aCons (eFz 1) aNil)) [some (.ow true (dI is1)), some (.im P)] = some (.fr (.lst [v0, v1, v2]), [some (.ow true (dI is2)), some (.im P)]) :=
      eCall_fr (rs := [.bo 0, .im P]) (s' := [some (.ow true (dI is1)), some (.im P)]) rfl rfl (by simp [bos]) e2
    unfold F__law_world b__law_world
    refine (fnF_rt (r := .fr (wD (.lst ([a, b].map D.str)) (sortS [c, d, e]) v0 v1 v2)) (s := [some (.ow true (dI is2)), some (.im P)]) rfl ?_).trans rfl
    rw [sSeq_nx a1]
    refine sRet_of ?_
    have ea := aCons_of (fz_fr s1) (aCons_of (fz_fr s3) (aCons_of (g := aNil) (rs := []) (fz_fr s4) rfl))
    exact eLst_of ea rfl hz
def InT (nm : List Str) (vs : List D) : T → Prop := OkT (· ∈ nm.map D.str) (· ∈ vs)
theorem term_ok (is : List Int) (x0 : D) {nm : List Str} (hn : nm ≠ []) (v0 v1 v2 : D) : ∃ (t : T) (is' : List Int), InT nm [v0, v1, v2] t ∧ F__law_term [.ow true (dI is), .im (wD x0 nm v0 v1 v2)] = some (.im t.d, [dI is']) := by
  have hz : 2 ≤ sizeLine := by decide
  let W : D := wD x0 nm v0 v1 v2
  obtain ⟨r, is1, hr, e1⟩ := call_take (s := [some (.ow true (dI is)), some (.im W)]) (i := 0) (m := 5) (b := true) (is := is) (fa := eC (.int 5)) rfl rfl (by decide)
  have ec : tst (op2 eqD (eCall F__law_take (aCons (eV 0) (aCons (eC (.int 5)) aNil))) (eC (.int 0))) (slots0 2 [.ow true (dI is), .im W]) = some (decide ((r : Int) = 0), [some (.ow true (dI is1)), some (.im W)]) := tst_of (op2_of e1 rfl rfl rfl (eq_ii _ _))
  have tup2 : ∀ {f : AX} {s s' : Slots} {a b : D}, f s = some ([.im a, .im b], s') → eTup f s = some (.im (.tup [a, b]), s') := fun {f s s' a b} h => by
    exact eTup_of h rfl hz
  by_cases h0 : (r : Int) = 0
  · obtain ⟨x, is2, hx, e2⟩ := value_ok (is := is1) (v0 := v0) (v1 := v1) (v2 := v2)
    refine ⟨.val x, is2, hx, ?_⟩
    have c2 : eCall F__law_value (aCons (eV 0) (aCons (fz (op2 ixA (eV 1) (eC (.int 2)))) aNil)) [some (.ow true (dI is1)), some (.im W)] = some (.im x, [some (.ow true (dI is2)), some (.im W)]) :=
      eCall_im (rs := [.bo 0, .im (.lst [v0, v1, v2])]) (s' := [some (.ow true (dI is1)), some (.im W)]) rfl rfl (by simp [bos]) e2
    unfold F__law_term b__law_term
    refine (fnF_rt (r := .im (T.val x).d) (s := [some (.ow true (dI is2)), some (.im W)]) rfl ?_).trans rfl
    refine sSeq_rt ?_
    rw [sIf_t (ec.trans (by rw [decide_eq_true h0]))]
    exact sRet_of (tup2 (aCons_of rfl (aCons_of (g := aNil) (rs := []) (fz_im c2) rfl)))
  · obtain ⟨x, is2, hx, e2⟩ := pick_ok (is := is1) (row := nm.map D.str) (by simpa using hn)
    obtain ⟨y, hy, rfl⟩ := List.mem_map.mp hx
    refine ⟨.var y, is2, hx, ?_⟩
    have c2 : eCall F__law_pick (aCons (eV 0) (aCons (fz (op2 ixA (eV 1) (eC (.int 1)))) aNil)) [some (.ow true (dI is1)), some (.im W)] = some (.im (.str y), [some (.ow true (dI is2)), some (.im W)]) :=
      eCall_im (rs := [.bo 0, .im (.lst (nm.map D.str))]) (s' := [some (.ow true (dI is1)), some (.im W)]) rfl rfl (by simp [bos]) e2
    unfold F__law_term b__law_term
    refine (fnF_rt (r := .im (T.var y).d) (s := [some (.ow true (dI is2)), some (.im W)]) rfl ?_).trans rfl
    rw [sSeq_nx (s' := [some (.ow true (dI is1)), some (.im W)]) (by
      rw [sIf_f (ec.trans (by rw [decide_eq_false h0]))]
      rfl)]
    exact sRet_of (tup2 (aCons_of rfl (aCons_of (g := aNil) (rs := []) (fz_im c2) rfl)))
end G.k97

set_option Elab.async false
set_option linter.all false
set_option maxRecDepth 100000
/-! L97i: is_map. -/
namespace G.k97
open PySem PySem.Spec PyProof.Rows L2 G
theorem neD_pl {a b : D} (ha : pl 60 a = true) (hb : pl 60 b = true) : neD a b = some (.im (.bl (!decide (a = b)))) := by
  cases a <;> cases b <;> first | (simp [pl] at ha; done) | (simp [pl] at hb; done) | simp only [neD, ha, hb, Bool.and_self, if_true]
theorem ne_22 : neD (.int 2) (.int 2) = some (.im (.bl false)) := by
  rw [neD_pl rfl rfl]
  simp
theorem isi_tup (ds : List D) : isI "tuple" (.tup ds) = true := by simp [isI, tyN]
theorem isi_str (x : Str) : isI "str" (.str x) = true := by simp [isI, tyN]
def fnb (d : D) : Bool := flD d && nBl d
theorem inF_fnb {a b : D} (ha : fnb a = true) (hb : fnb b = true) : inF a b = decide (a = b) := by
  cases a <;> cases b <;> first | rfl | (simp [fnb, nBl] at ha; done) | (simp [fnb, nBl] at hb; done)
theorem in_fnb {neg : Bool} {x : D} {xs : List D} (hx : fnb x = true) (hs : ∀ y ∈ xs, fnb y = true) : inA neg x (.lst xs) = some (.im (.bl (if neg then !decide (x ∈ xs) else decide (x ∈ xs)))) := by
  have h1 : flD x = true := (Bool.and_eq_true _ _ ▸ hx : flD x = true ∧ nBl x = true).1
  have h2 : nBl x = true := (Bool.and_eq_true _ _ ▸ hx : flD x = true ∧ nBl x = true).2
  have h3 : xs.all flD = true := List.all_eq_true.mpr fun y hy => (Bool.and_eq_true _ _ ▸ hs y hy : flD y = true ∧ nBl y = true).1
  have h4 : xs.all nBl = true := List.all_eq_true.mpr fun y hy => (Bool.and_eq_true _ _ ▸ hs y hy : flD y = true ∧ nBl y = true).2
  have e : (xs.any fun y => inF y x) = decide (x ∈ xs) := by
    clear h3 h4
    induction xs with
    | nil => rfl
    | cons y r ih =>
      rw [List.any_cons, inF_fnb (hs y List.mem_cons_self) hx, ih fun z hz => hs z (List.mem_cons_of_mem _ hz)]
      by_cases q : y = x
      · subst q; simp
      · have q' : ¬ x = y := fun z => q z.symm
        simp [q, q']
  show (inD x (.lst xs)).map _ = _
  have e2 : inD x (.lst xs) = some (decide (x ∈ xs)) := by
    show (if flD x && xs.all flD && noMix x xs then _ else _) = _
    unfold noMix
    rw [h1, h3, h2, h4, ← e]
    rfl
  rw [e2]
  rfl
theorem fnb_okV {v : D} (h : okV v = true) : fnb v = true := by
  cases v <;> first | rfl | (simp [okV] at h; done)
theorem fnb_strs (ws : List Str) : ∀ y ∈ ws.map D.str, fnb y = true := fun y hy => by
  obtain ⟨x, _, rfl⟩ := List.mem_map.mp hy
  rfl
theorem mem_str {x : Str} {ws : List Str} : D.str x ∈ ws.map D.str ↔ x ∈ ws := by
  rw [List.mem_map]
  exact ⟨fun ⟨y, h, e⟩ => by cases e; exact h, fun h => ⟨x, h, rfl⟩⟩
theorem isi_of {t : String} {f : EX} {s s' : Slots} {r : Res} {d : D} (h : f s = some (r, s')) (hd : r.get s' = some d) : eIsi t f s = some (.im (.bl (isI t d)), s') := by
  unfold eIsi; simp only [h, hd, Option.bind_eq_bind, Option.bind_some]
theorem tOr_ff {f g : TX} {s s1 s2 : Slots} {b : Bool} (h : f s = some (false, s1)) (k : g s1 = some (b, s2)) : tOrX f g s = some (b, s2) := by
  unfold tOrX; simp only [h, k, Option.bind_eq_bind, Option.bind_some, Bool.false_eq_true, if_false]
theorem tAnd_f {f g : TX} {s s1 : Slots} (h : f s = some (false, s1)) : tAndX f g s = some (false, s1) := by
  unfold tAndX; simp only [h, Option.bind_eq_bind, Option.bind_some, Bool.false_eq_true, if_false]
theorem tAnd_t {f g : TX} {s s1 s2 : Slots} {b : Bool} (h : f s = some (true, s1)) (k : g s1 = some (b, s2)) : tAndX f g s = some (b, s2) := by
  unfold tAndX; simp only [h, k, Option.bind_eq_bind, Option.bind_some, if_true]
theorem tNot_of {f : TX} {s s1 : Slots} {b : Bool} (h : f s = some (b, s1)) : tNotX f s = some (!b, s1) := by
  unfold tNotX; simp only [h, Option.bind_eq_bind, Option.bind_some]
abbrev iS (SB : Bd) (names : List Str) (pool : List D) (bd : List Str) (x4 : Option SV) : Slots := [some (.im (.tup (SB.map pr))), some (.im (.lst (names.map D.str))), some (.im (.lst pool)), some (.ow false (.lst (bd.map D.str))), x4]
/-- what an answer must be -/
structure MapOk (SB : Bd) (names : List Str) (pool : List D) : Prop where
  srt : sortS (keys SB) = keys SB
  nd : (keys SB).Nodup
  kn : ∀ p ∈ SB, p.1 ∈ names
  tv : ∀ p ∈ SB, ∀ v, p.2 = .val v → v ∈ pool ∧ okV v = true
  tx : ∀ p ∈ SB, ∀ y, p.2 = .var y → y ∈ names ∧ y ∉ keys SB
  nok : ∀ x ∈ names, PyData.strOk x = true
  pok : ∀ v ∈ pool, okV v = true
  sz : SB.length < 64
theorem pr0 (p : Str × T) : ixA (pr p) (.int 0) = some (.im (.str p.1)) := rfl
theorem pr1 (p : Str × T) : ixA (pr p) (.int 1) = some (.im p.2.d) := rfl
theorem tagv (v : D) : ixA (T.val v).d (.int 0) = some (.im (.str "value")) := rfl
theorem tagx (x : Str) : ixA (T.var x).d (.int 0) = some (.im (.str "var")) := rfl
theorem map_step {SB : Bd} {names : List Str} {pool : List D} (M : MapOk SB names pool) {p : Str × T} (hp : p ∈ SB) {bd : List Str} (hb : bd.length < 1000) : bl__law_is_map_1 (iS SB names pool bd (some (.im (pr p)))) = some (.nx (iS SB names pool (bd ++ [p.1]) (some (.im (pr p))))) := by
  have hbig : 1000 ≤ sizeLine := by decide
  have k0 : op2 ixA (eV 4) (eC (.int 0)) (iS SB names pool bd (some (.im (pr p)))) = some (.im (.str p.1), iS SB names pool bd (some (.im (pr p)))) := op2_of rfl rfl rfl rfl (pr0 p)
  have k1 : op2 ixA (eV 4) (eC (.int 1)) (iS SB names pool bd (some (.im (pr p)))) = some (.im p.2.d, iS SB names pool bd (some (.im (pr p)))) := op2_of rfl rfl rfl rfl (pr1 p)
  have k11 : op2 ixA (op2 ixA (eV 4) (eC (.int 1))) (eC (.int 1)) (iS SB names pool bd (some (.im (pr p)))) = some (.im p.2.snd, iS SB names pool bd (some (.im (pr p)))) := op2_of k1 rfl rfl rfl (T.snd_d _)
  have kn : D.str p.1 ∈ names.map D.str := mem_str.mpr (M.kn p hp)
  have nin : inA true (.str p.1) (.lst (names.map D.str)) = some (.im (.bl false)) := by
    rw [in_fnb rfl (fnb_strs names), decide_eq_true kn]
    rfl
  have c1 : (sIf (tOrX (tNotX (tst (eIsi "tuple" (eV 4)))) (tOrX (tst (op2 neD (eCB gLen (aCons (eV 4) aNil)) (eC (.int 2)))) (tOrX (tNotX (tst (eIsi "str" (op2 ixA (eV 4) (eC (.int 0)))))) (tst (op2 (inA true) (op2 ixA (eV 4) (eC (.int 0))) (eV 1)))))) (sRet (eC (.bl false))) sNil) (iS SB names pool bd (some (.im (pr p)))) = some (.nx (iS SB names pool bd (some (.im (pr p))))) := by
    have a1 : tNotX (tst (eIsi "tuple" (eV 4))) (iS SB names pool bd (some (.im (pr p)))) = some (false, iS SB names pool bd (some (.im (pr p)))) := tNot_of (b := true) (tst_of ((isi_of (d := pr p) rfl rfl).trans (by rw [show isI "tuple" (pr p) = true from isi_tup _])))
    have a2 : tst (op2 neD (eCB gLen (aCons (eV 4) aNil)) (eC (.int 2))) (iS SB names pool bd (some (.im (pr p)))) = some (false, iS SB names pool bd (some (.im (pr p)))) := tst_of (op2_of (da := .int 2) (ra := .im (.int 2)) rfl rfl rfl rfl ne_22)
    have a3 : tNotX (tst (eIsi "str" (op2 ixA (eV 4) (eC (.int 0))))) (iS SB names pool bd (some (.im (pr p)))) = some (false, iS SB names pool bd (some (.im (pr p)))) := tNot_of (b := true) (tst_of ((isi_of (d := .str p.1) k0 rfl).trans (by rw [isi_str])))
    have a4 : tst (op2 (inA true) (op2 ixA (eV 4) (eC (.int 0))) (eV 1)) (iS SB names pool bd (some (.im (pr p)))) = some (false, iS SB names pool bd (some (.im (pr p)))) := tst_of (op2_of k0 rfl rfl rfl nin)
    rw [sIf_f (tOr_ff a1 (tOr_ff a2 (tOr_ff a3 a4)))]
    rfl
  have tag : ∃ c : Str, (c = "var" ∨ c = "value") ∧ op2 ixA (op2 ixA (eV 4) (eC (.int 1))) (eC (.int 0)) (iS SB names pool bd (some (.im (pr p)))) = some (.im (.str c), iS SB names pool bd (some (.im (pr p)))) := by
    cases h : p.2 with
    | val v => exact ⟨"value", .inr rfl, op2_of k1 rfl rfl rfl (by rw [h]; rfl)⟩
    | var x => exact ⟨"var", .inl rfl, op2_of k1 rfl rfl rfl (by rw [h]; rfl)⟩
  have c2 : (sIf (tOrX (tNotX (tst (eIsi "tuple" (op2 ixA (eV 4) (eC (.int 1)))))) (tOrX (tst (op2 neD (eCB gLen (aCons (op2 ixA (eV 4) (eC (.int 1))) aNil)) (eC (.int 2)))) (tst (op2 (inA true) (op2 ixA (op2 ixA (eV 4) (eC (.int 1))) (eC (.int 0))) (eLst (aCons (eC (.str "var")) (aCons (eC (.str "value")) aNil))))))) (sRet (eC (.bl false))) sNil) (iS SB names pool bd (some (.im (pr p)))) = some (.nx (iS SB names pool bd (some (.im (pr p))))) := by
    have a1 : tNotX (tst (eIsi "tuple" (op2 ixA (eV 4) (eC (.int 1))))) (iS SB names pool bd (some (.im (pr p)))) = some (false, iS SB names pool bd (some (.im (pr p)))) := tNot_of (b := true) (by
      refine tst_of ((isi_of (t := "tuple") k1 rfl).trans ?_)
      cases p.2 with
      | val v => rw [show isI "tuple" (T.val v).d = true from isi_tup _]
      | var v => rw [show isI "tuple" (T.var v).d = true from isi_tup _])
    have a2 : tst (op2 neD (eCB gLen (aCons (op2 ixA (eV 4) (eC (.int 1))) aNil)) (eC (.int 2))) (iS SB names pool bd (some (.im (pr p)))) = some (false, iS SB names pool bd (some (.im (pr p)))) := by
      have e : eCB gLen (aCons (op2 ixA (eV 4) (eC (.int 1))) aNil) (iS SB names pool bd (some (.im (pr p)))) = some (.im (.int 2), iS SB names pool bd (some (.im (pr p)))) := eCB_of (aCons_of (g := aNil) (rs := []) k1 rfl) rfl (by cases p.2 <;> rfl)
      exact tst_of (op2_of e rfl rfl rfl ne_22)
    obtain ⟨c, hc, e⟩ := tag
    have el : eLst (aCons (eC (.str "var")) (aCons (eC (.str "value")) aNil)) (iS SB names pool bd (some (.im (pr p)))) = some (.fr (.lst [.str "var", .str "value"]), iS SB names pool bd (some (.im (pr p)))) := eLst_of rfl rfl (by show 2 ≤ sizeLine; omega)
    have a3 : tst (op2 (inA true) (op2 ixA (op2 ixA (eV 4) (eC (.int 1))) (eC (.int 0))) (eLst (aCons (eC (.str "var")) (aCons (eC (.str "value")) aNil)))) (iS SB names pool bd (some (.im (pr p)))) = some (false, iS SB names pool bd (some (.im (pr p)))) := by
      refine tst_of (op2_of e el rfl rfl ?_)
      rw [in_fnb (xs := [.str "var", .str "value"]) rfl (fnb_strs ["var", "value"]), decide_eq_true (by rcases hc with rfl | rfl <;> simp)]
      rfl
    rw [sIf_f (tOr_ff a1 (tOr_ff a2 a3))]
    rfl
  have c3 : (sIf (tOrX (tAndX (tst (op2 eqD (op2 ixA (op2 ixA (eV 4) (eC (.int 1))) (eC (.int 0))) (eC (.str "value")))) (tst (op2 (inA true) (op2 ixA (op2 ixA (eV 4) (eC (.int 1))) (eC (.int 1))) (eV 2)))) (tAndX (tst (op2 eqD (op2 ixA (op2 ixA (eV 4) (eC (.int 1))) (eC (.int 0))) (eC (.str "var")))) (tst (op2 (inA true) (op2 ixA (op2 ixA (eV 4) (eC (.int 1))) (eC (.int 1))) (eV 1))))) (sRet (eC (.bl false))) sNil) (iS SB names pool bd (some (.im (pr p)))) = some (.nx (iS SB names pool bd (some (.im (pr p))))) := by
    cases h : p.2 with
    | val v =>
      have kt : op2 ixA (op2 ixA (eV 4) (eC (.int 1))) (eC (.int 0)) (iS SB names pool bd (some (.im (pr p)))) = some (.im (.str "value"), iS SB names pool bd (some (.im (pr p)))) := op2_of k1 rfl rfl rfl (by rw [h]; rfl)
      rw [h] at k11
      obtain ⟨h1, h2⟩ := M.tv p hp v h
      have a1 := tst_of (op2_of kt (fb := eC (.str "value")) rfl rfl rfl (eq_ss okw okw))
      have a2 : tst (op2 (inA true) (op2 ixA (op2 ixA (eV 4) (eC (.int 1))) (eC (.int 1))) (eV 2)) (iS SB names pool bd (some (.im (pr p)))) = some (false, iS SB names pool bd (some (.im (pr p)))) := by
        refine tst_of (op2_of k11 rfl rfl rfl ?_)
        show inA true v (.lst pool) = _
        rw [in_fnb (fnb_okV h2) (fun y hy => fnb_okV (M.pok y hy)), decide_eq_true h1]
        rfl
      have a3 := tst_of (op2_of kt (fb := eC (.str "var")) rfl rfl rfl (eq_ss okw okv))
      rw [decide_eq_true rfl] at a1
      rw [decide_eq_false vne] at a3
      rw [sIf_f (tOr_ff (tAnd_t a1 a2) (tAnd_f a3))]
      rfl
    | var x =>
      have kt : op2 ixA (op2 ixA (eV 4) (eC (.int 1))) (eC (.int 0)) (iS SB names pool bd (some (.im (pr p)))) = some (.im (.str "var"), iS SB names pool bd (some (.im (pr p)))) := op2_of k1 rfl rfl rfl (by rw [h]; rfl)
      rw [h] at k11
      obtain ⟨h1, h2⟩ := M.tx p hp x h
      have a1 := tst_of (op2_of kt (fb := eC (.str "value")) rfl rfl rfl (eq_ss okv okw))
      have a3 := tst_of (op2_of kt (fb := eC (.str "var")) rfl rfl rfl (eq_ss okv okv))
      have a4 : tst (op2 (inA true) (op2 ixA (op2 ixA (eV 4) (eC (.int 1))) (eC (.int 1))) (eV 1)) (iS SB names pool bd (some (.im (pr p)))) = some (false, iS SB names pool bd (some (.im (pr p)))) := by
        refine tst_of (op2_of k11 rfl rfl rfl ?_)
        show inA true (.str x) (.lst (names.map D.str)) = _
        rw [in_fnb rfl (fnb_strs names), decide_eq_true (mem_str.mpr h1)]
        rfl
      rw [decide_eq_true rfl] at a3
      rw [decide_eq_false (Ne.symm vne)] at a1
      rw [sIf_f (tOr_ff (tAnd_f a1) (tAnd_t a3 a4))]
      rfl
  unfold bl__law_is_map_1
  rw [sSeq_nx c1, sSeq_nx c2, sSeq_nx c3]
  have e := sDrop_of (r := .im .non) (eMu_of (p := isLst) (g := muAppend) (i := 3) (c0 := .lst (bd.map D.str)) (c := .lst (bd.map D.str)) (c' := .lst ((bd ++ [p.1]).map D.str)) (rs := [.im (.str p.1)]) (ds := [.str p.1]) (s := iS SB names pool bd (some (.im (pr p)))) (s1 := iS SB names pool bd (some (.im (pr p)))) (f := aCons (fz (op2 ixA (eV 4) (eC (.int 0)))) aNil) rfl rfl (aCons_of (g := aNil) (rs := []) (fz_im k0) rfl) rfl rfl (o := .im .non) (by
      show (if (bd.map D.str).length < sizeLine then some (Res.im D.non, D.lst (bd.map D.str ++ [.str p.1])) else none) = _
      rw [if_pos (by rw [List.length_map]; omega), List.map_append]
      rfl))
  exact e
end G.k97

set_option Elab.async false
set_option linter.all false
set_option maxRecDepth 100000
/-! L97j: is_map as a whole. -/
namespace G.k97
open PySem PySem.Spec PyProof.Rows L2 G
theorem setS_nodup : ∀ (xs acc : List Str), (∀ x ∈ xs, x ∉ acc) → xs.Nodup → xs.foldl (fun acc x => if x ∈ acc then acc else acc ++ [x]) acc = acc ++ xs
  | [], acc, _, _ => by simp
  | x :: r, acc, h, nd => by
    obtain ⟨n1, n2⟩ := List.nodup_cons.mp nd
    rw [List.foldl_cons, if_neg (h x List.mem_cons_self), setS_nodup r (acc ++ [x]) (fun y hy z => by
      rcases List.mem_append.mp z with z | z
      · exact h y (List.mem_cons_of_mem _ hy) z
      · rw [List.mem_singleton.mp z] at hy
        exact n1 hy) n2]
    simp
theorem is_map_ok {SB : Bd} {names : List Str} {pool : List D} (M : MapOk SB names pool) : F__law_is_map [.im (.tup (SB.map pr)), .im (.lst (names.map D.str)), .im (.lst pool)] = some (.im (.bl true), []) := by
  have hbig : 1000 ≤ sizeLine := by decide
  have hkl : (keys SB).length < 64 := by unfold keys; rw [List.length_map]; exact M.sz
  have e0 : (sIf (tNotX (tst (eIsi "tuple" (eV 0)))) (sRet (eC (.bl false))) sNil) (slots0 5 [.im (.tup (SB.map pr)), .im (.lst (names.map D.str)), .im (.lst pool)]) = some (.nx [some (.im (.tup (SB.map pr))), some (.im (.lst (names.map D.str))), some (.im (.lst pool)), none, none]) := by
    rw [sIf_f (tNot_of (b := true) (tst_of ((isi_of (d := .tup (SB.map pr)) rfl rfl).trans (by rw [isi_tup]))))]
    rfl
  have e1 : sAsg 3 (eLst aNil) [some (.im (.tup (SB.map pr))), some (.im (.lst (names.map D.str))), some (.im (.lst pool)), none, none] = some (.nx (iS SB names pool [] none)) := rfl
  obtain ⟨o, e2, q⟩ := sForM (f := pr) (xs := SB) (fi := itA (eFz 0)) (g := gN 4) (b := bl__law_is_map_1) (sd := iS SB names pool [] none) (s := iS SB names pool [] none) rfl
    (fun pre s => ∃ x4, Fr x4 ∧ s = iS SB names pool (keys pre) x4) (fun _ _ => False) ⟨none, .non, rfl⟩ (fun pre p post s hp ⟨x4, h4, hs⟩ => by
      subst hs
      have hpl : (keys pre).length < 1000 := by
        have := congrArg List.length hp
        have hz := M.sz
        rw [List.length_append] at this
        unfold keys
        rw [List.length_map]
        omega
      refine ⟨iS SB names pool (keys pre) (some (.im (pr p))), _, ?_, map_step M (by rw [hp]; exact List.mem_append_right _ List.mem_cons_self) hpl, some (.im (pr p)), Fr.im, ?_⟩
      · rcases h4 with rfl | ⟨_, rfl⟩ <;> rfl
      · show iS SB names pool (keys pre ++ [p.1]) _ = iS SB names pool (keys (pre ++ [p])) _
        unfold keys
        rw [List.map_append]
        rfl)
  cases o with
  | nx s2 =>
    obtain ⟨x4, h4, rfl⟩ := q
    have hset : gSetSort [.lst ((keys SB).map D.str)] = some (.fr (.lst ((keys SB).map D.str))) := by
      have e : setS (keys SB) = keys SB := by
        unfold setS
        rw [setS_nodup (keys SB) [] (fun _ _ z => by cases z) M.nd]
        rfl
      simp [gSetSort, strsOf_map, hkl, e, M.srt]
    have hpl : pl 60 (.lst ((keys SB).map D.str)) = true := by
      simp only [pl, List.all_eq_true]
      intro d hd
      obtain ⟨x, hx, rfl⟩ := List.mem_map.mp hd
      obtain ⟨p, hp, rfl⟩ := List.mem_map.mp hx
      exact M.nok _ (M.kn p hp)
    have e3 : (sIf (tst (op2 neD (eV 3) (eCB gSetSort (aCons (eV 3) aNil)))) (sRet (eC (.bl false))) sNil) (iS SB names pool (keys SB) x4) = some (.nx (iS SB names pool (keys SB) x4)) := by
      rw [sIf_f (s' := iS SB names pool (keys SB) x4) (tst_of (op2_of (ra := .bo 3) rfl (eCB_of (rs := [.bo 3]) (s1 := iS SB names pool (keys SB) x4) rfl rfl hset) rfl rfl (by rw [neD_pl hpl hpl]; simp)))]
      rfl
    have hn4 : noOw (iS SB names pool (keys SB) x4) [4] = true := by rcases h4 with rfl | ⟨_, rfl⟩ <;> rfl
    have e4 := eLcTF (c := pr) (i := 4) (fi := itA (eFz 0)) (ct := ct__law_is_map_2) (fe := fe__law_is_map_3) (p := fun _ => false) (f := pr) (sd := iS SB names pool (keys SB) x4) (s := iS SB names pool (keys SB) x4) (xs := SB) rfl hn4 (fun p hp => by
      show ct__law_is_map_2 (iS SB names pool (keys SB) (some (.im (pr p)))) = some (false, iS SB names pool (keys SB) (some (.im (pr p))))
      have k1 : op2 ixA (eV 4) (eC (.int 1)) (iS SB names pool (keys SB) (some (.im (pr p)))) = some (.im p.2.d, iS SB names pool (keys SB) (some (.im (pr p)))) := op2_of rfl rfl rfl rfl (pr1 p)
      unfold ct__law_is_map_2
      cases h : p.2 with
      | val v =>
        rw [h] at k1
        have kt : op2 ixA (op2 ixA (eV 4) (eC (.int 1))) (eC (.int 0)) (iS SB names pool (keys SB) (some (.im (pr p)))) = some (.im (.str "value"), iS SB names pool (keys SB) (some (.im (pr p)))) := op2_of k1 rfl rfl rfl rfl
        have a3 := tst_of (op2_of kt (fb := eC (.str "var")) rfl rfl rfl (eq_ss okw okv))
        rw [decide_eq_false vne] at a3
        exact tAnd_f a3
      | var x =>
        rw [h] at k1
        obtain ⟨h1, h2⟩ := M.tx p hp x h
        have kt : op2 ixA (op2 ixA (eV 4) (eC (.int 1))) (eC (.int 0)) (iS SB names pool (keys SB) (some (.im (pr p)))) = some (.im (.str "var"), iS SB names pool (keys SB) (some (.im (pr p)))) := op2_of k1 rfl rfl rfl rfl
        have k11 : op2 ixA (op2 ixA (eV 4) (eC (.int 1))) (eC (.int 1)) (iS SB names pool (keys SB) (some (.im (pr p)))) = some (.im (.str x), iS SB names pool (keys SB) (some (.im (pr p)))) := op2_of k1 rfl rfl rfl rfl
        have a3 := tst_of (op2_of kt (fb := eC (.str "var")) rfl rfl rfl (eq_ss okv okv))
        rw [decide_eq_true rfl] at a3
        refine tAnd_t a3 (tst_of (op2_of k11 (rb := .bo 3) rfl rfl rfl ?_))
        show inA false (.str x) (.lst ((keys SB).map D.str)) = _
        rw [in_fnb rfl (fnb_strs _), decide_eq_false (fun z => h2 (mem_str.mp z))]
        rfl) (fun _ _ h => by cases h) (by have := M.sz; omega)
    rw [show (SB.filter fun _ => false) = [] by simp] at e4
    unfold F__law_is_map b__law_is_map
    refine (fnF_rt (r := .im (.bl true)) (s := iS SB names pool (keys SB) x4) rfl ?_).trans rfl
    rw [sSeq_nx e0, sSeq_nx e1, sSeq_nx e2, sSeq_nx e3]
    exact sRet_of (op2_of (da := .int 0) (eCB_of (aCons_of (g := aNil) (rs := []) e4 rfl) rfl rfl) rfl rfl rfl (by rw [eq_ii]; rfl))
  | rt r s => exact q.elim
  | bk s => exact q.elim
  | ct s => exact q.elim
end G.k97

set_option Elab.async false
set_option linter.all false
set_option maxRecDepth 100000
/-! L97k: the plain law: names, pool, rows that fit. -/
namespace G.k97
open PySem PySem.Spec PyProof.Rows L2 G
def isVar : T → Bool
  | .var _ => true
  | .val _ => false
def varsOf (l : List T) : List Str := l.filterMap fun t => match t with
  | .var x => some x
  | .val _ => none
theorem vars_snd : ∀ l : List T, (l.filter isVar).map T.snd = (varsOf l).map D.str
  | [] => rfl
  | .var x :: r => by
    rw [List.filter_cons_of_pos rfl, List.map_cons, vars_snd r]
    rfl
  | .val v :: r => by
    rw [List.filter_cons_of_neg (by simp [isVar]), vars_snd r]
    rfl
theorem mem_vars {l : List T} {x : Str} : x ∈ varsOf l ↔ T.var x ∈ l := by
  unfold varsOf
  rw [List.mem_filterMap]
  constructor
  · rintro ⟨t, h, e⟩
    cases t with
    | val v => cases e
    | var y => cases e; exact h
  · exact fun h => ⟨_, h, rfl⟩
def poolF (l : List T) (acc : List D) : List D := l.foldl (fun acc t => match t with
  | .val v => if v ∈ acc then acc else acc ++ [v]
  | .var _ => acc) acc
theorem poolF_app (l m : List T) (acc : List D) : poolF (l ++ m) acc = poolF m (poolF l acc) := List.foldl_append
theorem poolF_mem : ∀ (l : List T) (acc : List D) (v : D), v ∈ poolF l acc ↔ v ∈ acc ∨ T.val v ∈ l
  | [], acc, v => by simp [poolF]
  | t :: r, acc, v => by
    show v ∈ poolF r _ ↔ _
    rw [poolF_mem r]
    cases t with
    | var x => simp
    | val w =>
      show (v ∈ (if w ∈ acc then acc else acc ++ [w]) ∨ _) ↔ _
      by_cases h : w ∈ acc
      · rw [if_pos h]
        constructor
        · rintro (z | z)
          · exact .inl z
          · exact .inr (List.mem_cons_of_mem _ z)
        · rintro (z | z)
          · exact .inl z
          · rcases List.mem_cons.mp z with z | z
            · cases z; exact .inl h
            · exact .inr z
      · rw [if_neg h]
        simp [or_assoc]
theorem poolF_nd : ∀ (l : List T) (acc : List D), acc.Nodup → (poolF l acc).Nodup
  | [], acc, h => h
  | t :: r, acc, h => by
    show (poolF r _).Nodup
    cases t with
    | var x => exact poolF_nd r acc h
    | val w =>
      refine poolF_nd r _ ?_
      show (if w ∈ acc then acc else acc ++ [w]).Nodup
      split
      · exact h
      · rename_i n
        exact List.nodup_append.mpr ⟨h, List.nodup_cons.mpr ⟨by simp, List.nodup_nil⟩, fun a ha b hb => by
          rw [List.mem_singleton.mp hb]
          exact fun z => n (z ▸ ha)⟩
theorem nodup_len {α : Type} [DecidableEq α] : ∀ {l m : List α}, l.Nodup → (∀ x ∈ l, x ∈ m) → l.length ≤ m.length
  | [], _, _, _ => Nat.zero_le _
  | x :: r, m, nd, h => by
    obtain ⟨n1, n2⟩ := List.nodup_cons.mp nd
    have hx := h x List.mem_cons_self
    have ih := nodup_len (l := r) (m := m.erase x) n2 fun y hy => by
      have hyx : y ≠ x := fun z => n1 (z ▸ hy)
      exact (List.mem_erase_of_ne hyx).mpr (h y (List.mem_cons_of_mem _ hy))
    rw [List.length_erase_of_mem hx] at ih
    have : 0 < m.length := List.length_pos_of_mem hx
    rw [List.length_cons]
    omega
theorem setS_mem (xs : List Str) (x : Str) : x ∈ setS xs ↔ x ∈ xs := by
  have key : ∀ (l acc : List Str), x ∈ l.foldl (fun acc x => if x ∈ acc then acc else acc ++ [x]) acc ↔ x ∈ acc ∨ x ∈ l := by
    intro l
    induction l with
    | nil => intro acc; simp
    | cons y r ih =>
      intro acc
      rw [List.foldl_cons, ih]
      by_cases h : y ∈ acc
      · rw [if_pos h]
        constructor
        · rintro (z | z)
          · exact .inl z
          · exact .inr (List.mem_cons_of_mem _ z)
        · rintro (z | z)
          · exact .inl z
          · rcases List.mem_cons.mp z with z | z
            · exact .inl (z ▸ h)
            · exact .inr z
      · rw [if_neg h]
        simp [or_assoc]
  unfold setS
  rw [key]
  simp
theorem setS_nd (xs : List Str) : (setS xs).Nodup := by
  have key : ∀ (l acc : List Str), acc.Nodup → (l.foldl (fun acc x => if x ∈ acc then acc else acc ++ [x]) acc).Nodup := by
    intro l
    induction l with
    | nil => intro acc h; exact h
    | cons y r ih =>
      intro acc h
      rw [List.foldl_cons]
      refine ih _ ?_
      split
      · exact h
      · rename_i n
        exact List.nodup_append.mpr ⟨h, List.nodup_cons.mpr ⟨by simp, List.nodup_nil⟩, fun a ha b hb => by
          rw [List.mem_singleton.mp hb]
          exact fun z => n (z ▸ ha)⟩
  exact key xs [] List.nodup_nil
def namesOf (l : List T) : List Str := sortS (setS (varsOf l))
theorem mem_names {l : List T} {x : Str} : x ∈ namesOf l ↔ T.var x ∈ l := by
  unfold namesOf
  rw [(sortS_perm _).mem_iff, setS_mem, mem_vars]
theorem names_nd (l : List T) : (namesOf l).Nodup := (sortS_perm _).nodup_iff.mpr (setS_nd _)
/-! rows -/
def sg (names : List Str) (row : List D) : Str → D := fun x => match lk (zB names row) x with
  | some t => t.snd
  | none => .non
theorem zB_val {names : List Str} {row : List D} {p : Str × T} (h : p ∈ zB names row) : ∃ v ∈ row, p.2 = .val v := by
  obtain ⟨_, h2⟩ := List.of_mem_zip h
  obtain ⟨v, hv, e⟩ := List.mem_map.mp h2
  exact ⟨v, hv, e.symm⟩
theorem zB_keys : ∀ {names : List Str} {row : List D}, row.length = names.length → keys (zB names row) = names
  | [], [], _ => rfl
  | x :: r, v :: s, h => by
    show x :: keys (zB r s) = _
    rw [zB_keys (by simpa using h)]
  | [], _ :: _, h => by simp at h
  | _ :: _, [], h => by simp at h
theorem rowOf_ev {names : List Str} {row : List D} (hl : row.length = names.length) {t : T} (ht : ∀ x, t = .var x → x ∈ names) : rowOf names row t = ev (sg names row) t := by
  cases t with
  | val v => rfl
  | var x =>
    have hx := ht x rfl
    rw [← zB_keys hl] at hx
    obtain ⟨t, e⟩ := lk_some hx
    show (put (zB names row) (.var x)).snd = sg names row x
    rw [put_var]
    unfold sg
    rw [e]
    rfl
theorem sg_mem {names : List Str} {row : List D} (hl : row.length = names.length) {x : Str} (hx : x ∈ names) : sg names row x ∈ row := by
  rw [← zB_keys hl] at hx
  obtain ⟨t, e⟩ := lk_some hx
  obtain ⟨v, hv, e2⟩ := zB_val (lk_mem e)
  unfold sg
  rw [e]
  dsimp only at e2
  rw [e2]
  exact hv
theorem lk_map : ∀ (names : List Str) (σ : Str → D) {x : Str}, x ∈ names → lk (zB names (names.map σ)) x = some (.val (σ x))
  | [], _, _, h => by cases h
  | y :: r, σ, x, h => by
    show (if y = x then some (T.val (σ y)) else lk (zB r (r.map σ)) x) = _
    by_cases e : y = x
    · rw [if_pos e, e]
    · rw [if_neg e]
      rcases List.mem_cons.mp h with z | z
      · exact absurd z.symm e
      · exact lk_map r σ z
theorem sg_map {names : List Str} {σ : Str → D} {x : Str} (h : x ∈ names) : sg names (names.map σ) x = σ x := by
  unfold sg
  rw [lk_map names σ h]
  rfl
theorem map_eq_zip {α β : Type} {f : α → β} : ∀ {as bs : List α}, as.length = bs.length → (as.map f = bs.map f ↔ ∀ p ∈ as.zip bs, f p.1 = f p.2)
  | [], [], _ => by simp
  | a :: as, b :: bs, h => by
    rw [List.map_cons, List.map_cons, List.cons.injEq, map_eq_zip (by simpa using h), List.zip_cons_cons]
    constructor
    · rintro ⟨h1, h2⟩ p hp
      rcases List.mem_cons.mp hp with z | z
      · rw [z]; exact h1
      · exact h2 p z
    · exact fun k => ⟨k (a, b) List.mem_cons_self, fun p hp => k p (List.mem_cons_of_mem _ hp)⟩
  | [], _ :: _, h => by simp at h
  | _ :: _, [], h => by simp at h
/-- the index of a name, and the row's value there -/
theorem idx_row : ∀ {names : List Str} {row : List D} {x : Str}, row.length = names.length → x ∈ names → ∃ j v, idxD (names.map D.str) (.str x) = some j ∧ row[j]? = some v ∧ lk (zB names row) x = some (.val v)
  | [], _, _, _, h => by cases h
  | _ :: _, [], _, h, _ => by simp at h
  | y :: r, v :: s, x, hl, hx => by
    show ∃ j w, (if D.str y = D.str x then some 0 else (idxD (r.map D.str) (.str x)).map (· + 1)) = some j ∧ _ ∧ (if y = x then some (T.val v) else lk (zB r s) x) = _
    by_cases e : y = x
    · exact ⟨0, v, by rw [if_pos (by rw [e])], rfl, by rw [if_pos e]⟩
    · rcases List.mem_cons.mp hx with z | z
      · exact absurd z.symm e
      · obtain ⟨j, w, h1, h2, h3⟩ := idx_row (names := r) (row := s) (by simpa using hl) z
        exact ⟨j + 1, w, by rw [if_neg (by simpa using e), h1]; rfl, by simpa using h2, by rw [if_neg e]; exact h3⟩
/-! the answer -/
theorem lk_acts {B : Bd} (x : Str) (h : x ∈ keys B) : lk (acts B) x = lk B x := by
  obtain ⟨t, e⟩ := lk_some h
  rw [e]
  unfold acts
  have key : ∀ l : List Str, x ∈ l → lk (l.map fun x => (x, (lk B x).getD (.var x))) x = some t := by
    intro l
    induction l with
    | nil => intro h; cases h
    | cons y r ih =>
      intro h
      show (if y = x then some ((lk B y).getD (.var y)) else lk (r.map _) x) = some t
      by_cases q : y = x
      · rw [if_pos q, q, e]; rfl
      · rw [if_neg q]
        rcases List.mem_cons.mp h with z | z
        · exact absurd z.symm q
        · exact ih z
  exact key _ ((sortS_perm _).mem_iff.mpr h)
theorem acts_keys (B : Bd) : keys (acts B) = sortS (keys B) := by
  unfold acts keys
  rw [List.map_map]
  have : (sortS (B.map (·.1))).map ((fun p : Str × T => p.1) ∘ fun x => (x, (lk B x).getD (.var x))) = (sortS (B.map (·.1))).map id := List.map_congr_left fun x _ => rfl
  rw [this, List.map_id]
theorem put_acts {B : Bd} (t : T) : put (acts B) t = put B t := by
  cases t with
  | val v => rfl
  | var x =>
    rw [put_var, put_var]
    by_cases h : x ∈ keys B
    · rw [lk_acts x h]
    · have h1 : lk B x = none := by
        cases e : lk B x with
        | none => rfl
        | some t => exact absurd (mem_keys (lk_mem e)) h
      have h2 : lk (acts B) x = none := by
        cases e : lk (acts B) x with
        | none => rfl
        | some t =>
          have := mem_keys (lk_mem e)
          rw [acts_keys] at this
          exact absurd ((sortS_perm _).mem_iff.mp this) h
      rw [h1, h2]
theorem acts_mem {B : Bd} (I : Inv B) {p : Str × T} (h : p ∈ acts B) : p ∈ B := by
  unfold acts at h
  obtain ⟨x, hx, rfl⟩ := List.mem_map.mp h
  obtain ⟨t, e⟩ := lk_some ((sortS_perm _).mem_iff.mp hx)
  rw [e]
  exact lk_mem e
theorem acts_map {B : Bd} (I : Inv B) {ts bs : List T} {pool : List D} (hv : ∀ v, T.val v ∈ ts ++ bs → v ∈ pool) (hp : ∀ v ∈ pool, okV v = true) (hx : ∀ x, T.var x ∈ ts ++ bs → PyData.strOk x = true) (hB : OkB (fun d => ∃ x, d = .str x ∧ T.var x ∈ ts ++ bs) (fun v => T.val v ∈ ts ++ bs) B) (hz : B.length < 64) : MapOk (acts B) (namesOf (ts ++ bs)) pool where
  srt := by rw [acts_keys]; exact (sortS_unique (List.Perm.refl _) (sortS_sorted _)).symm
  nd := by rw [acts_keys]; exact (sortS_perm _).nodup_iff.mpr I.nd
  kn := fun p h => by
    obtain ⟨x, e, hx⟩ := (hB p (acts_mem I h)).1
    cases e
    exact mem_names.mpr hx
  tv := fun p h v e => by
    have := (hB p (acts_mem I h)).2
    rw [e] at this
    exact ⟨hv v this, hp v (hv v this)⟩
  tx := fun p h y e => by
    have q := (hB p (acts_mem I h)).2
    rw [e] at q
    obtain ⟨x, e2, hx⟩ := q
    cases e2
    refine ⟨mem_names.mpr hx, fun z => ?_⟩
    rw [acts_keys] at z
    exact I.off p (acts_mem I h) y e ((sortS_perm _).mem_iff.mp z)
  nok := fun x h => hx x (mem_names.mp h)
  pok := hp
  sz := by
    unfold acts
    rw [List.length_map, sortS_len]
    unfold keys
    rw [List.length_map]
    exact hz
end G.k97

set_option Elab.async false
set_option linter.all false
set_option maxRecDepth 100000
/-! L97l: the law's own steps. -/
namespace G.k97
open PySem PySem.Spec PyProof.Rows L2 G
abbrev lS (S : D) (x1 x2 x3 x4 x5 x6 x7 x8 x9 x10 x11 x12 x13 x14 : Option SV) : Slots := [some (.im S), x1, x2, x3, x4, x5, x6, x7, x8, x9, x10, x11, x12, x13, x14, none]
/-- the world: own, or frozen -/
def OrW (W : D) (x : Option SV) : Prop := x = some (.ow false W) ∨ x = some (.im W)
theorem OrW.eFz {W : D} {x2 : Option SV} (h : OrW W x2) (S : D) (x1 x3 x4 x5 x6 x7 x8 x9 x10 x11 x12 x13 x14 : Option SV) : eFz 2 (lS S x1 x2 x3 x4 x5 x6 x7 x8 x9 x10 x11 x12 x13 x14) = some (.im W, lS S x1 (some (.im W)) x3 x4 x5 x6 x7 x8 x9 x10 x11 x12 x13 x14) := by
  rcases h with rfl | rfl <;> rfl
theorem term_call {S : D} {is : List Int} {x0 : D} {nm : List Str} {v0 v1 v2 : D} (hn : nm ≠ []) {x2 : Option SV} (h2 : OrW (wD x0 nm v0 v1 v2) x2) (x3 x4 x13 : Option SV) : ∃ (t : T) (is' : List Int), InT nm [v0, v1, v2] t ∧
    eCall F__law_term (aCons (eV 1) (aCons (eFz 2) aNil)) (lS S (some (.ow false (dI is))) x2 x3 x4 none none none none none none none none x13 none) = some (.im t.d, lS S (some (.ow false (dI is'))) (some (.im (wD x0 nm v0 v1 v2))) x3 x4 none none none none none none none none x13 none) := by
  obtain ⟨t, is', ht, e⟩ := term_ok is x0 hn v0 v1 v2
  refine ⟨t, is', ht, ?_⟩
  exact eCall_im (rs := [.bo 1, .im (wD x0 nm v0 v1 v2)]) (s' := lS S (some (.ow false (dI is))) (some (.im (wD x0 nm v0 v1 v2))) x3 x4 none none none none none none none none x13 none) (aCons_of rfl (aCons_of (g := aNil) (rs := []) (h2.eFz S _ x3 x4 none none none none none none none none x13 none) rfl)) rfl (by simp [bos]) e
theorem terms_lc {S : D} {is : List Int} {x0 : D} {nm : List Str} {v0 v1 v2 : D} (hn : nm ≠ []) {x2 : Option SV} (h2 : OrW (wD x0 nm v0 v1 v2) x2) {n : Nat} (hz : n ≤ 5) (x4 : Option SV) {fe : EX} (hfe : fe = fz (eCall F__law_term (aCons (eV 1) (aCons (eFz 2) aNil)))) :
    ∃ (ts : List T) (is' : List Int) (x2' : Option SV), ts.length = n ∧ (∀ t ∈ ts, InT nm [v0, v1, v2] t) ∧ OrW (wD x0 nm v0 v1 v2) x2' ∧
      fz (eCB gTuple (aCons (eLc [13] (itR1 (aCons (eV 3) aNil)) (gN 13) tTrue fe) aNil)) (lS S (some (.ow false (dI is))) x2 (some (.im (.int n))) x4 none none none none none none none none none none) = some (.im (.tup (ts.map T.d)), lS S (some (.ow false (dI is'))) x2' (some (.im (.int n))) x4 none none none none none none none none none none) := by
  have hbig : 1000 ≤ sizeLine := by decide
  have hit : itR1 (aCons (eV 3) aNil) (lS S (some (.ow false (dI is))) x2 (some (.im (.int n))) x4 none none none none none none none none none none) = some (ilist 0 n, lS S (some (.ow false (dI is))) x2 (some (.im (.int n))) x4 none none none none none none none none none none) := itR1_nat rfl (by omega)
  obtain ⟨rs, s2, e, ⟨ts, is', x2', hts, hok, h2', rfl⟩, hl⟩ := eLcS (i := 13) (fe := fe) (fun acc s => ∃ (ts : List T) (is' : List Int) (x2' : Option SV), acc = ts.map T.d ∧ (∀ t ∈ ts, InT nm [v0, v1, v2] t) ∧ OrW (wD x0 nm v0 v1 v2) x2' ∧ s = lS S (some (.ow false (dI is'))) x2' (some (.im (.int n))) x4 none none none none none none none none none none)
    (fun acc s ⟨_, _, _, _, _, _, h⟩ => by rw [h]; show 13 < 16; decide) hit rfl ⟨[], is, x2, rfl, (fun t ht => by cases ht), h2, rfl⟩ (fun d hd acc s ⟨ts, is', x2', ha, hok, h2', hs⟩ => by
      subst hs
      obtain ⟨t, is'', ht, e⟩ := term_call (S := S) (is := is') hn h2' (some (.im (.int n))) x4 (some (.im d))
      refine ⟨t.d, lS S (some (.ow false (dI is''))) (some (.im (wD x0 nm v0 v1 v2))) (some (.im (.int n))) x4 none none none none none none none none (some (.im d)) none, ?_, ts ++ [t], is'', some (.im (wD x0 nm v0 v1 v2)), by rw [ha, List.map_append]; rfl, fun u hu => ?_, .inr rfl, rfl⟩
      · rw [hfe]
        exact fz_im e
      · rcases List.mem_append.mp hu with z | z
        · exact hok u z
        · rw [List.mem_singleton.mp z]; exact ht) (by simp [ilist]; omega)
  subst hts
  refine ⟨ts, is', x2', ?_, hok, h2', fz_im (eCB_of (aCons_of (g := aNil) (rs := []) e rfl) rfl rfl)⟩
  have := hl
  simpa [ilist] using this
/-- everything up to the terms -/
theorem head_ok {ns : List Int} (h : ns.length ≤ 63) : ∃ (nm : List Str) (x0 v0 v1 v2 : D) (is : List Int) (x2 x3 : Option SV) (ts bs : List T), nm.length = 4 ∧ (∀ w ∈ nm, PyData.strOk w = true) ∧ (nm.map (·.length)).sum ≤ 1000 ∧ okV v0 = true ∧ okV v1 = true ∧ okV v2 = true ∧
    bs.length = ts.length ∧ ts.length ≤ 5 ∧ (∀ t ∈ ts, InT nm [v0, v1, v2] t) ∧ (∀ t ∈ bs, InT nm [v0, v1, v2] t) ∧ OrW (wD x0 nm v0 v1 v2) x2 ∧
    ∀ (f : SX), (sSeq (sAsg 1 (eCall F__law_draws (aCons (eFz 0) (aCons (eC (.int 120)) aNil)))) (sSeq (sAsg 2 (eCall F__law_world (aCons (eV 1) aNil))) (sSeq (sSub 2 (eC (.int 1)) (fz (op2 addD (op2 ixA (eV 2) (eC (.int 1))) (eLst (aCons (fz (op2 addD (eJoin (eC (.str "")) (op2 ixA (eV 2) (eC (.int 1)))) (eC (.str "q")))) aNil))))) (sSeq (sAsg 3 (fz (eCall F__law_take (aCons (eV 1) (aCons (eC (.int 6)) aNil))))) (sSeq (sAsg 4 (fz (eCB gTuple (aCons (eLc [13] (itR1 (aCons (eV 3) aNil)) (gN 13) tTrue fe_law_1) aNil)))) (sSeq (sAsg 5 (fz (eCB gTuple (aCons (eLc [13] (itR1 (aCons (eV 3) aNil)) (gN 13) tTrue fe_law_2) aNil)))) f)))))) (slots0 16 [.im (dI ns)]) =
      f (lS (dI ns) (some (.ow false (dI is))) x2 x3 (some (.im (.tup (ts.map T.d)))) (some (.im (.tup (bs.map T.d)))) none none none none none none none none none) := by
  have hbig : 1000 ≤ sizeLine := by decide
  obtain ⟨is0, e0⟩ := draws_ok h
  have a1 : sAsg 1 (eCall F__law_draws (aCons (eFz 0) (aCons (eC (.int 120)) aNil))) (slots0 16 [.im (dI ns)]) = some (.nx (lS (dI ns) (some (.ow false (dI is0))) none none none none none none none none none none none none none)) :=
    sAsg_fr (s' := lS (dI ns) none none none none none none none none none none none none none none) (eCall_fr (rs := [.im (dI ns), .im (.int 120)]) (s' := lS (dI ns) none none none none none none none none none none none none none none) rfl rfl (by simp [bos]) e0) rfl
  obtain ⟨x0, nm, v0, v1, v2, is1, hnl, hnk, hns, o0, o1, o2, e1⟩ := world_ok is0
  have a2 : sAsg 2 (eCall F__law_world (aCons (eV 1) aNil)) (lS (dI ns) (some (.ow false (dI is0))) none none none none none none none none none none none none none) = some (.nx (lS (dI ns) (some (.ow false (dI is1))) (some (.ow false (wD x0 nm v0 v1 v2))) none none none none none none none none none none none none)) :=
    sAsg_fr (s' := lS (dI ns) (some (.ow false (dI is1))) none none none none none none none none none none none none none) (eCall_fr (rs := [.bo 1]) (s' := lS (dI ns) (some (.ow false (dI is0))) none none none none none none none none none none none none none) rfl rfl (by simp [bos]) e1) rfl
  let q : Str := Str.join "" nm ++ "q"
  have ql : Str.length "q" = 1 := by decide +kernel
  have jl := join0_len nm
  have qlen : q.length ≤ 101 := by
    show (Str.join "" nm ++ "q").length ≤ 101
    rw [Str.length_append, ql]
    omega
  have qok : PyData.strOk q = true := strOk_app (strOk_join emp_ok hnk) (by decide +kernel)
  let s1 : Slots := lS (dI ns) (some (.ow false (dI is1))) (some (.ow false (wD x0 nm v0 v1 v2))) none none none none none none none none none none none none
  have k1 : op2 ixA (eV 2) (eC (.int 1)) s1 = some (.im (.lst (nm.map D.str)), s1) := op2_of (ra := .bo 2) (da := wD x0 nm v0 v1 v2) rfl rfl rfl rfl rfl
  have k2 : eJoin (eC (.str "")) (op2 ixA (eV 2) (eC (.int 1))) s1 = some (.im (.str (Str.join "" nm)), s1) := eJoin_of k1 rfl rfl (by omega)
  have k3 : op2 addD (eJoin (eC (.str "")) (op2 ixA (eV 2) (eC (.int 1)))) (eC (.str "q")) s1 = some (.im (.str q), s1) := op2_of k2 rfl rfl rfl (addD_str (by rw [ql]; omega))
  have k4 : fz (op2 addD (op2 ixA (eV 2) (eC (.int 1))) (eLst (aCons (fz (op2 addD (eJoin (eC (.str "")) (op2 ixA (eV 2) (eC (.int 1)))) (eC (.str "q")))) aNil))) s1 = some (.im (.lst ((nm ++ [q]).map D.str)), s1) := by
    refine fz_fr (op2_of k1 (eLst_of (aCons_of (g := aNil) (rs := []) (fz_im k3) rfl) rfl (by show 1 ≤ sizeLine; omega)) rfl rfl ?_)
    rw [addD_lst (by rw [List.length_map, hnl]; show 3 + 1 ≤ sizeLine; omega), List.map_append]
    rfl
  have a3 : sSub 2 (eC (.int 1)) (fz (op2 addD (op2 ixA (eV 2) (eC (.int 1))) (eLst (aCons (fz (op2 addD (eJoin (eC (.str "")) (op2 ixA (eV 2) (eC (.int 1)))) (eC (.str "q")))) aNil)))) s1 = some (.nx (lS (dI ns) (some (.ow false (dI is1))) (some (.ow false (wD x0 (nm ++ [q]) v0 v1 v2))) none none none none none none none none none none none none)) := by
    unfold sSub
    simp only [k4, Option.bind_eq_bind, Option.bind_some]
    rfl
  obtain ⟨r, is2, hr, e2⟩ := call_take (s := lS (dI ns) (some (.ow false (dI is1))) (some (.ow false (wD x0 (nm ++ [q]) v0 v1 v2))) none none none none none none none none none none none none) (i := 1) (m := 6) (b := false) (is := is1) (fa := eC (.int 6)) rfl rfl (by decide)
  have a4 : sAsg 3 (fz (eCall F__law_take (aCons (eV 1) (aCons (eC (.int 6)) aNil)))) (lS (dI ns) (some (.ow false (dI is1))) (some (.ow false (wD x0 (nm ++ [q]) v0 v1 v2))) none none none none none none none none none none none none) = some (.nx (lS (dI ns) (some (.ow false (dI is2))) (some (.ow false (wD x0 (nm ++ [q]) v0 v1 v2))) (some (.im (.int r))) none none none none none none none none none none none)) :=
    sAsg_im (s' := lS (dI ns) (some (.ow false (dI is2))) (some (.ow false (wD x0 (nm ++ [q]) v0 v1 v2))) none none none none none none none none none none none none) (fz_im e2) rfl
  have hne : nm ++ [q] ≠ [] := by simp
  obtain ⟨ts, is3, x2, l1, i1, w1, e3⟩ := terms_lc (S := dI ns) (is := is2) (x0 := x0) (v0 := v0) (v1 := v1) (v2 := v2) hne (.inl rfl) (n := r) (by omega) none (fe := fe_law_1) rfl
  obtain ⟨bs, is4, x2', l2, i2, w2, e4⟩ := terms_lc (S := dI ns) (is := is3) (x0 := x0) (v0 := v0) (v1 := v1) (v2 := v2) hne w1 (n := r) (by omega) (some (.im (.tup (ts.map T.d)))) (fe := fe_law_2) rfl
  refine ⟨nm ++ [q], x0, v0, v1, v2, is4, x2', some (.im (.int r)), ts, bs, by rw [List.length_append, hnl]; rfl, fun w hw => ?_, ?_, o0, o1, o2, by rw [l1, l2], by omega, i1, i2, w2, fun f => ?_⟩
  · rcases List.mem_append.mp hw with z | z
    · exact hnk w z
    · rw [List.mem_singleton.mp z]; exact qok
  · rw [List.map_append, List.sum_append]
    show _ + (q.length + 0) ≤ 1000
    omega
  · rw [sSeq_nx a1, sSeq_nx a2, sSeq_nx a3, sSeq_nx a4, sSeq_nx (sAsg_im e3 rfl)]
    exact sSeq_nx (sAsg_im e4 rfl)
end G.k97

set_option Elab.async false
set_option linter.all false
set_option maxRecDepth 100000
/-! L97m: names, pool, the rows that fit. -/
namespace G.k97
open PySem PySem.Spec PyProof.Rows L2 G
/-- what the terms are known to be -/
structure TsOk (ts bs : List T) : Prop where
  len : bs.length = ts.length
  sm : ts.length ≤ 5
  ok : ∀ t ∈ ts ++ bs, t.ok = true
  nm : (namesOf (ts ++ bs)).length ≤ 4
  pl : (poolF (ts ++ bs) []).length ≤ 3
theorem tsOk_of {nm : List Str} {v0 v1 v2 : D} {ts bs : List T} (h4 : nm.length = 4) (hnk : ∀ w ∈ nm, PyData.strOk w = true) (o0 : okV v0 = true) (o1 : okV v1 = true) (o2 : okV v2 = true) (hl : bs.length = ts.length) (hs : ts.length ≤ 5) (h1 : ∀ t ∈ ts, InT nm [v0, v1, v2] t) (h2 : ∀ t ∈ bs, InT nm [v0, v1, v2] t) : TsOk ts bs := by
  have all : ∀ t ∈ ts ++ bs, InT nm [v0, v1, v2] t := fun t ht => (List.mem_append.mp ht).elim (h1 t) (h2 t)
  refine ⟨hl, hs, fun t ht => ?_, ?_, ?_⟩
  · have q := all t ht
    cases t with
    | val v =>
      have hv : v ∈ [v0, v1, v2] := q
      simp only [List.mem_cons, List.not_mem_nil, or_false] at hv
      rcases hv with rfl | rfl | rfl
      · exact o0
      · exact o1
      · exact o2
    | var x => exact hnk x (mem_str.mp q)
  · rw [← h4]
    exact nodup_len (names_nd _) fun x hx => mem_str.mp (all _ (mem_names.mp hx))
  · refine nodup_len (m := [v0, v1, v2]) (poolF_nd _ [] List.nodup_nil) fun v hv => ?_
    rcases (poolF_mem _ [] v).mp hv with z | z
    · cases z
    · exact all _ z
variable {S W : D} {d0 x2 x3 : Option SV} {ts bs : List T}
abbrev mS (S : D) (d0 x2 x3 : Option SV) (ts bs : List T) (x6 x7 x8 x9 x10 : Option SV) : Slots := lS S d0 x2 x3 (some (.im (.tup (ts.map T.d)))) (some (.im (.tup (bs.map T.d)))) x6 x7 x8 x9 x10 none none none none
theorem both_it (K : TsOk ts bs) (x6 x7 x8 x9 x10 : Option SV) : itA (op2 addD (eV 4) (eV 5)) (mS S d0 x2 x3 ts bs x6 x7 x8 x9 x10) = some ((ts ++ bs).map T.d, mS S d0 x2 x3 ts bs x6 x7 x8 x9 x10) := by
  have hbig : 1000 ≤ sizeLine := by decide
  have e : op2 addD (eV 4) (eV 5) (mS S d0 x2 x3 ts bs x6 x7 x8 x9 x10) = some (.im (.tup ((ts ++ bs).map T.d)), mS S d0 x2 x3 ts bs x6 x7 x8 x9 x10) := by
    refine op2_of (ra := .im (.tup (ts.map T.d))) rfl rfl rfl rfl ?_
    rw [addD_tup (by rw [List.length_map, List.length_map, K.len]; have := K.sm; omega), List.map_append]
  unfold itA
  simp only [e, Option.bind_eq_bind, Option.bind_some]
theorem names_ok (K : TsOk ts bs) : sAsg 6 (fz (eCB gSetSort (aCons (eLc [8] (itA (op2 addD (eV 4) (eV 5))) (gN 8) ct_law_3 fe_law_4) aNil))) (mS S d0 x2 x3 ts bs none none none none none) = some (.nx (mS S d0 x2 x3 ts bs (some (.im (.lst ((namesOf (ts ++ bs)).map D.str)))) none none none none)) := by
  have hbig : 1000 ≤ sizeLine := by decide
  have hl : (ts ++ bs).length ≤ 10 := by rw [List.length_append, K.len]; have := K.sm; omega
  have e := eLcTF (c := T.d) (i := 8) (fi := itA (op2 addD (eV 4) (eV 5))) (ct := ct_law_3) (fe := fe_law_4) (p := isVar) (f := T.snd) (sd := mS S d0 x2 x3 ts bs none none none none none) (s := mS S d0 x2 x3 ts bs none none none none none) (xs := ts ++ bs) (both_it K none none none none none) rfl (fun t ht => by
      show ct_law_3 (mS S d0 x2 x3 ts bs none none (some (.im t.d)) none none) = some (isVar t, mS S d0 x2 x3 ts bs none none (some (.im t.d)) none none)
      unfold ct_law_3
      cases t with
      | val v =>
        refine (tst_of (op2_of (op2_of (ra := .im (T.val v).d) rfl rfl rfl rfl (tagv v)) rfl rfl rfl (eq_ss okw okv))).trans ?_
        rw [decide_eq_false vne]
        rfl
      | var x =>
        refine (tst_of (op2_of (op2_of (ra := .im (T.var x).d) rfl rfl rfl rfl (tagx x)) rfl rfl rfl (eq_ss okv okv))).trans ?_
        rw [decide_eq_true rfl]
        rfl) (fun t ht _ => fz_im (op2_of (ra := .im t.d) rfl rfl rfl rfl (T.snd_d t))) (by omega)
  rw [vars_snd] at e
  have hv : (varsOf (ts ++ bs)).length < 64 := by
    have : (varsOf (ts ++ bs)).length ≤ (ts ++ bs).length := List.length_filterMap_le _ _
    omega
  refine sAsg_im (fz_fr (eCB_of (aCons_of (g := aNil) (rs := []) e rfl) rfl ?_)) rfl
  simp [gSetSort, strsOf_map, hv, namesOf]
theorem pool_loop (K : TsOk ts bs) (x6 : Option SV) : ∃ x8, Fr x8 ∧ sFor (itA (op2 addD (eV 4) (eV 5))) (gN 8) bl_law_5 (mS S d0 x2 x3 ts bs x6 (some (.ow false (.lst []))) none none none) = some (.nx (mS S d0 x2 x3 ts bs x6 (some (.ow false (.lst (poolF (ts ++ bs) [])))) x8 none none)) := by
  have hbig : 1000 ≤ sizeLine := by decide
  obtain ⟨o, e, q⟩ := sForM (f := T.d) (xs := ts ++ bs) (fi := itA (op2 addD (eV 4) (eV 5))) (g := gN 8) (b := bl_law_5) (both_it (S := S) (d0 := d0) (x2 := x2) (x3 := x3) K x6 (some (.ow false (.lst []))) none none none)
    (fun pre s => ∃ x8, Fr x8 ∧ s = mS S d0 x2 x3 ts bs x6 (some (.ow false (.lst (poolF pre [])))) x8 none none) (fun _ _ => False) ⟨none, .non, rfl⟩ (fun pre t post s hp ⟨x8, h8, hs⟩ => by
      subst hs
      have htm : t ∈ ts ++ bs := by rw [hp]; exact List.mem_append_right _ List.mem_cons_self
      have hpre : ∀ v ∈ poolF pre [], okV v = true := fun v hv => by
        rcases (poolF_mem pre [] v).mp hv with z | z
        · cases z
        · exact K.ok (.val v) (by rw [hp]; exact List.mem_append_left _ z)
      have hpl : (poolF pre []).length < 1000 := by
        have h1 : (poolF pre []).length ≤ (poolF (ts ++ bs) []).length := nodup_len (poolF_nd pre [] List.nodup_nil) fun v hv => by
          rcases (poolF_mem pre [] v).mp hv with z | z
          · cases z
          · exact (poolF_mem _ [] v).mpr (.inr (by rw [hp]; exact List.mem_append_left _ z))
        have := K.pl
        omega
      have eg : gN 8 t.d (mS S d0 x2 x3 ts bs x6 (some (.ow false (.lst (poolF pre [])))) x8 none none) = some (mS S d0 x2 x3 ts bs x6 (some (.ow false (.lst (poolF pre [])))) (some (.im t.d)) none none) := by
        rcases h8 with rfl | ⟨_, rfl⟩ <;> rfl
      have snoc : poolF (pre ++ [t]) [] = poolF [t] (poolF pre []) := poolF_app pre [t] []
      let s1 : Slots := mS S d0 x2 x3 ts bs x6 (some (.ow false (.lst (poolF pre [])))) (some (.im t.d)) none none
      cases t with
      | var x =>
        refine ⟨s1, .nx s1, eg, ?_, some (.im (T.var x).d), Fr.im, by rw [snoc]; rfl⟩
        unfold bl_law_5
        have c : tst (op2 eqD (op2 ixA (eV 8) (eC (.int 0))) (eC (.str "value"))) s1 = some (false, s1) := by
          refine (tst_of (op2_of (op2_of (ra := .im (T.var x).d) rfl rfl rfl rfl (tagx x)) rfl rfl rfl (eq_ss okv okw))).trans ?_
          rw [decide_eq_false (Ne.symm vne)]
        rw [sIf_f (tAnd_f c)]
        rfl
      | val v =>
        have c : tst (op2 eqD (op2 ixA (eV 8) (eC (.int 0))) (eC (.str "value"))) s1 = some (true, s1) := by
          refine (tst_of (op2_of (op2_of (ra := .im (T.val v).d) rfl rfl rfl rfl (tagv v)) rfl rfl rfl (eq_ss okw okw))).trans ?_
          rw [decide_eq_true rfl]
        have kv : op2 ixA (eV 8) (eC (.int 1)) s1 = some (.im v, s1) := op2_of (ra := .im (T.val v).d) rfl rfl rfl rfl (T.snd_d (.val v))
        have hv : okV v = true := K.ok _ htm
        have c2 : tst (op2 (inA true) (op2 ixA (eV 8) (eC (.int 1))) (eV 7)) s1 = some (!decide (v ∈ poolF pre []), s1) := by
          refine tst_of (op2_of kv (rb := .bo 7) rfl rfl rfl ?_)
          rw [in_fnb (xs := poolF pre []) (fnb_okV hv) fun y hy => fnb_okV (hpre y hy)]
          rfl
        by_cases hm : v ∈ poolF pre []
        · refine ⟨s1, .nx s1, eg, ?_, some (.im (T.val v).d), Fr.im, by
            rw [snoc]
            show s1 = mS S d0 x2 x3 ts bs x6 (some (.ow false (.lst (if v ∈ poolF pre [] then poolF pre [] else poolF pre [] ++ [v])))) _ none none
            rw [if_pos hm]⟩
          unfold bl_law_5
          rw [decide_eq_true hm] at c2
          rw [sIf_f (tAnd_t c c2)]
          rfl
        · refine ⟨s1, .nx (mS S d0 x2 x3 ts bs x6 (some (.ow false (.lst (poolF pre [] ++ [v])))) (some (.im (T.val v).d)) none none), eg, ?_, some (.im (T.val v).d), Fr.im, by
            rw [snoc]
            show _ = mS S d0 x2 x3 ts bs x6 (some (.ow false (.lst (if v ∈ poolF pre [] then poolF pre [] else poolF pre [] ++ [v])))) _ none none
            rw [if_neg hm]⟩
          unfold bl_law_5
          rw [decide_eq_false hm] at c2
          rw [sIf_t (tAnd_t c c2)]
          have e := sDrop_of (r := .im .non) (eMu_of (p := isLst) (g := muAppend) (i := 7) (c0 := .lst (poolF pre [])) (c := .lst (poolF pre [])) (c' := .lst (poolF pre [] ++ [v])) (rs := [.im v]) (ds := [v]) (s := s1) (s1 := s1) (f := aCons (fz (op2 ixA (eV 8) (eC (.int 1)))) aNil) rfl rfl (aCons_of (g := aNil) (rs := []) (fz_im kv) rfl) rfl rfl (o := .im .non) (by
            show (if (poolF pre []).length < sizeLine then _ else none) = _
            rw [if_pos (by omega)]))
          exact e)
  cases o with
  | nx s2 =>
    obtain ⟨x8, h8, rfl⟩ := q
    exact ⟨x8, h8, e⟩
  | rt r s => exact q.elim
  | bk s => exact q.elim
  | ct s => exact q.elim
theorem fresh_ok {nm : List Str} {x0 v0 v1 v2 : D} (h4 : nm.length = 4) (hnk : ∀ w ∈ nm, PyData.strOk w = true) (hns : (nm.map (·.length)).sum ≤ 1000) (h2 : OrW (wD x0 nm v0 v1 v2) x2) {pool : List D} (hp : pool.length ≤ 3) (x6 x8 : Option SV) : ∃ z : Str, PyData.strOk z = true ∧
    sDrop (eMu isLst muAppend 7 (aCons (fz (op2 addD (eJoin (eC (.str "")) (eLc [15] (itA (op2 ixA (eV 2) (eC (.int 1)))) (gN 15) tTrue fe_law_6)) (eC (.str "z")))) aNil)) (mS S d0 x2 x3 ts bs x6 (some (.ow false (.lst pool))) x8 none none) = some (.nx (mS S d0 x2 x3 ts bs x6 (some (.ow false (.lst (pool ++ [.str z])))) x8 none none)) := by
  have hbig : 10000 ≤ sizeLine := by decide
  let s : Slots := mS S d0 x2 x3 ts bs x6 (some (.ow false (.lst pool))) x8 none none
  have k1 : op2 ixA (eV 2) (eC (.int 1)) s = some (.im (.lst (nm.map D.str)), s) := by
    rcases h2 with rfl | rfl
    · exact op2_of (ra := .bo 2) (da := wD x0 nm v0 v1 v2) rfl rfl rfl rfl rfl
    · exact op2_of (ra := .im (wD x0 nm v0 v1 v2)) (da := wD x0 nm v0 v1 v2) rfl rfl rfl rfl rfl
  have k2 : itA (op2 ixA (eV 2) (eC (.int 1))) s = some (nm.map D.str, s) := by
    unfold itA
    simp only [k1, Option.bind_eq_bind, Option.bind_some]
  have k3 := eLcT (c := D.str) (i := 15) (fe := fe_law_6) (f := D.str) (xs := nm) k2 rfl (fun x _ => rfl) (by omega)
  have ql : Str.length "z" = 1 := by decide +kernel
  have jl := join0_len nm
  have k4 : eJoin (eC (.str "")) (eLc [15] (itA (op2 ixA (eV 2) (eC (.int 1)))) (gN 15) tTrue fe_law_6) s = some (.im (.str (Str.join "" nm)), s) := eJoin_of k3 rfl rfl (by omega)
  have k5 : op2 addD (eJoin (eC (.str "")) (eLc [15] (itA (op2 ixA (eV 2) (eC (.int 1)))) (gN 15) tTrue fe_law_6)) (eC (.str "z")) s = some (.im (.str (Str.join "" nm ++ "z")), s) := op2_of k4 rfl rfl rfl (addD_str (by rw [ql]; omega))
  refine ⟨Str.join "" nm ++ "z", strOk_app (strOk_join emp_ok hnk) (by decide +kernel), ?_⟩
  have e := sDrop_of (r := .im .non) (eMu_of (p := isLst) (g := muAppend) (i := 7) (c0 := .lst pool) (c := .lst pool) (c' := .lst (pool ++ [.str (Str.join "" nm ++ "z")])) (rs := [.im (.str (Str.join "" nm ++ "z"))]) (ds := [.str (Str.join "" nm ++ "z")]) (s := s) (s1 := s) rfl rfl (aCons_of (g := aNil) (rs := []) (fz_im k5) rfl) rfl rfl (o := .im .non) (by
    show (if pool.length < sizeLine then _ else none) = _
    rw [if_pos (by omega)]))
  exact e
/-- a row fits -/
def fit (ts bs : List T) (row : List D) : Bool := decide (ts.map (rowOf (namesOf (ts ++ bs)) row) = bs.map (rowOf (namesOf (ts ++ bs)) row))
theorem row_okV {row : List D} (hl : row.length = (namesOf (ts ++ bs)).length) (hr : ∀ v ∈ row, okV v = true) {t : T} (ht : t ∈ ts ++ bs) (hok : t.ok = true) : okV (rowOf (namesOf (ts ++ bs)) row t) = true := by
  rw [rowOf_ev hl fun x e => mem_names.mpr (by rw [← e]; exact ht)]
  cases t with
  | val v => exact hok
  | var x => exact hr _ (sg_mem hl (mem_names.mpr ht))
theorem pl_vals {l : List D} (h : ∀ v ∈ l, okV v = true) : pl 60 (.lst l) = true := by
  simp only [pl, List.all_eq_true]
  exact fun v hv => okV_pl (h v hv) 58
theorem due_loop (K : TsOk ts bs) {pool : List D} (hp : pool.length ≤ 4) (hpk : ∀ v ∈ pool, okV v = true) (x8 : Option SV) : ∃ x10, Fr x10 ∧
    sFor (itA (eCall F__law_valuations_of (aCons (eFz 6) (aCons (eFz 7) aNil)))) (gN 10) bl_law_7 (mS S d0 x2 x3 ts bs (some (.im (.lst ((namesOf (ts ++ bs)).map D.str)))) (some (.ow false (.lst pool))) x8 (some (.ow false (.lst []))) none) =
      some (.nx (mS S d0 x2 x3 ts bs (some (.im (.lst ((namesOf (ts ++ bs)).map D.str)))) (some (.im (.lst pool))) x8 (some (.ow false (.lst (((valsN pool (namesOf (ts ++ bs)).length).filter (fit ts bs)).map D.lst)))) x10)) := by
  have hbig : 1000 ≤ sizeLine := by decide
  have hv := valuations_ok (names := namesOf (ts ++ bs)) (pool := pool) K.nm hp
  let nD : D := .lst ((namesOf (ts ++ bs)).map D.str)
  have ec : eCall F__law_valuations_of (aCons (eFz 6) (aCons (eFz 7) aNil)) (mS S d0 x2 x3 ts bs (some (.im nD)) (some (.ow false (.lst pool))) x8 (some (.ow false (.lst []))) none) = some (.im (.lst ((valsN pool (namesOf (ts ++ bs)).length).map D.lst)), mS S d0 x2 x3 ts bs (some (.im nD)) (some (.im (.lst pool))) x8 (some (.ow false (.lst []))) none) :=
    eCall_im (rs := [.im nD, .im (.lst pool)]) (s' := mS S d0 x2 x3 ts bs (some (.im nD)) (some (.im (.lst pool))) x8 (some (.ow false (.lst []))) none) rfl rfl List.nodup_nil hv
  have hit : itA (eCall F__law_valuations_of (aCons (eFz 6) (aCons (eFz 7) aNil))) (mS S d0 x2 x3 ts bs (some (.im nD)) (some (.ow false (.lst pool))) x8 (some (.ow false (.lst []))) none) = some ((valsN pool (namesOf (ts ++ bs)).length).map D.lst, mS S d0 x2 x3 ts bs (some (.im nD)) (some (.im (.lst pool))) x8 (some (.ow false (.lst []))) none) := by
    unfold itA
    simp only [ec, Option.bind_eq_bind, Option.bind_some]
  have hcount : (valsN pool (namesOf (ts ++ bs)).length).length ≤ 256 := by
    rw [valsN_len]
    calc pool.length ^ (namesOf (ts ++ bs)).length ≤ 4 ^ (namesOf (ts ++ bs)).length := Nat.pow_le_pow_left hp _
      _ ≤ 4 ^ 4 := Nat.pow_le_pow_right (by decide) K.nm
  obtain ⟨o, e, q⟩ := sForM (f := D.lst) (xs := valsN pool (namesOf (ts ++ bs)).length) (g := gN 10) (b := bl_law_7) hit
    (fun pre s => ∃ x10, Fr x10 ∧ s = mS S d0 x2 x3 ts bs (some (.im nD)) (some (.im (.lst pool))) x8 (some (.ow false (.lst ((pre.filter (fit ts bs)).map D.lst)))) x10) (fun _ _ => False) ⟨none, .non, rfl⟩ (fun pre row post s hpp ⟨x10, h10, hs⟩ => by
      subst hs
      have hrm : row ∈ valsN pool (namesOf (ts ++ bs)).length := by rw [hpp]; exact List.mem_append_right _ List.mem_cons_self
      obtain ⟨hrl, hrp⟩ := mem_valsN.mp hrm
      have hro : ∀ v ∈ row, okV v = true := fun v hv => hpk v (hrp v hv)
      have hok1 : ∀ t ∈ ts, t.ok = true := fun t ht => K.ok t (List.mem_append_left _ ht)
      have hok2 : ∀ t ∈ bs, t.ok = true := fun t ht => K.ok t (List.mem_append_right _ ht)
      have hnk : ∀ x ∈ namesOf (ts ++ bs), PyData.strOk x = true := fun x hx => K.ok _ (mem_names.mp hx)
      have hsm := K.sm
      have hln := K.len
      have hnm := K.nm
      have r1 := rows_ok (names := namesOf (ts ++ bs)) (vals := row) hok1 hnk hrl (by omega) (by omega) (.inr rfl)
      have r2 := rows_ok (names := namesOf (ts ++ bs)) (vals := row) hok2 hnk hrl (by omega) (by omega) (.inr rfl)
      let due := (pre.filter (fit ts bs)).map D.lst
      have hdl : due.length ≤ 256 := by
        show ((pre.filter (fit ts bs)).map D.lst).length ≤ 256
        rw [List.length_map]
        have h1 := List.length_filter_le (fit ts bs) pre
        have h2 := congrArg List.length hpp
        rw [List.length_append] at h2
        omega
      let s1 : Slots := mS S d0 x2 x3 ts bs (some (.im nD)) (some (.im (.lst pool))) x8 (some (.ow false (.lst due))) (some (.im (.lst row)))
      have c1 : eCall F__law_rows (aCons (eFz 4) (aCons (eFz 6) (aCons (eFz 10) aNil))) s1 = some (.fr (.lst (ts.map (rowOf (namesOf (ts ++ bs)) row))), s1) := eCall_fr (rs := [.im (.tup (ts.map T.d)), .im nD, .im (.lst row)]) (s' := s1) rfl rfl List.nodup_nil r1
      have c2 : eCall F__law_rows (aCons (eFz 5) (aCons (eFz 6) (aCons (eFz 10) aNil))) s1 = some (.fr (.lst (bs.map (rowOf (namesOf (ts ++ bs)) row))), s1) := eCall_fr (rs := [.im (.tup (bs.map T.d)), .im nD, .im (.lst row)]) (s' := s1) rfl rfl List.nodup_nil r2
      have p1 : pl 60 (.lst (ts.map (rowOf (namesOf (ts ++ bs)) row))) = true := pl_vals fun v hv => by
        obtain ⟨t, ht, rfl⟩ := List.mem_map.mp hv
        exact row_okV hrl hro (List.mem_append_left _ ht) (hok1 t ht)
      have p2 : pl 60 (.lst (bs.map (rowOf (namesOf (ts ++ bs)) row))) = true := pl_vals fun v hv => by
        obtain ⟨t, ht, rfl⟩ := List.mem_map.mp hv
        exact row_okV hrl hro (List.mem_append_right _ ht) (hok2 t ht)
      have ct : tst (op2 eqD (eCall F__law_rows (aCons (eFz 4) (aCons (eFz 6) (aCons (eFz 10) aNil)))) (eCall F__law_rows (aCons (eFz 5) (aCons (eFz 6) (aCons (eFz 10) aNil))))) s1 = some (fit ts bs row, s1) := by
        refine tst_of (op2_of c1 c2 rfl rfl ?_)
        rw [eqD_pl p1 p2]
        unfold fit
        congr 3
        exact decide_eq_decide.mpr ⟨fun h => D.lst.inj h, fun h => by rw [h]⟩
      have eg : gN 10 (.lst row) (mS S d0 x2 x3 ts bs (some (.im nD)) (some (.im (.lst pool))) x8 (some (.ow false (.lst due))) x10) = some s1 := by
        rcases h10 with rfl | ⟨_, rfl⟩ <;> rfl
      cases hf : fit ts bs row with
      | false =>
        refine ⟨s1, .nx s1, eg, ?_, some (.im (.lst row)), Fr.im, by rw [List.filter_append, List.filter_cons_of_neg (by simp [hf]), List.filter_nil, List.append_nil]⟩
        unfold bl_law_7
        rw [sIf_f (ct.trans (by rw [hf]))]
        rfl
      | true =>
        refine ⟨s1, .nx (mS S d0 x2 x3 ts bs (some (.im nD)) (some (.im (.lst pool))) x8 (some (.ow false (.lst (due ++ [.lst row])))) (some (.im (.lst row)))), eg, ?_, some (.im (.lst row)), Fr.im, by rw [List.filter_append, List.filter_cons_of_pos hf, List.filter_nil, List.map_append]; rfl⟩
        unfold bl_law_7
        rw [sIf_t (ct.trans (by rw [hf]))]
        have e := sDrop_of (r := .im .non) (eMu_of (p := isLst) (g := muAppend) (i := 9) (c0 := .lst due) (c := .lst due) (c' := .lst (due ++ [.lst row])) (rs := [.im (.lst row)]) (ds := [.lst row]) (s := s1) (s1 := s1) (f := aCons (eFz 10) aNil) rfl rfl rfl rfl rfl (o := .im .non) (by
          show (if due.length < sizeLine then _ else none) = _
          rw [if_pos (by omega)]))
        exact e)
  cases o with
  | nx s2 =>
    obtain ⟨x10, h10, rfl⟩ := q
    exact ⟨x10, h10, e⟩
  | rt r s => exact q.elim
  | bk s => exact q.elim
  | ct s => exact q.elim
end G.k97

set_option Elab.async false
set_option linter.all false
set_option maxRecDepth 100000
/-! L97: the law is true. -/
namespace G.k97
open PySem PySem.Spec PyProof.Rows L2 G
theorem lenEq {l : List D} {s : Slots} (h : s[9]? = some (some (.ow false (.lst l)))) : op2 eqD (eCB gLen (aCons (eV 9) aNil)) (eC (.int 0)) s = some (.im (.bl (decide (l = []))), s) := by
  have ev : eV 9 s = some (.bo 9, s) := by unfold eV; rw [h]
  have eo : owAt s 9 = some (.lst l) := by unfold owAt; rw [h]
  refine op2_of (da := .int l.length) (eCB_of (rs := [.bo 9]) (ds := [.lst l]) (o := .im (.int l.length)) (aCons_of (g := aNil) (rs := []) ev rfl) (by simp [getAll, Res.get, eo]) rfl) rfl rfl rfl ?_
  rw [eq_ii]
  congr 3
  exact decide_eq_decide.mpr ⟨fun h => List.length_eq_zero_iff.mp (by omega), fun h => by rw [h]; rfl⟩
variable {S : D} {d0 x2 x3 : Option SV} {ts bs : List T}
abbrev nS (S : D) (d0 x2 x3 : Option SV) (ts bs : List T) (nD pD : D) (x8 x9 x10 x11 x12 : Option SV) : Slots := lS S d0 x2 x3 (some (.im (.tup (ts.map T.d)))) (some (.im (.tup (bs.map T.d)))) (some (.im nD)) (some (.im pD)) x8 x9 x10 x11 x12 none none
/-- one row that fits, held against the answer -/
theorem last_step (K : TsOk ts bs) {B : Bd} (I : Inv B) (hB : OkB (fun d => ∃ x, d = .str x ∧ T.var x ∈ ts ++ bs) (fun v => T.val v ∈ ts ++ bs) B) (hz : B.length ≤ 5) {pool : List D} {row : List D} (hrl : row.length = (namesOf (ts ++ bs)).length) (hro : ∀ v ∈ row, okV v = true)
    (hsat : Sat (sg (namesOf (ts ++ bs)) row) B) {x12 : Option SV} (h12 : Fr x12 ∨ FrO x12) (x8 x9 : Option SV) (pD : D) : ∃ x12', (Fr x12' ∨ FrO x12') ∧
    bl_law_12 (nS S d0 x2 x3 ts bs (.lst ((namesOf (ts ++ bs)).map D.str)) pD x8 x9 (some (.im (.lst row))) (some (.im (.tup ((acts B).map pr)))) x12) = some (.nx (nS S d0 x2 x3 ts bs (.lst ((namesOf (ts ++ bs)).map D.str)) pD x8 x9 (some (.im (.lst row))) (some (.im (.tup ((acts B).map pr)))) x12')) := by
  have hbig : 1000 ≤ sizeLine := by decide
  have hnk : ∀ x ∈ namesOf (ts ++ bs), PyData.strOk x = true := fun x hx => K.ok _ (mem_names.mp hx)
  have hal : (acts B).length ≤ 5 := by
    unfold acts
    rw [List.length_map, sortS_len]
    unfold keys
    rw [List.length_map]
    exact hz
  have hin : ∀ p ∈ acts B, p.1 ∈ namesOf (ts ++ bs) := fun p hp => by
    obtain ⟨x, e, hx⟩ := (hB p (acts_mem I hp)).1
    cases e
    exact mem_names.mpr hx
  have htm : ∀ p ∈ acts B, p.2 ∈ ts ++ bs ∨ True := fun _ _ => .inr trivial
  have hvar : ∀ p ∈ acts B, ∀ x, p.2 = .var x → x ∈ namesOf (ts ++ bs) := fun p hp x e => by
    have q := (hB p (acts_mem I hp)).2
    rw [e] at q
    obtain ⟨y, e2, hy⟩ := q
    cases e2
    exact mem_names.mpr hy
  have hok : ∀ p ∈ acts B, p.2.ok = true := fun p hp => by
    have q := (hB p (acts_mem I hp)).2
    cases e : p.2 with
    | val v => rw [e] at q; exact K.ok _ q
    | var x => exact hnk x (hvar p hp x e)
  let nD : D := .lst ((namesOf (ts ++ bs)).map D.str)
  let aD : D := .tup ((acts B).map pr)
  let s0 : Slots := nS S d0 x2 x3 ts bs nD pD x8 x9 (some (.im (.lst row))) (some (.im aD)) x12
  -- the values of the bound names
  have e1 := eLcT (c := pr) (i := 14) (fi := itA (eFz 11)) (fe := fe_law_10) (f := fun p => sg (namesOf (ts ++ bs)) row p.1) (sd := s0) (s := s0) (xs := acts B) rfl rfl (fun p hp => by
    obtain ⟨j, v, h1, h2, h3⟩ := idx_row hrl (hin p hp)
    have hpx : pl 60 (.str p.1) = true := hnk _ (hin p hp)
    have hpn : pl 60 (.lst ((namesOf (ts ++ bs)).map D.str)) = true := by
      simp only [pl, List.all_eq_true]
      intro d hd
      obtain ⟨x, hx, rfl⟩ := List.mem_map.mp hd
      exact hnk x hx
    have kx : op2 ixA (eV 14) (eC (.int 0)) (s0.set 14 (some (.im (pr p)))) = some (.im (.str p.1), s0.set 14 (some (.im (pr p)))) := op2_of (ra := .im (pr p)) rfl rfl rfl rfl (pr0 p)
    have kg : gIndex nD [.str p.1] = some (.im (.int j)) := by
      show (if pl 60 (.str p.1) && pl 60 (.lst ((namesOf (ts ++ bs)).map D.str)) then _ else none) = _
      rw [hpx, hpn, h1]
      rfl
    have km : eMt isLst gIndex (eV 6) (aCons (op2 ixA (eV 14) (eC (.int 0))) aNil) (s0.set 14 (some (.im (pr p)))) = some (.im (.int j), s0.set 14 (some (.im (pr p)))) := by
      have ea := aCons_of (g := aNil) (rs := []) kx rfl
      have e6 : eV 6 (s0.set 14 (some (.im (pr p)))) = some (.im nD, s0.set 14 (some (.im (pr p)))) := rfl
      unfold eMt
      simp only [e6, ea, Option.bind_eq_bind, Option.bind_some]
      show (Option.bind (gIndex nD [.str p.1]) _) = _
      rw [kg]
      rfl
    have hsv : sg (namesOf (ts ++ bs)) row p.1 = v := by
      unfold sg
      rw [h3]
      rfl
    rw [hsv]
    exact fz_im (op2_of (ra := .im (.lst row)) rfl km rfl rfl (ixA_nat h2))) (by omega)
  have a1 : sAsg 12 (eLc [14] (itA (eFz 11)) (gN 14) tTrue fe_law_10) s0 = some (.nx (nS S d0 x2 x3 ts bs nD pD x8 x9 (some (.im (.lst row))) (some (.im aD)) (some (.ow false (.lst ((acts B).map fun p => sg (namesOf (ts ++ bs)) row p.1)))))) := by
    refine sAsg_fr (s' := s0) e1 ?_
    rcases h12 with (rfl | ⟨_, rfl⟩) | (rfl | ⟨_, rfl⟩) <;> rfl
  let s1 : Slots := nS S d0 x2 x3 ts bs nD pD x8 x9 (some (.im (.lst row))) (some (.im aD)) (some (.ow false (.lst ((acts B).map fun p => sg (namesOf (ts ++ bs)) row p.1))))
  have e2 := eLcT (c := pr) (i := 14) (fi := itA (eFz 11)) (fe := fe_law_11) (f := fun p => p.2.d) (sd := s1) (s := s1) (xs := acts B) rfl rfl (fun p hp => fz_im (op2_of (ra := .im (pr p)) rfl rfl rfl rfl (pr1 p))) (by omega)
  have hnm := K.nm
  have r1 := rows_ok (ts := (acts B).map (·.2)) (names := namesOf (ts ++ bs)) (vals := row) (fun t ht => by
    obtain ⟨p, hp, rfl⟩ := List.mem_map.mp ht
    exact hok p hp) hnk hrl (by rw [List.length_map]; omega) (by omega) (m := .lst ((acts B).map fun p => p.2.d)) (.inl (by rw [List.map_map]; rfl))
  have c1 : eCall F__law_rows (aCons (fz (eLc [14] (itA (eFz 11)) (gN 14) tTrue fe_law_11)) (aCons (eFz 6) (aCons (eFz 10) aNil))) s1 = some (.fr (.lst (((acts B).map (·.2)).map (rowOf (namesOf (ts ++ bs)) row))), s1) :=
    eCall_fr (rs := [.im (.lst ((acts B).map fun p => p.2.d)), .im nD, .im (.lst row)]) (s' := s1) (aCons_of (fz_fr e2) rfl) rfl List.nodup_nil r1
  have heq : ((acts B).map (·.2)).map (rowOf (namesOf (ts ++ bs)) row) = (acts B).map fun p => sg (namesOf (ts ++ bs)) row p.1 := by
    rw [List.map_map]
    refine List.map_congr_left fun p hp => ?_
    show rowOf (namesOf (ts ++ bs)) row p.2 = _
    rw [rowOf_ev hrl (hvar p hp)]
    exact (hsat p (acts_mem I hp)).symm
  have hpl : pl 60 (.lst ((acts B).map fun p => sg (namesOf (ts ++ bs)) row p.1)) = true := pl_vals fun v hv => by
    obtain ⟨p, hp, rfl⟩ := List.mem_map.mp hv
    exact hro _ (sg_mem hrl (hin p hp))
  refine ⟨some (.ow false (.lst ((acts B).map fun p => sg (namesOf (ts ++ bs)) row p.1))), .inr (.inr ⟨_, rfl⟩), ?_⟩
  unfold bl_law_12
  rw [sSeq_nx a1, sIf_f (tst_of (op2_of c1 (rb := .bo 12) rfl rfl rfl (by rw [heq, neD_pl hpl hpl]; simp)))]
  rfl
/-- behind the rows that fit -/
def tailL : SX := (sSeq (sAsg 11 (fz (eCall F_unified (aCons (eFz 4) (aCons (eFz 5) aNil))))) (sSeq (sIf (tst (op2 isND (eV 11) (eC .non))) (sRet (op2 eqD (eCB gLen (aCons (eV 9) aNil)) (eC (.int 0)))) sNil) (sSeq (sIf (tOrX (tst (op2 eqD (eCB gLen (aCons (eV 9) aNil)) (eC (.int 0)))) (tNotX (tst (eCall F__law_is_map (aCons (eFz 11) (aCons (eFz 6) (aCons (eFz 7) aNil))))))) (sRet (eC (.bl false))) sNil) (sSeq (sIf (tst (op2 neD (eCB gTuple (aCons (eLc [8] (itA (eFz 4)) (gN 8) tTrue fe_law_8) aNil)) (eCB gTuple (aCons (eLc [8] (itA (eFz 5)) (gN 8) tTrue fe_law_9) aNil)))) (sRet (eC (.bl false))) sNil) (sSeq (sFor (itA (eFz 9)) (gN 10) bl_law_12) (sRet (eC (.bl true))))))))
theorem tail_true (K : TsOk ts bs) {pool : List D} (hpv : ∀ v, T.val v ∈ ts ++ bs → v ∈ pool) (hpk : ∀ v ∈ pool, okV v = true) (hne : pool ≠ []) {x8 x10 : Option SV} (h8 : Fr x8) (h10 : Fr x10) : ∃ s,
    tailL (mS S d0 x2 x3 ts bs (some (.im (.lst ((namesOf (ts ++ bs)).map D.str)))) (some (.im (.lst pool))) x8 (some (.ow false (.lst (((valsN pool (namesOf (ts ++ bs)).length).filter (fit ts bs)).map D.lst)))) x10) = some (.rt (.im (.bl true)) s) := by
  have hbig : 1000 ≤ sizeLine := by decide
  have hsm := K.sm
  have hln := K.len
  have hnk : ∀ x ∈ namesOf (ts ++ bs), PyData.strOk x = true := fun x hx => K.ok _ (mem_names.mp hx)
  have hok1 : ∀ t ∈ ts, t.ok = true := fun t ht => K.ok t (List.mem_append_left _ ht)
  have hok2 : ∀ t ∈ bs, t.ok = true := fun t ht => K.ok t (List.mem_append_right _ ht)
  have hzl : (ts.zip bs).length ≤ 5 := by rw [List.length_zip, hln]; omega
  have hps : OkPs (ts.zip bs) := fun p hp => ⟨hok1 _ (List.of_mem_zip hp).1, hok2 _ (List.of_mem_zip hp).2⟩
  have hu := unified_ok hps (by omega)
  let nD : D := .lst ((namesOf (ts ++ bs)).map D.str)
  let pD : D := .lst pool
  let due := (valsN pool (namesOf (ts ++ bs)).length).filter (fit ts bs)
  let s0 : Slots := mS S d0 x2 x3 ts bs (some (.im nD)) (some (.im pD)) x8 (some (.ow false (.lst (due.map D.lst)))) x10
  -- rows that fit make the pairs equal
  have fitS : ∀ row ∈ due, row.length = (namesOf (ts ++ bs)).length ∧ (∀ v ∈ row, okV v = true) ∧ SatP (sg (namesOf (ts ++ bs)) row) (ts.zip bs) := fun row hr => by
    obtain ⟨h1, h2⟩ := List.mem_filter.mp hr
    obtain ⟨h3, h4⟩ := mem_valsN.mp h1
    refine ⟨h3, fun v hv => hpk v (h4 v hv), fun p hp => ?_⟩
    have h5 := (map_eq_zip hln.symm).mp (of_decide_eq_true h2) p hp
    rw [rowOf_ev h3 fun x e => mem_names.mpr (List.mem_append_left _ (e ▸ (List.of_mem_zip hp).1)), rowOf_ev h3 fun x e => mem_names.mpr (List.mem_append_right _ (e ▸ (List.of_mem_zip hp).2))] at h5
    exact h5
  obtain ⟨q1, q2⟩ := bof_ok (ts.zip bs) inv_nil
  have satN : ∀ σ, Sat σ [] := fun σ p hp => by cases hp
  cases hb : bof (ts.zip bs) [] with
  | none =>
    rw [hb] at hu
    have hdue : due = [] := by
      cases hd : due with
      | nil => rfl
      | cons row r =>
        obtain ⟨_, _, h3⟩ := fitS row (by rw [hd]; exact List.mem_cons_self)
        exact absurd h3 (q1 hb _ (satN _))
    have a1 : sAsg 11 (fz (eCall F_unified (aCons (eFz 4) (aCons (eFz 5) aNil)))) s0 = some (.nx (nS S d0 x2 x3 ts bs nD pD x8 (some (.ow false (.lst (due.map D.lst)))) x10 (some (.im .non)) none)) :=
      sAsg_im (s' := s0) (fz_im (eCall_im (rs := [.im (.tup (ts.map T.d)), .im (.tup (bs.map T.d))]) (s' := s0) rfl rfl List.nodup_nil hu)) rfl
    refine ⟨nS S d0 x2 x3 ts bs nD pD x8 (some (.ow false (.lst (due.map D.lst)))) x10 (some (.im .non)) none, ?_⟩
    unfold tailL
    rw [sSeq_nx a1]
    refine sSeq_rt ?_
    have c : tst (op2 isND (eV 11) (eC .non)) (nS S d0 x2 x3 ts bs nD pD x8 (some (.ow false (.lst (due.map D.lst)))) x10 (some (.im .non)) none) = some (true, nS S d0 x2 x3 ts bs nD pD x8 (some (.ow false (.lst (due.map D.lst)))) x10 (some (.im .non)) none) := by
      refine tst_of (op2_of (ra := .im .non) (da := .non) rfl rfl rfl rfl ?_)
      show some (Res.im (.bl (decide (D.non = .non)))) = _
      rw [decide_eq_true rfl]
    rw [sIf_t c]
    refine sRet_of ((lenEq rfl).trans ?_)
    rw [hdue]
    rfl
  | some B =>
    rw [hb] at hu
    obtain ⟨I, hq⟩ := q2 B hb
    have hB : OkB (fun d => ∃ x, d = .str x ∧ T.var x ∈ ts ++ bs) (fun v => T.val v ∈ ts ++ bs) B := by
      have core : ∀ t, t ∈ ts ++ bs → OkT (fun d => ∃ x, d = .str x ∧ T.var x ∈ ts ++ bs) (fun v => T.val v ∈ ts ++ bs) t := fun t ht => by
        cases t with
        | val v => exact ht
        | var x => exact ⟨x, rfl, ht⟩
      exact bof_okB (ts.zip bs) inv_nil (fun p hp => by cases hp) (fun p hp => ⟨core _ (List.mem_append_left _ (List.of_mem_zip hp).1), core _ (List.mem_append_right _ (List.of_mem_zip hp).2)⟩) hb
    have hBl : B.length ≤ 5 := Nat.le_trans (bof_facts hps hb).2.2 hzl
    let aD : D := .tup ((acts B).map pr)
    let s1 : Slots := nS S d0 x2 x3 ts bs nD pD x8 (some (.ow false (.lst (due.map D.lst)))) x10 (some (.im aD)) none
    have a1 : sAsg 11 (fz (eCall F_unified (aCons (eFz 4) (aCons (eFz 5) aNil)))) s0 = some (.nx s1) :=
      sAsg_im (s' := s0) (fz_im (eCall_im (rs := [.im (.tup (ts.map T.d)), .im (.tup (bs.map T.d))]) (s' := s0) rfl rfl List.nodup_nil hu)) rfl
    have a2 : (sIf (tst (op2 isND (eV 11) (eC .non))) (sRet (op2 eqD (eCB gLen (aCons (eV 9) aNil)) (eC (.int 0)))) sNil) s1 = some (.nx s1) := by
      have c : tst (op2 isND (eV 11) (eC .non)) s1 = some (false, s1) := by
        refine tst_of (op2_of (ra := .im aD) (da := aD) rfl rfl rfl rfl ?_)
        show some (Res.im (.bl (decide (aD = .non)))) = _
        rw [decide_eq_false (fun z => D.noConfusion (show D.tup ((acts B).map pr) = D.non from z))]
      rw [sIf_f c]
      rfl
    -- some row fits
    have hdue : due ≠ [] := by
      obtain ⟨c, hc⟩ := List.exists_mem_of_ne_nil pool hne
      let σ := whole B fun _ => c
      have hσ : SatP σ (ts.zip bs) := ((hq σ).1 (whole_sat I _)).2
      have hσp : ∀ x, σ x ∈ pool := fun x => by
        show (match lk B x with
          | some t => ev (fun _ => c) t
          | none => c) ∈ pool
        cases e : lk B x with
        | none => exact hc
        | some t =>
          have h2 := (hB _ (lk_mem e)).2
          cases t with
          | val v => exact hpv v h2
          | var y => exact hc
      have hrow : (namesOf (ts ++ bs)).map σ ∈ due := by
        refine List.mem_filter.mpr ⟨mem_valsN.mpr ⟨List.length_map _, fun v hv => ?_⟩, decide_eq_true ((map_eq_zip hln.symm).mpr fun p hp => ?_)⟩
        · obtain ⟨x, _, rfl⟩ := List.mem_map.mp hv
          exact hσp x
        · have hl : ((namesOf (ts ++ bs)).map σ).length = (namesOf (ts ++ bs)).length := List.length_map _
          have hev : ∀ t, t ∈ ts ++ bs → rowOf (namesOf (ts ++ bs)) ((namesOf (ts ++ bs)).map σ) t = ev σ t := fun t ht => by
            rw [rowOf_ev hl fun x e => mem_names.mpr (e ▸ ht)]
            cases t with
            | val v => rfl
            | var x => exact sg_map (mem_names.mpr ht)
          rw [hev _ (List.mem_append_left _ (List.of_mem_zip hp).1), hev _ (List.mem_append_right _ (List.of_mem_zip hp).2)]
          exact hσ p hp
      exact List.ne_nil_of_mem hrow
    have hM := is_map_ok (acts_map I hpv hpk (fun x hx => hnk x (mem_names.mpr hx)) hB (by omega))
    have a3 : (sIf (tOrX (tst (op2 eqD (eCB gLen (aCons (eV 9) aNil)) (eC (.int 0)))) (tNotX (tst (eCall F__law_is_map (aCons (eFz 11) (aCons (eFz 6) (aCons (eFz 7) aNil))))))) (sRet (eC (.bl false))) sNil) s1 = some (.nx s1) := by
      have c1 : tst (op2 eqD (eCB gLen (aCons (eV 9) aNil)) (eC (.int 0))) s1 = some (false, s1) := by
        refine (tst_of (lenEq rfl)).trans ?_
        rw [decide_eq_false (by simpa using hdue)]
      have c2 : tst (eCall F__law_is_map (aCons (eFz 11) (aCons (eFz 6) (aCons (eFz 7) aNil)))) s1 = some (true, s1) :=
        tst_of (eCall_im (rs := [.im aD, .im nD, .im pD]) (s' := s1) rfl rfl List.nodup_nil hM)
      rw [sIf_f (tOr_ff c1 (tNot_of c2))]
      rfl
    -- the two sides made one
    have hkeys : ∀ p ∈ acts B, PyData.strOk p.1 = true := fun p hp => by
      obtain ⟨x, e, hx⟩ := (hB p (acts_mem I hp)).1
      cases e
      exact hnk _ (mem_names.mpr hx)
    have f8 : eCB gTuple (aCons (eLc [8] (itA (eFz 4)) (gN 8) tTrue fe_law_8) aNil) s1 = some (.im (.tup (ts.map fun t => (put (acts B) t).d)), s1) := by
      have hn8 : noOw s1 [8] = true := by rcases h8 with rfl | ⟨_, rfl⟩ <;> rfl
      have e := eLcT (c := T.d) (i := 8) (fi := itA (eFz 4)) (fe := fe_law_8) (f := fun t => (put (acts B) t).d) (sd := s1) (s := s1) (xs := ts) rfl hn8 (fun t ht => fz_im (eCall_im (rs := [.im t.d, .im aD]) (s' := s1.set 8 (some (.im t.d))) rfl rfl List.nodup_nil (law_put_ok (hok1 t ht) hkeys (.inr rfl)))) (by omega)
      exact eCB_of (aCons_of (g := aNil) (rs := []) e rfl) rfl rfl
    have f9 : eCB gTuple (aCons (eLc [8] (itA (eFz 5)) (gN 8) tTrue fe_law_9) aNil) s1 = some (.im (.tup (bs.map fun t => (put (acts B) t).d)), s1) := by
      have hn8 : noOw s1 [8] = true := by rcases h8 with rfl | ⟨_, rfl⟩ <;> rfl
      have e := eLcT (c := T.d) (i := 8) (fi := itA (eFz 5)) (fe := fe_law_9) (f := fun t => (put (acts B) t).d) (sd := s1) (s := s1) (xs := bs) rfl hn8 (fun t ht => fz_im (eCall_im (rs := [.im t.d, .im aD]) (s' := s1.set 8 (some (.im t.d))) rfl rfl List.nodup_nil (law_put_ok (hok2 t ht) hkeys (.inr rfl)))) (by omega)
      exact eCB_of (aCons_of (g := aNil) (rs := []) e rfl) rfl rfl
    have hsame : (ts.map fun t => (put (acts B) t).d) = bs.map fun t => (put (acts B) t).d := by
      refine (map_eq_zip hln.symm).mpr fun p hp => ?_
      have e := bof_put hb (fun p hp => by
        have core : ∀ t : T, t.ok = true → OkT (fun _ => True) (fun v => ∀ xs, v ≠ .tup xs) t := fun t ht => by
          cases t with
          | val v =>
            intro xs z
            rw [z] at ht
            cases ht
          | var x => trivial
        exact ⟨core _ (hps p hp).1, core _ (hps p hp).2⟩) p hp
      show (put (acts B) p.1).d = (put (acts B) p.2).d
      rw [put_acts, put_acts, e]
    have hpl : pl 60 (.tup (bs.map fun t => (put (acts B) t).d)) = true := by
      simp only [pl, List.all_eq_true]
      intro d hd
      obtain ⟨t, ht, rfl⟩ := List.mem_map.mp hd
      refine T.pl_d (n := 57) (lk_ok (fun p hp => ⟨hkeys p hp, ?_⟩) (hok2 t ht))
      have q := (hB p (acts_mem I hp)).2
      cases e : p.2 with
      | val v => rw [e] at q; exact K.ok _ q
      | var x =>
        rw [e] at q
        obtain ⟨y, e2, hy⟩ := q
        have exy : x = y := by cases e2; rfl
        rw [exy]
        exact hnk y (mem_names.mpr hy)
    have a4 : (sIf (tst (op2 neD (eCB gTuple (aCons (eLc [8] (itA (eFz 4)) (gN 8) tTrue fe_law_8) aNil)) (eCB gTuple (aCons (eLc [8] (itA (eFz 5)) (gN 8) tTrue fe_law_9) aNil)))) (sRet (eC (.bl false))) sNil) s1 = some (.nx s1) := by
      rw [sIf_f (tst_of (op2_of f8 f9 rfl rfl (by rw [hsame, neD_pl hpl hpl]; simp)))]
      rfl
    let s2 : Option SV → Option SV → Slots := fun x10 x12 => nS S d0 x2 x3 ts bs nD pD x8 (some (.im (.lst (due.map D.lst)))) x10 (some (.im aD)) x12
    obtain ⟨o, e, q⟩ := sForM (f := D.lst) (xs := due) (fi := itA (eFz 9)) (g := gN 10) (b := bl_law_12) (sd := s1) (s := s2 x10 none) rfl
      (fun pre s => ∃ x10 x12, Fr x10 ∧ (Fr x12 ∨ FrO x12) ∧ s = s2 x10 x12) (fun _ _ => False) ⟨x10, none, h10, .inl .non, rfl⟩ (fun pre row post s hp ⟨x10, x12, h10, h12, hs⟩ => by
        subst hs
        obtain ⟨h1, h2, h3⟩ := fitS row (by rw [hp]; exact List.mem_append_right _ List.mem_cons_self)
        have hsat : Sat (sg (namesOf (ts ++ bs)) row) B := (hq _).2 ⟨satN _, h3⟩
        obtain ⟨x12', k1, k2⟩ := last_step (S := S) (d0 := d0) (x2 := x2) (x3 := x3) K I hB hBl (pool := pool) h1 h2 hsat h12 x8 (some (.im (.lst (due.map D.lst)))) pD
        refine ⟨s2 (some (.im (.lst row))) x12, _, ?_, k2, some (.im (.lst row)), x12', Fr.im, k1, rfl⟩
        rcases h10 with rfl | ⟨_, rfl⟩ <;> rfl)
    cases o with
    | nx s3 =>
      refine ⟨s3, ?_⟩
      unfold tailL
      rw [sSeq_nx a1, sSeq_nx a2, sSeq_nx a3, sSeq_nx a4, sSeq_nx e]
      rfl
    | rt r s => exact q.elim
    | bk s => exact q.elim
    | ct s => exact q.elim
theorem law_true (ns : List Int) (h : ns.length ≤ 63) : F_law [.im (.lst (ns.map D.int))] = some (.im (.bl true), []) := by
  have hbig : 1000 ≤ sizeLine := by decide
  obtain ⟨nm, x0, v0, v1, v2, is, x2, x3, ts, bs, h4, hnk, hns, o0, o1, o2, hl, hs, i1, i2, w2, e0⟩ := head_ok h
  have K := tsOk_of h4 hnk o0 o1 o2 hl hs i1 i2
  obtain ⟨x8, h8, e2⟩ := pool_loop (S := dI ns) (d0 := some (.ow false (dI is))) (x2 := x2) (x3 := x3) K (some (.im (.lst ((namesOf (ts ++ bs)).map D.str))))
  obtain ⟨z, hz, e3⟩ := fresh_ok (S := dI ns) (d0 := some (.ow false (dI is))) (x3 := x3) (ts := ts) (bs := bs) h4 hnk hns w2 K.pl (some (.im (.lst ((namesOf (ts ++ bs)).map D.str)))) x8
  have hpk : ∀ v ∈ poolF (ts ++ bs) [] ++ [D.str z], okV v = true := fun v hv => by
    rcases List.mem_append.mp hv with q | q
    · rcases (poolF_mem _ [] v).mp q with q | q
      · cases q
      · exact K.ok _ q
    · rw [List.mem_singleton.mp q]; exact hz
  have hpv : ∀ v, T.val v ∈ ts ++ bs → v ∈ poolF (ts ++ bs) [] ++ [D.str z] := fun v hv => List.mem_append_left _ ((poolF_mem _ [] v).mpr (.inr hv))
  have hpl : (poolF (ts ++ bs) [] ++ [D.str z]).length ≤ 4 := by
    have := K.pl
    rw [List.length_append, List.length_singleton]
    omega
  obtain ⟨x10, h10, e4⟩ := due_loop (S := dI ns) (d0 := some (.ow false (dI is))) (x2 := x2) (x3 := x3) K hpl hpk x8
  obtain ⟨s, e5⟩ := tail_true (S := dI ns) (d0 := some (.ow false (dI is))) (x2 := x2) (x3 := x3) K hpv hpk (by simp) h8 h10
  unfold F_law
  refine (fnF_rt (r := .im (.bl true)) (s := s) rfl ?_).trans rfl
  show b_law (slots0 16 [.im (dI ns)]) = _
  unfold b_law
  rw [e0, sSeq_nx (names_ok K), sSeq_nx (s' := mS (dI ns) (some (.ow false (dI is))) x2 x3 ts bs (some (.im (.lst ((namesOf (ts ++ bs)).map D.str)))) (some (.ow false (.lst []))) none none none) rfl, sSeq_nx e2, sSeq_nx e3]
  rw [sSeq_nx (s' := mS (dI ns) (some (.ow false (dI is))) x2 x3 ts bs (some (.im (.lst ((namesOf (ts ++ bs)).map D.str)))) (some (.ow false (.lst (poolF (ts ++ bs) [] ++ [D.str z])))) x8 (some (.ow false (.lst []))) none) rfl, sSeq_nx e4]
  exact e5
end G.k97

set_option Elab.async false
set_option linter.all false
set_option maxRecDepth 100000
set_option maxHeartbeats 4000000
/-! The end of k97: from the law's function to the statement. Printed by gen.py. -/
namespace G.k97
open PySem PySem.Spec PyProof.Rows L2 G
theorem all_mk {l : PySem.W.OpenLaw} {w : World} {K : PySem.W.Frag} {h : Heap} {mg : Str → Option Value} {fa : Addr} (X : K.In h) (G : h.Ns mainGlobals mg) (hfa : mg "law" = some (.ref fa))
    {od0 an0 : Option Addr} {sl0 : Array (Option Value)} {oc0 kV0 dc0 pm0 cd0 ct0 : Value} {f0 : Addr} (a0 : PySem.W.nsIn K mainGlobals "put_term" = some (some (.ref f0))) (l0 : K.lookup f0 = some ⟨oc0, od0, .func (PySem.W.fnOf "put_term" "put_term" (defArgs s_put_term) (defBody s_put_term) (defScope s_put_term) .none kV0 dc0 pm0 an0 cd0 ct0), sl0⟩) (c0 : PySem.W.codeIn K cd0 "put_term" = true) (k0 : PySem.W.keepIn K (.ref f0) = true)
    {od1 an1 : Option Addr} {sl1 : Array (Option Value)} {oc1 kV1 dc1 pm1 cd1 ct1 : Value} {f1 : Addr} (a1 : PySem.W.nsIn K mainGlobals "_law_draws" = some (some (.ref f1))) (l1 : K.lookup f1 = some ⟨oc1, od1, .func (PySem.W.fnOf "_law_draws" "_law_draws" (defArgs s__law_draws) (defBody s__law_draws) (defScope s__law_draws) .none kV1 dc1 pm1 an1 cd1 ct1), sl1⟩) (c1 : PySem.W.codeIn K cd1 "_law_draws" = true) (k1 : PySem.W.keepIn K (.ref f1) = true)
    {od2 an2 : Option Addr} {sl2 : Array (Option Value)} {oc2 kV2 dc2 pm2 cd2 ct2 : Value} {f2 : Addr} (a2 : PySem.W.nsIn K mainGlobals "_law_take" = some (some (.ref f2))) (l2 : K.lookup f2 = some ⟨oc2, od2, .func (PySem.W.fnOf "_law_take" "_law_take" (defArgs s__law_take) (defBody s__law_take) (defScope s__law_take) .none kV2 dc2 pm2 an2 cd2 ct2), sl2⟩) (c2 : PySem.W.codeIn K cd2 "_law_take" = true) (k2 : PySem.W.keepIn K (.ref f2) = true)
    {od3 an3 : Option Addr} {sl3 : Array (Option Value)} {oc3 kV3 dc3 pm3 cd3 ct3 : Value} {f3 : Addr} (a3 : PySem.W.nsIn K mainGlobals "_law_put" = some (some (.ref f3))) (l3 : K.lookup f3 = some ⟨oc3, od3, .func (PySem.W.fnOf "_law_put" "_law_put" (defArgs s__law_put) (defBody s__law_put) (defScope s__law_put) .none kV3 dc3 pm3 an3 cd3 ct3), sl3⟩) (c3 : PySem.W.codeIn K cd3 "_law_put" = true) (k3 : PySem.W.keepIn K (.ref f3) = true)
    {od4 an4 : Option Addr} {sl4 : Array (Option Value)} {oc4 kV4 dc4 pm4 cd4 ct4 : Value} {f4 : Addr} (a4 : PySem.W.nsIn K mainGlobals "_law_valuations_of" = some (some (.ref f4))) (l4 : K.lookup f4 = some ⟨oc4, od4, .func (PySem.W.fnOf "_law_valuations_of" "_law_valuations_of" (defArgs s__law_valuations_of) (defBody s__law_valuations_of) (defScope s__law_valuations_of) .none kV4 dc4 pm4 an4 cd4 ct4), sl4⟩) (c4 : PySem.W.codeIn K cd4 "_law_valuations_of" = true) (k4 : PySem.W.keepIn K (.ref f4) = true)
    {od5 an5 : Option Addr} {sl5 : Array (Option Value)} {oc5 kV5 dc5 pm5 cd5 ct5 : Value} {f5 : Addr} (a5 : PySem.W.nsIn K mainGlobals "_law_is_map" = some (some (.ref f5))) (l5 : K.lookup f5 = some ⟨oc5, od5, .func (PySem.W.fnOf "_law_is_map" "_law_is_map" (defArgs s__law_is_map) (defBody s__law_is_map) (defScope s__law_is_map) .none kV5 dc5 pm5 an5 cd5 ct5), sl5⟩) (c5 : PySem.W.codeIn K cd5 "_law_is_map" = true) (k5 : PySem.W.keepIn K (.ref f5) = true)
    {od6 an6 : Option Addr} {sl6 : Array (Option Value)} {oc6 kV6 dc6 pm6 cd6 ct6 : Value} {f6 : Addr} (a6 : PySem.W.nsIn K mainGlobals "merged" = some (some (.ref f6))) (l6 : K.lookup f6 = some ⟨oc6, od6, .func (PySem.W.fnOf "merged" "merged" (defArgs s_merged) (defBody s_merged) (defScope s_merged) .none kV6 dc6 pm6 an6 cd6 ct6), sl6⟩) (c6 : PySem.W.codeIn K cd6 "merged" = true) (k6 : PySem.W.keepIn K (.ref f6) = true)
    {od7 an7 : Option Addr} {sl7 : Array (Option Value)} {oc7 kV7 dc7 pm7 cd7 ct7 : Value} {f7 : Addr} (a7 : PySem.W.nsIn K mainGlobals "_law_pick" = some (some (.ref f7))) (l7 : K.lookup f7 = some ⟨oc7, od7, .func (PySem.W.fnOf "_law_pick" "_law_pick" (defArgs s__law_pick) (defBody s__law_pick) (defScope s__law_pick) .none kV7 dc7 pm7 an7 cd7 ct7), sl7⟩) (c7 : PySem.W.codeIn K cd7 "_law_pick" = true) (k7 : PySem.W.keepIn K (.ref f7) = true)
    {od8 an8 : Option Addr} {sl8 : Array (Option Value)} {oc8 kV8 dc8 pm8 cd8 ct8 : Value} {f8 : Addr} (a8 : PySem.W.nsIn K mainGlobals "_law_pool" = some (some (.ref f8))) (l8 : K.lookup f8 = some ⟨oc8, od8, .func (PySem.W.fnOf "_law_pool" "_law_pool" (defArgs s__law_pool) (defBody s__law_pool) (defScope s__law_pool) .none kV8 dc8 pm8 an8 cd8 ct8), sl8⟩) (c8 : PySem.W.codeIn K cd8 "_law_pool" = true) (k8 : PySem.W.keepIn K (.ref f8) = true)
    {od9 an9 : Option Addr} {sl9 : Array (Option Value)} {oc9 kV9 dc9 pm9 cd9 ct9 : Value} {f9 : Addr} (a9 : PySem.W.nsIn K mainGlobals "_law_values" = some (some (.ref f9))) (l9 : K.lookup f9 = some ⟨oc9, od9, .func (PySem.W.fnOf "_law_values" "_law_values" (defArgs s__law_values) (defBody s__law_values) (defScope s__law_values) .none kV9 dc9 pm9 an9 cd9 ct9), sl9⟩) (c9 : PySem.W.codeIn K cd9 "_law_values" = true) (k9 : PySem.W.keepIn K (.ref f9) = true)
    {od10 an10 : Option Addr} {sl10 : Array (Option Value)} {oc10 kV10 dc10 pm10 cd10 ct10 : Value} {f10 : Addr} (a10 : PySem.W.nsIn K mainGlobals "_law_value" = some (some (.ref f10))) (l10 : K.lookup f10 = some ⟨oc10, od10, .func (PySem.W.fnOf "_law_value" "_law_value" (defArgs s__law_value) (defBody s__law_value) (defScope s__law_value) .none kV10 dc10 pm10 an10 cd10 ct10), sl10⟩) (c10 : PySem.W.codeIn K cd10 "_law_value" = true) (k10 : PySem.W.keepIn K (.ref f10) = true)
    {od11 an11 : Option Addr} {sl11 : Array (Option Value)} {oc11 kV11 dc11 pm11 cd11 ct11 : Value} {f11 : Addr} (a11 : PySem.W.nsIn K mainGlobals "_law_rows" = some (some (.ref f11))) (l11 : K.lookup f11 = some ⟨oc11, od11, .func (PySem.W.fnOf "_law_rows" "_law_rows" (defArgs s__law_rows) (defBody s__law_rows) (defScope s__law_rows) .none kV11 dc11 pm11 an11 cd11 ct11), sl11⟩) (c11 : PySem.W.codeIn K cd11 "_law_rows" = true) (k11 : PySem.W.keepIn K (.ref f11) = true)
    {od12 an12 : Option Addr} {sl12 : Array (Option Value)} {oc12 kV12 dc12 pm12 cd12 ct12 : Value} {f12 : Addr} (a12 : PySem.W.nsIn K mainGlobals "binding_of" = some (some (.ref f12))) (l12 : K.lookup f12 = some ⟨oc12, od12, .func (PySem.W.fnOf "binding_of" "binding_of" (defArgs s_binding_of) (defBody s_binding_of) (defScope s_binding_of) .none kV12 dc12 pm12 an12 cd12 ct12), sl12⟩) (c12 : PySem.W.codeIn K cd12 "binding_of" = true) (k12 : PySem.W.keepIn K (.ref f12) = true)
    {od13 an13 : Option Addr} {sl13 : Array (Option Value)} {oc13 kV13 dc13 pm13 cd13 ct13 : Value} {f13 : Addr} (a13 : PySem.W.nsIn K mainGlobals "_law_world" = some (some (.ref f13))) (l13 : K.lookup f13 = some ⟨oc13, od13, .func (PySem.W.fnOf "_law_world" "_law_world" (defArgs s__law_world) (defBody s__law_world) (defScope s__law_world) .none kV13 dc13 pm13 an13 cd13 ct13), sl13⟩) (c13 : PySem.W.codeIn K cd13 "_law_world" = true) (k13 : PySem.W.keepIn K (.ref f13) = true)
    {od14 an14 : Option Addr} {sl14 : Array (Option Value)} {oc14 kV14 dc14 pm14 cd14 ct14 : Value} {f14 : Addr} (a14 : PySem.W.nsIn K mainGlobals "_law_term" = some (some (.ref f14))) (l14 : K.lookup f14 = some ⟨oc14, od14, .func (PySem.W.fnOf "_law_term" "_law_term" (defArgs s__law_term) (defBody s__law_term) (defScope s__law_term) .none kV14 dc14 pm14 an14 cd14 ct14), sl14⟩) (c14 : PySem.W.codeIn K cd14 "_law_term" = true) (k14 : PySem.W.keepIn K (.ref f14) = true)
    {od15 an15 : Option Addr} {sl15 : Array (Option Value)} {oc15 kV15 dc15 pm15 cd15 ct15 : Value} {f15 : Addr} (a15 : PySem.W.nsIn K mainGlobals "unified" = some (some (.ref f15))) (l15 : K.lookup f15 = some ⟨oc15, od15, .func (PySem.W.fnOf "unified" "unified" (defArgs s_unified) (defBody s_unified) (defScope s_unified) .none kV15 dc15 pm15 an15 cd15 ct15), sl15⟩) (c15 : PySem.W.codeIn K cd15 "unified" = true) (k15 : PySem.W.keepIn K (.ref f15) = true)
    {od16 an16 : Option Addr} {sl16 : Array (Option Value)} {oc16 kV16 dc16 pm16 cd16 ct16 : Value} {f16 : Addr} (a16 : PySem.W.nsIn K mainGlobals "law" = some (some (.ref f16))) (l16 : K.lookup f16 = some ⟨oc16, od16, .func (PySem.W.fnOf "law" "law" (defArgs s_law) (defBody s_law) (defScope s_law) .none kV16 dc16 pm16 an16 cd16 ct16), sl16⟩) (c16 : PySem.W.codeIn K cd16 "law" = true) (k16 : PySem.W.keepIn K (.ref f16) = true)
    (z0 : PySem.W.nsIn K mainGlobals "int" = some none)
    (z1 : PySem.W.nsIn K mainGlobals "isinstance" = some none)
    (z2 : PySem.W.nsIn K mainGlobals "len" = some none)
    (z3 : PySem.W.nsIn K mainGlobals "list" = some none)
    (z4 : PySem.W.nsIn K mainGlobals "range" = some none)
    (z5 : PySem.W.nsIn K mainGlobals "set" = some none)
    (z6 : PySem.W.nsIn K mainGlobals "sorted" = some none)
    (z7 : PySem.W.nsIn K mainGlobals "str" = some none)
    (z8 : PySem.W.nsIn K mainGlobals "tuple" = some none)
    (z9 : PySem.W.nsIn K mainGlobals "zip" = some none)
    : ∃ fd : FuncData, (∀ (s : Shared) (v : Value), BindsTo s fd ⟨[v], []⟩ [("_law_script", v)]) ∧ ∀ base : Heap, K.In base → base.Ns mainGlobals mg → FnOk l.prog w K mg base CX0 5 fa fd ["_law_script"] (spG K F_law) := by
  have e := hfa.symm.trans (PySem.W.mg_of X G a16)
  have e' : f16 = fa := by cases e; rfl
  subst e' 
  have F0 := fun_mk (st := s_put_term) l0 c0 k0
  have b0 := F0.binds (ps := ["term", "terms"]) fun _ _ _ _ _ _ us hl => match us, hl with | [_, _], _ => rfl
  let D0 : Df K mg "put_term" s_put_term ["term", "terms"] := ⟨f0, _, F0, b0, PySem.W.mg_of X G a0⟩
  have F1 := fun_mk (st := s__law_draws) l1 c1 k1
  have b1 := F1.binds (ps := ["_law_script", "_law_many"]) fun _ _ _ _ _ _ us hl => match us, hl with | [_, _], _ => rfl
  let D1 : Df K mg "_law_draws" s__law_draws ["_law_script", "_law_many"] := ⟨f1, _, F1, b1, PySem.W.mg_of X G a1⟩
  have F2 := fun_mk (st := s__law_take) l2 c2 k2
  have b2 := F2.binds (ps := ["_law_draws_here", "_law_many"]) fun _ _ _ _ _ _ us hl => match us, hl with | [_, _], _ => rfl
  let D2 : Df K mg "_law_take" s__law_take ["_law_draws_here", "_law_many"] := ⟨f2, _, F2, b2, PySem.W.mg_of X G a2⟩
  have F3 := fun_mk (st := s__law_put) l3 c3 k3
  have b3 := F3.binds (ps := ["_law_term_here", "_law_mapping"]) fun _ _ _ _ _ _ us hl => match us, hl with | [_, _], _ => rfl
  let D3 : Df K mg "_law_put" s__law_put ["_law_term_here", "_law_mapping"] := ⟨f3, _, F3, b3, PySem.W.mg_of X G a3⟩
  have F4 := fun_mk (st := s__law_valuations_of) l4 c4 k4
  have b4 := F4.binds (ps := ["_law_names", "_law_pool_here"]) fun _ _ _ _ _ _ us hl => match us, hl with | [_, _], _ => rfl
  let D4 : Df K mg "_law_valuations_of" s__law_valuations_of ["_law_names", "_law_pool_here"] := ⟨f4, _, F4, b4, PySem.W.mg_of X G a4⟩
  have F5 := fun_mk (st := s__law_is_map) l5 c5 k5
  have b5 := F5.binds (ps := ["_law_actual", "_law_names", "_law_pool_here"]) fun _ _ _ _ _ _ us hl => match us, hl with | [_, _, _], _ => rfl
  let D5 : Df K mg "_law_is_map" s__law_is_map ["_law_actual", "_law_names", "_law_pool_here"] := ⟨f5, _, F5, b5, PySem.W.mg_of X G a5⟩
  have F6 := fun_mk (st := s_merged) l6 c6 k6
  have b6 := F6.binds (ps := ["binding", "one", "other"]) fun _ _ _ _ _ _ us hl => match us, hl with | [_, _, _], _ => rfl
  let D6 : Df K mg "merged" s_merged ["binding", "one", "other"] := ⟨f6, _, F6, b6, PySem.W.mg_of X G a6⟩
  have F7 := fun_mk (st := s__law_pick) l7 c7 k7
  have b7 := F7.binds (ps := ["_law_draws_here", "_law_row"]) fun _ _ _ _ _ _ us hl => match us, hl with | [_, _], _ => rfl
  let D7 : Df K mg "_law_pick" s__law_pick ["_law_draws_here", "_law_row"] := ⟨f7, _, F7, b7, PySem.W.mg_of X G a7⟩
  have F8 := fun_mk (st := s__law_pool) l8 c8 k8
  have b8 := F8.binds (ps := ["_law_draws_here", "_law_many"]) fun _ _ _ _ _ _ us hl => match us, hl with | [_, _], _ => rfl
  let D8 : Df K mg "_law_pool" s__law_pool ["_law_draws_here", "_law_many"] := ⟨f8, _, F8, b8, PySem.W.mg_of X G a8⟩
  have F9 := fun_mk (st := s__law_values) l9 c9 k9
  have b9 := F9.binds (ps := ["_law_draws_here", "_law_words"]) fun _ _ _ _ _ _ us hl => match us, hl with | [_, _], _ => rfl
  let D9 : Df K mg "_law_values" s__law_values ["_law_draws_here", "_law_words"] := ⟨f9, _, F9, b9, PySem.W.mg_of X G a9⟩
  have F10 := fun_mk (st := s__law_value) l10 c10 k10
  have b10 := F10.binds (ps := ["_law_draws_here", "_law_values_here"]) fun _ _ _ _ _ _ us hl => match us, hl with | [_, _], _ => rfl
  let D10 : Df K mg "_law_value" s__law_value ["_law_draws_here", "_law_values_here"] := ⟨f10, _, F10, b10, PySem.W.mg_of X G a10⟩
  have F11 := fun_mk (st := s__law_rows) l11 c11 k11
  have b11 := F11.binds (ps := ["_law_terms", "_law_names", "_law_values_here"]) fun _ _ _ _ _ _ us hl => match us, hl with | [_, _, _], _ => rfl
  let D11 : Df K mg "_law_rows" s__law_rows ["_law_terms", "_law_names", "_law_values_here"] := ⟨f11, _, F11, b11, PySem.W.mg_of X G a11⟩
  have F12 := fun_mk (st := s_binding_of) l12 c12 k12
  have b12 := F12.binds (ps := ["pairs"]) fun _ _ _ _ _ _ us hl => match us, hl with | [_], _ => rfl
  let D12 : Df K mg "binding_of" s_binding_of ["pairs"] := ⟨f12, _, F12, b12, PySem.W.mg_of X G a12⟩
  have F13 := fun_mk (st := s__law_world) l13 c13 k13
  have b13 := F13.binds (ps := ["_law_draws_here"]) fun _ _ _ _ _ _ us hl => match us, hl with | [_], _ => rfl
  let D13 : Df K mg "_law_world" s__law_world ["_law_draws_here"] := ⟨f13, _, F13, b13, PySem.W.mg_of X G a13⟩
  have F14 := fun_mk (st := s__law_term) l14 c14 k14
  have b14 := F14.binds (ps := ["_law_draws_here", "_law_world_here"]) fun _ _ _ _ _ _ us hl => match us, hl with | [_, _], _ => rfl
  let D14 : Df K mg "_law_term" s__law_term ["_law_draws_here", "_law_world_here"] := ⟨f14, _, F14, b14, PySem.W.mg_of X G a14⟩
  have F15 := fun_mk (st := s_unified) l15 c15 k15
  have b15 := F15.binds (ps := ["terms", "others"]) fun _ _ _ _ _ _ us hl => match us, hl with | [_, _], _ => rfl
  let D15 : Df K mg "unified" s_unified ["terms", "others"] := ⟨f15, _, F15, b15, PySem.W.mg_of X G a15⟩
  have F16 := fun_mk (st := s_law) l16 c16 k16
  have b16 := F16.binds (ps := ["_law_script"]) fun _ _ _ _ _ _ us hl => match us, hl with | [_], _ => rfl
  let D16 : Df K mg "law" s_law ["_law_script"] := ⟨f16, _, F16, b16, PySem.W.mg_of X G a16⟩
  let A : All K mg := ⟨D0, D1, D2, D3, D4, D5, D6, D7, D8, D9, D10, D11, D12, D13, D14, D15, D16, PySem.W.mg_none_of X G z0, PySem.W.mg_none_of X G z1, PySem.W.mg_none_of X G z2, PySem.W.mg_none_of X G z3, PySem.W.mg_none_of X G z4, PySem.W.mg_none_of X G z5, PySem.W.mg_none_of X G z6, PySem.W.mg_none_of X G z7, PySem.W.mg_none_of X G z8, PySem.W.mg_none_of X G z9⟩
  exact ⟨_, fun s v => .of_eq rfl, fun base _ _ => ok_law A⟩
theorem sp_law {K : PySem.W.Frag} (H : Hp) (a : Addr) (ns : List Int) (h : ns.length ≤ 63) (hS : SqL K H a (ns.map V.int)) :
    spG K F_law [.ref a] H (fun v _ => v = .bl true) fun _ _ _ => False := by
  refine ⟨fun _ => False, _, _, _, fun _ z => z.elim, .im (d := .lst (ns.map D.int)) ?_ .nil, fun i j b c d e a hij hi => ?_, law_true ns h, fun v H' O' _ _ _ r => ?_⟩
  · have t : IsAll K (fun _ => False) H (ns.map V.int) (ns.map D.int) := by
      clear hS h
      induction ns with
      | nil => exact .nil
      | cons x r ih => exact .cons (.int x) ih
    rcases hS with hS | hS
    · exact .lst id hS t
    · exact .lstK (fun _ => .inr hS) t
  · cases i with
    | zero => cases hi
    | succ i => simp at hi
  · cases r
    rfl
end G.k97
open PySem PySem.W PyProof.Rows
set_option maxHeartbeats 0 in
theorem PySem.Challenge.cw_anyworth_k97_terms_unified_holds : PySem.Challenge.rw_anyworth_k97_terms_unified.Holds := by
  w_on; o_law; k_head; (case hw => w_witness2)
  k_fill
  refine L2.walk_of (l := PySem.Challenge.rw_anyworth_k97_terms_unified) (n := 63) (k := 5) (x := "_law_script") (CX := fun _ => L2.CX0) (sp := fun w => G.spG _ G.k97.F_law) rfl (by decide) rfl ⟨rfl, by decide, by decide⟩ (fun w h Y => PySem.W.kIn_of Y) ?F (fun _ H a ns h _ hS => G.k97.sp_law H a ns h hS) (fun _ _ _ _ _ h => h)
  case F =>
    intro w mg fa h KX GX hmg
    refine' G.k97.all_mk KX GX hmg ?a0 ?l0 ?c0 ?k0 ?a1 ?l1 ?c1 ?k1 ?a2 ?l2 ?c2 ?k2 ?a3 ?l3 ?c3 ?k3 ?a4 ?l4 ?c4 ?k4 ?a5 ?l5 ?c5 ?k5 ?a6 ?l6 ?c6 ?k6 ?a7 ?l7 ?c7 ?k7 ?a8 ?l8 ?c8 ?k8 ?a9 ?l9 ?c9 ?k9 ?a10 ?l10 ?c10 ?k10 ?a11 ?l11 ?c11 ?k11 ?a12 ?l12 ?c12 ?k12 ?a13 ?l13 ?c13 ?k13 ?a14 ?l14 ?c14 ?k14 ?a15 ?l15 ?c15 ?k15 ?a16 ?l16 ?c16 ?k16 ?z0 ?z1 ?z2 ?z3 ?z4 ?z5 ?z6 ?z7 ?z8 ?z9
    (case a0 => k_is); (case l0 => k_is); (case c0 => k_is); (case k0 => k_is); (case a1 => k_is); (case l1 => k_is); (case c1 => k_is); (case k1 => k_is); (case a2 => k_is); (case l2 => k_is); (case c2 => k_is); (case k2 => k_is); (case a3 => k_is); (case l3 => k_is); (case c3 => k_is); (case k3 => k_is); (case a4 => k_is); (case l4 => k_is); (case c4 => k_is); (case k4 => k_is); (case a5 => k_is); (case l5 => k_is); (case c5 => k_is); (case k5 => k_is); (case a6 => k_is); (case l6 => k_is); (case c6 => k_is); (case k6 => k_is); (case a7 => k_is); (case l7 => k_is); (case c7 => k_is); (case k7 => k_is); (case a8 => k_is); (case l8 => k_is); (case c8 => k_is); (case k8 => k_is); (case a9 => k_is); (case l9 => k_is); (case c9 => k_is); (case k9 => k_is); (case a10 => k_is); (case l10 => k_is); (case c10 => k_is); (case k10 => k_is); (case a11 => k_is); (case l11 => k_is); (case c11 => k_is); (case k11 => k_is); (case a12 => k_is); (case l12 => k_is); (case c12 => k_is); (case k12 => k_is); (case a13 => k_is); (case l13 => k_is); (case c13 => k_is); (case k13 => k_is); (case a14 => k_is); (case l14 => k_is); (case c14 => k_is); (case k14 => k_is); (case a15 => k_is); (case l15 => k_is); (case c15 => k_is); (case k15 => k_is); (case a16 => k_is); (case l16 => k_is); (case c16 => k_is); (case k16 => k_is); (case z0 => k_is); (case z1 => k_is); (case z2 => k_is); (case z3 => k_is); (case z4 => k_is); (case z5 => k_is); (case z6 => k_is); (case z7 => k_is); (case z8 => k_is); (case z9 => k_is)
