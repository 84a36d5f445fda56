import PyProof.Rows.All
import Wide.All
import OpenK.AllK
import Wide.FinOn
import HandS.ForMost
import HandS.Flow
import HandS.Style
import HandS.TupAny
import HandS.NoneIn
import HandS.DictComp
import HandS.IsInst
import HandS.Zip
import HandS.Walk
import HandS.More
import HandS.Exc
import HandS.Defaults
import HandS.RaiseMore
import HandS.Flt
import HandS.Wide
import KE.KDictPairs
import PyProof.ReprRoads
import HandS.HeadEnd
import HandS.HeadHook1
import HandS.HeadHook2
import KE.KStateDown
import HandS.Head0
import HandS.Head1
import HandS.Head2
import PySem.Challenge.RW_spelledways_k51_whole_mending_twice_and
set_option Elab.async false
set_option linter.all false
set_option maxRecDepth 100000
set_option maxHeartbeats 4000000
namespace Sp
open PySem PySem.Spec PyProof.Rows L2
/-! ### immutable data in the tracked heap -/
mutual
def Dt (H : Hp) : PyData → V → Prop
  | .none, v => v = .non
  | .bool b, v => v = .bl b
  | .int i, v => v = .int i
  | .str x, v => v = .str x
  | .tuple ds, v => ∃ a xs, v = .ref a ∧ Rd H a (.tup xs) ∧ Dts H ds xs
  | .list _, _ => False
  | .dict _, _ => False
def Dts (H : Hp) : List PyData → List V → Prop
  | [], xs => xs = []
  | d :: ds, xs => ∃ v vs, xs = v :: vs ∧ Dt H d v ∧ Dts H ds vs
end
/-- the tuples are kept -/
def Tk (H H' : Hp) : Prop := ∀ b xs, Rd H b (.tup xs) → Rd H' b (.tup xs)
theorem rd_to {H H' : Hp} {a : Addr} {u : HO} (e : Same H H') (h : Rd H a u) : Rd H' a u := by
  rcases h with h | ⟨o, h⟩
  · exact .inl (e _ _ h)
  · exact .inr ⟨o, e _ _ h⟩
theorem Tk.refl (H : Hp) : Tk H H := fun _ _ h => h
theorem Tk.trans {H H1 H2 : Hp} (a : Tk H H1) (b : Tk H1 H2) : Tk H H2 := fun c xs h => b c xs (a c xs h)
theorem tk_same {H H' : Hp} (e : Same H H') : Tk H H' := fun b xs h => rd_to e h
/-- neither a tuple nor locked: it may be written -/
def wr : HO → Bool
  | .tup _ => false
  | .frz _ _ => false
  | _ => true
theorem tk_upd {H : Hp} {p : Addr} {o u : HO} (h : H p = some o) (ho : wr o = true := by rfl) : Tk H (upd H p u) := fun b xs e => by
  have hb : b ≠ p := by
    rintro rfl
    rcases e with e | ⟨z, e⟩
    · rw [h] at e
      rw [Option.some.inj e] at ho
      cases ho
    · rw [h] at e
      rw [Option.some.inj e] at ho
      cases ho
  unfold Rd
  rw [upd_ne hb]
  exact e
theorem same_new {H : Hp} {p : Addr} {u : HO} (h : H p = none) : Same H (upd H p u) := fun b o e => by
  rw [upd_ne (ne_of_none e h)]
  exact e
theorem tk_new {H : Hp} {p : Addr} {u : HO} (h : H p = none) : Tk H (upd H p u) := tk_same (same_new h)
mutual
theorem Dt.tk {H H' : Hp} (k : Tk H H') : ∀ (d : PyData) {v : V}, Dt H d v → Dt H' d v
  | .none, _, h => h
  | .bool _, _, h => h
  | .int _, _, h => h
  | .str _, _, h => h
  | .tuple ds, _, ⟨a, xs, e, ha, hd⟩ => ⟨a, xs, e, k a xs ha, Dts.tk k ds hd⟩
  | .list _, _, h => h.elim
  | .dict _, _, h => h.elim
theorem Dts.tk {H H' : Hp} (k : Tk H H') : ∀ (ds : List PyData) {xs : List V}, Dts H ds xs → Dts H' ds xs
  | [], _, h => h
  | d :: ds, _, ⟨v, vs, e, h1, h2⟩ => ⟨v, vs, e, Dt.tk k d h1, Dts.tk k ds h2⟩
end
section
variable {H H' : Hp}
theorem Dt.to {d : PyData} {v : V} (h : Dt H d v) (e : Same H H') : Dt H' d v := Dt.tk (tk_same e) d h
theorem Dts.to {ds : List PyData} {xs : List V} (h : Dts H ds xs) (e : Same H H') : Dts H' ds xs := Dts.tk (tk_same e) ds h
theorem Dts.len : ∀ {ds : List PyData} {xs : List V}, Dts H ds xs → xs.length = ds.length
  | [], _, h => by
    have h : _ = [] := h
    rw [h] <;> rfl
  | _ :: ds, _, h => by
    obtain ⟨v, vs, rfl, _, h2⟩ := h
    rw [List.length_cons, List.length_cons, Dts.len h2]
theorem Dts.get : ∀ {ds : List PyData} {xs : List V} {i : Nat} {d : PyData}, Dts H ds xs → ds[i]? = some d → ∃ v, xs[i]? = some v ∧ Dt H d v
  | [], _, _, _, _, e => by simp at e
  | d0 :: ds, _, 0, d, h, e => by
    obtain ⟨v, vs, rfl, h1, _⟩ := h
    have e : d0 = d := Option.some.inj e
    subst e
    exact ⟨v, rfl, h1⟩
  | _ :: ds, _, i + 1, d, h, e => by
    obtain ⟨v, vs, rfl, _, h2⟩ := h
    exact Dts.get (i := i) h2 e
theorem Dts.of_get : ∀ {ds : List PyData} {xs : List V} {i : Nat} {v : V}, Dts H ds xs → xs[i]? = some v → ∃ d, ds[i]? = some d ∧ Dt H d v
  | [], _, _, _, h, e => by
    have h : _ = [] := h
    subst h
    simp at e
  | d0 :: ds, _, 0, v, h, e => by
    obtain ⟨v0, vs, rfl, h1, _⟩ := h
    have e : v0 = v := Option.some.inj e
    subst e
    exact ⟨d0, rfl, h1⟩
  | _ :: ds, _, i + 1, v, h, e => by
    obtain ⟨v0, vs, rfl, _, h2⟩ := h
    exact Dts.of_get (i := i) h2 e
theorem Dts.app : ∀ {ds es : List PyData} {xs ys : List V}, Dts H ds xs → Dts H es ys → Dts H (ds ++ es) (xs ++ ys)
  | [], _, _, _, h, g => by
    have h : _ = [] := h
    subst h
    exact g
  | _ :: ds, _, _, _, h, g => by
    obtain ⟨v, vs, rfl, h1, h2⟩ := h
    exact ⟨v, _, rfl, h1, Dts.app h2 g⟩
theorem Dts.one {d : PyData} {v : V} (h : Dt H d v) : Dts H [d] [v] := ⟨v, [], rfl, h, rfl⟩
theorem Dts.take : ∀ {ds : List PyData} {xs : List V} (n : Nat), Dts H ds xs → Dts H (ds.take n) (xs.take n)
  | _, _, 0, _ => by simp [Dts]
  | [], _, n + 1, h => by
    have h : _ = [] := h
    subst h
    rfl
  | _ :: ds, _, n + 1, h => by
    obtain ⟨v, vs, rfl, h1, h2⟩ := h
    exact ⟨v, _, rfl, h1, Dts.take n h2⟩
theorem Dts.drop : ∀ {ds : List PyData} {xs : List V} (n : Nat), Dts H ds xs → Dts H (ds.drop n) (xs.drop n)
  | _, _, 0, h => h
  | [], _, n + 1, h => by
    have h : _ = [] := h
    subst h
    rfl
  | _ :: ds, _, n + 1, h => by
    obtain ⟨v, vs, rfl, h1, h2⟩ := h
    exact Dts.drop n h2
theorem Dts.ints : ∀ (ns : List Int), Dts H (ns.map .int) (ns.map V.int)
  | [] => rfl
  | n :: ns => ⟨_, _, rfl, rfl, Dts.ints ns⟩
theorem Dts.of_ints : ∀ {ns : List Int} {xs : List V}, Dts H (ns.map .int) xs → xs = ns.map V.int
  | [], _, h => h
  | n :: ns, _, h => by
    obtain ⟨v, vs, rfl, h1, h2⟩ := h
    have h1 : v = V.int n := h1
    rw [h1, Dts.of_ints h2] <;> rfl
theorem Dts.strs : ∀ (ns : List Str), Dts H (ns.map .str) (ns.map V.str)
  | [] => rfl
  | n :: ns => ⟨_, _, rfl, rfl, Dts.strs ns⟩
theorem Dts.of_strs : ∀ {ns : List Str} {xs : List V}, Dts H (ns.map .str) xs → xs = ns.map V.str
  | [], _, h => h
  | n :: ns, _, h => by
    obtain ⟨v, vs, rfl, h1, h2⟩ := h
    have h1 : v = V.str n := h1
    rw [h1, Dts.of_strs h2] <;> rfl
theorem Dts.bls : ∀ (ns : List Bool), Dts H (ns.map .bool) (ns.map V.bl)
  | [] => rfl
  | n :: ns => ⟨_, _, rfl, rfl, Dts.bls ns⟩
theorem Dts.of_bls : ∀ {ns : List Bool} {xs : List V}, Dts H (ns.map .bool) xs → xs = ns.map V.bl
  | [], _, h => h
  | n :: ns, _, h => by
    obtain ⟨v, vs, rfl, h1, h2⟩ := h
    have h1 : v = V.bl n := h1
    rw [h1, Dts.of_bls h2] <;> rfl
theorem Dt.mk {ds : List PyData} {a : Addr} {xs : List V} (h : Rd H a (.tup xs)) (k : Dts H ds xs) : Dt H (.tuple ds) (.ref a) := ⟨a, xs, rfl, h, k⟩
end
/-! the data relation of the kit (lists too) -/
mutual
theorem Dt.dp {K : PySem.W.Frag} {H : Hp} : ∀ (d : PyData) {v : V}, Dt H d v → Dp K H v d
  | .none, _, h => by cases h; exact .non
  | .bool _, _, h => by cases h; exact .bl _
  | .int _, _, h => by cases h; exact .int _
  | .str _, _, h => by cases h; exact .str _
  | .tuple ds, _, ⟨a, xs, e, ha, hd⟩ => by
    subst e
    exact .tup (.inl ha) (Dts.dp ds hd)
  | .list _, _, h => h.elim
  | .dict _, _, h => h.elim
theorem Dts.dp {K : PySem.W.Frag} {H : Hp} : ∀ (ds : List PyData) {xs : List V}, Dts H ds xs → DpAll K H xs ds
  | [], _, h => by cases h; exact .nil
  | d :: ds, _, ⟨v, vs, e, h1, h2⟩ => by
    subst e
    exact .cons (Dt.dp d h1) (Dts.dp ds h2)
end
/-! ### the locals -/
def Loc (H : Hp) : List (Option PyData) → L2.St → Prop
  | [], _ => True
  | none :: G, l => ∃ s l', l = s :: l' ∧ Loc H G l'
  | some d :: G, l => ∃ v l', l = some v :: l' ∧ Dt H d v ∧ Loc H G l'
section
variable {H H' : Hp}
theorem Loc.tk (k : Tk H H') : ∀ {G : List (Option PyData)} {l : L2.St}, Loc H G l → Loc H' G l
  | [], _, _ => trivial
  | none :: _, _, ⟨s, l', e, h⟩ => ⟨s, l', e, Loc.tk k h⟩
  | some d :: _, _, ⟨v, l', e, h1, h2⟩ => ⟨v, l', e, Dt.tk k d h1, Loc.tk k h2⟩
theorem Loc.to {G : List (Option PyData)} {l : L2.St} (h : Loc H G l) (e : Same H H') : Loc H' G l := h.tk (tk_same e)
theorem Loc.get : ∀ {G : List (Option PyData)} {l : L2.St} {i : Nat} {d : PyData}, Loc H G l → G[i]? = some (some d) → ∃ v, l[i]? = some (some v) ∧ Dt H d v
  | [], _, _, _, _, e => by simp at e
  | none :: _, _, 0, _, _, e => by simp at e
  | some d0 :: _, _, 0, d, h, e => by
    obtain ⟨v, l', rfl, h1, _⟩ := h
    have e : d0 = d := Option.some.inj (Option.some.inj e)
    subst e
    exact ⟨v, rfl, h1⟩
  | none :: _, _, i + 1, d, h, e => by
    obtain ⟨s, l', rfl, h2⟩ := h
    exact Loc.get (i := i) h2 e
  | some d0 :: _, _, i + 1, d, h, e => by
    obtain ⟨v, l', rfl, _, h2⟩ := h
    exact Loc.get (i := i) h2 e
theorem Loc.set {v : V} {d : PyData} (hd : Dt H d v) : ∀ {G : List (Option PyData)} {l : L2.St} (i : Nat), Loc H G l → Loc H (G.set i (some d)) (l.set i (some v))
  | [], _, _, _ => trivial
  | none :: _, _, 0, ⟨s, l', e, h⟩ => by subst e; exact ⟨v, l', rfl, hd, h⟩
  | some d0 :: _, _, 0, ⟨s, l', e, _, h⟩ => by subst e; exact ⟨v, l', rfl, hd, h⟩
  | none :: _, _, i + 1, ⟨s, l', e, h⟩ => by subst e; exact ⟨s, _, rfl, Loc.set hd i h⟩
  | some d0 :: _, _, i + 1, ⟨s, l', e, h1, h⟩ => by subst e; exact ⟨s, _, rfl, h1, Loc.set hd i h⟩
theorem Loc.off {v : Option V} : ∀ {G : List (Option PyData)} {l : L2.St} (i : Nat), Loc H G l → Loc H (G.set i none) (l.set i v)
  | [], _, _, _ => trivial
  | none :: _, _, 0, ⟨s, l', e, h⟩ => by subst e; exact ⟨v, l', rfl, h⟩
  | some d0 :: _, _, 0, ⟨s, l', e, _, h⟩ => by subst e; exact ⟨v, l', rfl, h⟩
  | none :: _, _, i + 1, ⟨s, l', e, h⟩ => by subst e; exact ⟨s, _, rfl, Loc.off i h⟩
  | some d0 :: _, _, i + 1, ⟨s, l', e, h1, h⟩ => by subst e; exact ⟨s, _, rfl, h1, Loc.off i h⟩
theorem Loc.args : ∀ {ds : List PyData} {vs : List V}, Dts H ds vs → Loc H (ds.map some) (vs.map some)
  | [], _, _ => trivial
  | d :: ds, _, h => by
    obtain ⟨v, vs, rfl, h1, h2⟩ := h
    exact ⟨v, _, rfl, h1, Loc.args h2⟩
theorem Loc.nones : ∀ (n : Nat), Loc H (List.replicate n none) (List.replicate n none)
  | 0 => trivial
  | n + 1 => ⟨none, _, rfl, Loc.nones n⟩
theorem Loc.app : ∀ {G G' : List (Option PyData)} {l l' : L2.St}, G.length = l.length → Loc H G l → Loc H G' l' → Loc H (G ++ G') (l ++ l')
  | [], _, l, _, e, _, g => by
    have : l = [] := List.length_eq_zero_iff.mp e.symm
    subst this
    exact g
  | none :: _, _, _, _, e, ⟨s, l1, q, h⟩, g => by
    subst q
    exact ⟨s, _, rfl, Loc.app (Nat.succ.inj e) h g⟩
  | some d :: _, _, _, _, e, ⟨v, l1, q, h1, h⟩, g => by
    subst q
    exact ⟨v, _, rfl, h1, Loc.app (Nat.succ.inj e) h g⟩
theorem Loc.start {N : List Str} {ds : List PyData} {vs : List V} (h : Dts H ds vs) : Loc H (ds.map some ++ List.replicate (N.length - ds.length) none) (start N vs) := by
  unfold L2.start
  rw [h.len]
  exact Loc.app (by rw [List.length_map, List.length_map, h.len]) (Loc.args h) (Loc.nones _)
end
/-! ### what an expression, a test gives; stable under every new object -/
def Ev (te : TE) (l : L2.St) (H : Hp) (d : PyData) : Prop := ∀ H1, Same H H1 → ∀ Q : VK, (∀ v H2, Same H1 H2 → Dt H2 d v → Q v H2) → te l H1 Q
def EvA (ta : TA) (l : L2.St) (H : Hp) (ds : List PyData) : Prop := ∀ H1, Same H H1 → ∀ Q : List V → Hp → Prop, (∀ vs H2, Same H1 H2 → Dts H2 ds vs → Q vs H2) → ta l H1 Q
def EvT (tt : TT) (l : L2.St) (H : Hp) (b : Bool) : Prop := ∀ H1, Same H H1 → ∀ Q : Bool → Hp → Prop, (∀ H2, Same H1 H2 → Q b H2) → tt l H1 Q
/-- a value as it is, a new list -/
def EvV (te : TE) (l : L2.St) (H : Hp) (v : V) : Prop := ∀ H1, Same H H1 → ∀ Q : VK, (∀ H2, Same H1 H2 → Q v H2) → te l H1 Q
def EvL (te : TE) (l : L2.St) (H : Hp) (ds : List PyData) : Prop := ∀ H1, Same H H1 → ∀ Q : VK, (∀ p xs H2, H1 p = none → Same H1 H2 → H2 p = some (.lst xs) → Dts H2 ds xs → Q (.ref p) H2) → te l H1 Q
def EvO (to : TO) (l : L2.St) (H : Hp) (o : Option Int) : Prop := ∀ H1, Same H H1 → ∀ Q : Option Int → Hp → Prop, (∀ H2, Same H1 H2 → Q o H2) → to l H1 Q
/-- a promise of a def that only makes new immutable things -/
def spP (R : List PyData → PyData → Prop) : Sp := fun vs H Q _ => ∃ ds d, Dts H ds vs ∧ R ds d ∧ ∀ v H', Same H H' → Dt H' d v → Q v H'
section
variable {K : PySem.W.Frag} {l : L2.St} {H H' : Hp} {ta tb tc te : TE} {t u : TT} {i j k : Int} {d d1 d2 : PyData} {ds es : List PyData} {b c : Bool} {G : List (Option PyData)}
theorem Ev.to (h : Ev te l H d) (e : Same H H') : Ev te l H' d := fun H1 a Q q => h H1 (e.trans a) Q q
theorem EvT.to (h : EvT t l H b) (e : Same H H') : EvT t l H' b := fun H1 a Q q => h H1 (e.trans a) Q q
theorem Ev.is (h : Ev te l H d) (e : d = d1) : Ev te l H d1 := e ▸ h
theorem EvT.is (h : EvT t l H b) (e : b = c) : EvT t l H c := e ▸ h
theorem Same.free' {H1 : Hp} (e : Same H H1) {p : Addr} (h : H1 p = none) : H p = none := Same.free e h
theorem ev_v (L : Loc H G l) {n : Nat} (h : G[n]? = some (some d)) : Ev (tVar n) l H d := fun H1 e Q q => by
  obtain ⟨v, h1, h2⟩ := L.get h
  exact ⟨v, h1, q v H1 (Same.refl _) (h2.to e)⟩
/-- a slot whose value stands in the heap in another way -/
theorem ev_at {v : V} {n : Nat} (h : l[n]? = some (some v)) (hd : Dt H d v) : Ev (tVar n) l H d := fun H1 e Q q => ⟨v, h, q v H1 (Same.refl _) (hd.to e)⟩
theorem vv_at {v : V} {n : Nat} (h : l[n]? = some (some v)) : EvV (tVar n) l H v := fun H1 e Q q => ⟨v, h, q H1 (Same.refl _)⟩
theorem ev_int : Ev (tC (.int i)) l H (.int i) := fun H1 _ Q q => q _ H1 (Same.refl _) rfl
theorem ev_str {x : Str} : Ev (tC (.str x)) l H (.str x) := fun H1 _ Q q => q _ H1 (Same.refl _) rfl
theorem ev_non : Ev (tC .non) l H .none := fun H1 _ Q q => q _ H1 (Same.refl _) rfl
theorem ev_bl : Ev (tC (.bl b)) l H (.bool b) := fun H1 _ Q q => q _ H1 (Same.refl _) rfl
theorem vv_c {v : V} : EvV (tC v) l H v := fun H1 _ Q q => q H1 (Same.refl _)
theorem ev_I {C : Int → Int → Prop} {g : Int → Int → Int} (ha : Ev ta l H (.int i)) (hb : Ev tb l H (.int j)) (hc : C i j) : Ev (tOp (rI C fun i j => .int (g i j)) ta tb) l H (.int (g i j)) := fun H1 e Q q =>
  ha H1 e _ fun v H2 e2 h2 => hb H2 (e.trans e2) _ fun w H3 e3 h3 => ⟨i, j, h2, h3, hc, q _ H3 (e2.trans e3) rfl⟩
theorem ev_I0 {g : Int → Int → Int} (ha : Ev ta l H (.int i)) (hb : Ev tb l H (.int j)) : Ev (tOp (rI0 fun i j => .int (g i j)) ta tb) l H (.int (g i j)) := fun H1 e Q q =>
  ha H1 e _ fun v H2 e2 h2 => hb H2 (e.trans e2) _ fun w H3 e3 h3 => ⟨i, j, h2, h3, q _ H3 (e2.trans e3) rfl⟩
theorem ev_B0 {g : Int → Int → Bool} (ha : Ev ta l H (.int i)) (hb : Ev tb l H (.int j)) : Ev (tOp (rI0 fun i j => .bl (g i j)) ta tb) l H (.bool (g i j)) := fun H1 e Q q =>
  ha H1 e _ fun v H2 e2 h2 => hb H2 (e.trans e2) _ fun w H3 e3 h3 => ⟨i, j, h2, h3, q _ H3 (e2.trans e3) rfl⟩
theorem ev_U {g : Int → Int} (ha : Ev ta l H (.int i)) : Ev (tUn (rU fun i => .int (g i)) ta) l H (.int (g i)) := fun H1 e Q q =>
  ha H1 e _ fun v H2 e2 h2 => ⟨i, h2, q _ H2 e2 rfl⟩
/-- flat data as values -/
def fv : PyData → V
  | .bool b => .bl b
  | .int i => .int i
  | .str x => .str x
  | _ => .non
def flt : PyData → Bool
  | .none | .bool _ | .int _ | .str _ => true
  | _ => false
theorem fv_of {v : V} (h : Dt H d v) (f : flt d = true) : v = fv d := by
  cases d with
  | none => exact h
  | bool _ => exact h
  | int _ => exact h
  | str _ => exact h
  | list _ => cases f
  | tuple _ => cases f
  | dict _ => cases f
theorem ev_eq (ha : Ev ta l H d1) (hb : Ev tb l H d2) (f1 : flt d1 = true) (f2 : flt d2 = true) (hs : scal (fv d1) (fv d2) = true) (hr : decide (fv d1 = fv d2) = b) : Ev (tOp rEq ta tb) l H (.bool b) := fun H1 e Q q =>
  ha H1 e _ fun v H2 e2 h2 => hb H2 (e.trans e2) _ fun w H3 e3 h3 => by
    rw [fv_of h2 f1, fv_of h3 f2]
    exact ⟨hs, by rw [hr]; exact q _ H3 (e2.trans e3) rfl⟩
theorem ev_ne (ha : Ev ta l H d1) (hb : Ev tb l H d2) (f1 : flt d1 = true) (f2 : flt d2 = true) (hs : scal (fv d1) (fv d2) = true) (hr : (!decide (fv d1 = fv d2)) = b) : Ev (tOp rNe ta tb) l H (.bool b) := fun H1 e Q q =>
  ha H1 e _ fun v H2 e2 h2 => hb H2 (e.trans e2) _ fun w H3 e3 h3 => by
    rw [fv_of h2 f1, fv_of h3 f2]
    exact ⟨hs, by rw [hr]; exact q _ H3 (e2.trans e3) rfl⟩
theorem ev_eqI (ha : Ev ta l H (.int i)) (hb : Ev tb l H (.int j)) : Ev (tOp rEq ta tb) l H (.bool (decide (i = j))) := ev_eq ha hb rfl rfl rfl (by simp [fv])
theorem ev_neI (ha : Ev ta l H (.int i)) (hb : Ev tb l H (.int j)) : Ev (tOp rNe ta tb) l H (.bool (!decide (i = j))) := ev_ne ha hb rfl rfl rfl (by simp [fv])
theorem ev_eqS {x y : Str} (ha : Ev ta l H (.str x)) (hb : Ev tb l H (.str y)) : Ev (tOp rEq ta tb) l H (.bool (decide (x = y))) := ev_eq ha hb rfl rfl rfl (by simp [fv])
theorem ev_neS {x y : Str} (ha : Ev ta l H (.str x)) (hb : Ev tb l H (.str y)) : Ev (tOp rNe ta tb) l H (.bool (!decide (x = y))) := ev_ne ha hb rfl rfl rfl (by simp [fv])
/-- is None -/
def isNo : PyData → Bool
  | .none => true
  | _ => false
theorem isNo_dec {v : V} (h : Dt H d v) : decide (v = .non) = isNo d := by
  cases d with
  | none => rw [show v = .non from h]; rfl
  | bool _ => rw [show v = .bl _ from h]; rfl
  | int _ => rw [show v = .int _ from h]; rfl
  | str _ => rw [show v = .str _ from h]; rfl
  | tuple _ =>
    obtain ⟨a, xs, rfl, _⟩ := h
    rfl
  | list _ => exact h.elim
  | dict _ => exact h.elim
theorem ev_isN {r : R2} (hr : r = fun x y H Q => y = .non ∧ Q (.bl (decide (x = .non))) H) (ha : Ev ta l H d) : Ev (tOp r ta (tC .non)) l H (.bool (isNo d)) := fun H1 e Q q =>
  ha H1 e _ fun v H2 e2 h2 => by
    subst hr
    exact ⟨rfl, by rw [isNo_dec h2]; exact q _ H2 e2 rfl⟩
theorem ev_notN {r : R2} (hr : r = fun x y H Q => y = .non ∧ Q (.bl (!decide (x = .non))) H) (ha : Ev ta l H d) : Ev (tOp r ta (tC .non)) l H (.bool (!isNo d)) := fun H1 e Q q =>
  ha H1 e _ fun v H2 e2 h2 => by
    subst hr
    exact ⟨rfl, by rw [isNo_dec h2]; exact q _ H2 e2 rfl⟩
/-! tests -/
theorem et_of (h : Ev te l H (.bool b)) : EvT (tTest te) l H b := fun H1 e Q q => h H1 e _ fun v H2 e2 h2 => ⟨b, h2, q H2 e2⟩
theorem et_B (h : Ev te l H (.bool b)) : EvT (tB te) l H b := fun H1 e Q q => h H1 e _ fun v H2 e2 h2 => ⟨b, h2, q H2 e2⟩
theorem et_and (h1 : EvT t l H b) (h2 : b = true → EvT u l H c) : EvT (tAnd t u) l H (b && c) := fun H1 e Q q => h1 H1 e _ fun H2 e2 => by
  cases b with
  | true => exact h2 rfl H2 (e.trans e2) Q fun H3 e3 => q H3 (e2.trans e3)
  | false => exact q H2 e2
theorem et_or (h1 : EvT t l H b) (h2 : b = false → EvT u l H c) : EvT (tOr t u) l H (b || c) := fun H1 e Q q => h1 H1 e _ fun H2 e2 => by
  cases b with
  | true => exact q H2 e2
  | false => exact h2 rfl H2 (e.trans e2) Q fun H3 e3 => q H3 (e2.trans e3)
theorem et_not (h : EvT t l H b) : EvT (tNot t) l H (!b) := fun H1 e Q q => h H1 e _ fun H2 e2 => q H2 e2
theorem ev_and (h1 : Ev ta l H (.bool b)) (h2 : b = true → Ev tb l H (.bool c)) : Ev (tAndV ta tb) l H (.bool (b && c)) := fun H1 e Q q => h1 H1 e _ fun v H2 e2 q2 => ⟨b, q2, by
  cases b with
  | true => exact h2 rfl H2 (e.trans e2) Q fun v H3 e3 h3 => q v H3 (e2.trans e3) h3
  | false => exact q _ H2 e2 rfl⟩
theorem ev_not (h1 : Ev ta l H (.bool b)) : Ev (tNotV ta) l H (.bool (!b)) := fun H1 e Q q => h1 H1 e _ fun v H2 e2 q2 => ⟨b, q2, q _ H2 e2 rfl⟩
theorem ev_if (h : EvT t l H b) (h1 : b = true → Ev ta l H d) (h2 : b = false → Ev tb l H d) : Ev (tIf t ta tb) l H d := fun H1 e Q q => h H1 e _ fun H2 e2 => by
  cases b with
  | true => exact h1 rfl H2 (e.trans e2) Q fun v H3 e3 h3 => q v H3 (e2.trans e3) h3
  | false => exact h2 rfl H2 (e.trans e2) Q fun v H3 e3 h3 => q v H3 (e2.trans e3) h3
/-- a < b < c of numbers -/
theorem ev_ch {f g : Int → Int → Bool} (ha : Ev ta l H (.int i)) (hb : Ev tb l H (.int j)) (hc : Ev tc l H (.int k)) : Ev (tChain (rI0 fun i j => .bl (f i j)) (rI0 fun i j => .bl (g i j)) ta tb tc) l H (.bool (f i j && g j k)) := fun H1 e Q q =>
  ha H1 e _ fun v H2 e2 h2 => hb H2 (e.trans e2) _ fun w H3 e3 h3 => ⟨i, j, h2, h3, f i j, rfl, by
    cases hf : f i j with
    | true => exact hc H3 ((e.trans e2).trans e3) _ fun z H4 e4 h4 => ⟨j, k, h3, h4, q _ H4 ((e2.trans e3).trans e4) (by rw [hf] <;> rfl)⟩
    | false => exact q _ H3 (e2.trans e3) (by rw [hf] <;> rfl)⟩
/-! rows of arguments, tuples, lists -/
theorem ea_nil : EvA tNil l H [] := fun H1 _ Q q => q [] H1 (Same.refl _) rfl
theorem ea_cons {tr : TA} (h : Ev ta l H d) (hr : EvA tr l H ds) : EvA (tCons ta tr) l H (d :: ds) := fun H1 e Q q =>
  h H1 e _ fun v H2 e2 h2 => hr H2 (e.trans e2) _ fun vs H3 e3 h3 => q _ H3 (e2.trans e3) ⟨v, vs, rfl, h2.to e3, h3⟩
theorem ea_1 (h : Ev ta l H d) : EvA (tCons ta tNil) l H [d] := ea_cons h ea_nil
theorem ea_2 (h : Ev ta l H d) (h2 : Ev tb l H d1) : EvA (tCons ta (tCons tb tNil)) l H [d, d1] := ea_cons h (ea_1 h2)
theorem ea_3 (h : Ev ta l H d) (h2 : Ev tb l H d1) (h3 : Ev tc l H d2) : EvA (tCons ta (tCons tb (tCons tc tNil))) l H [d, d1, d2] := ea_cons h (ea_2 h2 h3)
theorem sz_of {n : Nat} (h : n ≤ 1000000) : n ≤ sizeLine := Nat.le_trans h (by decide)
theorem sz_lt {n : Nat} (h : n < 1000000) : n < sizeLine := Nat.lt_of_lt_of_le h (by decide)
theorem ev_tup {t : TA} (h : EvA t l H ds) (hl : ds.length ≤ 1000000) : Ev (tTup t) l H (.tuple ds) := fun H1 e Q q =>
  h H1 e _ fun vs H2 e2 h2 => ⟨by rw [h2.len]; exact sz_of hl, fun p hp => q _ _ (e2.trans (same_new hp)) ⟨p, vs, rfl, .inl upd_same, h2.to (same_new hp)⟩⟩
theorem el_lst {t : TA} (h : EvA t l H ds) (hl : ds.length ≤ 1000000) : EvL (tLst t) l H ds := fun H1 e Q q =>
  h H1 e _ fun vs H2 e2 h2 => ⟨by rw [h2.len]; exact sz_of hl, fun p hp => q p vs _ (Same.free e2 hp) (e2.trans (same_new hp)) upd_same (h2.to (same_new hp))⟩
/-- a call of a pure def -/
theorem ev_call {R : List PyData → PyData → Prop} {t : TA} {E : XK} (h : EvA t l H ds) (hr : R ds d) : Ev (tCall (spP R) [] E t) l H d := fun H1 e Q q =>
  h H1 e _ fun vs H2 e2 h2 => ⟨ds, d, by rw [List.append_nil]; exact h2, hr, fun v H3 e3 h3 => q v H3 (e2.trans e3) h3⟩
/-- t + u -/
theorem ev_cat (ha : Ev ta l H (.tuple ds)) (hb : Ev tb l H (.tuple es)) (hz : ds.length + es.length ≤ 1000000) : Ev (tOp (rCatA K) ta tb) l H (.tuple (ds ++ es)) := fun H1 e Q q =>
  ha H1 e _ fun v H2 e2 h2 => hb H2 (e.trans e2) _ fun w H3 e3 h3 => by
    obtain ⟨a, xs, rfl, ha2, hx⟩ := h2
    obtain ⟨b, ys, rfl, hb2, hy⟩ := h3
    have hx3 := hx.to e3
    refine ⟨a, b, xs, ys, rfl, rfl, .inl (rd_to e3 ha2), (.inl hb2), by rw [hx.len, hy.len]; exact sz_of hz, fun x0 => ?_, fun _ y0 => ?_, fun _ _ p hp => ?_⟩
    · subst x0
      have : ds = [] := List.length_eq_zero_iff.mp hx.len.symm
      subst this
      exact q _ H3 (e2.trans e3) ⟨b, ys, rfl, hb2, hy⟩
    · subst y0
      have : es = [] := List.length_eq_zero_iff.mp hy.len.symm
      subst this
      rw [List.append_nil] at q
      exact q _ H3 (e2.trans e3) ⟨a, xs, rfl, rd_to e3 ha2, hx3⟩
    · exact q _ _ ((e2.trans e3).trans (same_new hp)) ⟨p, _, rfl, .inl upd_same, (hx3.app hy).to (same_new hp)⟩
/-- len(t), t[i], t[a:b] -/
def rLenQ (K : PySem.W.Frag) : List V → Hp → VK → Prop := fun xs H Q => ∃ p ys, xs = [.ref p] ∧ (SqL K H p ys ∨ SqT K H p ys) ∧ Q (.int ys.length) H
theorem ev_len (ha : Ev ta l H (.tuple ds)) : Ev (tCB (rLenQ K) (tCons ta tNil)) l H (.int (ds.length : Nat)) := fun H1 e Q q =>
  ha H1 e _ fun v H2 e2 h2 => by
    obtain ⟨a, xs, rfl, ha2, hx⟩ := h2
    exact ⟨a, xs, rfl, .inr ((.inl ha2)), q _ H2 e2 (by rw [hx.len] <;> rfl)⟩
def rLenZ : List V → Hp → VK → Prop := fun xs H Q => ∃ z, xs = [.str z] ∧ z.length ≤ sizeLine ∧ Q (.int z.length) H
theorem ev_lenS {x : Str} (ha : Ev ta l H (.str x)) (hz : x.length ≤ 1000000) : Ev (tCB rLenZ (tCons ta tNil)) l H (.int (x.length : Nat)) := fun H1 e Q q =>
  ha H1 e _ fun v H2 e2 h2 => ⟨x, by rw [show v = .str x from h2], sz_of hz, q _ H2 e2 rfl⟩
theorem ev_ix (ha : Ev ta l H (.tuple ds)) (hb : Ev tb l H (.int i)) (h : atI ds i = some d) : Ev (tOp (rIxT K) ta tb) l H d := fun H1 e Q q =>
  ha H1 e _ fun v H2 e2 h2 => hb H2 (e.trans e2) _ fun w H3 e3 h3 => by
    obtain ⟨a, xs, rfl, ha2, hx⟩ := h2
    have h : (ixN ds.length i).bind (fun j => ds[j]?) = some d := h
    cases hj : ixN ds.length i with
    | none => rw [hj] at h; cases h
    | some j =>
      rw [hj] at h
      obtain ⟨z, hz1, hz2⟩ := (hx.to e3).get (i := j) h
      refine ⟨a, xs, i, z, rfl, h3, .inl (rd_to e3 ha2), ?_, q z H3 (e2.trans e3) hz2⟩
      show (ixN xs.length i).bind (fun j => xs[j]?) = some z
      rw [hx.len, hj]
      exact hz1
theorem eo_none : EvO tNoPart l H none := fun H1 _ Q q => q H1 (Same.refl _)
theorem eo_some (h : Ev ta l H (.int i)) : EvO (tPart ta) l H (some i) := fun H1 e Q q => h H1 e _ fun v H2 e2 h2 => ⟨i, h2, q H2 e2⟩
/-- the slice, on data -/
def cutD (xs : List PyData) (lo hi : Option Int) : List PyData := (xs.drop (HT.sIx xs.length 0 lo)).take (HT.sIx xs.length xs.length hi - HT.sIx xs.length 0 lo)
theorem Dts.cut {xs : List V} {lo hi : Option Int} (h : Dts H ds xs) : Dts H (cutD ds lo hi) (cutV xs lo hi) := by
  unfold cutD cutV
  rw [h.len]
  exact Dts.take _ (Dts.drop _ h)
theorem ev_sl {tl th : TO} {lo hi : Option Int} (ha : Ev ta l H (.tuple ds)) (h1 : EvO tl l H lo) (h2 : EvO th l H hi) : Ev (tSl (rSlA K) ta tl th) l H (.tuple (cutD ds lo hi)) := fun H1 e Q q =>
  ha H1 e _ fun v H2 e2 q2 => h1 H2 (e.trans e2) _ fun H3 e3 => h2 H3 ((e.trans e2).trans e3) _ fun H4 e4 => by
    obtain ⟨a, xs, rfl, ha2, hx⟩ := q2
    have hx4 := (hx.to e3).to e4
    refine ⟨a, xs, rfl, .inl (rd_to e4 (rd_to e3 ha2)), fun hw => ?_, fun _ p hp => ?_⟩
    · have ed : cutD ds lo hi = ds := by
        unfold cutD
        rw [hx.len] at hw
        rw [hw.1, hw.2, List.drop_zero, Nat.sub_zero, List.take_length]
      rw [ed] at q
      exact q _ H4 ((e2.trans e3).trans e4) ⟨a, xs, rfl, rd_to e4 (rd_to e3 ha2), hx4⟩
    · exact q _ _ (((e2.trans e3).trans e4).trans (same_new hp)) ⟨p, _, rfl, .inl upd_same, (hx4.cut).to (same_new hp)⟩
/-- tuple(t) of a tuple, of a new list -/
def rTupQ (K : PySem.W.Frag) : List V → Hp → VK → Prop := fun xs H Q => ∃ p ys, xs = [.ref p] ∧ ((SqL K H p ys ∧ ∀ l, H l = none → Q (.ref l) (upd H l (.tup ys))) ∨ (SqT K H p ys ∧ Q (.ref p) H))
theorem ev_tuT (ha : Ev ta l H (.tuple ds)) : Ev (tCB (rTupQ K) (tCons ta tNil)) l H (.tuple ds) := fun H1 e Q q =>
  ha H1 e _ fun v H2 e2 h2 => by
    obtain ⟨a, xs, rfl, ha2, hx⟩ := h2
    exact ⟨a, xs, rfl, .inr ⟨(.inl ha2), q _ H2 e2 ⟨a, xs, rfl, ha2, hx⟩⟩⟩
theorem ev_tuL (ha : EvL ta l H ds) : Ev (tCB (rTupQ K) (tCons ta tNil)) l H (.tuple ds) := fun H1 e Q q =>
  ha H1 e _ fun p xs H2 hp e2 h2 hx => ⟨p, xs, rfl, .inl ⟨SqL.of h2, fun z hz => q _ _ (e2.trans (same_new hz)) ⟨z, xs, rfl, .inl upd_same, hx.to (same_new hz)⟩⟩⟩
end
end Sp
set_option Elab.async false
set_option linter.all false
set_option maxRecDepth 100000
set_option maxHeartbeats 4000000
namespace Sp
open PySem PySem.Spec PyProof.Rows L2
/-! ### statements -/
section
variable {K : PySem.W.Frag} {l : L2.St} {H H' : Hp} {ta tb tc te tl : TE} {t u : TT} {d d1 d2 d3 : PyData} {ds es : List PyData} {b c : Bool} {G : List (Option PyData)} {D : Ends} {tz tu tw : TS} {n m o : Nat}
theorem s_asg (h : Ev te l H d) (L : Loc H G l) (k : ∀ v H1, Same H H1 → Dt H1 d v → Loc H1 (G.set n (some d)) (l.set n (some v)) → D.nx (l.set n (some v)) H1) : tAsg te (gName n) D l H :=
  h H (Same.refl _) _ fun v H1 e hv => k v H1 e hv (Loc.set hv n (L.to e))
theorem q_asg (h : Ev te l H d) (L : Loc H G l) (k : ∀ v H1, Same H H1 → Dt H1 d v → Loc H1 (G.set n (some d)) (l.set n (some v)) → tz D (l.set n (some v)) H1) : tSeq (tAsg te (gName n)) tz D l H := s_asg (D := { D with nx := tz D }) h L k
/-- a new list in a slot -/
theorem q_asgL (h : EvL te l H ds) (L : Loc H G l) (k : ∀ p xs H1, H p = none → Same H H1 → H1 p = some (.lst xs) → Dts H1 ds xs → Loc H1 (G.set n none) (l.set n (some (.ref p))) → tz D (l.set n (some (.ref p))) H1) : tSeq (tAsg te (gName n)) tz D l H :=
  h H (Same.refl _) _ fun p xs H1 hp e h2 hx => k p xs H1 hp e h2 hx (Loc.off n (L.to e))
theorem s_ret (h : Ev te l H d) (k : ∀ v H1, Same H H1 → Dt H1 d v → D.rt v H1) : tRet te D l H := h H (Same.refl _) _ fun v H1 e hv => k v H1 e hv
theorem s_if (h : EvT t l H b) (h1 : b = true → ∀ H1, Same H H1 → tu D l H1) (h2 : b = false → ∀ H1, Same H H1 → tw D l H1) : tIfS t tu tw D l H := h H (Same.refl _) _ fun H1 e => by
  cases b with
  | true => exact h1 rfl H1 e
  | false => exact h2 rfl H1 e
theorem q_if (h : EvT t l H b) (h1 : b = true → ∀ H1, Same H H1 → tu { D with nx := tz D } l H1) (h2 : b = false → ∀ H1, Same H H1 → tw { D with nx := tz D } l H1) : tSeq (tIfS t tu tw) tz D l H := s_if (D := { D with nx := tz D }) h h1 h2
/-- a test that is not so: nothing is raised, nothing done -/
theorem q_skip (h : EvT t l H false) (k : ∀ H1, Same H H1 → tz D l H1) : tSeq (tIfS t tu tNext) tz D l H := h H (Same.refl _) _ fun H1 e => k H1 e
theorem s_skip (h : EvT t l H false) (k : ∀ H1, Same H H1 → D.nx l H1) : tIfS t tu tNext D l H := h H (Same.refl _) _ fun H1 e => k H1 e
theorem q_yes (h : EvT t l H true) (k : ∀ H1, Same H H1 → tu { D with nx := tz D } l H1) : tSeq (tIfS t tu tw) tz D l H := h H (Same.refl _) _ fun H1 e => k H1 e
theorem q_no (h : EvT t l H false) (k : ∀ H1, Same H H1 → tw { D with nx := tz D } l H1) : tSeq (tIfS t tu tw) tz D l H := h H (Same.refl _) _ fun H1 e => k H1 e
/-- a, b = e; a, b, c = e -/
theorem s_un2 (h : Ev te l H (.tuple [d1, d2])) (L : Loc H G l) (k : ∀ v w H1, Same H H1 → Dt H1 d1 v → Dt H1 d2 w → Loc H1 ((G.set n (some d1)).set m (some d2)) ((l.set n (some v)).set m (some w)) → D.nx ((l.set n (some v)).set m (some w)) H1) :
    tAsg te (gTup K 2 (gCons (gName n) (gCons (gName m) gNil))) D l H := h H (Same.refl _) _ fun v H1 e hv => by
  obtain ⟨a, xs, rfl, ha, v1, vs1, rfl, h1, v2, vs2, rfl, h2, rfl⟩ := hv
  exact ⟨a, _, rfl, (.inl ha), rfl, v1, _, rfl, v2, _, rfl, rfl, k v1 v2 H1 e h1 h2 (Loc.set h2 m (Loc.set h1 n (L.to e)))⟩
theorem q_un2 (h : Ev te l H (.tuple [d1, d2])) (L : Loc H G l) (k : ∀ v w H1, Same H H1 → Dt H1 d1 v → Dt H1 d2 w → Loc H1 ((G.set n (some d1)).set m (some d2)) ((l.set n (some v)).set m (some w)) → tz D ((l.set n (some v)).set m (some w)) H1) :
    tSeq (tAsg te (gTup K 2 (gCons (gName n) (gCons (gName m) gNil)))) tz D l H := s_un2 (D := { D with nx := tz D }) h L k
theorem q_un3 (h : Ev te l H (.tuple [d1, d2, d3])) (L : Loc H G l)
    (k : ∀ v w z H1, Same H H1 → Dt H1 d1 v → Dt H1 d2 w → Dt H1 d3 z → Loc H1 (((G.set n (some d1)).set m (some d2)).set o (some d3)) (((l.set n (some v)).set m (some w)).set o (some z)) → tz D (((l.set n (some v)).set m (some w)).set o (some z)) H1) :
    tSeq (tAsg te (gTup K 3 (gCons (gName n) (gCons (gName m) (gCons (gName o) gNil))))) tz D l H := h H (Same.refl _) _ fun v H1 e hv => by
  obtain ⟨a, xs, rfl, ha, v1, vs1, rfl, h1, v2, vs2, rfl, h2, v3, vs3, rfl, h3, rfl⟩ := hv
  exact ⟨a, _, rfl, (.inl ha), rfl, v1, _, rfl, v2, _, rfl, v3, _, rfl, rfl, k v1 v2 v3 H1 e h1 h2 h3 (Loc.set h3 o (Loc.set h2 m (Loc.set h1 n (L.to e))))⟩
/-- a, b = x, y -/
theorem q_par {ta : TA} (h : EvA ta l H [d1, d2]) (L : Loc H G l) (k : ∀ v w H1, Same H H1 → Dt H1 d1 v → Dt H1 d2 w → Loc H1 ((G.set n (some d1)).set m (some d2)) ((l.set n (some v)).set m (some w)) → tz D ((l.set n (some v)).set m (some w)) H1) :
    tSeq (tPar n m ta) tz D l H := h H (Same.refl _) _ fun vs H1 e hv => by
  obtain ⟨v1, vs1, rfl, h1, v2, vs2, rfl, h2, rfl⟩ := hv
  exact ⟨v1, v2, rfl, k v1 v2 H1 e h1 h2 (Loc.set h2 m (Loc.set h1 n (L.to e)))⟩
/-- x op= e -/
theorem s_augI {f : Int → Int → Int} {i j : Int} (L : Loc H G l) (hx : G[n]? = some (some (.int i))) (h : Ev te l H (.int j)) (k : ∀ H1, Same H H1 → Loc H1 (G.set n (some (.int (f i j)))) (l.set n (some (.int (f i j)))) → D.nx (l.set n (some (.int (f i j)))) H1) : tAug n te (ipI f) D l H := by
  obtain ⟨v, h1, h2⟩ := L.get hx
  exact ⟨v, h1, h H (Same.refl _) _ fun w H1 e hw => ⟨i, j, h2, hw, k H1 e (Loc.set (d := .int (f i j)) rfl n (L.to e))⟩⟩
theorem q_augI {f : Int → Int → Int} {i j : Int} (L : Loc H G l) (hx : G[n]? = some (some (.int i))) (h : Ev te l H (.int j)) (k : ∀ H1, Same H H1 → Loc H1 (G.set n (some (.int (f i j)))) (l.set n (some (.int (f i j)))) → tz D (l.set n (some (.int (f i j)))) H1) : tSeq (tAug n te (ipI f)) tz D l H :=
  s_augI (D := { D with nx := tz D }) L hx h k
def ipC (K : PySem.W.Frag) : TIp := fun x y H Q => rCatA K x y H Q
theorem s_augC (L : Loc H G l) (hx : G[n]? = some (some (.tuple ds))) (h : Ev te l H (.tuple es)) (hz : ds.length + es.length ≤ 1000000) (k : ∀ v H1, Same H H1 → Dt H1 (.tuple (ds ++ es)) v → Loc H1 (G.set n (some (.tuple (ds ++ es)))) (l.set n (some v)) → D.nx (l.set n (some v)) H1) :
    tAug n te (ipC K) D l H := by
  obtain ⟨v, h1, h2⟩ := L.get hx
  refine ⟨v, h1, ?_⟩
  have := ev_cat (K := K) (ta := tC v) (tb := te) (l := l) (H := H) (ds := ds) (es := es) (fun H1 e Q q => q v H1 (Same.refl _) (h2.to e)) h hz
  exact this H (Same.refl _) _ fun w H1 e hw => k w H1 e hw (Loc.set hw n (L.to e))
def ipS : TIp := fun x y H Q => ∃ i j, x = .str i ∧ y = .str j ∧ i.length + j.length ≤ sizeLine ∧ Q (.str (i ++ j)) H
theorem q_augS {x y : Str} (L : Loc H G l) (hx : G[n]? = some (some (.str x))) (h : Ev te l H (.str y)) (hz : x.length + y.length ≤ 1000000) (k : ∀ H1, Same H H1 → Loc H1 (G.set n (some (.str (x ++ y)))) (l.set n (some (.str (x ++ y)))) → tz D (l.set n (some (.str (x ++ y)))) H1) :
    tSeq (tAug n te ipS) tz D l H := by
  obtain ⟨v, h1, h2⟩ := L.get hx
  exact ⟨v, h1, h H (Same.refl _) _ fun w H1 e hw => ⟨x, y, h2, hw, sz_of hz, k H1 e (Loc.set (d := .str (x ++ y)) rfl n (L.to e))⟩⟩
/-- found.append(e) -/
theorem s_app {p : Addr} {xs : List V} (hl : H p = some (.lst xs)) (ho : l[n]? = some (some (.ref p))) (h : Ev te l H d) (hz : xs.length < 1000000) (k : ∀ v H1, Same H H1 → Dt H1 d v → D.nx l (upd H1 p (.lst (xs ++ [v])))) :
    tDrop (tBM K "list" rAppend (tVar n) (tCons te tNil)) D l H :=
  ⟨_, ho, .inl ⟨rfl, _, SqL.of hl⟩, h H (Same.refl _) _ fun v H1 e hv => ⟨p, xs, v, rfl, rfl, e _ _ hl, sz_lt hz, k v H1 e hv⟩⟩
theorem q_app {p : Addr} {xs : List V} (hl : H p = some (.lst xs)) (ho : l[n]? = some (some (.ref p))) (h : Ev te l H d) (hz : xs.length < 1000000) (k : ∀ v H1, Same H H1 → Dt H1 d v → tz D l (upd H1 p (.lst (xs ++ [v])))) :
    tSeq (tDrop (tBM K "list" rAppend (tVar n) (tCons te tNil))) tz D l H := s_app (D := { D with nx := tz D }) hl ho h hz k
/-! loops -/
theorem s_while (W : Nat → L2.St → Hp → Prop) (m0 : Nat) (h0 : W m0 l H)
    (hs : ∀ m l' H', W m l' H' → ∃ b, EvT t l' H' b ∧ (b = true → ∀ H1, Same H' H1 → tu { D with nx := fun l2 H2 => ∃ m', m' < m ∧ W m' l2 H2, ct := fun l2 H2 => ∃ m', m' < m ∧ W m' l2 H2, bk := D.nx } l' H1) ∧ (b = false → ∀ H1, Same H' H1 → D.nx l' H1)) : tWhile t tu D l H := by
  refine ⟨W, ⟨m0, h0⟩, fun m l' H' w => ?_⟩
  obtain ⟨b, hb, h1, h2⟩ := hs m l' H' w
  refine hb H' (Same.refl _) _ fun H1 e => ?_
  cases b with
  | true => exact ⟨_, fun _ _ z => z, h1 rfl H1 e⟩
  | false => exact h2 rfl H1 e
theorem q_while (W : Nat → L2.St → Hp → Prop) (m0 : Nat) (h0 : W m0 l H)
    (hs : ∀ m l' H', W m l' H' → ∃ b, EvT t l' H' b ∧ (b = true → ∀ H1, Same H' H1 → tu { D with nx := fun l2 H2 => ∃ m', m' < m ∧ W m' l2 H2, ct := fun l2 H2 => ∃ m', m' < m ∧ W m' l2 H2, bk := tz D } l' H1) ∧ (b = false → ∀ H1, Same H' H1 → tz D l' H1)) : tSeq (tWhile t tu) tz D l H :=
  s_while (D := { D with nx := tz D }) W m0 h0 hs
/-- for x in t, t a tuple of data -/
theorem s_forT {g : TG} (h : Ev tl l H (.tuple ds)) (Pv : Nat → L2.St → Hp → Prop) (h0 : ∀ H1, Same H H1 → Pv 0 l H1)
    (hs : ∀ (i : Nat) d v l' H', ds[i]? = some d → Dt H' d v → Pv i l' H' → g v l' H' fun l2 H2 => tu { D with nx := Pv (i + 1), ct := Pv (i + 1), bk := D.nx } l2 H2) (hd : ∀ l' H', Pv ds.length l' H' → D.nx l' H') (hH : ∀ H1, Same H H1 → ∀ i l' H', Pv i l' H' → Tk H1 H') : tFor (iTup K tl) g tu D l H :=
  h H (Same.refl _) _ fun v H1 e hv => by
    obtain ⟨a, xs, rfl, ha, hx⟩ := hv
    refine ⟨a, rfl, ⟨xs, .inl ha⟩, for_tup (xs := xs) Pv (h0 H1 e) (fun i l' H' _ p => .inl (hH H1 e i l' H' p a xs ha)) (fun i v l' H' hi p => ?_) (fun l' H' p => hd l' H' (by rw [← hx.len]; exact p))⟩
    obtain ⟨d, hd1, hd2⟩ := hx.of_get hi
    exact hs i d v l' H' hd1 (Dt.tk (hH H1 e i l' H' p) d hd2) p
/-- .. of a tuple that a slot holds -/
theorem s_forV {g : TG} (L : Loc H G l) (hv : G[n]? = some (some (.tuple ds))) (Pv : Nat → L2.St → Hp → Prop) (h0 : Pv 0 l H) (hk : ∀ i l' H', Pv i l' H' → Tk H H')
    (hs : ∀ (i : Nat) d v l' H', ds[i]? = some d → Dt H' d v → Pv i l' H' → g v l' H' fun l2 H2 => tu { D with nx := Pv (i + 1), ct := Pv (i + 1), bk := D.nx } l2 H2) (hd : ∀ l' H', Pv ds.length l' H' → D.nx l' H') : tFor (iTup K (tVar n)) g tu D l H := by
  obtain ⟨v, h1, a, xs, rfl, ha, hx⟩ := L.get hv
  refine ⟨_, h1, a, rfl, ⟨xs, .inl ha⟩, for_tup (xs := xs) Pv h0 (fun i l' H' _ p => .inl (hk i l' H' p a xs ha)) (fun i v l' H' hi p => ?_) (fun l' H' p => hd l' H' (by rw [← hx.len]; exact p))⟩
  obtain ⟨d, hd1, hd2⟩ := hx.of_get hi
  exact hs i d v l' H' hd1 (Dt.tk (hk i l' H' p) d hd2) p
theorem q_forV {g : TG} (L : Loc H G l) (hv : G[n]? = some (some (.tuple ds))) (Pv : Nat → L2.St → Hp → Prop) (h0 : Pv 0 l H) (hk : ∀ i l' H', Pv i l' H' → Tk H H')
    (hs : ∀ (i : Nat) d v l' H', ds[i]? = some d → Dt H' d v → Pv i l' H' → g v l' H' fun l2 H2 => tu { D with nx := Pv (i + 1), ct := Pv (i + 1), bk := tz D } l2 H2) (hd : ∀ l' H', Pv ds.length l' H' → tz D l' H') : tSeq (tFor (iTup K (tVar n)) g tu) tz D l H :=
  s_forV (D := { D with nx := tz D }) L hv Pv h0 hk hs hd
/-! comprehensions whose element makes new immutable things alone -/
/-- the new list at p grows; the rest of what H knows stays -/
def Lcv (H : Hp) (p : Addr) (ds : List PyData) (H' : Hp) : Prop := H p = none ∧ Same H H' ∧ ∃ xs, H' p = some (.lst xs) ∧ Dts H' ds xs
theorem same_mut {p : Addr} {u : HO} (e : Same H H') (h : H p = none) : Same H (upd H' p u) := fun a o ha => by
  rw [upd_ne (ne_of_none ha h)]
  exact e a o ha
theorem Lcv.tk {p : Addr} {xs zs : List V} {H1 : Hp} (h : H1 p = some (.lst xs)) : Tk H1 (upd H1 p (.lst zs)) := tk_upd h
theorem lcv_turn {p : Addr} {l2 : L2.St} {ds : List PyData} {d : PyData} {keep : Bool} (w : Lcv H p ds H') (hz : ds.length < 1000000) (ht : EvT t l2 H' keep) (he : keep = true → Ev te l2 H' d) {N : Hp → Prop} (hN : ∀ H2, Lcv H p (ds ++ if keep then [d] else []) H2 → N H2) :
    t l2 H' fun b H3 => if b = true then te l2 H3 fun y H4 => ∃ acc, H4 p = some (.lst acc) ∧ acc.length < sizeLine ∧ N (upd H4 p (.lst (acc ++ [y]))) else N H3 := by
  obtain ⟨w0, w1, xs, w2, w3⟩ := w
  refine ht H' (Same.refl _) _ fun H3 e3 => ?_
  cases keep with
  | true =>
    show te l2 H3 fun y H4 => ∃ acc, H4 p = some (.lst acc) ∧ acc.length < sizeLine ∧ N (upd H4 p (.lst (acc ++ [y])))
    refine he rfl H3 e3 _ fun v H4 e4 hv => ⟨xs, e4 _ _ (e3 _ _ w2), by rw [w3.len]; exact sz_lt hz, hN _ ⟨w0, same_mut ((w1.trans e3).trans e4) w0, _, upd_same, ?_⟩⟩
    have k : Tk H4 (upd H4 p (.lst (xs ++ [v]))) := Lcv.tk (e4 _ _ (e3 _ _ w2))
    exact Dts.tk k _ (((w3.to e3).to e4).app (Dts.one hv))
  | false =>
    show N H3
    refine hN _ ⟨w0, w1.trans e3, xs, e3 _ _ w2, ?_⟩
    show Dts H3 (ds ++ []) xs
    rw [List.append_nil]
    exact w3.to e3
/-- what is kept of the first i items -/
def kept (keep : PyData → Bool) (val : PyData → PyData) (ds : List PyData) : List PyData := (ds.filter keep).map val
theorem kept_step {keep : PyData → Bool} {val : PyData → PyData} {ds : List PyData} {i : Nat} {d : PyData} (h : ds[i]? = some d) : kept keep val (ds.take (i + 1)) = kept keep val (ds.take i) ++ if keep d then [val d] else [] := by
  have e : ds.take (i + 1) = ds.take i ++ [d] := by
    rw [List.take_add_one, h]
    rfl
  unfold kept
  rw [e, List.filter_append, List.map_append]
  cases hk : keep d with
  | true => simp [hk]
  | false => simp [hk]
theorem kept_len (keep : PyData → Bool) (val : PyData → PyData) (ds : List PyData) (i : Nat) : (kept keep val (ds.take i)).length ≤ ds.length := by
  unfold kept
  rw [List.length_map]
  have := List.length_filter_le keep (ds.take i)
  rw [List.length_take] at this
  omega
theorem el_lcT {vs : List Nat} {j : Nat} (keep : PyData → Bool) (val : PyData → PyData) (h : Ev tl l H (.tuple ds)) (hz : ds.length < 1000000) (hw : ∀ x, wipe ((wipe l vs).set j (some x)) vs = wipe l vs)
    (hs : ∀ (i : Nat) d v H1, Same H H1 → ds[i]? = some d → Dt H1 d v → EvT t ((wipe l vs).set j (some v)) H1 (keep d) ∧ (keep d = true → Ev te ((wipe l vs).set j (some v)) H1 (val d))) :
    EvL (tLc (iTup K tl) (gName j) t te vs) l H (kept keep val ds) := fun H0 e0 Q q => h H0 e0 _ fun v H1 e1 hv => by
  obtain ⟨a, xs, rfl, ha, hx⟩ := hv
  refine ⟨a, rfl, ⟨xs, .inl ha⟩, fun p hp => lc_tup (xs := xs) (fun i H' => Lcv H1 p (kept keep val (ds.take i)) H') ⟨hp, same_new hp, [], upd_same, rfl⟩ (fun i H' _ w => .inl (rd_to w.2.1 ha)) (fun i v H' hi w => ⟨hw v, ?_⟩) (fun H' w => ?_)⟩
  · obtain ⟨d, hd1, hd2⟩ := hx.of_get hi
    obtain ⟨s1, s2⟩ := hs i d v H' ((e0.trans e1).trans w.2.1) hd1 (hd2.to w.2.1)
    refine lcv_turn w (Nat.lt_of_le_of_lt (kept_len keep val ds i) hz) s1 s2 fun H2 w2 => ?_
    rw [kept_step hd1]
    exact w2
  · obtain ⟨w0, w1, zs, w2, w3⟩ := w
    rw [hx.len, List.take_length] at w3
    exact q p zs H' (Same.free e1 w0) (e1.trans w1) w2 w3
theorem kept_all (val : PyData → PyData) (ds : List PyData) : kept (fun _ => true) val ds = ds.map val := by
  unfold kept
  rw [List.filter_eq_self.mpr fun _ _ => rfl]
theorem et_yes : EvT tYes l H true := fun H1 _ Q q => q H1 (Same.refl _)
/-- over the signs of a text -/
def sg (c : Nat) : PyData := .str ⟨#[c]⟩
theorem el_lcS {vs : List Nat} {j : Nat} {x : Str} (keep : PyData → Bool) (val : PyData → PyData) (h : Ev tl l H (.str x)) (hz : x.cps.size < 1000000) (hw : ∀ x, wipe ((wipe l vs).set j (some x)) vs = wipe l vs)
    (hs : ∀ (i : Nat) c H1, Same H H1 → x.cps.toList[i]? = some c → EvT t ((wipe l vs).set j (some (.str ⟨#[c]⟩))) H1 (keep (sg c)) ∧ (keep (sg c) = true → Ev te ((wipe l vs).set j (some (.str ⟨#[c]⟩))) H1 (val (sg c)))) :
    EvL (tLc (iStr tl) (gName j) t te vs) l H (kept keep val (x.cps.toList.map sg)) := fun H0 e0 Q q => h H0 e0 _ fun v H1 e1 hv => by
  refine ⟨x, hv, fun p hp => lc_it (walk_str (z := x)) (fun i H' => Lcv H1 p (kept keep val ((x.cps.toList.map sg).take i)) H') ⟨hp, same_new hp, [], upd_same, rfl⟩ (fun _ _ _ _ => trivial) (fun i v H2 H' hi w hy => ?_) (fun H' w => ?_)⟩
  · obtain ⟨rfl, c, hc, rfl⟩ := hy
    have hc' : x.cps.toList[i]? = some c := by rw [Array.getElem?_toList]; exact hc
    have hd : (x.cps.toList.map sg)[i]? = some (sg c) := by rw [List.getElem?_map, hc']; rfl
    obtain ⟨s1, s2⟩ := hs i c _ ((e0.trans e1).trans w.2.1) hc'
    refine ⟨hw _, lcv_turn w (Nat.lt_of_le_of_lt (kept_len keep val _ i) (by rw [List.length_map, Array.length_toList]; exact hz)) s1 s2 fun H3 w2 => ?_⟩
    rw [kept_step hd]
    exact w2
  · obtain ⟨w0, w1, zs, w2, w3⟩ := w
    rw [show x.cps.size = (x.cps.toList.map sg).length by rw [List.length_map, Array.length_toList], List.take_length] at w3
    exact q p zs H' (Same.free e1 w0) (e1.trans w1) w2 w3
/-- over a list that stands -/
theorem el_lcL {vs : List Nat} {j : Nat} {a : Addr} {xs : List V} (keep : PyData → Bool) (val : PyData → PyData) (h : EvV tl l H (.ref a)) (ha : H a = some (.lst xs)) (hx : Dts H ds xs) (hz : ds.length < 1000000) (hw : ∀ x, wipe ((wipe l vs).set j (some x)) vs = wipe l vs)
    (hs : ∀ (i : Nat) d v H1, Same H H1 → ds[i]? = some d → Dt H1 d v → EvT t ((wipe l vs).set j (some v)) H1 (keep d) ∧ (keep d = true → Ev te ((wipe l vs).set j (some v)) H1 (val d))) :
    EvL (tLc (iList K tl) (gName j) t te vs) l H (kept keep val ds) := fun H0 e0 Q q => h H0 e0 _ fun H1 e1 => by
  have e01 := e0.trans e1
  refine ⟨a, rfl, ⟨xs, SqL.of (e01 _ _ ha)⟩, fun p hp => lc_list (xs := xs) (fun i H' => Lcv H1 p (kept keep val (ds.take i)) H') ⟨hp, same_new hp, [], upd_same, rfl⟩ (fun i H' _ w => SqL.of (w.2.1 _ _ (e01 _ _ ha))) (fun i v H' hi w => ⟨hw v, ?_⟩) (fun H' w => ?_)⟩
  · obtain ⟨d, hd1, hd2⟩ := hx.of_get hi
    obtain ⟨s1, s2⟩ := hs i d v H' (e01.trans w.2.1) hd1 (hd2.to (e01.trans w.2.1))
    refine lcv_turn w (Nat.lt_of_le_of_lt (kept_len keep val ds i) hz) s1 s2 fun H2 w2 => ?_
    rw [kept_step hd1]
    exact w2
  · obtain ⟨w0, w1, zs, w2, w3⟩ := w
    rw [hx.len, List.take_length] at w3
    exact q p zs H' (Same.free e1 w0) (e1.trans w1) w2 w3
/-- over a new list -/
theorem el_lcN {vs : List Nat} {j : Nat} (keep : PyData → Bool) (val : PyData → PyData) (h : EvL tl l H ds) (hz : ds.length < 1000000) (hw : ∀ x, wipe ((wipe l vs).set j (some x)) vs = wipe l vs)
    (hs : ∀ (i : Nat) d v H1, Same H H1 → ds[i]? = some d → Dt H1 d v → EvT t ((wipe l vs).set j (some v)) H1 (keep d) ∧ (keep d = true → Ev te ((wipe l vs).set j (some v)) H1 (val d))) :
    EvL (tLc (iList K tl) (gName j) t te vs) l H (kept keep val ds) := fun H0 e0 Q q => h H0 e0 _ fun a xs H1 ha0 e1 ha hx => by
  have e01 := e0.trans e1
  refine ⟨a, rfl, ⟨xs, SqL.of ha⟩, fun p hp => lc_list (xs := xs) (fun i H' => Lcv H1 p (kept keep val (ds.take i)) H') ⟨hp, same_new hp, [], upd_same, rfl⟩ (fun i H' _ w => SqL.of (w.2.1 _ _ ha)) (fun i v H' hi w => ⟨hw v, ?_⟩) (fun H' w => ?_)⟩
  · obtain ⟨d, hd1, hd2⟩ := hx.of_get hi
    obtain ⟨s1, s2⟩ := hs i d v H' (e01.trans w.2.1) hd1 (hd2.to w.2.1)
    refine lcv_turn w (Nat.lt_of_le_of_lt (kept_len keep val ds i) hz) s1 s2 fun H2 w2 => ?_
    rw [kept_step hd1]
    exact w2
  · obtain ⟨w0, w1, zs, w2, w3⟩ := w
    rw [hx.len, List.take_length] at w3
    exact q p zs H' (Same.free e1 w0) (e1.trans w1) w2 w3
end
/-! ### defs of the text -/
/-- where one stands: the program, the world, the written part, the module's names, the base -/
structure Cn where
  P : Program
  w : World
  K : PySem.W.Frag
  mg : Str → Option Value
  base : Heap
/-- the def that the module's name x stands for keeps sp -/
structure Df (c : Cn) (x : Str) (k : Nat) (ps : List Str) (sp : Sp) : Prop where
  ex : ∃ f fd, FnOk c.P c.w c.K c.mg c.base CX0 k f fd ps sp ∧ c.mg x = some (.ref f) ∧ PySem.W.keepIn c.K (.ref f) = true ∧ Binds c.K fd ps []
/-- the method m of the class at C keeps sp -/
structure Md (c : Cn) (C : Addr) (m : Str) (k : Nat) (ps : List Str) (sp : Sp) : Prop where
  ex : ∃ f fd, FnOk c.P c.w c.K c.mg c.base CX0 k f fd ps sp ∧ Meth c.K C m f ∧ Binds c.K fd ps []
/-- the class that the module's name x stands for, made by __init__ -/
structure Mc (c : Cn) (x : Str) (C : Addr) (k : Nat) (ps : List Str) (sp : Sp) : Prop where
  ex : ∃ f fd, FnOk c.P c.w c.K c.mg c.base CX0 k f fd ps sp ∧ Mk c.K C f ∧ c.mg x = some (.ref C) ∧ Binds c.K fd ps []
abbrev Cx.cn (X : Cx) : Cn := ⟨X.prog, X.w, X.K, X.mg, X.base⟩
section
variable {X : Cx} {x m : Str} {k : Nat} {ps : List Str} {sp : Sp} {C : Addr} {p pos apos : Pos} {e o : Expr} {es : List Expr} {t : TA} {ta : TE}
theorem pe_d (D : Df (Cx.cn X) x k ps sp) (hr : Room k X.A) (ha : PA X (e :: es) t) (hg : Gl X x := by rfl) (hdb : (x == ("__debug__" : Str)) = false := by decide) (he : starEach (e :: es) X.env = (false, eval e X.env) :: starEach es X.env := by rfl)
    (hpl : (backTo pos (starEach es X.env)).any (·.1) = false := by rfl) : PE X (.Call (.Name x p) (e :: es) [] pos) (tCall sp [] E0 t) := by
  obtain ⟨f, fd, F, hm, hk, hb⟩ := D.ex
  exact pe_call F hr hg hm hk hb .nil pass0 ha hdb he hpl
theorem pe_md {pl : Sem Bool} (D : Md (Cx.cn X) C m k ps sp) (c : Cls X.K C) (hr : Room k X.A) (he : PE X o ta) (ha : PA X (e :: es) t) (hst : starEach (e :: es) X.env = (false, eval e X.env) :: starEach es X.env := by rfl)
    (hpl : (backTo pos (starEach es X.env)).any (·.1) = false := by rfl)
    (ht : eval (.Call (.Attribute o m apos) (e :: es) [] pos) X.env = (do
      let ov ← eval o X.env
      standAt apos.atName
      let (f, first) ← holding [ov] (getMethod ov m pl)
      callWith pos f first (backTo pos (starEach (e :: es) X.env)) (backToKw pos (keywordEach [] X.env))) := by rfl) : PE X (.Call (.Attribute o m apos) (e :: es) [] pos) (tMeth C m sp [] E0 ta t) := by
  obtain ⟨f, fd, F, hm, hb⟩ := D.ex
  exact pe_meth (pl := pl) he c hm F hr hb .nil pass0 ha hst hpl ht
theorem pe_md0 {pl : Sem Bool} (D : Md (Cx.cn X) C m k ps sp) (c : Cls X.K C) (hr : Room k X.A) (he : PE X o ta)
    (ht : eval (.Call (.Attribute o m apos) [] [] pos) X.env = (do
      let ov ← eval o X.env
      standAt apos.atName
      let (f, first) ← holding [ov] (getMethod ov m pl)
      callWith pos f first (backTo pos (starEach [] X.env)) (backToKw pos (keywordEach [] X.env))) := by rfl) : PE X (.Call (.Attribute o m apos) [] [] pos) (tMeth C m sp [] E0 ta tNil) := by
  obtain ⟨f, fd, F, hm, hb⟩ := D.ex
  exact pe_meth0 (pl := pl) he c hm F hr hb .nil pass0 ht
theorem pe_mkd (D : Mc (Cx.cn X) x C k ps sp) (hr : Room (k + 1) X.A) (ha : PA X (e :: es) t) (hg : Gl X x := by rfl) (hdb : (x == ("__debug__" : Str)) = false := by decide) (he : starEach (e :: es) X.env = (false, eval e X.env) :: starEach es X.env := by rfl)
    (hpl : (backTo pos (starEach es X.env)).any (·.1) = false := by rfl) : PE X (.Call (.Name x p) (e :: es) [] pos) (tMake C sp [] E0 t) := by
  obtain ⟨f, fd, F, M, hm, hb⟩ := D.ex
  exact pe_make M F hr hg hm hb .nil pass0 ha hdb he hpl
/-- a constant of the module -/
theorem pe_k {v : V} (h : ∃ u, X.mg x = some u ∧ RelV v u) (hg : Gl X x := by rfl) (hd : (x == ("__debug__" : Str)) = false := by decide) : PE X (.Name x pos) (tC v) := by
  obtain ⟨u, h1, h2⟩ := h
  exact pe_glob hg h1 h2 hd
end
end Sp
set_option Elab.async false
set_option linter.all false
set_option maxRecDepth 100000
set_option maxHeartbeats 4000000
namespace Sp
open PySem PySem.Spec PyProof.Rows L2
section
variable {X : Cx}
/-! ### t += u of tuples -/
theorem noI_tuple_add : typeLookup (.type "tuple") (dunderI "add") = pure none := by rw [typeLookup_type, builtinLookup_eq_fast]; kernel_rfl
theorem icat_run {prog : Program} {w : World} {A : Around} {E : Value → Shared → Prop} {s : Shared} {a b : Addr} {B : Builtin} {S : PySem.Spec} {Q : Value → Shared → Prop} (ha : s.TypeIs (.ref a) "tuple") (hb : s.TypeIs (.ref b) "tuple")
    (entry : entryFor table "tuple.__add__" = some B) (g : Meets (B ⟨[.ref a, .ref b], []⟩) S) (h : S A (wants Q E) s) : wpAny (model prog w) A (inplaceOp .Add (.ref a) (.ref b)) Q E s :=
  wpAny_inplaceOp_concat ha hb noI_tuple_add noFill_tuple_add seq_tuple_add (call_meets PySem.F.slot_tuple_add ha entry (PySem.F.args_tuple_add_2 _ _) g h)
theorem ip_catA : PIp X .Add (ipC X.K) := by
  intro pins s l H x y v u Q I rx ry h
  obtain ⟨a, b, xs, ys, rfl, rfl, ha, hb, hz, q0, q1, q2⟩ := h
  cases rx
  cases ry
  obtain ⟨its, r1, p1, _⟩ := I.tuple ha
  obtain ⟨its2, r2, p2, _⟩ := I.tuple hb
  obtain ⟨⟨c1, dd, data, sl⟩, ho, hc, n, hd⟩ := id p1
  obtain ⟨⟨c2, dd2, data2, sl2⟩, ho2, hc2, n2, hd2⟩ := id p2
  simp only at hc hd hc2 hd2
  subst hc hd hc2 hd2
  have e : its.toArray ++ its2.toArray = (its ++ its2).toArray := by simp
  have l1 := r1.length
  have l2 := r2.length
  by_cases hx : xs = []
  · have hi : its = [] := by
      rw [hx] at l1
      exact List.length_eq_zero_iff.mp l1.symm
    subst hi
    exact icat_run ⟨_, ho, rfl⟩ ⟨_, ho2, rfl⟩ PySem.F.entry_tuple_add (tuple_addW0 a b ([] : List Value).toArray its2.toArray n n2 dd dd2 sl sl2 (by simp)) ⟨ho, ho2, ⟨.ref b, H, I, rfl, q0 hx⟩⟩
  · have hi : its ≠ [] := fun z => hx (List.length_eq_zero_iff.mp (by rw [l1, z] <;> rfl))
    by_cases hy : ys = []
    · have hi2 : its2 = [] := by
        rw [hy] at l2
        exact List.length_eq_zero_iff.mp l2.symm
      exact icat_run ⟨_, ho, rfl⟩ ⟨_, ho2, rfl⟩ PySem.F.entry_tuple_add (tuple_addW1 a b its.toArray its2.toArray n n2 dd dd2 sl sl2 (by simpa using hi) (by simp [hi2])) ⟨ho, ho2, ⟨.ref a, H, I, rfl, q1 hx hy⟩⟩
    · have hi2 : its2 ≠ [] := fun z => hy (List.length_eq_zero_iff.mp (by rw [l2, z] <;> rfl))
      refine icat_run ⟨_, ho, rfl⟩ ⟨_, ho2, rfl⟩ PySem.F.entry_tuple_add (tuple_addW2 a b its.toArray its2.toArray n n2 dd dd2 sl sl2 (by simpa using hi) (by simpa using hi2) (by rw [List.size_toArray, List.size_toArray]; omega)) ⟨ho, ho2, ?_⟩
      rw [e]
      refine ⟨.ref s.heap.objs.size, _, I.laid (t' := s.toks) (o := .tup (xs ++ ys)) (fun b ob q => Heap.get?_push_of_some _ q) (Nat.le_refl _) ?_, rfl, q2 hx hy _ (I.hok.fresh (Nat.le_refl _))⟩
      exact ⟨by rw [List.length_append]; exact hz, _, r1.append r2, IsTup.new _ _⟩
theorem ip_addS : PIp X .Add ipS := fun pins s l H x y v u Q I rx ry h => iop_add_str pins s l H x y v u Q I rx ry h
theorem ip_shr : PIp X .RShift (rI (fun _ j => 0 ≤ j) fun i j => .int (i / 2 ^ j.toNat)) := fun pins s l H x y v u Q I rx ry h => iop_shr pins s l H x y v u Q I rx ry h
/-! ### xs.extend(t) -/
def rExtT (K : PySem.W.Frag) : V → List V → Hp → VK → Prop := fun x vs H Q => ∃ l b xs zs, x = .ref l ∧ vs = [.ref b] ∧ H l = some (.lst xs) ∧ SqT K H b zs ∧ xs.length + zs.length ≤ sizeLine ∧ Q .non (upd H l (.lst (xs ++ zs)))
theorem ext_tupW (a b : Addr) (its its2 : Array Value) (n n2 : Nat) (dd : Option Addr) (sl : Array (Option Value)) (h0 : ¬(!its.isEmpty && Builtin.List.listTooLong (its.size + its2.size)) = true) (h1 : its.size ≤ sizeLine) (h2 : its.size + its2.size ≤ sizeLine + 1) :
    Meets (Builtin.«list.extend» ⟨[.ref a, .ref b], []⟩) (fun _ R s => s.heap.get? a = some { cls := .type "list", dict := none, data := .seq its n, slots := #[] } ∧ s.heap.get? b = some ⟨.type "tuple", dd, .seq its2 n2, sl⟩ ∧
      R (.ok (.ret Value.none)) { s with heap := s.heap.update a (Obj.mapSeq fun x => x ++ its2), toks := s.toks }) :=
  .of_wp fun prog w A R s h => by
    obtain ⟨hp, g, d, tk, os⟩ := s
    obtain ⟨hl, hb, h⟩ := h
    have f1 := AutoSeq1.idx_int
    have f2 := AutoSeq1.sub_tuple_tuple
    have f3 := AutoSeq1.sub_list_list
    have f4 := AutoSeq1.sub_tuple_list
    have f5 := AutoSeq1.sub_list_tuple
    have hz' : (its ++ its2).size ≤ sizeLine + 1 := by
      rw [Array.size_append]
      exact h2
    wp_walk using (wpAny_updateSeq hl rfl (hz := h1) (_hz' := hz')), AutoSeq1.wpAny_loadPart' hl, AutoSeq1.wpAny_loadPart' hb
    exact ⟨_, rfl, h⟩
theorem mt_extendT : MtM X "list.extend" (rExtT X.K) := by
  intro pins s l0 H x vs v us Q I rx rv h
  obtain ⟨l, b, xs, zs, rfl, rfl, hH, hB, hz, q⟩ := h
  cases rx
  obtain ⟨u, rfl, ru⟩ := rv.one
  cases ru
  obtain ⟨z, its, n, r, hl, e⟩ := I.lstM hH
  obtain ⟨its2, r2, p2, _⟩ := I.tuple hB
  obtain ⟨⟨c2, dd2, data2, sl2⟩, ho2, hc2, n2, hd2⟩ := id p2
  simp only at hc2 hd2
  subst hc2 hd2
  have l1 := r.length
  have l2 := r2.length
  have hsz : its.toArray.size + its2.toArray.size ≤ sizeLine := by rw [List.size_toArray, List.size_toArray]; omega
  have hlong : ¬ (!its.toArray.isEmpty && Builtin.List.listTooLong (its.toArray.size + its2.toArray.size)) = true := by
    rw [notLongL hsz, Bool.and_false]
    decide
  refine call_meets F.slot_list_extend ⟨_, e, rfl⟩ F.entry_list_extend (F.args_list_extend_2 _ _)
    (ext_tupW l b its.toArray its2.toArray n n2 dd2 sl2 hlong (by rw [List.size_toArray]; omega) (by omega)) ⟨e, ho2, ?_⟩
  refine ⟨.non, _, I.lset (its' := its ++ its2) hH e (by simp) (r.append r2) ?_, rfl, q⟩
  rw [List.length_append]
  exact hz
/-! ### max(d), d with whole numbers as keys -/
def rMaxD : List V → Hp → VK → Prop := fun vs H Q => ∃ (a : Addr) (kvs : List (Key × V)) (ks : List Int), vs = [.ref a] ∧ Rd H a (.dK kvs) ∧ kvs.map (·.1) = ks.map Sum.inl ∧ 0 < ks.length ∧ ∀ m, m ∈ ks → (∀ y, y ∈ ks → y ≤ m) → Q (.int m) H
theorem call_maxD (hc : X.calm = true) : CallR X (.builtin "max") rMaxD := by
  intro pins s l H vs us Q I r h
  obtain ⟨a, kvs, ks, rfl, hd, hk, hne, q⟩ := h
  obtain ⟨u, rfl, ru⟩ := vals1 r
  cases ru
  obtain ⟨z, lo, ws, rel, dd⟩ := dk_rd I.hok hd
  obtain ⟨ep, hat⟩ := dd.dictAt
  have ek : ws.map (·.1) = ks.map Sum.inl := by
    rw [← hk]
    exact rel.keys.symm
  have el : ws.length = ks.length := by
    have := congrArg List.length ek
    simpa using this
  have hat0 : ∀ i k x, ws[i]? = some (k, x) → ks[i]? = some (ks.getD i 0) ∧ k = Sum.inl (ks.getD i 0) := fun i k x e => by
    have e1 : (ws.map (·.1))[i]? = some k := by rw [List.getElem?_map, e]; rfl
    rw [ek, List.getElem?_map] at e1
    cases e2 : ks[i]? with
    | none => rw [e2] at e1; cases e1
    | some m =>
      rw [e2] at e1
      have e3 : ks.getD i 0 = m := by rw [List.getD_eq_getElem?_getD, e2]; rfl
      rw [e3]
      exact ⟨rfl, (Option.some.inj e1).symm⟩
  have hlt : a < s.heap.objs.size := hat.lt_size
  refine call_max_walk (wpAny_pyIter_dict lo hat ?_)
  refine ⟨s.heap.objs.size, _, _, ws.length, _, _, _, rfl, Walks.dictKeys (knd := mixKind X.prog X.w) (A := X.A.in1) (I.ok.hd hc) s.heap.objs.size a (Nat.ne_of_lt hlt) ws ep, ⟨⟨_, Heap.get?_push_size _ rfl, rfl, rfl⟩, ?_⟩, ?_, ?_, CmpOf.ints_gt (fun i => ks.getD i 0) (fun i v hv => ?_), fun v h' tk hP hkk => ?_⟩
  · exact hat.at' fun o e => Heap.get?_push_of_some _ e
  · intro b hb
    show b < (s.heap.push _).objs.size
    rw [Heap.size_push]
    rcases List.mem_cons.mp hb with rfl | hb
    · exact Nat.lt_succ_self _
    · rw [List.mem_singleton.mp hb]
      exact Nat.lt_succ_of_lt hlt
  · rw [el]
    exact hne
  · obtain ⟨k, x, e, hv⟩ := hv
    obtain ⟨_, rfl⟩ := hat0 i k x e
    have hv' : keyIs (Sum.inl (ks.getD i 0)) v = true := hv
    rcases keyIs_shape hv' with ⟨j, t, e2, e3⟩ | ⟨y, t, e2, _⟩
    · rw [Sum.inl.inj e2]
      exact ⟨t, e3⟩
    · exact nomatch e2
  · obtain ⟨k, x, e, hv⟩ := hP
    obtain ⟨e1, rfl⟩ := hat0 _ k x e
    have hv' : keyIs (Sum.inl (ks.getD (argBest (fun i j => decide (ks.getD i 0 > ks.getD j 0)) (ws.length - 1)) 0)) v = true := hv
    rcases keyIs_shape hv' with ⟨j, t, e2, e3⟩ | ⟨y, t, e2, _⟩
    · rw [e3, ← Sum.inl.inj e2]
      have hb := argBest_gt (fun i => ks.getD i 0) (ws.length - 1)
      refine ⟨.int _, H, I.kept fun b o eb => hkk b o (fun hm => ?_) (Heap.get?_push_of_some _ eb), ⟨t, rfl⟩, q _ (List.mem_of_getElem? e1) fun y hy => ?_⟩
      · rw [List.mem_singleton.mp hm] at eb
        exact absurd (Heap.lt_size eb) (Nat.lt_irrefl _)
      · obtain ⟨n, hn, rfl⟩ := List.mem_iff_getElem.mp hy
        have := hb.2 n (by omega)
        have e5 : ks.getD n 0 = ks[n] := by rw [List.getD_eq_getElem?_getD, List.getElem?_eq_getElem hn]; rfl
        rw [← e5]
        exact this
    · exact nomatch e2
/-! ### o.f as a target in a row -/
theorem pg_fld {o : Expr} {ta : TE} {f : Str} {pos : Pos} (ho : PE X o ta) (ha : ∀ v, assign (.Attribute o f pos) X.env v = (do
      let ov ← holding [v] (eval o X.env)
      standAt pos.atName
      holding [v, ov] (setAttr ov f v)
      release [v, ov] []) := by intro _; rfl) : PG X (.Attribute o f pos) (fun v l H Q => ta l H fun x H1 => ∃ a C dx fs, x = .ref a ∧ H1 a = some (.ins C dx fs) ∧ Cls X.K C ∧ NoAttr X.K C f ∧ fs.length < 1000 ∧ Q l (upd H1 a (.ins C dx (putF f v fs)))) := by
  refine ⟨fun pins s l H v u Q I r h => ?_⟩
  rw [ha]
  refine wpAny_bind (wpAny_holding (thn (ho.run pins s l H _ I h) fun ov s1 ⟨x, H1, I1, r1, q1⟩ => ?_))
  obtain ⟨a, C, dx, fs, ex, ea, c, n, z, q⟩ := q1
  subst ex
  obtain rfl : ov = Value.ref a := r1
  refine wpAny_bind (wpAny_standAt (wpAny_bind (wpAny_holding ?_)))
  exact setattr_ok I1 ea c n z r fun s3 I3 => wpAny_release ⟨l, _, I3, q⟩
end
end Sp
set_option Elab.async false
set_option linter.all false
set_option maxRecDepth 100000
set_option maxHeartbeats 4000000
namespace Sp
open PySem PySem.Spec PyProof.Rows L2
/-- a tuple whose object has no dict of its own (what dict(..) asks of its argument) -/
def DN (H : Hp) (v : V) : Prop := ∃ a o xs, v = .ref a ∧ H a = some (.frz o (.tup xs)) ∧ o.dict = none
theorem DN.to {H H' : Hp} {v : V} (h : DN H v) (e : Same H H') : DN H' v := by
  obtain ⟨a, o, xs, e1, e2, e3⟩ := h
  exact ⟨a, o, xs, e1, e _ _ e2, e3⟩
section
variable {X : Cx}
theorem laidF {pins : List (Addr × Obj)} {l : L2.St} {H : Hp} {s : Shared} {h' : Heap} {ys : List V} {its : List Value} (I : L2.Inv X pins l H s) (kp : ∀ b o, s.heap.get? b = some o → h'.get? b = some o) (hz : ys.length ≤ sizeLine) (r : Vals ys its) :
    L2.Inv X pins l (upd H h'.objs.size (.frz { cls := .type "tuple", data := .seq its.toArray } (.tup ys))) { s with heap := h'.push { cls := .type "tuple", data := .seq its.toArray } } ∧ H h'.objs.size = none := by
  have I1 : L2.Inv X pins l H { s with heap := h' } := I.kept (t' := s.toks) kp
  refine ⟨I1.laid (t' := s.toks) (fun b o e => Heap.get?_push_of_some _ e) (Nat.le_refl _) ?_, I1.hok.fresh (Nat.le_refl _)⟩
  exact ⟨Heap.get?_push_size _ rfl, hz, its, r, IsTup.new _ _⟩
/-- tuple(xs) of a list, as a tuple without a dict -/
theorem call_tupleF : CallR X (.type "tuple") (fun xs H Q => ∃ p ys, xs = [.ref p] ∧ SqL X.K H p ys ∧ ∀ l o, H l = none → o.dict = none → Q (.ref l) (upd H l (.frz o (.tup ys)))) := by
  intro pins s l H xs us Q I r h
  obtain ⟨p, ys, rfl, hq, q⟩ := h
  obtain ⟨u, rfl, rx⟩ := vals1 r
  cases rx
  obtain ⟨its, r', pl, hz⟩ := I.list hq
  have hlen := r'.length
  refine call_tuple_list pl.isList (fun h' kp => ?_) (by simp only [List.size_toArray] <;> omega)
  obtain ⟨I2, f2⟩ := laidF I kp hz r'
  exact ⟨.ref h'.objs.size, _, I2, rfl, q _ _ f2 rfl⟩
/-- the empty tuple, without a dict -/
theorem pe_tup0 {x1} {pos : Pos} : PE X (.Tuple [] x1 pos) (fun _ H Q => ∀ l o, H l = none → o.dict = none → Q (.ref l) (upd H l (.frz o (.tup [])))) := by
  refine ⟨fun pins s l H Q I hq => ?_⟩
  refine wpAny_Tuple_spliced (thn ((pa_nil (X := X)).run pos pins s l H _ I (show tNil l H fun xs H1 => xs = [] ∧ H1 = H from ⟨rfl, rfl⟩)) fun us s1 hh => ?_)
  obtain ⟨xs, H1, I1, r, rfl, rfl⟩ := hh
  cases r
  refine ⟨Nat.zero_le _, ?_⟩
  obtain ⟨I2, f2⟩ := laidF (h' := s1.heap) I1 (fun _ _ e => e) (Nat.zero_le _) (.nil : Vals [] [])
  exact ⟨.ref s1.heap.objs.size, _, I2, rfl, hq _ _ f2 rfl⟩
/-- dict(t) of such a tuple of pairs -/
def rDictT (K : PySem.W.Frag) : List V → Hp → VK → Prop := fun xs H Q => ∃ (a : Addr) (o : Obj) (ps : List Addr) (kvs : List (Key × V)), xs = [.ref a] ∧ H a = some (.frz o (.tup (ps.map V.ref))) ∧ o.dict = none ∧
  Paired (fun p kv => SqT K H p [kV kv.1, kv.2]) ps kvs ∧ ∀ p, H p = none → Q (.ref p) (upd H p (.dK (mergeK [] kvs)))
theorem call_dictT (hcalm : X.calm = true) : CallR X (.type "dict") (rDictT X.K) := by
  intro pins s l H xs us Q I r q
  obtain ⟨a, o, ps, kvs, ex, ha, hd, hp, q⟩ := q
  subst ex
  obtain ⟨u, eu, rx⟩ := vals1 r
  subst eu
  cases rx
  obtain ⟨hg, hz, its, rv, o2, hg2, hc, n, hdat⟩ := (show ObjOk X.prog X.w H s.heap a (.frz o (.tup (ps.map V.ref))) from I.hok a _ ha)
  rw [hg] at hg2
  obtain rfl : o = o2 := Option.some.inj hg2
  have ei := refs_at rv
  subst ei
  rw [List.length_map] at hz
  obtain ⟨prs, rel, hl, hpr⟩ := pairs_of I hp
  have hkey : ∀ (j : Nat) (q' : Key × Value), prs[j]? = some q' → ∃ (b : Addr) (u : Value), ps[j]? = some b ∧ IsTup s.heap b #[u, q'.2] ∧ keyIs q'.1 u = true := hpr
  -- the pairs as values: the key's value at each place
  have hex : ∀ j : Nat, ∃ k : Value, ∀ q', prs[j]? = some q' → ∃ b, ps[j]? = some b ∧ IsTup s.heap b #[k, q'.2] ∧ keyIs q'.1 k = true := fun j => by
    cases e : prs[j]? with
    | none => exact ⟨.none, fun q' z => nomatch z⟩
    | some q0 =>
      obtain ⟨b, k, h1, h2, h3⟩ := hkey j q0 e
      exact ⟨k, fun q' z => by cases z; exact ⟨b, h1, h2, h3⟩⟩
  let kf : Nat → Value := fun j => Classical.choose (hex j)
  have hkf : ∀ j q', prs[j]? = some q' → ∃ b, ps[j]? = some b ∧ IsTup s.heap b #[kf j, q'.2] ∧ keyIs q'.1 (kf j) = true := fun j => Classical.choose_spec (hex j)
  let vs : List (Value × Value) := (List.range prs.length).map fun j => (kf j, (prs.getD j (.inl 0, .none)).2)
  have hvl : vs.length = ps.length := by simp [vs, hl]
  have hva : ∀ j k v, vs[j]? = some (k, v) → ∃ q', prs[j]? = some q' ∧ k = kf j ∧ v = q'.2 := fun j k v e => by
    have hj : j < prs.length := by
      have := (List.getElem?_eq_some_iff.mp e).1
      omega
    refine ⟨prs[j], List.getElem?_eq_getElem hj, ?_⟩
    have e2 : vs[j]? = some (kf j, prs[j].2) := by
      show ((List.range prs.length).map fun j => (kf j, (prs.getD j (.inl 0, .none)).2))[j]? = _
      rw [List.getElem?_map, List.getElem?_range hj]
      show some (kf j, (prs.getD j (.inl 0, .none)).2) = _
      rw [List.getD_eq_getElem?_getD, List.getElem?_eq_getElem hj]
      rfl
    rw [e2] at e
    have e3 := Option.some.inj e
    exact ⟨(Prod.mk.inj e3).1.symm, (Prod.mk.inj e3).2.symm⟩
  have P := PairArg.tuple (prog := X.prog) (w := X.w) a (ps.map Value.ref).toArray (fun j => ps.getD j 0) vs
  have hm : (s.heap.objs.size == sysModules) = false := beq_eq_false_iff_ne.mpr (Nat.ne_of_gt I.big)
  have hlen : (mergeK [] kvs).length ≤ sizeLine := by
    refine Nat.le_trans (length_mergeK kvs []) ?_
    rw [List.length_nil, Nat.zero_add, rel.length, hl]
    exact hz
  refine PySem.call_dict_pairs (knd := mixKind X.prog X.w) (kvs := prs) P (I.ok.hd hcalm) ⟨⟨o, n, hg, hc, hd, hdat⟩, by simp [hvl], fun j k v e => ?_⟩ ⟨by rw [hvl, hl], fun j k v e => ?_⟩ (by rw [hvl]; exact hz) fun h' tk hd' hk => ?_
  · obtain ⟨q', e1, rfl, rfl⟩ := hva j k v e
    obtain ⟨b, e2, e3, e4⟩ := hkf j q' e1
    have eb : ps.getD j 0 = b := by rw [List.getD_eq_getElem?_getD, e2]; rfl
    refine ⟨?_, .inl ?_⟩
    · show (List.map Value.ref ps).toArray[j]? = some (Value.ref (ps.getD j 0))
      rw [eb, List.getElem?_toArray, List.getElem?_map, e2]
      rfl
    · show s.heap.IsTuple (ps.getD j 0) #[kf j, q'.2]
      rw [eb]
      exact e3
  · have e' : vs[j]? = some (k, v) := e
    obtain ⟨q', e1, rfl, rfl⟩ := hva j k v e'
    obtain ⟨b, e2, e3, e4⟩ := hkf j q' e1
    exact ⟨q'.1, e1, e4⟩
  · exact ⟨.ref s.heap.objs.size, upd H s.heap.objs.size (.dK (mergeK [] kvs)), I.laid (t' := tk) (fun b ob e => hk b ob (by simp) e) (Nat.le_refl _) (show ObjOk X.prog X.w _ _ _ (.dK (mergeK [] kvs)) from ⟨hlen, hm, merged [] prs, KV.merge rel .nil, hd'⟩), rfl, q _ (I.hok.fresh (Nat.le_refl _))⟩
/-- repr(d) of nested data, where nothing is being shown -/
def rReprD (K : PySem.W.Frag) : List V → Hp → VK → Prop := fun xs H Q => ∃ a d, xs = [.ref a] ∧ Dp K H (.ref a) d ∧ d.showable = true ∧ d.hasDict = false ∧ d.depth ≤ 50 ∧ d.shown.length ≤ sizeLine ∧ Q (.str d.shown) H
theorem call_reprD {k : Nat} (hg : X.A.guards = some []) (hr : Room k X.A) : CallR X (.builtin "repr") (rReprD X.K) := by
  intro pins s l H xs us Q I r h
  obtain ⟨a, d, rfl, hd, h1, h2, h3, h4, q⟩ := h
  obtain ⟨u, rfl, rx⟩ := vals1 r
  cases rx
  obtain ⟨as, hrd⟩ := Dp.reads I d (.ref a) (.ref a) hd rfl
  have hu := hr.units
  exact repr_of_reads' hrd h1 (fun z => by rw [h2] at z; cases z) hg (by omega) (fun _ _ e => e) (fun h' u tk hk => ⟨.str d.shown, H, I.kept hk, ⟨u, rfl⟩, q⟩) h4
end
end Sp
set_option Elab.async false
set_option linter.all false
set_option maxRecDepth 100000
set_option maxHeartbeats 4000000
namespace Sp
open PySem PySem.Spec PyProof.Rows L2
/-! ### defs that ask that nothing is being shown (repr) -/
/-- f keeps sp wherever the stack's guards are known to be none -/
structure FnG (c : Cn) (k : Nat) (f : Addr) (fd : FuncData) (ps : List Str) (sp : Sp) : Prop where
  len : ∀ vs H Q E, sp vs H Q E → vs.length = ps.length
  run : ∀ (A : Around) (outer : List Env) (s : Shared) (H : Hp) (args : Args) (us : List Value) (vs : List V) (Q : VK) (E : XK), A.guards = some [] → Room k A → Env0 c.P c.w c.K c.mg c.base A outer s H → BindsTo s fd args (ps.zip us) → Vals vs us → sp vs H Q E →
    codeAny (model c.P c.w) A (.call (.ref f) args) (CR CX0 outer c.P c.w H s Q E) s
theorem fnG_of {c : Cn} {k : Nat} {f : Addr} {name qual : Str} {params : Arguments} {body : List Stmt} {scope : Scope} {dV kV doc pm cdv ct oc : Value} {an od : Option Addr} {osl : Array (Option Value)} {N ps : List Str} {sp : Sp}
    (lk : c.K.lookup f = some ⟨oc, od, .func (PySem.W.fnOf name qual params body scope dV kV doc pm an cdv ct), osl⟩) (hcd : PySem.W.codeIn c.K cdv qual = true) (S : FnScope N ps scope) (len : ∀ vs H Q E, sp vs H Q E → vs.length = ps.length)
    (hbody : ∀ (A : Around) (outer : List Env) (s : Shared) (H : Hp) (vs : List V) (Q : VK) (E : XK), (A.deeper (envOfC qual scope s.heap.objs.size f cdv)).guards = some [] → Room k (A.deeper (envOfC qual scope s.heap.objs.size f cdv)) → sp vs H Q E →
      ∃ t, PSs (cxOf CX0 c.P c.w c.K c.mg c.base N qual scope f cdv A outer s H E) body t ∧ t { nx := fun _ H' => Q .non H', rt := Q } (start N vs) H) :
    FnG c (k + 1) f (PySem.W.fnOf name qual params body scope dV kV doc pm an cdv ct) ps sp := by
  refine ⟨len, fun A outer s H args us vs Q E hg hr e0 hb r hsp => ?_⟩
  have hlen := len _ _ _ _ hsp
  have hIn : c.K.In s.heap := e0.mod.kin.keeps fun b o e => (e0.bs b o e).1
  have hLim : s.heap.NoLimit := e0.mod.nolimit.keeps fun b o e => (e0.bs b o e).1
  have kinds : ∀ y ∈ ps.zip us, scope.names.lookup y.1 = some .local ∨ (scope.names.lookup y.1 = some .cell ∧ ((cellsFrom (s.heap.objs.size + 1) scope.names []).lookup y.1).isSome = true) := by
    rintro ⟨n, v⟩ hy
    rcases S.par n (List.of_mem_zip hy).1 with q | q
    · exact .inl q
    · exact .inr ⟨q, PySem.W.cellsFrom_some _ _ _ (.inl q)⟩
  refine codeAny_call_function hr.depth (hIn _ _ lk) rfl S.co S.gen rfl (PySem.W.codeRec_of hIn hcd) (hb _ _ _ _ (wpAny_newFunctionEnv_cells S.kind kinds fun env he s1 x => ?_))
  subst he
  refine ⟨hLim.keeps x.toInCall.keep, codeAny_func ?_⟩
  obtain ⟨t, ht, hq⟩ := hbody A outer s H vs Q E (by first | exact hg | (simpa [Around.deeper] using hg)) (hr.deeper _) hsp
  have J0 := inv_start (CX := CX0) (P := c.P) (mg := c.mg) (qual := qual) (f := f) (cd := cdv) (E := E) S hr.hd e0 hlen r x
  refine wpAny_mono (ht.run [] s1 (start N vs) H _ J0 hq) (fun fl s' hs => ?_) fun e s' hs => hs
  match fl, hs with
  | .ret u, ⟨v, l', H', J, rv, q⟩ => exact ⟨v, H', J.os, J.bare, J.base, J.hok, rv, q⟩
  | .next, ⟨l', H', J, q⟩ => exact ⟨V.non, H', J.os, J.bare, J.base, J.hok, rfl, q⟩
  | .brk, ⟨_, _, _, q⟩ => exact q.elim
  | .cont, ⟨_, _, _, q⟩ => exact q.elim
/-- a def of the text, by its row of facts -/
theorem FnG.of {c : Cn} {x qual : Str} {params : Arguments} {body : List Stmt} {scope : Scope} {f : Addr} {fd : FuncData} {N ps : List Str} {k : Nat} {sp : Sp} (F : FunD c.K x qual params body scope [] [] f fd) (S : FnScope N ps scope) (len : ∀ vs H Q E, sp vs H Q E → vs.length = ps.length)
    (hbody : ∀ (cdv : Value) (A : Around) (outer : List Env) (s : Shared) (H : Hp) (vs : List V) (Q : VK) (E : XK), (A.deeper (envOfC qual scope s.heap.objs.size f cdv)).guards = some [] → Room k (A.deeper (envOfC qual scope s.heap.objs.size f cdv)) → sp vs H Q E →
      ∃ t, PSs (cxOf CX0 c.P c.w c.K c.mg c.base N qual scope f cdv A outer s H E) body t ∧ t { nx := fun _ H' => Q .non H', rt := Q } (start N vs) H) : FnG c (k + 1) f fd ps sp := by
  obtain ⟨oc, od, dV, kV, doc, pm, an, cdv, ct, osl, rfl, lk, hcd, _, _⟩ := F.ex
  exact fnG_of lk hcd S len fun A outer s H vs Q E hg hr hsp => hbody cdv A outer s H vs Q E hg hr hsp
structure Dg (c : Cn) (x : Str) (k : Nat) (ps : List Str) (sp : Sp) : Prop where
  ex : ∃ f fd, FnG c k f fd ps sp ∧ c.mg x = some (.ref f) ∧ PySem.W.keepIn c.K (.ref f) = true ∧ Binds c.K fd ps []
/-- called by a keyword alone: x(kw=e) -/
structure Dk (c : Cn) (x kw : Str) (k : Nat) (ps : List Str) (sp : Sp) : Prop where
  ex : ∃ f fd, FnOk c.P c.w c.K c.mg c.base CX0 k f fd ps sp ∧ c.mg x = some (.ref f) ∧ PySem.W.keepIn c.K (.ref f) = true ∧ ∀ (s : Shared) (u : Value), BindsTo s fd ⟨[], [(kw, u)]⟩ (ps.zip [u])
structure Mkw (c : Cn) (C : Addr) (m kw : Str) (k : Nat) (ps : List Str) (sp : Sp) : Prop where
  ex : ∃ f fd, FnOk c.P c.w c.K c.mg c.base CX0 k f fd ps sp ∧ Meth c.K C m f ∧ ∀ (s : Shared) (a u : Value), BindsTo s fd ⟨[a], [(kw, u)]⟩ (ps.zip [a, u])
section
variable {X : Cx} {x m kw : Str} {k : Nat} {ps : List Str} {sp : Sp} {C : Addr} {p pos apos kpos : Pos} {e o : Expr} {es : List Expr} {t : TA} {ta te : TE}
theorem pe_dG (D : Dg (Cx.cn X) x k ps sp) (hgd : X.A.guards = some []) (hr : Room k X.A) (ha : PA X (e :: es) t) (hg : Gl X x := by rfl) (hdb : (x == ("__debug__" : Str)) = false := by decide) (he : starEach (e :: es) X.env = (false, eval e X.env) :: starEach es X.env := by rfl)
    (hpl : (backTo pos (starEach es X.env)).any (·.1) = false := by rfl) : PE X (.Call (.Name x p) (e :: es) [] pos) (tCall sp [] E0 t) := by
  obtain ⟨f, fd, F, hm, hk, hb⟩ := D.ex
  refine ⟨fun pins s l H Q I h => ?_⟩
  refine wpAny_Call_Name_kw (ld_glob I hg hm ?_ hdb)
  refine PySem.W.callWith_K (h₀ := X.base) I.ok.mod.kin hk (thn (ha.run pos pins s l H _ I h) fun us s1 ⟨vs, H1, I1, r, q⟩ => ⟨I1.kIn, ?_⟩) he hpl
  have hl : (us ++ []).length = ps.length := by
    rw [List.append_nil, ← r.length, ← F.len _ _ _ _ q, List.append_nil]
  have r2 : Vals (vs ++ []) (us ++ []) := r.append .nil
  refine wpAny_call (codeAny_mono (F.run X.A X.stack s1 H1 ⟨us, []⟩ (us ++ []) (vs ++ []) Q E0 hgd hr I1.env0 (hb s1 us I1.kIn hl) r2 q) fun r s' hq => ?_)
  match r, hq with
  | .error _, hq => exact hq.elim
  | .ok (.ret u), hq => exact I1.after hq
theorem pe_dk0 (D : Dk (Cx.cn X) x kw k ps sp) (hr : Room k X.A) (ha : PE X e te) (hg : Gl X x := by rfl) (hall : (backToKw pos (keywordEach [⟨some kw, e, kpos⟩] X.env)).all (·.1.isSome) = true := by rfl)
    (hks : (backToKw pos (keywordEach [⟨some kw, e, kpos⟩] X.env)).filterMap (·.1) = [kw] := by rfl) (hdb : (x == ("__debug__" : Str)) = false := by decide)
    (hpl : ((backTo pos (starEach [] X.env)).any (·.1) || (backToKw pos (keywordEach [⟨some kw, e, kpos⟩] X.env)).any (·.1.isNone)) = false := by rfl) :
    PE X (.Call (.Name x p) [] [⟨some kw, e, kpos⟩] pos) (tCall sp [] E0 (tCons te tNil)) := by
  obtain ⟨f, fd, F, hm, hk, hb⟩ := D.ex
  refine ⟨fun pins s l H Q I h => ?_⟩
  refine wpAny_Call_Name_kw (ld_glob I hg hm ?_ hdb)
  refine PySem.W.callWith_KW0 (h₀ := X.base) I.ok.mod.kin hk hall ?_ hpl
  rw [hks]
  show wpAny _ _ (evalAll [do let v ← eval e X.env; standAt pos; pure v]) _ _ s
  refine wpAny_evalAll_cons (wpAny_bind (thn (ha.run pins s l H _ I h) fun u s2 ⟨z, H2, I2, rz, q2⟩ => wpAny_bind (wpAny_standAt (wpAny_pure (wpAny_evalAll_nil ⟨I2.kIn, ?_⟩)))))
  have q3 : sp [z] H2 Q E0 := q2
  refine wpAny_call (codeAny_mono (F.run X.A X.stack s2 H2 ⟨[], [(kw, u)]⟩ [u] [z] Q E0 hr I2.env0 (hb s2 u) (.cons rz .nil) q3) fun r s' hq => ?_)
  match r, hq with
  | .error _, hq => exact hq.elim
  | .ok (.ret u), hq => exact I2.after hq
/-- o.m(kw=e) -/
theorem pe_mdk {pl : Sem Bool} (D : Mkw (Cx.cn X) C m kw k ps sp) (c : Cls X.K C) (hr : Room k X.A) (ho : PE X o ta) (ha : PE X e te) (hall : (backToKw pos (keywordEach [⟨some kw, e, kpos⟩] X.env)).all (·.1.isSome) = true := by rfl)
    (hks : (backToKw pos (keywordEach [⟨some kw, e, kpos⟩] X.env)).filterMap (·.1) = [kw] := by rfl)
    (hpl : ((backTo pos (starEach [] X.env)).any (·.1) || (backToKw pos (keywordEach [⟨some kw, e, kpos⟩] X.env)).any (·.1.isNone)) = false := by rfl)
    (ht : eval (.Call (.Attribute o m apos) [] [⟨some kw, e, kpos⟩] pos) X.env = (do
      let ov ← eval o X.env
      standAt apos.atName
      let (f, first) ← holding [ov] (getMethod ov m pl)
      callWith pos f first (backTo pos (starEach [] X.env)) (backToKw pos (keywordEach [⟨some kw, e, kpos⟩] X.env))) := by rfl) :
    PE X (.Call (.Attribute o m apos) [] [⟨some kw, e, kpos⟩] pos) (tMeth C m sp [] E0 ta (tCons te tNil)) := by
  obtain ⟨f, fd, F, hm, hb⟩ := D.ex
  refine ⟨fun pins s l H Q I h => ?_⟩
  refine PySem.W.methodCall_KW (pl := pl) (thn (ho.run pins s l H _ I h) fun u s1 ⟨x, H1, I1, rx, a, dx, fs, ex, ea, lk, q⟩ => ?_) ht
  subst ex
  obtain rfl : u = Value.ref a := rx
  refine getmeth_ok I1 ea c hm lk ?_
  refine PySem.W.callWith_KW0 (first := [.ref a]) (h₀ := X.base) I.ok.mod.kin hm.kp hall ?_ hpl
  rw [hks]
  show wpAny _ _ (evalAll [do let v ← eval e X.env; standAt pos; pure v]) _ _ s1
  refine wpAny_evalAll_cons (wpAny_bind (thn (ha.run pins s1 l H1 _ I1 q) fun u s2 ⟨z, H2, I2, rz, q2⟩ => wpAny_bind (wpAny_standAt (wpAny_pure (wpAny_evalAll_nil ⟨I2.kIn, ?_⟩)))))
  have q3 : sp [.ref a, z] H2 Q E0 := q2
  refine wpAny_call (codeAny_mono (F.run X.A X.stack s2 H2 ⟨[.ref a], [(kw, u)]⟩ [.ref a, u] [.ref a, z] Q E0 hr I2.env0 (hb s2 (.ref a) u) (.cons rfl (.cons rz .nil)) q3) fun r s' hq => ?_)
  match r, hq with
  | .error _, hq => exact hq.elim
  | .ok (.ret u), hq => exact I2.after hq
end
end Sp
set_option Elab.async false
set_option linter.all false
set_option maxRecDepth 100000
set_option maxHeartbeats 4000000
namespace Sp
open PySem PySem.Spec PyProof.Rows L2
def top (i : Nat) : Stmt := PySem.Challenge.pw_spelledways_k51_whole_mending_twice_and.main.body.getD i (.Pass ⟨0, 0, 0, 0⟩)
abbrev s_is_integer : Stmt := top 6
abbrev s_is_below : Stmt := top 7
abbrev s_is_text : Stmt := top 8
abbrev s_is_sequence : Stmt := top 9
abbrev s_is_tuple_of : Stmt := top 10
abbrev s_map_of : Stmt := top 17
abbrev s_octet_at : Stmt := top 23
abbrev s_put_number : Stmt := top 24
abbrev s_get_number : Stmt := top 25
abbrev s_put_integer : Stmt := top 26
abbrev s_get_integer : Stmt := top 27
abbrev s_signs_by_octets : Stmt := top 28
abbrev s_put_key : Stmt := top 29
abbrev s_get_key : Stmt := top 30
abbrev s_put_text : Stmt := top 31
abbrev s_get_text : Stmt := top 32
abbrev s_put_value : Stmt := top 33
abbrev s_get_value : Stmt := top 34
abbrev s_put_writes : Stmt := top 35
abbrev s_get_pairs : Stmt := top 36
abbrev s_get_writes : Stmt := top 37
abbrev s_put_entries : Stmt := top 38
abbrev s_get_entries : Stmt := top 39
abbrev s_check_sum : Stmt := top 45
abbrev s_pair_of : Stmt := top 46
abbrev s_sum_octets : Stmt := top 47
abbrev s_put_frame : Stmt := top 48
abbrev s_frame_fault : Stmt := top 49
abbrev s_get_frame : Stmt := top 50
abbrev s_read_frames : Stmt := top 51
abbrev s_put_record : Stmt := top 53
abbrev s_put_image : Stmt := top 54
abbrev s_get_record : Stmt := top 55
abbrev s_get_image : Stmt := top 56
abbrev s_records_of : Stmt := top 57
abbrev s_base_of : Stmt := top 59
abbrev s_later_records : Stmt := top 60
abbrev s_recover : Stmt := top 61
abbrev s_mend : Stmt := top 62
abbrev s_is_octets : Stmt := top 65
abbrev s_is_disk : Stmt := top 66
abbrev s_octets_behind : Stmt := top 67
abbrev s_steps_of : Stmt := top 68
abbrev s__law_heap : Stmt := top 74
abbrev s__law_draw : Stmt := top 75
abbrev s__law_pick : Stmt := top 76
abbrev s__law_keys : Stmt := top 77
abbrev s__law_text : Stmt := top 78
abbrev s__law_integer : Stmt := top 79
abbrev s__law_value : Stmt := top 80
abbrev s__law_writes : Stmt := top 81
abbrev s__law_map : Stmt := top 82
abbrev s__law_begun : Stmt := top 83
abbrev s__law_base : Stmt := top 84
abbrev s__law_due : Stmt := top 85
abbrev s__law_draw_due : Stmt := top 86
abbrev s__law_settle_due : Stmt := top 87
abbrev s__law_deed : Stmt := top 88
abbrev s__law_choices : Stmt := top 89
abbrev s__law_numbers : Stmt := top 90
abbrev s__law_cut_right : Stmt := top 91
abbrev s__law_opened : Stmt := top 92
abbrev s__law_mended_right : Stmt := top 93
abbrev s_law : Stmt := top 94
abbrev s_Files___init__ : Stmt := inClass (top 69) 0
abbrev s_Files_add : Stmt := inClass (top 69) 1
abbrev s_Files_keep : Stmt := inClass (top 69) 2
abbrev s_Files_sync : Stmt := inClass (top 69) 3
abbrev s_Files_octets_of : Stmt := inClass (top 69) 4
abbrev s_Files_disk : Stmt := inClass (top 69) 5
abbrev s_Files_choices : Stmt := inClass (top 69) 6
abbrev s_Files__state : Stmt := inClass (top 69) 7
abbrev s_Files_cut : Stmt := inClass (top 69) 8
abbrev s_Journal___init__ : Stmt := inClass (top 72) 0
abbrev s_Journal_write : Stmt := inClass (top 72) 1
abbrev s_Journal_sync : Stmt := inClass (top 72) 2
abbrev s_Journal_draw : Stmt := inClass (top 72) 3
abbrev s_Journal_settle : Stmt := inClass (top 72) 4
abbrev s_Journal_image : Stmt := inClass (top 72) 5
abbrev s_Journal_sure : Stmt := inClass (top 72) 6
abbrev s_Journal_choices : Stmt := inClass (top 72) 7
abbrev s_Journal_cut : Stmt := inClass (top 72) 8
abbrev s_Journal_disk : Stmt := inClass (top 72) 9
def mkD (at_ : Str × Option Str) (x q : Str) (st : Stmt) : He.DefD := ⟨at_, x, q, defArgs st, defBody st, defScope st, [], []⟩
def fn0 : List He.DefD := [mkD ("is_integer", none) "is_integer" "is_integer" s_is_integer, mkD ("is_below", none) "is_below" "is_below" s_is_below, mkD ("is_text", none) "is_text" "is_text" s_is_text, mkD ("is_sequence", none) "is_sequence" "is_sequence" s_is_sequence, mkD ("is_tuple_of", none) "is_tuple_of" "is_tuple_of" s_is_tuple_of, mkD ("map_of", none) "map_of" "map_of" s_map_of, mkD ("octet_at", none) "octet_at" "octet_at" s_octet_at, mkD ("put_number", none) "put_number" "put_number" s_put_number, mkD ("get_number", none) "get_number" "get_number" s_get_number, mkD ("put_integer", none) "put_integer" "put_integer" s_put_integer, mkD ("get_integer", none) "get_integer" "get_integer" s_get_integer, mkD ("signs_by_octets", none) "signs_by_octets" "signs_by_octets" s_signs_by_octets, mkD ("put_key", none) "put_key" "put_key" s_put_key, mkD ("get_key", none) "get_key" "get_key" s_get_key, mkD ("put_text", none) "put_text" "put_text" s_put_text, mkD ("get_text", none) "get_text" "get_text" s_get_text]
def fn1 : List He.DefD := [mkD ("put_value", none) "put_value" "put_value" s_put_value, mkD ("get_value", none) "get_value" "get_value" s_get_value, mkD ("put_writes", none) "put_writes" "put_writes" s_put_writes, mkD ("get_pairs", none) "get_pairs" "get_pairs" s_get_pairs, mkD ("get_writes", none) "get_writes" "get_writes" s_get_writes, mkD ("put_entries", none) "put_entries" "put_entries" s_put_entries, mkD ("get_entries", none) "get_entries" "get_entries" s_get_entries, mkD ("check_sum", none) "check_sum" "check_sum" s_check_sum, mkD ("pair_of", none) "pair_of" "pair_of" s_pair_of, mkD ("sum_octets", none) "sum_octets" "sum_octets" s_sum_octets, mkD ("put_frame", none) "put_frame" "put_frame" s_put_frame, mkD ("frame_fault", none) "frame_fault" "frame_fault" s_frame_fault, mkD ("get_frame", none) "get_frame" "get_frame" s_get_frame, mkD ("read_frames", none) "read_frames" "read_frames" s_read_frames, mkD ("put_record", none) "put_record" "put_record" s_put_record, mkD ("put_image", none) "put_image" "put_image" s_put_image]
def fn2 : List He.DefD := [mkD ("get_record", none) "get_record" "get_record" s_get_record, mkD ("get_image", none) "get_image" "get_image" s_get_image, mkD ("records_of", none) "records_of" "records_of" s_records_of, mkD ("base_of", none) "base_of" "base_of" s_base_of, mkD ("later_records", none) "later_records" "later_records" s_later_records, mkD ("recover", none) "recover" "recover" s_recover, mkD ("mend", none) "mend" "mend" s_mend, mkD ("is_octets", none) "is_octets" "is_octets" s_is_octets, mkD ("is_disk", none) "is_disk" "is_disk" s_is_disk, mkD ("octets_behind", none) "octets_behind" "octets_behind" s_octets_behind, mkD ("steps_of", none) "steps_of" "steps_of" s_steps_of, mkD ("_law_heap", none) "_law_heap" "_law_heap" s__law_heap, mkD ("_law_draw", none) "_law_draw" "_law_draw" s__law_draw, mkD ("_law_pick", none) "_law_pick" "_law_pick" s__law_pick, mkD ("_law_keys", none) "_law_keys" "_law_keys" s__law_keys, mkD ("_law_text", none) "_law_text" "_law_text" s__law_text]
def fn3 : List He.DefD := [mkD ("_law_integer", none) "_law_integer" "_law_integer" s__law_integer, mkD ("_law_value", none) "_law_value" "_law_value" s__law_value, mkD ("_law_writes", none) "_law_writes" "_law_writes" s__law_writes, mkD ("_law_map", none) "_law_map" "_law_map" s__law_map, mkD ("_law_begun", none) "_law_begun" "_law_begun" s__law_begun, mkD ("_law_base", none) "_law_base" "_law_base" s__law_base, mkD ("_law_due", none) "_law_due" "_law_due" s__law_due, mkD ("_law_draw_due", none) "_law_draw_due" "_law_draw_due" s__law_draw_due, mkD ("_law_settle_due", none) "_law_settle_due" "_law_settle_due" s__law_settle_due, mkD ("_law_deed", none) "_law_deed" "_law_deed" s__law_deed, mkD ("_law_choices", none) "_law_choices" "_law_choices" s__law_choices, mkD ("_law_numbers", none) "_law_numbers" "_law_numbers" s__law_numbers, mkD ("_law_cut_right", none) "_law_cut_right" "_law_cut_right" s__law_cut_right, mkD ("_law_opened", none) "_law_opened" "_law_opened" s__law_opened, mkD ("_law_mended_right", none) "_law_mended_right" "_law_mended_right" s__law_mended_right, mkD ("law", none) "law" "law" s_law]
def fn4 : List He.DefD := [mkD ("Files", some "__init__") "__init__" "Files.__init__" s_Files___init__, mkD ("Files", some "add") "add" "Files.add" s_Files_add, mkD ("Files", some "keep") "keep" "Files.keep" s_Files_keep, mkD ("Files", some "sync") "sync" "Files.sync" s_Files_sync, mkD ("Files", some "octets_of") "octets_of" "Files.octets_of" s_Files_octets_of, mkD ("Files", some "disk") "disk" "Files.disk" s_Files_disk, mkD ("Files", some "choices") "choices" "Files.choices" s_Files_choices, mkD ("Files", some "_state") "_state" "Files._state" s_Files__state, mkD ("Files", some "cut") "cut" "Files.cut" s_Files_cut, mkD ("Journal", some "__init__") "__init__" "Journal.__init__" s_Journal___init__, mkD ("Journal", some "write") "write" "Journal.write" s_Journal_write, mkD ("Journal", some "sync") "sync" "Journal.sync" s_Journal_sync, mkD ("Journal", some "draw") "draw" "Journal.draw" s_Journal_draw, mkD ("Journal", some "settle") "settle" "Journal.settle" s_Journal_settle, mkD ("Journal", some "image") "image" "Journal.image" s_Journal_image, mkD ("Journal", some "sure") "sure" "Journal.sure" s_Journal_sure]
def fn5 : List He.DefD := [mkD ("Journal", some "choices") "choices" "Journal.choices" s_Journal_choices, mkD ("Journal", some "cut") "cut" "Journal.cut" s_Journal_cut, mkD ("Journal", some "disk") "disk" "Journal.disk" s_Journal_disk]
def fn : List He.DefD := fn0 ++ fn1 ++ fn2 ++ fn3 ++ fn4 ++ fn5
def fa0 : List He.Fa := [.glo "is_integer", .glo "is_below", .glo "is_text", .glo "is_sequence", .glo "is_tuple_of", .glo "map_of", .glo "octet_at", .glo "put_number", .glo "get_number", .glo "put_integer", .glo "get_integer", .glo "signs_by_octets", .glo "put_key", .glo "get_key", .glo "put_text", .glo "get_text", .glo "put_value", .glo "get_value", .glo "put_writes", .glo "get_pairs", .glo "get_writes", .glo "put_entries", .glo "get_entries", .glo "check_sum"]
def fa1 : List He.Fa := [.glo "pair_of", .glo "sum_octets", .glo "put_frame", .glo "frame_fault", .glo "get_frame", .glo "read_frames", .glo "put_record", .glo "put_image", .glo "get_record", .glo "get_image", .glo "records_of", .glo "base_of", .glo "later_records", .glo "recover", .glo "mend", .glo "is_octets", .glo "is_disk", .glo "octets_behind", .glo "steps_of", .glo "_law_heap", .glo "_law_draw", .glo "_law_pick", .glo "_law_keys", .glo "_law_text"]
def fa2 : List He.Fa := [.glo "_law_integer", .glo "_law_value", .glo "_law_writes", .glo "_law_map", .glo "_law_begun", .glo "_law_base", .glo "_law_due", .glo "_law_draw_due", .glo "_law_settle_due", .glo "_law_deed", .glo "_law_choices", .glo "_law_numbers", .glo "_law_cut_right", .glo "_law_opened", .glo "_law_mended_right", .glo "law", .glo "StoreError", .glo "InvalidOctets", .glo "InvalidSize", .glo "Refused", .glo "Files", .glo "Journal", .str "KEY_SIGNS" "0123456789_abcdefghijklmnopqrstuvwxyz", .str "TEXT_SIGNS" " -./0123456789:ABCDEFGHIJKLMNOPQRSTUVWXYZ_abcdefghijklmnopqrstuvwxyz"]
def fa3 : List He.Fa := [.int "LONGEST_KEY" 16, .int "LONGEST_TEXT" 32, .int "GREATEST" 1000000000000000000, .int "MOST_OCTETS" 9, .int "NONE_TAG" 0, .int "INTEGER_TAG" 1, .int "TEXT_TAG" 2, .int "MODULUS" 4294967291, .int "LONGEST_BODY" 65535, .int "HEAD" 4, .int "EXTRA" 8, .int "PLACES" 3, .int "LOG" 2, .free "len", .free "isinstance", .free "tuple", .free "sorted", .free "range", .free "ord", .free "list", .free "dict", .free "min", .free "max", .free "sum"]
def fa4 : List He.Fa := [.free "all", .free "abs", .free "int", .free "repr", .free "zip", .free "str", .free "bool", .cls "Files", .mkr "Files", .noat "Files" "start", .noat "Files" "synced", .noat "Files" "deeds", .meth "Files" "__init__", .meth "Files" "add", .meth "Files" "keep", .meth "Files" "sync", .meth "Files" "octets_of", .meth "Files" "disk", .meth "Files" "choices", .meth "Files" "_state", .meth "Files" "cut", .cls "Journal", .mkr "Journal", .noat "Journal" "start"]
def fa5 : List He.Fa := [.noat "Journal" "stamp", .noat "Journal" "entries", .noat "Journal" "word", .noat "Journal" "files", .noat "Journal" "drawn", .meth "Journal" "__init__", .meth "Journal" "write", .meth "Journal" "sync", .meth "Journal" "draw", .meth "Journal" "settle", .meth "Journal" "image", .meth "Journal" "sure", .meth "Journal" "choices", .meth "Journal" "cut", .meth "Journal" "disk"]
def fa : List He.Fa := fa0 ++ fa1 ++ fa2 ++ fa3 ++ fa4 ++ fa5
/-- the text as it stands behind the top -/
structure Tx (c : Cn) : Prop where
  ex : ∃ h : Heap, c.K.In h ∧ h.Ns mainGlobals c.mg ∧ He.SaysD fa fn c.K
section
variable {c : Cn} {x m : Str} {st : Stmt} {N ps : List Str} {k : Nat} {sp : Sp}
theorem Tx.free (T : Tx c) (i : Nat) (h : fa[i]? = some (.free x) := by rfl) : c.mg x = none := by
  obtain ⟨hp, X, G, S⟩ := T.ex
  exact He.free_ok X G (S.fact i h)
theorem Tx.glo (T : Tx c) (i : Nat) (h : fa[i]? = some (.glo x) := by rfl) : c.mg x = some (.ref (He.ga c.K x)) := by
  obtain ⟨hp, X, G, S⟩ := T.ex
  exact He.glo_ok X G (S.fact i h)
theorem Tx.int (T : Tx c) (i : Nat) {z : Int} (h : fa[i]? = some (.int x z) := by rfl) : ∃ u, c.mg x = some u ∧ RelV (.int z) u := by
  obtain ⟨hp, X, G, S⟩ := T.ex
  obtain ⟨t, e⟩ := He.int_ok X G (S.fact i h)
  exact ⟨_, e, t, rfl⟩
theorem Tx.str (T : Tx c) (i : Nat) {z : Str} (h : fa[i]? = some (.str x z) := by rfl) : ∃ u, c.mg x = some u ∧ RelV (.str z) u := by
  obtain ⟨hp, X, G, S⟩ := T.ex
  obtain ⟨t, e⟩ := He.str_ok X G (S.fact i h)
  exact ⟨_, e, t, rfl⟩
theorem Tx.cls (T : Tx c) (i : Nat) (h : fa[i]? = some (.cls x) := by rfl) : Cls c.K (He.ga c.K x) := by
  obtain ⟨hp, X, G, S⟩ := T.ex
  exact He.cls_ok (S.fact i h)
theorem Tx.noat (T : Tx c) (i : Nat) (h : fa[i]? = some (.noat x m) := by rfl) : NoAttr c.K (He.ga c.K x) m := by
  obtain ⟨hp, X, G, S⟩ := T.ex
  exact He.noat_ok (S.fact i h)
theorem Tx.meth (T : Tx c) (i : Nat) (h : fa[i]? = some (.meth x m) := by rfl) : Meth c.K (He.ga c.K x) m (He.ma c.K (He.ga c.K x) m) := by
  obtain ⟨hp, X, G, S⟩ := T.ex
  exact He.meth_ok (S.fact i h)
theorem Tx.mkr (T : Tx c) (i : Nat) (h : fa[i]? = some (.mkr x) := by rfl) : Mk c.K (He.ga c.K x) (He.ma c.K (He.ga c.K x) "__init__") := by
  obtain ⟨hp, X, G, S⟩ := T.ex
  exact He.mkr_ok (S.fact i h)
theorem Tx.fun_ (T : Tx c) (i : Nat) {d : He.DefD} (h : fn[i]? = some d := by rfl) : ∃ fd, FunD c.K d.name d.qual d.params d.body d.scope (d.dvs c.K) (d.kws c.K) (He.fAd c.K d.at_) fd := by
  obtain ⟨hp, X, G, S⟩ := T.ex
  exact S.def_ i h
/-- how the arguments bind -/
abbrev Bd (x q : Str) (st : Stmt) (ps : List Str) : Prop := ∀ (kV doc pm : Value) (an : Option Addr) (cdv ct : Value) (us : List Value), us.length = ps.length →
  bindArgs (PySem.W.fnOf x q (defArgs st) (defBody st) (defScope st) .none kV doc pm an cdv ct) ⟨us, []⟩ = pure (ps.zip us)
/-- a body keeps sp -/
abbrev Bo (c : Cn) (q : Str) (st : Stmt) (N : List Str) (k : Nat) (sp : Sp) (f : Addr) : Prop := ∀ (cdv : Value) (A : Around) (outer : List Env) (s : Shared) (H : Hp) (vs : List V) (Q : VK) (E : XK),
  Room k (A.deeper (envOfC q (defScope st) s.heap.objs.size f cdv)) → sp vs H Q E →
  ∃ t, PSs (cxOf CX0 c.P c.w c.K c.mg c.base N q (defScope st) f cdv A outer s H E).nox (defBody st) t ∧ t { nx := fun _ H' => Q .non H', rt := Q } (start N vs) H
/-- the same where nothing is being shown -/
abbrev Bg (c : Cn) (q : Str) (st : Stmt) (N : List Str) (k : Nat) (sp : Sp) (f : Addr) : Prop := ∀ (cdv : Value) (A : Around) (outer : List Env) (s : Shared) (H : Hp) (vs : List V) (Q : VK) (E : XK),
  (A.deeper (envOfC q (defScope st) s.heap.objs.size f cdv)).guards = some [] → Room k (A.deeper (envOfC q (defScope st) s.heap.objs.size f cdv)) → sp vs H Q E →
  ∃ t, PSs (cxOf CX0 c.P c.w c.K c.mg c.base N q (defScope st) f cdv A outer s H E).nox (defBody st) t ∧ t { nx := fun _ H' => Q .non H', rt := Q } (start N vs) H
abbrev Ln (ps : List Str) (sp : Sp) : Prop := ∀ vs H Q E, sp vs H Q E → vs.length = ps.length
theorem Tx.df (T : Tx c) (i j : Nat) (hg : fa[j]? = some (.glo x)) (hd : fn[i]? = some (mkD (x, none) x x st)) (S : FnScope N ps (defScope st)) (hb : Bd x x st ps) (len : Ln ps sp) (ok : ∀ f, Bo c x st N k sp f) : Df c x (k + 1) ps sp := by
  obtain ⟨fd, F⟩ := T.fun_ i hd
  exact ⟨_, fd, FunD.ok F S len fun cdv A outer s H vs Q E hr h => by
    obtain ⟨t, h1, h2⟩ := ok _ cdv A outer s H vs Q E hr h
    exact ⟨t, PSs.nox h1, h2⟩, T.glo j hg, F.kp, F.bindsN hb⟩
theorem Tx.dg (T : Tx c) (i j : Nat) (hg : fa[j]? = some (.glo x)) (hd : fn[i]? = some (mkD (x, none) x x st)) (S : FnScope N ps (defScope st)) (hb : Bd x x st ps) (len : Ln ps sp) (ok : ∀ f, Bg c x st N k sp f) : Dg c x (k + 1) ps sp := by
  obtain ⟨fd, F⟩ := T.fun_ i hd
  exact ⟨_, fd, FnG.of F S len fun cdv A outer s H vs Q E hgd hr h => by
    obtain ⟨t, h1, h2⟩ := ok _ cdv A outer s H vs Q E hgd hr h
    exact ⟨t, PSs.nox h1, h2⟩, T.glo j hg, F.kp, F.bindsN hb⟩
theorem Tx.md (T : Tx c) (i j : Nat) {q : Str} (hm : fa[j]? = some (.meth x m)) (hd : fn[i]? = some (mkD (x, some m) m q st)) (S : FnScope N ps (defScope st)) (hb : Bd m q st ps) (len : Ln ps sp) (ok : ∀ f, Bo c q st N k sp f) : Md c (He.ga c.K x) m (k + 1) ps sp := by
  obtain ⟨fd, F⟩ := T.fun_ i hd
  exact ⟨_, fd, FunD.ok F S len fun cdv A outer s H vs Q E hr h => by
    obtain ⟨t, h1, h2⟩ := ok _ cdv A outer s H vs Q E hr h
    exact ⟨t, PSs.nox h1, h2⟩, T.meth j hm, F.bindsN hb⟩
theorem Tx.mc (T : Tx c) (i j n : Nat) {q : Str} (hm : fa[j]? = some (.mkr x)) (hg : fa[n]? = some (.glo x)) (hd : fn[i]? = some (mkD (x, some "__init__") "__init__" q st)) (S : FnScope N ps (defScope st)) (hb : Bd "__init__" q st ps) (len : Ln ps sp) (ok : ∀ f, Bo c q st N k sp f) :
    Mc c x (He.ga c.K x) (k + 1) ps sp := by
  obtain ⟨fd, F⟩ := T.fun_ i hd
  exact ⟨_, fd, FunD.ok F S len fun cdv A outer s H vs Q E hr h => by
    obtain ⟨t, h1, h2⟩ := ok _ cdv A outer s H vs Q E hr h
    exact ⟨t, PSs.nox h1, h2⟩, T.mkr j hm, T.glo n hg, F.bindsN hb⟩
end
section
variable {c : Cn}
theorem Tx.k_KEY_SIGNS (T : Tx c) : ∃ u, c.mg "KEY_SIGNS" = some u ∧ RelV (.str "0123456789_abcdefghijklmnopqrstuvwxyz") u := T.str 70
theorem Tx.k_TEXT_SIGNS (T : Tx c) : ∃ u, c.mg "TEXT_SIGNS" = some u ∧ RelV (.str " -./0123456789:ABCDEFGHIJKLMNOPQRSTUVWXYZ_abcdefghijklmnopqrstuvwxyz") u := T.str 71
theorem Tx.k_LONGEST_KEY (T : Tx c) : ∃ u, c.mg "LONGEST_KEY" = some u ∧ RelV (.int 16) u := T.int 72
theorem Tx.k_LONGEST_TEXT (T : Tx c) : ∃ u, c.mg "LONGEST_TEXT" = some u ∧ RelV (.int 32) u := T.int 73
theorem Tx.k_GREATEST (T : Tx c) : ∃ u, c.mg "GREATEST" = some u ∧ RelV (.int 1000000000000000000) u := T.int 74
theorem Tx.k_MOST_OCTETS (T : Tx c) : ∃ u, c.mg "MOST_OCTETS" = some u ∧ RelV (.int 9) u := T.int 75
theorem Tx.k_NONE_TAG (T : Tx c) : ∃ u, c.mg "NONE_TAG" = some u ∧ RelV (.int 0) u := T.int 76
theorem Tx.k_INTEGER_TAG (T : Tx c) : ∃ u, c.mg "INTEGER_TAG" = some u ∧ RelV (.int 1) u := T.int 77
theorem Tx.k_TEXT_TAG (T : Tx c) : ∃ u, c.mg "TEXT_TAG" = some u ∧ RelV (.int 2) u := T.int 78
theorem Tx.k_MODULUS (T : Tx c) : ∃ u, c.mg "MODULUS" = some u ∧ RelV (.int 4294967291) u := T.int 79
theorem Tx.k_LONGEST_BODY (T : Tx c) : ∃ u, c.mg "LONGEST_BODY" = some u ∧ RelV (.int 65535) u := T.int 80
theorem Tx.k_HEAD (T : Tx c) : ∃ u, c.mg "HEAD" = some u ∧ RelV (.int 4) u := T.int 81
theorem Tx.k_EXTRA (T : Tx c) : ∃ u, c.mg "EXTRA" = some u ∧ RelV (.int 8) u := T.int 82
theorem Tx.k_PLACES (T : Tx c) : ∃ u, c.mg "PLACES" = some u ∧ RelV (.int 3) u := T.int 83
theorem Tx.k_LOG (T : Tx c) : ∃ u, c.mg "LOG" = some u ∧ RelV (.int 2) u := T.int 84
theorem Tx.n_len (T : Tx c) : c.mg "len" = none := T.free 85
theorem Tx.n_isinstance (T : Tx c) : c.mg "isinstance" = none := T.free 86
theorem Tx.n_tuple (T : Tx c) : c.mg "tuple" = none := T.free 87
theorem Tx.n_sorted (T : Tx c) : c.mg "sorted" = none := T.free 88
theorem Tx.n_range (T : Tx c) : c.mg "range" = none := T.free 89
theorem Tx.n_ord (T : Tx c) : c.mg "ord" = none := T.free 90
theorem Tx.n_list (T : Tx c) : c.mg "list" = none := T.free 91
theorem Tx.n_dict (T : Tx c) : c.mg "dict" = none := T.free 92
theorem Tx.n_min (T : Tx c) : c.mg "min" = none := T.free 93
theorem Tx.n_max (T : Tx c) : c.mg "max" = none := T.free 94
theorem Tx.n_sum (T : Tx c) : c.mg "sum" = none := T.free 95
theorem Tx.n_all (T : Tx c) : c.mg "all" = none := T.free 96
theorem Tx.n_abs (T : Tx c) : c.mg "abs" = none := T.free 97
theorem Tx.n_int (T : Tx c) : c.mg "int" = none := T.free 98
theorem Tx.n_repr (T : Tx c) : c.mg "repr" = none := T.free 99
theorem Tx.n_zip (T : Tx c) : c.mg "zip" = none := T.free 100
theorem Tx.n_str (T : Tx c) : c.mg "str" = none := T.free 101
theorem Tx.n_bool (T : Tx c) : c.mg "bool" = none := T.free 102
abbrev cFiles (c : Cn) : Addr := He.ga c.K "Files"
theorem Tx.c_Files (T : Tx c) : Cls c.K (cFiles c) := T.cls 103
theorem Tx.a_Files_start (T : Tx c) : NoAttr c.K (cFiles c) "start" := T.noat 105
theorem Tx.a_Files_synced (T : Tx c) : NoAttr c.K (cFiles c) "synced" := T.noat 106
theorem Tx.a_Files_deeds (T : Tx c) : NoAttr c.K (cFiles c) "deeds" := T.noat 107
abbrev cJournal (c : Cn) : Addr := He.ga c.K "Journal"
theorem Tx.c_Journal (T : Tx c) : Cls c.K (cJournal c) := T.cls 117
theorem Tx.a_Journal_start (T : Tx c) : NoAttr c.K (cJournal c) "start" := T.noat 119
theorem Tx.a_Journal_stamp (T : Tx c) : NoAttr c.K (cJournal c) "stamp" := T.noat 120
theorem Tx.a_Journal_entries (T : Tx c) : NoAttr c.K (cJournal c) "entries" := T.noat 121
theorem Tx.a_Journal_word (T : Tx c) : NoAttr c.K (cJournal c) "word" := T.noat 122
theorem Tx.a_Journal_files (T : Tx c) : NoAttr c.K (cJournal c) "files" := T.noat 123
theorem Tx.a_Journal_drawn (T : Tx c) : NoAttr c.K (cJournal c) "drawn" := T.noat 124
end
end Sp
set_option Elab.async false
set_option linter.all false
set_option maxRecDepth 100000
set_option maxHeartbeats 4000000
namespace Sp
open PySem PySem.Spec PyProof.Rows L2
/-! ### promises of pure defs: for each a with pre a, from args a to res a -/
def spF {α : Type} (args : α → List PyData) (pre : α → Prop) (res : α → PyData) : Sp := fun vs H Q _ => ∃ a, Dts H (args a) vs ∧ pre a ∧ ∀ v H', Same H H' → Dt H' (res a) v → Q v H'
theorem ln_F {α : Type} {args : α → List PyData} {pre : α → Prop} {res : α → PyData} {ps : List Str} (h : ∀ a, (args a).length = ps.length) : Ln ps (spF args pre res) := fun vs H Q E ⟨a, h1, _⟩ => by
  rw [h1.len, h a]
section
variable {l : L2.St} {H : Hp} {t : TA} {E : XK}
theorem ev_F {α : Type} {args : α → List PyData} {pre : α → Prop} {res : α → PyData} (a : α) (h : EvA t l H (args a)) (hp : pre a) : Ev (tCall (spF args pre res) [] E t) l H (res a) := fun H1 e Q q =>
  h H1 e _ fun vs H2 e2 h2 => ⟨a, by rw [List.append_nil]; exact h2, hp, fun v H3 e3 h3 => q v H3 (e2.trans e3) h3⟩
end
/-! ### octets -/
abbrev Oct := List Int
def octD (o : Oct) : PyData := .tuple (o.map .int)
def OctOk (o : Oct) : Prop := ∀ x ∈ o, 0 ≤ x ∧ x < 256
theorem octOk_app {a b : Oct} (h : OctOk a) (g : OctOk b) : OctOk (a ++ b) := fun x hx => (List.mem_append.mp hx).elim (h x) (g x)
theorem octOk_cons {x : Int} {a : Oct} (h : 0 ≤ x ∧ x < 256) (g : OctOk a) : OctOk (x :: a) := fun y hy => (List.mem_cons.mp hy).elim (fun e => e ▸ h) (g y)
theorem octOk_nil : OctOk [] := fun _ h => nomatch h
theorem octD_app (a b : Oct) : PyData.tuple (a.map .int ++ b.map .int) = octD (a ++ b) := by
  unfold octD
  rw [List.map_append]
theorem octD_get {o : Oct} {i : Nat} {x : Int} (h : o[i]? = some x) : (o.map PyData.int)[i]? = some (.int x) := by rw [List.getElem?_map, h]; rfl
def encNum (n : Nat) : Oct := if n < 128 then [(n : Int)] else (128 + (n : Int) % 128) :: encNum (n / 128)
termination_by n
decreasing_by omega
theorem encNum_lt {n : Nat} (h : n < 128) : encNum n = [(n : Int)] := by rw [encNum, if_pos h]
theorem encNum_ge {n : Nat} (h : ¬ n < 128) : encNum n = (128 + (n : Int) % 128) :: encNum (n / 128) := by rw [encNum, if_neg h]
theorem encNum_ok (n : Nat) : OctOk (encNum n) := by
  induction n using Nat.strongRecOn with
  | _ n ih =>
    by_cases h : n < 128
    · rw [encNum_lt h]
      exact octOk_cons (by omega) octOk_nil
    · rw [encNum_ge h]
      exact octOk_cons (by omega) (ih _ (by omega))
theorem encNum_len (k : Nat) : ∀ n : Nat, n < 128 ^ (k + 1) → (encNum n).length ≤ k + 1 := by
  induction k with
  | zero => intro n h; rw [encNum_lt (by simpa using h)]; simp
  | succ k ih =>
    intro n h
    by_cases h1 : n < 128
    · rw [encNum_lt h1]; simp
    · rw [encNum_ge h1]
      have := ih (n / 128) (by rw [Nat.div_lt_iff_lt_mul (by decide)]; rw [Nat.pow_succ] at h; omega)
      simp only [List.length_cons]
      omega
theorem encNum_pos (n : Nat) : 0 < (encNum n).length := by
  by_cases h : n < 128
  · rw [encNum_lt h]; simp
  · rw [encNum_ge h]; simp
theorem encNum_9 {n : Nat} (h : n < 9223372036854775808) : (encNum n).length ≤ 9 := encNum_len 8 n (by simpa using h)
/-- the i-th of a number's octets, as long as there are more: not the last one -/
theorem encNum_drop : ∀ (i n : Nat), i < (encNum n).length → (encNum n).drop i = encNum (n / 128 ^ i)
  | 0, n, _ => by simp
  | i + 1, n, h => by
    by_cases h1 : n < 128
    · rw [encNum_lt h1] at h; simp at h
    · rw [encNum_ge h1] at h ⊢
      have h2 : i < (encNum (n / 128)).length := by simpa using h
      rw [List.drop_succ_cons, encNum_drop i (n / 128) h2, Nat.div_div_eq_div_mul, Nat.pow_succ, Nat.mul_comm]
/-! ### values, writes -/
inductive Val where
  | non | int (i : Int) | str (x : Str)
  deriving DecidableEq
def Val.d : Val → PyData
  | .non => .none
  | .int i => .int i
  | .str x => .str x
theorem Val.d_inj {a b : Val} (h : a.d = b.d) : a = b := by
  cases a <;> cases b <;> simp [Val.d] at h <;> simp [h]
abbrev Wr := List (Str × Val)
def pairD (p : Str × Val) : PyData := .tuple [.str p.1, p.2.d]
def wrD (w : Wr) : PyData := .tuple (w.map pairD)
def codes (x : Str) : Oct := x.cps.toList.map fun (n : Nat) => (n : Int)
def encKey (k : Str) : Oct := codes k ++ [0]
def encText (x : Str) : Oct := encNum x.length ++ codes x
def zig (i : Int) : Nat := if 0 ≤ i then (2 * i).toNat else (-2 * i - 1).toNat
def encVal : Val → Oct
  | .non => [0]
  | .int i => 1 :: encNum (zig i)
  | .str x => 2 :: encText x
def encPair (p : Str × Val) : Oct := encKey p.1 ++ encVal p.2
def encPairs (w : Wr) : Oct := (w.map encPair).flatten
def encWr (w : Wr) : Oct := encNum w.length ++ encPairs w
/-- the signs -/
def keySigns : List Nat := [48, 49, 50, 51, 52, 53, 54, 55, 56, 57, 95, 97, 98, 99, 100, 101, 102, 103, 104, 105, 106, 107, 108, 109, 110, 111, 112, 113, 114, 115, 116, 117, 118, 119, 120, 121, 122]
def textSigns : List Nat := [32, 45, 46, 47, 48, 49, 50, 51, 52, 53, 54, 55, 56, 57, 58, 65, 66, 67, 68, 69, 70, 71, 72, 73, 74, 75, 76, 77, 78, 79, 80, 81, 82, 83, 84, 85, 86, 87, 88, 89, 90, 95, 97, 98, 99, 100, 101, 102, 103, 104, 105, 106, 107, 108, 109, 110, 111, 112, 113, 114, 115, 116, 117, 118, 119, 120, 121, 122]
structure KeyOk (k : Str) : Prop where
  pos : 1 ≤ k.cps.size
  len : k.cps.size ≤ 16
  sig : ∀ c ∈ k.cps.toList, c ∈ keySigns
def ValOk : Val → Prop
  | .non => True
  | .int i => -1000000000000000000 ≤ i ∧ i ≤ 1000000000000000000
  | .str x => x.cps.size ≤ 32 ∧ ∀ c ∈ x.cps.toList, c ∈ textSigns
def Wr.Ok (w : Wr) : Prop := ∀ p ∈ w, KeyOk p.1 ∧ ValOk p.2
/-- keys ascend -/
def ltS (a b : Str) : Prop := a.cps.toList < b.cps.toList
def Wr.Asc (w : Wr) : Prop := (w.map (·.1)).Pairwise ltS
/-! ### frames -/
def ckStep (t x : Int) : Int := (t * 256 + x) % 4294967291
def ckSum (o : Oct) : Int := o.foldl ckStep 1
def pair2 (n : Int) : Oct := [n / 256, n % 256]
def sumOct (o : Oct) : Oct := pair2 (ckSum o / 65536) ++ pair2 (ckSum o % 65536)
def frameHead (b : Oct) : Oct := pair2 (b.length : Int) ++ pair2 (65535 - (b.length : Int)) ++ b
def frame (b : Oct) : Oct := frameHead b ++ sumOct (frameHead b)
def body (s : Nat) (w : Wr) : Oct := encNum s ++ encWr w
def rec_ (s : Nat) (w : Wr) : Oct := frame (body s w)
theorem frame_len (b : Oct) : (frame b).length = b.length + 8 := by
  unfold frame frameHead sumOct pair2
  simp only [List.length_append, List.length_cons, List.length_nil]
  omega
end Sp
set_option Elab.async false
set_option linter.all false
set_option maxRecDepth 100000
set_option maxHeartbeats 4000000
namespace Sp
open PySem PySem.Spec PyProof.Rows L2
section
variable {K : PySem.W.Frag} {l : L2.St} {H H' : Hp} {ta tb tc te tl : TE} {t u : TT} {d d1 d2 d3 : PyData} {ds es : List PyData} {b c : Bool} {G : List (Option PyData)} {D : Ends} {tz tu tw : TS} {n m o : Nat} {i j : Int}
/-! kinds -/
def tyN : PyData → String
  | .none => "NoneType"
  | .bool _ => "bool"
  | .int _ => "int"
  | .str _ => "str"
  | .list _ => "list"
  | .tuple _ => "tuple"
  | .dict _ => "dict"
theorem tyX_of {v : V} (h : Dt H d v) : TyX K H v (.type (tyN d)) := by
  cases d with
  | none => rw [show v = .non from h]; exact .base .non
  | bool b => rw [show v = .bl b from h]; exact .base (.bl b)
  | int i => rw [show v = .int i from h]; exact .base (.int i)
  | str x => rw [show v = .str x from h]; exact .base (.str x)
  | tuple ds =>
    obtain ⟨a, xs, rfl, ha, _⟩ := h
    rcases ha with ha | ⟨ob, ha⟩
    · exact .base (.tup ha)
    · exact .fTuple ha
  | list _ => exact h.elim
  | dict _ => exact h.elim
theorem ev_isi {s : String} {r : Bool} (ha : Ev ta l H d) (hk : kitB (tyN d) s = some r) : Ev (tCB (rIsi K) (tCons ta (tCons (tC (.ty s)) tNil))) l H (.bool r) := fun H1 e Q q =>
  ha H1 e _ fun v H2 e2 h2 => ⟨v, .ty s, _, _, r, rfl, .ty s, tyX_of h2, kit_ty hk, q _ H2 e2 rfl⟩
theorem ev_isiT {s1 s2 : String} (ha : Ev ta l H d) (hk : ∀ K : PySem.W.Frag, PySem.W.kitAny K (.type (tyN d)) [.type s1, .type s2] = some b) : Ev (tCB (rIsiT K) (tCons ta (tCons (tTup (tCons (tC (.ty s1)) (tCons (tC (.ty s2)) tNil))) tNil))) l H (.bool b) := fun H1 e Q q =>
  ha H1 e _ fun v H2 e2 h2 => ⟨by show 2 ≤ sizeLine; decide, fun p hp => ⟨v, p, _, _, _, b, rfl, upd_same, .cons (.ty s1) (.cons (.ty s2) .nil), tyX_of (h2.to (same_new hp)), hk K, q _ _ (e2.trans (same_new hp)) rfl⟩⟩
/-! x op= e, by values -/
theorem s_augR {C : Int → Int → Prop} {g : Int → Int → Int} (L : Loc H G l) (hx : G[n]? = some (some (.int i))) (h : Ev te l H (.int j)) (hc : C i j) (k : ∀ H1, Same H H1 → Loc H1 (G.set n (some (.int (g i j)))) (l.set n (some (.int (g i j)))) → D.nx (l.set n (some (.int (g i j)))) H1) : tAug n te (rI C fun i j => .int (g i j)) D l H := by
  obtain ⟨v, h1, h2⟩ := L.get hx
  exact ⟨v, h1, h H (Same.refl _) _ fun w H1 e hw => ⟨i, j, h2, hw, hc, k H1 e (Loc.set (d := .int (g i j)) rfl n (L.to e))⟩⟩
/-! xs + ys of lists -/
theorem el_cat {a : Addr} {xs : List V} (ha : EvV ta l H (.ref a)) (h : H a = some (.lst xs)) (hx : Dts H ds xs) (hb : EvL tb l H es) (hz : ds.length + es.length ≤ 1000000) : EvL (tOp rCat ta tb) l H (ds ++ es) := fun H1 e Q q =>
  ha H1 e _ fun H2 e2 => hb H2 (e.trans e2) _ fun p ys H3 hp e3 h3 hy => by
    have hx3 := hx.to ((e.trans e2).trans e3)
    refine ⟨a, p, xs, ys, rfl, rfl, ((e.trans e2).trans e3) _ _ h, h3, by rw [hx.len, hy.len]; exact sz_of hz, fun z hz => ?_⟩
    exact q z _ _ (Same.free (e2.trans e3) hz) ((e2.trans e3).trans (same_new hz)) upd_same ((hx3.app hy).to (same_new hz))
/-! for i in range(e) -/
theorem q_forR {k : Nat} (h : Ev te l H (.int (k : Nat))) (hk : k ≤ 1000000) (Pv : Nat → L2.St → Hp → Prop) (h0 : ∀ H1, Same H H1 → Pv 0 l H1)
    (hs : ∀ (i : Nat) l' H', i < k → Pv i l' H' → tu { D with nx := Pv (i + 1), ct := Pv (i + 1), bk := tz D } (l'.set n (some (.int (i : Nat)))) H') (hd : ∀ l' H', Pv k l' H' → tz D l' H') : tSeq (tFor (iRng1 (tCons te tNil)) (gName n) tu) tz D l H :=
  h H (Same.refl _) _ fun v H1 e hv => by
    refine ⟨(k : Nat), by rw [show v = .int (k : Nat) from hv], by omega, by omega, ?_⟩
    show ∃ W : Nat → Nat → L2.St → Hp → Prop, _
    have hkk : ((k : Nat) : Int).toNat = k := by omega
    rw [hkk]
    exact for_range (lo := 0) (n := k) Pv (h0 H1 e) (fun i l' H' hi p => by
      have := hs i l' H' hi p
      rw [show (0 : Int) + (i : Nat) = ((i : Nat) : Int) by omega]
      exact this) hd
/-- for i in range(a, b) -/
theorem q_forR2 {lo hi : Nat} (h1 : Ev ta l H (.int (lo : Nat))) (h2 : Ev tb l H (.int (hi : Nat))) (hk : hi ≤ 1000000) (hlo : lo ≤ 1000000) (Pv : Nat → L2.St → Hp → Prop) (h0 : ∀ H1, Same H H1 → Pv 0 l H1)
    (hs : ∀ (i : Nat) l' H', lo + i < hi → Pv i l' H' → tu { D with nx := Pv (i + 1), ct := Pv (i + 1), bk := tz D } (l'.set n (some (.int ((lo + i : Nat) : Int)))) H') (hd : ∀ l' H', Pv (hi - lo) l' H' → tz D l' H') : tSeq (tFor (iRng2 (tCons ta (tCons tb tNil))) (gName n) tu) tz D l H :=
  h1 H (Same.refl _) _ fun v H1 e hv => h2 H1 e _ fun w H2 e2 hw => by
    refine ⟨(lo : Nat), (hi : Nat), by rw [show v = .int (lo : Nat) from hv, show w = .int (hi : Nat) from hw], by omega, ?_⟩
    have hkk : (((hi : Nat) : Int) - ((lo : Nat) : Int)).toNat = hi - lo := by omega
    rw [hkk]
    exact for_range (lo := (lo : Nat)) (n := hi - lo) Pv (h0 H2 (e.trans e2)) (fun i l' H' hi2 p => by
      have := hs i l' H' (by omega) p
      rw [show ((lo : Nat) : Int) + (i : Nat) = ((lo + i : Nat) : Int) by omega]
      exact this) hd
/-! equal data -/
theorem ev_eqD (ha : Ev ta l H d1) (hb : Ev tb l H d2) (h1 : SeqAt.shaped d1 = true) (h2 : SeqAt.shaped d2 = true) (hr : PyData.eqv d1 d2 = b) : Ev (tOp (rEqD K) ta tb) l H (.bool b) := fun H1 e Q q =>
  ha H1 e _ fun v H2 e2 q2 => hb H2 (e.trans e2) _ fun w H3 e3 q3 => ⟨d1, d2, Dt.dp d1 (q2.to e3), Dt.dp d2 q3, h1, h2, by rw [hr]; exact q _ H3 (e2.trans e3) rfl⟩
theorem ev_neD (ha : Ev ta l H d1) (hb : Ev tb l H d2) (h1 : SeqAt.shaped d1 = true) (h2 : SeqAt.shaped d2 = true) (hr : (!PyData.eqv d1 d2) = b) : Ev (tOp (rNeD K) ta tb) l H (.bool b) := fun H1 e Q q =>
  ha H1 e _ fun v H2 e2 q2 => hb H2 (e.trans e2) _ fun w H3 e3 q3 => ⟨d1, d2, Dt.dp d1 (q2.to e3), Dt.dp d2 q3, h1, h2, by rw [hr]; exact q _ H3 (e2.trans e3) rfl⟩
/-- xs != [] of a list that stands -/
theorem ev_neL {a : Addr} {xs : List V} (ha : EvV ta l H (.ref a)) (h : H a = some (.lst xs)) (hx : Dts H ds xs) (hb : EvL tb l H []) (h1 : SeqAt.shaped (.list ds) = true) : Ev (tOp (rNeD K) ta tb) l H (.bool (!ds.isEmpty)) := fun H1 e Q q =>
  ha H1 e _ fun H2 e2 => hb H2 (e.trans e2) _ fun p ys H3 hp e3 h3 hy => by
    have e03 := (e.trans e2).trans e3
    refine ⟨.list ds, .list [], .lst (SqL.of (e03 _ _ h)) (Dts.dp ds (hx.to e03)), .lst (SqL.of h3) (Dts.dp [] hy), h1, by decide, ?_⟩
    have er : (!PyData.eqv (.list ds) (.list [])) = !ds.isEmpty := by cases ds <;> rfl
    rw [er]
    exact q _ H3 (e2.trans e3) rfl
/-- xs[i] of a list that stands; len(xs) -/
theorem ev_ixL {a : Addr} {xs : List V} (ha : EvV ta l H (.ref a)) (h : H a = some (.lst xs)) (hx : Dts H ds xs) (hb : Ev tb l H (.int i)) (hd : atI ds i = some d) : Ev (tOp (rIxL K) ta tb) l H d := fun H1 e Q q =>
  ha H1 e _ fun H2 e2 => hb H2 (e.trans e2) _ fun w H3 e3 h3 => by
    have e03 := (e.trans e2).trans e3
    have hd : (ixN ds.length i).bind (fun j => ds[j]?) = some d := hd
    cases hj : ixN ds.length i with
    | none => rw [hj] at hd; cases hd
    | some j =>
      rw [hj] at hd
      obtain ⟨z, hz1, hz2⟩ := (hx.to e03).get (i := j) hd
      refine ⟨a, xs, i, z, rfl, h3, SqL.of (e03 _ _ h), ?_, q z H3 (e2.trans e3) hz2⟩
      show (ixN xs.length i).bind (fun j => xs[j]?) = some z
      rw [hx.len, hj]
      exact hz1
theorem ev_lenL {a : Addr} {xs : List V} (ha : EvV ta l H (.ref a)) (h : H a = some (.lst xs)) : Ev (tCB (rLenQ K) (tCons ta tNil)) l H (.int (xs.length : Nat)) := fun H1 e Q q =>
  ha H1 e _ fun H2 e2 => ⟨a, xs, rfl, .inl (SqL.of ((e.trans e2) _ _ h)), q _ H2 e2 rfl⟩
theorem ev_tuLs {a : Addr} {xs : List V} (ha : EvV ta l H (.ref a)) (h : H a = some (.lst xs)) (hx : Dts H ds xs) : Ev (tCB (rTupQ K) (tCons ta tNil)) l H (.tuple ds) := fun H1 e Q q =>
  ha H1 e _ fun H2 e2 => ⟨a, xs, rfl, .inl ⟨SqL.of ((e.trans e2) _ _ h), fun z hz => q _ _ (e2.trans (same_new hz)) ⟨z, xs, rfl, .inl upd_same, (hx.to (e.trans e2)).to (same_new hz)⟩⟩⟩
/-! dicts that stand, keys in data -/
def keyD : PyData → Option Key
  | .int i => some (.inl i)
  | .str x => some (.inr x)
  | _ => none
theorem keyD_of {v : V} {k : Key} (h : Dt H d v) (hk : keyD d = some k) : v = kV k := by
  cases d with
  | int i =>
    cases hk
    exact h
  | str x =>
    cases hk
    exact h
  | _ => cases hk
theorem ev_inK {a : Addr} {kvs : List (Key × V)} {k : Key} (ha : Ev ta l H d) (hk : keyD d = some k) (hb : EvV tb l H (.ref a)) (h : Rd H a (.dK kvs)) : Ev (tDInN ta tb) l H (.bool (valV kvs k).isSome) := fun H1 e Q q =>
  ha H1 e _ fun v H2 e2 h2 => hb H2 (e.trans e2) _ fun H3 e3 => .inl ⟨a, valV kvs k, rfl, .inl ⟨kvs, k, rd_to ((e.trans e2).trans e3) h, keyD_of h2 hk, rfl⟩, q _ H3 (e2.trans e3) rfl⟩
theorem ev_ninK {a : Addr} {kvs : List (Key × V)} {k : Key} (ha : Ev ta l H d) (hk : keyD d = some k) (hb : EvV tb l H (.ref a)) (h : Rd H a (.dK kvs)) : Ev (tDNotInN ta tb) l H (.bool (!(valV kvs k).isSome)) := fun H1 e Q q =>
  ha H1 e _ fun v H2 e2 h2 => hb H2 (e.trans e2) _ fun H3 e3 => .inl ⟨a, valV kvs k, rfl, .inl ⟨kvs, k, rd_to ((e.trans e2).trans e3) h, keyD_of h2 hk, rfl⟩, q _ H3 (e2.trans e3) rfl⟩
theorem ev_getK {a : Addr} {kvs : List (Key × V)} {k : Key} {v : V} (ha : EvV ta l H (.ref a)) (hb : Ev tb l H d) (hk : keyD d = some k) (h : Rd H a (.dK kvs)) (hv : valV kvs k = some v) (hd : Dt H d1 v) : Ev (tDGet ta tb) l H d1 := fun H1 e Q q =>
  ha H1 e _ fun H2 e2 => hb H2 (e.trans e2) _ fun w H3 e3 h3 => ⟨a, v, rfl, .inl ⟨kvs, k, rd_to ((e.trans e2).trans e3) h, keyD_of h3 hk, hv.symm⟩, q v H3 (e2.trans e3) (hd.to ((e.trans e2).trans e3))⟩
/-! texts -/
theorem ev_leS {x y : Str} {r : R2} (hr : r = fun x y H Q => ∃ i j : Str, x = V.str i ∧ y = V.str j ∧ Q (.bl (!decide (j.cps.toList < i.cps.toList))) H) (ha : Ev ta l H (.str x)) (hb : Ev tb l H (.str y)) : Ev (tOp r ta tb) l H (.bool (!decide (y.cps.toList < x.cps.toList))) := fun H1 e Q q =>
  ha H1 e _ fun v H2 e2 h2 => hb H2 (e.trans e2) _ fun w H3 e3 h3 => by
    subst hr
    exact ⟨x, y, h2, h3, q _ H3 (e2.trans e3) rfl⟩
theorem ev_addS {x y : Str} {r : R2} (hr : r = fun x y H Q => ∃ i j : Str, x = V.str i ∧ y = V.str j ∧ i.length + j.length ≤ sizeLine ∧ Q (.str (i ++ j)) H) (ha : Ev ta l H (.str x)) (hb : Ev tb l H (.str y)) (hz : x.length + y.length ≤ 1000000) : Ev (tOp r ta tb) l H (.str (x ++ y)) := fun H1 e Q q =>
  ha H1 e _ fun v H2 e2 h2 => hb H2 (e.trans e2) _ fun w H3 e3 h3 => by
    subst hr
    exact ⟨x, y, h2, h3, sz_of hz, q _ H3 (e2.trans e3) rfl⟩
theorem ev_ord {r : List V → Hp → VK → Prop} {ch : Nat} (hr : r = fun xs H Q => ∃ x : Str, xs = [V.str x] ∧ x.length = 1 ∧ Q (.int (x.cps.getD 0 0 : Nat)) H) (ha : Ev ta l H (sg ch)) : Ev (tCB r (tCons ta tNil)) l H (.int (ch : Nat)) := fun H1 e Q q =>
  ha H1 e _ fun v H2 e2 h2 => by
    subst hr
    exact ⟨⟨#[ch]⟩, by rw [show v = .str ⟨#[ch]⟩ from h2], rfl, q _ H2 e2 rfl⟩
end
end Sp
set_option Elab.async false
set_option linter.all false
set_option maxRecDepth 100000
set_option maxHeartbeats 4000000
namespace Sp
open PySem PySem.Spec PyProof.Rows L2
theorem Loc.wk {H : Hp} : ∀ {G : List (Option PyData)} {l : L2.St} (i : Nat), Loc H G l → Loc H (G.set i none) l
  | [], _, _, _ => trivial
  | none :: _, _, 0, h => h
  | some d0 :: _, _, 0, ⟨v, l', e, _, h⟩ => ⟨some v, l', e, h⟩
  | none :: _, _, i + 1, ⟨s, l', e, h⟩ => ⟨s, l', e, Loc.wk i h⟩
  | some d0 :: _, _, i + 1, ⟨v, l', e, h1, h⟩ => ⟨v, l', e, h1, Loc.wk i h⟩
/-! lists -/
theorem get_mid {α : Type} {A B C : List α} {j : Nat} {x : α} (h : B[j]? = some x) : (A ++ B ++ C)[A.length + j]? = some x := by
  have hj : j < B.length := (List.getElem?_eq_some_iff.mp h).1
  rw [List.append_assoc, List.getElem?_append_right (by omega), List.getElem?_append_left (by omega)]
  rw [show A.length + j - A.length = j by omega]
  exact h
theorem take_fold {α β : Type} {f : β → α → β} {l : List α} {i : Nat} {x : α} {z : β} (h : l[i]? = some x) : (l.take (i + 1)).foldl f z = f ((l.take i).foldl f z) x := by
  rw [List.take_add_one, h, List.foldl_append]
  rfl
theorem take_flat {α β : Type} {f : α → List β} {l : List α} {i : Nat} {x : α} (h : l[i]? = some x) : ((l.take (i + 1)).map f).flatten = ((l.take i).map f).flatten ++ f x := by
  rw [List.take_add_one, h, List.map_append, List.flatten_append]
  simp
theorem take_map {α β : Type} {f : α → β} {l : List α} {i : Nat} {x : α} (h : l[i]? = some x) : (l.take (i + 1)).map f = (l.take i).map f ++ [f x] := by
  rw [List.take_add_one, h, List.map_append]
  rfl
theorem flat_split {α β : Type} (f : α → List β) {l : List α} {i : Nat} {x : α} (h : l[i]? = some x) : (l.map f).flatten = ((l.take i).map f).flatten ++ (f x ++ ((l.drop (i + 1)).map f).flatten) := by
  have hi : i < l.length := (List.getElem?_eq_some_iff.mp h).1
  have e : l = l.take i ++ (x :: l.drop (i + 1)) := by
    have hx : l[i] = x := (List.getElem?_eq_some_iff.mp h).2
    rw [← hx, ← List.drop_eq_getElem_cons hi, List.take_append_drop]
  conv => lhs; rw [e]
  rw [List.map_append, List.flatten_append, List.map_cons, List.flatten_cons]
theorem sIx_k (n d k : Nat) : HT.sIx n d (some (k : Int)) = min k n := HT.sIx_nat n d k
/-- a slice in the middle -/
theorem cut_mid (A B C : List PyData) {lo hi : Int} (h1 : lo = (A.length : Nat)) (h2 : hi = ((A.length + B.length : Nat) : Int)) : cutD (A ++ B ++ C) (some lo) (some hi) = B := by
  subst h1 h2
  unfold cutD
  rw [sIx_k, sIx_k]
  have e1 : min A.length (A ++ B ++ C).length = A.length := by simp only [List.length_append]; omega
  have e2 : min (A.length + B.length) (A ++ B ++ C).length = A.length + B.length := by simp only [List.length_append]; omega
  rw [e1, e2, List.append_assoc, List.drop_left, show A.length + B.length - A.length = B.length by omega, List.take_left]
theorem cut_head (A C : List PyData) {hi : Int} (h2 : hi = ((A.length : Nat) : Int)) : cutD (A ++ C) none (some hi) = A := by
  subst h2
  unfold cutD
  rw [sIx_k, HT.sIx_none]
  have e2 : min A.length (A ++ C).length = A.length := by simp only [List.length_append]; omega
  rw [e2, List.drop_zero, Nat.sub_zero, List.take_left]
/-! shapes -/
theorem canLay_all : ∀ {ds : List PyData}, (∀ d ∈ ds, d.canLay0 = true) → PyData.canLayAll0 ds = true
  | [], _ => rfl
  | d :: ds, h => by
    show (d.canLay0 && PyData.canLayAll0 ds) = true
    rw [h d List.mem_cons_self, canLay_all fun x hx => h x (List.mem_cons_of_mem _ hx)]
    rfl
theorem depth_all {n : Nat} : ∀ {ds : List PyData}, (∀ d ∈ ds, d.depth ≤ n) → PyData.depthAll ds ≤ n
  | [], _ => Nat.zero_le _
  | d :: ds, h => by
    show max d.depth (PyData.depthAll ds) ≤ n
    have h1 := h d List.mem_cons_self
    have h2 := depth_all fun x hx => h x (List.mem_cons_of_mem _ hx)
    omega
/-- may be laid, at most n deep -/
def Sd (n : Nat) (d : PyData) : Prop := d.canLay0 = true ∧ d.depth ≤ n
theorem Sd.tup {n : Nat} {ds : List PyData} (h : ∀ d ∈ ds, Sd n d) : Sd (n + 1) (.tuple ds) := ⟨canLay_all fun d hd => (h d hd).1, Nat.succ_le_succ (depth_all fun d hd => (h d hd).2)⟩
theorem Sd.lst {n : Nat} {ds : List PyData} (h : ∀ d ∈ ds, Sd n d) : Sd (n + 1) (.list ds) := ⟨canLay_all fun d hd => (h d hd).1, Nat.succ_le_succ (depth_all fun d hd => (h d hd).2)⟩
theorem Sd.int (n : Nat) (i : Int) : Sd n (.int i) := ⟨rfl, Nat.zero_le _⟩
theorem Sd.non (n : Nat) : Sd n .none := ⟨rfl, Nat.zero_le _⟩
theorem Sd.str {n : Nat} {x : Str} (h : PyData.strOk x = true) : Sd n (.str x) := ⟨h, Nat.zero_le _⟩
theorem Sd.mono {n m : Nat} {d : PyData} (h : Sd n d) (k : n ≤ m) : Sd m d := ⟨h.1, Nat.le_trans h.2 k⟩
theorem Sd.shaped {n : Nat} {d : PyData} (h : Sd n d) (k : n ≤ 64 := by decide) : SeqAt.shaped d = true := by
  unfold SeqAt.shaped
  rw [h.1, decide_eq_true (Nat.le_trans h.2 k)]
  rfl
theorem Sd.refl {n : Nat} {d : PyData} (h : Sd n d) : PyData.eqv d d = true := SeqAt.eqv_refl d h.1
theorem Sd.oct (o : Oct) : Sd 1 (octD o) := Sd.tup fun d hd => by
  obtain ⟨x, _, rfl⟩ := List.mem_map.mp hd
  exact Sd.int 0 x
end Sp
set_option Elab.async false
set_option linter.all false
set_option maxRecDepth 100000
set_option maxHeartbeats 4000000
namespace Sp
open PySem PySem.Spec PyProof.Rows L2
/-! ### kinds -/
theorem kt_ii : kitB "int" "int" = some true := by decide +kernel
theorem kt_ib : kitB "int" "bool" = some false := by decide +kernel
theorem kt_is : kitB "int" "str" = some false := by decide +kernel
theorem kt_ss : kitB "str" "str" = some true := by decide +kernel
theorem kt_ns : kitB "NoneType" "str" = some false := by decide +kernel
theorem kt_tl : kitB "tuple" "list" = some false := by decide +kernel
theorem kt_tt : kitB "tuple" "tuple" = some true := by decide +kernel
theorem sc_is_integer : FnScope ["value"] ["value"] (defScope s_is_integer) := ⟨rfl, rfl, rfl, by decide +kernel, rfl, by decide +kernel, by decide +kernel⟩
theorem d_is_integer {c : Cn} (T : Tx c) : Df c "is_integer" 1 ["value"] (spF (fun (n : Int) => [.int n]) (fun _ => True) (fun _ => .bool true)) :=
  T.df 0 0 rfl rfl sc_is_integer (fun _ _ _ _ _ _ us hl => match us, hl with | [_], _ => rfl) (ln_F fun _ => rfl) fun f cdv A outer s H vs Q E hr h => by
    refine ⟨_, (pss_one (ps_ret (pe_and (pe_callB call_isi (by rfl) T.n_isinstance (by decide +kernel) (pa_cons (pv 0) (pa_cons (pe_bltn (v := .ty "int") (by rfl) T.n_int (by decide +kernel) rfl) pa_nil))) (pe_one (pe_not (pe_callB call_isi (by rfl) T.n_isinstance (by decide +kernel) (pa_cons (pv 0) (pa_cons (pe_bltn (v := .ty "bool") (by rfl) T.n_bool (by decide +kernel) rfl) pa_nil)))))))), ?_⟩
    obtain ⟨n, hv, _, k⟩ := h
    have L := Loc.start (N := ["value"]) hv
    exact s_ret (d := .bool true) ((ev_and (b := true) (c := true) (ev_isi (d := .int n) (ev_v L rfl) kt_ii) fun _ => (ev_not (b := false) (ev_isi (d := .int n) (ev_v L rfl) kt_ib))).is rfl) fun v H1 e hd => k v H1 e hd
theorem sc_is_below : FnScope ["value", "bound"] ["value", "bound"] (defScope s_is_below) := ⟨rfl, rfl, rfl, by decide +kernel, rfl, by decide +kernel, by decide +kernel⟩
theorem d_is_below {c : Cn} (T : Tx c) : Df c "is_below" 2 ["value", "bound"] (spF (fun (p : Int × Int) => [.int p.1, .int p.2]) (fun _ => True) (fun p => .bool (decide (0 ≤ p.1) && decide (p.1 < p.2)))) :=
  T.df 1 1 rfl rfl sc_is_below (fun _ _ _ _ _ _ us hl => match us, hl with | [_, _], _ => rfl) (ln_F fun _ => rfl) fun f cdv A outer s H vs Q E hr h => by
    refine ⟨_, (pss_one (ps_ret (pe_and (pe_d (d_is_integer T) (hr.mono (by decide)) (pa_cons (pv 0) pa_nil)) (pe_one (pe_chain op_le op_lt pe_int (pv 0) (pv 1)))))), ?_⟩
    obtain ⟨⟨n, m⟩, hv, _, k⟩ := h
    dsimp only at hv k
    have L := Loc.start (N := ["value", "bound"]) hv
    exact s_ret (d := .bool (decide (0 ≤ n) && decide (n < m))) ((ev_and (b := true) (ev_F (n : Int) (ea_1 (ev_v L rfl)) trivial) fun _ => ev_ch ev_int (ev_v L rfl) (ev_v L rfl)).is rfl) fun v H1 e hd => k v H1 e hd
def Val.isS : Val → Bool
  | .str _ => true
  | _ => false
theorem sc_is_text : FnScope ["value"] ["value"] (defScope s_is_text) := ⟨rfl, rfl, rfl, by decide +kernel, rfl, by decide +kernel, by decide +kernel⟩
theorem d_is_text {c : Cn} (T : Tx c) : Df c "is_text" 1 ["value"] (spF (fun (x : Val) => [x.d]) (fun _ => True) (fun x => .bool x.isS)) :=
  T.df 2 2 rfl rfl sc_is_text (fun _ _ _ _ _ _ us hl => match us, hl with | [_], _ => rfl) (ln_F fun _ => rfl) fun f cdv A outer s H vs Q E hr h => by
    refine ⟨_, (pss_one (ps_ret (pe_callB call_isi (by rfl) T.n_isinstance (by decide +kernel) (pa_cons (pv 0) (pa_cons (pe_bltn (v := .ty "str") (by rfl) T.n_str (by decide +kernel) rfl) pa_nil))))), ?_⟩
    obtain ⟨x, hv, _, k⟩ := h
    have L := Loc.start (N := ["value"]) hv
    have hk : kitB (tyN x.d) "str" = some x.isS := match x with
      | .non => kt_ns
      | .int _ => kt_is
      | .str _ => kt_ss
    exact s_ret (d := .bool x.isS) (ev_isi (ev_v L rfl) hk) fun v H1 e hd => k v H1 e hd
theorem sc_is_sequence : FnScope ["value"] ["value"] (defScope s_is_sequence) := ⟨rfl, rfl, rfl, by decide +kernel, rfl, by decide +kernel, by decide +kernel⟩
theorem d_is_sequence {c : Cn} (T : Tx c) : Df c "is_sequence" 1 ["value"] (spF (fun (ds : List PyData) => [.tuple ds]) (fun _ => True) (fun _ => .bool true)) :=
  T.df 3 3 rfl rfl sc_is_sequence (fun _ _ _ _ _ _ us hl => match us, hl with | [_], _ => rfl) (ln_F fun _ => rfl) fun f cdv A outer s H vs Q E hr h => by
    refine ⟨_, (pss_one (ps_ret (pe_callB call_isiT (by rfl) T.n_isinstance (by decide +kernel) (pa_cons (pv 0) (pa_cons (pe_tup (pa_cons (pe_bltn (v := .ty "list") (by rfl) T.n_list (by decide +kernel) rfl) (pa_cons (pe_bltn (v := .ty "tuple") (by rfl) T.n_tuple (by decide +kernel) rfl) pa_nil))) pa_nil))))), ?_⟩
    obtain ⟨ds, hv, _, k⟩ := h
    have L := Loc.start (N := ["value"]) hv
    exact s_ret (d := .bool true) (ev_isiT (ev_v L rfl) fun K => kitAny_cons (b := false) (kit_ty kt_tl) (fun _ => kitAny_cons (b := true) (kit_ty kt_tt) (fun z => nomatch z) fun _ => rfl) (fun z => nomatch z)) fun v H1 e hd => k v H1 e hd
theorem sc_is_tuple_of : FnScope ["value", "size"] ["value", "size"] (defScope s_is_tuple_of) := ⟨rfl, rfl, rfl, by decide +kernel, rfl, by decide +kernel, by decide +kernel⟩
theorem d_is_tuple_of {c : Cn} (T : Tx c) : Df c "is_tuple_of" 1 ["value", "size"] (spF (fun (p : List PyData × Int) => [.tuple p.1, .int p.2]) (fun _ => True) (fun p => .bool (decide ((p.1.length : Int) = p.2)))) :=
  T.df 4 4 rfl rfl sc_is_tuple_of (fun _ _ _ _ _ _ us hl => match us, hl with | [_, _], _ => rfl) (ln_F fun _ => rfl) fun f cdv A outer s H vs Q E hr h => by
    refine ⟨_, (pss_one (ps_ret (pe_and (pe_callB call_isi (by rfl) T.n_isinstance (by decide +kernel) (pa_cons (pv 0) (pa_cons (pe_bltn (v := .ty "tuple") (by rfl) T.n_tuple (by decide +kernel) rfl) pa_nil))) (pe_one (pe_cmpR op_eq (pe_callB call_len_seq (by rfl) T.n_len (by decide +kernel) (pa_cons (pv 0) pa_nil)) (pv 1) (nomark _)))))), ?_⟩
    obtain ⟨⟨ds, n⟩, hv, _, k⟩ := h
    dsimp only at hv k
    have L := Loc.start (N := ["value", "size"]) hv
    exact s_ret (d := .bool (decide ((ds.length : Int) = n))) ((ev_and (b := true) (ev_isi (d := .tuple ds) (ev_v L rfl) kt_tt) fun _ => ev_eqI (ev_len (ev_v L rfl)) (ev_v L rfl)).is rfl) fun v H1 e hd => k v H1 e hd
/-! ### numbers -/
theorem sc_octet_at : FnScope ["octets", "at"] ["octets", "at"] (defScope s_octet_at) := ⟨rfl, rfl, rfl, by decide +kernel, rfl, by decide +kernel, by decide +kernel⟩
theorem d_octet_at {c : Cn} (T : Tx c) : Df c "octet_at" 1 ["octets", "at"] (spF (fun (p : Oct × Nat × Int) => [octD p.1, .int (p.2.1 : Int)]) (fun p => p.1[p.2.1]? = some p.2.2) (fun p => .int p.2.2)) :=
  T.df 6 6 rfl rfl sc_octet_at (fun _ _ _ _ _ _ us hl => match us, hl with | [_, _], _ => rfl) (ln_F fun _ => rfl) fun f cdv A outer s H vs Q E hr h => by
    refine ⟨_, (pss_one (ps_ret (pe_ifExp (pt_cmpR op_lt (pv 1) (pe_callB call_len_seq (by rfl) T.n_len (by decide +kernel) (pa_cons (pv 0) pa_nil)) (nomark _)) (pe_ix ix_tup (pv 0) (pv 1) (fun _ _ => rfl)) pe_non))), ?_⟩
    obtain ⟨⟨o, i, x⟩, hv, hp, k⟩ := h
    dsimp only at hv hp k
    have L := Loc.start (N := ["octets", "at"]) hv
    have hi : i < o.length := (List.getElem?_eq_some_iff.mp hp).1
    refine s_ret (d := .int x) (ev_if (b := true) (et_of ((ev_B0 (ev_v L rfl) (ev_len (ev_v L rfl))).is (by rw [List.length_map, decide_eq_true (by omega)]))) (fun _ => ev_ix (ev_v L rfl) (ev_v L rfl) (atI_nat (octD_get hp))) (fun z => nomatch z)) fun v H1 e hd => k v H1 e hd
theorem sc_put_number : FnScope ["number", "found"] ["number"] (defScope s_put_number) := ⟨rfl, rfl, rfl, by decide +kernel, rfl, by decide +kernel, by decide +kernel⟩
theorem d_put_number {c : Cn} (T : Tx c) : Df c "put_number" 1 ["number"] (spF (fun (n : Nat) => [.int (n : Int)]) (fun n => n < 9223372036854775808) (fun n => octD (encNum n))) :=
  T.df 7 7 rfl rfl sc_put_number (fun _ _ _ _ _ _ us hl => match us, hl with | [_], _ => rfl) (ln_F fun _ => rfl) fun f cdv A outer s H vs Q E hr h => by
    refine ⟨_, (pss_cons (ps_set (i := 1) sc_put_number.nd rfl (by first | exact Or.inl rfl | exact Or.inr rfl) (pe_lst pa_nil))
    (pss_cons (ps_while PassesOwn.never (pt_cmpR op_gt (pv 0) pe_int (nomark _)) (pss_cons (ps_expr (pe_bm PySem.F.plainAttrs_list PySem.F.slot_list_append PySem.F.type_list_append mt_append (pv 1) (pa_cons (pe_op op_add pe_int (pe_op op_and (pv 0) pe_int)) pa_nil)))
    (pss_one (ps_aug (i := 0) sc_put_number.nd rfl (by first | exact Or.inl rfl | exact Or.inr rfl) pe_int ip_shr))))
    (pss_one (ps_ret (pe_callTy call_tuple_of (by rfl) T.n_tuple (by decide +kernel) (pa_cons (pe_op op_cat (pv 1) (pe_lst (pa_cons (pv 0) pa_nil))) pa_nil)))))), ?_⟩
    obtain ⟨n, hv, hn, k⟩ := h
    have L := Loc.start (N := ["number", "found"]) hv
    refine q_asgL (el_lst ea_nil (by show 0 ≤ 1000000; decide)) L fun p xs H1 hp e1 h1 hx L1 => ?_
    obtain rfl : xs = [] := hx
    refine q_while (fun m l' H' => ∃ (a : Nat) (acc : Oct), m = a ∧ encNum n = acc ++ encNum a ∧ Same H H' ∧ H' p = some (.lst (acc.map V.int)) ∧ Loc H' [some (.int (a : Int)), none] l' ∧ l'[1]? = some (some (.ref p))) n ⟨n, [], rfl, rfl, e1, h1, L1, ?_⟩ ?_
    · obtain ⟨v, vs, rfl, h0, rfl⟩ := hv
      rfl
    · rintro m l' H2 ⟨a, acc, rfl, he, s2, h2, L2, l2⟩
      refine ⟨decide (127 < (m : Int)), et_of (ev_B0 (ev_v L2 rfl) ev_int), fun hb H3 e3 => ?_, fun hb H3 e3 => ?_⟩
      · have hm : ¬ m < 128 := by have := of_decide_eq_true hb; omega
        have L3 := L2.to e3
        have e5 : Builtin.bitAnd (m : Int) 127 = (m : Int) % 128 := Bits.bitAnd_mask 7 (by omega)
        have hlen : acc.length ≤ 9 := by
          have := encNum_9 hn
          rw [he, List.length_append] at this
          omega
        refine q_app (e3 _ _ h2) l2 (d := .int (128 + (m : Int) % 128)) ((ev_I0 ev_int (ev_I0 (ev_v L3 rfl) ev_int)).is (by rw [e5])) (by rw [List.length_map]; omega) fun v H4 e4 hd => ?_
        obtain rfl : v = .int (128 + (m : Int) % 128) := hd
        have h4 := e4 _ _ (e3 _ _ h2)
        have k4 : Tk H4 (upd H4 p (.lst (acc.map V.int ++ [V.int (128 + (m : Int) % 128)]))) := tk_upd h4
        have L4 := (L3.to e4).tk k4
        refine s_augR (i := (m : Int)) (j := 7) L4 rfl ev_int (by decide) fun H5 e5' L5 => ?_
        have e7 : (m : Int) / 2 ^ (7 : Int).toNat = ((m / 128 : Nat) : Int) := by
          show (m : Int) / 128 = _
          omega
        rw [e7] at L5
        refine ⟨m / 128, by omega, m / 128, acc ++ [128 + (m : Int) % 128], rfl, ?_, ?_, ?_, L5, ?_⟩
        · rw [he, encNum_ge hm, List.append_assoc]
          rfl
        · exact fun b o hb' => e5' _ _ (by rw [upd_ne (ne_of_none hb' hp)]; exact e4 _ _ (e3 _ _ (s2 _ _ hb')))
        · refine e5' _ _ ?_
          rw [upd_same, List.map_append]
          rfl
        · rw [List.getElem?_set_ne (by decide)]
          exact l2
      · have hm : m < 128 := by have := of_decide_eq_false hb; omega
        have h3 := e3 _ _ h2
        have hz : acc.length ≤ 9 := by
          have := encNum_9 hn
          rw [he, List.length_append] at this
          omega
        refine s_ret (d := octD (encNum n)) ((ev_tuL (el_cat (ds := acc.map .int) (es := [.int (m : Int)]) (vv_at l2) h3 (Dts.ints acc) (el_lst (ea_1 (ev_v (L2.to e3) rfl)) (by show 1 ≤ 1000000; decide)) (by rw [List.length_map]; show acc.length + 1 ≤ 1000000; omega))).is ?_) fun v H4 e4 hd => k v H4 (s2.trans (e3.trans e4)) hd
        rw [he, encNum_lt hm]
        exact octD_app acc [(m : Int)]
/-- what is told by the first i octets of a number -/
theorem num_turn {n i : Nat} (hi : i < (encNum n).length) : (encNum n)[i]? = some (if n / 128 ^ i < 128 then ((n / 128 ^ i : Nat) : Int) else 128 + ((n / 128 ^ i % 128 : Nat) : Int)) ∧ ((n / 128 ^ i < 128) ↔ i + 1 = (encNum n).length) := by
  have hd := encNum_drop i n hi
  have h0 : (encNum n)[i]? = ((encNum n).drop i)[0]? := by rw [List.getElem?_drop]; rfl
  have hl : ((encNum n).drop i).length = (encNum n).length - i := List.length_drop
  rw [hd] at h0 hl
  by_cases h : n / 128 ^ i < 128
  · rw [encNum_lt h] at h0 hl
    simp only [List.length_cons, List.length_nil] at hl
    rw [h0, if_pos h]
    exact ⟨rfl, fun _ => by omega, fun _ => h⟩
  · rw [encNum_ge h] at h0 hl
    have := encNum_pos (n / 128 ^ i / 128)
    simp only [List.length_cons] at hl
    rw [h0, if_neg h]
    refine ⟨?_, fun z => absurd z h, fun z => by omega⟩
    show some (128 + ((n / 128 ^ i : Nat) : Int) % 128) = _
    congr 1
theorem dig_bd (q : Nat) {x : Int} (hx : (if q < 128 then (q : Int) else 128 + ((q % 128 : Nat) : Int)) = x) : (0 ≤ x ∧ x < 256) ∧ x % 128 = ((q % 128 : Nat) : Int) ∧ (x < 128 ↔ q < 128) ∧ (x = 0 → q = 0) := by
  rw [← hx]
  split <;> omega
theorem mod_step (n i : Nat) : n % 128 ^ (i + 1) = n % 128 ^ i + 128 ^ i * (n / 128 ^ i % 128) := by rw [Nat.pow_succ, Nat.mod_mul]
theorem sc_get_number : FnScope ["octets", "at", "total", "turn", "octet"] ["octets", "at"] (defScope s_get_number) := ⟨rfl, rfl, rfl, by decide +kernel, rfl, by decide +kernel, by decide +kernel⟩
theorem d_get_number {c : Cn} (T : Tx c) : Df c "get_number" 2 ["octets", "at"] (spF (fun (p : Oct × Nat × Oct) => [octD (p.1 ++ encNum p.2.1 ++ p.2.2), .int (p.1.length : Nat)]) (fun p => p.2.1 < 9223372036854775808) (fun p => .tuple [.int (p.2.1 : Int), .int ((p.1.length + (encNum p.2.1).length : Nat) : Int)])) :=
  T.df 8 8 rfl rfl sc_get_number (fun _ _ _ _ _ _ us hl => match us, hl with | [_, _], _ => rfl) (ln_F fun _ => rfl) fun f cdv A outer s H vs Q E hr h => by
    refine ⟨_, (pss_cons (ps_set (i := 2) sc_get_number.nd rfl (by first | exact Or.inl rfl | exact Or.inr rfl) pe_int)
    (pss_cons (ps_for PassesOwn.never rfl (pi_range1 (by rfl) T.n_range (pa_cons (pe_k T.k_MOST_OCTETS) pa_nil)) (pg_name (i := 3) sc_get_number.nd rfl (by first | exact Or.inl rfl | exact Or.inr rfl)) (pss_cons (ps_set (i := 4) sc_get_number.nd rfl (by first | exact Or.inl rfl | exact Or.inr rfl) (pe_d (d_octet_at T) (hr.mono (by decide)) (pa_cons (pv 0) (pa_cons (pe_op op_add (pv 1) (pv 3)) pa_nil))))
    (pss_cons (ps_if (PW.pt (pw_or (pt_cmpR op_isN (pv 4) pe_non (nomark _)) (pw_or1 (PW.pt (pw_and (pt_cmpR op_eq (pv 4) pe_int (nomark _)) (pw_and1 (pt_cmpR op_gt (pv 3) pe_int (nomark _)))))))) (pss_one ps_never) pss_nil)
    (pss_cons (ps_aug (i := 2) sc_get_number.nd rfl (by first | exact Or.inl rfl | exact Or.inr rfl) (pe_op op_shl (pe_op op_and (pv 4) pe_int) (pe_op op_mul pe_int (pv 3))) ip_add)
    (pss_one (ps_if (pt_cmpR op_lt (pv 4) pe_int (nomark _)) (pss_one (ps_ret (pe_tup (pa_cons (pv 2) (pa_cons (pe_op op_add (pe_op op_add (pv 1) (pv 3)) pe_int) pa_nil))))) pss_nil))))))
    (pss_one ps_never))), ?_⟩
    obtain ⟨⟨A, n, B⟩, hv, hn, k⟩ := h
    dsimp only at hv hn k
    have L := Loc.start (N := ["octets", "at", "total", "turn", "octet"]) hv
    have h9 := encNum_9 hn
    refine q_asg (d := .int 0) ev_int L fun v1 H1 e1 _ L1 => ?_
    refine q_forR (k := 9) (ev_int (i := 9)) (by decide) (fun i l' H' => i < (encNum n).length ∧ Same H H' ∧ Loc H' [some (octD (A ++ encNum n ++ B)), some (.int (A.length : Nat)), some (.int ((n % 128 ^ i : Nat) : Int)), none, none] l') (fun H2 e2 => ⟨encNum_pos n, e1.trans e2, ?_⟩) ?_ ?_
    · have e0 : n % 128 ^ 0 = 0 := by simp [Nat.mod_one]
      rw [e0]
      exact L1.to e2
    · rintro i l' H2 h9i ⟨hi, s2, L2⟩
      have L3 := L2.set (d := .int (i : Nat)) (v := .int (i : Nat)) rfl 3
      obtain ⟨ht, hlast⟩ := num_turn hi
      have hget := get_mid (A := A) (B := encNum n) (C := B) ht
      generalize hx : (if n / 128 ^ i < 128 then ((n / 128 ^ i : Nat) : Int) else 128 + ((n / 128 ^ i % 128 : Nat) : Int)) = x at hget
      refine q_asg (d := .int x) (ev_F (A ++ encNum n ++ B, A.length + i, x) (ea_2 (ev_v L3 rfl) ((ev_I0 (ev_v L3 rfl) (ev_v L3 rfl)).is (by rw [Int.natCast_add]))) hget) L3 fun v4 H4 e4 _ L4 => ?_
      -- the number does not break off
      have hz : (decide (x = 0) && decide (0 < (i : Int))) = false := by
        by_cases h0 : i = 0
        · subst h0
          simp
        · have hne : x ≠ 0 := by
            · intro q
              have q : n / 128 ^ i = 0 := (dig_bd _ hx).2.2.2 q
              obtain ⟨j, rfl⟩ : ∃ j, i = j + 1 := ⟨i - 1, by omega⟩
              have hp := (num_turn (n := n) (i := j) (by omega)).2
              have hq : n / 128 ^ j / 128 = 0 := by rw [Nat.div_div_eq_div_mul, ← Nat.pow_succ]; exact q
              have : n / 128 ^ j < 128 := by omega
              have := hp.mp this
              omega
          rw [decide_eq_false hne]
          rfl
      refine q_skip (et_or (b := false) (et_of (ev_isN rfl (ev_v (d := .int x) L4 rfl))) fun _ => ((et_and (b := decide (x = 0)) (c := decide (0 < (i : Int))) (et_of (ev_eqI (ev_v L4 rfl) ev_int)) fun _ => et_of (ev_B0 (ev_v L4 rfl) ev_int)).is hz)) fun H5 e5 => ?_
      have L5 := L4.to e5
      have hx0 : 0 ≤ x ∧ x < 256 := (dig_bd _ hx).1
      have e6 : Builtin.bitAnd x 127 = x % 128 := Bits.bitAnd_mask 7 hx0.1
      have em : x % 128 = ((n / 128 ^ i % 128 : Nat) : Int) := (dig_bd _ hx).2.1
      refine q_augI (i := ((n % 128 ^ i : Nat) : Int)) (j := x % 128 * 2 ^ ((7 * i : Nat) : Int).toNat) L5 rfl ((ev_I (ev_I0 (ev_v L5 rfl) ev_int) (ev_I (C := CMul) ev_int (ev_v L5 rfl) (.inl ⟨by decide, by decide⟩)) ⟨by omega, by omega, by rw [e6]; omega⟩).is (by rw [e6, Int.natCast_mul]; rfl)) fun H6 e6' L6 => ?_
      have e7 : ((n % 128 ^ i : Nat) : Int) + x % 128 * 2 ^ ((7 * i : Nat) : Int).toNat = ((n % 128 ^ (i + 1) : Nat) : Int) := by
        have ep : (2 : Int) ^ ((7 * i : Nat) : Int).toNat = ((128 ^ i : Nat) : Int) := by
          rw [Int.toNat_natCast, Int.pow_mul, Int.natCast_pow]
          rfl
        rw [mod_step, em, ep, Int.natCast_add, Int.natCast_mul, Int.mul_comm]
      rw [e7] at L6 ⊢
      have s6 : Same H H6 := ((s2.trans e4).trans e5).trans e6'
      refine s_if (b := decide (x < 128)) (et_of (ev_B0 (ev_v L6 rfl) ev_int)) (fun hb H7 e7' => ?_) (fun hb H7 e7' => ⟨?_, s6.trans e7', ?_⟩)
      · have hlt : n / 128 ^ i < 128 := (dig_bd _ hx).2.2.1.mp (of_decide_eq_true hb)
        have hl := hlast.mp hlt
        have en : n % 128 ^ (i + 1) = n := Nat.mod_eq_of_lt (by
          rw [Nat.pow_succ]
          exact (Nat.div_lt_iff_lt_mul (Nat.pow_pos (by decide))).mp hlt |> fun z => by rw [Nat.mul_comm] at z; omega)
        rw [en] at L6 ⊢
        have L7 := L6.to e7'
        refine s_ret (d := .tuple [.int (n : Int), .int ((A.length + (encNum n).length : Nat) : Int)]) (ev_tup (ea_2 (ev_v L7 rfl) ((ev_I0 (i := (A.length : Nat) + (i : Int)) (ev_I0 (ev_v L7 rfl) (ev_v L7 rfl)) ev_int).is (congrArg PyData.int (show ((A.length : Nat) : Int) + (i : Int) + 1 = ((A.length + (encNum n).length : Nat) : Int) by omega)))) (by show 2 ≤ 1000000; decide)) fun v H8 e8 hd => k v H8 ((s6.trans e7').trans e8) hd
      · have hb := of_decide_eq_false hb
        have : ¬ n / 128 ^ i < 128 := mt (dig_bd _ hx).2.2.1.mpr hb
        have := mt hlast.mpr this
        omega
      · have L7 := ((L6.to e7').wk 3).wk 4
        exact L7
    · rintro l' H2 ⟨hi, _⟩
      omega
end Sp
set_option Elab.async false
set_option linter.all false
set_option maxRecDepth 100000
set_option maxHeartbeats 4000000
namespace Sp
open PySem PySem.Spec PyProof.Rows L2
def IntOk (i : Int) : Prop := -1000000000000000000 ≤ i ∧ i ≤ 1000000000000000000
theorem zig_lt {i : Int} (h : IntOk i) : zig i < 9223372036854775808 := by
  unfold zig IntOk at *
  split <;> omega
theorem sc_put_integer : FnScope ["integer"] ["integer"] (defScope s_put_integer) := ⟨rfl, rfl, rfl, by decide +kernel, rfl, by decide +kernel, by decide +kernel⟩
theorem d_put_integer {c : Cn} (T : Tx c) : Df c "put_integer" 2 ["integer"] (spF (fun (i : Int) => [.int i]) (fun i => IntOk i) (fun i => octD (encNum (zig i)))) :=
  T.df 9 9 rfl rfl sc_put_integer (fun _ _ _ _ _ _ us hl => match us, hl with | [_], _ => rfl) (ln_F fun _ => rfl) fun f cdv A outer s H vs Q E hr h => by
    refine ⟨_, (pss_one (ps_ret (pe_d (d_put_number T) (hr.mono (by decide)) (pa_cons (pe_ifExp (pt_cmpR op_ge (pv 0) pe_int (nomark _)) (pe_op op_mul pe_int (pv 0)) (pe_op op_sub (pe_op op_mul (pe_un un_neg pe_int) (pv 0)) pe_int)) pa_nil)))), ?_⟩
    obtain ⟨i, hv, hi, k⟩ := h
    have L := Loc.start (N := ["integer"]) hv
    have hi' : -1000000000000000000 ≤ i ∧ i ≤ 1000000000000000000 := hi
    refine s_ret (d := octD (encNum (zig i))) (ev_F (zig i) (ea_1 (ev_if (b := decide (0 ≤ i)) (et_of (ev_B0 (ev_v L rfl) ev_int)) (fun hb => (ev_I (C := CMul) (i := 2) (j := i) ev_int (ev_v L rfl) (.inl ⟨by decide, by decide⟩)).is ?_) (fun hb => (ev_I0 (i := -2 * i) (j := 1) (ev_I (C := CMul) (i := -2) (j := i) (ev_U ev_int) (ev_v L rfl) (.inl ⟨by decide, by decide⟩)) ev_int).is ?_))) (zig_lt hi)) fun v H1 e hd => k v H1 e hd
    · have hb := of_decide_eq_true hb
      unfold zig
      rw [if_pos hb]
      congr 1
      omega
    · have hb := of_decide_eq_false hb
      unfold zig
      rw [if_neg hb]
      congr 1
      omega
theorem sc_get_integer : FnScope ["octets", "at", "number", "end"] ["octets", "at"] (defScope s_get_integer) := ⟨rfl, rfl, rfl, by decide +kernel, rfl, by decide +kernel, by decide +kernel⟩
theorem d_get_integer {c : Cn} (T : Tx c) : Df c "get_integer" 3 ["octets", "at"] (spF (fun (p : Oct × Int × Oct) => [octD (p.1 ++ encNum (zig p.2.1) ++ p.2.2), .int (p.1.length : Nat)]) (fun p => IntOk p.2.1) (fun p => .tuple [.int p.2.1, .int ((p.1.length + (encNum (zig p.2.1)).length : Nat) : Int)])) :=
  T.df 10 10 rfl rfl sc_get_integer (fun _ _ _ _ _ _ us hl => match us, hl with | [_, _], _ => rfl) (ln_F fun _ => rfl) fun f cdv A outer s H vs Q E hr h => by
    refine ⟨_, (pss_cons (ps_asg (pe_d (d_get_number T) (hr.mono (by decide)) (pa_cons (pv 0) (pa_cons (pv 1) pa_nil))) (pg_tup (by rfl) (pgs_cons (pg_name (i := 2) sc_get_integer.nd rfl (by first | exact Or.inl rfl | exact Or.inr rfl)) (pgs_cons (pg_name (i := 3) sc_get_integer.nd rfl (by first | exact Or.inl rfl | exact Or.inr rfl)) pgs_nil))))
    (pss_one (ps_ret (pe_tup (pa_cons (pe_ifExp (pt_cmpR op_eq (pe_op op_and (pv 2) pe_int) pe_int (nomark _)) (pe_op op_fdiv (pv 2) pe_int) (pe_op op_sub (pe_un un_neg (pe_op op_fdiv (pv 2) pe_int)) pe_int)) (pa_cons (pv 3) pa_nil)))))), ?_⟩
    obtain ⟨⟨A, i, B⟩, hv, hi, k⟩ := h
    dsimp only at hv hi k
    have L := Loc.start (N := ["octets", "at", "number", "end"]) hv
    refine q_un2 (ev_F (A, zig i, B) (ea_2 (ev_v L rfl) (ev_v L rfl)) (zig_lt hi)) L fun v w H1 e1 h1 h2 L1 => ?_
    have e5 : Builtin.bitAnd (zig i : Int) 1 = (zig i : Int) % 2 := Bits.bitAnd_mask 1 (by omega)
    refine s_ret (d := .tuple [.int i, .int ((A.length + (encNum (zig i)).length : Nat) : Int)]) (ev_tup (ea_2 (ev_if (b := decide ((zig i : Int) % 2 = 0)) (et_of ((ev_eqI (ev_I0 (ev_v L1 rfl) ev_int) ev_int).is (by rw [e5]))) (fun hb => (ev_I (C := CDiv) (i := (zig i : Int)) (j := 2) (ev_v L1 rfl) ev_int ⟨by decide, by decide⟩).is ?_) (fun hb => (ev_I0 (i := -((zig i : Int) / 2)) (j := 1) (ev_U (ev_I (C := CDiv) (i := (zig i : Int)) (j := 2) (ev_v L1 rfl) ev_int ⟨by decide, by decide⟩)) ev_int).is ?_)) (ev_v L1 rfl)) (by show 2 ≤ 1000000; decide)) fun v H2 e2 hd => k v H2 (e1.trans e2) hd
    · have hb := of_decide_eq_true hb
      congr 1
      unfold zig at hb ⊢
      split at hb <;> split <;> omega
    · have hb := of_decide_eq_false hb
      congr 1
      unfold zig at hb ⊢
      split at hb <;> split <;> omega
/-! ### signs -/
/-- a dict of signs by their codes -/
def SigK (kvs : List (Key × V)) (cs : List Nat) : Prop := ∀ ch : Nat, valV kvs (.inl (ch : Int)) = if ch ∈ cs then some (.str ⟨#[ch]⟩) else none
def spSig : Sp := fun vs H Q _ => ∃ z : Str, vs = [.str z] ∧ z.cps.size < 1000 ∧ ∀ p H' kvs, H p = none → Same H H' → H' p = some (.dK kvs) → SigK kvs z.cps.toList → Q (.ref p) H'
theorem sc_signs_by_octets : FnScope ["signs", "sign"] ["signs"] (defScope s_signs_by_octets) := ⟨rfl, rfl, rfl, by decide +kernel, rfl, by decide +kernel, by decide +kernel⟩
theorem d_signs_by_octets {c : Cn} (T : Tx c) : Df c "signs_by_octets" 1 ["signs"] (spSig ) :=
  T.df 11 11 rfl rfl sc_signs_by_octets (fun _ _ _ _ _ _ us hl => match us, hl with | [_], _ => rfl) (fun vs H Q E ⟨z, e, _⟩ => by rw [e] <;> rfl) fun f cdv A outer s H vs Q E hr h => by
    refine ⟨_, (pss_one (ps_ret (pe_dc (own := [("sign", 1)]) (g := gName 1) (by rfl) sc_signs_by_octets.nd (pi_str (pv 0)) (blkOk_by (own := [("sign", 1)]) (N := ["signs", "sign"]) (sc := defScope s_signs_by_octets) (by decide +kernel)) (fun _ _ _ _ _ => (pg_name (i := 1) sc_signs_by_octets.nd rfl (by first | exact Or.inl rfl | exact Or.inr rfl))) (fun _ _ _ _ _ => pts_nil) (fun _ _ _ _ _ => (pe_callB call_ord (by rfl) T.n_ord (by decide +kernel) (pa_cons (pv 1) pa_nil))) (fun _ _ _ _ _ => (pv 1))))), ?_⟩
    obtain ⟨z, rfl, hz, k⟩ := h
    refine ⟨_, rfl, z, rfl, fun p hp => ⟨fun i m H' => m = z.cps.size - i ∧ i ≤ z.cps.size ∧ Same H H' ∧ ∃ kvs, H' p = some (.dK kvs) ∧ kvs.length ≤ i ∧ SigK kvs (z.cps.toList.take i), ⟨z.cps.size, by omega, Nat.zero_le _, same_new hp, [], upd_same, Nat.le_refl _, fun ch => by simp [valV]⟩, ?_⟩⟩
    rintro i m H1 ⟨rfl, hi, s1, kvs, h1, hl, hk⟩
    by_cases hlt : i < z.cps.size
    · refine .inr ⟨hlt, fun H' => i + 1 ≤ z.cps.size ∧ Same H H' ∧ ∃ kvs, H' p = some (.dK kvs) ∧ kvs.length ≤ i + 1 ∧ SigK kvs (z.cps.toList.take (i + 1)), fun H' w => ⟨_, by omega, rfl, w⟩, ?_⟩
      rintro x H' ⟨rfl, ch, hc, rfl⟩
      refine ⟨rfl, ?_⟩
      unfold tYes
      dsimp only
      rw [if_pos rfl]
      refine ⟨_, rfl, ⟨#[ch]⟩, rfl, rfl, _, rfl, kvs, Sum.inl (ch : Int), rfl, h1, sz_lt (by omega), hlt, ?_, _, upd_same, ?_, fun c' => ?_⟩
      · exact same_mut s1 hp
      · have := length_putK kvs (Sum.inl (ch : Int) : Key) (V.str ⟨#[ch]⟩)
        omega
      · rw [valV_put]
        have hc' : z.cps.toList[i]? = some ch := by rw [Array.getElem?_toList]; exact hc
        rw [List.take_add_one, hc']
        by_cases e : c' = ch
        · subst e
          rw [if_pos rfl, if_pos (by simp)]
        · rw [if_neg (fun q => e (by have := Sum.inl.inj q; omega)), hk c']
          have em : (c' ∈ z.cps.toList.take i ++ (some ch).toList) ↔ c' ∈ z.cps.toList.take i := by simp [e]
          by_cases hm : c' ∈ z.cps.toList.take i
          · rw [if_pos hm, if_pos (em.mpr hm)]
          · rw [if_neg hm, if_neg (mt em.mp hm)]
    · have e : i = z.cps.size := by omega
      subst e
      have et : z.cps.toList.take z.cps.size = z.cps.toList := by rw [← Array.length_toList, List.take_length]
      rw [et] at hk
      exact .inl ⟨Nat.le_refl _, k p H1 kvs hp s1 h1 hk⟩
/-! ### keys -/
theorem len_k (x : Str) : x.length = x.cps.size := rfl
theorem codes_len (x : Str) : (codes x).length = x.cps.size := by unfold codes; rw [List.length_map, Array.length_toList]
theorem codes_get {x : Str} {i ch : Nat} (h : x.cps.toList[i]? = some ch) : (codes x)[i]? = some (ch : Int) := by unfold codes; rw [List.getElem?_map, h]; rfl
def sT (x : Str) (i : Nat) : Str := ⟨(x.cps.toList.take i).toArray⟩
theorem sT_len {x : Str} {i : Nat} (h : i ≤ x.cps.size) : (sT x i).length = i := by
  show (x.cps.toList.take i).toArray.size = i
  rw [List.size_toArray, List.length_take, Array.length_toList]
  omega
theorem sT_all (x : Str) : sT x x.cps.size = x := by
  unfold sT
  rw [← Array.length_toList, List.take_length]
theorem sT_zero (x : Str) : sT x 0 = ("" : Str) := by rfl
theorem sT_step {x : Str} {i ch : Nat} (h : x.cps.toList[i]? = some ch) : sT x i ++ (⟨#[ch]⟩ : Str) = sT x (i + 1) := by
  show (⟨(x.cps.toList.take i).toArray ++ #[ch]⟩ : Str) = ⟨(x.cps.toList.take (i + 1)).toArray⟩
  rw [List.take_add_one, h]
  simp
theorem keep_val (f : Nat → PyData) (cs : List Nat) (val : PyData → PyData) (h : ∀ ch, val (sg ch) = f ch) : kept (fun _ => true) val (cs.map sg) = cs.map f := by
  rw [kept_all, List.map_map]
  exact List.map_congr_left fun ch _ => h ch
def ordD : PyData → PyData
  | .str x => .int (x.cps.getD 0 0 : Nat)
  | _ => .none
theorem sc_put_key : FnScope ["key", "sign"] ["key"] (defScope s_put_key) := ⟨rfl, rfl, rfl, by decide +kernel, rfl, by decide +kernel, by decide +kernel⟩
theorem d_put_key {c : Cn} (T : Tx c) : Df c "put_key" 1 ["key"] (spF (fun (x : Str) => [.str x]) (fun x => x.cps.size ≤ 1000) (fun x => octD (encKey x))) :=
  T.df 12 12 rfl rfl sc_put_key (fun _ _ _ _ _ _ us hl => match us, hl with | [_], _ => rfl) (ln_F fun _ => rfl) fun f cdv A outer s H vs Q E hr h => by
    refine ⟨_, (pss_one (ps_ret (pe_op op_catA (pe_callTy call_tuple_of (by rfl) T.n_tuple (by decide +kernel) (pa_cons (pe_lc (own := [("sign", 1)]) (by rfl) sc_put_key.nd (pi_str (pv 0)) (blkOk_by (own := [("sign", 1)]) (N := ["key", "sign"]) (sc := defScope s_put_key) (by decide +kernel)) (fun _ _ _ _ _ => (pg_name (i := 1) sc_put_key.nd rfl (by first | exact Or.inl rfl | exact Or.inr rfl))) (fun _ _ _ _ _ => pts_nil) (fun _ _ _ _ _ => (pe_callB call_ord (by rfl) T.n_ord (by decide +kernel) (pa_cons (pv 1) pa_nil)))) pa_nil)) (pe_tup (pa_cons pe_int pa_nil))))), ?_⟩
    obtain ⟨x, hv, hx, k⟩ := h
    have L := Loc.start (N := ["key", "sign"]) hv
    have hv2 := hv
    obtain ⟨v0, vs0, rfl, h0, rfl⟩ := hv2
    have e0 : kept (fun _ => true) ordD (x.cps.toList.map sg) = (codes x).map PyData.int := by
      rw [keep_val (fun ch => .int (ch : Nat)) _ _ fun ch => rfl]
      unfold codes
      rw [List.map_map]
      rfl
    refine s_ret (d := octD (encKey x)) ((ev_cat (ds := (codes x).map .int) (es := [.int 0]) ((ev_tuL (el_lcS (j := 1) (fun _ => true) ordD (ev_v L rfl) (by omega) (fun _ => ?_) fun i ch H1 e1 hc => ⟨et_yes, fun _ => show Ev _ _ _ (PyData.int (ch : Nat)) from ev_ord rfl (ev_at (d := sg ch) (v := .str ⟨#[ch]⟩) rfl rfl)⟩)).is (by rw [e0])) (ev_tup (ea_1 ev_int) (by show 1 ≤ 1000000; decide)) (by rw [List.length_map, codes_len]; show x.cps.size + 1 ≤ 1000000; omega)).is (octD_app (codes x) [0])) fun v H1 e hd => k v H1 e hd
    rfl
theorem keyS : ("0123456789_abcdefghijklmnopqrstuvwxyz" : Str).cps.toList = keySigns := by decide +kernel
theorem textS : (" -./0123456789:ABCDEFGHIJKLMNOPQRSTUVWXYZ_abcdefghijklmnopqrstuvwxyz" : Str).cps.toList = textSigns := by decide +kernel
end Sp
set_option Elab.async false
set_option linter.all false
set_option maxRecDepth 100000
set_option maxHeartbeats 4000000
namespace Sp
open PySem PySem.Spec PyProof.Rows L2
theorem len2 {d1 d2 : PyData} : [d1, d2].length ≤ 1000000 := by show 2 ≤ 1000000; decide
theorem len3 {d1 d2 d3 : PyData} : [d1, d2, d3].length ≤ 1000000 := by show 3 ≤ 1000000; decide
theorem len1 {d1 : PyData} : [d1].length ≤ 1000000 := by show 1 ≤ 1000000; decide
theorem encKey_len (x : Str) : (encKey x).length = x.cps.size + 1 := by unfold encKey; rw [List.length_append, codes_len]; rfl
theorem encKey_at {x : Str} {i ch : Nat} (h : x.cps.toList[i]? = some ch) : (encKey x)[i]? = some (ch : Int) := by
  unfold encKey
  rw [List.getElem?_append_left (by have := (List.getElem?_eq_some_iff.mp h).1; rw [codes_len]; simpa using this)]
  exact codes_get h
theorem encKey_last (x : Str) : (encKey x)[x.cps.size]? = some 0 := by
  unfold encKey
  rw [List.getElem?_append_right (by rw [codes_len]; exact Nat.le_refl _), codes_len, Nat.sub_self]
  rfl
theorem zeroKey : 0 ∉ keySigns := by decide
theorem chr_at {x : Str} {i : Nat} (h : i < x.cps.size) : ∃ ch, x.cps.toList[i]? = some ch ∧ ch ∈ x.cps.toList := by
  have h' : i < x.cps.toList.length := by rw [Array.length_toList]; exact h
  exact ⟨x.cps.toList[i], List.getElem?_eq_getElem h', List.getElem_mem h'⟩
theorem sc_get_key : FnScope ["octets", "at", "known", "found"] ["octets", "at"] (defScope s_get_key) := ⟨rfl, rfl, rfl, by decide +kernel, rfl, by decide +kernel, by decide +kernel⟩
theorem d_get_key {c : Cn} (T : Tx c) : Df c "get_key" 2 ["octets", "at"] (spF (fun (p : Oct × Str × Oct) => [octD (p.1 ++ encKey p.2.1 ++ p.2.2), .int (p.1.length : Nat)]) (fun p => KeyOk p.2.1) (fun p => .tuple [.str p.2.1, .int ((p.1.length + (encKey p.2.1).length : Nat) : Int)])) :=
  T.df 13 13 rfl rfl sc_get_key (fun _ _ _ _ _ _ us hl => match us, hl with | [_, _], _ => rfl) (ln_F fun _ => rfl) fun f cdv A outer s H vs Q E hr h => by
    refine ⟨_, (pss_cons (ps_par (i := 2) (j := 3) (by rfl) sc_get_key.nd rfl rfl (by decide) rfl rfl (pa_cons (pe_d (d_signs_by_octets T) (hr.mono (by decide)) (pa_cons (pe_k T.k_KEY_SIGNS) pa_nil)) (pa_cons pe_str pa_nil)) (by rfl))
    (pss_cons (ps_while PassesOwn.never (pt_cmp (pc_dinN (hu_of hr) (pe_d (d_octet_at T) (hr.mono (by decide)) (pa_cons (pv 0) (pa_cons (pe_op op_add (pv 1) (pe_callB call_len_str (by rfl) T.n_len (by decide +kernel) (pa_cons (pv 3) pa_nil))) pa_nil))) (pv 2))) (pss_cons (ps_aug (i := 3) sc_get_key.nd rfl (by first | exact Or.inl rfl | exact Or.inr rfl) (pe_dget (hu_of hr) (pv 2) (pe_ix ix_tup (pv 0) (pe_op op_add (pv 1) (pe_callB call_len_str (by rfl) T.n_len (by decide +kernel) (pa_cons (pv 3) pa_nil))) (fun _ _ => rfl)) (fun _ _ => rfl)) ip_addS)
    (pss_one (ps_if (pt_cmpR op_gt (pe_callB call_len_str (by rfl) T.n_len (by decide +kernel) (pa_cons (pv 3) pa_nil)) (pe_k T.k_LONGEST_KEY) (nomark _)) (pss_one ps_never) pss_nil))))
    (pss_cons (ps_if (PW.pt (pw_or (pt_cmpR op_eq (pv 3) pe_str (nomark _)) (pw_or1 (pt_cmpR op_ne (pe_d (d_octet_at T) (hr.mono (by decide)) (pa_cons (pv 0) (pa_cons (pe_op op_add (pv 1) (pe_callB call_len_str (by rfl) T.n_len (by decide +kernel) (pa_cons (pv 3) pa_nil))) pa_nil))) pe_int (nomark _))))) (pss_one ps_never) pss_nil)
    (pss_one (ps_ret (pe_tup (pa_cons (pv 3) (pa_cons (pe_op op_add (pe_op op_add (pv 1) (pe_callB call_len_str (by rfl) T.n_len (by decide +kernel) (pa_cons (pv 3) pa_nil))) pe_int) pa_nil)))))))), ?_⟩
    obtain ⟨⟨A, x, B⟩, hv, hx, k⟩ := h
    dsimp only at hv hx k
    have L := Loc.start (N := ["octets", "at", "known", "found"]) hv
    refine ⟨"0123456789_abcdefghijklmnopqrstuvwxyz", rfl, by decide +kernel, fun p H1 kvs hp e1 h1 hk => ⟨.ref p, .str "", rfl, ?_⟩⟩
    rw [keyS] at hk
    have L1 : Loc H1 [some (octD (A ++ encKey x ++ B)), some (.int (A.length : Nat)), none, some (.str (sT x 0))] (((L2.start ["octets", "at", "known", "found"] vs).set 2 (some (.ref p))).set 3 (some (.str ""))) := Loc.set (d := .str "") rfl 3 (Loc.off 2 (L.to e1))
    have l1 : (((L2.start ["octets", "at", "known", "found"] vs).set 2 (some (.ref p))).set 3 (some (.str "")))[2]? = some (some (.ref p)) := by
      obtain ⟨v, vs, rfl, h0, w, ws, rfl, h2, rfl⟩ := hv
      rfl
    refine q_while (fun m l' H' => ∃ i, m = x.cps.size - i ∧ i ≤ x.cps.size ∧ Same H H' ∧ Loc H' [some (octD (A ++ encKey x ++ B)), some (.int (A.length : Nat)), none, some (.str (sT x i))] l' ∧ l'[2]? = some (some (.ref p)) ∧ H' p = some (.dK kvs)) x.cps.size ⟨0, rfl, Nat.zero_le _, e1, L1, l1, h1⟩ ?_
    rintro m l' H2 ⟨i, rfl, hi, s2, L2', l2, h2⟩
    have hlen : ∀ {H' : Hp} {l' : L2.St}, Loc H' [some (octD (A ++ encKey x ++ B)), some (.int (A.length : Nat)), none, some (.str (sT x i))] l' → Ev (tOp (rI0 fun i j => .int (i + j)) (tVar 1) (tCB rLenZ (tCons (tVar 3) tNil))) l' H' (.int ((A.length + i : Nat) : Int)) := fun L' => (ev_I0 (ev_v L' rfl) (ev_lenS (x := sT x i) (ev_v L' rfl) (by rw [sT_len hi]; have := hx.len; omega))).is (by rw [sT_len hi, Int.natCast_add])
    by_cases hlt : i < x.cps.size
    · obtain ⟨ch, hc, hm⟩ := chr_at hlt
      have hg : (A ++ encKey x ++ B)[A.length + i]? = some (ch : Int) := get_mid (encKey_at hc)
      have hv' : valV kvs (.inl (ch : Int)) = some (.str ⟨#[ch]⟩) := by rw [hk ch, if_pos (hx.sig ch hm)]
      refine ⟨true, et_B ((ev_inK (d := .int (ch : Int)) (k := .inl (ch : Int)) (ev_F (A ++ encKey x ++ B, A.length + i, (ch : Int)) (ea_2 (ev_v L2' rfl) (hlen L2')) hg) rfl (vv_at l2) (.inl h2)).is (by rw [hv']; rfl)), fun _ H3 e3 => ?_, fun z => nomatch z⟩
      have L3 := L2'.to e3
      refine q_augS (x := sT x i) (y := ⟨#[ch]⟩) L3 rfl (ev_getK (k := .inl (ch : Int)) (d := .int (ch : Int)) (d1 := sg ch) (vv_at l2) (ev_ix (ev_v L3 rfl) (hlen L3) (atI_nat (octD_get hg))) rfl (.inl (e3 _ _ h2)) hv' rfl) (by rw [sT_len hi]; have := hx.len; show i + 1 ≤ 1000000; omega) fun H4 e4 L4 => ?_
      rw [sT_step hc] at L4 ⊢
      refine s_skip (et_of ((ev_B0 (ev_lenS (x := sT x (i + 1)) (ev_v L4 rfl) (by rw [sT_len hlt]; have := hx.len; omega)) ev_int).is (by rw [sT_len hlt, decide_eq_false (by have := hx.len; omega)]))) fun H5 e5 => ?_
      exact ⟨x.cps.size - (i + 1), by omega, i + 1, rfl, hlt, ((s2.trans e3).trans e4).trans e5, L4.to e5, by rw [List.getElem?_set_ne (by decide)]; exact l2, e5 _ _ (e4 _ _ (e3 _ _ h2))⟩
    · have e : i = x.cps.size := by omega
      subst e
      have hg : (A ++ encKey x ++ B)[A.length + x.cps.size]? = some 0 := get_mid (encKey_last x)
      refine ⟨false, et_B ((ev_inK (d := .int 0) (k := .inl 0) (ev_F (A ++ encKey x ++ B, A.length + x.cps.size, (0 : Int)) (ea_2 (ev_v L2' rfl) (hlen L2')) hg) rfl (vv_at l2) (.inl h2)).is ?_), (fun z => nomatch z), fun _ H3 e3 => ?_⟩
      · have : valV kvs (.inl 0) = none := by
          have := hk 0
          rw [if_neg zeroKey] at this
          exact this
        rw [this]
        rfl
      have L3 := L2'.to e3
      refine q_skip ((et_or (b := false) (c := false) (et_of ((ev_eqS (ev_v L3 rfl) ev_str).is (by
        rw [decide_eq_false]
        intro z
        have := congrArg Str.length z
        rw [sT_len hi] at this
        have := hx.pos
        have e0 : ("" : Str).length = 0 := rfl
        omega))) fun _ => et_of ((ev_neI (ev_F (A ++ encKey x ++ B, A.length + x.cps.size, (0 : Int)) (ea_2 (ev_v L3 rfl) (hlen L3)) hg) ev_int).is rfl)).is rfl) fun H4 e4 => ?_
      have L4 := L3.to e4
      refine s_ret (d := .tuple [.str x, .int ((A.length + (encKey x).length : Nat) : Int)]) (ev_tup (ea_2 ((ev_v L4 rfl).is (by rw [sT_all])) ((ev_I0 (hlen L4) ev_int).is (by rw [encKey_len]; rfl))) len2) fun v H5 e5 hd => k v H5 (((s2.trans e3).trans e4).trans e5) hd
end Sp
set_option Elab.async false
set_option linter.all false
set_option maxRecDepth 100000
set_option maxHeartbeats 4000000
namespace Sp
open PySem PySem.Spec PyProof.Rows L2
theorem atI_last {α : Type} {xs : List α} {x : α} (h : xs.getLast? = some x) : atI xs (-1) = some x := by
  have hn : xs ≠ [] := by rintro rfl; cases h
  have hp : 0 < xs.length := List.length_pos_iff.mpr hn
  unfold atI ixN
  rw [if_neg (by omega), if_pos (by omega), Option.bind_some, show (-1 + (xs.length : Int)).toNat = xs.length - 1 by omega]
  rw [List.getLast?_eq_getElem?] at h
  exact h
theorem ge_add (A B C : Oct) : octD (A ++ (B ++ C)) = octD (A ++ B ++ C) := by rw [List.append_assoc]
theorem sc_put_text : FnScope ["text", "sign"] ["text"] (defScope s_put_text) := ⟨rfl, rfl, rfl, by decide +kernel, rfl, by decide +kernel, by decide +kernel⟩
theorem d_put_text {c : Cn} (T : Tx c) : Df c "put_text" 2 ["text"] (spF (fun (x : Str) => [.str x]) (fun x => x.cps.size ≤ 1000) (fun x => octD (encText x))) :=
  T.df 14 14 rfl rfl sc_put_text (fun _ _ _ _ _ _ us hl => match us, hl with | [_], _ => rfl) (ln_F fun _ => rfl) fun f cdv A outer s H vs Q E hr h => by
    refine ⟨_, (pss_one (ps_ret (pe_op op_catA (pe_d (d_put_number T) (hr.mono (by decide)) (pa_cons (pe_callB call_len_str (by rfl) T.n_len (by decide +kernel) (pa_cons (pv 0) pa_nil)) pa_nil)) (pe_callTy call_tuple_of (by rfl) T.n_tuple (by decide +kernel) (pa_cons (pe_lc (own := [("sign", 1)]) (by rfl) sc_put_text.nd (pi_str (pv 0)) (blkOk_by (own := [("sign", 1)]) (N := ["text", "sign"]) (sc := defScope s_put_text) (by decide +kernel)) (fun _ _ _ _ _ => (pg_name (i := 1) sc_put_text.nd rfl (by first | exact Or.inl rfl | exact Or.inr rfl))) (fun _ _ _ _ _ => pts_nil) (fun _ _ _ _ _ => (pe_callB call_ord (by rfl) T.n_ord (by decide +kernel) (pa_cons (pv 1) pa_nil)))) pa_nil))))), ?_⟩
    obtain ⟨x, hv, hx, k⟩ := h
    have L := Loc.start (N := ["text", "sign"]) hv
    have hv2 := hv
    obtain ⟨v0, vs0, rfl, h0, rfl⟩ := hv2
    have e0 : kept (fun _ => true) ordD (x.cps.toList.map sg) = (codes x).map PyData.int := by
      rw [keep_val (fun ch => .int (ch : Nat)) _ _ fun ch => rfl]
      unfold codes
      rw [List.map_map]
      rfl
    have hn : (encNum x.length).length ≤ 9 := encNum_9 (by rw [len_k]; omega)
    refine s_ret (d := octD (encText x)) ((ev_cat (ds := (encNum x.length).map .int) (es := (codes x).map .int) (ev_F (x.length) (ea_1 (ev_lenS (ev_v L rfl) (by rw [len_k]; omega))) (by rw [len_k]; omega)) ((ev_tuL (el_lcS (j := 1) (fun _ => true) ordD (ev_v L rfl) (by omega) (fun _ => ?_) fun i ch H1 e1 hc => ⟨et_yes, fun _ => show Ev _ _ _ (PyData.int (ch : Nat)) from ev_ord rfl (ev_at (d := sg ch) (v := .str ⟨#[ch]⟩) rfl rfl)⟩)).is (by rw [e0])) (by rw [List.length_map, List.length_map, codes_len]; omega)).is (octD_app _ _)) fun v H1 e hd => k v H1 e hd
    rfl
def TextOk (x : Str) : Prop := x.cps.size ≤ 32 ∧ ∀ c ∈ x.cps.toList, c ∈ textSigns
theorem sc_get_text : FnScope ["octets", "at", "many", "end", "known", "found", "octet"] ["octets", "at"] (defScope s_get_text) := ⟨rfl, rfl, rfl, by decide +kernel, rfl, by decide +kernel, by decide +kernel⟩
theorem d_get_text {c : Cn} (T : Tx c) : Df c "get_text" 3 ["octets", "at"] (spF (fun (p : Oct × Str × Oct) => [octD (p.1 ++ encText p.2.1 ++ p.2.2), .int (p.1.length : Nat)]) (fun p => TextOk p.2.1) (fun p => .tuple [.str p.2.1, .int ((p.1.length + (encText p.2.1).length : Nat) : Int)])) :=
  T.df 15 15 rfl rfl sc_get_text (fun _ _ _ _ _ _ us hl => match us, hl with | [_, _], _ => rfl) (ln_F fun _ => rfl) fun f cdv A outer s H vs Q E hr h => by
    refine ⟨_, (pss_cons (ps_asg (pe_d (d_get_number T) (hr.mono (by decide)) (pa_cons (pv 0) (pa_cons (pv 1) pa_nil))) (pg_tup (by rfl) (pgs_cons (pg_name (i := 2) sc_get_text.nd rfl (by first | exact Or.inl rfl | exact Or.inr rfl)) (pgs_cons (pg_name (i := 3) sc_get_text.nd rfl (by first | exact Or.inl rfl | exact Or.inr rfl)) pgs_nil))))
    (pss_cons (ps_if (pt_cmpR op_gt (pv 2) (pe_k T.k_LONGEST_TEXT) (nomark _)) (pss_one ps_never) pss_nil)
    (pss_cons (ps_par (i := 4) (j := 5) (by rfl) sc_get_text.nd rfl rfl (by decide) rfl rfl (pa_cons (pe_d (d_signs_by_octets T) (hr.mono (by decide)) (pa_cons (pe_k T.k_TEXT_SIGNS) pa_nil)) (pa_cons pe_str pa_nil)) (by rfl))
    (pss_cons (ps_while PassesOwn.never (pt_cmpR op_lt (pe_callB call_len_str (by rfl) T.n_len (by decide +kernel) (pa_cons (pv 5) pa_nil)) (pv 2) (nomark _)) (pss_cons (ps_set (i := 6) sc_get_text.nd rfl (by first | exact Or.inl rfl | exact Or.inr rfl) (pe_d (d_octet_at T) (hr.mono (by decide)) (pa_cons (pv 0) (pa_cons (pv 3) pa_nil))))
    (pss_cons (ps_if (pt_cmp (pc_dnotinN (hu_of hr) (pv 6) (pv 4))) (pss_one ps_never) pss_nil)
    (pss_cons (ps_aug (i := 5) sc_get_text.nd rfl (by first | exact Or.inl rfl | exact Or.inr rfl) (pe_dget (hu_of hr) (pv 4) (pv 6) (fun _ _ => rfl)) ip_addS)
    (pss_one (ps_aug (i := 3) sc_get_text.nd rfl (by first | exact Or.inl rfl | exact Or.inr rfl) pe_int ip_add))))))
    (pss_one (ps_ret (pe_tup (pa_cons (pv 5) (pa_cons (pv 3) pa_nil))))))))), ?_⟩
    obtain ⟨⟨A, x, B⟩, hv, hx, k⟩ := h
    dsimp only at hv hx k
    have L := Loc.start (N := ["octets", "at", "many", "end", "known", "found", "octet"]) hv
    have hsz := hx.1
    refine q_un2 (d1 := .int (x.length : Nat)) (d2 := .int ((A.length + (encNum x.length).length : Nat) : Int)) (ev_F (A, x.length, codes x ++ B) (ea_2 ((ev_v L rfl).is (by show octD _ = octD _; unfold encText; simp only [List.append_assoc])) (ev_v L rfl)) (by show x.cps.size < _; omega)) L fun v w H1 e1 h1 h2 L1 => ?_
    refine q_skip (et_of ((ev_B0 (ev_v L1 rfl) ev_int).is (by rw [decide_eq_false (by rw [len_k]; omega)]))) fun H2 e2 => ?_
    have L2 := L1.to e2
    refine ⟨" -./0123456789:ABCDEFGHIJKLMNOPQRSTUVWXYZ_abcdefghijklmnopqrstuvwxyz", rfl, by decide +kernel, fun p H3 kvs hp e3 h3 hk => ⟨.ref p, .str "", rfl, ?_⟩⟩
    rw [textS] at hk
    have L3 := Loc.set (d := .str "") (v := .str "") rfl 5 (Loc.off (v := some (.ref p)) 4 (L2.to e3))
    refine q_while (fun m l' H' => ∃ i, m = x.cps.size - i ∧ i ≤ x.cps.size ∧ Same H H' ∧ Loc H' [some (octD (A ++ encText x ++ B)), some (.int (A.length : Nat)), some (.int (x.length : Nat)), some (.int ((A.length + (encNum x.length).length + i : Nat) : Int)), none, some (.str (sT x i)), none] l' ∧ l'[4]? = some (some (.ref p)) ∧ H' p = some (.dK kvs)) x.cps.size ⟨0, rfl, Nat.zero_le _, (e1.trans e2).trans e3, L3, ?_, h3⟩ ?_
    · obtain ⟨v, vs, rfl, h0, w, ws, rfl, h2, rfl⟩ := hv
      rfl
    rintro m l' H4 ⟨i, rfl, hi, s4, L4, l4, h4⟩
    refine ⟨decide (i < x.cps.size), et_of ((ev_B0 (ev_lenS (x := sT x i) (ev_v L4 rfl) (by rw [sT_len hi]; omega)) (ev_v L4 rfl)).is (by rw [sT_len hi, len_k]; congr 1; exact decide_eq_decide.mpr (by omega))), fun hb H5 e5 => ?_, fun hb H5 e5 => ?_⟩
    · have hlt := of_decide_eq_true hb
      obtain ⟨ch, hc, hm⟩ := chr_at hlt
      have hg : (A ++ encText x ++ B)[A.length + (encNum x.length).length + i]? = some (ch : Int) := by
        rw [Nat.add_assoc]
        refine get_mid ?_
        unfold encText
        rw [List.getElem?_append_right (by omega), show (encNum x.length).length + i - (encNum x.length).length = i by omega]
        exact codes_get hc
      have hv' : valV kvs (.inl (ch : Int)) = some (.str ⟨#[ch]⟩) := by rw [hk ch, if_pos (hx.2 ch hm)]
      have L5 := L4.to e5
      refine q_asg (d := .int (ch : Int)) (ev_F (A ++ encText x ++ B, A.length + (encNum x.length).length + i, (ch : Int)) (ea_2 (ev_v L5 rfl) (ev_v L5 rfl)) hg) L5 fun v6 H6 e6 _ L6 => ?_
      have l6 : (l'.set 6 (some v6))[4]? = some (some (.ref p)) := by rw [List.getElem?_set_ne (by decide)]; exact l4
      refine q_skip (et_B ((ev_ninK (d := .int (ch : Int)) (k := .inl (ch : Int)) (ev_v L6 rfl) rfl (vv_at l6) (.inl (e6 _ _ (e5 _ _ h4)))).is (by rw [hv']; rfl))) fun H7 e7 => ?_
      have L7 := L6.to e7
      refine q_augS (x := sT x i) (y := ⟨#[ch]⟩) L7 rfl (ev_getK (k := .inl (ch : Int)) (d := .int (ch : Int)) (d1 := sg ch) (vv_at l6) (ev_v L7 rfl) rfl (.inl (e7 _ _ (e6 _ _ (e5 _ _ h4)))) hv' rfl) (by rw [sT_len hi]; show i + 1 ≤ 1000000; omega) fun H8 e8 L8 => ?_
      rw [sT_step hc] at L8 ⊢
      refine s_augI (f := fun a b => a + b) (i := ((A.length + (encNum x.length).length + i : Nat) : Int)) (j := 1) L8 rfl ev_int fun H9 e9 L9 => ?_
      refine ⟨x.cps.size - (i + 1), by omega, i + 1, rfl, hlt, ((((s4.trans e5).trans e6).trans e7).trans e8).trans e9, L9.wk 6, ?_, e9 _ _ (e8 _ _ (e7 _ _ (e6 _ _ (e5 _ _ h4))))⟩
      rw [List.getElem?_set_ne (by decide), List.getElem?_set_ne (by decide)]
      exact l6
    · have : i = x.cps.size := by have := of_decide_eq_false hb; omega
      subst this
      have L5 := L4.to e5
      refine s_ret (d := .tuple [.str x, .int ((A.length + (encText x).length : Nat) : Int)]) (ev_tup (ea_2 ((ev_v L5 rfl).is (by rw [sT_all])) ((ev_v L5 rfl).is ?_)) len2) fun v H6 e6 hd => k v H6 ((s4.trans e5).trans e6) hd
      congr 2
      unfold encText
      rw [List.length_append, codes_len]
      omega
theorem sc_put_value : FnScope ["value"] ["value"] (defScope s_put_value) := ⟨rfl, rfl, rfl, by decide +kernel, rfl, by decide +kernel, by decide +kernel⟩
theorem d_put_value {c : Cn} (T : Tx c) : Df c "put_value" 3 ["value"] (spF (fun (x : Val) => [x.d]) ValOk (fun x => octD (encVal x))) :=
  T.df 16 16 rfl rfl sc_put_value (fun _ _ _ _ _ _ us hl => match us, hl with | [_], _ => rfl) (ln_F fun _ => rfl) fun f cdv A outer s H vs Q E hr h => by
    refine ⟨_, (pss_cons (ps_if (pt_cmpR op_isN (pv 0) pe_non (nomark _)) (pss_one (ps_ret (pe_tup (pa_cons (pe_k T.k_NONE_TAG) pa_nil)))) pss_nil)
    (pss_one (ps_ret (pe_ifExp (pt_val (pe_d (d_is_text T) (hr.mono (by decide)) (pa_cons (pv 0) pa_nil))) (pe_op op_catA (pe_tup (pa_cons (pe_k T.k_TEXT_TAG) pa_nil)) (pe_d (d_put_text T) (hr.mono (by decide)) (pa_cons (pv 0) pa_nil))) (pe_op op_catA (pe_tup (pa_cons (pe_k T.k_INTEGER_TAG) pa_nil)) (pe_d (d_put_integer T) (hr.mono (by decide)) (pa_cons (pv 0) pa_nil))))))), ?_⟩
    obtain ⟨x, hv, hx, k⟩ := h
    have L := Loc.start (N := ["value"]) hv
    refine q_if (b := isNo x.d) (et_of (ev_isN rfl (ev_v L rfl))) (fun hb H1 e1 => ?_) (fun hb H1 e1 => ?_)
    · have L1 := L.to e1
      match x, hb with
      | .non, _ => exact s_ret (d := octD (encVal .non)) (ev_tup (ea_1 (ev_int (i := 0))) len1) fun v H2 e2 hd => k v H2 (e1.trans e2) hd
    · have L1 := L.to e1
      unfold tNext
      dsimp only
      refine s_ret (d := octD (encVal x)) (ev_if (b := x.isS) (et_B (ev_F x (ea_1 (ev_v L1 rfl)) trivial)) (fun hs => ?_) (fun hs => ?_)) fun v H2 e2 hd => k v H2 (e1.trans e2) hd
      · cases x with
        | non => exact Bool.noConfusion hs
        | int y => exact Bool.noConfusion hs
        | str y =>
          have hy : y.cps.size ≤ 32 := hx.1
          have hn : (encNum y.length).length ≤ 9 := encNum_9 (by rw [len_k]; omega)
          exact (ev_cat (ds := [.int 2]) (es := (encText y).map .int) (ev_tup (ea_1 ev_int) len1) (ev_F y (ea_1 (ev_v L1 rfl)) (by show y.cps.size ≤ 1000; omega)) (by unfold encText; rw [List.length_map, List.length_append, codes_len]; show 1 + _ ≤ _; omega)).is (octD_app [2] _)
      · cases x with
        | non => exact Bool.noConfusion hb
        | str y => exact Bool.noConfusion hs
        | int y =>
          have hn := encNum_9 (zig_lt (i := y) hx)
          exact (ev_cat (ds := [.int 1]) (es := (encNum (zig y)).map .int) (ev_tup (ea_1 ev_int) len1) (ev_F y (ea_1 (ev_v L1 rfl)) hx) (by rw [List.length_map]; show 1 + _ ≤ _; omega)).is (octD_app [1] _)
theorem encVal_non : encVal .non = [0] := rfl
theorem ValOk.i {i : Int} (h : ValOk (.int i)) : IntOk i := h
theorem ValOk.s {x : Str} (h : ValOk (.str x)) : TextOk x := h
def tagOf : Val → Int
  | .non => 0
  | .int _ => 1
  | .str _ => 2
theorem encVal_0 (x : Val) : (encVal x)[0]? = some (tagOf x) := by cases x <;> rfl
theorem snoc_d (A B C : Oct) (x : Int) : octD (A ++ x :: B ++ C) = octD (A ++ [x] ++ B ++ C) := by simp [octD]
theorem snoc_len (A : Oct) (x : Int) : (((A ++ [x]).length : Nat) : Int) = (A.length : Int) + 1 := by rw [List.length_append]; rfl
theorem sc_get_value : FnScope ["octets", "at", "tag", "integer", "end"] ["octets", "at"] (defScope s_get_value) := ⟨rfl, rfl, rfl, by decide +kernel, rfl, by decide +kernel, by decide +kernel⟩
theorem d_get_value {c : Cn} (T : Tx c) : Df c "get_value" 4 ["octets", "at"] (spF (fun (p : Oct × Val × Oct) => [octD (p.1 ++ encVal p.2.1 ++ p.2.2), .int (p.1.length : Nat)]) (fun p => ValOk p.2.1) (fun p => .tuple [p.2.1.d, .int ((p.1.length + (encVal p.2.1).length : Nat) : Int)])) :=
  T.df 17 17 rfl rfl sc_get_value (fun _ _ _ _ _ _ us hl => match us, hl with | [_, _], _ => rfl) (ln_F fun _ => rfl) fun f cdv A outer s H vs Q E hr h => by
    refine ⟨_, (pss_cons (ps_set (i := 2) sc_get_value.nd rfl (by first | exact Or.inl rfl | exact Or.inr rfl) (pe_d (d_octet_at T) (hr.mono (by decide)) (pa_cons (pv 0) (pa_cons (pv 1) pa_nil))))
    (pss_cons (ps_if (pt_cmpR op_eq (pv 2) (pe_k T.k_NONE_TAG) (nomark _)) (pss_one (ps_ret (pe_tup (pa_cons pe_non (pa_cons (pe_op op_add (pv 1) pe_int) pa_nil))))) pss_nil)
    (pss_cons (ps_if (pt_cmpR op_eq (pv 2) (pe_k T.k_TEXT_TAG) (nomark _)) (pss_one (ps_ret (pe_d (d_get_text T) (hr.mono (by decide)) (pa_cons (pv 0) (pa_cons (pe_op op_add (pv 1) pe_int) pa_nil))))) pss_nil)
    (pss_cons (ps_if (pt_cmpR op_ne (pv 2) (pe_k T.k_INTEGER_TAG) (nomark _)) (pss_one ps_never) pss_nil)
    (pss_cons (ps_asg (pe_d (d_get_integer T) (hr.mono (by decide)) (pa_cons (pv 0) (pa_cons (pe_op op_add (pv 1) pe_int) pa_nil))) (pg_tup (by rfl) (pgs_cons (pg_name (i := 3) sc_get_value.nd rfl (by first | exact Or.inl rfl | exact Or.inr rfl)) (pgs_cons (pg_name (i := 4) sc_get_value.nd rfl (by first | exact Or.inl rfl | exact Or.inr rfl)) pgs_nil))))
    (pss_cons (ps_if (pt_not (pt_chain op_le op_le (pe_un un_neg (pe_k T.k_GREATEST)) (pv 3) (pe_k T.k_GREATEST))) (pss_one ps_never) pss_nil)
    (pss_one (ps_ret (pe_tup (pa_cons (pv 3) (pa_cons (pv 4) pa_nil))))))))))), ?_⟩
    obtain ⟨⟨A, x, B⟩, hv, hx, k⟩ := h
    dsimp only at hv hx k
    have L := Loc.start (N := ["octets", "at", "tag", "integer", "end"]) hv
    have hg : (A ++ encVal x ++ B)[A.length + 0]? = some (tagOf x) := get_mid (encVal_0 x)
    refine q_asg (d := .int (tagOf x)) (ev_F (A ++ encVal x ++ B, A.length + 0, tagOf x) (ea_2 (ev_v L rfl) (ev_v L rfl)) hg) L fun v1 H1 e1 _ L1 => ?_
    refine q_if (et_of (ev_eqI (ev_v L1 rfl) (ev_int (i := 0)))) (fun hb H2 e2 => ?_) (fun hb H2 e2 => ?_)
    · have L2 := L1.to e2
      match x, of_decide_eq_true hb with
      | .non, _ => exact s_ret (d := .tuple [.none, .int ((A.length + 1 : Nat) : Int)]) (ev_tup (ea_2 ev_non ((ev_I0 (ev_v L2 rfl) ev_int).is rfl)) len2) fun v H3 e3 hd => k v H3 ((e1.trans e2).trans e3) hd
    have L2 := L1.to e2
    refine q_if (et_of (ev_eqI (ev_v L2 rfl) (ev_int (i := 2)))) (fun hb' H3 e3 => ?_) (fun hb' H3 e3 => ?_)
    · have L3 := L2.to e3
      match x, of_decide_eq_true hb', hx, L3, k with
      | .str y, _, hx, L3, k =>
        refine s_ret (d := .tuple [.str y, .int ((A.length + (encVal (.str y)).length : Nat) : Int)]) ((ev_F (A ++ [2], y, B) (ea_2 ((ev_v L3 rfl).is (snoc_d _ _ _ _)) ((ev_I0 (ev_v L3 rfl) ev_int).is (by rw [snoc_len]))) hx.s).is ?_) fun v H4 e4 hd => k v H4 (((e1.trans e2).trans e3).trans e4) hd
        show PyData.tuple [_, _] = PyData.tuple [_, _]
        congr 4
        show (((A ++ [2]).length + (encText y).length : Nat) : Int) = ((A.length + (2 :: encText y).length : Nat) : Int)
        rw [List.length_append, List.length_cons, List.length_cons, List.length_nil]
        congr 1
        omega
    have L3 := L2.to e3
    match x, hb, hb', hx, L3, k with
    | .int y, _, _, hx, L3, k =>
      refine q_skip (et_of ((ev_neI (ev_v L3 rfl) (ev_int (i := 1))).is rfl)) fun H4 e4 => ?_
      have L4 := L3.to e4
      refine q_un2 (d1 := .int y) (d2 := .int ((A.length + (encVal (.int y)).length : Nat) : Int)) ((ev_F (A ++ [1], y, B) (ea_2 ((ev_v L4 rfl).is (snoc_d _ _ _ _)) ((ev_I0 (ev_v L4 rfl) ev_int).is (by rw [snoc_len]))) hx.i).is ?_) L4 fun v5 w5 H5 e5 _ _ L5 => ?_
      · show PyData.tuple [_, _] = PyData.tuple [_, _]
        congr 4
        show (((A ++ [1]).length + (encNum (zig y)).length : Nat) : Int) = ((A.length + (1 :: encNum (zig y)).length : Nat) : Int)
        rw [List.length_append, List.length_cons, List.length_cons, List.length_nil]
        congr 1
        omega
      have hy : -1000000000000000000 ≤ y ∧ y ≤ 1000000000000000000 := hx.i
      refine q_skip ((et_not (et_B (ev_ch (ev_U ev_int) (ev_v L5 rfl) ev_int))).is (by rw [decide_eq_true hy.1, decide_eq_true hy.2]; rfl)) fun H6 e6 => ?_
      have L6 := L5.to e6
      refine s_ret (d := .tuple [.int y, .int ((A.length + (encVal (.int y)).length : Nat) : Int)]) (ev_tup (ea_2 (ev_v L6 rfl) (ev_v L6 rfl)) len2) fun v H7 e7 hd => k v H7 ((((((e1.trans e2).trans e3).trans e4).trans e5).trans e6).trans e7) hd
end Sp
set_option Elab.async false
set_option linter.all false
set_option maxRecDepth 100000
set_option maxHeartbeats 4000000
namespace Sp
open PySem PySem.Spec PyProof.Rows L2
/-- writes as they are met -/
structure WrOk (w : Wr) : Prop where
  ok : w.Ok
  len : w.length ≤ 3
  asc : w.Asc
theorem encVal_len {x : Val} (h : ValOk x) : (encVal x).length ≤ 42 := by
  cases x with
  | non => decide
  | int i =>
    have := encNum_9 (zig_lt h.i)
    show (1 :: encNum (zig i)).length ≤ 42
    rw [List.length_cons]
    omega
  | str y =>
    have hy : y.cps.size ≤ 32 := h.1
    have := encNum_9 (n := y.length) (by rw [len_k]; omega)
    show (2 :: encText y).length ≤ 42
    unfold encText
    rw [List.length_cons, List.length_append, codes_len]
    omega
theorem encPair_len {p : Str × Val} (h : KeyOk p.1 ∧ ValOk p.2) : (encPair p).length ≤ 59 := by
  unfold encPair
  rw [List.length_append, encKey_len]
  have := encVal_len h.2
  have := h.1.len
  omega
theorem encPairs_len : ∀ {w : Wr}, w.Ok → (encPairs w).length ≤ 59 * w.length
  | [], _ => by decide
  | p :: w, h => by
    have h1 := encPair_len (h p List.mem_cons_self)
    have h2 := encPairs_len (w := w) fun q hq => h q (List.mem_cons_of_mem _ hq)
    show (encPair p ++ encPairs w).length ≤ _
    rw [List.length_append, List.length_cons]
    omega
theorem encWr_len {w : Wr} (h : WrOk w) : (encWr w).length ≤ 186 := by
  unfold encWr
  rw [List.length_append]
  have := encPairs_len h.ok
  have := h.len
  have := encNum_9 (n := w.length) (by omega)
  omega
theorem ok_take {w : Wr} (h : w.Ok) (i : Nat) : Wr.Ok (w.take i) := fun p hp => h p (List.mem_of_mem_take hp)
theorem strOk_of {x : Str} {cs : List Nat} (h : ∀ c ∈ x.cps.toList, c ∈ cs) (hc : cs.all (· < 0x110000) = true) : PyData.strOk x = true := by
  show x.cps.all (· < 0x110000) = true
  rw [← Array.all_toList, List.all_eq_true]
  intro c hm
  exact List.all_eq_true.mp hc c (h c hm)
theorem Sd.key {x : Str} (h : KeyOk x) (n : Nat) : Sd n (.str x) := Sd.str (strOk_of h.sig (by decide))
theorem Sd.val {x : Val} (h : ValOk x) (n : Nat) : Sd n x.d := by
  cases x with
  | non => exact Sd.non n
  | int i => exact Sd.int n i
  | str y => exact Sd.str (strOk_of h.2 (by decide))
theorem Sd.pair {p : Str × Val} (h : KeyOk p.1 ∧ ValOk p.2) : Sd 1 (pairD p) := Sd.tup fun d hd => by
  rcases List.mem_cons.mp hd with rfl | hd
  · exact Sd.key h.1 0
  · rw [List.mem_singleton.mp hd]
    exact Sd.val h.2 0
theorem Sd.prs {w : Wr} (h : w.Ok) : ∀ d ∈ w.map pairD, Sd 1 d := fun d hd => by
  obtain ⟨p, hp, rfl⟩ := List.mem_map.mp hd
  exact Sd.pair (h p hp)
theorem Sd.wr {w : Wr} (h : w.Ok) : Sd 2 (wrD w) := Sd.tup (Sd.prs h)
theorem g_un2 {K : PySem.W.Frag} {l : L2.St} {H : Hp} {G : List (Option PyData)} {d1 d2 : PyData} {v : V} {n m : Nat} {N : L2.St → Hp → Prop} (h : Dt H (.tuple [d1, d2]) v) (L : Loc H G l) (k : ∀ v w, Dt H d1 v → Dt H d2 w → Loc H ((G.set n (some d1)).set m (some d2)) ((l.set n (some v)).set m (some w)) → N ((l.set n (some v)).set m (some w)) H) :
    gTup K 2 (gCons (gName n) (gCons (gName m) gNil)) v l H N := by
  obtain ⟨a, xs, rfl, ha, v1, vs1, rfl, h1, v2, vs2, rfl, h2, rfl⟩ := h
  exact ⟨a, _, rfl, (.inl ha), rfl, v1, _, rfl, v2, _, rfl, rfl, k v1 v2 h1 h2 (Loc.set h2 m (Loc.set h1 n L))⟩
theorem map_at {α β : Type} {f : α → β} {l : List α} {i : Nat} {b : β} (h : (l.map f)[i]? = some b) : ∃ a, l[i]? = some a ∧ f a = b := by
  rw [List.getElem?_map] at h
  cases e : l[i]? with
  | none => rw [e] at h; cases h
  | some a => rw [e] at h; exact ⟨a, rfl, Option.some.inj h⟩
theorem sc_put_writes : FnScope ["pairs", "found", "key", "value"] ["pairs"] (defScope s_put_writes) := ⟨rfl, rfl, rfl, by decide +kernel, rfl, by decide +kernel, by decide +kernel⟩
theorem d_put_writes {c : Cn} (T : Tx c) : Df c "put_writes" 4 ["pairs"] (spF (fun (w : Wr) => [wrD w]) WrOk (fun w => octD (encWr w))) :=
  T.df 18 18 rfl rfl sc_put_writes (fun _ _ _ _ _ _ us hl => match us, hl with | [_], _ => rfl) (ln_F fun _ => rfl) fun f cdv A outer s H vs Q E hr h => by
    refine ⟨_, (pss_cons (ps_set (i := 1) sc_put_writes.nd rfl (by first | exact Or.inl rfl | exact Or.inr rfl) (pe_d (d_put_number T) (hr.mono (by decide)) (pa_cons (pe_callB call_len_seq (by rfl) T.n_len (by decide +kernel) (pa_cons (pv 0) pa_nil)) pa_nil)))
    (pss_cons (ps_for PassesOwn.never rfl (pi_tup (pv 0)) (pg_tup (by rfl) (pgs_cons (pg_name (i := 2) sc_put_writes.nd rfl (by first | exact Or.inl rfl | exact Or.inr rfl)) (pgs_cons (pg_name (i := 3) sc_put_writes.nd rfl (by first | exact Or.inl rfl | exact Or.inr rfl)) pgs_nil))) (pss_one (ps_aug (i := 1) sc_put_writes.nd rfl (by first | exact Or.inl rfl | exact Or.inr rfl) (pe_op op_catA (pe_d (d_put_key T) (hr.mono (by decide)) (pa_cons (pv 2) pa_nil)) (pe_d (d_put_value T) (hr.mono (by decide)) (pa_cons (pv 3) pa_nil))) ip_catA)))
    (pss_one (ps_ret (pv 1))))), ?_⟩
    obtain ⟨w, hv, hw, k⟩ := h
    have L := Loc.start (N := ["pairs", "found", "key", "value"]) hv
    have hn := encNum_9 (n := w.length) (by have := hw.len; omega)
    refine q_asg (d := octD (encNum w.length)) (ev_F w.length (ea_1 ((ev_len (ds := w.map pairD) (ev_v L rfl)).is (by rw [List.length_map]))) (by have := hw.len; omega)) L fun v1 H1 e1 _ L1 => ?_
    refine q_forV (ds := w.map pairD) L1 rfl (fun i l' H' => Same H1 H' ∧ Loc H' [some (wrD w), some (octD (encNum w.length ++ encPairs (w.take i))), none, none] l') ⟨Same.refl _, ?_⟩ (fun i l' H' h => tk_same h.1) ?_ ?_
    · rw [List.take_zero]
      show Loc H1 [some (wrD w), some (octD (encNum w.length ++ [])), none, none] _
      rw [List.append_nil]
      exact L1
    · rintro i d v l' H' hi hd ⟨s, L2⟩
      obtain ⟨p, hp, rfl⟩ := map_at hi
      have hpw : p ∈ w := List.mem_of_getElem? hp
      refine g_un2 (d1 := .str p.1) (d2 := p.2.d) hd L2 fun v3 w3 h3 h4 L3 => ?_
      have hl := encPairs_len (ok_take hw.ok i)
      have hl2 : (w.take i).length ≤ 3 := by rw [List.length_take]; have := hw.len; omega
      have hk1 := (hw.ok p hpw).1.len
      have hk2 := encVal_len (hw.ok p hpw).2
      refine s_augC (ds := (encNum w.length ++ encPairs (w.take i)).map .int) (es := (encPair p).map .int) L3 rfl ((ev_cat (ds := (encKey p.1).map .int) (es := (encVal p.2).map .int) (ev_F p.1 (ea_1 (ev_v L3 rfl)) (by omega)) (ev_F p.2 (ea_1 (ev_v L3 rfl)) (hw.ok p hpw).2) (by rw [List.length_map, List.length_map, encKey_len]; omega)).is (octD_app _ _)) ?_ fun v4 H4 e4 _ L4 => ⟨s.trans e4, ?_⟩
      · have := encPair_len (hw.ok p hpw)
        rw [List.length_map, List.length_map, List.length_append]
        omega
      · have e5 : (PyData.tuple ((encNum w.length ++ encPairs (w.take i)).map .int ++ (encPair p).map .int)) = octD (encNum w.length ++ encPairs (w.take (i + 1))) := by
          rw [octD_app, List.append_assoc]
          unfold encPairs
          rw [take_flat hp]
        rw [e5] at L4
        exact (L4.wk 2).wk 3
    · rintro l' H' ⟨s, L2⟩
      rw [List.length_map, List.take_length] at L2
      exact s_ret (d := octD (encWr w)) (ev_v L2 rfl) fun v H2 e2 hd => k v H2 ((e1.trans s).trans e2) hd
def GpPre (p : Oct × Wr × Oct × Bool) : Prop := WrOk p.2.1 ∧ (p.2.2.2 = true → ∀ q ∈ p.2.1, q.2 ≠ .non)
def gpRes (p : Oct × Wr × Oct × Bool) : PyData := .tuple [wrD p.2.1, .int ((p.1.length + (encWr p.2.1).length : Nat) : Int)]
theorem isNo_d {x : Val} (h : x ≠ .non) : isNo x.d = false := by
  cases x with
  | non => exact absurd rfl h
  | int _ => rfl
  | str _ => rfl
theorem asc_at {w : Wr} (h : w.Asc) {i : Nat} {p q : Str × Val} (hp : w[i]? = some p) (hq : w[i + 1]? = some q) : ltS p.1 q.1 := by
  have hi : i + 1 < w.length := (List.getElem?_eq_some_iff.mp hq).1
  have h2 := List.pairwise_iff_getElem.mp h i (i + 1) (by rw [List.length_map]; omega) (by rw [List.length_map]; omega) (by omega)
  rw [List.getElem_map, List.getElem_map] at h2
  rw [(List.getElem?_eq_some_iff.mp hp).2, (List.getElem?_eq_some_iff.mp hq).2] at h2
  exact h2
theorem sc_get_pairs : FnScope ["octets", "at", "is_whole", "many", "end", "found", "key", "behind", "value"] ["octets", "at", "is_whole"] (defScope s_get_pairs) := ⟨rfl, rfl, rfl, by decide +kernel, rfl, by decide +kernel, by decide +kernel⟩
theorem d_get_pairs {c : Cn} (T : Tx c) : Df c "get_pairs" 5 ["octets", "at", "is_whole"] (spF (fun (p : Oct × Wr × Oct × Bool) => [octD (p.1 ++ encWr p.2.1 ++ p.2.2.1), .int (p.1.length : Nat), .bool p.2.2.2]) GpPre gpRes) :=
  T.df 19 19 rfl rfl sc_get_pairs (fun _ _ _ _ _ _ us hl => match us, hl with | [_, _, _], _ => rfl) (ln_F fun _ => rfl) fun f cdv A outer s H vs Q E hr h => by
    refine ⟨_, (pss_cons (ps_asg (pe_d (d_get_number T) (hr.mono (by decide)) (pa_cons (pv 0) (pa_cons (pv 1) pa_nil))) (pg_tup (by rfl) (pgs_cons (pg_name (i := 3) sc_get_pairs.nd rfl (by first | exact Or.inl rfl | exact Or.inr rfl)) (pgs_cons (pg_name (i := 4) sc_get_pairs.nd rfl (by first | exact Or.inl rfl | exact Or.inr rfl)) pgs_nil))))
    (pss_cons (ps_set (i := 5) sc_get_pairs.nd rfl (by first | exact Or.inl rfl | exact Or.inr rfl) (pe_lst pa_nil))
    (pss_cons (ps_while PassesOwn.never (pt_cmpR op_lt (pe_callB call_len_seq (by rfl) T.n_len (by decide +kernel) (pa_cons (pv 5) pa_nil)) (pv 3) (nomark _)) (pss_cons (ps_asg (pe_d (d_get_key T) (hr.mono (by decide)) (pa_cons (pv 0) (pa_cons (pv 4) pa_nil))) (pg_tup (by rfl) (pgs_cons (pg_name (i := 6) sc_get_pairs.nd rfl (by first | exact Or.inl rfl | exact Or.inr rfl)) (pgs_cons (pg_name (i := 7) sc_get_pairs.nd rfl (by first | exact Or.inl rfl | exact Or.inr rfl)) pgs_nil))))
    (pss_cons (ps_if (PW.pt (pw_and (pt_cmpR (op_neD hr.units) (pv 5) (pe_lst pa_nil) (nomark _)) (pw_and1 (pt_cmpR op_le_str (pv 6) (pe_ix ix_tup (pe_ix ix_list (pv 5) (pe_un un_neg pe_int) (fun _ _ => rfl)) pe_int (fun _ _ => rfl)) (nomark _))))) (pss_one ps_never) pss_nil)
    (pss_cons (ps_asg (pe_d (d_get_value T) (hr.mono (by decide)) (pa_cons (pv 0) (pa_cons (pv 7) pa_nil))) (pg_tup (by rfl) (pgs_cons (pg_name (i := 8) sc_get_pairs.nd rfl (by first | exact Or.inl rfl | exact Or.inr rfl)) (pgs_cons (pg_name (i := 4) sc_get_pairs.nd rfl (by first | exact Or.inl rfl | exact Or.inr rfl)) pgs_nil))))
    (pss_cons (ps_if (PW.pt (pw_and (pt_val (pv 2)) (pw_and1 (pt_cmpR op_isN (pv 8) pe_non (nomark _))))) (pss_one ps_never) pss_nil)
    (pss_one (ps_expr (pe_bm PySem.F.plainAttrs_list PySem.F.slot_list_append PySem.F.type_list_append mt_append (pv 5) (pa_cons (pe_tup (pa_cons (pv 6) (pa_cons (pv 8) pa_nil))) pa_nil)))))))))
    (pss_one (ps_ret (pe_tup (pa_cons (pe_callTy call_tuple_of (by rfl) T.n_tuple (by decide +kernel) (pa_cons (pv 5) pa_nil)) (pa_cons (pv 4) pa_nil)))))))), ?_⟩
    obtain ⟨⟨A, w, B, g⟩, hv, ⟨hw, hg⟩, k⟩ := h
    dsimp only at hv hw hg
    have L := Loc.start (N := ["octets", "at", "is_whole", "many", "end", "found", "key", "behind", "value"]) hv
    have hlen := hw.len
    refine q_un2 (d1 := .int (w.length : Nat)) (d2 := .int ((A.length + (encNum w.length).length : Nat) : Int)) (ev_F (A, w.length, encPairs w ++ B) (ea_2 ((ev_v L rfl).is (by show octD _ = octD _; unfold encWr; simp only [List.append_assoc])) (ev_v L rfl)) (by show w.length < _; omega)) L fun v w' H1 e1 h1 h2 L1 => ?_
    refine q_asgL (ds := []) (el_lst ea_nil (by decide)) L1 fun p xs H2 hp2 e2 h2' hx2 L2 => ?_
    have hpf : H p = none := Same.free e1 hp2
    refine q_while (fun m l' H' => ∃ i xs, m = w.length - i ∧ i ≤ w.length ∧ Same H H' ∧ Loc H' [some (octD (A ++ encWr w ++ B)), some (.int (A.length : Nat)), some (.bool g), some (.int (w.length : Nat)), some (.int ((A.length + ((encNum w.length).length + (encPairs (w.take i)).length) : Nat) : Int)), none, none, none, none] l' ∧ l'[5]? = some (some (.ref p)) ∧ H' p = some (.lst xs) ∧ Dts H' ((w.take i).map pairD) xs) w.length ⟨0, xs, rfl, Nat.zero_le _, e1.trans e2, ?_, ?_, h2', hx2⟩ ?_
    · exact L2
    · obtain ⟨v, vs, rfl, h0, w, ws, rfl, h2, z, zs, rfl, h3, rfl⟩ := hv
      rfl
    rintro m l' H3 ⟨i, xs, rfl, hi, s3, L3, l3, h3, hx3⟩
    have hxl : xs.length = i := by rw [hx3.len, List.length_map, List.length_take]; omega
    refine ⟨decide (i < w.length), et_of ((ev_B0 (ev_lenL (vv_at l3) h3) (ev_v L3 rfl)).is (by rw [hxl]; congr 1; exact decide_eq_decide.mpr (by omega))), fun hb H4 e4 => ?_, fun hb H4 e4 => ?_⟩
    · have hlt := of_decide_eq_true hb
      obtain ⟨q, hq⟩ : ∃ q, w[i]? = some q := ⟨w[i], List.getElem?_eq_getElem hlt⟩
      have hqw : q ∈ w := List.mem_of_getElem? hq
      have L4 := L3.to e4
      have hsp : encPairs w = encPairs (w.take i) ++ (encKey q.1 ++ (encVal q.2 ++ encPairs (w.drop (i + 1)))) := by
        unfold encPairs
        rw [flat_split encPair hq]
        show _ ++ ((encKey q.1 ++ encVal q.2) ++ _) = _
        rw [List.append_assoc (encKey q.1)]
      have hall : A ++ encWr w ++ B = (A ++ (encNum w.length ++ encPairs (w.take i))) ++ encKey q.1 ++ (encVal q.2 ++ (encPairs (w.drop (i + 1)) ++ B)) := by
        unfold encWr
        rw [hsp]
        simp only [List.append_assoc]
      have hall2 : A ++ encWr w ++ B = ((A ++ (encNum w.length ++ encPairs (w.take i))) ++ encKey q.1) ++ encVal q.2 ++ (encPairs (w.drop (i + 1)) ++ B) := by
        rw [hall]
        simp only [List.append_assoc]
      refine q_un2 (d1 := .str q.1) (d2 := .int ((A.length + ((encNum w.length).length + (encPairs (w.take i)).length) + (encKey q.1).length : Nat) : Int)) ((ev_F (A ++ (encNum w.length ++ encPairs (w.take i)), q.1, encVal q.2 ++ (encPairs (w.drop (i + 1)) ++ B)) (ea_2 ((ev_v L4 rfl).is (by rw [hall])) ((ev_v L4 rfl).is (by simp only [List.length_append]))) (hw.ok q hqw).1).is (by simp only [List.length_append])) L4 fun v5 w5 H5 e5 _ _ L5 => ?_
      have l5 : ((l'.set 6 (some v5)).set 7 (some w5))[5]? = some (some (.ref p)) := by rw [List.getElem?_set_ne (by decide), List.getElem?_set_ne (by decide)]; exact l3
      have h5 := e5 _ _ (e4 _ _ h3)
      have hx5 := (hx3.to e4).to e5
      have hsh : SeqAt.shaped (.list ((w.take i).map pairD)) = true := (Sd.lst (Sd.prs (ok_take hw.ok i))).shaped
      refine q_skip ((et_and (b := !((w.take i).map pairD).isEmpty) (c := false) (et_of (ev_neL (vv_at l5) h5 hx5 (el_lst ea_nil (by decide)) hsh)) fun hne => ?_).is (by rw [Bool.and_false])) fun H6 e6 => ?_
      · obtain ⟨j, rfl⟩ : ∃ j, i = j + 1 := ⟨i - 1, by
          have : i ≠ 0 := by
            rintro rfl
            rw [List.take_zero] at hne
            exact Bool.noConfusion hne
          omega⟩
        obtain ⟨r, hr'⟩ : ∃ r, w[j]? = some r := ⟨w[j]'(by omega), List.getElem?_eq_getElem (by omega)⟩
        have hlast : ((w.take (j + 1)).map pairD).getLast? = some (pairD r) := by rw [take_map hr', List.getLast?_concat]
        have hlt2 := asc_at hw.asc hr' hq
        refine et_of ((ev_leS (x := q.1) (y := r.1) rfl (ev_v L5 rfl) (ev_ix (ds := [.str r.1, r.2.d]) (i := 0) (ev_ixL (i := -1) (vv_at l5) h5 hx5 (ev_U ev_int) (atI_last hlast)) ev_int rfl)).is ?_)
        rw [decide_eq_true (show r.1.cps.toList < q.1.cps.toList from hlt2)]
        rfl
      have L6 := L5.to e6
      refine q_un2 (d1 := q.2.d) (d2 := .int ((A.length + ((encNum w.length).length + (encPairs (w.take (i + 1))).length) : Nat) : Int)) ((ev_F ((A ++ (encNum w.length ++ encPairs (w.take i))) ++ encKey q.1, q.2, encPairs (w.drop (i + 1)) ++ B) (ea_2 ((ev_v L6 rfl).is (by rw [hall2])) ((ev_v L6 rfl).is (by simp only [List.length_append]))) (hw.ok q hqw).2).is ?_) L6 fun v7 w7 H7 e7 hd7 _ L7 => ?_
      · congr 4
        unfold encPairs
        rw [take_flat hq]
        unfold encPair
        simp only [List.length_append]
        omega
      have l7 : ((((l'.set 6 (some v5)).set 7 (some w5)).set 8 (some v7)).set 4 (some w7))[5]? = some (some (.ref p)) := by
        rw [List.getElem?_set_ne (by decide), List.getElem?_set_ne (by decide)]
        exact l5
      refine q_skip ((et_and (b := g) (c := isNo q.2.d) (et_B (ev_v L7 rfl)) fun _ => et_of (ev_isN rfl (ev_v L7 rfl))).is ?_) fun H8 e8 => ?_
      · cases g with
        | false => rfl
        | true => rw [isNo_d (hg rfl q hqw)]; rfl
      have L8 := L7.to e8
      have e58 := (e6.trans e7).trans e8
      refine s_app (d := pairD q) (e58 _ _ h5) l7 (ev_tup (ea_2 (ev_v L8 rfl) (ev_v L8 rfl)) len2) (by rw [hxl]; omega) fun v9 H9 e9 hd9 => ?_
      have h9 := e9 _ _ (e58 _ _ h5)
      have k9 : Tk H9 (upd H9 p (.lst (xs ++ [v9]))) := tk_upd h9
      refine ⟨w.length - (i + 1), by omega, i + 1, xs ++ [v9], rfl, hlt, same_mut ((((s3.trans e4).trans e5).trans e58).trans e9) hpf, ?_, l7, upd_same, ?_⟩
      · exact (((((L8.to e9).tk k9).wk 6).wk 7).wk 8).wk 5
      · rw [take_map hq]
        exact Dts.tk k9 _ (((hx5.to e58).to e9).app (Dts.one hd9))
    · have : i = w.length := by have := of_decide_eq_false hb; omega
      subst this
      have L4 := L3.to e4
      rw [List.take_length] at L4 hx3
      refine s_ret (d := gpRes (A, w, B, g)) (ev_tup (ea_2 (ev_tuLs (vv_at l3) (e4 _ _ h3) (hx3.to e4)) ((ev_v L4 rfl).is ?_)) len2) fun v H6 e6 hd => k v H6 ((s3.trans e4).trans e6) hd
      show PyData.int _ = PyData.int _
      unfold encWr
      rw [List.length_append]
theorem sc_get_writes : FnScope ["octets", "at"] ["octets", "at"] (defScope s_get_writes) := ⟨rfl, rfl, rfl, by decide +kernel, rfl, by decide +kernel, by decide +kernel⟩
theorem d_get_writes {c : Cn} (T : Tx c) : Df c "get_writes" 6 ["octets", "at"] (spF (fun (p : Oct × Wr × Oct) => [octD (p.1 ++ encWr p.2.1 ++ p.2.2), .int (p.1.length : Nat)]) (fun p => WrOk p.2.1) (fun p => .tuple [wrD p.2.1, .int ((p.1.length + (encWr p.2.1).length : Nat) : Int)])) :=
  T.df 20 20 rfl rfl sc_get_writes (fun _ _ _ _ _ _ us hl => match us, hl with | [_, _], _ => rfl) (ln_F fun _ => rfl) fun f cdv A outer s H vs Q E hr h => by
    refine ⟨_, (pss_one (ps_ret (pe_d (d_get_pairs T) (hr.mono (by decide)) (pa_cons (pv 0) (pa_cons (pv 1) (pa_cons pe_bl pa_nil)))))), ?_⟩
    obtain ⟨⟨A, w, B⟩, hv, hw, k⟩ := h
    dsimp only at hv hw k
    have L := Loc.start (N := ["octets", "at"]) hv
    exact s_ret (ev_F (A, w, B, false) (ea_3 (ev_v L rfl) (ev_v L rfl) ev_bl) ⟨hw, fun z => nomatch z⟩) fun v H1 e1 hd => k v H1 e1 hd
theorem sc_put_entries : FnScope ["entries"] ["entries"] (defScope s_put_entries) := ⟨rfl, rfl, rfl, by decide +kernel, rfl, by decide +kernel, by decide +kernel⟩
theorem d_put_entries {c : Cn} (T : Tx c) : Df c "put_entries" 5 ["entries"] (spF (fun (w : Wr) => [wrD w]) WrOk (fun w => octD (encWr w))) :=
  T.df 21 21 rfl rfl sc_put_entries (fun _ _ _ _ _ _ us hl => match us, hl with | [_], _ => rfl) (ln_F fun _ => rfl) fun f cdv A outer s H vs Q E hr h => by
    refine ⟨_, (pss_one (ps_ret (pe_d (d_put_writes T) (hr.mono (by decide)) (pa_cons (pv 0) pa_nil)))), ?_⟩
    obtain ⟨w, hv, hw, k⟩ := h
    have L := Loc.start (N := ["entries"]) hv
    exact s_ret (ev_F w (ea_1 (ev_v L rfl)) hw) fun v H1 e1 hd => k v H1 e1 hd
def Full (w : Wr) : Prop := ∀ q ∈ w, q.2 ≠ .non
theorem sc_get_entries : FnScope ["octets", "at"] ["octets", "at"] (defScope s_get_entries) := ⟨rfl, rfl, rfl, by decide +kernel, rfl, by decide +kernel, by decide +kernel⟩
theorem d_get_entries {c : Cn} (T : Tx c) : Df c "get_entries" 6 ["octets", "at"] (spF (fun (p : Oct × Wr × Oct) => [octD (p.1 ++ encWr p.2.1 ++ p.2.2), .int (p.1.length : Nat)]) (fun p => WrOk p.2.1 ∧ Full p.2.1) (fun p => .tuple [wrD p.2.1, .int ((p.1.length + (encWr p.2.1).length : Nat) : Int)])) :=
  T.df 22 22 rfl rfl sc_get_entries (fun _ _ _ _ _ _ us hl => match us, hl with | [_, _], _ => rfl) (ln_F fun _ => rfl) fun f cdv A outer s H vs Q E hr h => by
    refine ⟨_, (pss_one (ps_ret (pe_d (d_get_pairs T) (hr.mono (by decide)) (pa_cons (pv 0) (pa_cons (pv 1) (pa_cons pe_bl pa_nil)))))), ?_⟩
    obtain ⟨⟨A, w, B⟩, hv, hw, k⟩ := h
    dsimp only at hv hw k
    have L := Loc.start (N := ["octets", "at"]) hv
    exact s_ret (ev_F (A, w, B, true) (ea_3 (ev_v L rfl) (ev_v L rfl) ev_bl) ⟨hw.1, fun _ => hw.2⟩) fun v H1 e1 hd => k v H1 e1 hd
/-! ### sums -/
theorem ckStep_bd (t x : Int) : 0 ≤ ckStep t x ∧ ckStep t x < 4294967291 := by unfold ckStep; omega
theorem ckFold_bd : ∀ (o : Oct) (t : Int), 0 ≤ t ∧ t < 4294967291 → 0 ≤ o.foldl ckStep t ∧ o.foldl ckStep t < 4294967291
  | [], _, h => h
  | x :: o, t, _ => ckFold_bd o (ckStep t x) (ckStep_bd t x)
theorem ckSum_bd (o : Oct) : 0 ≤ ckSum o ∧ ckSum o < 4294967291 := ckFold_bd o 1 (by decide)
theorem sc_check_sum : FnScope ["octets", "total", "octet"] ["octets"] (defScope s_check_sum) := ⟨rfl, rfl, rfl, by decide +kernel, rfl, by decide +kernel, by decide +kernel⟩
theorem d_check_sum {c : Cn} (T : Tx c) : Df c "check_sum" 1 ["octets"] (spF (fun (o : Oct) => [octD o]) (fun _ => True) (fun o => .int (ckSum o))) :=
  T.df 23 23 rfl rfl sc_check_sum (fun _ _ _ _ _ _ us hl => match us, hl with | [_], _ => rfl) (ln_F fun _ => rfl) fun f cdv A outer s H vs Q E hr h => by
    refine ⟨_, (pss_cons (ps_set (i := 1) sc_check_sum.nd rfl (by first | exact Or.inl rfl | exact Or.inr rfl) pe_int)
    (pss_cons (ps_for PassesOwn.never rfl (pi_tup (pv 0)) (pg_name (i := 2) sc_check_sum.nd rfl (by first | exact Or.inl rfl | exact Or.inr rfl)) (pss_one (ps_set (i := 1) sc_check_sum.nd rfl (by first | exact Or.inl rfl | exact Or.inr rfl) (pe_op op_mod (pe_op op_add (pe_op op_mul (pv 1) pe_int) (pv 2)) (pe_k T.k_MODULUS)))))
    (pss_one (ps_ret (pv 1))))), ?_⟩
    obtain ⟨o, hv, _, k⟩ := h
    have L := Loc.start (N := ["octets", "total", "octet"]) hv
    refine q_asg (d := .int 1) ev_int L fun v1 H1 e1 _ L1 => ?_
    refine q_forV (ds := o.map .int) L1 rfl (fun i l' H' => Same H1 H' ∧ Loc H' [some (octD o), some (.int ((o.take i).foldl ckStep 1)), none] l') ⟨Same.refl _, L1⟩ (fun i l' H' h => tk_same h.1) ?_ ?_
    · rintro i d v l' H' hi hd ⟨s, L2⟩
      obtain ⟨x, hx, rfl⟩ := map_at hi
      have L3 := L2.set (d := .int x) hd 2
      refine s_asg (d := .int (ckStep ((o.take i).foldl ckStep 1) x)) (ev_I (ev_I0 (ev_I (C := CMul) (ev_v L3 rfl) (ev_int (i := 256)) (.inr (by decide))) (ev_v L3 rfl)) (ev_int (i := 4294967291)) (by decide)) L3 fun v4 H4 e4 _ L4 => ⟨s.trans e4, ?_⟩
      rw [take_fold hx]
      exact L4.wk 2
    · rintro l' H' ⟨s, L2⟩
      rw [List.length_map, List.take_length] at L2
      exact s_ret (d := .int (ckSum o)) (ev_v L2 rfl) fun v H2 e2 hd => k v H2 ((e1.trans s).trans e2) hd
theorem sc_pair_of : FnScope ["number"] ["number"] (defScope s_pair_of) := ⟨rfl, rfl, rfl, by decide +kernel, rfl, by decide +kernel, by decide +kernel⟩
theorem d_pair_of {c : Cn} (T : Tx c) : Df c "pair_of" 1 ["number"] (spF (fun (n : Int) => [.int n]) (fun n => 0 ≤ n) (fun n => octD (pair2 n))) :=
  T.df 24 24 rfl rfl sc_pair_of (fun _ _ _ _ _ _ us hl => match us, hl with | [_], _ => rfl) (ln_F fun _ => rfl) fun f cdv A outer s H vs Q E hr h => by
    refine ⟨_, (pss_one (ps_ret (pe_tup (pa_cons (pe_op op_shr (pv 0) pe_int) (pa_cons (pe_op op_and (pv 0) pe_int) pa_nil))))), ?_⟩
    obtain ⟨n, hv, hn, k⟩ := h
    have L := Loc.start (N := ["number"]) hv
    exact s_ret (d := octD (pair2 n)) (ev_tup (ea_2 ((ev_I (ev_v L rfl) (ev_int (i := 8)) (by decide)).is (congrArg PyData.int (show n / 2 ^ (8 : Int).toNat = n / 256 from rfl))) ((ev_I0 (ev_v L rfl) (ev_int (i := 255))).is (congrArg PyData.int (show Builtin.bitAnd n 255 = n % 256 from Bits.bitAnd_mask 8 hn)))) len2) fun v H1 e1 hd => k v H1 e1 hd
theorem sc_sum_octets : FnScope ["octets", "total"] ["octets"] (defScope s_sum_octets) := ⟨rfl, rfl, rfl, by decide +kernel, rfl, by decide +kernel, by decide +kernel⟩
theorem d_sum_octets {c : Cn} (T : Tx c) : Df c "sum_octets" 2 ["octets"] (spF (fun (o : Oct) => [octD o]) (fun _ => True) (fun o => octD (sumOct o))) :=
  T.df 25 25 rfl rfl sc_sum_octets (fun _ _ _ _ _ _ us hl => match us, hl with | [_], _ => rfl) (ln_F fun _ => rfl) fun f cdv A outer s H vs Q E hr h => by
    refine ⟨_, (pss_cons (ps_set (i := 1) sc_sum_octets.nd rfl (by first | exact Or.inl rfl | exact Or.inr rfl) (pe_d (d_check_sum T) (hr.mono (by decide)) (pa_cons (pv 0) pa_nil)))
    (pss_one (ps_ret (pe_op op_catA (pe_d (d_pair_of T) (hr.mono (by decide)) (pa_cons (pe_op op_shr (pv 1) pe_int) pa_nil)) (pe_d (d_pair_of T) (hr.mono (by decide)) (pa_cons (pe_op op_and (pv 1) pe_int) pa_nil)))))), ?_⟩
    obtain ⟨o, hv, _, k⟩ := h
    have L := Loc.start (N := ["octets", "total"]) hv
    have hb := ckSum_bd o
    refine q_asg (d := .int (ckSum o)) (ev_F o (ea_1 (ev_v L rfl)) trivial) L fun v1 H1 e1 _ L1 => ?_
    exact s_ret (d := octD (sumOct o)) ((ev_cat (ds := (pair2 (ckSum o / 65536)).map .int) (es := (pair2 (ckSum o % 65536)).map .int) (ev_F (ckSum o / 65536) (ea_1 ((ev_I (ev_v L1 rfl) (ev_int (i := 16)) (by decide)).is (congrArg PyData.int (show ckSum o / 2 ^ (16 : Int).toNat = ckSum o / 65536 from rfl)))) (by omega)) (ev_F (ckSum o % 65536) (ea_1 ((ev_I0 (ev_v L1 rfl) (ev_int (i := 65535))).is (congrArg PyData.int (show Builtin.bitAnd (ckSum o) 65535 = ckSum o % 65536 from Bits.bitAnd_mask 16 hb.1)))) (by omega)) (by show 2 + 2 ≤ _; decide)).is (octD_app _ _)) fun v H2 e2 hd => k v H2 (e1.trans e2) hd
theorem sc_put_frame : FnScope ["body", "framed"] ["body"] (defScope s_put_frame) := ⟨rfl, rfl, rfl, by decide +kernel, rfl, by decide +kernel, by decide +kernel⟩
theorem d_put_frame {c : Cn} (T : Tx c) : Df c "put_frame" 3 ["body"] (spF (fun (b : Oct) => [octD b]) (fun b => b.length ≤ 65535) (fun b => octD (frame b))) :=
  T.df 26 26 rfl rfl sc_put_frame (fun _ _ _ _ _ _ us hl => match us, hl with | [_], _ => rfl) (ln_F fun _ => rfl) fun f cdv A outer s H vs Q E hr h => by
    refine ⟨_, (pss_cons (ps_if (pt_cmpR op_gt (pe_callB call_len_seq (by rfl) T.n_len (by decide +kernel) (pa_cons (pv 0) pa_nil)) (pe_k T.k_LONGEST_BODY) (nomark _)) (pss_one ps_never) pss_nil)
    (pss_cons (ps_set (i := 1) sc_put_frame.nd rfl (by first | exact Or.inl rfl | exact Or.inr rfl) (pe_op op_catA (pe_op op_catA (pe_d (d_pair_of T) (hr.mono (by decide)) (pa_cons (pe_callB call_len_seq (by rfl) T.n_len (by decide +kernel) (pa_cons (pv 0) pa_nil)) pa_nil)) (pe_d (d_pair_of T) (hr.mono (by decide)) (pa_cons (pe_op op_sub (pe_k T.k_LONGEST_BODY) (pe_callB call_len_seq (by rfl) T.n_len (by decide +kernel) (pa_cons (pv 0) pa_nil))) pa_nil))) (pe_callTy call_tuple_of (by rfl) T.n_tuple (by decide +kernel) (pa_cons (pv 0) pa_nil))))
    (pss_one (ps_ret (pe_op op_catA (pv 1) (pe_d (d_sum_octets T) (hr.mono (by decide)) (pa_cons (pv 1) pa_nil))))))), ?_⟩
    obtain ⟨b, hv, hb, k⟩ := h
    have L := Loc.start (N := ["body", "framed"]) hv
    have hl : ∀ {H' : Hp} {l' : L2.St} {G : List (Option PyData)}, Loc H' (some (octD b) :: G) l' → Ev (tCB (rLenQ c.K) (tCons (tVar 0) tNil)) l' H' (.int (b.length : Nat)) := fun L' => (ev_len (ds := b.map .int) (ev_v L' rfl)).is (by rw [List.length_map])
    refine q_skip (et_of ((ev_B0 (hl L) (ev_int (i := 65535))).is (by rw [decide_eq_false (by omega)]))) fun H1 e1 => ?_
    have L1 := L.to e1
    have hf : (frameHead b).length = 4 + b.length := by unfold frameHead pair2; simp only [List.length_append, List.length_cons, List.length_nil]
    refine q_asg (d := octD (frameHead b)) ((ev_cat (ds := (pair2 (b.length : Int) ++ pair2 (65535 - (b.length : Int))).map .int) (es := b.map .int) ((ev_cat (ds := (pair2 (b.length : Int)).map .int) (es := (pair2 (65535 - (b.length : Int))).map .int) (ev_F (b.length : Int) (ea_1 (hl L1)) (by omega)) (ev_F (65535 - (b.length : Int)) (ea_1 (ev_I0 (ev_int (i := 65535)) (hl L1))) (by omega)) (by show 2 + 2 ≤ _; decide)).is (octD_app _ _)) (ev_tuT (ev_v L1 rfl)) (by rw [List.length_map, List.length_map]; show 4 + _ ≤ _; omega)).is (octD_app _ _)) L1 fun v2 H2 e2 _ L2 => ?_
    exact s_ret (d := octD (frame b)) ((ev_cat (ds := (frameHead b).map .int) (es := (sumOct (frameHead b)).map .int) (ev_v L2 rfl) (ev_F (frameHead b) (ea_1 (ev_v L2 rfl)) trivial) (by rw [List.length_map, List.length_map, hf]; show _ + 4 ≤ _; omega)).is (octD_app _ _)) fun v H3 e3 hd => k v H3 ((e1.trans e2).trans e3) hd
end Sp
set_option Elab.async false
set_option linter.all false
set_option maxRecDepth 100000
set_option maxHeartbeats 4000000
namespace Sp
open PySem PySem.Spec PyProof.Rows L2
/-! ### the order of texts -/
theorem ltCps_dec : ∀ a b : List Nat, ltCps a b = decide (a < b)
  | [], [] => by simp [ltCps]
  | [], _ :: _ => by simp [ltCps]
  | _ :: _, [] => by simp [ltCps]
  | a :: r, b :: t => by
    rw [ltCps, ltCps_dec r t]
    by_cases h : a < b
    · simp [h, List.cons_lt_cons_iff]
    · by_cases e : a = b
      · subst e
        simp [List.cons_lt_cons_iff]
      · simp [h, e, List.cons_lt_cons_iff]
theorem str_ext {a b : Str} (h : a.cps.toList = b.cps.toList) : a = b := by
  cases a
  cases b
  congr 1
  exact Array.toList_inj.mp h
theorem ltS_irrefl (a : Str) : ¬ ltS a a := List.lt_irrefl _
theorem ltS_trans {a b c : Str} (h : ltS a b) (g : ltS b c) : ltS a c := List.lt_trans h g
theorem ltS_tri {a b : Str} (h : ¬ ltS a b) (g : ¬ ltS b a) : a = b := str_ext (List.le_antisymm (List.not_lt.mp g) (List.not_lt.mp h))
theorem asc_uniq : ∀ {xs ys : List Str}, xs.Pairwise ltS → ys.Pairwise ltS → (∀ k, k ∈ xs ↔ k ∈ ys) → xs = ys
  | [], [], _, _, _ => rfl
  | [], y :: _, _, _, h => absurd ((h y).mpr List.mem_cons_self) (by simp)
  | x :: _, [], _, _, h => absurd ((h x).mp List.mem_cons_self) (by simp)
  | x :: xs, y :: ys, hx, hy, h => by
    obtain ⟨hx1, hx2⟩ := List.pairwise_cons.mp hx
    obtain ⟨hy1, hy2⟩ := List.pairwise_cons.mp hy
    have e : x = y := by
      rcases List.mem_cons.mp ((h x).mp List.mem_cons_self) with e | m
      · exact e
      · rcases List.mem_cons.mp ((h y).mpr List.mem_cons_self) with e | m2
        · exact e.symm
        · exact absurd (ltS_trans (hx1 y m2) (hy1 x m)) (ltS_irrefl x)
    subst e
    rw [asc_uniq hx2 hy2 fun k => ?_]
    constructor
    · intro m
      rcases List.mem_cons.mp ((h k).mp (List.mem_cons_of_mem _ m)) with e | m2
      · exact absurd (e ▸ hx1 k m) (ltS_irrefl x)
      · exact m2
    · intro m
      rcases List.mem_cons.mp ((h k).mpr (List.mem_cons_of_mem _ m)) with e | m2
      · exact absurd (e ▸ hy1 k m) (ltS_irrefl x)
      · exact m2
theorem risingS_pw : ∀ (p : Str) (l : List Str), risingS p l = true → (p :: l).Pairwise (fun a b => ¬ ltS b a)
  | p, [], _ => by simp
  | p, x :: r, h => by
    have h : (!ltCps x.cps.toList p.cps.toList && risingS x r) = true := h
    rw [Bool.and_eq_true, Bool.not_eq_true', ltCps_dec] at h
    have h1 : ¬ ltS x p := of_decide_eq_false (p := x.cps.toList < p.cps.toList) h.1
    have h2 := risingS_pw x r h.2
    refine List.pairwise_cons.mpr ⟨fun y hy => ?_, h2⟩
    rcases List.mem_cons.mp hy with rfl | hy
    · exact h1
    · have h3 := (List.pairwise_cons.mp h2).1 y hy
      intro z
      by_cases e : ltS x y
      · exact h1 (ltS_trans e z)
      · exact h1 ((ltS_tri e h3) ▸ z)
theorem sortedS_pw : ∀ {l : List Str}, sortedS l = true → l.Pairwise (fun a b => ¬ ltS b a)
  | [], _ => .nil
  | x :: r, h => risingS_pw x r h
theorem sorted_asc {l : List Str} (h : sortedS l = true) (hn : l.Nodup) : l.Pairwise ltS := by
  have h1 := sortedS_pw h
  have h2 : l.Pairwise (fun a b => a ≠ b) := hn
  refine (h1.and h2).imp ?_
  rintro a b ⟨h1, h2⟩
  by_cases e : ltS a b
  · exact e
  · exact absurd (ltS_tri e h1) h2
/-- the texts in order -/
def srt (ks : List Str) : List Str := ks.mergeSort fun a b => !decide (b.cps.toList < a.cps.toList)
theorem srt_perm (ks : List Str) : (srt ks).Perm ks := List.mergeSort_perm _ _
theorem srt_asc {ks : List Str} (hn : ks.Nodup) : (srt ks).Pairwise ltS := by
  have h := List.pairwise_mergeSort (le := fun a b : Str => !decide (b.cps.toList < a.cps.toList)) (fun a b c h1 h2 => by
    rw [Bool.not_eq_true', decide_eq_false_iff_not] at h1 h2 ⊢
    intro z
    by_cases e : ltS b c
    · exact h1 (ltS_trans e z)
    · exact h1 ((ltS_tri e h2) ▸ z)) (fun a b => by
    rw [Bool.or_eq_true, Bool.not_eq_true', Bool.not_eq_true', decide_eq_false_iff_not, decide_eq_false_iff_not]
    by_cases e : ltS b a
    · exact .inr fun z => ltS_irrefl _ (ltS_trans e z)
    · exact .inl e) ks
  have hn2 : (srt ks).Nodup := (srt_perm ks).nodup_iff.mpr hn
  refine (h.and hn2).imp ?_
  rintro a b ⟨h1, h2⟩
  rw [Bool.not_eq_true', decide_eq_false_iff_not] at h1
  by_cases e : ltS a b
  · exact e
  · exact absurd (ltS_tri e h1) h2
theorem srt_only {ys ks : List Str} (hp : ys.Perm ks) (hs : sortedS ys = true) (hn : ks.Nodup) : ys = srt ks :=
  asc_uniq (sorted_asc hs (hp.nodup_iff.mpr hn)) (srt_asc hn) fun k => hp.mem_iff.trans (srt_perm ks).mem_iff.symm
/-! ### what writes mean -/
def Val.v : Val → V
  | .non => .non
  | .int i => .int i
  | .str x => .str x
theorem Val.dt (x : Val) (H : Hp) : Dt H x.d x.v := by cases x <;> rfl
theorem Val.of_dt {x : Val} {H : Hp} {v : V} (h : Dt H x.d v) : v = x.v := by cases x <;> exact h
def Val.opt : Val → Option Val
  | .non => none
  | .int i => some (.int i)
  | .str x => some (.str x)
theorem Val.opt_some {x y : Val} : x.opt = some y ↔ x = y ∧ x ≠ .non := by cases x <;> simp [Val.opt]
abbrev Mp := Str → Option Val
def Mp0 : Mp := fun _ => none
def semStep (f : Mp) (p : Str × Val) : Mp := fun k => if k = p.1 then p.2.opt else f k
def sem (f : Mp) (w : Wr) : Mp := w.foldl semStep f
theorem sem_app (f : Mp) (a b : Wr) : sem f (a ++ b) = sem (sem f a) b := List.foldl_append
/-- the keys among these, values of writes -/
structure Mp.In (f : Mp) (KS : List Str) : Prop where
  key : ∀ k v, f k = some v → k ∈ KS
  val : ∀ k v, f k = some v → v ≠ .non ∧ ValOk v
theorem Mp.In.zero (KS : List Str) : Mp.In Mp0 KS := ⟨fun _ _ h => (nomatch h), fun _ _ h => (nomatch h)⟩
theorem Mp.In.step {f : Mp} {KS : List Str} (h : Mp.In f KS) {p : Str × Val} (hk : p.1 ∈ KS) (hv : ValOk p.2) : Mp.In (semStep f p) KS := by
  refine ⟨fun k v e => ?_, fun k v e => ?_⟩
  · unfold semStep at e
    split at e
    · next q => rw [q]; exact hk
    · exact h.key k v e
  · unfold semStep at e
    split at e
    · obtain ⟨rfl, h2⟩ := Val.opt_some.mp e
      exact ⟨h2, hv⟩
    · exact h.val k v e
theorem Mp.In.all {KS : List Str} : ∀ {w : Wr} {f : Mp}, Mp.In f KS → (∀ p ∈ w, p.1 ∈ KS ∧ ValOk p.2) → Mp.In (sem f w) KS
  | [], _, h, _ => h
  | p :: w, _, h, hw => Mp.In.all (w := w) (h.step (hw p List.mem_cons_self).1 (hw p List.mem_cons_self).2) fun q hq => hw q (List.mem_cons_of_mem _ hq)
/-- w lists the map f -/
structure IsMap (f : Mp) (w : Wr) : Prop where
  asc : w.Asc
  mem : ∀ k v, (k, v) ∈ w ↔ f k = some v
theorem Wr.Asc.key_inj {w : Wr} (h : w.Asc) {k : Str} {a b : Val} (ha : (k, a) ∈ w) (hb : (k, b) ∈ w) : a = b := by
  obtain ⟨i, hi, ei⟩ := List.mem_iff_getElem.mp ha
  obtain ⟨j, hj, ej⟩ := List.mem_iff_getElem.mp hb
  have hp := List.pairwise_iff_getElem.mp h
  rcases Nat.lt_trichotomy i j with l | l | l
  · have := hp i j (by rw [List.length_map]; omega) (by rw [List.length_map]; omega) l
    rw [List.getElem_map, List.getElem_map, ei, ej] at this
    exact absurd this (ltS_irrefl _)
  · subst l
    rw [ei] at ej
    exact (Prod.mk.inj ej).2
  · have := hp j i (by rw [List.length_map]; omega) (by rw [List.length_map]; omega) l
    rw [List.getElem_map, List.getElem_map, ei, ej] at this
    exact absurd this (ltS_irrefl _)
theorem IsMap.uniq {f : Mp} {a b : Wr} (h : IsMap f a) (g : IsMap f b) : a = b := by
  have hk : a.map (·.1) = b.map (·.1) := asc_uniq h.asc g.asc fun k => by
    constructor
    · intro m
      obtain ⟨p, hp, rfl⟩ := List.mem_map.mp m
      exact List.mem_map.mpr ⟨p, (g.mem _ _).mpr ((h.mem _ _).mp hp), rfl⟩
    · intro m
      obtain ⟨p, hp, rfl⟩ := List.mem_map.mp m
      exact List.mem_map.mpr ⟨p, (h.mem _ _).mpr ((g.mem _ _).mp hp), rfl⟩
  have hl : a.length = b.length := by simpa using congrArg List.length hk
  refine List.ext_getElem hl fun i h1 h2 => ?_
  have e1 : a[i].1 = b[i].1 := by
    have h3 : i < (a.map (·.1)).length := by simpa using h1
    have h4 : i < (b.map (·.1)).length := by simpa using h2
    have : (a.map (·.1))[i] = (b.map (·.1))[i] := by simp only [hk]
    rwa [List.getElem_map, List.getElem_map] at this
  have m1 : (a[i].1, a[i].2) ∈ a := List.getElem_mem h1
  have m2 : (b[i].1, b[i].2) ∈ b := List.getElem_mem h2
  have f1 := (h.mem _ _).mp m1
  have f2 := (g.mem _ _).mp m2
  rw [e1, f2] at f1
  exact Prod.ext e1 (Option.some.inj f1).symm
theorem sem_miss : ∀ {w : Wr} {f : Mp} {k : Str}, (∀ p ∈ w, p.1 ≠ k) → sem f w k = f k
  | [], _, _, _ => rfl
  | p :: w, f, k, h => by
    show sem (semStep f p) w k = f k
    rw [sem_miss fun q hq => h q (List.mem_cons_of_mem _ hq)]
    exact if_neg fun e => h p List.mem_cons_self e.symm
/-- a listed map, read again -/
theorem sem_at : ∀ {w : Wr} {f : Mp} {k : Str} {v : Val}, w.Asc → (k, v) ∈ w → sem f w k = v.opt
  | [], _, _, _, _, m => nomatch m
  | p :: w, f, k, v, h, m => by
    obtain ⟨h1, h2⟩ := List.pairwise_cons.mp h
    show sem (semStep f p) w k = v.opt
    rcases List.mem_cons.mp m with e | m
    · subst e
      rw [sem_miss fun q hq (e : q.1 = k) => ltS_irrefl k (by have := h1 q.1 (List.mem_map.mpr ⟨q, hq, rfl⟩); rw [e] at this; exact this)]
      exact if_pos rfl
    · exact sem_at h2 m
theorem IsMap.sem {f : Mp} {w : Wr} {KS : List Str} (h : IsMap f w) (hi : Mp.In f KS) : sem Mp0 w = f := by
  funext k
  cases e : f k with
  | some v =>
    rw [sem_at h.asc ((h.mem k v).mpr e)]
    exact Val.opt_some.mpr ⟨rfl, (hi.val k v e).1⟩
  | none =>
    rw [sem_miss fun p hp q => ?_]
    · rfl
    · subst q
      have := (h.mem p.1 p.2).mp hp
      rw [e] at this
      cases this
theorem nodup_sub_len {α : Type} [DecidableEq α] : ∀ {a b : List α}, a.Nodup → (∀ x ∈ a, x ∈ b) → a.length ≤ b.length
  | [], _, _, _ => Nat.zero_le _
  | x :: a, b, hn, h => by
    obtain ⟨h1, h2⟩ := List.nodup_cons.mp hn
    have hx := h x List.mem_cons_self
    have := nodup_sub_len (a := a) (b := b.erase x) h2 fun y hy => (List.mem_erase_of_ne (fun e => h1 (by rw [← e]; exact hy))).mpr (h y (List.mem_cons_of_mem _ hy))
    rw [List.length_erase_of_mem hx] at this
    have : 0 < b.length := List.length_pos_of_mem hx
    rw [List.length_cons]
    omega
theorem asc_nodup {l : List Str} (h : l.Pairwise ltS) : l.Nodup := h.imp fun {a b} h e => by subst e; exact ltS_irrefl _ h
theorem IsMap.len {f : Mp} {w : Wr} {KS : List Str} (h : IsMap f w) (hi : Mp.In f KS) : w.length ≤ KS.length := by
  have := nodup_sub_len (asc_nodup h.asc) (b := KS) fun k hk => by
    obtain ⟨p, hp, rfl⟩ := List.mem_map.mp hk
    exact hi.key _ _ ((h.mem p.1 p.2).mp hp)
  simpa using this
/-- made from keys that ascend -/
def listed (f : Mp) (ks : List Str) : Wr := ks.filterMap fun k => (f k).map fun v => (k, v)
theorem listed_keys (f : Mp) : ∀ ks : List Str, (listed f ks).map (·.1) = ks.filter fun k => (f k).isSome
  | [] => rfl
  | k :: ks => by
    unfold listed
    rw [List.filterMap_cons, List.filter_cons]
    cases e : f k with
    | none => exact listed_keys f ks
    | some v =>
      show k :: (listed f ks).map (·.1) = k :: _
      rw [listed_keys f ks]
theorem listed_is {f : Mp} {ks : List Str} (h : ks.Pairwise ltS) (hk : ∀ k v, f k = some v → k ∈ ks) : IsMap f (listed f ks) := by
  refine ⟨?_, fun k v => ?_⟩
  · show ((listed f ks).map (·.1)).Pairwise ltS
    rw [listed_keys]
    exact h.filter _
  · unfold listed
    rw [List.mem_filterMap]
    constructor
    · rintro ⟨k', _, e⟩
      cases e2 : f k' with
      | none => rw [e2] at e; cases e
      | some v' =>
        rw [e2] at e
        obtain ⟨rfl, rfl⟩ := Prod.mk.inj (Option.some.inj e)
        exact e2
    · intro e
      exact ⟨k, hk k v e, by rw [e]; rfl⟩
/-! ### the dict of known values -/
structure DkI (kvs : List (Key × V)) (KS : List Str) (f : Mp) : Prop where
  ks : ∃ ks : List Str, kvs.map (·.1) = ks.map Sum.inr ∧ ks.Nodup ∧ ∀ k ∈ ks, k ∈ KS
  vals : ∀ k : Str, ∃ o : Option Val, valV kvs (.inr k : Key) = o.map Val.v ∧ f k = o.bind Val.opt
theorem DkI.nil (KS : List Str) : DkI [] KS Mp0 := ⟨⟨[], rfl, .nil, fun _ h => (nomatch h)⟩, fun _ => ⟨none, rfl, rfl⟩⟩
theorem valV_none_iff {kvs : List (Key × V)} {k : Key} : valV kvs k = none ↔ k ∉ kvs.map (·.1) := by
  unfold valV
  rw [Option.map_eq_none_iff, List.find?_eq_none]
  constructor
  · intro h m
    obtain ⟨p, hp, e⟩ := List.mem_map.mp m
    exact h p hp (decide_eq_true e)
  · intro h p hp e
    exact h (List.mem_map.mpr ⟨p, hp, of_decide_eq_true e⟩)
theorem putK_keys {kvs : List (Key × V)} {k : Key} (v : V) (h : k ∈ kvs.map (·.1)) : (putK kvs k v).map (·.1) = kvs.map (·.1) := by
  unfold putK
  rw [if_pos]
  · rw [List.map_map]
    refine List.map_congr_left fun p _ => ?_
    show (if p.1 = k then (p.1, v) else p).1 = p.1
    split <;> rfl
  · rw [List.any_eq_true]
    obtain ⟨p, hp, e⟩ := List.mem_map.mp h
    exact ⟨p, hp, decide_eq_true e⟩
theorem DkI.put {kvs : List (Key × V)} {KS : List Str} {f : Mp} (h : DkI kvs KS f) {p : Str × Val} (hk : p.1 ∈ KS) : DkI (putK kvs (.inr p.1) p.2.v) KS (semStep f p) := by
  obtain ⟨⟨ks, h1, h2, h3⟩, hv⟩ := h
  refine ⟨?_, fun k => ?_⟩
  · by_cases m : (Sum.inr p.1 : Key) ∈ kvs.map (·.1)
    · exact ⟨ks, by rw [putK_keys _ m, h1], h2, h3⟩
    · rw [putK_new _ (valV_none_iff.mpr m)]
      refine ⟨ks ++ [p.1], by rw [List.map_append, List.map_append, h1]; rfl, ?_, fun k hk' => ?_⟩
      · rw [List.nodup_append]
        refine ⟨h2, by simp, fun a ha b hb => ?_⟩
        rw [List.mem_singleton.mp hb]
        intro e
        subst e
        exact m (by rw [h1]; exact List.mem_map.mpr ⟨_, ha, rfl⟩)
      · rcases List.mem_append.mp hk' with m2 | m2
        · exact h3 k m2
        · rw [List.mem_singleton.mp m2]
          exact hk
  · rw [valV_put]
    unfold semStep
    by_cases e : k = p.1
    · subst e
      rw [if_pos rfl, if_pos rfl]
      exact ⟨some p.2, rfl, rfl⟩
    · rw [if_neg (fun q => e (Sum.inr.inj q)), if_neg e]
      exact hv k
theorem DkI.len {kvs : List (Key × V)} {KS : List Str} {f : Mp} (h : DkI kvs KS f) : kvs.length ≤ KS.length := by
  obtain ⟨⟨ks, h1, h2, h3⟩, _⟩ := h
  have := nodup_sub_len h2 h3
  have := congrArg List.length h1
  simp only [List.length_map] at this
  omega
end Sp
set_option Elab.async false
set_option linter.all false
set_option maxRecDepth 100000
set_option maxHeartbeats 4000000
namespace Sp
open PySem PySem.Spec PyProof.Rows L2
section
variable {l : L2.St} {H : Hp} {t1 t2 t3 : TE} {d2 d3 : PyData} {ds : List PyData} {G : List (Option PyData)} {D : Ends} {tz : TS} {n m o : Nat}
theorem q_parL2 (h1 : EvL t1 l H ds) (h2 : Ev t2 l H d2) (L : Loc H G l) (k : ∀ p xs w H1, H p = none → Same H H1 → H1 p = some (.lst xs) → Dts H1 ds xs → Loc H1 ((G.set n none).set m (some d2)) ((l.set n (some (.ref p))).set m (some w)) → tz D ((l.set n (some (.ref p))).set m (some w)) H1) :
    tSeq (tPar n m (tCons t1 (tCons t2 tNil))) tz D l H := h1 H (Same.refl _) _ fun p xs H1 hp e1 h hx => h2 H1 e1 _ fun w H2 e2 hw =>
  ⟨.ref p, w, rfl, k p xs w H2 hp (e1.trans e2) (e2 _ _ h) (hx.to e2) (Loc.set hw m (Loc.off n (L.to (e1.trans e2))))⟩
theorem q_par3L (h1 : EvL t1 l H ds) (h2 : Ev t2 l H d2) (h3 : Ev t3 l H d3) (L : Loc H G l)
    (k : ∀ p xs w z H1, H p = none → Same H H1 → H1 p = some (.lst xs) → Dts H1 ds xs → Loc H1 (((G.set n none).set m (some d2)).set o (some d3)) (((l.set n (some (.ref p))).set m (some w)).set o (some z)) → tz D (((l.set n (some (.ref p))).set m (some w)).set o (some z)) H1) :
    tSeq (tPar3 n m o (tCons t1 (tCons t2 (tCons t3 tNil)))) tz D l H := h1 H (Same.refl _) _ fun p xs H1 hp e1 h hx => h2 H1 e1 _ fun w H2 e2 hw => h3 H2 (e1.trans e2) _ fun z H3 e3 hz =>
  ⟨.ref p, w, z, rfl, k p xs w z H3 hp ((e1.trans e2).trans e3) (e3 _ _ (e2 _ _ h)) ((hx.to e2).to e3) (Loc.set hz o (Loc.set (hw.to e3) m (Loc.off n (L.to ((e1.trans e2).trans e3)))))⟩
end
/-! ### frames that are read -/
def tailF (b : Oct) : Oct := b ++ sumOct (frameHead b)
theorem frame_0 (b : Oct) : frame b = ((b.length : Int) / 256) :: ((b.length : Int) % 256) :: ((65535 - (b.length : Int)) / 256) :: ((65535 - (b.length : Int)) % 256) :: tailF b := rfl
theorem tailF_len (b : Oct) : (tailF b).length = b.length + 4 := by unfold tailF sumOct pair2; simp only [List.length_append, List.length_cons, List.length_nil]
theorem at_4 {A R : Oct} {x0 x1 x2 x3 : Int} : (A ++ x0 :: x1 :: x2 :: x3 :: R)[A.length]? = some x0 ∧ (A ++ x0 :: x1 :: x2 :: x3 :: R)[A.length + 1]? = some x1 ∧ (A ++ x0 :: x1 :: x2 :: x3 :: R)[A.length + 2]? = some x2 ∧ (A ++ x0 :: x1 :: x2 :: x3 :: R)[A.length + 3]? = some x3 := by
  refine ⟨?_, ?_, ?_, ?_⟩ <;> rw [List.getElem?_append_right (by omega)] <;> simp
/-- how a text of octets goes on: a whole frame, or one that breaks off -/
def FaultQ (p : Oct × Nat × Bool) : Prop := if p.2.2 = true then ∃ A b C : Oct, b.length ≤ 65535 ∧ p.1 = A ++ frame b ++ C ∧ p.2.1 = A.length else ∃ (A b : Oct) (k : Nat), b.length ≤ 65535 ∧ k < (frame b).length ∧ p.1 = A ++ (frame b).take k ∧ p.2.1 = A.length
theorem FaultQ.yes {A b C : Oct} (h : b.length ≤ 65535) : FaultQ (A ++ frame b ++ C, A.length, true) := ⟨A, b, C, h, rfl, rfl⟩
theorem FaultQ.no {A b : Oct} {k : Nat} (h : b.length ≤ 65535) (hk : k < (frame b).length) : FaultQ (A ++ (frame b).take k, A.length, false) := ⟨A, b, k, h, hk, rfl, rfl⟩
/-- either too short for a head, or a head and then enough or not -/
theorem FaultQ.split {o : Oct} {i : Nat} {y : Bool} (h : FaultQ (o, i, y)) : (y = false ∧ o.length < i + 4) ∨ ∃ A b R, i = A.length ∧ b.length ≤ 65535 ∧ o = A ++ ((b.length : Int) / 256) :: ((b.length : Int) % 256) :: ((65535 - (b.length : Int)) / 256) :: ((65535 - (b.length : Int)) % 256) :: R ∧ (y = true → ∃ C, R = tailF b ++ C) ∧ (y = false → R.length < b.length + 4) := by
  cases y with
  | true =>
    obtain ⟨A, b, C, hb, ho, hi⟩ : ∃ A b C : Oct, b.length ≤ 65535 ∧ o = A ++ frame b ++ C ∧ i = A.length := h
    refine .inr ⟨A, b, tailF b ++ C, hi, hb, ?_, fun _ => ⟨C, rfl⟩, fun z => nomatch z⟩
    rw [ho, frame_0, List.append_assoc]
    rfl
  | false =>
    obtain ⟨A, b, k, hb, hk, ho, hi⟩ : ∃ (A b : Oct) (k : Nat), b.length ≤ 65535 ∧ k < (frame b).length ∧ o = A ++ (frame b).take k ∧ i = A.length := h
    have hfl := frame_len b
    by_cases h4 : k < 4
    · refine .inl ⟨rfl, ?_⟩
      rw [ho, hi, List.length_append, List.length_take]
      omega
    · obtain ⟨j, rfl⟩ : ∃ j, k = j + 4 := ⟨k - 4, by omega⟩
      refine .inr ⟨A, b, (tailF b).take j, hi, hb, ?_, (fun z => nomatch z), fun _ => ?_⟩
      · rw [ho, frame_0]
        rfl
      · rw [List.length_take, tailF_len]
        omega
theorem sc_frame_fault : FnScope ["octets", "at", "size", "end"] ["octets", "at"] (defScope s_frame_fault) := ⟨rfl, rfl, rfl, by decide +kernel, rfl, by decide +kernel, by decide +kernel⟩
theorem d_frame_fault {c : Cn} (T : Tx c) : Df c "frame_fault" 3 ["octets", "at"] (spF (fun (p : Oct × Nat × Bool) => [octD p.1, .int (p.2.1 : Nat)]) FaultQ (fun p => if p.2.2 = true then .none else .str "cut")) :=
  T.df 27 27 rfl rfl sc_frame_fault (fun _ _ _ _ _ _ us hl => match us, hl with | [_, _], _ => rfl) (ln_F fun _ => rfl) fun f cdv A outer s H vs Q E hr h => by
    refine ⟨_, (pss_cons (ps_if (pt_cmpR op_lt (pe_callB call_len_seq (by rfl) T.n_len (by decide +kernel) (pa_cons (pv 0) pa_nil)) (pe_op op_add (pv 1) (pe_k T.k_HEAD)) (nomark _)) (pss_one (ps_ret pe_str)) pss_nil)
    (pss_cons (ps_set (i := 2) sc_frame_fault.nd rfl (by first | exact Or.inl rfl | exact Or.inr rfl) (pe_op op_add (pe_op op_mul (pe_ix ix_tup (pv 0) (pv 1) (fun _ _ => rfl)) pe_int) (pe_ix ix_tup (pv 0) (pe_op op_add (pv 1) pe_int) (fun _ _ => rfl))))
    (pss_cons (ps_if (pt_cmpR op_ne (pe_op op_add (pe_op op_add (pv 2) (pe_op op_mul (pe_ix ix_tup (pv 0) (pe_op op_add (pv 1) pe_int) (fun _ _ => rfl)) pe_int)) (pe_ix ix_tup (pv 0) (pe_op op_add (pv 1) pe_int) (fun _ _ => rfl))) (pe_k T.k_LONGEST_BODY) (nomark _)) (pss_one (ps_ret pe_str)) pss_nil)
    (pss_cons (ps_set (i := 3) sc_frame_fault.nd rfl (by first | exact Or.inl rfl | exact Or.inr rfl) (pe_op op_add (pe_op op_add (pv 1) (pv 2)) (pe_k T.k_EXTRA)))
    (pss_cons (ps_if (pt_cmpR op_lt (pe_callB call_len_seq (by rfl) T.n_len (by decide +kernel) (pa_cons (pv 0) pa_nil)) (pv 3) (nomark _)) (pss_one (ps_ret pe_str)) pss_nil)
    (pss_one (ps_ret (pe_ifExp (pt_cmpR (op_eqD hr.units) (pe_callTy call_tuple_of (by rfl) T.n_tuple (by decide +kernel) (pa_cons (pe_slice sl_tupA (pv 0) (po_some (pe_op op_sub (pv 3) (pe_k T.k_HEAD))) (po_some (pv 3))) pa_nil)) (pe_d (d_sum_octets T) (hr.mono (by decide)) (pa_cons (pe_slice sl_tupA (pv 0) (po_some (pv 1)) (po_some (pe_op op_sub (pv 3) (pe_k T.k_HEAD)))) pa_nil)) (nomark _)) pe_non pe_str)))))))), ?_⟩
    obtain ⟨⟨o, i, y⟩, hv, hp, k⟩ := h
    dsimp only at hv k
    have L := Loc.start (N := ["octets", "at", "size", "end"]) hv
    have hl : ∀ {H' : Hp} {l' : L2.St} {G : List (Option PyData)}, Loc H' (some (octD o) :: G) l' → Ev (tCB (rLenQ c.K) (tCons (tVar 0) tNil)) l' H' (.int (o.length : Nat)) := fun L' => (ev_len (ds := o.map .int) (ev_v L' rfl)).is (by rw [List.length_map])
    rcases hp.split with ⟨rfl, hlt⟩ | ⟨A, b, R, rfl, hb, ho, hyes, hno⟩
    · refine q_yes (et_of ((ev_B0 (hl L) (ev_I0 (ev_v L rfl) (ev_int (i := 4)))).is (by rw [decide_eq_true (by omega)]))) fun H1 e1 => ?_
      exact s_ret (d := .str "cut") ev_str fun v H2 e2 hd => k v H2 (e1.trans e2) hd
    · refine q_skip (et_of ((ev_B0 (hl L) (ev_I0 (ev_v L rfl) (ev_int (i := 4)))).is (by rw [decide_eq_false (by rw [ho, List.length_append]; simp only [List.length_cons]; omega)]))) fun H1 e1 => ?_
      have L1 := L.to e1
      obtain ⟨g0, g1, g2, g3⟩ := at_4 (A := A) (R := R) (x0 := (b.length : Int) / 256) (x1 := (b.length : Int) % 256) (x2 := (65535 - (b.length : Int)) / 256) (x3 := (65535 - (b.length : Int)) % 256)
      rw [← ho] at g0 g1 g2 g3
      have E0 : ∀ {H' : Hp} {l' : L2.St} {G : List (Option PyData)}, Loc H' (some (octD o) :: some (.int (A.length : Nat)) :: G) l' → Ev (tOp (rIxT c.K) (tVar 0) (tVar 1)) l' H' (.int ((b.length : Int) / 256)) := fun L' => ev_ix (ev_v L' rfl) (ev_v L' rfl) (atI_nat (octD_get g0))
      have Ej : ∀ {H' : Hp} {l' : L2.St} {G : List (Option PyData)} {j : Nat} {x : Int}, o[A.length + j]? = some x → Loc H' (some (octD o) :: some (.int (A.length : Nat)) :: G) l' → Ev (tOp (rIxT c.K) (tVar 0) (tOp (rI0 fun i j => .int (i + j)) (tVar 1) (tC (.int (j : Nat))))) l' H' (.int x) := fun hx L' => ev_ix (ev_v L' rfl) (ev_I0 (ev_v L' rfl) ev_int) ((atI_nat (octD_get hx)))
      refine q_asg (d := .int (b.length : Nat)) ((ev_I0 (ev_I (C := CMul) (E0 L1) (ev_int (i := 256)) (.inr (by decide))) (Ej g1 L1)).is (by congr 1; omega)) L1 fun v2 H2 e2 _ L2 => ?_
      refine q_skip (et_of ((ev_neI (ev_I0 (ev_I0 (ev_v L2 rfl) (ev_I (C := CMul) (Ej g2 L2) (ev_int (i := 256)) (.inr (by decide)))) (Ej g3 L2)) (ev_int (i := 65535))).is (by rw [decide_eq_true (by omega)]; rfl))) fun H3 e3 => ?_
      have L3 := L2.to e3
      refine q_asg (d := .int ((A.length + b.length + 8 : Nat) : Int)) ((ev_I0 (ev_I0 (ev_v L3 rfl) (ev_v L3 rfl)) (ev_int (i := 8))).is rfl) L3 fun v4 H4 e4 _ L4 => ?_
      have s4 := ((e1.trans e2).trans e3).trans e4
      cases y with
      | false =>
        have hR := hno rfl
        refine q_yes (et_of ((ev_B0 (hl L4) (ev_v L4 rfl)).is (by rw [decide_eq_true (by rw [ho, List.length_append]; simp only [List.length_cons]; omega)]))) fun H5 e5 => ?_
        exact s_ret (d := .str "cut") ev_str fun v H6 e6 hd => k v H6 ((s4.trans e5).trans e6) hd
      | true =>
        obtain ⟨C, hR⟩ := hyes rfl
        have hoF : o = A ++ frame b ++ C := by rw [ho, hR, frame_0, List.append_assoc]; rfl
        have hh : (frameHead b).length = b.length + 4 := by unfold frameHead pair2; simp only [List.length_append, List.length_cons, List.length_nil]; omega
        refine q_skip (et_of ((ev_B0 (hl L4) (ev_v L4 rfl)).is (by rw [decide_eq_false (by rw [hoF, List.length_append, List.length_append, frame_len]; omega)]))) fun H5 e5 => ?_
        have L5 := L4.to e5
        have eA : o.map PyData.int = (A.map .int ++ (frameHead b).map .int) ++ (sumOct (frameHead b)).map .int ++ C.map .int := by
          rw [hoF]
          unfold frame
          simp only [List.map_append, List.append_assoc]
        have c1 : cutD (o.map PyData.int) (some ((A.length + b.length + 8 : Nat) - 4 : Int)) (some ((A.length + b.length + 8 : Nat) : Int)) = (sumOct (frameHead b)).map .int := by
          rw [eA]
          refine cut_mid _ _ _ ?_ ?_
          · rw [List.length_append, List.length_map, List.length_map, hh]; omega
          · rw [List.length_append, List.length_map, List.length_map, hh, List.length_map]; unfold sumOct pair2; simp only [List.length_append, List.length_cons, List.length_nil]; omega
        have c2 : cutD (o.map PyData.int) (some ((A.length : Nat) : Int)) (some ((A.length + b.length + 8 : Nat) - 4 : Int)) = (frameHead b).map .int := by
          rw [eA, List.append_assoc (A.map PyData.int ++ _)]
          refine cut_mid _ _ _ ?_ ?_
          · rw [List.length_map]
          · rw [List.length_map, List.length_map, hh]; omega
        have hs := Sd.oct (sumOct (frameHead b))
        refine s_ret (d := .none) (ev_if (b := true) (et_of (ev_eqD (d1 := octD (sumOct (frameHead b))) (d2 := octD (sumOct (frameHead b))) (ev_tuT ((ev_sl (ev_v L5 rfl) (eo_some (ev_I0 (ev_v L5 rfl) (ev_int (i := 4)))) (eo_some (ev_v L5 rfl))).is (congrArg PyData.tuple c1))) (ev_F (frameHead b) (ea_1 ((ev_sl (ev_v L5 rfl) (eo_some (ev_v L5 rfl)) (eo_some (ev_I0 (ev_v L5 rfl) (ev_int (i := 4))))).is (congrArg PyData.tuple c2))) trivial) hs.shaped hs.shaped hs.refl)) (fun _ => ev_non) (fun z => nomatch z)) fun v H6 e6 hd => k v H6 ((s4.trans e5).trans e6) hd
theorem frameQ (A b C : Oct) : ∃ R, A ++ frame b ++ C = A ++ ((b.length : Int) / 256) :: ((b.length : Int) % 256) :: ((65535 - (b.length : Int)) / 256) :: ((65535 - (b.length : Int)) % 256) :: R := ⟨tailF b ++ C, by rw [frame_0, List.append_assoc]; rfl⟩
theorem sc_get_frame : FnScope ["octets", "at", "word", "end"] ["octets", "at"] (defScope s_get_frame) := ⟨rfl, rfl, rfl, by decide +kernel, rfl, by decide +kernel, by decide +kernel⟩
theorem d_get_frame {c : Cn} (T : Tx c) : Df c "get_frame" 4 ["octets", "at"] (spF (fun (p : Oct × Oct × Oct) => [octD (p.1 ++ frame p.2.1 ++ p.2.2), .int (p.1.length : Nat)]) (fun p => p.2.1.length ≤ 65535) (fun p => .tuple [octD p.2.1, .int ((p.1.length + (frame p.2.1).length : Nat) : Int)])) :=
  T.df 28 28 rfl rfl sc_get_frame (fun _ _ _ _ _ _ us hl => match us, hl with | [_, _], _ => rfl) (ln_F fun _ => rfl) fun f cdv A outer s H vs Q E hr h => by
    refine ⟨_, (pss_cons (ps_set (i := 2) sc_get_frame.nd rfl (by first | exact Or.inl rfl | exact Or.inr rfl) (pe_d (d_frame_fault T) (hr.mono (by decide)) (pa_cons (pv 0) (pa_cons (pv 1) pa_nil))))
    (pss_cons (ps_if (pt_cmpR op_notN (pv 2) pe_non (nomark _)) (pss_one ps_never) pss_nil)
    (pss_cons (ps_set (i := 3) sc_get_frame.nd rfl (by first | exact Or.inl rfl | exact Or.inr rfl) (pe_op op_add (pe_op op_add (pe_op op_add (pv 1) (pe_op op_mul (pe_ix ix_tup (pv 0) (pv 1) (fun _ _ => rfl)) pe_int)) (pe_ix ix_tup (pv 0) (pe_op op_add (pv 1) pe_int) (fun _ _ => rfl))) (pe_k T.k_EXTRA)))
    (pss_one (ps_ret (pe_tup (pa_cons (pe_callTy call_tuple_of (by rfl) T.n_tuple (by decide +kernel) (pa_cons (pe_slice sl_tupA (pv 0) (po_some (pe_op op_add (pv 1) (pe_k T.k_HEAD))) (po_some (pe_op op_sub (pv 3) (pe_k T.k_HEAD)))) pa_nil)) (pa_cons (pv 3) pa_nil)))))))), ?_⟩
    obtain ⟨⟨A, b, C⟩, hv, hb, k⟩ := h
    dsimp only at hv hb k
    have L := Loc.start (N := ["octets", "at", "word", "end"]) hv
    refine q_asg (d := .none) (ev_F (A ++ frame b ++ C, A.length, true) (ea_2 (ev_v L rfl) (ev_v L rfl)) (FaultQ.yes hb)) L fun v1 H1 e1 _ L1 => ?_
    refine q_skip (et_of ((ev_notN rfl (ev_v (d := .none) L1 rfl)).is rfl)) fun H2 e2 => ?_
    have L2 := L1.to e2
    obtain ⟨R, ho⟩ := frameQ A b C
    obtain ⟨g0, g1, _, _⟩ := at_4 (A := A) (R := R) (x0 := (b.length : Int) / 256) (x1 := (b.length : Int) % 256) (x2 := (65535 - (b.length : Int)) / 256) (x3 := (65535 - (b.length : Int)) % 256)
    rw [← ho] at g0 g1
    refine q_asg (d := .int ((A.length + (frame b).length : Nat) : Int)) ((ev_I0 (ev_I0 (ev_I0 (ev_v L2 rfl) (ev_I (C := CMul) (ev_ix (ev_v L2 rfl) (ev_v L2 rfl) (atI_nat (octD_get g0))) (ev_int (i := 256)) (.inr (by decide)))) (ev_ix (ev_v L2 rfl) (ev_I0 (ev_v L2 rfl) (ev_int (i := 1))) (atI_nat (octD_get g1)))) (ev_int (i := 8))).is (by rw [frame_len]; congr 1; omega)) L2 fun v3 H3 e3 _ L3 => ?_
    have eA : (A ++ frame b ++ C).map PyData.int = (A.map .int ++ (pair2 (b.length : Int) ++ pair2 (65535 - (b.length : Int))).map .int) ++ b.map .int ++ ((sumOct (frameHead b)).map .int ++ C.map .int) := by
      unfold frame frameHead
      simp only [List.map_append, List.append_assoc]
    have c1 : cutD ((A ++ frame b ++ C).map PyData.int) (some ((A.length : Nat) + 4 : Int)) (some ((A.length + (frame b).length : Nat) - 4 : Int)) = b.map .int := by
      rw [eA]
      refine cut_mid _ _ _ ?_ ?_
      · rw [List.length_append, List.length_map, List.length_map]; unfold pair2; simp only [List.length_append, List.length_cons, List.length_nil]; omega
      · rw [frame_len, List.length_append, List.length_map, List.length_map, List.length_map]; unfold pair2; simp only [List.length_append, List.length_cons, List.length_nil]; omega
    exact s_ret (ev_tup (ea_2 (ev_tuT ((ev_sl (ev_v L3 rfl) (eo_some (ev_I0 (ev_v L3 rfl) (ev_int (i := 4)))) (eo_some (ev_I0 (ev_v L3 rfl) (ev_int (i := 4))))).is (congrArg PyData.tuple c1))) (ev_v L3 rfl)) len2) fun v H4 e4 hd => k v H4 (((e1.trans e2).trans e3).trans e4) hd
/-! ### rows of frames -/
def fall (bs : List Oct) : Oct := (bs.map frame).flatten
structure RfQ (p : List Oct × Oct × Nat) : Prop where
  len : p.1.length ≤ 10000
  bds : ∀ b ∈ p.1, b.length ≤ 65535
  bd : p.2.1.length ≤ 65535
  k : p.2.2 < (frame p.2.1).length
def wordOf (k : Nat) : PyData := .str (if k = 0 then "whole" else "cut")
theorem sc_read_frames : FnScope ["octets", "bodies", "end", "word", "body"] ["octets"] (defScope s_read_frames) := ⟨rfl, rfl, rfl, by decide +kernel, rfl, by decide +kernel, by decide +kernel⟩
theorem d_read_frames {c : Cn} (T : Tx c) : Df c "read_frames" 5 ["octets"] (spF (fun (p : List Oct × Oct × Nat) => [octD (fall p.1 ++ (frame p.2.1).take p.2.2)]) RfQ (fun p => .tuple [.tuple (p.1.map octD), .int ((fall p.1).length : Nat), wordOf p.2.2])) :=
  T.df 29 29 rfl rfl sc_read_frames (fun _ _ _ _ _ _ us hl => match us, hl with | [_], _ => rfl) (ln_F fun _ => rfl) fun f cdv A outer s H vs Q E hr h => by
    refine ⟨_, (pss_cons (ps_par3 (i := 1) (j := 2) (l := 3) (by rfl) sc_read_frames.nd rfl rfl rfl (by decide) (by decide) (by decide) rfl rfl rfl (pa_cons (pe_lst pa_nil) (pa_cons pe_int (pa_cons (pe_d (d_frame_fault T) (hr.mono (by decide)) (pa_cons (pv 0) (pa_cons pe_int pa_nil))) pa_nil))) (by rfl))
    (pss_cons (ps_while PassesOwn.never (pt_cmpR op_isN (pv 3) pe_non (nomark _)) (pss_cons (ps_asg (pe_d (d_get_frame T) (hr.mono (by decide)) (pa_cons (pv 0) (pa_cons (pv 2) pa_nil))) (pg_tup (by rfl) (pgs_cons (pg_name (i := 4) sc_read_frames.nd rfl (by first | exact Or.inl rfl | exact Or.inr rfl)) (pgs_cons (pg_name (i := 2) sc_read_frames.nd rfl (by first | exact Or.inl rfl | exact Or.inr rfl)) pgs_nil))))
    (pss_cons (ps_expr (pe_bm PySem.F.plainAttrs_list PySem.F.slot_list_append PySem.F.type_list_append mt_append (pv 1) (pa_cons (pv 4) pa_nil)))
    (pss_one (ps_set (i := 3) sc_read_frames.nd rfl (by first | exact Or.inl rfl | exact Or.inr rfl) (pe_d (d_frame_fault T) (hr.mono (by decide)) (pa_cons (pv 0) (pa_cons (pv 2) pa_nil))))))))
    (pss_one (ps_ret (pe_tup (pa_cons (pe_callTy call_tuple_of (by rfl) T.n_tuple (by decide +kernel) (pa_cons (pv 1) pa_nil)) (pa_cons (pv 2) (pa_cons (pe_ifExp (pt_cmpR op_eq (pv 2) (pe_callB call_len_seq (by rfl) T.n_len (by decide +kernel) (pa_cons (pv 0) pa_nil)) (nomark _)) pe_str (pv 3)) pa_nil)))))))), ?_⟩
    obtain ⟨⟨bs, b, t⟩, hv, hp, k⟩ := h
    have hlen := hp.len
    have hbds := hp.bds
    have hbd := hp.bd
    have hk := hp.k
    dsimp only at hv k hlen hbds hbd hk
    have L := Loc.start (N := ["octets", "bodies", "end", "word", "body"]) hv
    -- the word at the i-th frame
    have ew : ∀ {H' : Hp} {l' : L2.St} {i j : Nat} {G : List (Option PyData)} {te : TE}, i ≤ bs.length → Loc H' (some (octD (fall bs ++ (frame b).take t)) :: G) l' → Ev te l' H' (.int ((fall (bs.take i)).length : Nat)) → Ev (tCall (spF (fun (p : Oct × Nat × Bool) => [octD p.1, .int (p.2.1 : Nat)]) FaultQ (fun p => if p.2.2 = true then .none else .str "cut")) [] E0 (tCons (tVar 0) (tCons te tNil))) l' H' (if i < bs.length then .none else .str "cut") := by
      intro H' l' i j G te hi L' he
      by_cases hlt : i < bs.length
      · rw [if_pos hlt]
        obtain ⟨x, hx⟩ : ∃ x, bs[i]? = some x := ⟨bs[i], List.getElem?_eq_getElem hlt⟩
        have hs : fall bs ++ (frame b).take t = fall (bs.take i) ++ frame x ++ (fall (bs.drop (i + 1)) ++ (frame b).take t) := by
          unfold fall
          rw [flat_split frame hx]
          simp only [List.append_assoc]
        refine ev_F (fall bs ++ (frame b).take t, (fall (bs.take i)).length, true) (ea_2 (ev_v L' rfl) he) ?_
        rw [hs]
        exact FaultQ.yes (hbds x (List.mem_of_getElem? hx))
      · have : i = bs.length := by omega
        subst this
        rw [if_neg hlt]
        refine ev_F (fall bs ++ (frame b).take t, (fall (bs.take bs.length)).length, false) (ea_2 (ev_v L' rfl) he) ?_
        rw [List.take_length]
        exact FaultQ.no hbd hk
    refine q_par3L (ds := []) (d2 := .int 0) (d3 := if 0 < bs.length then .none else .str "cut") (el_lst ea_nil (by decide)) ev_int (ew (j := 0) (Nat.zero_le _) L ev_int) L fun p xs w z H1 hp0 e1 h1 hx1 L1 => ?_
    refine q_while (fun m l' H' => ∃ i xs, m = bs.length - i ∧ i ≤ bs.length ∧ Same H H' ∧ Loc H' [some (octD (fall bs ++ (frame b).take t)), none, some (.int ((fall (bs.take i)).length : Nat)), some (if i < bs.length then .none else .str "cut"), none] l' ∧ l'[1]? = some (some (.ref p)) ∧ H' p = some (.lst xs) ∧ Dts H' ((bs.take i).map octD) xs) bs.length ⟨0, xs, rfl, Nat.zero_le _, e1, L1, ?_, h1, hx1⟩ ?_
    · obtain ⟨v, vs, rfl, h0, rfl⟩ := hv
      rfl
    rintro m l' H2 ⟨i, xs, rfl, hi, s2, L2, l2, h2, hx2⟩
    refine ⟨decide (i < bs.length), et_of ((ev_isN rfl (ev_v L2 rfl)).is ?_), fun hb H3 e3 => ?_, fun hb H3 e3 => ?_⟩
    · by_cases hlt : i < bs.length
      · rw [if_pos hlt, decide_eq_true hlt]; rfl
      · rw [if_neg hlt, decide_eq_false hlt]; rfl
    · have hlt := of_decide_eq_true hb
      obtain ⟨x, hx⟩ : ∃ x, bs[i]? = some x := ⟨bs[i], List.getElem?_eq_getElem hlt⟩
      have hs : fall bs ++ (frame b).take t = fall (bs.take i) ++ frame x ++ (fall (bs.drop (i + 1)) ++ (frame b).take t) := by
        unfold fall
        rw [flat_split frame hx]
        simp only [List.append_assoc]
      have hn : fall (bs.take (i + 1)) = fall (bs.take i) ++ frame x := by
        unfold fall
        rw [take_flat hx]
      have L3 := L2.to e3
      have hxl : xs.length = i := by rw [hx2.len, List.length_map, List.length_take]; omega
      refine q_un2 (d1 := octD x) (d2 := .int ((fall (bs.take (i + 1))).length : Nat)) ((ev_F (fall (bs.take i), x, fall (bs.drop (i + 1)) ++ (frame b).take t) (ea_2 ((ev_v L3 rfl).is (by rw [hs])) (ev_v L3 rfl)) (hbds x (List.mem_of_getElem? hx))).is (by rw [hn, List.length_append])) L3 fun v4 w4 H4 e4 _ _ L4 => ?_
      have l4 : ((l'.set 4 (some v4)).set 2 (some w4))[1]? = some (some (.ref p)) := by rw [List.getElem?_set_ne (by decide), List.getElem?_set_ne (by decide)]; exact l2
      have h4 := e4 _ _ (e3 _ _ h2)
      refine q_app (d := octD x) h4 l4 (ev_v L4 rfl) (by omega) fun v5 H5 e5 hd5 => ?_
      have h5 := e5 _ _ h4
      have k5 : Tk H5 (upd H5 p (.lst (xs ++ [v5]))) := tk_upd h5
      have L5 := (L4.to e5).tk k5
      refine s_asg (d := if i + 1 < bs.length then .none else .str "cut") (ew (j := 0) hlt L5 (ev_v L5 rfl)) L5 fun v6 H6 e6 _ L6 => ?_
      refine ⟨bs.length - (i + 1), by omega, i + 1, xs ++ [v5], rfl, hlt, ?_, L6.wk 4, by rw [List.getElem?_set_ne (by decide)]; exact l4, e6 _ _ upd_same, ?_⟩
      · exact (same_mut (((s2.trans e3).trans e4).trans e5) hp0).trans e6
      · rw [take_map hx]
        exact (Dts.tk k5 _ (((hx2.to (e3.trans e4)).to e5).app (Dts.one hd5))).to e6
    · have : i = bs.length := by have := of_decide_eq_false hb; omega
      subst this
      have L3 := L2.to e3
      rw [List.take_length] at L3 hx2
      rw [if_neg (Nat.lt_irrefl _)] at L3
      refine s_ret (ev_tup (ea_3 (ev_tuLs (vv_at l2) (e3 _ _ h2) (hx2.to e3)) (ev_v L3 rfl) (ev_if (b := decide (t = 0)) (et_of ((ev_eqI (ev_v L3 rfl) (ev_len (ds := (fall bs ++ (frame b).take t).map .int) (ev_v L3 rfl))).is ?_)) (fun hb => ev_str.is ?_) (fun hb => (ev_v L3 rfl).is ?_))) len3) fun v H4 e4 hd => k v H4 ((s2.trans e3).trans e4) hd
      · congr 1
        rw [List.length_map, List.length_append, List.length_take]
        exact decide_eq_decide.mpr (by omega)
      · show PyData.str "whole" = wordOf t
        unfold wordOf
        rw [if_pos (of_decide_eq_true hb)]
      · show PyData.str "cut" = wordOf t
        unfold wordOf
        rw [if_neg (of_decide_eq_false hb)]
end Sp
set_option Elab.async false
set_option linter.all false
set_option maxRecDepth 100000
set_option maxHeartbeats 4000000
namespace Sp
open PySem PySem.Spec PyProof.Rows L2
theorem q_seq {a b c : TS} {D : Ends} {l : L2.St} {H : Hp} (h : tSeq a b { D with nx := c D } l H) : tSeq (tSeq a b) c D l H := h
/-! ### records, images -/
theorem body_len {s : Nat} {w : Wr} (hs : s < 1000000) (h : WrOk w) : (body s w).length ≤ 200 := by
  unfold body
  rw [List.length_append]
  have := encWr_len h
  have := encNum_9 (n := s) (by omega)
  omega
theorem sc_put_record : FnScope ["stamp", "writes"] ["stamp", "writes"] (defScope s_put_record) := ⟨rfl, rfl, rfl, by decide +kernel, rfl, by decide +kernel, by decide +kernel⟩
theorem d_put_record {c : Cn} (T : Tx c) : Df c "put_record" 5 ["stamp", "writes"] (spF (fun (p : Nat × Wr) => [.int (p.1 : Nat), wrD p.2]) (fun p => p.1 < 1000000 ∧ WrOk p.2) (fun p => octD (rec_ p.1 p.2))) :=
  T.df 30 30 rfl rfl sc_put_record (fun _ _ _ _ _ _ us hl => match us, hl with | [_, _], _ => rfl) (ln_F fun _ => rfl) fun f cdv A outer s H vs Q E hr h => by
    refine ⟨_, (pss_one (ps_ret (pe_d (d_put_frame T) (hr.mono (by decide)) (pa_cons (pe_op op_catA (pe_d (d_put_number T) (hr.mono (by decide)) (pa_cons (pv 0) pa_nil)) (pe_d (d_put_writes T) (hr.mono (by decide)) (pa_cons (pv 1) pa_nil))) pa_nil)))), ?_⟩
    obtain ⟨⟨s0, w⟩, hv, ⟨hs, hw⟩, k⟩ := h
    dsimp only at hv hs hw k
    have L := Loc.start (N := ["stamp", "writes"]) hv
    have hl := body_len hs hw
    have hl2 : (encNum s0).length + (encWr w).length ≤ 200 := by unfold body at hl; rw [List.length_append] at hl; exact hl
    exact s_ret (ev_F (body s0 w) (ea_1 ((ev_cat (ds := (encNum s0).map .int) (es := (encWr w).map .int) (ev_F s0 (ea_1 (ev_v L rfl)) (by omega)) (ev_F w (ea_1 (ev_v L rfl)) hw) (by rw [List.length_map, List.length_map]; omega)).is (octD_app _ _))) (by omega)) fun v H1 e1 hd => k v H1 e1 hd
theorem sc_put_image : FnScope ["stamp", "entries"] ["stamp", "entries"] (defScope s_put_image) := ⟨rfl, rfl, rfl, by decide +kernel, rfl, by decide +kernel, by decide +kernel⟩
theorem d_put_image {c : Cn} (T : Tx c) : Df c "put_image" 6 ["stamp", "entries"] (spF (fun (p : Nat × Wr) => [.int (p.1 : Nat), wrD p.2]) (fun p => p.1 < 1000000 ∧ WrOk p.2) (fun p => octD (rec_ p.1 p.2))) :=
  T.df 31 31 rfl rfl sc_put_image (fun _ _ _ _ _ _ us hl => match us, hl with | [_, _], _ => rfl) (ln_F fun _ => rfl) fun f cdv A outer s H vs Q E hr h => by
    refine ⟨_, (pss_one (ps_ret (pe_d (d_put_frame T) (hr.mono (by decide)) (pa_cons (pe_op op_catA (pe_d (d_put_number T) (hr.mono (by decide)) (pa_cons (pv 0) pa_nil)) (pe_d (d_put_entries T) (hr.mono (by decide)) (pa_cons (pv 1) pa_nil))) pa_nil)))), ?_⟩
    obtain ⟨⟨s0, w⟩, hv, ⟨hs, hw⟩, k⟩ := h
    dsimp only at hv hs hw k
    have L := Loc.start (N := ["stamp", "entries"]) hv
    have hl := body_len hs hw
    have hl2 : (encNum s0).length + (encWr w).length ≤ 200 := by unfold body at hl; rw [List.length_append] at hl; exact hl
    exact s_ret (ev_F (body s0 w) (ea_1 ((ev_cat (ds := (encNum s0).map .int) (es := (encWr w).map .int) (ev_F s0 (ea_1 (ev_v L rfl)) (by omega)) (ev_F w (ea_1 (ev_v L rfl)) hw) (by rw [List.length_map, List.length_map]; omega)).is (octD_app _ _))) (by omega)) fun v H1 e1 hd => k v H1 e1 hd
def swD (s : Nat) (w : Wr) : PyData := .tuple [.int (s : Nat), wrD w]
theorem sc_get_record : FnScope ["body", "stamp", "place", "writes", "end"] ["body"] (defScope s_get_record) := ⟨rfl, rfl, rfl, by decide +kernel, rfl, by decide +kernel, by decide +kernel⟩
theorem d_get_record {c : Cn} (T : Tx c) : Df c "get_record" 7 ["body"] (spF (fun (p : Nat × Wr) => [octD (body p.1 p.2)]) (fun p => p.1 < 1000000 ∧ WrOk p.2) (fun p => swD p.1 p.2)) :=
  T.df 32 32 rfl rfl sc_get_record (fun _ _ _ _ _ _ us hl => match us, hl with | [_], _ => rfl) (ln_F fun _ => rfl) fun f cdv A outer s H vs Q E hr h => by
    refine ⟨_, (pss_cons (ps_try_thru0 (pss_cons (ps_asg (pe_d (d_get_number T) (hr.mono (by decide)) (pa_cons (pv 0) (pa_cons pe_int pa_nil))) (pg_tup (by rfl) (pgs_cons (pg_name (i := 1) sc_get_record.nd rfl (by first | exact Or.inl rfl | exact Or.inr rfl)) (pgs_cons (pg_name (i := 2) sc_get_record.nd rfl (by first | exact Or.inl rfl | exact Or.inr rfl)) pgs_nil))))
    (pss_one (ps_asg (pe_d (d_get_writes T) (hr.mono (by decide)) (pa_cons (pv 0) (pa_cons (pv 2) pa_nil))) (pg_tup (by rfl) (pgs_cons (pg_name (i := 3) sc_get_record.nd rfl (by first | exact Or.inl rfl | exact Or.inr rfl)) (pgs_cons (pg_name (i := 4) sc_get_record.nd rfl (by first | exact Or.inl rfl | exact Or.inr rfl)) pgs_nil)))))))
    (pss_one (ps_ret (pe_ifExp (pt_cmpR op_eq (pv 4) (pe_callB call_len_seq (by rfl) T.n_len (by decide +kernel) (pa_cons (pv 0) pa_nil)) (nomark _)) (pe_tup (pa_cons (pv 1) (pa_cons (pv 3) pa_nil))) pe_non)))), ?_⟩
    obtain ⟨⟨s0, w⟩, hv, ⟨hs, hw⟩, k⟩ := h
    dsimp only at hv hs hw k
    have L := Loc.start (N := ["body", "stamp", "place", "writes", "end"]) hv
    refine q_seq (q_un2 (d1 := .int (s0 : Nat)) (d2 := .int ((encNum s0).length : Nat)) ((ev_F (([] : Oct), s0, encWr w) (ea_2 ((ev_v L rfl).is rfl) (ev_int (i := 0))) (by show s0 < _; omega)).is (by simp)) L fun v1 v2 H1 e1 _ _ L1 => ?_)
    refine s_un2 (d1 := wrD w) (d2 := .int ((body s0 w).length : Nat)) ((ev_F (encNum s0, w, ([] : Oct)) (ea_2 ((ev_v L1 rfl).is (by show octD _ = octD _; rw [List.append_nil]; rfl)) (ev_v L1 rfl)) hw).is (by unfold body; simp)) L1 fun v3 v4 H2 e2 _ _ L2 => ?_
    exact s_ret (ev_if (b := true) (et_of ((ev_eqI (ev_v L2 rfl) (ev_len (ds := (body s0 w).map .int) (ev_v L2 rfl))).is (by simp))) (fun _ => ev_tup (ea_2 (ev_v L2 rfl) (ev_v L2 rfl)) len2) (fun z => nomatch z)) fun v H3 e3 hd => k v H3 ((e1.trans e2).trans e3) hd
/-- an image's octets: whole, or they break off -/
def ImgQ (p : Oct × Option (Nat × Wr)) : Prop := match p.2 with
  | some (s, w) => s < 1000000 ∧ WrOk w ∧ Full w ∧ p.1 = rec_ s w
  | none => ∃ (b : Oct) (k : Nat), b.length ≤ 65535 ∧ k < (frame b).length ∧ p.1 = (frame b).take k
def imgD : Option (Nat × Wr) → PyData
  | some (s, w) => swD s w
  | none => .none
theorem sc_get_image : FnScope ["octets", "bodies", "end", "word", "stamp", "place", "entries", "last"] ["octets"] (defScope s_get_image) := ⟨rfl, rfl, rfl, by decide +kernel, rfl, by decide +kernel, by decide +kernel⟩
theorem d_get_image {c : Cn} (T : Tx c) : Df c "get_image" 7 ["octets"] (spF (fun (p : Oct × Option (Nat × Wr)) => [octD p.1]) ImgQ (fun p => imgD p.2)) :=
  T.df 33 33 rfl rfl sc_get_image (fun _ _ _ _ _ _ us hl => match us, hl with | [_], _ => rfl) (ln_F fun _ => rfl) fun f cdv A outer s H vs Q E hr h => by
    refine ⟨_, (pss_cons (ps_asg (pe_d (d_read_frames T) (hr.mono (by decide)) (pa_cons (pv 0) pa_nil)) (pg_tup (by rfl) (pgs_cons (pg_name (i := 1) sc_get_image.nd rfl (by first | exact Or.inl rfl | exact Or.inr rfl)) (pgs_cons (pg_name (i := 2) sc_get_image.nd rfl (by first | exact Or.inl rfl | exact Or.inr rfl)) (pgs_cons (pg_name (i := 3) sc_get_image.nd rfl (by first | exact Or.inl rfl | exact Or.inr rfl)) pgs_nil)))))
    (pss_cons (ps_if (PW.pt (pw_or (pt_cmpR op_ne (pv 3) pe_str (nomark _)) (pw_or1 (pt_cmpR op_ne (pe_callB call_len_seq (by rfl) T.n_len (by decide +kernel) (pa_cons (pv 1) pa_nil)) pe_int (nomark _))))) (pss_one (ps_ret pe_non)) pss_nil)
    (pss_cons (ps_try_thru0 (pss_cons (ps_asg (pe_d (d_get_number T) (hr.mono (by decide)) (pa_cons (pe_ix ix_tup (pv 1) pe_int (fun _ _ => rfl)) (pa_cons pe_int pa_nil))) (pg_tup (by rfl) (pgs_cons (pg_name (i := 4) sc_get_image.nd rfl (by first | exact Or.inl rfl | exact Or.inr rfl)) (pgs_cons (pg_name (i := 5) sc_get_image.nd rfl (by first | exact Or.inl rfl | exact Or.inr rfl)) pgs_nil))))
    (pss_one (ps_asg (pe_d (d_get_entries T) (hr.mono (by decide)) (pa_cons (pe_ix ix_tup (pv 1) pe_int (fun _ _ => rfl)) (pa_cons (pv 5) pa_nil))) (pg_tup (by rfl) (pgs_cons (pg_name (i := 6) sc_get_image.nd rfl (by first | exact Or.inl rfl | exact Or.inr rfl)) (pgs_cons (pg_name (i := 7) sc_get_image.nd rfl (by first | exact Or.inl rfl | exact Or.inr rfl)) pgs_nil)))))))
    (pss_one (ps_ret (pe_ifExp (pt_cmpR op_eq (pv 7) (pe_callB call_len_seq (by rfl) T.n_len (by decide +kernel) (pa_cons (pe_ix ix_tup (pv 1) pe_int (fun _ _ => rfl)) pa_nil)) (nomark _)) (pe_tup (pa_cons (pv 4) (pa_cons (pv 6) pa_nil))) pe_non)))))), ?_⟩
    obtain ⟨⟨o, im⟩, hv, hq, k⟩ := h
    dsimp only at hv k
    have L := Loc.start (N := ["octets", "bodies", "end", "word", "stamp", "place", "entries", "last"]) hv
    cases im with
    | none =>
      obtain ⟨b, t, hb, ht, ho⟩ := hq
      have ho : o = (frame b).take t := ho
      subst ho
      refine q_un3 (d1 := .tuple []) (d2 := .int 0) (d3 := wordOf t) (ev_F (([] : List Oct), b, t) (ea_1 ((ev_v L rfl).is rfl)) ⟨Nat.zero_le _, (fun _ z => nomatch z), hb, ht⟩) L fun v1 v2 v3 H1 e1 _ _ _ L1 => ?_
      refine q_yes ((et_or (b := !decide ((if t = 0 then "whole" else "cut" : Str) = "whole")) (c := true) (et_of (ev_neS (ev_v L1 rfl) ev_str)) fun _ => et_of ((ev_neI (ev_len (ds := []) (ev_v L1 rfl)) (ev_int (i := 1))).is rfl)).is (by rw [Bool.or_true])) fun H2 e2 => ?_
      exact s_ret (d := .none) ev_non fun v H3 e3 hd => k v H3 ((e1.trans e2).trans e3) hd
    | some im =>
      obtain ⟨s0, w⟩ := im
      obtain ⟨hs, hw, hf, ho⟩ : s0 < 1000000 ∧ WrOk w ∧ Full w ∧ o = rec_ s0 w := hq
      subst ho
      have hl := body_len hs hw
      refine q_un3 (d1 := .tuple [octD (body s0 w)]) (d2 := .int ((fall [body s0 w]).length : Nat)) (d3 := wordOf 0) (ev_F ([body s0 w], body s0 w, 0) (ea_1 ((ev_v L rfl).is (by show octD _ = octD _; unfold fall rec_; simp))) ⟨by show 1 ≤ 10000; decide, (fun b hb => by rw [List.mem_singleton.mp hb]; omega), by show (body s0 w).length ≤ _; omega, by show 0 < (frame _).length; rw [frame_len]; omega⟩) L fun v1 v2 v3 H1 e1 _ _ _ L1 => ?_
      refine q_skip ((et_or (b := false) (c := false) (et_of ((ev_neS (ev_v L1 rfl) ev_str).is rfl)) fun _ => et_of ((ev_neI (ev_len (ds := [octD (body s0 w)]) (ev_v L1 rfl)) (ev_int (i := 1))).is rfl)).is rfl) fun H2 e2 => ?_
      have L2 := L1.to e2
      have hb0 : ∀ {H' : Hp} {l' : List (Option V)} {G : List (Option PyData)} {x0 : Option PyData}, Loc H' (x0 :: some (.tuple [octD (body s0 w)]) :: G) l' → Ev (tOp (rIxT c.K) (tVar 1) (tC (.int 0))) l' H' (octD (body s0 w)) := fun L' => ev_ix (i := 0) (ev_v L' rfl) ev_int rfl
      refine q_seq (q_un2 (d1 := .int (s0 : Nat)) (d2 := .int ((encNum s0).length : Nat)) ((ev_F (([] : Oct), s0, encWr w) (ea_2 ((hb0 L2).is rfl) (ev_int (i := 0))) (by show s0 < _; omega)).is (by simp)) L2 fun v1 v2 H3 e3 _ _ L3 => ?_)
      refine s_un2 (d1 := wrD w) (d2 := .int ((body s0 w).length : Nat)) ((ev_F (encNum s0, w, ([] : Oct)) (ea_2 ((hb0 L3).is (by show octD _ = octD _; rw [List.append_nil]; rfl)) (ev_v L3 rfl)) ⟨hw, hf⟩).is (by unfold body; simp)) L3 fun v3 v4 H4 e4 _ _ L4 => ?_
      exact s_ret (d := swD s0 w) (ev_if (b := true) (et_of ((ev_eqI (ev_v L4 rfl) (ev_len (ds := (body s0 w).map .int) (hb0 L4))).is (by simp))) (fun _ => ev_tup (ea_2 (ev_v L4 rfl) (ev_v L4 rfl)) len2) (fun z => nomatch z)) fun v H5 e5 hd => k v H5 ((((e1.trans e2).trans e3).trans e4).trans e5) hd
/-! ### rows of records -/
def bodies : Nat → List Wr → List Oct
  | _, [] => []
  | s, w :: ws => body s w :: bodies (s + 1) ws
def recs (s : Nat) (ws : List Wr) : Oct := fall (bodies s ws)
def recDs : Nat → List Wr → List PyData
  | _, [] => []
  | s, w :: ws => swD s w :: recDs (s + 1) ws
theorem bodies_len : ∀ (s : Nat) (ws : List Wr), (bodies s ws).length = ws.length
  | _, [] => rfl
  | s, _ :: ws => congrArg (· + 1) (bodies_len (s + 1) ws)
theorem recDs_len : ∀ (s : Nat) (ws : List Wr), (recDs s ws).length = ws.length
  | _, [] => rfl
  | s, _ :: ws => congrArg (· + 1) (recDs_len (s + 1) ws)
theorem bodies_get : ∀ {s i : Nat} {ws : List Wr} {b : Oct}, (bodies s ws)[i]? = some b → ∃ w, ws[i]? = some w ∧ b = body (s + i) w
  | _, _, [], _, h => by simp [bodies] at h
  | s, 0, w :: ws, b, h => ⟨w, rfl, (Option.some.inj h).symm⟩
  | s, i + 1, w :: ws, b, h => by
    obtain ⟨w', h1, h2⟩ := bodies_get (s := s + 1) (i := i) (ws := ws) h
    exact ⟨w', h1, by rw [h2, show s + 1 + i = s + (i + 1) by omega]⟩
theorem recDs_get : ∀ {s i : Nat} {ws : List Wr} {w : Wr}, ws[i]? = some w → (recDs s ws)[i]? = some (swD (s + i) w)
  | _, _, [], _, h => by simp at h
  | s, 0, w :: ws, _, h => by
    obtain rfl : w = _ := Option.some.inj h
    rfl
  | s, i + 1, w :: ws, _, h => by
    have := recDs_get (s := s + 1) (i := i) (ws := ws) h
    rw [show s + (i + 1) = s + 1 + i by omega]
    exact this
theorem recDs_app : ∀ (s : Nat) (a b : List Wr), recDs s (a ++ b) = recDs s a ++ recDs (s + a.length) b
  | s, [], b => rfl
  | s, w :: a, b => by
    show swD s w :: recDs (s + 1) (a ++ b) = swD s w :: (recDs (s + 1) a ++ _)
    rw [recDs_app (s + 1) a b, List.length_cons, show s + 1 + a.length = s + (a.length + 1) by omega]
theorem bodies_app : ∀ (s : Nat) (a b : List Wr), bodies s (a ++ b) = bodies s a ++ bodies (s + a.length) b
  | s, [], b => rfl
  | s, w :: a, b => by
    show body s w :: bodies (s + 1) (a ++ b) = body s w :: (bodies (s + 1) a ++ _)
    rw [bodies_app (s + 1) a b, List.length_cons, show s + 1 + a.length = s + (a.length + 1) by omega]
theorem recs_app (s : Nat) (a b : List Wr) : recs s (a ++ b) = recs s a ++ recs (s + a.length) b := by
  unfold recs fall
  rw [bodies_app, List.map_append, List.flatten_append]
theorem recs_one (s : Nat) (w : Wr) : recs s [w] = rec_ s w := by
  unfold recs fall bodies rec_ bodies
  simp
theorem recDs_take {s i : Nat} {ws : List Wr} {w : Wr} (h : ws[i]? = some w) : recDs s (ws.take (i + 1)) = recDs s (ws.take i) ++ [swD (s + i) w] := by
  have hi : i < ws.length := (List.getElem?_eq_some_iff.mp h).1
  rw [List.take_add_one, h, recDs_app, List.length_take, Nat.min_eq_left (by omega)]
  rfl
theorem Sd.sw {s : Nat} {w : Wr} (h : w.Ok) : Sd 3 (swD s w) := Sd.tup fun d hd => by
  rcases List.mem_cons.mp hd with rfl | hd
  · exact Sd.int 2 _
  · rw [List.mem_singleton.mp hd]
    exact Sd.wr h
theorem Sd.recs : ∀ {s : Nat} {ws : List Wr}, (∀ w ∈ ws, w.Ok) → ∀ d ∈ recDs s ws, Sd 3 d
  | _, [], _, _, hd => nomatch hd
  | s, w :: ws, h, d, hd => by
    rcases List.mem_cons.mp hd with rfl | hd
    · exact Sd.sw (h w List.mem_cons_self)
    · exact Sd.recs (s := s + 1) (fun w hw => h w (List.mem_cons_of_mem _ hw)) d hd
structure RoQ (p : Nat × List Wr × Oct × Nat) : Prop where
  len : p.1 + p.2.1.length < 1000000
  len2 : p.2.1.length ≤ 10000
  oks : ∀ w ∈ p.2.1, WrOk w
  bd : p.2.2.1.length ≤ 65535
  k : p.2.2.2 < (frame p.2.2.1).length
theorem sc_records_of : FnScope ["octets", "bodies", "end", "word", "records", "place", "body", "record"] ["octets"] (defScope s_records_of) := ⟨rfl, rfl, rfl, by decide +kernel, rfl, by decide +kernel, by decide +kernel⟩
theorem d_records_of {c : Cn} (T : Tx c) : Df c "records_of" 8 ["octets"] (spF (fun (p : Nat × List Wr × Oct × Nat) => [octD (recs p.1 p.2.1 ++ (frame p.2.2.1).take p.2.2.2)]) RoQ (fun p => .tuple [.tuple (recDs p.1 p.2.1), .int ((recs p.1 p.2.1).length : Nat), wordOf p.2.2.2])) :=
  T.df 34 34 rfl rfl sc_records_of (fun _ _ _ _ _ _ us hl => match us, hl with | [_], _ => rfl) (ln_F fun _ => rfl) fun f cdv A outer s H vs Q E hr h => by
    refine ⟨_, (pss_cons (ps_asg (pe_d (d_read_frames T) (hr.mono (by decide)) (pa_cons (pv 0) pa_nil)) (pg_tup (by rfl) (pgs_cons (pg_name (i := 1) sc_records_of.nd rfl (by first | exact Or.inl rfl | exact Or.inr rfl)) (pgs_cons (pg_name (i := 2) sc_records_of.nd rfl (by first | exact Or.inl rfl | exact Or.inr rfl)) (pgs_cons (pg_name (i := 3) sc_records_of.nd rfl (by first | exact Or.inl rfl | exact Or.inr rfl)) pgs_nil)))))
    (pss_cons (ps_par (i := 4) (j := 5) (by rfl) sc_records_of.nd rfl rfl (by decide) rfl rfl (pa_cons (pe_lst pa_nil) (pa_cons pe_int pa_nil)) (by rfl))
    (pss_cons (ps_for PassesOwn.never rfl (pi_tup (pv 1)) (pg_name (i := 6) sc_records_of.nd rfl (by first | exact Or.inl rfl | exact Or.inr rfl)) (pss_cons (ps_set (i := 7) sc_records_of.nd rfl (by first | exact Or.inl rfl | exact Or.inr rfl) (pe_d (d_get_record T) (hr.mono (by decide)) (pa_cons (pv 6) pa_nil)))
    (pss_cons (ps_if (PW.pt (pw_or (pt_cmpR op_isN (pv 7) pe_non (nomark _)) (pw_or1 (PW.pt (pw_and (pt_cmpR (op_neD hr.units) (pv 4) (pe_lst pa_nil) (nomark _)) (pw_and1 (pt_cmpR op_ne (pe_ix ix_tup (pv 7) pe_int (fun _ _ => rfl)) (pe_op op_add (pe_ix ix_tup (pe_ix ix_list (pv 4) (pe_un un_neg pe_int) (fun _ _ => rfl)) pe_int (fun _ _ => rfl)) pe_int) (nomark _)))))))) (pss_one (ps_ret (pe_tup (pa_cons (pe_callTy call_tuple_of (by rfl) T.n_tuple (by decide +kernel) (pa_cons (pv 4) pa_nil)) (pa_cons (pv 5) (pa_cons pe_str pa_nil)))))) pss_nil)
    (pss_cons (ps_expr (pe_bm PySem.F.plainAttrs_list PySem.F.slot_list_append PySem.F.type_list_append mt_append (pv 4) (pa_cons (pv 7) pa_nil)))
    (pss_one (ps_aug (i := 5) sc_records_of.nd rfl (by first | exact Or.inl rfl | exact Or.inr rfl) (pe_op op_add (pe_callB call_len_seq (by rfl) T.n_len (by decide +kernel) (pa_cons (pv 6) pa_nil)) (pe_k T.k_EXTRA)) ip_add))))))
    (pss_one (ps_ret (pe_tup (pa_cons (pe_callTy call_tuple_of (by rfl) T.n_tuple (by decide +kernel) (pa_cons (pv 4) pa_nil)) (pa_cons (pv 2) (pa_cons (pv 3) pa_nil))))))))), ?_⟩
    obtain ⟨⟨lo, ws, b, t⟩, hv, hq, k⟩ := h
    have hlen := hq.len
    have hlen2 := hq.len2
    have hoks := hq.oks
    have hbd := hq.bd
    have ht := hq.k
    dsimp only at hv k hlen hlen2 hoks hbd ht
    have L := Loc.start (N := ["octets", "bodies", "end", "word", "records", "place", "body", "record"]) hv
    have hsome : ∀ {i : Nat} {x : Oct}, (bodies lo ws)[i]? = some x → ∃ w, ws[i]? = some w ∧ x = body (lo + i) w ∧ WrOk w ∧ lo + i < 1000000 := fun {i x} hx => by
      obtain ⟨w, h1, h2⟩ := bodies_get hx
      have := (List.getElem?_eq_some_iff.mp h1).1
      exact ⟨w, h1, h2, hoks w (List.mem_of_getElem? h1), by omega⟩
    refine q_un3 (d1 := .tuple ((bodies lo ws).map octD)) (d2 := .int ((recs lo ws).length : Nat)) (d3 := wordOf t) (ev_F (bodies lo ws, b, t) (ea_1 (ev_v L rfl)) ⟨by show (bodies lo ws).length ≤ _; rw [bodies_len]; exact hlen2, (fun x hx => by
      obtain ⟨i, hi, e⟩ := List.mem_iff_getElem.mp hx
      obtain ⟨w, _, h2, h3, h4⟩ := hsome (i := i) (x := x) (by rw [List.getElem?_eq_getElem hi, e])
      have := body_len h4 h3
      rw [h2]
      omega), hbd, ht⟩) L fun v1 v2 v3 H1 e1 _ _ _ L1 => ?_
    refine q_parL2 (ds := []) (d2 := .int 0) (el_lst ea_nil (by decide)) ev_int L1 fun p xs w4 H2 hp e2 h2 hx2 L2 => ?_
    have hpf : H p = none := Same.free e1 hp
    refine q_forV (ds := (bodies lo ws).map octD) L2 rfl (fun i l' H' => Tk H2 H' ∧ Same H H' ∧ (∃ P : Int, Loc H' [some (octD (recs lo ws ++ (frame b).take t)), some (.tuple ((bodies lo ws).map octD)), some (.int ((recs lo ws).length : Nat)), some (wordOf t), none, some (.int P), none, none] l') ∧ l'[4]? = some (some (.ref p)) ∧ ∃ xs, H' p = some (.lst xs) ∧ Dts H' (recDs lo (ws.take i)) xs) ⟨Tk.refl _, e1.trans e2, ⟨0, L2⟩, ?_, xs, h2, hx2⟩ (fun i l' H' h => h.1) ?_ ?_
    · obtain ⟨v, vs, rfl, h0, rfl⟩ := hv
      rfl
    · rintro i d v l' H3 hi hd ⟨k3, s3, ⟨P, L3⟩, l3, xs, h3, hx3⟩
      obtain ⟨x, hx, rfl⟩ := map_at hi
      obtain ⟨w, hw1, rfl, hw2, hw3⟩ := hsome hx
      have hile : i < ws.length := (List.getElem?_eq_some_iff.mp hw1).1
      have hxl : xs.length = i := by rw [hx3.len, recDs_len, List.length_take]; omega
      have L4 := Loc.set hd 6 L3
      show tSeq _ _ _ _ _
      refine q_asg (d := swD (lo + i) w) (ev_F (lo + i, w) (ea_1 (ev_v L4 rfl)) ⟨hw3, hw2⟩) L4 fun v5 H5 e5 _ L5 => ?_
      have l5 : ((l'.set 6 (some v)).set 7 (some v5))[4]? = some (some (.ref p)) := by rw [List.getElem?_set_ne (by decide), List.getElem?_set_ne (by decide)]; exact l3
      have h5 := e5 _ _ h3
      have hx5 := hx3.to e5
      have hsh : SeqAt.shaped (.list (recDs lo (ws.take i))) = true := (Sd.lst (Sd.recs fun w hw => (hoks w (List.mem_of_mem_take hw)).ok)).shaped
      refine q_skip ((et_or (b := false) (c := false) (et_of ((ev_isN rfl (ev_v (d := swD (lo + i) w) L5 rfl)).is rfl)) fun _ => (et_and (b := !(recDs lo (ws.take i)).isEmpty) (c := false) (et_of (ev_neL (vv_at l5) h5 hx5 (el_lst ea_nil (by decide)) hsh)) fun hne => ?_).is (Bool.and_false _)).is rfl) fun H6 e6 => ?_
      · obtain ⟨j, rfl⟩ : ∃ j, i = j + 1 := ⟨i - 1, by
          have : i ≠ 0 := by
            rintro rfl
            rw [List.take_zero] at hne
            exact Bool.noConfusion hne
          omega⟩
        obtain ⟨r, hr'⟩ : ∃ r, ws[j]? = some r := ⟨ws[j]'(by omega), List.getElem?_eq_getElem (by omega)⟩
        have hlast : (recDs lo (ws.take (j + 1))).getLast? = some (swD (lo + j) r) := by rw [recDs_take hr', List.getLast?_concat]
        refine et_of ((ev_neI (i := ((lo + (j + 1) : Nat) : Int)) (j := ((lo + j : Nat) : Int) + 1) (ev_ix (ds := [.int ((lo + (j + 1) : Nat) : Int), wrD w]) (i := 0) (ev_v L5 rfl) ev_int rfl) (ev_I0 (ev_ix (ds := [.int ((lo + j : Nat) : Int), wrD r]) (i := 0) (ev_ixL (i := -1) (vv_at l5) h5 hx5 (ev_U ev_int) (atI_last hlast)) ev_int rfl) ev_int)).is ?_)
        rw [decide_eq_true (by omega)]
        rfl
      have L6 := L5.to e6
      refine q_app (d := swD (lo + i) w) (e6 _ _ h5) l5 (ev_v L6 rfl) (by omega) fun v7 H7 e7 hd7 => ?_
      have h7 := e7 _ _ (e6 _ _ h5)
      have k7 : Tk H7 (upd H7 p (.lst (xs ++ [v7]))) := tk_upd h7
      have L7 := (L6.to e7).tk k7
      refine s_augI (f := fun a b => a + b) (i := P) (j := ((body (lo + i) w).length : Nat) + 8) L7 rfl (ev_I0 ((ev_len (ds := (body (lo + i) w).map .int) (ev_v L7 rfl)).is (by rw [List.length_map])) ev_int) fun H8 e8 L8 => ?_
      refine ⟨?_, ?_, ⟨_, (L8.wk 6).wk 7⟩, by rw [List.getElem?_set_ne (by decide)]; exact l5, xs ++ [v7], e8 _ _ upd_same, ?_⟩
      · exact (((k3.trans (tk_same ((e5.trans e6).trans e7))).trans k7).trans (tk_same e8))
      · exact (same_mut (((s3.trans e5).trans e6).trans e7) hpf).trans e8
      · rw [recDs_take hw1]
        exact (Dts.tk k7 _ (((hx5.to e6).to e7).app (Dts.one hd7))).to e8
    · rintro l' H3 ⟨k3, s3, ⟨P, L3⟩, l3, xs, h3, hx3⟩
      rw [List.length_map, bodies_len, List.take_length] at hx3
      exact s_ret (ev_tup (ea_3 (ev_tuLs (vv_at l3) h3 hx3) (ev_v L3 rfl) (ev_v L3 rfl)) len3) fun v H4 e4 hd => k v H4 (s3.trans e4) hd
end Sp
set_option Elab.async false
set_option linter.all false
set_option maxRecDepth 100000
set_option maxHeartbeats 4000000
namespace Sp
open PySem PySem.Spec PyProof.Rows L2
/-! ### for over a list or a tuple -/
def iSq (K : PySem.W.Frag) (tl : TE) : TI := fun l H R => tl l H fun x H1 => ∃ a, x = .ref a ∧ (((∃ xs, SqL K H1 a xs) ∧ R (Itl K a) H1) ∨ ((∃ xs, SqT K H1 a xs) ∧ R (Itt K a) H1))
theorem pi_sq {X : Cx} {tg l : Expr} {tl : TE} (hl : PE X l tl) : PI X tg l (iSq X.K tl) := by
  refine ⟨fun pins s σ H R I h => ?_⟩
  refine thn (hl.run pins s σ H _ I h) fun v s1 ⟨x, H1, I1, r1, q1⟩ => ?_
  obtain ⟨a, e, ⟨⟨xs, hq⟩, q⟩ | ⟨⟨xs, hq⟩, q⟩⟩ := q1
  · subst e
    cases r1
    obtain ⟨its, rv, p, hz⟩ := I1.list hq
    refine wpAny_pyIter_list p.isList ?_
    refine ⟨s1.heap.objs.size, [s1.heap.objs.size], _, _, H1, rfl, I1.kept (t' := s1.toks) fun b o e => Heap.get?_push_of_some _ e, turn_list a _, ⟨_, Heap.get?_push_size _ rfl, rfl, rfl⟩, fun b hb => ?_, q⟩
    have e : b = s1.heap.objs.size := by simpa using hb
    subst e
    exact I1.fpOk (Nat.le_refl _) (I1.hok.fresh (Nat.le_refl _))
  · subst e
    cases r1
    obtain ⟨its, rv, p, hz⟩ := I1.tuple hq
    refine wpAny_pyIter_tuple (show s1.heap.IsTuple a its.toArray from p) ?_
    refine ⟨s1.heap.objs.size, [s1.heap.objs.size], _, _, H1, rfl, I1.kept (t' := s1.toks) fun b o e => Heap.get?_push_of_some _ e, turn_tuple a _, ⟨_, Heap.get?_push_size _ rfl, rfl, rfl⟩, fun b hb => ?_, q⟩
    have e : b = s1.heap.objs.size := by simpa using hb
    subst e
    exact I1.fpOk (Nat.le_refl _) (I1.hok.fresh (Nat.le_refl _))
/-- a list or a tuple of data -/
def Sq (g : Bool) (H : Hp) (a : Addr) (xs : List V) : Prop := match g with
  | true => H a = some (.lst xs)
  | false => Rd H a (.tup xs)
theorem Sq.to {g : Bool} {H H' : Hp} {a : Addr} {xs : List V} (h : Sq g H a xs) (e : Same H H') : Sq g H' a xs := by
  cases g with
  | true => exact e _ _ h
  | false => exact rd_to e h
theorem Sq.new {g : Bool} {H : Hp} {a p : Addr} {xs : List V} (h : Sq g H a xs) (hp : H p = none) : a ≠ p := by
  rintro rfl
  cases g with
  | true => rw [show H a = _ from h] at hp; cases hp
  | false =>
    rcases h with h | ⟨_, h⟩
    · rw [h] at hp; cases hp
    · rw [h] at hp; cases hp
theorem Sq.upd {g : Bool} {H : Hp} {a p : Addr} {xs : List V} {u : HO} (h : Sq g H a xs) (hp : a ≠ p) : Sq g (upd H p u) a xs := by
  cases g with
  | true => exact (upd_ne hp).trans h
  | false =>
    show Rd _ _ _
    unfold Rd
    rw [upd_ne hp]
    exact h
section
variable {K : PySem.W.Frag} {l : L2.St} {H H' : Hp} {ta tb tc te tl : TE} {d d1 d2 d3 : PyData} {ds es : List PyData} {G : List (Option PyData)} {D : Ends} {tz tu tw : TS} {n m o : Nat} {Q : VK}
theorem s_forSq {g : TG} {g0 : Bool} {a : Addr} {xs : List V} (hl : l[n]? = some (some (.ref a))) (hs0 : Sq g0 H a xs) (hx : Dts H ds xs) (Pv : Nat → L2.St → Hp → Prop) (h0 : Pv 0 l H) (hk : ∀ i l' H', Pv i l' H' → Sq g0 H' a xs ∧ Dts H' ds xs)
    (hs : ∀ (i : Nat) d v l' H', ds[i]? = some d → Dt H' d v → Pv i l' H' → g v l' H' fun l2 H2 => tu { D with nx := Pv (i + 1), ct := Pv (i + 1), bk := D.nx } l2 H2) (hd : ∀ l' H', Pv ds.length l' H' → D.nx l' H') : tFor (iSq K (tVar n)) g tu D l H := by
  have hs' : ∀ (i : Nat) x l' H', xs[i]? = some x → Pv i l' H' → g x l' H' fun l2 H2 => tu { D with nx := Pv (i + 1), ct := Pv (i + 1), bk := D.nx } l2 H2 := fun i x l' H' hi p => by
    obtain ⟨d, hd1, hd2⟩ := hx.of_get hi
    have := (hk i l' H' p).2
    obtain ⟨v, hv1, hv2⟩ := this.get hd1
    rw [hi] at hv1
    obtain rfl := Option.some.inj hv1
    exact hs i d _ l' H' hd1 hv2 p
  have hd' : ∀ l' H', Pv xs.length l' H' → D.nx l' H' := fun l' H' p => hd l' H' (by rw [← hx.len]; exact p)
  cases g0 with
  | true => exact ⟨_, hl, a, rfl, .inl ⟨⟨xs, SqL.of hs0⟩, for_list (xs := xs) Pv h0 (fun i l' H' _ p => SqL.of (hk i l' H' p).1) hs' hd'⟩⟩
  | false => exact ⟨_, hl, a, rfl, .inr ⟨⟨xs, .inl hs0⟩, for_tup (xs := xs) Pv h0 (fun i l' H' _ p => .inl (hk i l' H' p).1) hs' hd'⟩⟩
theorem q_forSq {g : TG} {g0 : Bool} {a : Addr} {xs : List V} (hl : l[n]? = some (some (.ref a))) (hs0 : Sq g0 H a xs) (hx : Dts H ds xs) (Pv : Nat → L2.St → Hp → Prop) (h0 : Pv 0 l H) (hk : ∀ i l' H', Pv i l' H' → Sq g0 H' a xs ∧ Dts H' ds xs)
    (hs : ∀ (i : Nat) d v l' H', ds[i]? = some d → Dt H' d v → Pv i l' H' → g v l' H' fun l2 H2 => tu { D with nx := Pv (i + 1), ct := Pv (i + 1), bk := tz D } l2 H2) (hd : ∀ l' H', Pv ds.length l' H' → tz D l' H') : tSeq (tFor (iSq K (tVar n)) g tu) tz D l H :=
  s_forSq (D := { D with nx := tz D }) hl hs0 hx Pv h0 hk hs hd
/-! ### the known values of writes -/
def rTupF (K : PySem.W.Frag) : List V → Hp → VK → Prop := fun xs H Q => ∃ p ys, xs = [.ref p] ∧ SqL K H p ys ∧ ∀ l o, H l = none → o.dict = none → Q (.ref l) (upd H l (.frz o (.tup ys)))
theorem r_tupF (h : EvL ta l H ds) (k : ∀ v H1, Same H H1 → Dt H1 (.tuple ds) v → DN H1 v → Q v H1) : tCB (rTupF K) (tCons ta tNil) l H Q :=
  h H (Same.refl _) _ fun p xs H1 hp e h1 hx => ⟨p, xs, rfl, SqL.of h1, fun z oz hz ho => k _ _ (e.trans (same_new hz)) ⟨z, xs, rfl, .inr ⟨oz, upd_same⟩, hx.to (same_new hz)⟩ ⟨z, oz, xs, rfl, upd_same, ho⟩⟩
def rSortD : List V → Hp → VK → Prop := fun xs H Q => ∃ (a : Addr) (kvs : List (Key × V)) (ks : List Str), xs = [.ref a] ∧ Rd H a (.dK kvs) ∧ kvs.map (·.1) = ks.map Sum.inr ∧ ks.length < 64 ∧ ∀ ys p, ys.Perm ks → sortedS ys = true → H p = none → Q (.ref p) (upd H p (.lst (ys.map V.str)))
theorem el_sortD {a : Addr} {kvs : List (Key × V)} {ks : List Str} (ha : EvV ta l H (.ref a)) (h : Rd H a (.dK kvs)) (hk : kvs.map (·.1) = ks.map Sum.inr) (hl : ks.length < 64) (hn : ks.Nodup) : EvL (tCB rSortD (tCons ta tNil)) l H ((srt ks).map .str) := fun H1 e Q q =>
  ha H1 e _ fun H2 e2 => ⟨a, kvs, ks, rfl, rd_to (e.trans e2) h, hk, hl, fun ys p hp hs hpn => by
    rw [srt_only hp hs hn]
    exact q p _ _ (Same.free e2 hpn) (e2.trans (same_new hpn)) upd_same (Dts.strs _)⟩
def keepF (f : Mp) : PyData → Bool
  | .str k => (f k).isSome
  | _ => false
def valF (f : Mp) : PyData → PyData
  | .str k => pairD (k, (f k).getD .non)
  | _ => .none
theorem kept_listed (f : Mp) : ∀ ks : List Str, kept (keepF f) (valF f) (ks.map .str) = (listed f ks).map pairD
  | [] => rfl
  | k :: ks => by
    unfold kept listed
    rw [List.map_cons, List.filter_cons, List.filterMap_cons]
    have ih := kept_listed f ks
    unfold kept listed at ih
    cases e : f k with
    | none =>
      have : keepF f (.str k) = false := by show (f k).isSome = false; rw [e]; rfl
      rw [this]
      exact ih
    | some v =>
      have : keepF f (.str k) = true := by show (f k).isSome = true; rw [e]; rfl
      rw [this, if_pos rfl, List.map_cons, ih]
      show pairD (k, (f k).getD .non) :: _ = pairD (k, v) :: _
      rw [e]
      rfl
/-- the last line: the known values in the order of their keys -/
theorem r_known {f : Mp} {kvs : List (Key × V)} {KS : List Str} {a : Addr} {j i : Nat} (L : l[j]? = some (some (.ref a))) (h : H a = some (.dK kvs)) (hk : DkI kvs KS f) (h64 : KS.length < 64) (hij : j ≠ i) (hil : i < l.length)
    (k : ∀ v H1 w, Same H H1 → IsMap f w → Dt H1 (wrD w) v → DN H1 v → Q v H1) :
    tCB (rTupF K) (tCons (tLc (iList K (tCB rSortD (tCons (tVar j) tNil))) (gName i) (tTest (tOp (fun x y H Q => y = .non ∧ Q (.bl (!decide (x = .non))) H) (tDGet (tVar j) (tVar i)) (tC .non))) (tTup (tCons (tVar i) (tCons (tDGet (tVar j) (tVar i)) tNil))) [i]) tNil) l H Q := by
  obtain ⟨⟨ks, h1, h2, h3⟩, hv⟩ := hk
  have hl : ks.length < 64 := Nat.lt_of_le_of_lt (nodup_sub_len h2 h3) h64
  have hm : ∀ k v, f k = some v → k ∈ srt ks := fun k v e => by
    obtain ⟨o, e1, e2⟩ := hv k
    rw [(srt_perm ks).mem_iff]
    cases o with
    | none => rw [e2] at e; cases e
    | some x =>
      have hne : valV kvs (.inr k : Key) ≠ none := by rw [e1]; exact fun z => nomatch z
      have : (Sum.inr k : Key) ∈ kvs.map (·.1) := by
        by_cases m : (Sum.inr k : Key) ∈ kvs.map (·.1)
        · exact m
        · exact absurd (valV_none_iff.mpr m) hne
      rw [h1] at this
      obtain ⟨k', m, e3⟩ := List.mem_map.mp this
      exact Sum.inr.inj e3 ▸ m
  have hs : IsMap f (listed f (srt ks)) := listed_is (srt_asc h2) hm
  refine r_tupF (ds := (listed f (srt ks)).map pairD) ?_ fun v H1 e hd hn => k v H1 _ e hs hd hn
  have key := el_lcN (K := K) (l := l) (H := H) (tl := tCB rSortD (tCons (tVar j) tNil)) (t := tTest (tOp (fun x y H Q => y = .non ∧ Q (.bl (!decide (x = .non))) H) (tDGet (tVar j) (tVar i)) (tC .non))) (te := tTup (tCons (tVar i) (tCons (tDGet (tVar j) (tVar i)) tNil))) (vs := [i]) (j := i) (keepF f) (valF f) (el_sortD (vv_at L) (.inl h) h1 hl h2) (by rw [List.length_map, (srt_perm ks).length_eq]; omega) (fun x => by
    show ((l.set i none).set i (some x)).set i none = l.set i none
    rw [List.set_set, List.set_set]) ?_
  · rw [kept_listed] at key
    exact key
  · intro n d v H1 e hd hdv
    obtain ⟨x, hx, rfl⟩ := map_at hd
    obtain rfl : v = .str x := hdv
    have hl2 : ((wipe l [i]).set i (some (V.str x)))[j]? = some (some (.ref a)) := by
      show ((l.set i none).set i (some (V.str x)))[j]? = _
      rw [List.getElem?_set_ne (Ne.symm hij), List.getElem?_set_ne (Ne.symm hij)]
      exact L
    have hl3 : ((wipe l [i]).set i (some (V.str x)))[i]? = some (some (.str x)) := by
      show ((l.set i none).set i (some (V.str x)))[i]? = _
      rw [List.getElem?_set_self (by rw [List.length_set]; exact hil)]
    have hxk : x ∈ ks := (srt_perm ks).mem_iff.mp (List.mem_of_getElem? hx)
    obtain ⟨o, e1, e2⟩ := hv x
    cases o with
    | none =>
      have := valV_none_iff.mp (show valV kvs (.inr x : Key) = none from e1)
      exact absurd (by rw [h1]; exact List.mem_map.mpr ⟨x, hxk, rfl⟩) this
    | some y =>
      have hg : ∀ {H' : Hp}, Same H H' → Ev (tDGet (tVar j) (tVar i)) ((wipe l [i]).set i (some (V.str x))) H' y.d := fun e' => ev_getK (d := .str x) (k := .inr x) (vv_at hl2) (ev_at hl3 rfl) rfl (.inl (e' _ _ h)) e1 (Val.dt y _)
      have e2 : f x = y.opt := e2
      refine ⟨et_of ((ev_notN rfl (hg e)).is ?_), fun hk => ?_⟩
      · show PyData.bool (!isNo y.d) = PyData.bool (f x).isSome
        rw [e2]
        cases y <;> rfl
      · have hk : (f x).isSome = true := hk
        rw [e2] at hk
        have ey : (f x).getD .non = y := by
          rw [e2]
          cases y with
          | non => exact Bool.noConfusion hk
          | int _ => rfl
          | str _ => rfl
        refine (ev_tup (ea_2 (ev_at (d := .str x) hl3 rfl) (hg e)) len2).is ?_
        show _ = pairD (x, (f x).getD .non)
        rw [ey]
        rfl
/-- one more write -/
theorem r_put {f : Mp} {kvs : List (Key × V)} {KS : List Str} {a : Addr} {j i1 i2 : Nat} {p : Str × Val} (L : l[j]? = some (some (.ref a))) (h : H a = some (.dK kvs)) (hk : DkI kvs KS f) (h64 : KS.length < 64) (h1 : l[i1]? = some (some (.str p.1))) (h2 : l[i2]? = some (some p.2.v)) (hp : p.1 ∈ KS)
    (k : ∀ kvs', DkI kvs' KS (semStep f p) → D.nx l (upd H a (.dK kvs'))) : sDPut (tVar j) (tVar i1) (tVar i2) D l H :=
  ⟨_, h2, _, L, _, h1, a, _, rfl, .inl ⟨kvs, .inr p.1, h, rfl, Nat.lt_of_le_of_lt hk.len (Nat.lt_of_lt_of_le h64 (by decide)), rfl⟩, k _ (hk.put hp)⟩
end
def spMap : Sp := fun vs H Q _ => ∃ (g0 : Bool) (ps : Wr) (KS : List Str) (a : Addr) (xs : List V), vs = [.ref a] ∧ Sq g0 H a xs ∧ Dts H (ps.map pairD) xs ∧ KS.length < 64 ∧ (∀ p ∈ ps, p.1 ∈ KS) ∧ ∀ v H' w, Same H H' → IsMap (sem Mp0 ps) w → Dt H' (wrD w) v → DN H' v → Q v H'
theorem sc_map_of : FnScope ["pairs", "known", "key", "value"] ["pairs"] (defScope s_map_of) := ⟨rfl, rfl, rfl, by decide +kernel, rfl, by decide +kernel, by decide +kernel⟩
theorem d_map_of {c : Cn} (T : Tx c) : Df c "map_of" 1 ["pairs"] (spMap ) :=
  T.df 5 5 rfl rfl sc_map_of (fun _ _ _ _ _ _ us hl => match us, hl with | [_], _ => rfl) (fun vs H Q E ⟨_, _, _, _, _, e, _⟩ => by rw [e] <;> rfl) fun f cdv A outer s H vs Q E hr h => by
    refine ⟨_, (pss_cons (ps_set (i := 1) sc_map_of.nd rfl (by first | exact Or.inl rfl | exact Or.inr rfl) pe_dnewK)
    (pss_cons (ps_for PassesOwn.never rfl (pi_sq (pv 0)) (pg_tup (by rfl) (pgs_cons (pg_name (i := 2) sc_map_of.nd rfl (by first | exact Or.inl rfl | exact Or.inr rfl)) (pgs_cons (pg_name (i := 3) sc_map_of.nd rfl (by first | exact Or.inl rfl | exact Or.inr rfl)) pgs_nil))) (pss_one (ps_dput (hu_of hr) (pv 1) (pv 2) (pv 3) rfl)))
    (pss_one (ps_ret (pe_callTy call_tupleF (by rfl) T.n_tuple (by decide +kernel) (pa_cons (pe_lc (own := [("key", 2)]) (by rfl) sc_map_of.nd (pi_list (pe_callB (call_sortedD rfl) (by rfl) T.n_sorted (by decide +kernel) (pa_cons (pv 1) pa_nil))) (blkOk_by (own := [("key", 2)]) (N := ["pairs", "known", "key", "value"]) (sc := defScope s_map_of) (by decide +kernel)) (fun _ _ _ _ _ => (pg_name (i := 2) sc_map_of.nd rfl (by first | exact Or.inl rfl | exact Or.inr rfl))) (fun _ _ _ _ _ => (pts_one (pt_cmpR op_notN (pe_dget (hu_of hr) (pv 1) (pv 2) (fun _ _ => rfl)) pe_non (nomark _)))) (fun _ _ _ _ _ => (pe_tup (pa_cons (pv 2) (pa_cons (pe_dget (hu_of hr) (pv 1) (pv 2) (fun _ _ => rfl)) pa_nil))))) pa_nil)))))), ?_⟩
    obtain ⟨g0, ps, KS, a, xs, rfl, hsq, hx, h64, hKS, k⟩ := h
    refine fun p hp => ?_
    have s1 : Same H (upd H p (.dK [])) := same_new hp
    refine q_forSq (g0 := g0) (a := a) (xs := xs) (ds := ps.map pairD) rfl (hsq.to s1) (hx.to s1) (fun i l' H' => Same H H' ∧ (∃ kvs, H' p = some (.dK kvs) ∧ DkI kvs KS (sem Mp0 (ps.take i))) ∧ l'.length = 4 ∧ l'[1]? = some (some (.ref p))) ⟨s1, ⟨[], upd_same, DkI.nil KS⟩, rfl, rfl⟩ (fun i l' H' h => ⟨hsq.to h.1, hx.to h.1⟩) ?_ ?_
    · rintro i d v l' H' hi hd ⟨s2, ⟨kvs, h2, hk⟩, hl, l1⟩
      obtain ⟨q, hq, rfl⟩ := map_at hi
      refine g_un2 (d1 := .str q.1) (d2 := q.2.d) hd (G := []) trivial fun v2 w2 hv2 hw2 _ => ?_
      obtain rfl : v2 = .str q.1 := hv2
      obtain rfl := Val.of_dt hw2
      refine r_put (p := q) (a := p) (KS := KS) (kvs := kvs) ?_ h2 hk h64 ?_ ?_ (hKS q (List.mem_of_getElem? hq)) fun kvs' hk' => ⟨same_mut s2 hp, ⟨kvs', upd_same, ?_⟩, by rw [List.length_set, List.length_set]; exact hl, ?_⟩
      · rw [List.getElem?_set_ne (by decide), List.getElem?_set_ne (by decide)]; exact l1
      · rw [List.getElem?_set_ne (by decide), List.getElem?_set_self (by omega)]
      · rw [List.getElem?_set_self (by rw [List.length_set]; omega)]
      · unfold sem at hk' ⊢
        rw [take_fold hq]
        exact hk'
      · rw [List.getElem?_set_ne (by decide), List.getElem?_set_ne (by decide)]; exact l1
    · rintro l' H' ⟨s2, ⟨kvs, h2, hk⟩, hl, l1⟩
      rw [List.length_map, List.take_length] at hk
      exact r_known (j := 1) (i := 2) l1 h2 hk h64 (by decide) (by omega) fun v H1 w e hs hd hn => k v H1 w (s2.trans e) hs hd hn
end Sp
set_option Elab.async false
set_option linter.all false
set_option maxRecDepth 100000
set_option maxHeartbeats 4000000
namespace Sp
open PySem PySem.Spec PyProof.Rows L2
/-! ### rules in comprehensions: the written part by name -/
theorem ix_listK {X : Cx} (K : PySem.W.Frag) (e : X.K = K := by rfl) : IxR X (rIxL K) := by
  subst e
  exact ix_list
theorem ix_tupK {X : Cx} (K : PySem.W.Frag) (e : X.K = K := by rfl) : IxR X (rIxT K) := by
  subst e
  exact ix_tup
theorem cr_sumK {X : Cx} (K : PySem.W.Frag) (hc : X.calm = true := by rfl) (e : X.K = K := by rfl) : CallR X (.builtin "sum") (rSum K) := by
  subst e
  exact cr_sum hc
theorem call_len_seqK {X : Cx} (K : PySem.W.Frag) (e : X.K = K := by rfl) : CallR X (.builtin "len") (rLenQ K) := by
  subst e
  exact call_len_seq
theorem pi_listK (K : PySem.W.Frag) {X : Cx} {tg l : Expr} {tl : TE} (hl : PE X l tl) (e : X.K = K := by rfl) : PI X tg l (iList K tl) := by
  subst e
  exact pi_list hl
theorem pi_tupK (K : PySem.W.Frag) {X : Cx} {tg l : Expr} {tl : TE} (hl : PE X l tl) (e : X.K = K := by rfl) : PI X tg l (iTup K tl) := by
  subst e
  exact pi_tup hl
section
variable {c : Cn} {x m kw : Str} {st : Stmt} {N ps : List Str} {k : Nat} {sp : Sp}
theorem Tx.dfk (T : Tx c) (i j : Nat) (hg : fa[j]? = some (.glo x)) (hd : fn[i]? = some (mkD (x, none) x x st)) (S : FnScope N ps (defScope st)) (hb : Bd x x st ps) (hkw : ∀ (kV doc pm : Value) (an : Option Addr) (cdv ct : Value) (u : Value), bindArgs (PySem.W.fnOf x x (defArgs st) (defBody st) (defScope st) .none kV doc pm an cdv ct) ⟨[], [(kw, u)]⟩ = pure (ps.zip [u])) (len : Ln ps sp) (ok : ∀ f, Bo c x st N k sp f) : Df c x (k + 1) ps sp ∧ Dk c x kw (k + 1) ps sp := by
  obtain ⟨fd, F⟩ := T.fun_ i hd
  have hF := FunD.ok F S len fun cdv A outer s H vs Q E hr h => by
    obtain ⟨t, h1, h2⟩ := ok _ cdv A outer s H vs Q E hr h
    exact ⟨t, PSs.nox h1, h2⟩
  refine ⟨⟨_, fd, hF, T.glo j hg, F.kp, F.bindsN hb⟩, ⟨_, fd, hF, T.glo j hg, F.kp, fun s u => ?_⟩⟩
  obtain ⟨oc, od, dV, kV, doc, pm, an, cdv, ct, osl, rfl, lk, hcd, hD, hK⟩ := F.ex
  rcases hD with ⟨_, rfl⟩ | ⟨e, _⟩
  · exact .of_eq (hkw kV doc pm an cdv ct u)
  · exact absurd rfl e
theorem Tx.mdk (T : Tx c) (i j : Nat) {q : Str} (hm : fa[j]? = some (.meth x m)) (hd : fn[i]? = some (mkD (x, some m) m q st)) (S : FnScope N ps (defScope st)) (hb : Bd m q st ps) (hkw : ∀ (kV doc pm : Value) (an : Option Addr) (cdv ct : Value) (a u : Value), bindArgs (PySem.W.fnOf m q (defArgs st) (defBody st) (defScope st) .none kV doc pm an cdv ct) ⟨[a], [(kw, u)]⟩ = pure (ps.zip [a, u])) (len : Ln ps sp) (ok : ∀ f, Bo c q st N k sp f) : Md c (He.ga c.K x) m (k + 1) ps sp ∧ Mkw c (He.ga c.K x) m kw (k + 1) ps sp := by
  obtain ⟨fd, F⟩ := T.fun_ i hd
  have hF := FunD.ok F S len fun cdv A outer s H vs Q E hr h => by
    obtain ⟨t, h1, h2⟩ := ok _ cdv A outer s H vs Q E hr h
    exact ⟨t, PSs.nox h1, h2⟩
  refine ⟨⟨_, fd, hF, T.meth j hm, F.bindsN hb⟩, ⟨_, fd, hF, T.meth j hm, fun s a u => ?_⟩⟩
  obtain ⟨oc, od, dV, kV, doc, pm, an, cdv, ct, osl, rfl, lk, hcd, hD, hK⟩ := F.ex
  rcases hD with ⟨_, rfl⟩ | ⟨e, _⟩
  · exact .of_eq (hkw kV doc pm an cdv ct a u)
  · exact absurd rfl e
end
/-! ### in pieces -/
section
variable {K : PySem.W.Frag} {l : L2.St} {H H' : Hp} {te ta : TE} {t tr : TA} {d : PyData} {ds : List PyData} {D : Ends} {tz tu tw : TS} {g : TG} {Q : VK} {QL : List V → Hp → Prop} {v : V} {sp : Sp} {E : XK} {tt : TT} {b : Bool}
theorem p_ret (h : te l H D.rt) : tRet te D l H := h
theorem p_asg (h : te l H fun v H1 => g v l H1 D.nx) : tAsg te g D l H := h
theorem p_seq (h : tu { D with nx := tz D } l H) : tSeq tu tz D l H := h
theorem p_qasg (h : te l H fun v H1 => g v l H1 (tz D)) : tSeq (tAsg te g) tz D l H := h
theorem p_drop (h : te l H fun _ H1 => D.nx l H1) : tDrop te D l H := h
theorem p_qdrop (h : te l H fun _ H1 => tz D l H1) : tSeq (tDrop te) tz D l H := h
theorem p_tup (h : t l H fun vs H1 => vs.length ≤ sizeLine ∧ ∀ p, H1 p = none → Q (.ref p) (upd H1 p (.tup vs))) : tTup t l H Q := h
theorem p_lst (h : t l H fun vs H1 => vs.length ≤ sizeLine ∧ ∀ p, H1 p = none → Q (.ref p) (upd H1 p (.lst vs))) : tLst t l H Q := h
theorem p_cons (h : ta l H fun v H1 => tr l H1 fun vs H2 => QL (v :: vs) H2) : tCons ta tr l H QL := h
theorem p_nil (h : QL [] H) : tNil l H QL := h
theorem p_vv (h : EvV te l H v) (k : ∀ H1, Same H H1 → Q v H1) : te l H Q := h H (Same.refl _) Q k
theorem p_ev (h : Ev te l H d) (k : ∀ v H1, Same H H1 → Dt H1 d v → Q v H1) : te l H Q := h H (Same.refl _) Q k
theorem p_ea (h : EvA t l H ds) (k : ∀ vs H1, Same H H1 → Dts H1 ds vs → QL vs H1) : t l H QL := h H (Same.refl _) QL k
theorem p_call (h : t l H fun vs H1 => sp (vs ++ []) H1 Q E) : tCall sp [] E t l H Q := h
theorem p_op {r : R2} (h : ta l H fun v H1 => te l H1 fun w H2 => r v w H2 Q) : tOp r ta te l H Q := h
theorem p_cb {r : List V → Hp → VK → Prop} (h : t l H fun vs H1 => r vs H1 Q) : tCB r t l H Q := h
theorem p_test {QB : Bool → Hp → Prop} (h : te l H fun v H1 => ∃ b, v = .bl b ∧ QB b H1) : tTest te l H QB := h
theorem p_if (h : tt l H fun b H1 => if b = true then tu D l H1 else tw D l H1) : tIfS tt tu tw D l H := h
theorem p_at {n : Nat} (h : l[n]? = some (some v)) (k : Q v H) : tVar n l H Q := ⟨v, h, k⟩
end
/-! ### the base image -/
def baseStep (at_ : Nat) (b : Option Nat × Nat × Wr) (im : Option (Nat × Wr)) : Option Nat × Nat × Wr := match im with
  | none => b
  | some (s, w) => if b.1 = none ∨ b.2.1 < s then (some at_, s, w) else b
def baseOf (im0 im1 : Option (Nat × Wr)) : Option Nat × Nat × Wr := baseStep 1 (baseStep 0 (none, 0, []) im0) im1
def optD : Option Nat → PyData
  | none => .none
  | some n => .int (n : Nat)
def baseD (b : Option Nat × Nat × Wr) : PyData := .tuple [optD b.1, .int (b.2.1 : Nat), wrD b.2.2]
section
variable {K : PySem.W.Frag} {l : L2.St} {H H' : Hp} {te : TE} {d1 d2 d3 : PyData} {G : List (Option PyData)} {D : Ends} {n m o : Nat}
/-- a, (b, c) = e -/
theorem s_un12 (h : Ev te l H (.tuple [d1, .tuple [d2, d3]])) (L : Loc H G l) (k : ∀ u v w H1, Same H H1 → Loc H1 (((G.set n (some d1)).set m (some d2)).set o (some d3)) (((l.set n (some u)).set m (some v)).set o (some w)) → D.nx (((l.set n (some u)).set m (some v)).set o (some w)) H1) :
    tAsg te (gTup K 2 (gCons (gName n) (gCons (gTup K 2 (gCons (gName m) (gCons (gName o) gNil))) gNil))) D l H := h H (Same.refl _) _ fun v H1 e hv => by
  obtain ⟨a, xs, rfl, ha, v1, vs1, rfl, h1, v2, vs2, rfl, ⟨b, ys, rfl, hb, v3, vs3, rfl, h3, v4, vs4, rfl, h4, rfl⟩, rfl⟩ := hv
  exact ⟨a, _, rfl, (.inl ha), rfl, v1, _, rfl, _, _, rfl, ⟨b, _, rfl, (.inl hb), rfl, v3, _, rfl, v4, _, rfl, rfl, rfl, k v1 v3 v4 H1 e (Loc.set h4 o (Loc.set h3 m (Loc.set h1 n (L.to e))))⟩⟩
theorem q_par3 {t1 t2 t3 : TE} {tz : TS} (h1 : Ev t1 l H d1) (h2 : Ev t2 l H d2) (h3 : Ev t3 l H d3) (L : Loc H G l)
    (k : ∀ u w z H1, Same H H1 → Loc H1 (((G.set n (some d1)).set m (some d2)).set o (some d3)) (((l.set n (some u)).set m (some w)).set o (some z)) → tz D (((l.set n (some u)).set m (some w)).set o (some z)) H1) :
    tSeq (tPar3 n m o (tCons t1 (tCons t2 (tCons t3 tNil)))) tz D l H := h1 H (Same.refl _) _ fun u H1 e1 hu => h2 H1 e1 _ fun w H2 e2 hw => h3 H2 (e1.trans e2) _ fun z H3 e3 hz =>
  ⟨u, w, z, rfl, k u w z H3 ((e1.trans e2).trans e3) (Loc.set hz o (Loc.set (hw.to e3) m (Loc.set (hu.to (e2.trans e3)) n (L.to ((e1.trans e2).trans e3)))))⟩
theorem _root_.Sp.Loc.le : ∀ {G : List (Option PyData)} {l : L2.St}, Loc H G l → G.length ≤ l.length
  | [], _, _ => Nat.zero_le _
  | none :: _, _, ⟨s, l', e, h⟩ => by subst e; exact Nat.succ_le_succ (Loc.le h)
  | some d :: _, _, ⟨v, l', e, _, h⟩ => by subst e; exact Nat.succ_le_succ (Loc.le h)
/-- a new list in a slot; the locals by another name -/
theorem q_asgN {tz : TS} {ds : List PyData} (h : EvL te l H ds) (L : Loc H G l) (hn : Nat.blt n G.length = true) (k : ∀ p xs l' H1, H p = none → Same H H1 → H1 p = some (.lst xs) → Dts H1 ds xs → l'[n]? = some (some (.ref p)) → (∀ j, j ≠ n → l'[j]? = l[j]?) → Loc H1 (G.set n none) l' → tz D l' H1) : tSeq (tAsg te (gName n)) tz D l H :=
  h H (Same.refl _) _ fun p xs H1 hp e h2 hx => k p xs _ H1 hp e h2 hx (List.getElem?_set_self (Nat.lt_of_lt_of_le (Nat.blt_eq.mp hn) L.le)) (fun j hj => List.getElem?_set_ne (Ne.symm hj)) (Loc.off n (L.to e))
theorem q_forL {tu tz : TS} {ds : List PyData} {g : TG} {a : Addr} {xs : List V} (hl : l[n]? = some (some (.ref a))) (hs0 : H a = some (.lst xs)) (Pv : Nat → L2.St → Hp → Prop) (h0 : Pv 0 l H) (hk : ∀ i l' H', Pv i l' H' → H' a = some (.lst xs) ∧ Dts H' ds xs)
    (hs : ∀ (i : Nat) d v l' H', ds[i]? = some d → Dt H' d v → Pv i l' H' → g v l' H' fun l2 H2 => tu { D with nx := Pv (i + 1), ct := Pv (i + 1), bk := tz D } l2 H2) (hd : ∀ l' H', Pv ds.length l' H' → tz D l' H') : tSeq (tFor (iList K (tVar n)) g tu) tz D l H :=
  ⟨_, hl, a, rfl, ⟨xs, SqL.of hs0⟩, for_list (xs := xs) Pv h0 (fun i l' H' _ p => SqL.of (hk i l' H' p).1) (fun i x l' H' hi p => by
    obtain ⟨d, hd1, hd2⟩ := (hk i l' H' p).2.of_get hi
    exact hs i d x l' H' hd1 hd2 p) (fun l' H' p => hd l' H' (by rw [← (hk _ _ _ p).2.len]; exact p))⟩
/-- list(t) of a tuple -/
def rLsQ (K : PySem.W.Frag) : List V → Hp → VK → Prop := fun xs H Q => ∃ p ys, xs = [.ref p] ∧ (SqL K H p ys ∨ SqT K H p ys) ∧ ∀ l, H l = none → Q (.ref l) (upd H l (.lst ys))
theorem el_ls {ds : List PyData} (h : Ev te l H (.tuple ds)) : EvL (tCB (rLsQ K) (tCons te tNil)) l H ds := fun H1 e Q q => h H1 e _ fun v H2 e2 hv => by
  obtain ⟨a, xs, rfl, ha, hx⟩ := hv
  exact ⟨a, xs, rfl, .inr (.inl ha), fun z hz => q z xs _ (Same.free e2 hz) (e2.trans (same_new hz)) upd_same (hx.to (same_new hz))⟩
theorem q_forT {tl : TE} {tu tz : TS} {ds : List PyData} {g : TG} (h : Ev tl l H (.tuple ds)) (Pv : Hp → Nat → L2.St → Hp → Prop) (h0 : ∀ H1, Same H H1 → Pv H1 0 l H1) (hk : ∀ H1 i l' H', Pv H1 i l' H' → Tk H1 H')
    (hs : ∀ H1, Same H H1 → ∀ (i : Nat) d v l' H', ds[i]? = some d → Dt H' d v → Pv H1 i l' H' → g v l' H' fun l2 H2 => tu { D with nx := Pv H1 (i + 1), ct := Pv H1 (i + 1), bk := tz D } l2 H2) (hd : ∀ H1, Same H H1 → ∀ l' H', Pv H1 ds.length l' H' → tz D l' H') : tSeq (tFor (iTup K tl) g tu) tz D l H :=
  h H (Same.refl _) _ fun v H1 e hv => by
    obtain ⟨a, xs, rfl, ha, hx⟩ := hv
    refine ⟨a, rfl, ⟨xs, .inl ha⟩, for_tup (xs := xs) (Pv H1) (h0 H1 e) (fun i l' H' _ p => .inl (hk H1 i l' H' p a xs ha)) (fun i v l' H' hi p => ?_) (fun l' H' p => hd H1 e l' H' (by rw [← hx.len]; exact p))⟩
    obtain ⟨d, hd1, hd2⟩ := hx.of_get hi
    exact hs H1 e i d v l' H' hd1 (Dt.tk (hk H1 i l' H' p) d hd2) p
end
structure DskQ (p : (Oct × Oct × Oct) × Option (Nat × Wr) × Option (Nat × Wr)) : Prop where
  i0 : ImgQ (p.1.1, p.2.1)
  i1 : ImgQ (p.1.2.1, p.2.2)
def dsk (p : Oct × Oct × Oct) : PyData := .tuple [octD p.1, octD p.2.1, octD p.2.2]
theorem sc_base_of : FnScope ["disk", "place", "stamp", "entries", "at", "image"] ["disk"] (defScope s_base_of) := ⟨rfl, rfl, rfl, by decide +kernel, rfl, by decide +kernel, by decide +kernel⟩
theorem d_base_of {c : Cn} (T : Tx c) : Df c "base_of" 8 ["disk"] (spF (fun (p : (Oct × Oct × Oct) × Option (Nat × Wr) × Option (Nat × Wr)) => [dsk p.1]) DskQ (fun p => baseD (baseOf p.2.1 p.2.2))) :=
  T.df 35 35 rfl rfl sc_base_of (fun _ _ _ _ _ _ us hl => match us, hl with | [_], _ => rfl) (ln_F fun _ => rfl) fun f cdv A outer s H vs Q E hr h => by
    refine ⟨_, (pss_cons (ps_asg (pe_tup (pa_cons pe_non (pa_cons pe_int (pa_cons (pe_tup pa_nil) pa_nil)))) (pg_tup (by rfl) (pgs_cons (pg_name (i := 1) sc_base_of.nd rfl (by first | exact Or.inl rfl | exact Or.inr rfl)) (pgs_cons (pg_name (i := 2) sc_base_of.nd rfl (by first | exact Or.inl rfl | exact Or.inr rfl)) (pgs_cons (pg_name (i := 3) sc_base_of.nd rfl (by first | exact Or.inl rfl | exact Or.inr rfl)) pgs_nil)))))
    (pss_cons (ps_for PassesOwn.never rfl (pi_tup (pe_tup (pa_cons pe_int (pa_cons pe_int pa_nil)))) (pg_name (i := 4) sc_base_of.nd rfl (by first | exact Or.inl rfl | exact Or.inr rfl)) (pss_cons (ps_set (i := 5) sc_base_of.nd rfl (by first | exact Or.inl rfl | exact Or.inr rfl) (pe_d (d_get_image T) (hr.mono (by decide)) (pa_cons (pe_ix ix_tup (pv 0) (pv 4) (fun _ _ => rfl)) pa_nil)))
    (pss_one (ps_if (PW.pt (pw_and (pt_cmpR op_notN (pv 5) pe_non (nomark _)) (pw_and1 (PW.pt (pw_or (pt_cmpR op_isN (pv 1) pe_non (nomark _)) (pw_or1 (pt_cmpR op_gt (pe_ix ix_tup (pv 5) pe_int (fun _ _ => rfl)) (pv 2) (nomark _)))))))) (pss_one (ps_asg (pe_tup (pa_cons (pv 4) (pa_cons (pv 5) pa_nil))) (pg_tup (by rfl) (pgs_cons (pg_name (i := 1) sc_base_of.nd rfl (by first | exact Or.inl rfl | exact Or.inr rfl)) (pgs_cons (pg_tup (by rfl) (pgs_cons (pg_name (i := 2) sc_base_of.nd rfl (by first | exact Or.inl rfl | exact Or.inr rfl)) (pgs_cons (pg_name (i := 3) sc_base_of.nd rfl (by first | exact Or.inl rfl | exact Or.inr rfl)) pgs_nil))) pgs_nil))))) pss_nil))))
    (pss_one (ps_ret (pe_tup (pa_cons (pv 1) (pa_cons (pv 2) (pa_cons (pv 3) pa_nil)))))))), ?_⟩
    obtain ⟨⟨⟨o0, o1, o2⟩, im0, im1⟩, hv, hq, k⟩ := h
    have q0 : ImgQ (o0, im0) := hq.i0
    have q1 : ImgQ (o1, im1) := hq.i1
    dsimp only at hv k
    have L := Loc.start (N := ["disk", "place", "stamp", "entries", "at", "image"]) hv
    refine q_un3 (d1 := .none) (d2 := .int 0) (d3 := .tuple []) (ev_tup (ea_3 ev_non ev_int (ev_tup ea_nil (by decide))) len3) L fun _ _ _ H1 e1 _ _ _ L1 => ?_
    -- one image
    have turn : ∀ {l' : List (Option V)} {H' : Hp} {at_ : Nat} {o : Oct} {im : Option (Nat × Wr)} {b : Option Nat × Nat × Wr} {D : Ends}, ImgQ (o, im) → atI [octD o0, octD o1, octD o2] ((at_ : Nat) : Int) = some (octD o) → Loc H' [some (dsk (o0, o1, o2)), some (optD b.1), some (.int (b.2.1 : Nat)), some (wrD b.2.2), some (.int (at_ : Nat)), none] l' →
        (∀ l2 H2, Same H' H2 → Loc H2 [some (dsk (o0, o1, o2)), some (optD (baseStep at_ b im).1), some (.int ((baseStep at_ b im).2.1 : Nat)), some (wrD (baseStep at_ b im).2.2), none, none] l2 → D.nx l2 H2) →
        tSeq (tAsg (tCall (spF (fun (p : Oct × Option (Nat × Wr)) => [octD p.1]) ImgQ (fun p => imgD p.2)) [] E0 (tCons (tOp (rIxT c.K) (tVar 0) (tVar 4)) tNil)) (gName 5))
          (tIfS (tAnd (tTest (tOp (fun x y H Q => y = .non ∧ Q (.bl (!decide (x = .non))) H) (tVar 5) (tC .non))) (tOr (tTest (tOp (fun x y H Q => y = .non ∧ Q (.bl (decide (x = .non))) H) (tVar 1) (tC .non))) (tTest (tOp (rI0 fun i j => .bl (decide (i > j))) (tOp (rIxT c.K) (tVar 5) (tC (.int 0))) (tVar 2)))))
            (tAsg (tTup (tCons (tVar 4) (tCons (tVar 5) tNil))) (gTup c.K 2 (gCons (gName 1) (gCons (gTup c.K 2 (gCons (gName 2) (gCons (gName 3) gNil))) gNil)))) tNext) D l' H' := by
      intro l' H' at_ o im b D hi hat L' kk
      refine q_asg (d := imgD im) (ev_F (o, im) (ea_1 (ev_ix (ds := [octD o0, octD o1, octD o2]) (ev_v L' rfl) (ev_v L' rfl) hat)) hi) L' fun v5 H5 e5 _ L5 => ?_
      cases im with
      | none => exact s_skip ((et_and (b := false) (c := false) (et_of ((ev_notN rfl (ev_v (d := imgD none) L5 rfl)).is rfl)) fun z => nomatch z).is rfl) fun H6 e6 => kk _ _ (e5.trans e6) (((L5.to e6).wk 4).wk 5)
      | some im =>
        obtain ⟨s0, w⟩ := im
        refine s_if (b := decide (b.1 = none ∨ b.2.1 < s0)) ((et_and (b := true) (c := decide (b.1 = none ∨ b.2.1 < s0)) (et_of ((ev_notN rfl (ev_v (d := imgD (some (s0, w))) L5 rfl)).is rfl)) fun _ => (et_or (b := isNo (optD b.1)) (c := decide ((s0 : Int) > (b.2.1 : Int))) (et_of (ev_isN rfl (ev_v L5 rfl))) fun _ => et_of (ev_B0 (i := (s0 : Int)) (j := (b.2.1 : Int)) (ev_ix (ds := [.int (s0 : Nat), wrD w]) (i := 0) (ev_v L5 rfl) ev_int rfl) (ev_v L5 rfl))).is ?_).is (Bool.true_and _)) (fun hb H6 e6 => ?_) (fun hb H6 e6 => ?_)
        · have e0 : isNo (optD b.1) = decide (b.1 = none) := by cases b.1 <;> rfl
          rw [e0, Bool.decide_or]
          congr 1
          exact decide_eq_decide.mpr (by omega)
        · have L6 := L5.to e6
          refine s_un12 (d1 := .int (at_ : Nat)) (d2 := .int (s0 : Nat)) (d3 := wrD w) (ev_tup (ea_2 (ev_v L6 rfl) (ev_v L6 rfl)) len2) L6 fun u v w' H7 e7 L7 => ?_
          have eb : baseStep at_ b (some (s0, w)) = (some at_, s0, w) := if_pos (of_decide_eq_true hb)
          rw [eb] at kk
          exact kk _ _ ((e5.trans e6).trans e7) ((L7.wk 4).wk 5)
        · have eb : baseStep at_ b (some (s0, w)) = b := if_neg (of_decide_eq_false hb)
          rw [eb] at kk
          exact kk _ _ (e5.trans e6) (((L5.to e6).wk 4).wk 5)
    have L1 : Loc H1 [some (dsk (o0, o1, o2)), some (optD none), some (.int ((0 : Nat) : Int)), some (wrD []), none, none] _ := L1
    refine q_forT (ds := [.int 0, .int 1]) (ev_tup (ea_2 ev_int ev_int) len2) (fun H2 i l' H' => ∃ b, Same H2 H' ∧ Loc H' [some (dsk (o0, o1, o2)), some (optD b.1), some (.int (b.2.1 : Nat)), some (wrD b.2.2), none, none] l' ∧ (i = 0 → b = (none, 0, [])) ∧ (i = 1 → b = baseStep 0 (none, 0, []) im0) ∧ (i = 2 → b = baseOf im0 im1)) (fun H2 e2 => ⟨(none, 0, []), Same.refl _, L1.to e2, fun _ => rfl, (fun z => nomatch z), (fun z => nomatch z)⟩) (fun H2 i l' H' ⟨_, h, _⟩ => tk_same h) ?_ ?_
    · rintro H2 e2 i d v l' H' hi hd ⟨b, s2, L2, hb0, hb1, hb2⟩
      match i, hi with
      | 0, hi =>
        obtain rfl := hb0 rfl
        obtain rfl : PyData.int 0 = d := Option.some.inj hi
        have hd : v = .int 0 := hd
        subst hd
        exact turn (at_ := 0) q0 (atI_nat rfl) (Loc.set (d := .int 0) (v := .int 0) rfl 4 L2) fun l2 H3 e3 L3 => ⟨_, s2.trans e3, L3, (fun z => nomatch z), fun _ => rfl, (fun z => nomatch z)⟩
      | 1, hi =>
        obtain rfl := hb1 rfl
        obtain rfl : PyData.int 1 = d := Option.some.inj hi
        have hd : v = .int 1 := hd
        subst hd
        exact turn (at_ := 1) q1 (atI_nat rfl) (Loc.set (d := .int 1) (v := .int 1) rfl 4 L2) fun l2 H3 e3 L3 => ⟨_, s2.trans e3, L3, (fun z => nomatch z), (fun z => nomatch z), fun _ => rfl⟩
      | i + 2, hi => simp at hi
    · rintro H2 e2 l' H' ⟨b, s2, L2, _, _, hb2⟩
      obtain rfl := hb2 rfl
      exact s_ret (d := baseD (baseOf im0 im1)) (ev_tup (ea_3 (ev_v L2 rfl) (ev_v L2 rfl) (ev_v L2 rfl)) len3) fun v H3 e3 hd => k v H3 (((e1.trans e2).trans s2).trans e3) hd
/-! ### a disk -/
structure Dk' where
  o0 : Oct
  o1 : Oct
  im0 : Option (Nat × Wr)
  im1 : Option (Nat × Wr)
  lo : Nat
  ws : List Wr
  b : Oct
  t : Nat
namespace Dk'
def log (d : Dk') : Oct := recs (d.lo + 1) d.ws ++ (frame d.b).take d.t
def dat (d : Dk') : PyData := dsk (d.o0, d.o1, d.log)
def base (d : Dk') : Option Nat × Nat × Wr := baseOf d.im0 d.im1
def later (d : Dk') : List Wr := d.ws.drop (d.base.2.1 - d.lo)
def stamp (d : Dk') : Nat := d.base.2.1 + d.later.length
def map (d : Dk') : Mp := sem Mp0 (d.base.2.2 ++ d.later.flatten)
def fin (d : Dk') : Nat := if d.later = [] then 0 else (recs (d.lo + 1) d.ws).length
end Dk'
structure DkQ (d : Dk') : Prop where
  i0 : ImgQ (d.o0, d.im0)
  i1 : ImgQ (d.o1, d.im1)
  ro : RoQ (d.lo + 1, d.ws, d.b, d.t)
  hd : d.ws = [] ∨ d.lo ≤ d.base.2.1
def isLater (n : Nat) : PyData → Bool
  | .tuple (.int s :: _) => decide (s > (n : Int))
  | _ => false
theorem recDs_none (n : Nat) : ∀ (s : Nat) (ws : List Wr), n < s → (recDs s ws).filter (isLater n) = recDs s ws
  | _, [], _ => rfl
  | s, w :: ws, h => by
    show (swD s w :: recDs (s + 1) ws).filter _ = swD s w :: recDs (s + 1) ws
    have e : isLater n (swD s w) = true := decide_eq_true (by omega)
    rw [List.filter_cons, e, recDs_none n (s + 1) ws (by omega)]
    rfl
theorem recDs_filter (n : Nat) : ∀ (lo : Nat) (ws : List Wr), lo ≤ n → (recDs (lo + 1) ws).filter (isLater n) = recDs (n + 1) (ws.drop (n - lo))
  | lo, [], _ => by simp [recDs]
  | lo, w :: ws, h => by
    by_cases e : lo = n
    · subst e
      rw [Nat.sub_self, List.drop_zero]
      exact recDs_none lo (lo + 1) (w :: ws) (by omega)
    · show (swD (lo + 1) w :: recDs (lo + 1 + 1) ws).filter _ = _
      have e2 : isLater n (swD (lo + 1) w) = false := decide_eq_false (by omega)
      rw [List.filter_cons, e2, show n - lo = (n - (lo + 1)) + 1 by omega, List.drop_succ_cons]
      exact recDs_filter n (lo + 1) ws (by omega)
theorem later_filter {d : Dk'} (h : DkQ d) : (recDs (d.lo + 1) d.ws).filter (isLater d.base.2.1) = recDs (d.base.2.1 + 1) d.later := by
  rcases h.hd with e | e
  · unfold Dk'.later
    rw [e]
    simp [recDs]
  · exact recDs_filter _ _ _ e
def spLater : Sp := fun vs H Q _ => ∃ d : Dk', Dts H [d.dat, .int (d.base.2.1 : Nat)] vs ∧ DkQ d ∧ ∀ a p xs H', Same H H' → H p = none → Rd H' a (.tup [.ref p, .int (d.fin : Nat), .str (if d.t = 0 then "whole" else "cut")]) → H' p = some (.lst xs) → Dts H' (recDs (d.base.2.1 + 1) d.later) xs → Q (.ref a) H'
theorem later_nil {d : Dk'} : (recDs (d.base.2.1 + 1) d.later).isEmpty = decide (d.later = []) := by
  cases e : d.later with
  | nil => rfl
  | cons w ws => rfl
theorem sc_later_records : FnScope ["disk", "stamp", "records", "end", "word", "later", "record"] ["disk", "stamp"] (defScope s_later_records) := ⟨rfl, rfl, rfl, by decide +kernel, rfl, by decide +kernel, by decide +kernel⟩
theorem d_later_records {c : Cn} (T : Tx c) : Df c "later_records" 9 ["disk", "stamp"] (spLater ) :=
  T.df 36 36 rfl rfl sc_later_records (fun _ _ _ _ _ _ us hl => match us, hl with | [_, _], _ => rfl) (fun vs H Q E ⟨d, hv, _⟩ => hv.len) fun f cdv A outer s H vs Q E hr h => by
    refine ⟨_, (pss_cons (ps_asg (pe_d (d_records_of T) (hr.mono (by decide)) (pa_cons (pe_ix ix_tup (pv 0) pe_int (fun _ _ => rfl)) pa_nil)) (pg_tup (by rfl) (pgs_cons (pg_name (i := 2) sc_later_records.nd rfl (by first | exact Or.inl rfl | exact Or.inr rfl)) (pgs_cons (pg_name (i := 3) sc_later_records.nd rfl (by first | exact Or.inl rfl | exact Or.inr rfl)) (pgs_cons (pg_name (i := 4) sc_later_records.nd rfl (by first | exact Or.inl rfl | exact Or.inr rfl)) pgs_nil)))))
    (pss_cons (ps_setLc (i := 5) (own := [("record", 6)]) (by rfl) sc_later_records.nd rfl rfl (sw_true rfl rfl rfl (by decide +kernel)) (pi_tup (pv 2)) (blkOk_by (own := [("record", 6)]) (N := ["disk", "stamp", "records", "end", "word", "later", "record"]) (sc := defScope s_later_records) (by decide +kernel)) (fun _ _ _ _ _ => (pg_name (i := 6) sc_later_records.nd rfl (by first | exact Or.inl rfl | exact Or.inr rfl))) (fun _ _ _ _ _ => (pts_one (pt_cmpR op_gt (pe_ix (ix_tupK c.K) (pv 6) pe_int (fun _ _ => rfl)) (pv 1) (nomark _)))) (fun _ _ _ _ _ => (pv 6)))
    (pss_cons (ps_if (PW.pt (pw_and (pt_cmpR (op_neD hr.units) (pv 5) (pe_lst pa_nil) (nomark _)) (pw_and1 (pt_cmpR op_ne (pe_ix ix_tup (pe_ix ix_list (pv 5) pe_int (fun _ _ => rfl)) pe_int (fun _ _ => rfl)) (pe_op op_add (pv 1) pe_int) (nomark _))))) (pss_one (ps_ret (pe_tup (pa_cons (pe_lst pa_nil) (pa_cons pe_int (pa_cons pe_str pa_nil)))))) pss_nil)
    (pss_one (ps_ret (pe_tup (pa_cons (pv 5) (pa_cons (pe_ifExp (pt_cmpR (op_neD hr.units) (pv 5) (pe_lst pa_nil) (nomark _)) (pv 3) pe_int) (pa_cons (pv 4) pa_nil))))))))), ?_⟩
    obtain ⟨d, hv, hq, k⟩ := h
    have L := Loc.start (N := ["disk", "stamp", "records", "end", "word", "later", "record"]) hv
    have hro := hq.ro
    refine q_un3 (d1 := .tuple (recDs (d.lo + 1) d.ws)) (d2 := .int ((recs (d.lo + 1) d.ws).length : Nat)) (d3 := wordOf d.t) (ev_F (d.lo + 1, d.ws, d.b, d.t) (ea_1 (ev_ix (ds := [octD d.o0, octD d.o1, octD d.log]) (i := 2) (ev_v L rfl) ev_int rfl)) hro) L fun v1 v2 v3 H1 e1 _ _ _ L1 => ?_
    have hlen : (recDs (d.lo + 1) d.ws).length ≤ 10000 := by rw [recDs_len]; exact hro.len2
    refine q_asgN (ds := recDs (d.base.2.1 + 1) d.later) ?_ L1 rfl fun p xs l' H2 hp e2 h2 hx2 l2 _ L2 => ?_
    · have key := el_lcT (K := c.K) (vs := [6]) (j := 6) (te := tVar 6) (t := tTest (tOp (rI0 fun i j => .bl (decide (i > j))) (tOp (rIxT c.K) (tVar 6) (tC (.int 0))) (tVar 1))) (isLater d.base.2.1) id (ev_v (n := 2) (d := .tuple (recDs (d.lo + 1) d.ws)) L1 rfl) (by omega) ?_ ?_
      · have ek : kept (isLater d.base.2.1) id (recDs (d.lo + 1) d.ws) = recDs (d.base.2.1 + 1) d.later := by
          unfold kept
          rw [List.map_id, later_filter hq]
        rw [ek] at key
        exact key
      · intro x
        show ((List.set _ 6 none).set 6 (some x)).set 6 none = List.set _ 6 none
        rw [List.set_set, List.set_set]
      · intro i x v H' e' hx hd
        have L3 := Loc.set hd 6 (Loc.off (v := none) 6 (L1.to e'))
        obtain ⟨w, hw⟩ : ∃ w, d.ws[i]? = some w := by
          have := (List.getElem?_eq_some_iff.mp hx).1
          rw [recDs_len] at this
          exact ⟨d.ws[i], List.getElem?_eq_getElem this⟩
        obtain rfl : swD (d.lo + 1 + i) w = x := by
          rw [recDs_get hw] at hx
          exact Option.some.inj hx
        exact ⟨et_of (ev_B0 (ev_ix (ds := [.int ((d.lo + 1 + i : Nat) : Int), wrD w]) (i := 0) (ev_v L3 rfl) ev_int rfl) (ev_v L3 rfl)), fun _ => ev_v L3 rfl⟩
    have hpf : H p = none := Same.free e1 hp
    have hsh : SeqAt.shaped (.list (recDs (d.base.2.1 + 1) d.later)) = true := (Sd.lst (Sd.recs fun w hw => (hro.oks w (List.mem_of_mem_drop hw)).ok)).shaped
    have hne : ∀ {H' : Hp}, Same H2 H' → Ev (tOp (rNeD c.K) (tVar 5) (tLst tNil)) l' H' (.bool (!decide (d.later = []))) := fun e' => (ev_neL (vv_at l2) (e' _ _ h2) (hx2.to e') (el_lst ea_nil (by decide)) hsh).is (by rw [later_nil])
    refine q_skip ((et_and (b := !decide (d.later = [])) (c := false) (et_of (hne (Same.refl _))) fun hb => ?_).is (Bool.and_false _)) fun H3 e3 => ?_
    · cases e : d.later with
      | nil => rw [e] at hb; exact Bool.noConfusion hb
      | cons w ws =>
        rw [e] at hx2
        refine et_of ((ev_neI (i := ((d.base.2.1 + 1 : Nat) : Int)) (j := ((d.base.2.1 : Nat) : Int) + 1) (ev_ix (ds := [.int ((d.base.2.1 + 1 : Nat) : Int), wrD w]) (i := 0) (ev_ixL (i := 0) (vv_at l2) h2 hx2 ev_int (atI_nat (j := 0) rfl)) ev_int rfl) (ev_I0 (ev_v L2 rfl) ev_int)).is ?_)
        rw [decide_eq_true (by omega)]
        rfl
    have s3 := (e1.trans e2).trans e3
    refine p_ret (p_tup (p_cons (p_vv (vv_at l2) fun H4 e4 => p_cons ?_)))
    refine p_ev (ev_if (d := .int (d.fin : Nat)) (b := !decide (d.later = [])) (et_of (hne (e3.trans e4))) (fun hb => (ev_v (n := 3) (L2.to (e3.trans e4)) rfl).is ?_) (fun hb => (ev_int (i := 0)).is ?_)) fun v5 H5 e5 hv5 => p_cons ?_
    · unfold Dk'.fin
      rw [if_neg (fun z => by rw [decide_eq_true z] at hb; exact Bool.noConfusion hb)]
    · unfold Dk'.fin
      rw [if_pos (by
        cases e : decide (d.later = []) with
        | true => exact of_decide_eq_true e
        | false => rw [e] at hb; exact Bool.noConfusion hb)]
      rfl
    obtain rfl : v5 = .int (d.fin : Nat) := hv5
    refine p_ev (ev_v (d := wordOf d.t) (n := 4) (L2.to ((e3.trans e4).trans e5)) rfl) fun v6 H6 e6 hv6 => p_nil ?_
    obtain rfl : v6 = .str (if d.t = 0 then "whole" else "cut") := hv6
    have s6 := ((e3.trans e4).trans e5).trans e6
    refine ⟨by show 3 ≤ sizeLine; decide, fun q hq => k q p xs _ (((e1.trans e2).trans s6).trans (same_new hq)) hpf (.inl upd_same) ((s6.trans (same_new hq)) _ _ h2) (hx2.to (s6.trans (same_new hq)))⟩
/-- what is recovered: the stamp, the map, the word -/
def spRec : Sp := fun vs H Q _ => ∃ (d : Dk') (KS : List Str), Dts H [d.dat] vs ∧ DkQ d ∧ KS.length < 64 ∧ (∀ p ∈ d.base.2.2 ++ d.later.flatten, p.1 ∈ KS) ∧ ∀ a v w H', Same H H' → IsMap d.map w → Rd H' a (.tup [.int (d.stamp : Nat), v, .str (if d.t = 0 then "whole" else "cut")]) → Dt H' (wrD w) v → DN H' v → Q (.ref a) H'
theorem flat_take_succ {ws : List Wr} {i : Nat} {w : Wr} (h : ws[i]? = some w) : (ws.take (i + 1)).flatten = (ws.take i).flatten ++ w := by
  rw [List.take_add_one, h, List.flatten_append]
  simp
theorem flat_len_le {ws : List Wr} (h : ∀ w ∈ ws, w.length ≤ 3) : ws.flatten.length ≤ 3 * ws.length := by
  induction ws with
  | nil => simp
  | cons w ws ih =>
    rw [List.flatten_cons, List.length_append, List.length_cons]
    have := ih fun w hw => h w (List.mem_cons_of_mem _ hw)
    have := h w List.mem_cons_self
    omega
theorem base_ok {d : Dk'} (h : DkQ d) : d.base.2.1 < 1000000 ∧ d.base.2.2.length ≤ 3 := by
  have h0 := h.i0
  have h1 := h.i1
  unfold Dk'.base baseOf
  have st : ∀ (n : Nat) (b : Option Nat × Nat × Wr) (o : Oct) (im : Option (Nat × Wr)), ImgQ (o, im) → (b.2.1 < 1000000 ∧ b.2.2.length ≤ 3) → ((baseStep n b im).2.1 < 1000000 ∧ (baseStep n b im).2.2.length ≤ 3) := by
    intro n b o im hi hb
    cases im with
    | none => exact hb
    | some p =>
      obtain ⟨hs, hw, _, _⟩ : p.1 < 1000000 ∧ WrOk p.2 ∧ Full p.2 ∧ o = rec_ p.1 p.2 := hi
      unfold baseStep
      dsimp only
      split
      · exact ⟨hs, hw.len⟩
      · exact hb
  exact st 1 _ _ _ h1 (st 0 _ _ _ h0 ⟨by decide, by decide⟩)
theorem sc_recover : FnScope ["disk", "place", "stamp", "entries", "later", "end", "word", "pairs", "record"] ["disk"] (defScope s_recover) := ⟨rfl, rfl, rfl, by decide +kernel, rfl, by decide +kernel, by decide +kernel⟩
theorem d_recover {c : Cn} (T : Tx c) : Df c "recover" 10 ["disk"] (spRec ) :=
  T.df 37 37 rfl rfl sc_recover (fun _ _ _ _ _ _ us hl => match us, hl with | [_], _ => rfl) (fun vs H Q E ⟨d, KS, hv, _⟩ => hv.len) fun f cdv A outer s H vs Q E hr h => by
    refine ⟨_, (pss_cons (ps_asg (pe_d (d_base_of T) (hr.mono (by decide)) (pa_cons (pv 0) pa_nil)) (pg_tup (by rfl) (pgs_cons (pg_name (i := 1) sc_recover.nd rfl (by first | exact Or.inl rfl | exact Or.inr rfl)) (pgs_cons (pg_name (i := 2) sc_recover.nd rfl (by first | exact Or.inl rfl | exact Or.inr rfl)) (pgs_cons (pg_name (i := 3) sc_recover.nd rfl (by first | exact Or.inl rfl | exact Or.inr rfl)) pgs_nil)))))
    (pss_cons (ps_asg (pe_d (d_later_records T) (hr.mono (by decide)) (pa_cons (pv 0) (pa_cons (pv 2) pa_nil))) (pg_tup (by rfl) (pgs_cons (pg_name (i := 4) sc_recover.nd rfl (by first | exact Or.inl rfl | exact Or.inr rfl)) (pgs_cons (pg_name (i := 5) sc_recover.nd rfl (by first | exact Or.inl rfl | exact Or.inr rfl)) (pgs_cons (pg_name (i := 6) sc_recover.nd rfl (by first | exact Or.inl rfl | exact Or.inr rfl)) pgs_nil)))))
    (pss_cons (ps_set (i := 7) sc_recover.nd rfl (by first | exact Or.inl rfl | exact Or.inr rfl) (pe_callTy call_list_of (by rfl) T.n_list (by decide +kernel) (pa_cons (pv 3) pa_nil)))
    (pss_cons (ps_for PassesOwn.never rfl (pi_list (pv 4)) (pg_name (i := 8) sc_recover.nd rfl (by first | exact Or.inl rfl | exact Or.inr rfl)) (pss_one (ps_expr (pe_bm PySem.F.plainAttrs_list PySem.F.slot_list_extend PySem.F.type_list_extend mt_extendT (pv 7) (pa_cons (pe_ix ix_tup (pv 8) pe_int (fun _ _ => rfl)) pa_nil)))))
    (pss_one (ps_ret (pe_tup (pa_cons (pe_op op_add (pv 2) (pe_callB call_len_seq (by rfl) T.n_len (by decide +kernel) (pa_cons (pv 4) pa_nil))) (pa_cons (pe_d (d_map_of T) (hr.mono (by decide)) (pa_cons (pv 7) pa_nil)) (pa_cons (pv 6) pa_nil)))))))))), ?_⟩
    obtain ⟨d, KS, hv, hq, h64, hKS, k⟩ := h
    have L := Loc.start (N := ["disk", "place", "stamp", "entries", "later", "end", "word", "pairs", "record"]) hv
    have hb := base_ok hq
    have hro := hq.ro
    have hlater : d.later.length ≤ 10000 := by
      unfold Dk'.later
      rw [List.length_drop]
      have : d.ws.length ≤ 10000 := hro.len2
      omega
    have hw3 : ∀ w ∈ d.later, w.length ≤ 3 := fun w hw => (hro.oks w (List.mem_of_mem_drop hw)).len
    refine q_un3 (d1 := optD d.base.1) (d2 := .int (d.base.2.1 : Nat)) (d3 := wrD d.base.2.2) (ev_F ((d.o0, d.o1, d.log), d.im0, d.im1) (ea_1 (ev_v L rfl)) ⟨hq.i0, hq.i1⟩) L fun v1 v2 v3 H1 e1 _ _ _ L1 => ?_
    refine p_qasg (p_call (p_ea (ea_2 (ev_v (n := 0) L1 rfl) (ev_v (n := 2) L1 rfl)) fun vs2 H2 e2 hv2 => ?_))
    refine ⟨d, by rw [List.append_nil]; exact hv2, hq, fun a p xs H3 e3 hp ha hp3 hx3 => ?_⟩
    refine ⟨a, _, rfl, .inl ha, rfl, _, _, rfl, _, _, rfl, _, _, rfl, rfl, ?_⟩
    generalize hl3 : List.set (List.set (List.set _ 4 _) 5 _) 6 _ = l3
    have L3 := Loc.set (d := wordOf d.t) (v := .str (if d.t = 0 then "whole" else "cut")) rfl 6 (Loc.set (d := .int (d.fin : Nat)) (v := .int (d.fin : Nat)) rfl 5 (Loc.off (v := some (.ref p)) 4 (L1.to (e2.trans e3))))
    have hlen := (L1.to (e2.trans e3)).le
    rw [hl3] at L3
    have l34 : l3[4]? = some (some (.ref p)) := by
      rw [← hl3, List.getElem?_set_ne (by decide), List.getElem?_set_ne (by decide), List.getElem?_set_self (Nat.lt_of_lt_of_le (Nat.blt_eq.mp (show Nat.blt 4 _ = true from rfl)) hlen)]
    have s3 := (e1.trans e2).trans e3
    refine q_asgN (ds := d.base.2.2.map pairD) (el_ls (ev_v (n := 3) L3 rfl)) L3 rfl fun q zs l4 H4 hq4 e4 h4 hz4 l47 l4j L4 => ?_
    have l44 : l4[4]? = some (some (.ref p)) := (l4j 4 (by decide)).trans l34
    have hpq : p ≠ q := ne_of_none hp3 hq4
    have hqf : H q = none := Same.free s3 hq4
    refine q_forL (ds := recDs (d.base.2.1 + 1) d.later) l44 (e4 _ _ hp3) (fun i l' H' => Same H H' ∧ Tk H4 H' ∧ H' p = some (.lst xs) ∧ Loc H' [some d.dat, some (optD d.base.1), some (.int (d.base.2.1 : Nat)), some (wrD d.base.2.2), none, some (.int (d.fin : Nat)), some (wordOf d.t), none, none] l' ∧ l'[4]? = some (some (.ref p)) ∧ l'[7]? = some (some (.ref q)) ∧ ∃ zs, H' q = some (.lst zs) ∧ Dts H' ((d.base.2.2 ++ (d.later.take i).flatten).map pairD) zs) ⟨s3.trans e4, Tk.refl _, e4 _ _ hp3, ?_, l44, l47, zs, h4, ?_⟩ (fun i l' H' h => ⟨h.2.2.1, Dts.tk h.2.1 _ (hx3.to e4)⟩) ?_ ?_
    · exact L4
    · rw [List.take_zero, List.flatten_nil, List.append_nil]
      exact hz4
    · rintro i x v l' H5 hi hd ⟨s5, k5, hp5, L5, l54, l57, zs, h5, hz5⟩
      obtain ⟨w, hw⟩ : ∃ w, d.later[i]? = some w := by
        have := (List.getElem?_eq_some_iff.mp hi).1
        rw [recDs_len] at this
        exact ⟨d.later[i], List.getElem?_eq_getElem this⟩
      obtain rfl : swD (d.base.2.1 + 1 + i) w = x := by
        rw [recDs_get hw] at hi
        exact Option.some.inj hi
      have hv8 : (l'.set 8 (some v))[8]? = some (some v) := List.getElem?_set_self (Nat.lt_of_lt_of_le (Nat.blt_eq.mp (show Nat.blt 8 9 = true from rfl)) L5.le)
      refine p_drop ⟨.ref q, by rw [List.getElem?_set_ne (by decide)]; exact l57, .inl ⟨rfl, _, SqL.of h5⟩, p_cons (p_ev (ev_ix (ds := [.int ((d.base.2.1 + 1 + i : Nat) : Int), wrD w]) (i := 1) (ev_at hv8 hd) ev_int rfl) fun v6 H6 e6 hv6 => p_nil ?_)⟩
      obtain ⟨b, ys, rfl, hb6, hy6⟩ := hv6
      have h6 := e6 _ _ h5
      have hzl : zs.length ≤ 30003 := by
        rw [hz5.len, List.length_map, List.length_append]
        have := flat_len_le (ws := d.later.take i) fun w hw => hw3 w (List.mem_of_mem_take hw)
        rw [List.length_take] at this
        omega
      have hyl : ys.length ≤ 3 := by
        rw [hy6.len, List.length_map]
        exact hw3 w (List.mem_of_getElem? hw)
      have k6 : Tk H6 (upd H6 q (.lst (zs ++ ys))) := tk_upd h6
      refine ⟨q, b, zs, ys, rfl, rfl, h6, .inl hb6, Nat.le_trans (show _ ≤ 1000000 by omega) (by decide), ?_⟩
      refine ⟨same_mut (s5.trans e6) hqf, (k5.trans (tk_same e6)).trans k6, ?_, ?_, ?_, ?_, _, upd_same, ?_⟩
      · rw [upd_ne hpq]
        exact e6 _ _ hp5
      · exact ((L5.to e6).tk k6).off 8
      · rw [List.getElem?_set_ne (by decide)]; exact l54
      · rw [List.getElem?_set_ne (by decide)]; exact l57
      · rw [flat_take_succ hw, ← List.append_assoc, List.map_append]
        exact Dts.tk k6 _ ((hz5.to e6).app hy6)
    · rintro l' H5 ⟨s5, k5, hp5, L5, l54, l57, zs, h5, hz5⟩
      rw [recDs_len, List.take_length] at hz5
      have hpl : xs.length = d.later.length := by rw [hx3.len, recDs_len]
      refine p_ret (p_tup (p_cons (p_ev (d := .int (d.stamp : Nat)) ((ev_I0 (ev_v L5 rfl) (ev_lenL (vv_at l54) hp5)).is (by rw [hpl]; rfl)) fun v6 H6 e6 hv6 => p_cons (p_call (p_cons (p_at l57 (p_nil ?_)))))))
      refine ⟨true, _, KS, q, zs, rfl, e6 _ _ h5, hz5.to e6, h64, hKS, fun v7 H7 w e7 hs hd7 hn7 => ?_⟩
      refine p_cons (p_ev (ev_v (n := 6) (d := wordOf d.t) (L5.to (e6.trans e7)) rfl) fun v8 H8 e8 hv8 => p_nil ⟨by show 3 ≤ sizeLine; decide, fun z hz => ?_⟩)
      obtain rfl : v6 = .int (d.stamp : Nat) := hv6
      obtain rfl : v8 = .str (if d.t = 0 then "whole" else "cut") := hv8
      exact k z v7 w _ ((((s5.trans e6).trans e7).trans e8).trans (same_new hz)) hs (.inl upd_same) (hd7.to (e8.trans (same_new hz))) (hn7.to (e8.trans (same_new hz)))
theorem sc_mend : FnScope ["disk", "place", "stamp", "entries", "later", "end", "word"] ["disk"] (defScope s_mend) := ⟨rfl, rfl, rfl, by decide +kernel, rfl, by decide +kernel, by decide +kernel⟩
theorem dk2_mend {c : Cn} (T : Tx c) : Df c "mend" 10 ["disk"] (spF (fun (d : Dk') => [d.dat]) DkQ (fun d => dsk (d.o0, d.o1, if d.later = [] then [] else recs (d.lo + 1) d.ws))) ∧ Dk c "mend" "disk" 10 ["disk"] (spF (fun (d : Dk') => [d.dat]) DkQ (fun d => dsk (d.o0, d.o1, if d.later = [] then [] else recs (d.lo + 1) d.ws))) :=
  T.dfk (kw := "disk") 38 38 rfl rfl sc_mend (fun _ _ _ _ _ _ us hl => match us, hl with | [_], _ => rfl) (fun _ _ _ _ _ _ _ => rfl) (ln_F fun _ => rfl) fun f cdv A outer s H vs Q E hr h => by
    refine ⟨_, (pss_cons (ps_asg (pe_d (d_base_of T) (hr.mono (by decide)) (pa_cons (pv 0) pa_nil)) (pg_tup (by rfl) (pgs_cons (pg_name (i := 1) sc_mend.nd rfl (by first | exact Or.inl rfl | exact Or.inr rfl)) (pgs_cons (pg_name (i := 2) sc_mend.nd rfl (by first | exact Or.inl rfl | exact Or.inr rfl)) (pgs_cons (pg_name (i := 3) sc_mend.nd rfl (by first | exact Or.inl rfl | exact Or.inr rfl)) pgs_nil)))))
    (pss_cons (ps_asg (pe_d (d_later_records T) (hr.mono (by decide)) (pa_cons (pv 0) (pa_cons (pv 2) pa_nil))) (pg_tup (by rfl) (pgs_cons (pg_name (i := 4) sc_mend.nd rfl (by first | exact Or.inl rfl | exact Or.inr rfl)) (pgs_cons (pg_name (i := 5) sc_mend.nd rfl (by first | exact Or.inl rfl | exact Or.inr rfl)) (pgs_cons (pg_name (i := 6) sc_mend.nd rfl (by first | exact Or.inl rfl | exact Or.inr rfl)) pgs_nil)))))
    (pss_one (ps_ret (pe_tup (pa_cons (pe_ix ix_tup (pv 0) pe_int (fun _ _ => rfl)) (pa_cons (pe_ix ix_tup (pv 0) pe_int (fun _ _ => rfl)) (pa_cons (pe_slice sl_tupA (pe_ix ix_tup (pv 0) pe_int (fun _ _ => rfl)) po_none (po_some (pv 5))) pa_nil)))))))), ?_⟩
    obtain ⟨d, hv, hq, k⟩ := h
    have L := Loc.start (N := ["disk", "place", "stamp", "entries", "later", "end", "word"]) hv
    have hb := base_ok hq
    refine q_un3 (d1 := optD d.base.1) (d2 := .int (d.base.2.1 : Nat)) (d3 := wrD d.base.2.2) (ev_F ((d.o0, d.o1, d.log), d.im0, d.im1) (ea_1 (ev_v L rfl)) ⟨hq.i0, hq.i1⟩) L fun v1 v2 v3 H1 e1 _ _ _ L1 => ?_
    refine p_qasg (p_call (p_ea (ea_2 (ev_v (n := 0) L1 rfl) (ev_v (n := 2) L1 rfl)) fun vs2 H2 e2 hv2 => ?_))
    refine ⟨d, by rw [List.append_nil]; exact hv2, hq, fun a p xs H3 e3 hp ha hp3 hx3 => ?_⟩
    refine ⟨a, _, rfl, .inl ha, rfl, _, _, rfl, _, _, rfl, _, _, rfl, rfl, ?_⟩
    have L3 := Loc.off (v := some (.str (if d.t = 0 then "whole" else "cut"))) 6 (Loc.set (d := .int (d.fin : Nat)) (v := .int (d.fin : Nat)) rfl 5 (Loc.off (v := some (.ref p)) 4 (L1.to (e2.trans e3))))
    have hcut : cutD (d.log.map PyData.int) none (some (d.fin : Nat)) = (if d.later = [] then [] else recs (d.lo + 1) d.ws).map .int := by
      unfold Dk'.log Dk'.fin
      rw [List.map_append]
      by_cases e : d.later = []
      · rw [if_pos e, if_pos e]
        exact cut_head [] _ rfl
      · rw [if_neg e, if_neg e]
        exact cut_head _ _ (by rw [List.length_map])
    exact s_ret (ev_tup (ea_3 (ev_ix (ds := [octD d.o0, octD d.o1, octD d.log]) (i := 0) (ev_v L3 rfl) ev_int rfl) (ev_ix (ds := [octD d.o0, octD d.o1, octD d.log]) (i := 1) (ev_v L3 rfl) ev_int rfl) ((ev_sl (ev_ix (d := octD d.log) (ds := [octD d.o0, octD d.o1, octD d.log]) (i := 2) (ev_v L3 rfl) ev_int rfl) eo_none (eo_some (ev_v L3 rfl))).is (congrArg PyData.tuple hcut))) len3) fun v H4 e4 hd => k v H4 (((e1.trans e2).trans e3).trans e4) hd
theorem d_mend {c : Cn} (T : Tx c) : Df c "mend" 10 ["disk"] (spF (fun (d : Dk') => [d.dat]) DkQ (fun d => dsk (d.o0, d.o1, if d.later = [] then [] else recs (d.lo + 1) d.ws))) := (dk2_mend T).1
theorem dk_mend {c : Cn} (T : Tx c) : Dk c "mend" "disk" 10 ["disk"] (spF (fun (d : Dk') => [d.dat]) DkQ (fun d => dsk (d.o0, d.o1, if d.later = [] then [] else recs (d.lo + 1) d.ws))) := (dk2_mend T).2
end Sp
set_option Elab.async false
set_option linter.all false
set_option maxRecDepth 100000
set_option maxHeartbeats 4000000
namespace Sp
open PySem PySem.Spec PyProof.Rows L2
/-! ### octets, disks, deeds -/
def rAllQ (K : PySem.W.Frag) : List V → Hp → VK → Prop := fun vs H Q => ∃ (a : Addr) (bs : List Bool), vs = [V.ref a] ∧ SqL K H a (bs.map V.bl) ∧ Q (.bl (bs.all id)) H
theorem ev_all {K : PySem.W.Frag} {l : L2.St} {H : Hp} {te : TE} {bs : List Bool} (h : EvL te l H (bs.map .bool)) : Ev (tCB (rAllQ K) (tCons te tNil)) l H (.bool (bs.all id)) := fun H1 e Q q => h H1 e _ fun p xs H2 hp e2 h2 hx => ⟨p, bs, rfl, by rw [← Dts.of_bls hx]; exact SqL.of h2, q _ _ e2 rfl⟩
theorem sc_is_octets : FnScope ["value", "octet"] ["value"] (defScope s_is_octets) := ⟨rfl, rfl, rfl, by decide +kernel, rfl, by decide +kernel, by decide +kernel⟩
theorem d_is_octets {c : Cn} (T : Tx c) : Df c "is_octets" 3 ["value"] (spF (fun (o : Oct) => [octD o]) (fun o => OctOk o ∧ o.length < 1000000) (fun _ => .bool true)) :=
  T.df 39 39 rfl rfl sc_is_octets (fun _ _ _ _ _ _ us hl => match us, hl with | [_], _ => rfl) (ln_F fun _ => rfl) fun f cdv A outer s H vs Q E hr h => by
    refine ⟨_, (pss_one (ps_ret (pe_and (pe_callB call_isi (by rfl) T.n_isinstance (by decide +kernel) (pa_cons (pv 0) (pa_cons (pe_bltn (v := .ty "tuple") (by rfl) T.n_tuple (by decide +kernel) rfl) pa_nil))) (pe_one (pe_callB (cr_all rfl) (by rfl) T.n_all (by decide +kernel) (pa_cons (pe_lc (own := [("octet", 1)]) (by rfl) sc_is_octets.nd (pi_tup (pv 0)) (blkOk_by (own := [("octet", 1)]) (N := ["value", "octet"]) (sc := defScope s_is_octets) (by decide +kernel)) (fun _ _ _ _ _ => (pg_name (i := 1) sc_is_octets.nd rfl (by first | exact Or.inl rfl | exact Or.inr rfl))) (fun _ _ _ _ _ => pts_nil) (fun _ _ _ _ _ => (pe_d (d_is_below T) (hr.mono (by decide)) (pa_cons (pv 1) (pa_cons pe_int pa_nil))))) pa_nil)))))), ?_⟩
    obtain ⟨o, hv, ⟨ho, hz⟩, k⟩ := h
    have L := Loc.start (N := ["value", "octet"]) hv
    have hlen := L.le
    refine s_ret (d := .bool true) ((ev_and (b := true) (c := true) (ev_isi (d := octD o) (ev_v L rfl) kt_tt) fun _ => (ev_all (bs := o.map fun _ => true) ?_).is ?_).is rfl) fun v H1 e hd => k v H1 e hd
    · have key := el_lcT (K := c.K) (vs := [1]) (j := 1) (l := L2.start ["value", "octet"] vs) (H := H) (tl := tVar 0) (te := tCall (spF (fun (p : Int × Int) => [.int p.1, .int p.2]) (fun _ => True) (fun p => .bool (decide (0 ≤ p.1) && decide (p.1 < p.2)))) [] E0 (tCons (tVar 1) (tCons (tC (.int 256)) tNil))) (t := tYes) (ds := o.map .int) (fun _ => true) (fun _ => .bool true) (ev_v L rfl) ?_ ?_ ?_
      · have e0 : kept (fun _ => true) (fun _ => .bool true) (o.map PyData.int) = (o.map fun _ => true).map PyData.bool := by
          rw [kept_all, List.map_map, List.map_map]
          rfl
        rw [e0] at key
        exact key
      · rw [List.length_map]; exact hz
      · intro x
        show ((List.set _ 1 none).set 1 (some x)).set 1 none = List.set _ 1 none
        rw [List.set_set, List.set_set]
      · intro i d v H1 e hd hdv
        obtain ⟨x, hx, rfl⟩ := map_at hd
        have hx2 := ho x (List.mem_of_getElem? hx)
        refine ⟨et_yes, fun _ => (ev_F (x, (256 : Int)) (ea_2 (ev_at (List.getElem?_set_self ?_) hdv) ev_int) trivial).is ?_⟩
        · show 1 < (List.set _ 1 none).length
          rw [List.length_set]
          exact hlen
        · rw [decide_eq_true hx2.1, decide_eq_true hx2.2]
          rfl
    · congr 1
      rw [List.all_map, List.all_eq_true]
      intro x _
      rfl
def OctS (o : Oct) : Prop := OctOk o ∧ o.length < 1000000
theorem sc_is_disk : FnScope ["value", "octets"] ["value"] (defScope s_is_disk) := ⟨rfl, rfl, rfl, by decide +kernel, rfl, by decide +kernel, by decide +kernel⟩
theorem d_is_disk {c : Cn} (T : Tx c) : Df c "is_disk" 4 ["value"] (spF (fun (p : Oct × Oct × Oct) => [dsk p]) (fun p => OctS p.1 ∧ OctS p.2.1 ∧ OctS p.2.2) (fun _ => .bool true)) :=
  T.df 40 40 rfl rfl sc_is_disk (fun _ _ _ _ _ _ us hl => match us, hl with | [_], _ => rfl) (ln_F fun _ => rfl) fun f cdv A outer s H vs Q E hr h => by
    refine ⟨_, (pss_one (ps_ret (pe_and (pe_d (d_is_tuple_of T) (hr.mono (by decide)) (pa_cons (pv 0) (pa_cons (pe_k T.k_PLACES) pa_nil))) (pe_one (pe_callB (cr_all rfl) (by rfl) T.n_all (by decide +kernel) (pa_cons (pe_lc (own := [("octets", 1)]) (by rfl) sc_is_disk.nd (pi_tup (pv 0)) (blkOk_by (own := [("octets", 1)]) (N := ["value", "octets"]) (sc := defScope s_is_disk) (by decide +kernel)) (fun _ _ _ _ _ => (pg_name (i := 1) sc_is_disk.nd rfl (by first | exact Or.inl rfl | exact Or.inr rfl))) (fun _ _ _ _ _ => pts_nil) (fun _ _ _ _ _ => (pe_d (d_is_octets T) (hr.mono (by decide)) (pa_cons (pv 1) pa_nil)))) pa_nil)))))), ?_⟩
    obtain ⟨⟨o0, o1, o2⟩, hv, ⟨h0, h1, h2⟩, k⟩ := h
    have L := Loc.start (N := ["value", "octets"]) hv
    have hlen := L.le
    dsimp only at h0 h1 h2 k
    refine s_ret (d := .bool true) ((ev_and (b := true) (c := true) ((ev_F ([octD o0, octD o1, octD o2], (3 : Int)) (ea_2 (ev_v L rfl) ev_int) trivial).is rfl) fun _ => (ev_all (bs := [true, true, true]) ?_).is rfl).is rfl) fun v H1 e hd => k v H1 e hd
    have key := el_lcT (K := c.K) (vs := [1]) (j := 1) (l := L2.start ["value", "octets"] vs) (H := H) (tl := tVar 0) (te := tCall (spF (fun (o : Oct) => [octD o]) (fun o => OctOk o ∧ o.length < 1000000) (fun _ => .bool true)) [] E0 (tCons (tVar 1) tNil)) (t := tYes) (ds := [octD o0, octD o1, octD o2]) (fun _ => true) (fun _ => .bool true) (ev_v L rfl) (by show 3 < 1000000; decide) ?_ ?_
    · exact key
    · intro x
      show ((List.set _ 1 none).set 1 (some x)).set 1 none = List.set _ 1 none
      rw [List.set_set, List.set_set]
    · intro i d v H1 e hd hdv
      have hl1 : 1 < ((wipe (L2.start ["value", "octets"] vs) [1])).length := by
        show 1 < (List.set _ 1 none).length
        rw [List.length_set]
        exact hlen
      match i, hd with
      | 0, hd =>
        obtain rfl : octD o0 = d := Option.some.inj hd
        exact ⟨et_yes, fun _ => ev_F o0 (ea_1 (ev_at (List.getElem?_set_self hl1) hdv)) h0⟩
      | 1, hd =>
        obtain rfl : octD o1 = d := Option.some.inj hd
        exact ⟨et_yes, fun _ => ev_F o1 (ea_1 (ev_at (List.getElem?_set_self hl1) hdv)) h1⟩
      | 2, hd =>
        obtain rfl : octD o2 = d := Option.some.inj hd
        exact ⟨et_yes, fun _ => ev_F o2 (ea_1 (ev_at (List.getElem?_set_self hl1) hdv)) h2⟩
      | i + 3, hd => simp at hd
/-- what is done to a file -/
inductive Deed where
  | keep (n : Nat) | add (o : Oct)
def Deed.d : Deed → PyData
  | .keep n => .tuple [.str "keep", .int (n : Nat)]
  | .add o => .tuple [.str "add", octD o]
def Deed.steps : Deed → Nat
  | .keep _ => 1
  | .add o => o.length
def behind (o : Oct) : Deed → Oct
  | .keep n => o.take n
  | .add x => o ++ x
def behQ (p : Oct × Deed) : Prop := match p.2 with
  | .keep _ => True
  | .add x => p.1.length + x.length ≤ 1000000
theorem cut_take (o : Oct) (n : Nat) : cutD (o.map PyData.int) none (some (n : Nat)) = (o.take n).map .int := by
  unfold cutD
  rw [sIx_k, HT.sIx_none, List.drop_zero, Nat.sub_zero, List.map_take, List.length_map]
  by_cases h : n ≤ o.length
  · rw [Nat.min_eq_left h]
  · rw [Nat.min_eq_right (by omega), List.take_of_length_le (by rw [List.length_map]; exact Nat.le_refl _), List.take_of_length_le (by rw [List.length_map]; omega)]
theorem sc_octets_behind : FnScope ["octets", "deed", "word", "thing"] ["octets", "deed"] (defScope s_octets_behind) := ⟨rfl, rfl, rfl, by decide +kernel, rfl, by decide +kernel, by decide +kernel⟩
theorem d_octets_behind {c : Cn} (T : Tx c) : Df c "octets_behind" 1 ["octets", "deed"] (spF (fun (p : Oct × Deed) => [octD p.1, p.2.d]) behQ (fun p => octD (behind p.1 p.2))) :=
  T.df 41 41 rfl rfl sc_octets_behind (fun _ _ _ _ _ _ us hl => match us, hl with | [_, _], _ => rfl) (ln_F fun _ => rfl) fun f cdv A outer s H vs Q E hr h => by
    refine ⟨_, (pss_cons (ps_asg (pv 1) (pg_tup (by rfl) (pgs_cons (pg_name (i := 2) sc_octets_behind.nd rfl (by first | exact Or.inl rfl | exact Or.inr rfl)) (pgs_cons (pg_name (i := 3) sc_octets_behind.nd rfl (by first | exact Or.inl rfl | exact Or.inr rfl)) pgs_nil))))
    (pss_one (ps_ret (pe_ifExp (pt_cmpR op_eq (pv 2) pe_str (nomark _)) (pe_slice sl_tupA (pv 0) po_none (po_some (pv 3))) (pe_op op_catA (pv 0) (pv 3)))))), ?_⟩
    obtain ⟨⟨o, w⟩, hv, hq, k⟩ := h
    have L := Loc.start (N := ["octets", "deed", "word", "thing"]) hv
    dsimp only at L k
    cases w with
    | keep n =>
      refine q_un2 (d1 := .str "keep") (d2 := .int (n : Nat)) (ev_v L rfl) L fun v1 v2 H1 e1 _ _ L1 => ?_
      exact s_ret (ev_if (b := true) (et_of ((ev_eqS (ev_v L1 rfl) ev_str).is rfl)) (fun _ => (ev_sl (ev_v L1 rfl) eo_none (eo_some (ev_v L1 rfl))).is (congrArg PyData.tuple (cut_take o n))) (fun z => nomatch z)) fun v H2 e2 hd => k v H2 (e1.trans e2) hd
    | add x =>
      have hq : o.length + x.length ≤ 1000000 := hq
      refine q_un2 (d1 := .str "add") (d2 := octD x) (ev_v L rfl) L fun v1 v2 H1 e1 _ _ L1 => ?_
      exact s_ret (ev_if (b := false) (et_of ((ev_eqS (ev_v L1 rfl) ev_str).is rfl)) (fun z => nomatch z) (fun _ => (ev_cat (ds := o.map .int) (es := x.map .int) (ev_v L1 rfl) (ev_v L1 rfl) (by rw [List.length_map, List.length_map]; exact hq)).is (octD_app o x))) fun v H2 e2 hd => k v H2 (e1.trans e2) hd
theorem sc_steps_of : FnScope ["deed", "word", "thing"] ["deed"] (defScope s_steps_of) := ⟨rfl, rfl, rfl, by decide +kernel, rfl, by decide +kernel, by decide +kernel⟩
theorem d_steps_of {c : Cn} (T : Tx c) : Df c "steps_of" 1 ["deed"] (spF (fun (w : Deed) => [w.d]) (fun _ => True) (fun w => .int (w.steps : Nat))) :=
  T.df 42 42 rfl rfl sc_steps_of (fun _ _ _ _ _ _ us hl => match us, hl with | [_], _ => rfl) (ln_F fun _ => rfl) fun f cdv A outer s H vs Q E hr h => by
    refine ⟨_, (pss_cons (ps_asg (pv 0) (pg_tup (by rfl) (pgs_cons (pg_name (i := 1) sc_steps_of.nd rfl (by first | exact Or.inl rfl | exact Or.inr rfl)) (pgs_cons (pg_name (i := 2) sc_steps_of.nd rfl (by first | exact Or.inl rfl | exact Or.inr rfl)) pgs_nil))))
    (pss_one (ps_ret (pe_ifExp (pt_cmpR op_eq (pv 1) pe_str (nomark _)) pe_int (pe_callB call_len_seq (by rfl) T.n_len (by decide +kernel) (pa_cons (pv 2) pa_nil)))))), ?_⟩
    obtain ⟨w, hv, _, k⟩ := h
    have L := Loc.start (N := ["deed", "word", "thing"]) hv
    cases w with
    | keep n =>
      refine q_un2 (d1 := .str "keep") (d2 := .int (n : Nat)) (ev_v L rfl) L fun v1 v2 H1 e1 _ _ L1 => ?_
      exact s_ret (ev_if (b := true) (et_of ((ev_eqS (ev_v L1 rfl) ev_str).is rfl)) (fun _ => (ev_int (i := 1)).is rfl) (fun z => nomatch z)) fun v H2 e2 hd => k v H2 (e1.trans e2) hd
    | add x =>
      refine q_un2 (d1 := .str "add") (d2 := octD x) (ev_v L rfl) L fun v1 v2 H1 e1 _ _ L1 => ?_
      exact s_ret (ev_if (b := false) (et_of ((ev_eqS (ev_v L1 rfl) ev_str).is rfl)) (fun z => nomatch z) (fun _ => (ev_len (ds := x.map .int) (ev_v L1 rfl)).is (by rw [List.length_map]; rfl))) fun v H2 e2 hd => k v H2 (e1.trans e2) hd
end Sp
set_option Elab.async false
set_option linter.all false
set_option maxRecDepth 100000
set_option maxHeartbeats 4000000
namespace Sp
open PySem PySem.Spec PyProof.Rows L2
/-! ### what may change -/
structure Fr (H : Hp) (M : List Addr) (H' : Hp) (M' : List Addr) : Prop where
  keep : ∀ a o, H a = some o → a ∉ M → H' a = some o
  sub : ∀ a ∈ M', a ∈ M ∨ H a = none
  dom : ∀ a, H' a = none → H a = none
  tk : Tk H H'
theorem Fr.refl (H : Hp) (M : List Addr) : Fr H M H M := ⟨fun _ _ h _ => h, fun _ h => .inl h, fun _ h => h, Tk.refl H⟩
theorem Fr.trans {H H1 H2 : Hp} {M M1 M2 : List Addr} (h : Fr H M H1 M1) (g : Fr H1 M1 H2 M2) : Fr H M H2 M2 := by
  refine ⟨fun a o e n => ?_, fun a m => ?_, fun a e => h.dom a (g.dom a e), h.tk.trans g.tk⟩
  · refine g.keep a o (h.keep a o e n) fun m => ?_
    rcases h.sub a m with q | q
    · exact n q
    · rw [e] at q; cases q
  · rcases g.sub a m with q | q
    · exact h.sub a q
    · exact .inr (h.dom a q)
theorem Fr.same {H H1 : Hp} {M : List Addr} (e : Same H H1) : Fr H M H1 M := ⟨fun a o h _ => e a o h, fun _ h => .inl h, fun _ h => Same.free e h, tk_same e⟩
theorem Fr.to {H H1 H2 : Hp} {M M1 : List Addr} (h : Fr H M H1 M1) (e : Same H1 H2) : Fr H M H2 M1 := h.trans (Fr.same e)
theorem Fr.of {H H1 H2 : Hp} {M M1 : List Addr} (e : Same H H1) (h : Fr H1 M H2 M1) : Fr H M H2 M1 := (Fr.same e).trans h
theorem Fr.upd {H : Hp} {M : List Addr} {p : Addr} {o u : HO} (hp : p ∈ M) (h : H p = some o) (ho : wr o = true := by rfl) : Fr H M (upd H p u) M := by
  refine ⟨fun a o e n => ?_, fun a m => .inl m, fun a e => ?_, tk_upd h ho⟩
  · rw [upd_ne (by rintro rfl; exact n hp)]
    exact e
  · by_cases q : a = p
    · subst q
      rw [upd_same] at e
      cases e
    · rw [upd_ne q] at e
      exact e
theorem Fr.weak {H H' : Hp} {M M' N : List Addr} (h : Fr H M H' M') (hs : ∀ a ∈ M, a ∈ N) : Fr H N H' M' := ⟨fun a o e n => h.keep a o e fun m => n (hs a m), fun a m => (h.sub a m).imp (hs a) id, h.dom, h.tk⟩
/-- what lies apart stays -/
theorem Fr.out {H H' : Hp} {M M' : List Addr} {a : Addr} {o : HO} (h : Fr H M H' M') (e : H a = some o) (n : a ∉ M) : H' a = some o := h.keep a o e n
/-- what lies apart stays apart -/
theorem Fr.apart {H H' : Hp} {M M' : List Addr} {a : Addr} {o : HO} (h : Fr H M H' M') (e : H a = some o) (n : a ∉ M) : a ∉ M' := fun m => (h.sub a m).elim n fun q => by rw [e] at q; cases q
section
variable {K : PySem.W.Frag} {l : L2.St} {H H' : Hp} {ta tb tc te tl : TE} {d d1 d2 d3 : PyData} {ds es : List PyData} {G : List (Option PyData)} {D : Ends} {tz tu tw : TS} {n m o : Nat} {Q : VK} {i j : Int} {v : V}
theorem EvV.to (h : EvV te l H v) (e : Same H H') : EvV te l H' v := fun H1 a Q q => h H1 (e.trans a) Q q
theorem ev_ofV (h : EvV te l H v) (hd : Dt H d v) : Ev te l H d := fun H1 e Q q => h H1 e Q fun H2 e2 => q v H2 e2 (hd.to (e.trans e2))
theorem vv_ix {a : Addr} {xs : List V} (ha : EvV ta l H (.ref a)) (h : H a = some (.lst xs)) (hb : Ev tb l H (.int i)) (hv : atI xs i = some v) : EvV (tOp (rIxL K) ta tb) l H v := fun H1 e Q q =>
  ha H1 e _ fun H2 e2 => hb H2 (e.trans e2) _ fun w H3 e3 h3 => ⟨a, xs, i, v, rfl, h3, SqL.of (((e.trans e2).trans e3) _ _ h), hv, q H3 (e2.trans e3)⟩
theorem vv_fld {a C : Addr} {dx : Addr} {fs : List (Str × V)} {f : Str} (ha : EvV ta l H (.ref a)) (h : H a = some (.ins C dx fs)) (c : Cls K C) (nf : NoAttr K C f) (hv : fs.lookup f = some v) : EvV (tFld K ta f) l H v := fun H1 e Q q =>
  ha H1 e _ fun H2 e2 => ⟨a, C, dx, fs, v, rfl, (e.trans e2) _ _ h, c, nf, hv, q H2 e2⟩
/-- xs.append(e), the list anywhere -/
theorem s_appV {p : Addr} {xs : List V} (ho : EvV ta l H (.ref p)) (hl : H p = some (.lst xs)) (h : Ev te l H d) (hz : xs.length < 1000000) (k : ∀ v H1, Same H H1 → Dt H1 d v → D.nx l (upd H1 p (.lst (xs ++ [v])))) :
    tDrop (tBM K "list" rAppend ta (tCons te tNil)) D l H :=
  ho H (Same.refl _) _ fun H1 e1 => ⟨.inl ⟨rfl, _, SqL.of (e1 _ _ hl)⟩, h H1 e1 _ fun v H2 e2 hv => ⟨p, xs, v, rfl, rfl, (e1.trans e2) _ _ hl, sz_lt hz, k v H2 (e1.trans e2) hv⟩⟩
/-- o.f = e -/
theorem s_fldV {a C : Addr} {dx : Addr} {fs : List (Str × V)} {f : Str} (ha : EvV ta l H (.ref a)) (h : H a = some (.ins C dx fs)) (c : Cls K C) (nf : NoAttr K C f) (hz : fs.length < 1000) (he : Ev te l H d) (k : ∀ v H1, Same H H1 → Dt H1 d v → D.nx l (upd H1 a (.ins C dx (putF f v fs)))) :
    sFld K ta te f D l H := he H (Same.refl _) _ fun v H1 e1 hv => ha H1 e1 _ fun H2 e2 => ⟨a, C, dx, fs, rfl, (e1.trans e2) _ _ h, c, nf, hz, k v H2 (e1.trans e2) (hv.to e2)⟩
/-- a call of a method that leaves all as it is -/
theorem p_meth {C : Addr} {mt : Str} {sp : Sp} {E : XK} {t : TA} {a : Addr} {dx : Addr} {fs : List (Str × V)} (ha : EvV ta l H (.ref a)) (h : H a = some (.ins C dx fs)) (hm : fs.lookup mt = none) (ht : EvA t l H ds) (k : ∀ vs H1, Same H H1 → Dts H1 ds vs → sp (.ref a :: vs) H1 Q E) :
    tMeth C mt sp [] E ta t l H Q := ha H (Same.refl _) _ fun H1 e1 => ⟨a, dx, fs, rfl, e1 _ _ h, hm, ht H1 e1 _ fun vs H2 e2 hv => by
  rw [List.append_nil]
  exact k vs H2 (e1.trans e2) hv⟩
end
section
variable {K : PySem.W.Frag} {l : L2.St} {H H' : Hp} {ta tb tc te tl : TE} {t : TT} {d d1 d2 d3 : PyData} {ds es : List PyData} {G : List (Option PyData)} {D : Ends} {tz tu tw : TS} {n m o : Nat} {Q : VK} {i j : Int} {v : V}
theorem Lcv.to {p : Addr} {ds : List PyData} {H1 : Hp} (h : Lcv H p ds H') (e : Same H' H1) : Lcv H p ds H1 := by
  obtain ⟨a, b, xs, h1, h2⟩ := h
  exact ⟨a, b.trans e, xs, e _ _ h1, h2.to e⟩
/-- a comprehension over anything that is walked; every item is kept -/
theorem lcg {J : It} {n : Nat} {Gp : Hp → Prop} {Y : Nat → Hp → V → Hp → Prop} {g : TG} {vs : List Nat} {H1 : Hp} (w : Walk J n Gp Y) (val : Nat → PyData) (hz : n < 1000000) (hG : ∀ H', Same H1 H' → Gp H')
    (hs : ∀ i x H' H2, Same H1 H' → i < n → Y i H' x H2 → ∃ l2, (∀ N : L2.St → Hp → Prop, N l2 H2 → g x (wipe l vs) H2 N) ∧ wipe l2 vs = wipe l vs ∧ Same H' H2 ∧ EvT t l2 H2 true ∧ Ev te l2 H2 (val i))
    (q : ∀ p xs H2, H1 p = none → Same H1 H2 → H2 p = some (.lst xs) → Dts H2 ((List.range n).map val) xs → Q (.ref p) H2) :
    ∀ D, H1 D = none → ∃ W : Nat → Nat → Hp → Prop, (∃ m, W 0 m (upd H1 D (.lst []))) ∧ ∀ i m H, W i m H →
      (J.stop i H ∧ Q (.ref D) H) ∨ (J.go i H ∧ ∃ Nx : Hp → Prop, (∀ H', Nx H' → ∃ m', m' < m ∧ W (i + 1) m' H') ∧ ∀ x H', J.yld i H x H' → g x (wipe l vs) H' fun σ2 H2 => wipe σ2 vs = wipe l vs ∧ t σ2 H2 fun b H3 =>
        if b = true then te σ2 H3 fun y H4 => ∃ acc, H4 D = some (.lst acc) ∧ acc.length < sizeLine ∧ Nx (upd H4 D (.lst (acc ++ [y]))) else Nx H3) := fun p hp =>
  lc_it w (fun i H' => Lcv H1 p ((List.range i).map val) H') ⟨hp, same_new hp, [], upd_same, rfl⟩ (fun i H' _ w => hG H' w.2.1) (fun i x H' H2 hi w hy => by
    obtain ⟨l2, h1, h2, h3, h4, h5⟩ := hs i x H' H2 w.2.1 hi hy
    refine h1 _ ⟨h2, lcv_turn (w.to h3) (by rw [List.length_map, List.length_range]; omega) h4 (fun _ => h5) fun H3 w3 => ?_⟩
    rw [List.range_succ, List.map_append]
    exact w3) (fun H' w => by
    obtain ⟨w0, w1, zs, w2, w3⟩ := w
    exact q p zs H' w0 w1 w2 w3)
theorem el_lcR {vs : List Nat} {j k : Nat} (val : Nat → PyData) (h : Ev tl l H (.int (k : Nat))) (hk : k < 1000000) (hw : ∀ x, wipe ((wipe l vs).set j (some x)) vs = wipe l vs)
    (hs : ∀ (i : Nat) H1, Same H H1 → i < k → EvT t ((wipe l vs).set j (some (.int (i : Nat)))) H1 true ∧ Ev te ((wipe l vs).set j (some (.int (i : Nat)))) H1 (val i)) :
    EvL (tLc (iRng1 (tCons tl tNil)) (gName j) t te vs) l H ((List.range k).map val) := fun H0 e0 Q q => h H0 e0 _ fun v H1 e1 hv => by
  refine ⟨(k : Nat), by rw [show v = .int (k : Nat) from hv], by omega, by omega, ?_⟩
  rw [Int.toNat_natCast]
  refine lcg walk_range val hk (fun _ _ => trivial) (fun i x H' H2 e hi hy => ?_) fun p xs H2 hp e2 h2 hx => q p xs H2 (Same.free e1 hp) (e1.trans e2) h2 hx
  obtain ⟨rfl, rfl⟩ := hy
  obtain ⟨s1, s2⟩ := hs i _ ((e0.trans e1).trans e) hi
  refine ⟨(wipe l vs).set j (some (.int (i : Nat))), fun N hN => ?_, hw _, Same.refl _, s1, s2⟩
  show N (List.set (wipe l vs) j (some (V.int (0 + (i : Nat))))) _
  rw [show V.int (0 + (i : Nat)) = V.int (i : Nat) by congr 1; omega]
  exact hN
/-- over a list whatever it holds -/
theorem el_lcV {vs : List Nat} {j : Nat} {a : Addr} {xs : List V} (val : Nat → PyData) (h : EvV tl l H (.ref a)) (ha : H a = some (.lst xs)) (hz : xs.length < 1000000) (hw : ∀ x, wipe ((wipe l vs).set j (some x)) vs = wipe l vs)
    (hs : ∀ (i : Nat) v H1, Same H H1 → xs[i]? = some v → EvT t ((wipe l vs).set j (some v)) H1 true ∧ Ev te ((wipe l vs).set j (some v)) H1 (val i)) :
    EvL (tLc (iList K tl) (gName j) t te vs) l H ((List.range xs.length).map val) := fun H0 e0 Q q => h H0 e0 _ fun H1 e1 => by
  refine ⟨a, rfl, ⟨xs, SqL.of ((e0.trans e1) _ _ ha)⟩, ?_⟩
  refine lcg (walk_list (K := K) (a := a) (xs := xs)) val hz (fun H' e => SqL.of (((e0.trans e1).trans e) _ _ ha)) (fun i x H' H2 e hi hy => ?_) fun p xs H2 hp e2 h2 hx => q p xs H2 (Same.free e1 hp) (e1.trans e2) h2 hx
  obtain ⟨rfl, hx⟩ := hy
  obtain ⟨s1, s2⟩ := hs i x _ ((e0.trans e1).trans e) hx
  exact ⟨(wipe l vs).set j (some x), fun N hN => hN, hw _, Same.refl _, s1, s2⟩
theorem walk_zipT {a b : Addr} {xs ys : List V} (hn : xs.length = ys.length) : Walk (RZ.ItzT K a b) xs.length (fun H => SqT K H a xs ∧ SqT K H b ys) (YPair (fun i => xs[i]?) (fun i => ys[i]?)) := by
  refine ⟨fun i _ hi q => ?_, fun _ q => ⟨xs, ys, q.1, q.2, by omega⟩, fun i H v H' _ q y => ?_⟩
  · have h2 : i < ys.length := by omega
    exact ⟨xs, ys, xs[i], ys[i], q.1, q.2, by simp [hi], by simp [h2]⟩
  · obtain ⟨T, x, z, h1, h2, h3, h4, h5⟩ := y
    exact ⟨T, x, z, h1, h2, h3, h4 xs q.1, h5 ys q.2⟩
/-- over zip of two tuples of one length -/
theorem el_lcZ {vs : List Nat} {j k : Nat} (val : Nat → PyData) (h1 : Ev ta l H (.tuple ds)) (h2 : Ev tb l H (.tuple es)) (hlen : ds.length = es.length) (hz : ds.length < 1000000) (hw : ∀ x y, wipe (((wipe l vs).set j (some x)).set k (some y)) vs = wipe l vs)
    (hs : ∀ (i : Nat) v w d e H1, Same H H1 → ds[i]? = some d → es[i]? = some e → Dt H1 d v → Dt H1 e w → EvT t (((wipe l vs).set j (some v)).set k (some w)) H1 true ∧ Ev te (((wipe l vs).set j (some v)).set k (some w)) H1 (val i)) :
    EvL (tLc (RZ.iZipA K (tCons ta (tCons tb tNil))) (gTup K 2 (gCons (gName j) (gCons (gName k) gNil))) t te vs) l H ((List.range ds.length).map val) := fun H0 e0 Q q => h1 H0 e0 _ fun v H1 e1 hv => h2 H1 (e0.trans e1) _ fun w H2 e2 hw2 => by
  obtain ⟨a, xs, rfl, ha, hx⟩ := hv.to e2
  obtain ⟨b, ys, rfl, hb, hy⟩ := hw2
  have hl : xs.length = ys.length := by rw [hx.len, hy.len, hlen]
  refine ⟨a, b, xs, ys, rfl, .inr ⟨.inl ha, .inl hb, ?_⟩⟩
  have key := lcg (Q := Q) (l := l) (t := t) (te := te) (g := gTup K 2 (gCons (gName j) (gCons (gName k) gNil))) (vs := vs) (walk_zipT (K := K) (a := a) (b := b) hl) val (by rw [hx.len]; exact hz) (fun H' e => ⟨.inl (rd_to e ha), .inl (rd_to e hb)⟩) (fun i x H' H3 e hi hy' => ?_) fun p xs' H3 hp e3 h3 hx3 => q p xs' H3 (Same.free (e1.trans e2) hp) ((e1.trans e2).trans e3) h3 (by rw [← hx.len]; exact hx3)
  · exact key
  · obtain ⟨T, x1, y1, rfl, hT, rfl, g1, g2⟩ := hy'
    obtain ⟨d, hd1, hd2⟩ := hx.of_get g1
    obtain ⟨f, hf1, hf2⟩ := hy.of_get g2
    have eT := e.trans (same_new (u := .tup [x1, y1]) hT)
    obtain ⟨s1, s2⟩ := hs i x1 y1 d f _ ((e0.trans (e1.trans e2)).trans eT) hd1 hf1 (hd2.to eT) (hf2.to eT)
    exact ⟨_, fun N hN => ⟨T, _, rfl, .inl (.inl upd_same), rfl, x1, _, rfl, y1, _, rfl, rfl, hN⟩, hw _ _, same_new hT, s1, s2⟩
def rSumQ (K : PySem.W.Frag) : List V → Hp → VK → Prop := fun vs H Q => ∃ (a : Addr) (ns : List Int), vs = [V.ref a] ∧ SqL K H a (ns.map V.int) ∧ Q (.int ns.sum) H
theorem ev_sum {ns : List Int} (h : EvL te l H (ns.map .int)) : Ev (tCB (rSumQ K) (tCons te tNil)) l H (.int ns.sum) := fun H1 e Q q => h H1 e _ fun p xs H2 hp e2 h2 hx => ⟨p, ns, rfl, by rw [← Dts.of_ints hx]; exact SqL.of h2, q _ _ e2 rfl⟩
/-- for x in a standing list -/
theorem q_forLV {g : TG} {a : Addr} {xs : List V} (h : EvV tl l H (.ref a)) (hs0 : H a = some (.lst xs)) (Pv : Nat → L2.St → Hp → Prop) (h0 : ∀ H1, Same H H1 → Pv 0 l H1) (hk : ∀ i l' H', Pv i l' H' → H' a = some (.lst xs) ∧ Dts H' ds xs)
    (hs : ∀ (i : Nat) d v l' H', ds[i]? = some d → Dt H' d v → Pv i l' H' → g v l' H' fun l2 H2 => tu { D with nx := Pv (i + 1), ct := Pv (i + 1), bk := tz D } l2 H2) (hd : ∀ l' H', Pv ds.length l' H' → tz D l' H') : tSeq (tFor (iList K tl) g tu) tz D l H :=
  h H (Same.refl _) _ fun H1 e1 => ⟨a, rfl, ⟨xs, SqL.of (e1 _ _ hs0)⟩, for_list (xs := xs) Pv (h0 H1 e1) (fun i l' H' _ p => SqL.of (hk i l' H' p).1) (fun i x l' H' hi p => by
    obtain ⟨d, hd1, hd2⟩ := (hk i l' H' p).2.of_get hi
    exact hs i d x l' H' hd1 hd2 p) (fun l' H' p => hd l' H' (by rw [← (hk _ _ _ p).2.len]; exact p))⟩
end
/-! ### files -/
structure FM where
  sy : Oct
  de : List Deed
namespace FM
def cur (f : FM) : Oct := f.de.foldl behind f.sy
def addLen : Deed → Nat
  | .keep _ => 0
  | .add x => x.length
def bnd (f : FM) : Nat := f.sy.length + (f.de.map addLen).sum
def steps (f : FM) : Nat := (f.de.map Deed.steps).sum
end FM
def DeAt (H : Hp) : List Addr → List FM → Prop
  | [], [] => True
  | d :: ds, f :: F => (∃ xs, H d = some (.lst xs) ∧ Dts H (f.de.map Deed.d) xs) ∧ DeAt H ds F
  | _, _ => False
theorem DeAt.get {H : Hp} : ∀ {ds : List Addr} {F : List FM} {i : Nat} {f : FM}, DeAt H ds F → F[i]? = some f → ∃ d xs, ds[i]? = some d ∧ H d = some (.lst xs) ∧ Dts H (f.de.map Deed.d) xs
  | [], [], _, _, _, e => by simp at e
  | [], _ :: _, _, _, h, _ => h.elim
  | _ :: _, [], _, _, h, _ => h.elim
  | d :: ds, f :: F, 0, _, h, e => by
    obtain rfl := Option.some.inj e
    obtain ⟨⟨xs, h1, h2⟩, _⟩ := h
    exact ⟨d, xs, rfl, h1, h2⟩
  | d :: ds, f :: F, i + 1, g, h, e => DeAt.get (i := i) h.2 e
theorem DeAt.len {H : Hp} : ∀ {ds : List Addr} {F : List FM}, DeAt H ds F → ds.length = F.length
  | [], [], _ => rfl
  | [], _ :: _, h => h.elim
  | _ :: _, [], h => h.elim
  | _ :: _, _ :: _, h => congrArg (· + 1) (DeAt.len h.2)
theorem DeAt.out {H H' : Hp} : ∀ {ds : List Addr} {F : List FM}, DeAt H ds F → (∀ a ∈ ds, ∀ o, H a = some o → H' a = some o) → Tk H H' → DeAt H' ds F
  | [], [], _, _, _ => trivial
  | [], _ :: _, h, _, _ => h.elim
  | _ :: _, [], h, _, _ => h.elim
  | d :: ds, f :: F, ⟨⟨xs, h1, h2⟩, h3⟩, g, k => ⟨⟨xs, g d List.mem_cons_self _ h1, Dts.tk k _ h2⟩, DeAt.out h3 (fun a m => g a (List.mem_cons_of_mem _ m)) k⟩
/-- one file's deeds in another way -/
theorem DeAt.set {H H' : Hp} {d : Addr} {f : FM} {xs : List V} (hd : H' d = some (.lst xs)) (hx : Dts H' (f.de.map Deed.d) xs) : ∀ {ds : List Addr} {F : List FM} (i : Nat), DeAt H ds F → (∀ j a, j ≠ i → ds[j]? = some a → ∀ o, H a = some o → H' a = some o) → Tk H H' → DeAt H' (ds.set i d) (F.set i f)
  | [], [], _, _, _, _ => trivial
  | [], _ :: _, _, h, _, _ => h.elim
  | _ :: _, [], _, h, _, _ => h.elim
  | e :: ds, g :: F, 0, ⟨_, h3⟩, o, k => ⟨⟨xs, hd, hx⟩, DeAt.out h3 (fun a m => by
    obtain ⟨j, hj, e⟩ := List.mem_iff_getElem.mp m
    exact o (j + 1) a (by omega) (by show ds[j]? = some a; rw [List.getElem?_eq_getElem hj, e])) k⟩
  | e :: ds, g :: F, i + 1, ⟨⟨ys, h1, h2⟩, h3⟩, o, k => ⟨⟨ys, o 0 e (by omega) rfl _ h1, Dts.tk k _ h2⟩, DeAt.set hd hx i h3 (fun j a hj ha => o (j + 1) a (by omega) ha) k⟩
def FilesAt (c : Cn) (H : Hp) (M : List Addr) (fl : Addr) (F : List FM) : Prop :=
  ∃ (dx : Addr) (v0 : V) (sy de : Addr) (ds : List Addr) (vs : List V), M = fl :: sy :: de :: ds ∧ M.Nodup ∧ H fl = some (.ins (cFiles c) dx [("start", v0), ("synced", .ref sy), ("deeds", .ref de)]) ∧ H sy = some (.lst vs) ∧ Dts H (F.map fun f => octD f.sy) vs ∧ H de = some (.lst (ds.map V.ref)) ∧ DeAt H ds F
section
variable {c : Cn} {H H' : Hp} {M M' : List Addr} {fl : Addr} {F : List FM}
/-- what is apart changes -/
theorem FilesAt.out (h : FilesAt c H M fl F) (g : ∀ a ∈ M, ∀ o, H a = some o → H' a = some o) (k : Tk H H') : FilesAt c H' M fl F := by
  obtain ⟨dx, v0, sy, de, ds, vs, rfl, hn, h1, h2, h3, h4, h5⟩ := h
  exact ⟨dx, v0, sy, de, ds, vs, rfl, hn, g _ (by simp) _ h1, g _ (by simp) _ h2, Dts.tk k _ h3, g _ (by simp) _ h4, h5.out (fun a m => g a (by simp [m])) k⟩
theorem FilesAt.to (h : FilesAt c H M fl F) (e : Same H H') : FilesAt c H' M fl F := h.out (fun a _ o => e a o) (tk_same e)
theorem FilesAt.fr {N N' : List Addr} (h : FilesAt c H M fl F) (g : Fr H N H' N') (hd : ∀ a ∈ M, a ∉ N) : FilesAt c H' M fl F := h.out (fun a m o e => g.keep a o e (hd a m)) g.tk
theorem FilesAt.has (h : FilesAt c H M fl F) : ∀ a ∈ M, ∃ o, H a = some o := by
  obtain ⟨dx, v0, sy, de, ds, vs, rfl, hn, h1, h2, h3, h4, h5⟩ := h
  intro a m
  rcases List.mem_cons.mp m with rfl | m
  · exact ⟨_, h1⟩
  rcases List.mem_cons.mp m with rfl | m
  · exact ⟨_, h2⟩
  rcases List.mem_cons.mp m with rfl | m
  · exact ⟨_, h4⟩
  obtain ⟨i, hi, e⟩ := List.mem_iff_getElem.mp m
  have hl := h5.len
  obtain ⟨d, xs, hd, hx, _⟩ := h5.get (i := i) (List.getElem?_eq_getElem (by omega))
  rw [List.getElem?_eq_getElem hi] at hd
  obtain rfl := Option.some.inj hd
  exact ⟨_, e ▸ hx⟩
theorem FilesAt.nofrz (h : FilesAt c H M fl F) : ∀ a ∈ M, ∀ {o : Obj} {u : HO}, H a ≠ Option.some (.frz o u) := by
  obtain ⟨dx, v0, sy, de, ds, vs, rfl, hn, h1, h2, h3, h4, h5⟩ := h
  intro a m o u e
  rcases List.mem_cons.mp m with rfl | m
  · rw [h1] at e; cases e
  rcases List.mem_cons.mp m with rfl | m
  · rw [h2] at e; cases e
  rcases List.mem_cons.mp m with rfl | m
  · rw [h4] at e; cases e
  obtain ⟨i, hi, e2⟩ := List.mem_iff_getElem.mp m
  have hl := h5.len
  obtain ⟨d, xs, hd, hx, _⟩ := h5.get (i := i) (List.getElem?_eq_getElem (by omega))
  rw [List.getElem?_eq_getElem hi] at hd
  obtain rfl := Option.some.inj hd
  rw [← e2, hx] at e
  cases e
theorem FilesAt.hd (h : FilesAt c H M fl F) : fl ∈ M := by
  obtain ⟨dx, v0, sy, de, ds, vs, rfl, _⟩ := h
  exact List.mem_cons_self
end
end Sp
set_option Elab.async false
set_option linter.all false
set_option maxRecDepth 100000
set_option maxHeartbeats 4000000
namespace Sp
open PySem PySem.Spec PyProof.Rows L2
/-! ### bounds of deeds -/
theorem behind_len (o : Oct) (d : Deed) : (behind o d).length ≤ o.length + FM.addLen d := by
  cases d with
  | keep n => show (o.take n).length ≤ o.length + 0; rw [List.length_take]; omega
  | add x => show (o ++ x).length ≤ o.length + x.length; rw [List.length_append]; exact Nat.le_refl _
theorem fold_len : ∀ (ds : List Deed) (o : Oct), (ds.foldl behind o).length ≤ o.length + (ds.map FM.addLen).sum
  | [], _ => by simp
  | d :: ds, o => by
    have h1 := fold_len ds (behind o d)
    have h2 := behind_len o d
    show (ds.foldl behind (behind o d)).length ≤ _
    rw [List.map_cons, List.sum_cons]
    omega
theorem sum_take {f : Deed → Nat} {ds : List Deed} {i : Nat} {d : Deed} (h : ds[i]? = some d) : ((ds.take i).map f).sum + f d ≤ (ds.map f).sum := by
  have hi : i < ds.length := (List.getElem?_eq_some_iff.mp h).1
  have e : ds = ds.take i ++ (d :: ds.drop (i + 1)) := by
    have hx : ds[i] = d := (List.getElem?_eq_some_iff.mp h).2
    rw [← hx, ← List.drop_eq_getElem_cons hi, List.take_append_drop]
  conv => rhs; rw [e]
  rw [List.map_append, List.sum_append, List.map_cons, List.sum_cons]
  omega
theorem beh_at {f : FM} {i : Nat} {d : Deed} (hb : f.bnd ≤ 1000000) (h : f.de[i]? = some d) : behQ ((f.de.take i).foldl behind f.sy, d) := by
  cases d with
  | keep _ => trivial
  | add x =>
    have h1 := fold_len (f.de.take i) f.sy
    have h2 := sum_take (f := FM.addLen) h
    unfold FM.bnd at hb
    show ((f.de.take i).foldl behind f.sy).length + x.length ≤ 1000000
    have : FM.addLen (.add x) = x.length := rfl
    omega
section
variable {c : Cn} {l : L2.St} {H H' : Hp} {M M' : List Addr} {fl : Addr} {F : List FM} {ta tb : TE} {i : Nat} {f : FM}
/-- self.synced[place] -/
theorem FilesAt.syn (h : FilesAt c H M fl F) (T : Tx c) (ha : EvV ta l H (.ref fl)) (hb : Ev tb l H (.int (i : Nat))) (hf : F[i]? = some f) : Ev (tOp (rIxL c.K) (tFld c.K ta "synced") tb) l H (octD f.sy) := by
  obtain ⟨dx, v0, sy, de, ds, vs, rfl, hn, h1, h2, h3, h4, h5⟩ := h
  obtain ⟨v, hv, hd⟩ := h3.get (i := i) (by rw [List.getElem?_map, hf]; rfl)
  exact ev_ofV (vv_ix (vv_fld ha h1 T.c_Files T.a_Files_synced rfl) h2 hb (atI_nat hv)) hd
/-- self.deeds[place] -/
theorem FilesAt.dee (h : FilesAt c H M fl F) (T : Tx c) (hf : F[i]? = some f) : ∃ d xs, H d = some (.lst xs) ∧ Dts H (f.de.map Deed.d) xs ∧ d ∈ M ∧ ∀ {l : L2.St} {ta tb : TE}, EvV ta l H (.ref fl) → Ev tb l H (.int (i : Nat)) → EvV (tOp (rIxL c.K) (tFld c.K ta "deeds") tb) l H (.ref d) := by
  obtain ⟨dx, v0, sy, de, ds, vs, rfl, hn, h1, h2, h3, h4, h5⟩ := h
  obtain ⟨d, xs, hd, hx, hxs⟩ := h5.get hf
  exact ⟨d, xs, hx, hxs, (by have := List.mem_of_getElem? hd; simp [this]), fun ha hb => vv_ix (vv_fld ha h1 T.c_Files T.a_Files_deeds rfl) h4 hb (atI_nat (by rw [List.getElem?_map, hd]; rfl))⟩
/-- a method -/
theorem FilesAt.meth {m : Str} {sp : Sp} {E : XK} {t : TA} {ds : List PyData} {Q : VK} (h : FilesAt c H M fl F) (ha : EvV ta l H (.ref fl)) (ht : EvA t l H ds) (k : ∀ vs H1, Same H H1 → Dts H1 ds vs → sp (.ref fl :: vs) H1 Q E) (hm : m ≠ "start" ∧ m ≠ "synced" ∧ m ≠ "deeds" := by decide +kernel) : tMeth (cFiles c) m sp [] E ta t l H Q := by
  obtain ⟨dx, v0, sy, de, ds, vs, rfl, hn, h1, _⟩ := h
  refine p_meth ha h1 ?_ ht k
  have e1 := beq_false_of_ne hm.1
  have e2 := beq_false_of_ne hm.2.1
  have e3 := beq_false_of_ne hm.2.2
  simp only [List.lookup_cons, e1, e2, e3]
  rfl
end
def FM.push (f : FM) (w : Deed) : FM := { f with de := f.de ++ [w] }
theorem nodup_inj {α : Type} {l : List α} {i j : Nat} {x : α} (h : l.Nodup) (a : l[i]? = some x) (b : l[j]? = some x) : i = j := by
  obtain ⟨hi, ei⟩ := List.getElem?_eq_some_iff.mp a
  obtain ⟨hj, ej⟩ := List.getElem?_eq_some_iff.mp b
  have hp := List.pairwise_iff_getElem.mp h
  rcases Nat.lt_trichotomy i j with q | q | q
  · exact absurd (ei.trans ej.symm) (hp i j hi hj q)
  · exact q
  · exact absurd (ej.trans ei.symm) (hp j i hj hi q)
theorem ixN_k {n j : Nat} (hj : j < n) : ixN n (j : Int) = some j := by
  unfold ixN
  rw [if_pos (by omega), if_pos (by omega)]
  simp
theorem dts_set {H : Hp} {d : PyData} {v : V} (h : Dt H d v) : ∀ {ds : List PyData} {xs : List V} {i : Nat}, Dts H ds xs → Dts H (ds.set i d) (xs.set i v)
  | [], _, _, e => by
    have e : _ = [] := e
    subst e
    rfl
  | _ :: ds, _, 0, e => by
    obtain ⟨w, ws, rfl, _, h2⟩ := e
    exact ⟨v, ws, rfl, h, h2⟩
  | _ :: ds, _, i + 1, e => by
    obtain ⟨w, ws, rfl, h1, h2⟩ := e
    exact ⟨w, _, rfl, h1, dts_set h h2⟩
theorem set_id {α : Type} {l : List α} {i : Nat} {x : α} (h : l[i]? = some x) : l.set i x = l := by
  obtain ⟨hi, rfl⟩ := List.getElem?_eq_some_iff.mp h
  exact List.set_getElem_self hi
theorem map_set_id {α β : Type} {g : α → β} {l : List α} {i : Nat} {x y : α} (h : l[i]? = some x) (e : g y = g x) : (l.set i y).map g = l.map g := by
  rw [List.map_set, e]
  exact set_id (by rw [List.getElem?_map, h]; rfl)
section
variable {c : Cn} {H : Hp} {M : List Addr} {fl : Addr} {F : List FM} {i : Nat} {f : FM}
theorem FilesAt.push (h : FilesAt c H M fl F) (T : Tx c) (hf : F[i]? = some f) : ∃ d xs, H d = some (.lst xs) ∧ xs.length = f.de.length ∧ (∀ {l : L2.St} {ta tb : TE}, EvV ta l H (.ref fl) → Ev tb l H (.int (i : Nat)) → EvV (tOp (rIxL c.K) (tFld c.K ta "deeds") tb) l H (.ref d)) ∧
    ∀ (H1 : Hp) (v : V) (w : Deed), Same H H1 → Dt H1 w.d v → FilesAt c (upd H1 d (.lst (xs ++ [v]))) M fl (F.set i (f.push w)) ∧ Fr H M (upd H1 d (.lst (xs ++ [v]))) M := by
  obtain ⟨dx, v0, sy, de, ds, vs, rfl, hn, h1, h2, h3, h4, h5⟩ := h
  obtain ⟨d, xs, hd, hx, hxs⟩ := h5.get hf
  have hdm : d ∈ ds := List.mem_of_getElem? hd
  have hn2 := List.nodup_cons.mp hn
  have hn3 := List.nodup_cons.mp hn2.2
  have hn4 := List.nodup_cons.mp hn3.2
  have n1 : fl ≠ d := fun e => hn2.1 (by rw [e]; simp [hdm])
  have n2 : sy ≠ d := fun e => hn3.1 (by rw [e]; simp [hdm])
  have n3 : de ≠ d := fun e => hn4.1 (by rw [e]; exact hdm)
  refine ⟨d, xs, hx, by rw [hxs.len, List.length_map], fun ha hb => vv_ix (vv_fld ha h1 T.c_Files T.a_Files_deeds rfl) h4 hb (atI_nat (by rw [List.getElem?_map, hd]; rfl)), fun H1 v w e hv => ?_⟩
  have hx1 := e _ _ hx
  have k : Tk H1 (upd H1 d (.lst (xs ++ [v]))) := tk_upd hx1
  have kk : Tk H (upd H1 d (.lst (xs ++ [v]))) := (tk_same e).trans k
  refine ⟨⟨dx, v0, sy, de, ds, vs, rfl, hn, (upd_ne n1).trans (e _ _ h1), (upd_ne n2).trans (e _ _ h2), ?_, (upd_ne n3).trans (e _ _ h4), ?_⟩, ?_⟩
  · rw [map_set_id (g := fun f => octD f.sy) (y := f.push w) hf rfl]
    exact Dts.tk kk _ h3
  · have := h5.set (H' := upd H1 d (.lst (xs ++ [v]))) (d := d) (f := f.push w) (xs := xs ++ [v]) upd_same (by
      show Dts _ ((f.de ++ [w]).map Deed.d) _
      rw [List.map_append]
      exact Dts.tk k _ ((hxs.to e).app (Dts.one hv))) i (fun j a hj ha o ho => by
      have : a ≠ d := by
        rintro rfl
        exact hj (nodup_inj hn4.2 ha hd)
      exact (upd_ne this).trans (e _ _ ho)) kk
    rw [set_id hd] at this
    exact this
  · exact Fr.of e (Fr.upd (by simp [hdm]) hx1)
end
def spOct (c : Cn) : Sp := fun vs H Q _ => ∃ fl M F i f v, vs = [V.ref fl, v] ∧ v = V.int (i : Nat) ∧ FilesAt c H M fl F ∧ F[i]? = some f ∧ f.bnd ≤ 1000000 ∧ ∀ v H', Same H H' → Dt H' (octD f.cur) v → Q v H'
theorem sc_Files_octets_of : FnScope ["self", "place", "octets", "deed"] ["self", "place"] (defScope s_Files_octets_of) := ⟨rfl, rfl, rfl, by decide +kernel, rfl, by decide +kernel, by decide +kernel⟩
theorem d_Files_octets_of {c : Cn} (T : Tx c) : Md c (cFiles c) "octets_of" 2 ["self", "place"] (spOct c ) :=
  T.md 68 112 rfl rfl sc_Files_octets_of (fun _ _ _ _ _ _ us hl => match us, hl with | [_, _], _ => rfl) (fun vs H Q E h => by obtain ⟨_, _, _, _, _, _, e, _⟩ := h; rw [e] <;> rfl) fun f cdv A outer s H vs Q E hr h => by
    refine ⟨_, (pss_cons (ps_set (i := 2) sc_Files_octets_of.nd rfl (by first | exact Or.inl rfl | exact Or.inr rfl) (pe_ix ix_list (pe_fld (pv 0) rfl) (pv 1) (fun _ _ => rfl)))
    (pss_cons (ps_for PassesOwn.never rfl (pi_list (pe_ix ix_list (pe_fld (pv 0) rfl) (pv 1) (fun _ _ => rfl))) (pg_name (i := 3) sc_Files_octets_of.nd rfl (by first | exact Or.inl rfl | exact Or.inr rfl)) (pss_one (ps_set (i := 2) sc_Files_octets_of.nd rfl (by first | exact Or.inl rfl | exact Or.inr rfl) (pe_d (d_octets_behind T) (hr.mono (by decide)) (pa_cons (pv 2) (pa_cons (pv 3) pa_nil))))))
    (pss_one (ps_ret (pv 2))))), ?_⟩
    obtain ⟨fl, M, F, i, f, v, rfl, rfl, hF, hf, hb, k⟩ := h
    have L : Loc H [none, some (.int (i : Nat)), none, none] (L2.start ["self", "place", "octets", "deed"] [V.ref fl, V.int (i : Nat)]) := ⟨_, _, rfl, _, _, rfl, rfl, _, _, rfl, _, _, rfl, trivial⟩
    refine q_asg (d := octD f.sy) (hF.syn T (vv_at rfl) (ev_v L rfl) hf) L fun v1 H1 e1 _ L1 => ?_
    obtain ⟨d, xs, hd, hx, _, hv⟩ := hF.dee T hf
    have hvv := hv (l := (L2.start ["self", "place", "octets", "deed"] [V.ref fl, V.int (i : Nat)]).set 2 (some v1)) (ta := tVar 0) (tb := tVar 1) (vv_at rfl) (ev_at (d := .int (i : Nat)) (v := .int (i : Nat)) rfl rfl)
    refine q_forLV (ds := f.de.map Deed.d) (hvv.to e1) (e1 _ _ hd) (fun j l' H' => Same H H' ∧ Loc H' [none, some (.int (i : Nat)), some (octD ((f.de.take j).foldl behind f.sy)), none] l') (fun H2 e2 => ⟨e1.trans e2, L1.to e2⟩) (fun j l' H' h => ⟨h.1 _ _ hd, hx.to h.1⟩) ?_ ?_
    · rintro j d v l' H2 hj hdv ⟨s2, L2⟩
      obtain ⟨w, hw, rfl⟩ := map_at hj
      have L3 := Loc.set hdv 3 L2
      refine s_asg (d := octD (behind ((f.de.take j).foldl behind f.sy) w)) (ev_F ((f.de.take j).foldl behind f.sy, w) (ea_2 (ev_v L3 rfl) (ev_v L3 rfl)) (beh_at hb hw)) L3 fun v4 H4 e4 _ L4 => ⟨s2.trans e4, ?_⟩
      rw [take_fold hw]
      exact L4.wk 3
    · rintro l' H2 ⟨s2, L2⟩
      rw [List.length_map, List.take_length] at L2
      exact s_ret (d := octD f.cur) (ev_v L2 rfl) fun v H3 e3 hd => k v H3 (s2.trans e3) hd
def FM.add (f : FM) (o : Oct) : FM := if 0 < o.length then f.push (.add o) else f
def FM.kp (f : FM) (n : Nat) : FM := if n < f.cur.length then f.push (.keep n) else f
def FM.sync (f : FM) : FM := ⟨f.cur, []⟩
/-- one file is made anew, the others stay -/
def spUpd (c : Cn) (n : Nat) (R : Hp → FM → List V → FM → Prop) : Sp := fun vs H Q _ => ∃ fl M F i f f' ws, vs = V.ref fl :: V.int (i : Nat) :: ws ∧ ws.length = n ∧ FilesAt c H M fl F ∧ F[i]? = some f ∧ f.bnd ≤ 1000000 ∧ f.de.length < 100000 ∧ R H f ws f' ∧ ∀ H' M', FilesAt c H' M' fl (F.set i f') → Fr H M H' M' → Q .non H'
theorem ln_upd {c : Cn} {n : Nat} {R} {ps : List Str} (h : ps.length = n + 2) : Ln ps (spUpd c n R) := fun vs H Q E hh => by
  obtain ⟨_, _, _, _, _, _, ws, e, e2, _⟩ := hh
  rw [e, h, ← e2]
  rfl
theorem sc_Files_add : FnScope ["self", "place", "octets"] ["self", "place", "octets"] (defScope s_Files_add) := ⟨rfl, rfl, rfl, by decide +kernel, rfl, by decide +kernel, by decide +kernel⟩
theorem d_Files_add {c : Cn} (T : Tx c) : Md c (cFiles c) "add" 1 ["self", "place", "octets"] (spUpd c 1 (fun H f ws f' => ∃ o v, ws = [v] ∧ Dt H (octD o) v ∧ f' = f.add o) ) :=
  T.md 65 109 rfl rfl sc_Files_add (fun _ _ _ _ _ _ us hl => match us, hl with | [_, _, _], _ => rfl) (ln_upd rfl) fun f cdv A outer s H vs Q E hr h => by
    refine ⟨_, (pss_one (ps_if (pt_cmpR op_gt (pe_callB call_len_seq (by rfl) T.n_len (by decide +kernel) (pa_cons (pv 2) pa_nil)) pe_int (nomark _)) (pss_one (ps_expr (pe_bm PySem.F.plainAttrs_list PySem.F.slot_list_append PySem.F.type_list_append mt_append (pe_ix ix_list (pe_fld (pv 0) rfl) (pv 1) (fun _ _ => rfl)) (pa_cons (pe_tup (pa_cons pe_str (pa_cons (pe_callTy call_tuple_of (by rfl) T.n_tuple (by decide +kernel) (pa_cons (pv 2) pa_nil)) pa_nil))) pa_nil)))) pss_nil)), ?_⟩
    obtain ⟨fl, M, F, i, f, _, _, rfl, _, hF, hf, hb, hz, ⟨o, v, rfl, hv, rfl⟩, k⟩ := h
    have L : Loc H [none, some (.int (i : Nat)), some (octD o)] (L2.start ["self", "place", "octets"] [V.ref fl, V.int (i : Nat), v]) := ⟨_, _, rfl, _, _, rfl, rfl, _, _, rfl, hv, trivial⟩
    refine s_if (et_of ((ev_B0 (ev_len (ds := o.map .int) (ev_v L rfl)) (ev_int (i := 0))))) (fun hb2 H1 e1 => ?_) (fun hb2 H1 e1 => ?_)
    · have hpos : 0 < o.length := by have := of_decide_eq_true hb2; rw [List.length_map] at this; omega
      obtain ⟨d, xs, hd, hxl, hvv, hk⟩ := (hF.to e1).push T hf
      refine s_appV (d := (Deed.add o).d) (hvv (vv_at rfl) (ev_v (L.to e1) rfl)) hd (ev_tup (ea_2 ev_str (ev_tuT (ev_v (L.to e1) rfl))) len2) (by rw [hxl]; omega) fun v2 H2 e2 hd2 => ?_
      obtain ⟨g1, g2⟩ := hk H2 v2 (.add o) e2 hd2
      refine k _ M ?_ (Fr.of e1 g2)
      unfold FM.add
      rw [if_pos hpos]
      exact g1
    · have hpos : ¬ 0 < o.length := by have := of_decide_eq_false hb2; rw [List.length_map] at this; omega
      refine k _ M ?_ (Fr.same e1)
      unfold FM.add
      rw [if_neg hpos, set_id hf]
      exact hF.to e1
theorem sc_Files_keep : FnScope ["self", "place", "size"] ["self", "place", "size"] (defScope s_Files_keep) := ⟨rfl, rfl, rfl, by decide +kernel, rfl, by decide +kernel, by decide +kernel⟩
theorem d_Files_keep {c : Cn} (T : Tx c) : Md c (cFiles c) "keep" 3 ["self", "place", "size"] (spUpd c 1 (fun H f ws f' => ∃ n : Nat, ws = [V.int (n : Nat)] ∧ f' = f.kp n) ) :=
  T.md 66 110 rfl rfl sc_Files_keep (fun _ _ _ _ _ _ us hl => match us, hl with | [_, _, _], _ => rfl) (ln_upd rfl) fun f cdv A outer s H vs Q E hr h => by
    refine ⟨_, (pss_one (ps_if (pt_cmpR op_gt (pe_callB call_len_seq (by rfl) T.n_len (by decide +kernel) (pa_cons (pe_md (d_Files_octets_of T) T.c_Files (hr.mono (by decide)) (pv 0) (pa_cons (pv 1) pa_nil)) pa_nil)) (pv 2) (nomark _)) (pss_one (ps_expr (pe_bm PySem.F.plainAttrs_list PySem.F.slot_list_append PySem.F.type_list_append mt_append (pe_ix ix_list (pe_fld (pv 0) rfl) (pv 1) (fun _ _ => rfl)) (pa_cons (pe_tup (pa_cons pe_str (pa_cons (pv 2) pa_nil))) pa_nil)))) pss_nil)), ?_⟩
    obtain ⟨fl, M, F, i, f, _, _, rfl, _, hF, hf, hb, hz, ⟨n, rfl, rfl⟩, k⟩ := h
    have L : Loc H [none, some (.int (i : Nat)), some (.int (n : Nat))] (L2.start ["self", "place", "size"] [V.ref fl, V.int (i : Nat), V.int (n : Nat)]) := ⟨_, _, rfl, _, _, rfl, rfl, _, _, rfl, rfl, trivial⟩
    have hcur : ∀ {H1 : Hp}, Same H H1 → Ev (tMeth (cFiles c) "octets_of" (spOct c) [] E0 (tVar 0) (tCons (tVar 1) tNil)) (L2.start ["self", "place", "size"] [V.ref fl, V.int (i : Nat), V.int (n : Nat)]) H1 (octD f.cur) := fun e H2 e2 Q q => by
      refine ((hF.to e).to e2).meth (vv_at rfl) (ea_1 (ev_v ((L.to e).to e2) rfl)) fun vs H3 e3 hvs => ?_
      obtain ⟨v, _, rfl, hv, rfl⟩ := hvs
      exact ⟨fl, M, F, i, f, v, rfl, hv, ((hF.to e).to e2).to e3, hf, hb, fun v4 H4 e4 hd => q v4 H4 (e3.trans e4) hd⟩
    refine s_if (et_of ((ev_B0 (ev_len (ds := f.cur.map .int) (hcur (Same.refl _))) (ev_v L rfl)))) (fun hb2 H1 e1 => ?_) (fun hb2 H1 e1 => ?_)
    · have hpos : n < f.cur.length := by have := of_decide_eq_true hb2; rw [List.length_map] at this; omega
      obtain ⟨d, xs, hd, hxl, hvv, hk⟩ := (hF.to e1).push T hf
      refine s_appV (d := (Deed.keep n).d) (hvv (vv_at rfl) (ev_v (L.to e1) rfl)) hd (ev_tup (ea_2 ev_str (ev_v (L.to e1) rfl)) len2) (by rw [hxl]; omega) fun v2 H2 e2 hd2 => ?_
      obtain ⟨g1, g2⟩ := hk H2 v2 (.keep n) e2 hd2
      refine k _ M ?_ (Fr.of e1 g2)
      unfold FM.kp
      rw [if_pos hpos]
      exact g1
    · have hpos : ¬ n < f.cur.length := by have := of_decide_eq_false hb2; rw [List.length_map] at this; omega
      refine k _ M ?_ (Fr.same e1)
      unfold FM.kp
      rw [if_neg hpos, set_id hf]
      exact hF.to e1
section
variable {c : Cn} {H : Hp} {M : List Addr} {fl : Addr} {F : List FM} {i : Nat} {f : FM}
/-- what self.synced and self.deeds are -/
theorem FilesAt.parts (h : FilesAt c H M fl F) (T : Tx c) (hf : F[i]? = some f) : ∃ sy de vs ds, H sy = some (.lst vs) ∧ H de = some (.lst (ds.map V.ref)) ∧ vs.length = F.length ∧ ds.length = F.length ∧ (∀ {l : L2.St} {ta : TE}, EvV ta l H (.ref fl) → EvV (tFld c.K ta "synced") l H (.ref sy)) ∧ (∀ {l : L2.St} {ta : TE}, EvV ta l H (.ref fl) → EvV (tFld c.K ta "deeds") l H (.ref de)) ∧ (Dts H (F.map fun f => octD f.sy) vs) ∧ DeAt H ds F ∧
    ∀ (H1 : Hp) (v : V) (o : Oct), Same H H1 → Dt H1 (octD o) v → ∀ (H2 : Hp) (p : Addr), Same (upd H1 sy (.lst (vs.set i v))) H2 → (upd H1 sy (.lst (vs.set i v))) p = none → H2 p = some (.lst []) →
      FilesAt c (upd H2 de (.lst ((ds.set i p).map V.ref))) (fl :: sy :: de :: ds.set i p) fl (F.set i ⟨o, []⟩) ∧ Fr H M (upd H2 de (.lst ((ds.set i p).map V.ref))) (fl :: sy :: de :: ds.set i p) ∧ H2 de = some (.lst (ds.map V.ref)) ∧ ∀ {l : L2.St} {ta : TE}, EvV ta l H2 (.ref fl) → EvV (tFld c.K ta "deeds") l H2 (.ref de) := by
  obtain ⟨dx, v0, sy, de, ds, vs, rfl, hn, h1, h2, h3, h4, h5⟩ := h
  have hn2 := List.nodup_cons.mp hn
  have hn3 := List.nodup_cons.mp hn2.2
  have hn4 := List.nodup_cons.mp hn3.2
  have hi : i < F.length := (List.getElem?_eq_some_iff.mp hf).1
  refine ⟨sy, de, vs, ds, h2, h4, by rw [h3.len, List.length_map], h5.len, fun ha => vv_fld ha h1 T.c_Files T.a_Files_synced rfl, fun ha => vv_fld ha h1 T.c_Files T.a_Files_deeds rfl, h3, h5, fun H1 v o e hv H2 p e2 hp hp2 => ?_⟩
  have f1 := e _ _ h1
  have f2 := e _ _ h2
  have f4 := e _ _ h4
  have nfs : fl ≠ sy := fun q => hn2.1 (by rw [q]; simp)
  have nfd : fl ≠ de := fun q => hn2.1 (by rw [q]; simp)
  have nds : de ≠ sy := fun q => hn3.1 (by rw [q]; simp)
  have nsx : ∀ a ∈ ds, a ≠ sy := fun a m q => hn3.1 (by rw [← q]; simp [m])
  have ndx : ∀ a ∈ ds, a ≠ de := fun a m q => hn4.1 (by rw [← q]; exact m)
  have k1 : Tk H1 (upd H1 sy (.lst (vs.set i v))) := tk_upd f2
  have g1 : H2 fl = _ := e2 _ _ ((upd_ne nfs).trans f1)
  have g2 : H2 sy = _ := e2 _ _ upd_same
  have g4 : H2 de = _ := e2 _ _ ((upd_ne nds).trans f4)
  have k2 : Tk H2 (upd H2 de (.lst ((ds.set i p).map V.ref))) := tk_upd g4
  have pne : ∀ {a : Addr} {u : HO}, (upd H1 sy (.lst (vs.set i v))) a = some u → a ≠ p := fun ha => ne_of_none ha hp
  have psy : sy ≠ p := pne upd_same
  have pfl : fl ≠ p := pne ((upd_ne nfs).trans f1)
  have pde : de ≠ p := pne ((upd_ne nds).trans f4)
  have hsome : ∀ a ∈ ds, ∃ u, H a = some u := fun a m => by
    obtain ⟨j, hj, ej⟩ := List.mem_iff_getElem.mp m
    have := h5.len
    obtain ⟨d, xs, hd, hx, _⟩ := h5.get (i := j) (List.getElem?_eq_getElem (by omega))
    rw [List.getElem?_eq_getElem hj] at hd
    obtain rfl := Option.some.inj hd
    exact ⟨_, ej ▸ hx⟩
  have pds : ∀ a ∈ ds, a ≠ p := fun a m => by
    obtain ⟨u, hu⟩ := hsome a m
    exact pne ((upd_ne (nsx a m)).trans (e _ _ hu))
  have kall : Tk H (upd H2 de (.lst ((ds.set i p).map V.ref))) := (((tk_same e).trans k1).trans (tk_same e2)).trans k2
  refine ⟨⟨dx, v0, sy, de, ds.set i p, vs.set i v, rfl, ?_, (upd_ne nfd).trans g1, (upd_ne nds.symm).trans g2, ?_, upd_same, ?_⟩, ?_, g4, fun ha => vv_fld ha g1 T.c_Files T.a_Files_deeds rfl⟩
  · have hset : ∀ a, a ∈ ds.set i p → a ∈ ds ∨ a = p := fun a m => List.mem_or_eq_of_mem_set m
    refine List.nodup_cons.mpr ⟨fun m => ?_, List.nodup_cons.mpr ⟨fun m => ?_, List.nodup_cons.mpr ⟨fun m => ?_, ?_⟩⟩⟩
    · rcases List.mem_cons.mp m with q | m
      · exact nfs q
      rcases List.mem_cons.mp m with q | m
      · exact nfd q
      rcases hset _ m with q | q
      · exact hn2.1 (by simp [q])
      · exact pfl q
    · rcases List.mem_cons.mp m with q | m
      · exact nds q.symm
      rcases hset _ m with q | q
      · exact hn3.1 (by simp [q])
      · exact psy q
    · rcases hset _ m with q | q
      · exact hn4.1 q
      · exact pde q
    · refine List.pairwise_iff_getElem.mpr fun a b ha hb hab => ?_
      rw [List.getElem_set, List.getElem_set]
      rw [List.length_set] at ha hb
      split
      · split
        · omega
        · exact fun q => pds _ (List.getElem_mem hb) q.symm
      · split
        · exact pds _ (List.getElem_mem ha)
        · exact List.pairwise_iff_getElem.mp hn4.2 a b ha hb hab
  · rw [show (F.set i ⟨o, []⟩).map (fun f => octD f.sy) = (F.map fun f => octD f.sy).set i (octD o) from List.map_set]
    have kv : Dt (upd H2 de (.lst ((ds.set i p).map V.ref))) (octD o) v := Dt.tk ((k1.trans (tk_same e2)).trans k2) _ hv
    exact dts_set kv (Dts.tk kall _ h3)
  · refine h5.set ((upd_ne pde.symm).trans hp2) (show Dts _ [] [] from rfl) i (fun j a hj ha u hu => ?_) kall
    have m := List.mem_of_getElem? ha
    exact (upd_ne (ndx a m)).trans (e2 _ _ ((upd_ne (nsx a m)).trans (e _ _ hu)))
  · refine ⟨fun a u hu n => ?_, fun a m => ?_, fun a ha => ?_, kall⟩
    · rw [upd_ne (fun q => n (by rw [q]; simp))]
      exact e2 _ _ (by rw [upd_ne (fun q => n (by rw [q]; simp))]; exact e _ _ hu)
    · rcases List.mem_cons.mp m with q | m
      · exact .inl (by rw [q]; simp)
      rcases List.mem_cons.mp m with q | m
      · exact .inl (by rw [q]; simp)
      rcases List.mem_cons.mp m with q | m
      · exact .inl (by rw [q]; simp)
      rcases List.mem_or_eq_of_mem_set m with q | q
      · exact .inl (by simp [q])
      · subst q
        refine .inr (Same.free e ?_)
        rwa [upd_ne psy.symm] at hp
    · have h0 : H2 a = none := by
        by_cases q : a = de
        · subst q; rw [upd_same] at ha; cases ha
        · rwa [upd_ne q] at ha
      have h1' := Same.free e2 h0
      refine Same.free e ?_
      by_cases q : a = sy
      · subst q; rw [upd_same] at h1'; cases h1'
      · rwa [upd_ne q] at h1'
end
theorem sc_Files_sync : FnScope ["self", "place"] ["self", "place"] (defScope s_Files_sync) := ⟨rfl, rfl, rfl, by decide +kernel, rfl, by decide +kernel, by decide +kernel⟩
theorem d_Files_sync {c : Cn} (T : Tx c) : Md c (cFiles c) "sync" 3 ["self", "place"] (spUpd c 0 (fun _ f _ f' => f' = f.sync) ) :=
  T.md 67 111 rfl rfl sc_Files_sync (fun _ _ _ _ _ _ us hl => match us, hl with | [_, _], _ => rfl) (ln_upd rfl) fun f cdv A outer s H vs Q E hr h => by
    refine ⟨_, (pss_cons (ps_asg (pe_md (d_Files_octets_of T) T.c_Files (hr.mono (by decide)) (pv 0) (pa_cons (pv 1) pa_nil)) (pg_sub (pe_fld (pv 0) rfl) (pv 1) set_list))
    (pss_one (ps_asg (pe_lst pa_nil) (pg_sub (pe_fld (pv 0) rfl) (pv 1) set_list)))), ?_⟩
    obtain ⟨fl, M, F, i, f, _, ws, rfl, hws, hF, hf, hb, hz, rfl, k⟩ := h
    obtain rfl : ws = [] := List.length_eq_zero_iff.mp hws
    have hi : i < F.length := (List.getElem?_eq_some_iff.mp hf).1
    have L : Loc H [none, some (.int (i : Nat))] (L2.start ["self", "place"] [V.ref fl, V.int (i : Nat)]) := ⟨_, _, rfl, _, _, rfl, rfl, trivial⟩
    refine p_seq (p_asg (hF.meth (vv_at rfl) (ea_1 (ev_v L rfl)) fun vs H3 e3 hvs => ?_))
    obtain ⟨v, _, rfl, hv, rfl⟩ := hvs
    refine ⟨fl, M, F, i, f, v, rfl, hv, hF.to e3, hf, hb, fun v4 H4 e4 hd => ?_⟩
    obtain ⟨sy, de, vs, ds, g1, g2, g3, g4, g5, g6, _, _, g7⟩ := ((hF.to e3).to e4).parts T hf
    refine g5 (vv_at rfl) H4 (Same.refl _) _ fun H5 e5 => ?_
    refine ev_v ((L.to (e3.trans e4)).to e5) rfl H5 (Same.refl _) _ fun v6 H6 e6 hv6 => ?_
    refine ⟨sy, vs, (i : Nat), i, rfl, hv6, e6 _ _ (e5 _ _ g1), ixN_k (by rw [g3]; exact hi), ?_⟩
    dsimp only
    refine p_asg (p_lst (p_nil ⟨Nat.zero_le _, fun p hp => ?_⟩))
    obtain ⟨r1, r2, r3, r4⟩ := g7 H6 v4 f.cur (e5.trans e6) (hd.to (e5.trans e6)) (upd (upd H6 sy (.lst (vs.set i v4))) p (.lst [])) p (same_new hp) hp upd_same
    refine r4 (vv_at rfl) _ (Same.refl _) _ fun H7 e7 => ?_
    have hs6 := e5.trans e6
    have kp : Tk H6 H7 := ((tk_upd (hs6 _ _ g1)).trans (tk_same (same_new hp))).trans (tk_same e7)
    refine ev_v (((L.to (e3.trans e4)).to hs6).tk kp) rfl H7 (Same.refl _) _ fun v8 H8 e8 hv8 => ?_
    obtain ⟨r1, r2, r3, r4⟩ := g7 H6 v4 f.cur hs6 (hd.to hs6) H8 p (((same_new hp).trans e7).trans e8) hp (e8 _ _ (e7 _ _ upd_same))
    refine ⟨de, _, (i : Nat), i, rfl, hv8, r3, ixN_k (by rw [List.length_map, g4]; exact hi), ?_⟩
    have er : (ds.map V.ref).set i (.ref p) = (ds.set i p).map V.ref := List.map_set.symm
    rw [er]
    exact k _ _ r1 (Fr.of (e3.trans e4) r2)
end Sp
set_option Elab.async false
set_option linter.all false
set_option maxRecDepth 100000
set_option maxHeartbeats 4000000
namespace Sp
open PySem PySem.Spec PyProof.Rows L2
/-- a call that only looks at the files -/
def spLook (c : Cn) (args : List FM → List PyData → PyData → Prop) : Sp := fun vs H Q _ => ∃ fl M F ds ws d, vs = V.ref fl :: ws ∧ Dts H ds ws ∧ FilesAt c H M fl F ∧ args F ds d ∧ ∀ v H', Same H H' → Dt H' d v → Q v H'
theorem ln_look {c : Cn} {R} {ps : List Str} {n : Nat} (h : ps.length = n + 1) (hn : ∀ F ds d, R F ds d → ds.length = n) : Ln ps (spLook c R) := fun vs H Q E hh => by
  obtain ⟨_, _, F, ds, ws, d, e, e2, _, r, _⟩ := hh
  rw [e, h, ← hn F ds d r, ← e2.len]
  rfl
/-- such a call -/
theorem ev_look {c : Cn} {R : List FM → List PyData → PyData → Prop} {m : Str} {l : L2.St} {H : Hp} {M : List Addr} {fl : Addr} {F : List FM} {ta : TE} {t : TA} {ds : List PyData} {d : PyData} {E : XK} (h : FilesAt c H M fl F) (ha : EvV ta l H (.ref fl)) (ht : EvA t l H ds) (hr : R F ds d) (hm : m ≠ "start" ∧ m ≠ "synced" ∧ m ≠ "deeds" := by decide +kernel) : Ev (tMeth (cFiles c) m (spLook c R) [] E ta t) l H d := fun H1 e Q q => by
  refine (h.to e).meth (fun H2 e2 Q q => ha H2 (e.trans e2) Q q) (fun H2 e2 Q q => ht H2 (e.trans e2) Q q) (fun vs H3 e3 hvs => ?_) hm
  exact ⟨fl, M, F, ds, vs, d, rfl, hvs, (h.to e).to e3, hr, fun v H4 e4 hd => q v H4 (e3.trans e4) hd⟩
theorem ev_oct {c : Cn} {l : L2.St} {H : Hp} {M : List Addr} {fl : Addr} {F : List FM} {i : Nat} {f : FM} {ta tb : TE} {E : XK} (h : FilesAt c H M fl F) (hf : F[i]? = some f) (hb : f.bnd ≤ 1000000) (ha : EvV ta l H (.ref fl)) (ht : Ev tb l H (.int (i : Nat))) : Ev (tMeth (cFiles c) "octets_of" (spOct c) [] E ta (tCons tb tNil)) l H (octD f.cur) := fun H1 e Q q => by
  refine (h.to e).meth (fun H2 e2 Q q => ha H2 (e.trans e2) Q q) (ea_1 (ht.to e)) fun vs H3 e3 hvs => ?_
  obtain ⟨v, _, rfl, hv, rfl⟩ := hvs
  exact ⟨fl, M, F, i, f, v, rfl, hv, (h.to e).to e3, hf, hb, fun v4 H4 e4 hd => q v4 H4 (e3.trans e4) hd⟩
/-- three files of a size -/
structure F3 (F : List FM) : Prop where
  len : F.length = 3
  bnd : ∀ f ∈ F, f.bnd ≤ 1000000 ∧ f.de.length < 100000
theorem F3.get {F : List FM} (h : F3 F) {i : Nat} (hi : i < 3) : ∃ f, F[i]? = some f ∧ f.bnd ≤ 1000000 ∧ f.de.length < 100000 := by
  have hi' : i < F.length := by rw [h.len]; exact hi
  exact ⟨F[i], List.getElem?_eq_getElem hi', h.bnd _ (List.getElem_mem hi')⟩
theorem range_map {α : Type} [Inhabited α] {F : List α} (g : α → PyData) (v : Nat → PyData) (n : Nat) (hn : F.length = n) (h : ∀ i f, F[i]? = some f → v i = g f) : (List.range n).map v = F.map g := by
  subst hn
  refine List.ext_getElem (by simp) fun i h1 h2 => ?_
  rw [List.getElem_map, List.getElem_map, List.getElem_range]
  exact h i _ (List.getElem?_eq_getElem (by simpa using h2))
instance : Inhabited FM := ⟨⟨[], []⟩⟩
theorem sc_Files_disk : FnScope ["self", "place"] ["self"] (defScope s_Files_disk) := ⟨rfl, rfl, rfl, by decide +kernel, rfl, by decide +kernel, by decide +kernel⟩
theorem d_Files_disk {c : Cn} (T : Tx c) : Md c (cFiles c) "disk" 3 ["self"] (spLook c (fun F ds d => ds = [] ∧ F3 F ∧ d = .tuple (F.map fun f => octD f.cur)) ) :=
  T.md 69 113 rfl rfl sc_Files_disk (fun _ _ _ _ _ _ us hl => match us, hl with | [_], _ => rfl) (ln_look (n := 0) rfl fun _ _ _ h => by rw [h.1] <;> rfl) fun f cdv A outer s H vs Q E hr h => by
    refine ⟨_, (pss_one (ps_ret (pe_callTy call_tuple_of (by rfl) T.n_tuple (by decide +kernel) (pa_cons (pe_lc (own := [("place", 1)]) (by rfl) sc_Files_disk.nd (pi_range1 (by rfl) T.n_range (pa_cons (pe_k T.k_PLACES) pa_nil)) (blkOk_by (own := [("place", 1)]) (N := ["self", "place"]) (sc := defScope s_Files_disk) (by decide +kernel)) (fun _ _ _ _ _ => (pg_name (i := 1) sc_Files_disk.nd rfl (by first | exact Or.inl rfl | exact Or.inr rfl))) (fun _ _ _ _ _ => pts_nil) (fun _ _ _ _ _ => (pe_md (d_Files_octets_of T) T.c_Files (hr.mono (by decide)) (pv 0) (pa_cons (pv 1) pa_nil)))) pa_nil)))), ?_⟩
    obtain ⟨fl, M, F, _, _, _, rfl, hws, hF, ⟨rfl, h3, rfl⟩, k⟩ := h
    obtain rfl : _ = [] := hws
    have hlen : ∀ x, wipe ((wipe (L2.start ["self", "place"] [V.ref fl]) [1]).set 1 (some x)) [1] = wipe (L2.start ["self", "place"] [V.ref fl]) [1] := fun _ => rfl
    refine s_ret (d := .tuple (F.map fun f => octD f.cur)) ((ev_tuL (el_lcR (k := 3) (j := 1) (fun i => octD (F.getD i default).cur) (ev_int (i := 3)) (by decide) hlen fun i H1 e1 hi => ⟨et_yes, ?_⟩)).is (congrArg PyData.tuple ?_)) fun v H1 e hd => k v H1 e hd
    · obtain ⟨f, hf, hb, _⟩ := h3.get hi
      have e : F.getD i default = f := by rw [List.getD_eq_getElem?_getD, hf]; rfl
      rw [e]
      exact ev_oct (hF.to e1) hf hb (vv_at rfl) (ev_at (d := .int (i : Nat)) (v := .int (i : Nat)) rfl rfl)
    · exact range_map (fun f => octD f.cur) (fun i => octD (F.getD i default).cur) 3 h3.len fun i f hf => by rw [List.getD_eq_getElem?_getD, hf]; rfl
def FM.many (f : FM) : Nat := 1 + f.steps
def manyD (F : List FM) : PyData := .tuple (F.map fun f => .int (f.many : Nat))
theorem deeds_sum (ds : List Deed) : ((ds.map fun w => ((w.steps : Nat) : Int))).sum = (((ds.map Deed.steps).sum : Nat) : Int) := by
  induction ds with
  | nil => rfl
  | cons d ds ih => simp only [List.map_cons, List.sum_cons, ih, Int.natCast_add]
theorem sc_Files_choices : FnScope ["self", "deed", "deeds"] ["self"] (defScope s_Files_choices) := ⟨rfl, rfl, rfl, by decide +kernel, rfl, by decide +kernel, by decide +kernel⟩
theorem d_Files_choices {c : Cn} (T : Tx c) : Md c (cFiles c) "choices" 2 ["self"] (spLook c (fun F ds d => ds = [] ∧ F3 F ∧ d = manyD F) ) :=
  T.md 70 114 rfl rfl sc_Files_choices (fun _ _ _ _ _ _ us hl => match us, hl with | [_], _ => rfl) (ln_look (n := 0) rfl fun _ _ _ h => by rw [h.1] <;> rfl) fun f cdv A outer s H vs Q E hr h => by
    refine ⟨_, (pss_one (ps_ret (pe_callTy call_tuple_of (by rfl) T.n_tuple (by decide +kernel) (pa_cons (pe_lc (own := [("deeds", 2)]) (by rfl) sc_Files_choices.nd (pi_list (pe_fld (pv 0) rfl)) (blkOk_by (own := [("deeds", 2)]) (N := ["self", "deed", "deeds"]) (sc := defScope s_Files_choices) (by decide +kernel)) (fun _ _ _ _ _ => (pg_name (i := 2) sc_Files_choices.nd rfl (by first | exact Or.inl rfl | exact Or.inr rfl))) (fun _ _ _ _ _ => pts_nil) (fun _ _ _ _ _ => (pe_op op_add pe_int (pe_callB (cr_sumK c.K) (by rfl) T.n_sum (by decide +kernel) (pa_cons (pe_lc (own := [("deed", 1)]) (by rfl) sc_Files_choices.nd ((pi_listK c.K) (pv 2)) (blkOk_by (own := [("deed", 1)]) (N := ["self", "deed", "deeds"]) (sc := ⟨.function, [(".0", .local), ("deeds", .local), ("sum", .globalImplicit)], false, false, []⟩) (by decide +kernel)) (fun _ _ _ _ _ => (pg_name (i := 1) sc_Files_choices.nd rfl (by first | exact Or.inl rfl | exact Or.inr rfl))) (fun _ _ _ _ _ => pts_nil) (fun _ _ _ _ _ => (pe_d (d_steps_of T) (hr.mono (by decide)) (pa_cons (pv 1) pa_nil)))) pa_nil))))) pa_nil)))), ?_⟩
    obtain ⟨fl, M, F, _, _, _, rfl, hws, hF, ⟨rfl, h3, rfl⟩, k⟩ := h
    obtain rfl : _ = [] := hws
    obtain ⟨f0, hf0, _⟩ := h3.get (i := 0) (by decide)
    obtain ⟨sy, de, vs, ds, g1, g2, g3, g4, g5, g6, _, hde, _⟩ := hF.parts T hf0
    have hlen : ∀ x, wipe ((wipe (L2.start ["self", "deed", "deeds"] [V.ref fl]) [2]).set 2 (some x)) [2] = wipe (L2.start ["self", "deed", "deeds"] [V.ref fl]) [2] := fun _ => rfl
    refine s_ret (d := manyD F) ((ev_tuL (el_lcV (j := 2) (xs := ds.map V.ref) (fun i => .int ((F.getD i default).many : Nat)) (g6 (vv_at rfl)) g2 (by rw [List.length_map, g4, h3.len]; decide) hlen fun i v H1 e1 hv => ⟨et_yes, ?_⟩)).is (congrArg PyData.tuple ?_)) fun v H1 e hd => k v H1 e hd
    · obtain ⟨d, hd, rfl⟩ := map_at hv
      have hi : i < 3 := by have := (List.getElem?_eq_some_iff.mp hd).1; rw [g4, h3.len] at this; exact this
      obtain ⟨f, hf, hb, hz⟩ := h3.get hi
      have e : F.getD i default = f := by rw [List.getD_eq_getElem?_getD, hf]; rfl
      rw [e]
      obtain ⟨d', xs, hd', hx, hxs⟩ := hde.get hf
      rw [hd] at hd'
      obtain rfl := Option.some.inj hd'
      refine (ev_I0 (ev_int (i := 1)) (ev_sum (ns := f.de.map fun w => ((w.steps : Nat) : Int)) ?_)).is ?_
      · have key := el_lcL (K := c.K) (te := tCall (spF (fun (w : Deed) => [w.d]) (fun _ => True) (fun w => .int (w.steps : Nat))) [] E0 (tCons (tVar 1) tNil)) (t := tYes) (tl := tVar 2) (H := H1) (l := (wipe (L2.start ["self", "deed", "deeds"] [V.ref fl]) [2]).set 2 (some (.ref d))) (ds := f.de.map Deed.d) (vs := [1]) (j := 1) (a := d) (xs := xs) (fun _ => true) (fun d => match d with | .tuple [.str _, .int _] => .int 1 | .tuple [_, .tuple os] => .int (os.length : Nat) | _ => .none) (vv_at rfl) (e1 _ _ hx) (hxs.to e1) (by rw [List.length_map]; omega) (fun _ => rfl) (fun j d v H2 e2 hj hd => ?_)
        · rw [kept_all, List.map_map] at key
          have : (f.de.map fun w => ((w.steps : Nat) : Int)).map PyData.int = f.de.map ((fun d => match d with | .tuple [.str _, .int _] => PyData.int 1 | .tuple [_, .tuple os] => PyData.int (os.length : Nat) | _ => PyData.none) ∘ Deed.d) := by
            rw [List.map_map]
            refine List.map_congr_left fun w _ => ?_
            cases w with
            | keep n => rfl
            | add x => show PyData.int (x.length : Nat) = PyData.int ((x.map PyData.int).length : Nat); rw [List.length_map]
          rw [this]
          exact key
        · obtain ⟨w, hw, rfl⟩ := map_at hj
          refine ⟨et_yes, fun _ => (ev_F w (ea_1 (ev_at rfl hd)) trivial).is ?_⟩
          cases w with
          | keep n => rfl
          | add x => show PyData.int (x.length : Nat) = PyData.int ((x.map PyData.int).length : Nat); rw [List.length_map]
      · rw [deeds_sum]
        rfl
    · rw [List.length_map, g4]
      exact range_map (F := F) (fun f => .int (f.many : Nat)) (fun i => .int ((F.getD i default).many : Nat)) _ rfl fun i f hf => by rw [List.getD_eq_getElem?_getD, hf]; rfl
end Sp
set_option Elab.async false
set_option linter.all false
set_option maxRecDepth 100000
set_option maxHeartbeats 4000000
namespace Sp
open PySem PySem.Spec PyProof.Rows L2
def Deed.oct : Deed → Oct
  | .keep _ => []
  | .add x => x
def stepAt (s : Oct × Nat) (w : Deed) : Oct × Nat :=
  (if 0 < min s.2 w.steps then (if min s.2 w.steps = w.steps then behind s.1 w else s.1 ++ w.oct.take (min s.2 w.steps)) else s.1, s.2 - min s.2 w.steps)
def FM.at (f : FM) (k : Nat) : Oct := (f.de.foldl stepAt (f.sy, k)).1
theorem stepAt_len (s : Oct × Nat) (w : Deed) : (stepAt s w).1.length ≤ s.1.length + FM.addLen w := by
  unfold stepAt
  dsimp only
  split
  · split
    · exact behind_len _ _
    · rw [List.length_append, List.length_take]
      cases w with
      | keep n => show _ + min _ 0 ≤ _; omega
      | add x => show _ + min _ x.length ≤ _ + x.length; omega
  · omega
theorem foldAt_len : ∀ (ds : List Deed) (s : Oct × Nat), (ds.foldl stepAt s).1.length ≤ s.1.length + (ds.map FM.addLen).sum
  | [], _ => by simp
  | d :: ds, s => by
    have h1 := foldAt_len ds (stepAt s d)
    have h2 := stepAt_len s d
    show (ds.foldl stepAt (stepAt s d)).1.length ≤ _
    rw [List.map_cons, List.sum_cons]
    omega
theorem ev_min2 {l : L2.St} {H : Hp} {ta tb : TE} {i j : Nat} (ha : Ev ta l H (.int (i : Nat))) (hb : Ev tb l H (.int (j : Nat))) : Ev (tCB (fun xs H Q => ∃ i j, xs = [V.int i, V.int j] ∧ Q (.int (if j < i then j else i)) H) (tCons ta (tCons tb tNil))) l H (.int (min i j : Nat)) := fun H1 e Q q =>
  ha H1 e _ fun v H2 e2 h2 => hb H2 (e.trans e2) _ fun w H3 e3 h3 => ⟨(i : Nat), (j : Nat), by rw [show v = .int (i : Nat) from h2, show w = .int (j : Nat) from h3], q _ H3 (e2.trans e3) (by
    show V.int _ = V.int _
    congr 1
    split <;> omega)⟩
def StateR (F : List FM) (ds : List PyData) (d : PyData) : Prop := ∃ (i k : Nat) (f : FM), ds = [.int (i : Nat), .int (k : Nat)] ∧ F[i]? = some f ∧ f.bnd ≤ 1000000 ∧ d = octD (f.at k)
theorem sc_Files__state : FnScope ["self", "place", "number", "octets", "left", "deed", "many"] ["self", "place", "number"] (defScope s_Files__state) := ⟨rfl, rfl, rfl, by decide +kernel, rfl, by decide +kernel, by decide +kernel⟩
theorem d_Files__state {c : Cn} (T : Tx c) : Md c (cFiles c) "_state" 2 ["self", "place", "number"] (spLook c StateR ) :=
  T.md 71 115 rfl rfl sc_Files__state (fun _ _ _ _ _ _ us hl => match us, hl with | [_, _, _], _ => rfl) (ln_look (n := 2) rfl fun _ _ _ h => by obtain ⟨_, _, _, rfl, _⟩ := h; rfl) fun f cdv A outer s H vs Q E hr h => by
    refine ⟨_, (pss_cons (ps_par (i := 3) (j := 4) (by rfl) sc_Files__state.nd rfl rfl (by decide) rfl rfl (pa_cons (pe_ix ix_list (pe_fld (pv 0) rfl) (pv 1) (fun _ _ => rfl)) (pa_cons (pv 2) pa_nil)) (by rfl))
    (pss_cons (ps_for PassesOwn.never rfl (pi_list (pe_ix ix_list (pe_fld (pv 0) rfl) (pv 1) (fun _ _ => rfl))) (pg_name (i := 5) sc_Files__state.nd rfl (by first | exact Or.inl rfl | exact Or.inr rfl)) (pss_cons (ps_set (i := 6) sc_Files__state.nd rfl (by first | exact Or.inl rfl | exact Or.inr rfl) (pe_callB (call_min2 rfl) (by rfl) T.n_min (by decide +kernel) (pa_cons (pv 4) (pa_cons (pe_d (d_steps_of T) (hr.mono (by decide)) (pa_cons (pv 5) pa_nil)) pa_nil))))
    (pss_cons (ps_if (pt_cmpR op_gt (pv 6) pe_int (nomark _)) (pss_one (ps_set (i := 3) sc_Files__state.nd rfl (by first | exact Or.inl rfl | exact Or.inr rfl) (pe_ifExp (pt_cmpR op_eq (pv 6) (pe_d (d_steps_of T) (hr.mono (by decide)) (pa_cons (pv 5) pa_nil)) (nomark _)) (pe_d (d_octets_behind T) (hr.mono (by decide)) (pa_cons (pv 3) (pa_cons (pv 5) pa_nil))) (pe_op op_catA (pv 3) (pe_slice sl_tupA (pe_ix ix_tup (pv 5) pe_int (fun _ _ => rfl)) po_none (po_some (pv 6))))))) pss_nil)
    (pss_one (ps_aug (i := 4) sc_Files__state.nd rfl (by first | exact Or.inl rfl | exact Or.inr rfl) (pv 6) ip_sub)))))
    (pss_one (ps_ret (pv 3))))), ?_⟩
    obtain ⟨fl, M, F, _, _, _, rfl, hws, hF, ⟨i, k0, f, rfl, hf, hb, rfl⟩, k⟩ := h
    obtain ⟨v1, _, rfl, hv1, v2, _, rfl, hv2, rfl⟩ := hws
    obtain rfl : v1 = .int (i : Nat) := hv1
    obtain rfl : v2 = .int (k0 : Nat) := hv2
    have L : Loc H [none, some (.int (i : Nat)), some (.int (k0 : Nat)), none, none, none, none] (L2.start ["self", "place", "number", "octets", "left", "deed", "many"] [V.ref fl, V.int (i : Nat), V.int (k0 : Nat)]) := ⟨_, _, rfl, _, _, rfl, rfl, _, _, rfl, rfl, _, _, rfl, _, _, rfl, _, _, rfl, _, _, rfl, trivial⟩
    refine q_par (d1 := octD f.sy) (d2 := .int (k0 : Nat)) (ea_2 (hF.syn T (vv_at rfl) (ev_v L rfl) hf) (ev_v L rfl)) L fun v3 v4 H1 e1 _ _ L1 => ?_
    obtain ⟨d, xs, hd, hx, _, hv⟩ := hF.dee T hf
    have hvv := hv (l := ((L2.start ["self", "place", "number", "octets", "left", "deed", "many"] [V.ref fl, V.int (i : Nat), V.int (k0 : Nat)]).set 3 (some v3)).set 4 (some v4)) (ta := tVar 0) (tb := tVar 1) (vv_at rfl) (ev_at (d := .int (i : Nat)) (v := .int (i : Nat)) rfl rfl)
    refine q_forLV (ds := f.de.map Deed.d) (hvv.to e1) (e1 _ _ hd) (fun j l' H' => Same H H' ∧ Loc H' [none, some (.int (i : Nat)), some (.int (k0 : Nat)), some (octD ((f.de.take j).foldl stepAt (f.sy, k0)).1), some (.int (((f.de.take j).foldl stepAt (f.sy, k0)).2 : Nat)), none, none] l') (fun H2 e2 => ⟨e1.trans e2, L1.to e2⟩) (fun j l' H' h => ⟨h.1 _ _ hd, hx.to h.1⟩) ?_ ?_
    · rintro j d v l' H2 hj hdv ⟨s2, L2⟩
      obtain ⟨w, hw, rfl⟩ := map_at hj
      have hst : (f.de.take (j + 1)).foldl stepAt (f.sy, k0) = stepAt ((f.de.take j).foldl stepAt (f.sy, k0)) w := take_fold hw
      have hbd : ((f.de.take j).foldl stepAt (f.sy, k0)).1.length + FM.addLen w ≤ 1000000 := by
        have h1 := foldAt_len (f.de.take j) (f.sy, k0)
        have h2 := sum_take (f := FM.addLen) hw
        unfold FM.bnd at hb
        dsimp only at h1
        omega
      generalize (f.de.take j).foldl stepAt (f.sy, k0) = st at L2 hst hbd
      obtain ⟨o, left⟩ := st
      dsimp only at L2 hbd
      have L3 := Loc.set hdv 5 L2
      have hstep : ∀ {H' : Hp} {l' : List (Option V)} {x0 x1 x2 x3 x4 : Option PyData} {G : List (Option PyData)}, Loc H' (x0 :: x1 :: x2 :: x3 :: x4 :: some w.d :: G) l' → Ev (tCall (spF (fun (w : Deed) => [w.d]) (fun _ => True) (fun w => .int (w.steps : Nat))) [] E0 (tCons (tVar 5) tNil)) l' H' (.int (w.steps : Nat)) := fun L' => ev_F w (ea_1 (ev_v L' rfl)) trivial
      refine q_asg (d := .int (min left w.steps : Nat)) (ev_min2 (ev_v L3 rfl) (hstep L3)) L3 fun v4 H4 e4 _ L4 => ?_
      refine q_if (b := decide (0 < min left w.steps)) (et_of ((ev_B0 (ev_v L4 rfl) (ev_int (i := 0))).is (by congr 1; exact decide_eq_decide.mpr (by omega)))) (fun hb2 H5 e5 => ?_) (fun hb2 H5 e5 => ?_)
      · have hpos := of_decide_eq_true hb2
        have L5 := L4.to e5
        refine s_asg (d := octD (stepAt (o, left) w).1) (ev_if (b := decide (min left w.steps = w.steps)) (et_of ((ev_eqI (ev_v L5 rfl) (hstep L5)).is (by congr 1; exact decide_eq_decide.mpr (by omega)))) (fun hc => (ev_F (o, w) (ea_2 (ev_v L5 rfl) (ev_v L5 rfl)) ?_).is ?_) (fun hc => ?_)) L5 fun v6 H6 e6 _ L6 => ?_
        · cases w with
          | keep n => trivial
          | add x => exact hbd
        · show octD (behind o w) = octD (stepAt (o, left) w).1
          unfold stepAt
          rw [if_pos hpos, if_pos (of_decide_eq_true hc)]
        · have hc := of_decide_eq_false hc
          cases w with
          | keep n =>
            exfalso
            have : Deed.steps (.keep n) = 1 := rfl
            omega
          | add x =>
            refine (ev_cat (ds := o.map .int) (es := (x.take (min left x.length)).map .int) (ev_v L5 rfl) ((ev_sl (ev_ix (d := octD x) (ds := [.str "add", octD x]) (i := 1) (ev_v L5 rfl) ev_int rfl) eo_none (eo_some (ev_v L5 rfl))).is (congrArg PyData.tuple (cut_take x _))) ?_).is ?_
            · rw [List.length_map, List.length_map, List.length_take]
              have : FM.addLen (.add x) = x.length := rfl
              omega
            · rw [octD_app]
              unfold stepAt
              rw [if_pos hpos, if_neg hc]
              rfl
        · refine s_augI (f := fun a b => a - b) (i := (left : Nat)) (j := (min left w.steps : Nat)) L6 rfl (ev_v L6 rfl) fun H7 e7 L7 => ⟨(((s2.trans e4).trans e5).trans e6).trans e7, ?_⟩
          rw [hst]
          rw [show ((left : Nat) : Int) - ((min left w.steps : Nat) : Int) = (((stepAt (o, left) w).2 : Nat) : Int) by show _ = ((left - min left w.steps : Nat) : Int); omega] at L7 ⊢
          exact (L7.wk 5).wk 6
      · have hpos := of_decide_eq_false hb2
        have L5 := L4.to e5
        refine s_augI (f := fun a b => a - b) (i := (left : Nat)) (j := (min left w.steps : Nat)) L5 rfl (ev_v L5 rfl) fun H7 e7 L7 => ⟨((s2.trans e4).trans e5).trans e7, ?_⟩
        rw [hst]
        rw [show ((left : Nat) : Int) - ((min left w.steps : Nat) : Int) = (((stepAt (o, left) w).2 : Nat) : Int) by show _ = ((left - min left w.steps : Nat) : Int); omega] at L7 ⊢
        have eo : (stepAt (o, left) w).1 = o := by unfold stepAt; rw [if_neg hpos]
        rw [eo]
        exact (L7.wk 5).wk 6
    · rintro l' H2 ⟨s2, L2⟩
      rw [List.length_map, List.take_length] at L2
      exact s_ret (d := octD (f.at k0)) (ev_v L2 rfl) fun v H3 e3 hd => k v H3 (s2.trans e3) hd
end Sp
set_option Elab.async false
set_option linter.all false
set_option maxRecDepth 100000
set_option maxHeartbeats 4000000
namespace Sp
open PySem PySem.Spec PyProof.Rows L2
theorem pg_tupK (K : PySem.W.Frag) {X : Cx} {es : List Expr} {k : Nat} {t : TGs} {n : Nat} {pos : Pos} (hc : X.calm = true) (h : PGs X es t) (e : X.K = K := by rfl) (hn : (assignEach es X.env).length = n := by rfl) (hst : (assignEach es X.env).findIdx? (·.1) = none := by rfl) : PG X (.Tuple es k pos) (gTup K n t) := by
  subst e
  exact pg_tup hc h hn hst
/-- numbers that may be chosen -/
structure NumOk (F : List FM) (ks : List Nat) : Prop where
  len : ks.length = 3
  lt : ∀ (i : Nat) (f : FM) (k : Nat), F[i]? = some f → ks[i]? = some k → k < f.many
def natsD (ks : List Nat) : PyData := .tuple (ks.map fun k => .int (k : Nat))
def cutF (F : List FM) (ks : List Nat) : List Oct := (List.range 3).map fun i => (F.getD i default).at (ks.getD i 0)
theorem sc_Files_cut : FnScope ["self", "numbers", "choices", "number", "most", "place"] ["self", "numbers"] (defScope s_Files_cut) := ⟨rfl, rfl, rfl, by decide +kernel, rfl, by decide +kernel, by decide +kernel⟩
theorem d_Files_cut {c : Cn} (T : Tx c) : Md c (cFiles c) "cut" 3 ["self", "numbers"] (spLook c (fun F ds d => ∃ ks, ds = [natsD ks] ∧ F3 F ∧ NumOk F ks ∧ d = .tuple ((cutF F ks).map octD)) ) :=
  T.md 72 116 rfl rfl sc_Files_cut (fun _ _ _ _ _ _ us hl => match us, hl with | [_, _], _ => rfl) (ln_look (n := 1) rfl fun _ _ _ h => by obtain ⟨_, rfl, _⟩ := h; rfl) fun f cdv A outer s H vs Q E hr h => by
    refine ⟨_, (pss_cons (ps_set (i := 2) sc_Files_cut.nd rfl (by first | exact Or.inl rfl | exact Or.inr rfl) (pe_md0 (d_Files_choices T) T.c_Files (hr.mono (by decide)) (pv 0)))
    (pss_cons (ps_if (PW.pt (pw_or (pt_not (pt_val (pe_d (d_is_sequence T) (hr.mono (by decide)) (pa_cons (pv 1) pa_nil)))) (pw_or1 (pt_cmpR op_ne (pe_callB call_len_seq (by rfl) T.n_len (by decide +kernel) (pa_cons (pv 1) pa_nil)) (pe_k T.k_PLACES) (nomark _))))) (pss_one ps_never) pss_nil)
    (pss_cons (ps_if (pt_not (pt_val (pe_callB (cr_all rfl) (by rfl) T.n_all (by decide +kernel) (pa_cons (pe_lc (own := [("number", 3), ("most", 4)]) (by rfl) sc_Files_cut.nd (RZ.pi_zipA (by rfl) T.n_zip (pa_cons (pv 1) (pa_cons (pv 2) pa_nil))) (blkOk_by (own := [("number", 3), ("most", 4)]) (N := ["self", "numbers", "choices", "number", "most", "place"]) (sc := defScope s_Files_cut) (by decide +kernel)) (fun _ _ _ _ _ => (pg_tupK (n := 2) c.K (by rfl) (pgs_cons (pg_name (i := 3) sc_Files_cut.nd rfl (by first | exact Or.inl rfl | exact Or.inr rfl)) (pgs_cons (pg_name (i := 4) sc_Files_cut.nd rfl (by first | exact Or.inl rfl | exact Or.inr rfl)) pgs_nil)))) (fun _ _ _ _ _ => pts_nil) (fun _ _ _ _ _ => (pe_d (d_is_below T) (hr.mono (by decide)) (pa_cons (pv 3) (pa_cons (pv 4) pa_nil))))) pa_nil)))) (pss_one ps_never) pss_nil)
    (pss_one (ps_ret (pe_callTy call_tuple_of (by rfl) T.n_tuple (by decide +kernel) (pa_cons (pe_lc (own := [("place", 5)]) (by rfl) sc_Files_cut.nd (pi_range1 (by rfl) T.n_range (pa_cons (pe_k T.k_PLACES) pa_nil)) (blkOk_by (own := [("place", 5)]) (N := ["self", "numbers", "choices", "number", "most", "place"]) (sc := defScope s_Files_cut) (by decide +kernel)) (fun _ _ _ _ _ => (pg_name (i := 5) sc_Files_cut.nd rfl (by first | exact Or.inl rfl | exact Or.inr rfl))) (fun _ _ _ _ _ => pts_nil) (fun _ _ _ _ _ => (pe_md (d_Files__state T) T.c_Files (hr.mono (by decide)) (pv 0) (pa_cons (pv 5) (pa_cons (pe_ix (ix_tupK c.K) (pv 1) (pv 5) (fun _ _ => rfl)) pa_nil))))) pa_nil))))))), ?_⟩
    obtain ⟨fl, M, F, _, _, _, rfl, hws, hF, ⟨ks, rfl, h3, hn, rfl⟩, k⟩ := h
    obtain ⟨v1, _, rfl, hv1, rfl⟩ := hws
    have L : Loc H [none, some (natsD ks), none, none, none, none] (L2.start ["self", "numbers", "choices", "number", "most", "place"] [V.ref fl, v1]) := ⟨_, _, rfl, _, _, rfl, hv1, _, _, rfl, _, _, rfl, _, _, rfl, _, _, rfl, trivial⟩
    have hkl : (ks.map fun k => PyData.int (k : Nat)).length = 3 := by rw [List.length_map]; exact hn.len
    refine q_asg (d := manyD F) (ev_look hF (vv_at rfl) ea_nil ⟨rfl, h3, rfl⟩) L fun v2 H1 e1 hv2 L1 => ?_
    refine q_skip ((et_or (b := false) (c := false) ((et_not (b := true) (et_B (ev_F (ks.map fun k => PyData.int (k : Nat)) (ea_1 (ev_v L1 rfl)) trivial))).is rfl) fun _ => et_of ((ev_neI (ev_len (ds := ks.map fun k => PyData.int (k : Nat)) (ev_v L1 rfl)) (ev_int (i := 3))).is (by rw [hkl]; rfl))).is rfl) fun H2 e2 => ?_
    have L2' := L1.to e2
    have hw : ∀ x y, wipe (((wipe ((L2.start ["self", "numbers", "choices", "number", "most", "place"] [V.ref fl, v1]).set 2 (some v2)) [3, 4]).set 3 (some x)).set 4 (some y)) [3, 4] = wipe ((L2.start ["self", "numbers", "choices", "number", "most", "place"] [V.ref fl, v1]).set 2 (some v2)) [3, 4] := fun _ _ => rfl
    refine q_skip ((et_not (b := true) (et_B ((ev_all (bs := [true, true, true]) ?_).is rfl))).is rfl) fun H3 e3 => ?_
    · have key := el_lcZ (K := c.K) (l := (L2.start ["self", "numbers", "choices", "number", "most", "place"] [V.ref fl, v1]).set 2 (some v2)) (H := H2) (ta := tVar 1) (tb := tVar 2) (t := tYes) (te := tCall (spF (fun (p : Int × Int) => [.int p.1, .int p.2]) (fun _ => True) (fun p => .bool (decide (0 ≤ p.1) && decide (p.1 < p.2)))) [] E0 (tCons (tVar 3) (tCons (tVar 4) tNil))) (vs := [3, 4]) (j := 3) (k := 4) (ds := ks.map fun k => PyData.int (k : Nat)) (es := F.map fun f => .int (f.many : Nat)) (fun _ => .bool true) (ev_v L2' rfl) (ev_v L2' rfl) (by rw [hkl, List.length_map, h3.len]) (by rw [hkl]; decide) hw (fun i v w d e H4 e4 hd he hdv hew => ?_)
      · rw [hkl] at key
        exact key
      · obtain ⟨kk, hk, rfl⟩ := map_at hd
        obtain ⟨f, hf, rfl⟩ := map_at he
        have hlt := hn.lt i f kk hf hk
        refine ⟨et_yes, (ev_F (((kk : Nat) : Int), ((f.many : Nat) : Int)) (ea_2 (ev_at rfl hdv) (ev_at rfl hew)) trivial).is ?_⟩
        dsimp only
        rw [decide_eq_true (by omega), decide_eq_true (by omega)]
        rfl
    have L3 := L2'.to e3
    have e03 := (e1.trans e2).trans e3
    have hw2 : ∀ x, wipe ((wipe ((L2.start ["self", "numbers", "choices", "number", "most", "place"] [V.ref fl, v1]).set 2 (some v2)) [5]).set 5 (some x)) [5] = wipe ((L2.start ["self", "numbers", "choices", "number", "most", "place"] [V.ref fl, v1]).set 2 (some v2)) [5] := fun _ => rfl
    have hv13 : Dt H3 (natsD ks) v1 := hv1.to e03
    refine s_ret (d := .tuple ((cutF F ks).map octD)) ((ev_tuL (el_lcR (k := 3) (j := 5) (fun i => octD ((F.getD i default).at (ks.getD i 0))) (ev_int (i := 3)) (by decide) hw2 fun i H4 e4 hi => ⟨et_yes, ?_⟩)).is (congrArg PyData.tuple (by unfold cutF; rw [List.map_map]; rfl))) fun v H5 e5 hd => k v H5 (e03.trans e5) hd
    obtain ⟨f, hf, hb, _⟩ := h3.get hi
    have hki : i < ks.length := by rw [hn.len]; exact hi
    have hk : ks[i]? = some ks[i] := List.getElem?_eq_getElem hki
    have e : F.getD i default = f := by rw [List.getD_eq_getElem?_getD, hf]; rfl
    have ek : ks.getD i 0 = ks[i] := by rw [List.getD_eq_getElem?_getD, hk]; rfl
    rw [e, ek]
    exact ev_look ((hF.to e03).to e4) (vv_at rfl) (ea_2 (ev_at (d := .int (i : Nat)) (v := .int (i : Nat)) rfl rfl) (ev_ix (ds := ks.map fun k => PyData.int (k : Nat)) (i := (i : Nat)) (ev_at (d := natsD ks) rfl (hv13.to e4)) (ev_at (d := .int (i : Nat)) (v := .int (i : Nat)) rfl rfl) (atI_nat (by rw [List.getElem?_map, hk]; rfl)))) ⟨i, ks[i], f, rfl, hf, hb, rfl⟩
theorem p_el {te : TE} {l : L2.St} {H : Hp} {ds : List PyData} {Q : VK} (h : EvL te l H ds) (k : ∀ p xs H1, H p = none → Same H H1 → H1 p = some (.lst xs) → Dts H1 ds xs → Q (.ref p) H1) : te l H Q := h H (Same.refl _) Q k
theorem p_sfld {K : PySem.W.Frag} {ta tv : TE} {f : Str} {D : Ends} {l : L2.St} {H : Hp} (h : tv l H fun y H1 => ta l H1 fun x H2 => ∃ a C dx fs, x = .ref a ∧ H2 a = some (.ins C dx fs) ∧ Cls K C ∧ NoAttr K C f ∧ fs.length < 1000 ∧ D.nx l (upd H2 a (.ins C dx (putF f y fs)))) : sFld K ta tv f D l H := h
/-! ### a new set of files -/
def spFin (c : Cn) : Sp := fun vs H Q _ => ∃ (x dx : Addr) (v : V) (os : List Oct), vs = [V.ref x, v] ∧ H x = some (.ins (cFiles c) dx []) ∧ Dt H (.tuple (os.map octD)) v ∧ os.length ≤ 1000 ∧ ∀ H' M, FilesAt c H' M x (os.map fun o => ⟨o, []⟩) → Fr H [x] H' M → Q .non H'
/-- lists that were made, all empty -/
def Lcl (H : Hp) (p : Addr) (i : Nat) (H' : Hp) : Prop := H p = none ∧ Same H H' ∧ ∃ ds : List Addr, H' p = some (.lst (ds.map V.ref)) ∧ ds.length = i ∧ (p :: ds).Nodup ∧ ∀ d ∈ ds, H d = none ∧ H' d = some (.lst [])
theorem deAt_new {H : Hp} : ∀ {ds : List Addr} {os : List Oct}, ds.length = os.length → (∀ d ∈ ds, H d = some (.lst [])) → DeAt H ds (os.map fun o => ⟨o, []⟩)
  | [], [], _, _ => trivial
  | [], _ :: _, h, _ => by simp at h
  | _ :: _, [], h, _ => by simp at h
  | d :: ds, o :: os, h, g => ⟨⟨[], g d List.mem_cons_self, rfl⟩, deAt_new (Nat.succ.inj h) fun a m => g a (List.mem_cons_of_mem _ m)⟩
theorem el_news {K : PySem.W.Frag} {l : L2.St} {H : Hp} {tl : TE} {vs : List Nat} {j : Nat} {ds : List PyData} {Q : VK} (h : Ev tl l H (.tuple ds)) (hz : ds.length < 1000000) (hw : ∀ x, wipe ((wipe l vs).set j (some x)) vs = wipe l vs)
    (k : ∀ p H' H1, Same H H1 → Lcl H1 p ds.length H' → Q (.ref p) H') : tLc (iTup K tl) (gName j) tYes (tLst tNil) vs l H Q := h H (Same.refl _) _ fun v H1 e1 hv => by
  obtain ⟨a, xs, rfl, ha, hx⟩ := hv
  refine ⟨a, rfl, ⟨xs, .inl ha⟩, fun p hp => lc_tup (xs := xs) (fun i H' => i ≤ ds.length → Lcl H1 p i H') (fun _ => ⟨hp, same_new hp, [], upd_same, rfl, by simp, fun _ m => (nomatch m)⟩) (fun i H' hi w => .inl (rd_to (w (by rw [← hx.len]; exact hi)).2.1 ha)) (fun i v H' hi w => ⟨hw v, ?_⟩) (fun H' w => ?_)⟩
  · have hil : i < ds.length := by rw [← hx.len]; exact (List.getElem?_eq_some_iff.mp hi).1
    obtain ⟨w0, w1, es, w2, w3, w4, w5⟩ := w (by omega)
    unfold tYes
    dsimp only
    rw [if_pos rfl]
    refine p_lst (p_nil ⟨Nat.zero_le _, fun q hq => ⟨_, (same_new hq) _ _ w2, by rw [List.length_map, w3]; exact sz_lt (by omega), fun _ => ?_⟩⟩)
    have hqp : q ≠ p := (ne_of_none w2 hq).symm
    refine ⟨w0, ?_, es ++ [q], ?_, by rw [List.length_append, w3]; rfl, ?_, fun d m => ?_⟩
    · exact same_mut (w1.trans (same_new hq)) w0
    · rw [upd_same, List.map_append]; rfl
    · rw [← List.cons_append, List.nodup_append]
      refine ⟨w4, by simp, fun a ma b mb => ?_⟩
      rw [List.mem_singleton.mp mb]
      rintro rfl
      rcases List.mem_cons.mp ma with e | m
      · exact hqp e
      · have := (w5 _ m).2
        rw [hq] at this
        cases this
    · rcases List.mem_append.mp m with m | m
      · have hdp : d ≠ p := fun e => (List.nodup_cons.mp w4).1 (e ▸ m)
        exact ⟨(w5 d m).1, (upd_ne hdp).trans ((same_new hq) _ _ (w5 d m).2)⟩
      · obtain rfl := List.mem_singleton.mp m
        exact ⟨Same.free w1 hq, (upd_ne hqp).trans upd_same⟩
  · have := w (by rw [hx.len]; exact Nat.le_refl _)
    rw [hx.len] at this
    exact k p H' H1 e1 this
theorem sc_Files___init__ : FnScope ["self", "start", "octets"] ["self", "start"] (defScope s_Files___init__) := ⟨rfl, rfl, rfl, by decide +kernel, rfl, by decide +kernel, by decide +kernel⟩
theorem m_Files {c : Cn} (T : Tx c) : Mc c "Files" (cFiles c) 1 ["self", "start"] (spFin c ) :=
  T.mc 64 104 68 rfl rfl rfl sc_Files___init__ (fun _ _ _ _ _ _ us hl => match us, hl with | [_, _], _ => rfl) (fun vs H Q E h => by obtain ⟨_, _, _, _, e, _⟩ := h; rw [e] <;> rfl) fun f cdv A outer s H vs Q E hr h => by
    refine ⟨_, (pss_cons (ps_fld (pv 0) (pv 1) rfl)
    (pss_cons (ps_fld (pv 0) (pe_callTy call_list_of (by rfl) T.n_list (by decide +kernel) (pa_cons (pv 1) pa_nil)) rfl)
    (pss_one (ps_fld (pv 0) (pe_lc (own := [("octets", 2)]) (by rfl) sc_Files___init__.nd (pi_tup (pv 1)) (blkOk_by (own := [("octets", 2)]) (N := ["self", "start", "octets"]) (sc := defScope s_Files___init__) (by decide +kernel)) (fun _ _ _ _ _ => (pg_name (i := 2) sc_Files___init__.nd rfl (by first | exact Or.inl rfl | exact Or.inr rfl))) (fun _ _ _ _ _ => pts_nil) (fun _ _ _ _ _ => (pe_lst pa_nil))) rfl)))), ?_⟩
    obtain ⟨x, dx, v, os, rfl, hx, hv, hz, k⟩ := h
    have L : Loc H [none, some (.tuple (os.map octD)), none] (L2.start ["self", "start", "octets"] [V.ref x, v]) := ⟨_, _, rfl, _, _, rfl, hv, _, _, rfl, trivial⟩
    refine p_seq (s_fldV (d := .tuple (os.map octD)) (vv_at rfl) hx T.c_Files T.a_Files_start (by decide) (ev_v L rfl) fun v1 H1 e1 _ => ?_)
    have hx1 := e1 _ _ hx
    generalize hU1 : upd H1 x (.ins (cFiles c) dx (putF "start" v1 [])) = U1
    have k1 : Tk H1 U1 := hU1 ▸ tk_upd hx1
    have x1 : U1 x = some (.ins (cFiles c) dx [("start", v1)]) := by rw [← hU1]; exact upd_same
    have f1 : Fr H [x] U1 [x] := hU1 ▸ Fr.of e1 (Fr.upd (by simp) hx1)
    have L1 := (L.to e1).tk k1
    dsimp only
    refine p_seq (p_sfld (p_el (el_ls (ev_v (n := 1) L1 rfl)) fun p xs H2 hp e2 h2 hx2 => p_vv (vv_at (v := .ref x) rfl) fun H3 e3 => ?_))
    have x3 := e3 _ _ (e2 _ _ x1)
    refine ⟨x, _, dx, _, rfl, x3, T.c_Files, T.a_Files_synced, by show 1 < 1000; decide, ?_⟩
    have hpx : p ≠ x := (ne_of_none x1 hp).symm
    have h3 := e3 _ _ h2
    have hx3 := hx2.to e3
    generalize hU2 : upd H3 x (.ins (cFiles c) dx (putF "synced" (.ref p) [("start", v1)])) = U2
    have k2 : Tk H3 U2 := hU2 ▸ tk_upd x3
    have x2 : U2 x = some (.ins (cFiles c) dx [("start", v1), ("synced", .ref p)]) := by rw [← hU2]; exact upd_same
    have p2 : U2 p = some (.lst xs) := by rw [← hU2]; exact (upd_ne hpx).trans h3
    have f2 : Fr U1 [x] U2 [x] := hU2 ▸ Fr.of (e2.trans e3) (Fr.upd (by simp) x3)
    have L2' := (((L1.to e2).to e3).tk k2)
    dsimp only
    refine p_sfld (el_news (ev_v (n := 1) L2' rfl) (by rw [List.length_map]; omega) (fun _ => rfl) fun q H5 H4 e4 hl => p_vv (vv_at (v := .ref x) rfl) fun H6 e6 => ?_)
    obtain ⟨w0, w1, ds, w2, w3, w4, w5⟩ := hl
    have s6 := (e4.trans w1).trans e6
    refine ⟨x, _, dx, _, rfl, s6 _ _ x2, T.c_Files, T.a_Files_deeds, by show 2 < 1000; decide, ?_⟩
    have xq : x ≠ q := ne_of_none (e4 _ _ x2) w0
    have pq : p ≠ q := ne_of_none (e4 _ _ p2) w0
    have dxx : ∀ d ∈ ds, x ≠ d := fun d m => ne_of_none (e4 _ _ x2) (w5 d m).1
    have dpp : ∀ d ∈ ds, p ≠ d := fun d m => ne_of_none (e4 _ _ p2) (w5 d m).1
    have k3 : Tk H6 (upd H6 x (.ins (cFiles c) dx (putF "deeds" (.ref q) [("start", v1), ("synced", .ref p)]))) := tk_upd (s6 _ _ x2)
    refine k _ (x :: p :: q :: ds) ⟨dx, v1, p, q, ds, xs, rfl, ?_, upd_same, (upd_ne hpx).trans (s6 _ _ p2), ?_, (upd_ne xq.symm).trans (e6 _ _ w2), ?_⟩ ?_
    · refine List.nodup_cons.mpr ⟨fun m => ?_, List.nodup_cons.mpr ⟨fun m => ?_, w4⟩⟩
      · rcases List.mem_cons.mp m with e | m
        · exact hpx e.symm
        rcases List.mem_cons.mp m with e | m
        · exact xq e
        · exact dxx x m rfl
      · rcases List.mem_cons.mp m with e | m
        · exact pq e
        · exact dpp p m rfl
    · rw [List.map_map]
      exact Dts.tk (k2.trans ((tk_same s6).trans k3)) _ hx3
    · refine deAt_new (by rw [w3, List.length_map]) fun d m => (upd_ne (dxx d m).symm).trans (e6 _ _ (w5 d m).2)
    · have f3 : Fr U2 [x] (upd H6 x (.ins (cFiles c) dx (putF "deeds" (.ref q) [("start", v1), ("synced", .ref p)]))) [x] := Fr.of s6 (Fr.upd (by simp) (s6 _ _ x2))
      have fa := (f1.trans f2).trans f3
      refine ⟨fa.keep, fun a m => ?_, fa.dom, fa.tk⟩
      rcases List.mem_cons.mp m with e | m
      · exact .inl (by simp [e])
      rcases List.mem_cons.mp m with e | m
      · exact .inr (f1.dom _ (e ▸ hp))
      rcases List.mem_cons.mp m with e | m
      · exact .inr (f1.dom _ (f2.dom _ (Same.free e4 (e ▸ w0))))
      · exact .inr (f1.dom _ (f2.dom _ (Same.free e4 (w5 a m).1)))
end Sp
set_option Elab.async false
set_option linter.all false
set_option maxRecDepth 100000
set_option maxHeartbeats 4000000
namespace Sp
open PySem PySem.Spec PyProof.Rows L2
/-! ### a journal -/
structure JM where
  F : List FM
  stamp : Nat
  w : Wr
  drawn : Option (Nat × Nat)
def drawnD : Option (Nat × Nat) → PyData
  | none => .none
  | some (p, s) => .tuple [.int (p : Nat), .int (s : Nat)]
def JFields (v0 : V) (st : Nat) (ve vw : V) (fl : Addr) (vd : V) : List (Str × V) := [("start", v0), ("stamp", .int (st : Nat)), ("entries", ve), ("word", vw), ("files", .ref fl), ("drawn", vd)]
def JAt (c : Cn) (H : Hp) (M : List Addr) (j : Addr) (J : JM) : Prop :=
  ∃ (dx : Addr) (v0 ve vw vd : V) (fl : Addr) (Mf : List Addr), M = j :: Mf ∧ j ∉ Mf ∧ H j = some (.ins (cJournal c) dx (JFields v0 J.stamp ve vw fl vd)) ∧ Dt H (wrD J.w) ve ∧ DN H ve ∧ Dt H (drawnD J.drawn) vd ∧ FilesAt c H Mf fl J.F
section
variable {c : Cn} {H H' : Hp} {M M' : List Addr} {j : Addr} {J : JM} {l : L2.St} {ta tb : TE}
theorem DN.keep {v : V} (h : DN H v) (k : ∀ a u, H a = some u → (∃ o xs, u = .frz o (.tup xs)) → H' a = some u) : DN H' v := by
  obtain ⟨a, o, xs, e1, e2, e3⟩ := h
  exact ⟨a, o, xs, e1, k a _ e2 ⟨o, xs, rfl⟩, e3⟩
theorem JAt.has (h : JAt c H M j J) : ∀ a ∈ M, ∃ o, H a = some o ∧ (∀ z, o ≠ z ∨ True) := by
  obtain ⟨dx, v0, ve, vw, vd, fl, Mf, rfl, hj, h1, h2, h3, h4, h5⟩ := h
  intro a m
  rcases List.mem_cons.mp m with rfl | m
  · exact ⟨_, h1, fun _ => .inr trivial⟩
  · obtain ⟨o, ho⟩ := h5.has a m
    exact ⟨o, ho, fun _ => .inr trivial⟩
/-- what lies apart changes -/
theorem JAt.out {N N' : List Addr} (h : JAt c H M j J) (g : Fr H N H' N') (hd : ∀ a ∈ M, a ∉ N) (hn : ∀ a u, H a = some u → (∃ o xs, u = .frz o (.tup xs)) → a ∉ N) : JAt c H' M j J := by
  obtain ⟨dx, v0, ve, vw, vd, fl, Mf, rfl, hj, h1, h2, h3, h4, h5⟩ := h
  exact ⟨dx, v0, ve, vw, vd, fl, Mf, rfl, hj, g.keep _ _ h1 (hd _ (by simp)), Dt.tk g.tk _ h2, h3.keep fun a u ha hu => g.keep a u ha (hn a u ha hu), Dt.tk g.tk _ h4, h5.fr g fun a m => hd a (by simp [m])⟩
theorem JAt.to (h : JAt c H M j J) (e : Same H H') : JAt c H' M j J := by
  obtain ⟨dx, v0, ve, vw, vd, fl, Mf, rfl, hj, h1, h2, h3, h4, h5⟩ := h
  exact ⟨dx, v0, ve, vw, vd, fl, Mf, rfl, hj, e _ _ h1, h2.to e, h3.to e, h4.to e, h5.to e⟩
theorem JAt.stp (h : JAt c H M j J) (T : Tx c) (ha : EvV ta l H (.ref j)) : Ev (tFld c.K ta "stamp") l H (.int (J.stamp : Nat)) := by
  obtain ⟨dx, v0, ve, vw, vd, fl, Mf, rfl, hj, h1, h2, h3, h4, h5⟩ := h
  exact ev_ofV (vv_fld ha h1 T.c_Journal T.a_Journal_stamp rfl) rfl
theorem JAt.ent (h : JAt c H M j J) (T : Tx c) (ha : EvV ta l H (.ref j)) : Ev (tFld c.K ta "entries") l H (wrD J.w) := by
  obtain ⟨dx, v0, ve, vw, vd, fl, Mf, rfl, hj, h1, h2, h3, h4, h5⟩ := h
  exact ev_ofV (vv_fld ha h1 T.c_Journal T.a_Journal_entries rfl) h2
theorem JAt.drw (h : JAt c H M j J) (T : Tx c) (ha : EvV ta l H (.ref j)) : Ev (tFld c.K ta "drawn") l H (drawnD J.drawn) := by
  obtain ⟨dx, v0, ve, vw, vd, fl, Mf, rfl, hj, h1, h2, h3, h4, h5⟩ := h
  exact ev_ofV (vv_fld ha h1 T.c_Journal T.a_Journal_drawn rfl) h4
/-- self.files -/
theorem JAt.fil (h : JAt c H M j J) (T : Tx c) : ∃ fl Mf, FilesAt c H Mf fl J.F ∧ ∀ {l : L2.St} {ta : TE}, EvV ta l H (.ref j) → EvV (tFld c.K ta "files") l H (.ref fl) := by
  obtain ⟨dx, v0, ve, vw, vd, fl, Mf, rfl, hj, h1, h2, h3, h4, h5⟩ := h
  exact ⟨fl, Mf, h5, fun ha => vv_fld ha h1 T.c_Journal T.a_Journal_files rfl⟩
/-- a method of self.files that changes one file -/
theorem JAt.call {n : Nat} {R : Hp → FM → List V → FM → Prop} {m : Str} {ds : List PyData} {i : Nat} {f f' : FM} {t : TA} {Q : VK} (h : JAt c H M j J) (T : Tx c) (h3 : F3 J.F) (hf : J.F[i]? = some f) (ha : EvV ta l H (.ref j)) (ht : EvA t l H (.int (i : Nat) :: ds)) (hn : ds.length = n) (hr : ∀ H1 vs, Same H H1 → Dts H1 ds vs → R H1 f vs f')
    (k : ∀ H' M', JAt c H' M' j { J with F := J.F.set i f' } → Fr H M H' M' → Q .non H') (hm : m ≠ "start" ∧ m ≠ "synced" ∧ m ≠ "deeds" := by decide +kernel) : tMeth (cFiles c) m (spUpd c n R) [] E0 (tFld c.K ta "files") t l H Q := by
  obtain ⟨dx, v0, ve, vw, vd, fl, Mf, rfl, hj, h1, h2, h3', h4, h5⟩ := h
  refine h5.meth (vv_fld ha h1 T.c_Journal T.a_Journal_files rfl) ht (fun vs H1 e1 hvs => ?_) hm
  obtain ⟨v, ws, rfl, hv, hws⟩ := hvs
  obtain rfl : v = .int (i : Nat) := hv
  have hb := h3.bnd f (List.mem_of_getElem? hf)
  refine ⟨fl, Mf, J.F, i, f, f', ws, rfl, by rw [hws.len, hn], h5.to e1, hf, hb.1, hb.2, hr H1 ws e1 hws, fun H' M' hF g => ?_⟩
  have g' := Fr.of e1 g
  refine k H' (j :: M') ⟨dx, v0, ve, vw, vd, fl, M', rfl, g'.apart h1 hj, g'.out h1 hj, Dt.tk g'.tk _ h2, h3'.keep fun a u hu hz => g'.keep a u hu fun m => ?_, Dt.tk g'.tk _ h4, hF⟩ ⟨fun a o ho n => g'.keep a o ho fun m => n (by simp [m]), fun a m => ?_, g'.dom, g'.tk⟩
  · obtain ⟨o, xs, rfl⟩ := hz
    exact h5.nofrz a m hu
  · rcases List.mem_cons.mp m with e | m
    · exact .inl (by simp [e])
    · exact (g'.sub a m).imp (fun m => by simp [m]) id
/-- a field of the journal is set -/
theorem JAt.setf {J' : JM} {dx : Addr} {v0 ve vw vd ve' vw' vd' : V} {fl : Addr} {Mf : List Addr} (hM : M = j :: Mf) (hj : j ∉ Mf) (h1 : H j = some (.ins (cJournal c) dx (JFields v0 J.stamp ve vw fl vd))) (h5 : FilesAt c H Mf fl J.F) (hF : J'.F = J.F)
    (g2 : Dt H (wrD J'.w) ve') (g3 : DN H ve') (g4 : Dt H (drawnD J'.drawn) vd') : JAt c (upd H j (.ins (cJournal c) dx (JFields v0 J'.stamp ve' vw' fl vd'))) M j J' ∧ Fr H M (upd H j (.ins (cJournal c) dx (JFields v0 J'.stamp ve' vw' fl vd'))) M := by
  have k : Tk H (upd H j (.ins (cJournal c) dx (JFields v0 J'.stamp ve' vw' fl vd'))) := tk_upd h1
  refine ⟨⟨dx, v0, ve', vw', vd', fl, Mf, hM, hj, upd_same, Dt.tk k _ g2, g3.keep fun a u hu hz => ?_, Dt.tk k _ g4, ?_⟩, Fr.upd (by rw [hM]; simp) h1⟩
  · rw [upd_ne]
    · exact hu
    · rintro rfl
      obtain ⟨o, xs, rfl⟩ := hz
      rw [h1] at hu
      cases hu
  · rw [hF]
    exact h5.out (fun a m o ho => (upd_ne (by rintro rfl; exact hj m)).trans ho) k
end
end Sp
set_option Elab.async false
set_option linter.all false
set_option maxRecDepth 100000
set_option maxHeartbeats 4000000
namespace Sp
open PySem PySem.Spec PyProof.Rows L2
namespace JM
def f (J : JM) (i : Nat) : FM := J.F.getD i default
def setF (J : JM) (i : Nat) (g : FM) : JM := { J with F := J.F.set i g }
end JM
theorem F3.ex {F : List FM} (h : F3 F) : ∃ f0 f1 f2, F = [f0, f1, f2] := by
  have := h.len
  match F, this with
  | [f0, f1, f2], _ => exact ⟨f0, f1, f2, rfl⟩
theorem F3.at {F : List FM} (h : F3 F) {i : Nat} (hi : i < 3) : F[i]? = some (F.getD i default) := by
  obtain ⟨f, hf, _⟩ := h.get hi
  rw [List.getD_eq_getElem?_getD, hf]
  rfl
def spJ (c : Cn) {α : Type} (args : α → List PyData) (pre : α → JM → Prop) (post : α → JM → JM → Prop) (res : α → JM → PyData) : Sp := fun vs H Q _ => ∃ (a : α) (j : Addr) (M : List Addr) (J : JM) (ws : List V), vs = V.ref j :: ws ∧ Dts H (args a) ws ∧ JAt c H M j J ∧ pre a J ∧
  ∀ v H' M' J', post a J J' → Dt H' (res a J) v → JAt c H' M' j J' → Fr H M H' M' → Q v H'
theorem ln_J {c : Cn} {α : Type} {args : α → List PyData} {pre : α → JM → Prop} {post res} {ps : List Str} (h : ∀ a, ps.length = (args a).length + 1) : Ln ps (spJ c args pre post res) := fun vs H Q E hh => by
  obtain ⟨a, _, _, _, ws, e, e2, _⟩ := hh
  rw [e, h a, ← e2.len]
  rfl
def spJL (c : Cn) {α : Type} (args : α → List PyData) (pre : α → JM → Prop) (res : α → JM → PyData) : Sp := fun vs H Q _ => ∃ (a : α) (j : Addr) (M : List Addr) (J : JM) (ws : List V), vs = V.ref j :: ws ∧ Dts H (args a) ws ∧ JAt c H M j J ∧ pre a J ∧
  ∀ v H', Same H H' → Dt H' (res a J) v → Q v H'
theorem ln_JL {c : Cn} {α : Type} {args : α → List PyData} {pre : α → JM → Prop} {res} {ps : List Str} (h : ∀ a, ps.length = (args a).length + 1) : Ln ps (spJL c args pre res) := fun vs H Q E hh => by
  obtain ⟨a, _, _, _, ws, e, e2, _⟩ := hh
  rw [e, h a, ← e2.len]
  rfl
section
variable {c : Cn} {H H' : Hp} {M M' : List Addr} {j : Addr} {J : JM} {l : L2.St} {ta tb : TE}
theorem JAt.look {R : List FM → List PyData → PyData → Prop} {m : Str} {t : TA} {ds : List PyData} {d : PyData} {E : XK} (h : JAt c H M j J) (T : Tx c) (ha : EvV ta l H (.ref j)) (ht : EvA t l H ds) (hr : R J.F ds d) (hm : m ≠ "start" ∧ m ≠ "synced" ∧ m ≠ "deeds" := by decide +kernel) : Ev (tMeth (cFiles c) m (spLook c R) [] E (tFld c.K ta "files") t) l H d := by
  obtain ⟨fl, Mf, hF, hv⟩ := h.fil T
  exact ev_look hF (hv ha) ht hr hm
theorem JAt.syn (h : JAt c H M j J) (T : Tx c) (h3 : F3 J.F) : ∃ sy vs, H sy = some (.lst vs) ∧ Dts H (J.F.map fun f => octD f.sy) vs ∧ ∀ {l : L2.St} {ta : TE}, EvV ta l H (.ref j) → EvV (tFld c.K (tFld c.K ta "files") "synced") l H (.ref sy) := by
  obtain ⟨fl, Mf, hF, hv⟩ := h.fil T
  obtain ⟨sy, de, vs, ds, g1, g2, g3, g4, g5, g6, g7, _⟩ := hF.parts T (h3.at (i := 0) (by decide))
  exact ⟨sy, vs, g1, g7, fun ha => g5 (hv ha)⟩
/-- a method of the journal: its own names are no fields -/
theorem JAt.meth {m : Str} {sp : Sp} {E : XK} {t : TA} {ds : List PyData} {Q : VK} (h : JAt c H M j J) (ha : EvV ta l H (.ref j)) (ht : EvA t l H ds) (k : ∀ vs H1, Same H H1 → Dts H1 ds vs → sp (.ref j :: vs) H1 Q E) (hm : m ≠ "start" ∧ m ≠ "stamp" ∧ m ≠ "entries" ∧ m ≠ "word" ∧ m ≠ "files" ∧ m ≠ "drawn" := by decide +kernel) : tMeth (cJournal c) m sp [] E ta t l H Q := by
  obtain ⟨dx, v0, ve, vw, vd, fl, Mf, rfl, hj, h1, h2, h3, h4, h5⟩ := h
  refine p_meth ha h1 ?_ ht k
  unfold JFields
  simp only [List.lookup_cons, beq_false_of_ne hm.1, beq_false_of_ne hm.2.1, beq_false_of_ne hm.2.2.1, beq_false_of_ne hm.2.2.2.1, beq_false_of_ne hm.2.2.2.2.1, beq_false_of_ne hm.2.2.2.2.2]
  rfl
end
/-! ### looks -/
theorem sc_Journal_choices : FnScope ["self"] ["self"] (defScope s_Journal_choices) := ⟨rfl, rfl, rfl, by decide +kernel, rfl, by decide +kernel, by decide +kernel⟩
theorem d_Journal_choices {c : Cn} (T : Tx c) : Md c (cJournal c) "choices" 3 ["self"] (spJL c (fun (_ : Unit) => []) (fun _ J => F3 J.F) (fun _ J => manyD J.F) ) :=
  T.md 80 132 rfl rfl sc_Journal_choices (fun _ _ _ _ _ _ us hl => match us, hl with | [_], _ => rfl) (ln_JL fun _ => rfl) fun f cdv A outer s H vs Q E hr h => by
    refine ⟨_, (pss_one (ps_ret (pe_md0 (d_Files_choices T) T.c_Files (hr.mono (by decide)) (pe_fld (pv 0) rfl)))), ?_⟩
    obtain ⟨_, j, M, J, ws, rfl, hws, hJ, h3, k⟩ := h
    obtain rfl : ws = [] := hws
    exact s_ret (hJ.look T (vv_at rfl) ea_nil ⟨rfl, h3, rfl⟩) fun v H1 e hd => k v H1 e hd
theorem sc_Journal_disk : FnScope ["self"] ["self"] (defScope s_Journal_disk) := ⟨rfl, rfl, rfl, by decide +kernel, rfl, by decide +kernel, by decide +kernel⟩
theorem d_Journal_disk {c : Cn} (T : Tx c) : Md c (cJournal c) "disk" 4 ["self"] (spJL c (fun (_ : Unit) => []) (fun _ J => F3 J.F) (fun _ J => .tuple (J.F.map fun f => octD f.cur)) ) :=
  T.md 82 134 rfl rfl sc_Journal_disk (fun _ _ _ _ _ _ us hl => match us, hl with | [_], _ => rfl) (ln_JL fun _ => rfl) fun f cdv A outer s H vs Q E hr h => by
    refine ⟨_, (pss_one (ps_ret (pe_md0 (d_Files_disk T) T.c_Files (hr.mono (by decide)) (pe_fld (pv 0) rfl)))), ?_⟩
    obtain ⟨_, j, M, J, ws, rfl, hws, hJ, h3, k⟩ := h
    obtain rfl : ws = [] := hws
    exact s_ret (hJ.look T (vv_at rfl) ea_nil ⟨rfl, h3, rfl⟩) fun v H1 e hd => k v H1 e hd
theorem sc_Journal_cut : FnScope ["self", "numbers"] ["self", "numbers"] (defScope s_Journal_cut) := ⟨rfl, rfl, rfl, by decide +kernel, rfl, by decide +kernel, by decide +kernel⟩
theorem d_Journal_cut {c : Cn} (T : Tx c) : Md c (cJournal c) "cut" 4 ["self", "numbers"] (spJL c (fun (ks : List Nat) => [natsD ks]) (fun ks J => F3 J.F ∧ NumOk J.F ks) (fun ks J => .tuple ((cutF J.F ks).map octD)) ) :=
  T.md 81 133 rfl rfl sc_Journal_cut (fun _ _ _ _ _ _ us hl => match us, hl with | [_, _], _ => rfl) (ln_JL fun _ => rfl) fun f cdv A outer s H vs Q E hr h => by
    refine ⟨_, (pss_one (ps_ret (pe_md (d_Files_cut T) T.c_Files (hr.mono (by decide)) (pe_fld (pv 0) rfl) (pa_cons (pv 1) pa_nil)))), ?_⟩
    obtain ⟨ks, j, M, J, ws, rfl, hws, hJ, ⟨h3, hn⟩, k⟩ := h
    obtain ⟨v1, _, rfl, hv1, rfl⟩ := hws
    exact s_ret (hJ.look T (vv_at rfl) (ea_1 (ev_at (v := v1) rfl hv1)) ⟨ks, rfl, h3, hn, rfl⟩) fun v H1 e hd => k v H1 e hd
/-- the disk that is synced -/
def syncedIs (J : JM) (d : Dk') : Prop := J.F.map (fun f => octD f.sy) = [octD d.o0, octD d.o1, octD d.log]
structure DkR (d : Dk') : Prop where
  q : DkQ d
  ks : ∃ KS : List Str, KS.length < 64 ∧ ∀ p ∈ d.base.2.2 ++ d.later.flatten, p.1 ∈ KS
theorem sc_Journal_sure : FnScope ["self"] ["self"] (defScope s_Journal_sure) := ⟨rfl, rfl, rfl, by decide +kernel, rfl, by decide +kernel, by decide +kernel⟩
theorem d_Journal_sure {c : Cn} (T : Tx c) : Md c (cJournal c) "sure" 11 ["self"] (spJL c (fun (_ : Dk') => []) (fun d J => F3 J.F ∧ syncedIs J d ∧ DkR d) (fun d _ => .int (d.stamp : Nat)) ) :=
  T.md 79 131 rfl rfl sc_Journal_sure (fun _ _ _ _ _ _ us hl => match us, hl with | [_], _ => rfl) (ln_JL fun _ => rfl) fun f cdv A outer s H vs Q E hr h => by
    refine ⟨_, (pss_one (ps_ret (pe_ix ix_tup (pe_d (d_recover T) (hr.mono (by decide)) (pa_cons (pe_callTy call_tuple_of (by rfl) T.n_tuple (by decide +kernel) (pa_cons (pe_fld (pe_fld (pv 0) rfl) rfl) pa_nil)) pa_nil)) pe_int (fun _ _ => rfl)))), ?_⟩
    obtain ⟨d, j, M, J, ws, rfl, hws, hJ, ⟨h3, hs, ⟨hq, KS, h64, hK⟩⟩, k⟩ := h
    obtain rfl : ws = [] := hws
    obtain ⟨sy, vs, g1, g2, g3⟩ := hJ.syn T h3
    rw [hs] at g2
    refine p_ret (p_op (p_call (p_cons (p_ev (d := d.dat) (ev_tuLs (g3 (vv_at rfl)) g1 g2) fun v1 H1 e1 hv1 => p_nil ?_))))
    refine ⟨d, KS, Dts.one hv1, hq, h64, hK, fun a v w H2 e2 hm ha hw hn => ?_⟩
    refine p_ev (ev_int (i := 0)) fun v3 H3 e3 hv3 => ?_
    obtain rfl : v3 = .int 0 := hv3
    exact ⟨a, _, 0, .int (d.stamp : Nat), rfl, rfl, .inl (rd_to e3 ha), rfl, k _ H3 ((e1.trans e2).trans e3) rfl⟩
/-! ### changes -/
/-- room for deeds more -/
structure F3s (F : List FM) : Prop where
  len : F.length = 3
  bnd : ∀ f ∈ F, f.bnd ≤ 900000 ∧ f.de.length < 90000
theorem F3s.three {F : List FM} (h : F3s F) : F3 F := ⟨h.len, fun f hf => ⟨by have := (h.bnd f hf).1; omega, by have := (h.bnd f hf).2; omega⟩⟩
theorem F3.set {F : List FM} (h : F3 F) {i : Nat} {g : FM} (hg : g.bnd ≤ 1000000 ∧ g.de.length < 100000) : F3 (F.set i g) := ⟨by rw [List.length_set]; exact h.len, fun f hf => (List.mem_or_eq_of_mem_set hf).elim (h.bnd f) fun e => e ▸ hg⟩
theorem FM.push_bd (f : FM) (w : Deed) : (f.push w).bnd = f.bnd + FM.addLen w ∧ (f.push w).de.length = f.de.length + 1 := by
  refine ⟨?_, ?_⟩
  · show f.sy.length + ((f.de ++ [w]).map FM.addLen).sum = f.sy.length + (f.de.map FM.addLen).sum + FM.addLen w
    rw [List.map_append, List.sum_append, List.map_cons, List.map_nil, List.sum_cons, List.sum_nil]
    omega
  · show (f.de ++ [w]).length = _
    rw [List.length_append]
    rfl
theorem FM.kp_bd (f : FM) (n : Nat) : (f.kp n).bnd = f.bnd ∧ (f.kp n).de.length ≤ f.de.length + 1 := by
  unfold FM.kp
  split
  · have := f.push_bd (.keep n)
    have e : FM.addLen (.keep n) = 0 := rfl
    omega
  · omega
theorem FM.add_bd (f : FM) (o : Oct) : (f.add o).bnd ≤ f.bnd + o.length ∧ (f.add o).de.length ≤ f.de.length + 1 := by
  unfold FM.add
  split
  · have := f.push_bd (.add o)
    have e : FM.addLen (.add o) = o.length := rfl
    omega
  · omega
theorem FM.sync_bd (f : FM) : f.sync.bnd ≤ f.bnd ∧ f.sync.de.length = 0 := by
  have := fold_len f.de f.sy
  unfold FM.sync FM.bnd
  refine ⟨?_, rfl⟩
  show f.cur.length + 0 ≤ _
  exact this
theorem sc_Journal_sync : FnScope ["self"] ["self"] (defScope s_Journal_sync) := ⟨rfl, rfl, rfl, by decide +kernel, rfl, by decide +kernel, by decide +kernel⟩
theorem d_Journal_sync {c : Cn} (T : Tx c) : Md c (cJournal c) "sync" 4 ["self"] (spJ c (fun (_ : Unit) => []) (fun _ J => F3 J.F) (fun _ J J' => J' = J.setF 2 (J.f 2).sync) (fun _ _ => .none) ) :=
  T.md 75 127 rfl rfl sc_Journal_sync (fun _ _ _ _ _ _ us hl => match us, hl with | [_], _ => rfl) (ln_J fun _ => rfl) fun f cdv A outer s H vs Q E hr h => by
    refine ⟨_, (pss_one (ps_expr (pe_md (d_Files_sync T) T.c_Files (hr.mono (by decide)) (pe_fld (pv 0) rfl) (pa_cons (pe_k T.k_LOG) pa_nil)))), ?_⟩
    obtain ⟨_, j, M, J, ws, rfl, hws, hJ, h3, k⟩ := h
    obtain rfl : ws = [] := hws
    exact p_drop (hJ.call T h3 (h3.at (i := 2) (by decide)) (vv_at rfl) (ea_1 (ev_int (i := 2))) rfl (fun _ _ _ _ => rfl) fun H' M' hJ' g => k .non H' M' _ rfl rfl hJ' g)
/-- where the next image goes -/
def drawAt (im0 im1 : Option (Nat × Wr)) : Nat := if (baseOf im0 im1).1 = some 0 then 1 else 0
structure DrawQ (a : Option (Nat × Wr) × Option (Nat × Wr)) (J : JM) : Prop where
  f3 : F3s J.F
  i0 : ImgQ ((J.f 0).sy, a.1)
  i1 : ImgQ ((J.f 1).sy, a.2)
  st : J.stamp < 1000000
  w : WrOk J.w
def JM.draw (J : JM) (p : Nat) : JM := { J.setF p (((J.f p).kp 0).add (rec_ J.stamp J.w)) with drawn := some (p, J.stamp) }
theorem rec_len {s : Nat} {w : Wr} (hs : s < 1000000) (h : WrOk w) : (rec_ s w).length ≤ 208 := by
  unfold rec_
  rw [frame_len]
  have := body_len hs h
  omega
theorem sc_Journal_draw : FnScope ["self", "octets", "place"] ["self"] (defScope s_Journal_draw) := ⟨rfl, rfl, rfl, by decide +kernel, rfl, by decide +kernel, by decide +kernel⟩
theorem d_Journal_draw {c : Cn} (T : Tx c) : Md c (cJournal c) "draw" 9 ["self"] (spJ c (fun (_ : Option (Nat × Wr) × Option (Nat × Wr)) => []) DrawQ (fun a J J' => J' = J.draw (drawAt a.1 a.2)) (fun _ _ => .none) ) :=
  T.md 76 128 rfl rfl sc_Journal_draw (fun _ _ _ _ _ _ us hl => match us, hl with | [_], _ => rfl) (ln_J fun _ => rfl) fun f cdv A outer s H vs Q E hr h => by
    refine ⟨_, (pss_cons (ps_set (i := 1) sc_Journal_draw.nd rfl (by first | exact Or.inl rfl | exact Or.inr rfl) (pe_d (d_put_image T) (hr.mono (by decide)) (pa_cons (pe_fld (pv 0) rfl) (pa_cons (pe_fld (pv 0) rfl) pa_nil))))
    (pss_cons (ps_set (i := 2) sc_Journal_draw.nd rfl (by first | exact Or.inl rfl | exact Or.inr rfl) (pe_ifExp (pt_cmpR op_eq (pe_ix ix_tup (pe_d (d_base_of T) (hr.mono (by decide)) (pa_cons (pe_callTy call_tuple_of (by rfl) T.n_tuple (by decide +kernel) (pa_cons (pe_fld (pe_fld (pv 0) rfl) rfl) pa_nil)) pa_nil)) pe_int (fun _ _ => rfl)) pe_int (nomark _)) pe_int pe_int))
    (pss_cons (ps_expr (pe_md (d_Files_keep T) T.c_Files (hr.mono (by decide)) (pe_fld (pv 0) rfl) (pa_cons (pv 2) (pa_cons pe_int pa_nil))))
    (pss_cons (ps_expr (pe_md (d_Files_add T) T.c_Files (hr.mono (by decide)) (pe_fld (pv 0) rfl) (pa_cons (pv 2) (pa_cons (pv 1) pa_nil))))
    (pss_one (ps_fld (pv 0) (pe_tup (pa_cons (pv 2) (pa_cons (pe_fld (pv 0) rfl) pa_nil))) rfl)))))), ?_⟩
    obtain ⟨⟨im0, im1⟩, j, M, J, ws, rfl, hws, hJ, hq, k⟩ := h
    obtain rfl : ws = [] := hws
    have h3 := hq.f3.three
    have L : Loc H [none, none, none] (L2.start ["self", "octets", "place"] [V.ref j]) := ⟨_, _, rfl, _, _, rfl, _, _, rfl, trivial⟩
    refine q_asg (d := octD (rec_ J.stamp J.w)) (ev_F (J.stamp, J.w) (ea_2 (hJ.stp T (vv_at rfl)) (hJ.ent T (vv_at rfl))) ⟨hq.st, hq.w⟩) L fun v1 H1 e1 hv1 L1 => ?_
    obtain ⟨sy, vs, g1, g2, g3⟩ := (hJ.to e1).syn T h3
    have hF : J.F.map (fun f => octD f.sy) = [octD (J.f 0).sy, octD (J.f 1).sy, octD (J.f 2).sy] := by
      obtain ⟨f0, f1, f2, e⟩ := h3.ex
      unfold JM.f
      rw [e]
      rfl
    rw [hF] at g2
    have hpl : drawAt im0 im1 < 2 := by unfold drawAt; split <;> omega
    refine q_asg (d := .int (drawAt im0 im1 : Nat)) (ev_if (b := decide ((baseOf im0 im1).1 = some 0)) (et_of ((ev_eq (d1 := optD (baseOf im0 im1).1) (ev_ix (i := 0) (ds := [optD (baseOf im0 im1).1, .int ((baseOf im0 im1).2.1 : Nat), wrD (baseOf im0 im1).2.2]) (ev_F (((J.f 0).sy, (J.f 1).sy, (J.f 2).sy), im0, im1) (ea_1 (ev_tuLs (g3 (vv_at rfl)) g1 g2)) ⟨hq.i0, hq.i1⟩) ev_int rfl) (ev_int (i := 0)) ?_ rfl ?_ ?_).is rfl)) (fun hb => (ev_int (i := 1)).is ?_) (fun hb => (ev_int (i := 0)).is ?_)) L1 fun v2 H2 e2 hv2 L2 => ?_
    · cases (baseOf im0 im1).1 <;> rfl
    · cases (baseOf im0 im1).1 <;> rfl
    · cases e : (baseOf im0 im1).1 with
      | none => rfl
      | some n =>
        show decide (V.int (n : Nat) = V.int 0) = decide (some n = some 0)
        refine decide_eq_decide.mpr ⟨fun h => ?_, fun h => ?_⟩
        · have := V.int.inj h
          congr 1
          omega
        · rw [Option.some.inj h]
          rfl
    · unfold drawAt
      rw [if_pos (of_decide_eq_true hb)]
      rfl
    · unfold drawAt
      rw [if_neg (of_decide_eq_false hb)]
      rfl
    have hp3 : drawAt im0 im1 < 3 := by omega
    have e12 := e1.trans e2
    have hf := h3.at hp3
    have hbd := (hq.f3.bnd _ (List.mem_of_getElem? hf))
    refine p_qdrop ((hJ.to e12).call T h3 hf (vv_at rfl) (ea_2 (ev_v L2 rfl) (ev_int (i := 0))) rfl (fun H1 vs _ hvs => ⟨0, ?_, rfl⟩) fun H3 M3 hJ3 g3' => ?_)
    · obtain ⟨v, _, rfl, hv, rfl⟩ := hvs
      rw [show v = .int 0 from hv]
      rfl
    have hk := FM.kp_bd (J.F.getD (drawAt im0 im1) default) 0
    have h33 : F3 (J.F.set (drawAt im0 im1) ((J.F.getD (drawAt im0 im1) default).kp 0)) := h3.set ⟨by omega, by omega⟩
    have hf3 : (J.F.set (drawAt im0 im1) ((J.F.getD (drawAt im0 im1) default).kp 0))[drawAt im0 im1]? = some ((J.F.getD (drawAt im0 im1) default).kp 0) := List.getElem?_set_self (by rw [hq.f3.len]; exact hp3)
    have L3 := (L2.tk g3'.tk)
    refine p_qdrop (hJ3.call (n := 1) (f' := ((J.f (drawAt im0 im1)).kp 0).add (rec_ J.stamp J.w)) T h33 hf3 (vv_at rfl) (ea_2 (ev_v L3 rfl) (ev_v (d := octD (rec_ J.stamp J.w)) L3 rfl)) rfl (fun H1 vs _ hvs => ?_) fun H4 M4 hJ4 g4' => ?_)
    · obtain ⟨v, _, rfl, hv, rfl⟩ := hvs
      exact ⟨_, v, rfl, hv, rfl⟩
    have L4 := L3.tk g4'.tk
    obtain ⟨dx, v0, ve, vw, vd, fl, Mf, rfl, hj, h1, h2, h3', h4, h5⟩ := hJ4
    refine p_sfld (p_ev (d := drawnD (some (drawAt im0 im1, J.stamp))) (ev_tup (ea_2 (ev_v L4 rfl) (ev_ofV (vv_fld (vv_at rfl) h1 T.c_Journal T.a_Journal_stamp rfl) rfl)) len2) fun v5 H5 e5 hv5 => p_vv (vv_at (v := .ref j) rfl) fun H6 e6 => ?_)
    have e56 := e5.trans e6
    refine ⟨j, _, dx, _, rfl, e56 _ _ h1, T.c_Journal, T.a_Journal_drawn, by show 6 < 1000; decide, ?_⟩
    have hset := JAt.setf (c := c) (H := H6) (M := j :: Mf) (J := { J with F := (J.F.set (drawAt im0 im1) ((J.F.getD (drawAt im0 im1) default).kp 0)).set (drawAt im0 im1) (((J.f (drawAt im0 im1)).kp 0).add (rec_ J.stamp J.w)) }) (J' := J.draw (drawAt im0 im1)) (ve' := ve) (vw' := vw) (vd' := v5) rfl hj (e56 _ _ h1) (h5.to e56) (by
      unfold JM.draw JM.setF
      dsimp only
      rw [List.set_set]) (h2.to e56) (h3'.to e56) (hv5.to e6)
    exact k .non _ _ _ rfl rfl hset.1 ((((Fr.of e12 g3').trans g4').to e56).trans hset.2)
end Sp
set_option Elab.async false
set_option linter.all false
set_option maxRecDepth 100000
set_option maxHeartbeats 4000000
namespace Sp
open PySem PySem.Spec PyProof.Rows L2
def JM.settle (J : JM) : JM := match J.drawn with
  | none => J
  | some (p, s) => { (if s = J.stamp then (J.setF p (J.f p).sync).setF 2 (((J.setF p (J.f p).sync).f 2).kp 0) else J.setF p (J.f p).sync) with drawn := none }
structure SetQ (J : JM) : Prop where
  f3 : F3s J.F
  pl : ∀ p s, J.drawn = some (p, s) → p < 2
/-- the end: self.drawn = None -/
theorem JAt.none {c : Cn} {H : Hp} {M : List Addr} {j : Addr} {J : JM} {l : L2.St} {D : Ends} {ta : TE} (h : JAt c H M j J) (T : Tx c) (ha : EvV ta l H (.ref j)) (k : ∀ H', JAt c H' M j { J with drawn := none } → Fr H M H' M → D.nx l H') : sFld c.K ta (tC .non) "drawn" D l H := by
  obtain ⟨dx, v0, ve, vw, vd, fl, Mf, rfl, hj, h1, h2, h3', h4, h5⟩ := h
  refine p_sfld (p_ev (d := drawnD Option.none) ev_non fun v5 H5 e5 hv5 => p_vv (ha.to e5) fun H6 e6 => ?_)
  have e56 := e5.trans e6
  refine ⟨j, _, dx, _, rfl, e56 _ _ h1, T.c_Journal, T.a_Journal_drawn, by show 6 < 1000; decide, ?_⟩
  have hset := JAt.setf (c := c) (H := H6) (M := j :: Mf) (J := J) (J' := { J with drawn := Option.none }) (ve' := ve) (vw' := vw) (vd' := v5) rfl hj (e56 _ _ h1) (h5.to e56) rfl (h2.to e56) (h3'.to e56) (hv5.to e6)
  exact k _ hset.1 ((Fr.same e56).trans hset.2)
theorem sc_Journal_settle : FnScope ["self", "place", "stamp"] ["self"] (defScope s_Journal_settle) := ⟨rfl, rfl, rfl, by decide +kernel, rfl, by decide +kernel, by decide +kernel⟩
theorem d_Journal_settle {c : Cn} (T : Tx c) : Md c (cJournal c) "settle" 4 ["self"] (spJ c (fun (_ : Unit) => []) (fun _ J => SetQ J) (fun _ J J' => J' = J.settle) (fun _ _ => .none) ) :=
  T.md 77 129 rfl rfl sc_Journal_settle (fun _ _ _ _ _ _ us hl => match us, hl with | [_], _ => rfl) (ln_J fun _ => rfl) fun f cdv A outer s H vs Q E hr h => by
    refine ⟨_, (pss_one (ps_if (pt_cmpR op_notN (pe_fld (pv 0) rfl) pe_non (nomark _)) (pss_cons (ps_asg (pe_fld (pv 0) rfl) (pg_tup (by rfl) (pgs_cons (pg_name (i := 1) sc_Journal_settle.nd rfl (by first | exact Or.inl rfl | exact Or.inr rfl)) (pgs_cons (pg_name (i := 2) sc_Journal_settle.nd rfl (by first | exact Or.inl rfl | exact Or.inr rfl)) pgs_nil))))
    (pss_cons (ps_expr (pe_md (d_Files_sync T) T.c_Files (hr.mono (by decide)) (pe_fld (pv 0) rfl) (pa_cons (pv 1) pa_nil)))
    (pss_cons (ps_if (pt_cmpR op_eq (pv 2) (pe_fld (pv 0) rfl) (nomark _)) (pss_one (ps_expr (pe_md (d_Files_keep T) T.c_Files (hr.mono (by decide)) (pe_fld (pv 0) rfl) (pa_cons (pe_k T.k_LOG) (pa_cons pe_int pa_nil))))) pss_nil)
    (pss_one (ps_fld (pv 0) pe_non rfl))))) pss_nil)), ?_⟩
    obtain ⟨_, j, M, J, ws, rfl, hws, hJ, hq, k⟩ := h
    obtain rfl : ws = [] := hws
    have h3 := hq.f3.three
    have L : Loc H [none, none, none] (L2.start ["self", "place", "stamp"] [V.ref j]) := ⟨_, _, rfl, _, _, rfl, _, _, rfl, trivial⟩
    obtain ⟨F, st, w, dr⟩ := J
    cases dr with
    | none =>
      refine s_if (b := false) (et_of ((ev_notN rfl (hJ.drw T (vv_at rfl))).is rfl)) (fun z => nomatch z) (fun _ H1 e1 => ?_)
      exact k .non H1 M _ rfl rfl (hJ.to e1) (Fr.same e1)
    | some ps =>
      obtain ⟨p, s0⟩ := ps
      have hp : p < 3 := by have := hq.pl p s0 rfl; omega
      refine s_if (b := true) (et_of ((ev_notN rfl (hJ.drw T (vv_at rfl))).is rfl)) (fun _ H1 e1 => ?_) (fun z => nomatch z)
      refine q_un2 (d1 := .int (p : Nat)) (d2 := .int (s0 : Nat)) ((hJ.to e1).drw T (vv_at rfl)) (L.to e1) fun v1 v2 H2 e2 _ _ L2 => ?_
      refine p_qdrop (((hJ.to e1).to e2).call T h3 (h3.at hp) (vv_at rfl) (ea_1 (ev_v L2 rfl)) rfl (fun _ _ _ _ => rfl) fun H3 M3 hJ3 g3 => ?_)
      have L3 := L2.tk g3.tk
      have hs := FM.sync_bd (F.getD p default)
      have hb := hq.f3.bnd _ (List.mem_of_getElem? (h3.at hp))
      have h33 : F3 (F.set p (F.getD p default).sync) := h3.set ⟨by dsimp only at hb; omega, by omega⟩
      have e12 := Fr.of (e1.trans e2) g3
      by_cases he : s0 = st
      · refine q_yes (et_of ((ev_eqI (ev_v L3 rfl) (hJ3.stp T (vv_at rfl))).is (by rw [decide_eq_true (show ((s0 : Nat) : Int) = ((st : Nat) : Int) by omega)]))) fun H4 e4 => ?_
        refine p_drop ((hJ3.to e4).call T h33 (h33.at (i := 2) (by decide)) (vv_at rfl) (ea_2 (ev_int (i := 2)) (ev_int (i := 0))) rfl (fun H1 vs _ hvs => ⟨0, ?_, rfl⟩) fun H5 M5 hJ5 g5 => ?_)
        · obtain ⟨v, _, rfl, hv, rfl⟩ := hvs
          rw [show v = .int 0 from hv]
          rfl
        · refine hJ5.none T (vv_at rfl) fun H6 hJ6 g6 => ?_
          refine k .non H6 _ _ ?_ rfl hJ6 ((e12.trans (Fr.of e4 g5)).trans g6)
          unfold JM.settle
          dsimp only
          rw [if_pos he]
          rfl
      · refine q_no (et_of ((ev_eqI (ev_v L3 rfl) (hJ3.stp T (vv_at rfl))).is (by rw [decide_eq_false (show ¬ ((s0 : Nat) : Int) = ((st : Nat) : Int) by omega)]))) fun H4 e4 => ?_
        refine (hJ3.to e4).none T (vv_at rfl) fun H6 hJ6 g6 => ?_
        refine k .non H6 _ _ ?_ rfl hJ6 ((e12.to e4).trans g6)
        unfold JM.settle
        dsimp only
        rw [if_neg he]
        rfl
structure ImageQ (a : Option (Nat × Wr) × Option (Nat × Wr)) (J : JM) : Prop where
  d : DrawQ a J
  s : F3s (J.draw (drawAt a.1 a.2)).F
theorem sc_Journal_image : FnScope ["self"] ["self"] (defScope s_Journal_image) := ⟨rfl, rfl, rfl, by decide +kernel, rfl, by decide +kernel, by decide +kernel⟩
theorem d_Journal_image {c : Cn} (T : Tx c) : Md c (cJournal c) "image" 10 ["self"] (spJ c (fun (_ : Option (Nat × Wr) × Option (Nat × Wr)) => []) ImageQ (fun a J J' => J' = (J.draw (drawAt a.1 a.2)).settle) (fun _ _ => .none) ) :=
  T.md 78 130 rfl rfl sc_Journal_image (fun _ _ _ _ _ _ us hl => match us, hl with | [_], _ => rfl) (ln_J fun _ => rfl) fun f cdv A outer s H vs Q E hr h => by
    refine ⟨_, (pss_cons (ps_expr (pe_md0 (d_Journal_draw T) T.c_Journal (hr.mono (by decide)) (pv 0)))
    (pss_one (ps_expr (pe_md0 (d_Journal_settle T) T.c_Journal (hr.mono (by decide)) (pv 0))))), ?_⟩
    obtain ⟨a, j, M, J, ws, rfl, hws, hJ, hq, k⟩ := h
    obtain rfl : ws = [] := hws
    refine p_qdrop (hJ.meth (vv_at rfl) ea_nil fun vs H1 e1 hvs => ?_)
    obtain rfl : vs = [] := hvs
    refine ⟨a, j, M, J, [], rfl, rfl, hJ.to e1, hq.d, fun v H2 M2 J2 h2 _ hJ2 g2 => ?_⟩
    subst h2
    refine p_drop (hJ2.meth (vv_at rfl) ea_nil fun vs H3 e3 hvs => ?_)
    obtain rfl : vs = [] := hvs
    have hpl : drawAt a.1 a.2 < 2 := by unfold drawAt; split <;> omega
    refine ⟨(), j, M2, _, [], rfl, rfl, hJ2.to e3, ⟨hq.s, fun p s h => ?_⟩, fun v H4 M4 J4 h4 _ hJ4 g4 => ?_⟩
    · have := congrArg Prod.fst (Option.some.inj h)
      dsimp only at this
      omega
    · exact k .non H4 M4 J4 h4 rfl hJ4 (((Fr.of e1 g2).to e3).trans g4)
structure WrQ (a : Wr × List Str) (J : JM) : Prop where
  f3 : F3s J.F
  st : J.stamp + 1 < 1000000
  w : WrOk a.1
  len : J.w.length ≤ 3
  ks : a.2.length < 64
  key : ∀ p ∈ J.w ++ a.1, p.1 ∈ a.2
def JM.wrote (J : JM) (w w' : Wr) : JM := { J.setF 2 ((J.f 2).add (rec_ (J.stamp + 1) w)) with stamp := J.stamp + 1, w := w' }
theorem p_rAdd {i j : Int} {H : Hp} {Q : VK} (k : Q (.int (i + j)) H) : rAdd (.int i) (.int j) H Q := ⟨i, j, rfl, rfl, k⟩
theorem sc_Journal_write : FnScope ["self", "pairs", "record"] ["self", "pairs"] (defScope s_Journal_write) := ⟨rfl, rfl, rfl, by decide +kernel, rfl, by decide +kernel, by decide +kernel⟩
theorem dk2_Journal_write {c : Cn} (T : Tx c) : Md c (cJournal c) "write" 6 ["self", "pairs"] (spJ c (fun (a : Wr × List Str) => [wrD a.1]) WrQ (fun a J J' => ∃ w', IsMap (sem Mp0 (J.w ++ a.1)) w' ∧ J' = J.wrote a.1 w') (fun _ J => .int ((J.stamp + 1 : Nat) : Int)) ) ∧ Mkw c (cJournal c) "write" "pairs" 6 ["self", "pairs"] (spJ c (fun (a : Wr × List Str) => [wrD a.1]) WrQ (fun a J J' => ∃ w', IsMap (sem Mp0 (J.w ++ a.1)) w' ∧ J' = J.wrote a.1 w') (fun _ J => .int ((J.stamp + 1 : Nat) : Int)) ) :=
  T.mdk (kw := "pairs") 74 126 rfl rfl sc_Journal_write (fun _ _ _ _ _ _ us hl => match us, hl with | [_, _], _ => rfl) (fun _ _ _ _ _ _ _ _ => rfl) (ln_J fun _ => rfl) fun f cdv A outer s H vs Q E hr h => by
    refine ⟨_, (pss_cons (ps_set (i := 2) sc_Journal_write.nd rfl (by first | exact Or.inl rfl | exact Or.inr rfl) (pe_d (d_put_record T) (hr.mono (by decide)) (pa_cons (pe_op op_add (pe_fld (pv 0) rfl) pe_int) (pa_cons (pv 1) pa_nil))))
    (pss_cons (ps_expr (pe_md (d_Files_add T) T.c_Files (hr.mono (by decide)) (pe_fld (pv 0) rfl) (pa_cons (pe_k T.k_LOG) (pa_cons (pv 2) pa_nil))))
    (pss_cons (ps_fldaug (pv 0) pe_int in_add)
    (pss_cons (ps_fld (pv 0) (pe_d (d_map_of T) (hr.mono (by decide)) (pa_cons (pe_op op_catA (pe_fld (pv 0) rfl) (pe_callTy call_tuple_of (by rfl) T.n_tuple (by decide +kernel) (pa_cons (pv 1) pa_nil))) pa_nil)) rfl)
    (pss_one (ps_ret (pe_fld (pv 0) rfl))))))), ?_⟩
    obtain ⟨⟨w, KS⟩, j, M, J, ws, rfl, hws, hJ, hq, k⟩ := h
    obtain ⟨v1, _, rfl, hv1, rfl⟩ := hws
    have h3 := hq.f3.three
    have hw : WrOk w := hq.w
    have hst := hq.st
    have L : Loc H [none, some (wrD w), none] (L2.start ["self", "pairs", "record"] [V.ref j, v1]) := ⟨_, _, rfl, _, _, rfl, hv1, _, _, rfl, trivial⟩
    refine q_asg (d := octD (rec_ (J.stamp + 1) w)) (ev_F (J.stamp + 1, w) (ea_2 ((ev_I0 (hJ.stp T (vv_at rfl)) (ev_int (i := 1))).is rfl) (ev_v L rfl)) ⟨hst, hw⟩) L fun v2 H1 e1 _ L1 => ?_
    refine p_qdrop ((hJ.to e1).call (f' := (J.f 2).add (rec_ (J.stamp + 1) w)) T h3 (h3.at (i := 2) (by decide)) (vv_at rfl) (ea_2 (ev_int (i := 2)) (ev_v (d := octD (rec_ (J.stamp + 1) w)) L1 rfl)) rfl (fun H1 vs _ hvs => ?_) fun H3 M3 hJ3 g3 => ?_)
    · obtain ⟨v, _, rfl, hv, rfl⟩ := hvs
      exact ⟨_, v, rfl, hv, rfl⟩
    have L3 := L1.tk g3.tk
    obtain ⟨dx, v0, ve, vw, vd, fl, Mf, rfl, hj, h1, h2, h3', h4, h5⟩ := hJ3
    -- the stamp
    refine p_seq (p_vv (vv_at (v := .ref j) rfl) fun H4 e4 => ⟨j, _, dx, _, _, rfl, e4 _ _ h1, T.c_Journal, T.a_Journal_stamp, rfl, p_ev (ev_int (i := 1)) fun v5 H5 e5 hv5 => ?_⟩)
    obtain rfl : v5 = .int 1 := hv5
    have e45 := e4.trans e5
    refine p_rAdd ⟨dx, _, e45 _ _ h1, by show 6 < 1000; decide, ?_⟩
    have hset := JAt.setf (c := c) (H := H5) (M := j :: Mf) (J := { J with F := J.F.set 2 ((J.F.getD 2 default).add (rec_ (J.stamp + 1) w)) }) (J' := { J with F := J.F.set 2 ((J.F.getD 2 default).add (rec_ (J.stamp + 1) w)), stamp := J.stamp + 1 }) (ve' := ve) (vw' := vw) (vd' := vd) rfl hj (e45 _ _ h1) (h5.to e45) rfl (h2.to e45) (h3'.to e45) (h4.to e45)
    obtain ⟨hJ6, g6⟩ := hset
    have L6 := (L3.to e45).tk g6.tk
    have eU : upd H5 j (.ins (cJournal c) dx (putF "stamp" (V.int ((J.stamp : Nat) + 1)) (JFields v0 J.stamp ve vw fl vd))) = upd H5 j (.ins (cJournal c) dx (JFields v0 (J.stamp + 1) ve vw fl vd)) := rfl
    dsimp only
    rw [eU]
    generalize upd H5 j (.ins (cJournal c) dx (JFields v0 (J.stamp + 1) ve vw fl vd)) = H6 at hJ6 g6 L6 ⊢
    have hlen : w.length ≤ 3 := hw.len
    have hJl := hq.len
    -- the entries
    refine p_seq (p_sfld (p_call (p_cons (p_ev (d := wrD (J.w ++ w)) ((ev_cat (ds := J.w.map pairD) (es := w.map pairD) (hJ6.ent T (vv_at rfl)) (ev_tuT (ev_v L6 rfl)) (by rw [List.length_map, List.length_map]; omega)).is (by unfold wrD; rw [List.map_append])) fun v7 H7 e7 hv7 => p_nil ?_))))
    obtain ⟨a7, xs7, rfl, ha7, hx7⟩ := hv7
    refine ⟨false, J.w ++ w, KS, a7, xs7, rfl, ha7, hx7, hq.ks, hq.key, fun v8 H8 w' e8 hm hd8 hn8 => p_vv (vv_at (v := .ref j) rfl) fun H9 e9 => ?_⟩
    have e79 := (e7.trans e8).trans e9
    obtain ⟨dx, v0, ve, vw, vd, fl, Mf', hMf, hj', h1, h2, h3', h4, h5⟩ := hJ6
    refine ⟨j, _, dx, _, rfl, e79 _ _ h1, T.c_Journal, T.a_Journal_entries, by show 6 < 1000; decide, ?_⟩
    have hset := JAt.setf (c := c) (H := H9) (M := j :: Mf) (J := { J with F := J.F.set 2 ((J.F.getD 2 default).add (rec_ (J.stamp + 1) w)), stamp := J.stamp + 1 }) (J' := J.wrote w w') (ve' := v8) (vw' := vw) (vd' := vd) hMf hj' (e79 _ _ h1) (h5.to e79) rfl (hd8.to e9) (hn8.to e9) (h4.to e79)
    obtain ⟨hJ10, g10⟩ := hset
    have eU : upd H9 j (.ins (cJournal c) dx (putF "entries" v8 (JFields v0 (J.stamp + 1) ve vw fl vd))) = upd H9 j (.ins (cJournal c) dx (JFields v0 (J.stamp + 1) v8 vw fl vd)) := rfl
    dsimp only
    rw [eU]
    exact s_ret (hJ10.stp T (vv_at rfl)) fun v H11 e11 hd => k v H11 _ _ ⟨w', hm, rfl⟩ hd (hJ10.to e11) ((((((Fr.of e1 g3).to e45).trans g6).to e79).trans g10).to e11)
theorem d_Journal_write {c : Cn} (T : Tx c) : Md c (cJournal c) "write" 6 ["self", "pairs"] (spJ c (fun (a : Wr × List Str) => [wrD a.1]) WrQ (fun a J J' => ∃ w', IsMap (sem Mp0 (J.w ++ a.1)) w' ∧ J' = J.wrote a.1 w') (fun _ J => .int ((J.stamp + 1 : Nat) : Int))) := (dk2_Journal_write T).1
theorem dk_Journal_write {c : Cn} (T : Tx c) : Mkw c (cJournal c) "write" "pairs" 6 ["self", "pairs"] (spJ c (fun (a : Wr × List Str) => [wrD a.1]) WrQ (fun a J J' => ∃ w', IsMap (sem Mp0 (J.w ++ a.1)) w' ∧ J' = J.wrote a.1 w') (fun _ J => .int ((J.stamp + 1 : Nat) : Int))) := (dk2_Journal_write T).2
end Sp
set_option Elab.async false
set_option linter.all false
set_option maxRecDepth 100000
set_option maxHeartbeats 4000000
namespace Sp
open PySem PySem.Spec PyProof.Rows L2
def opened (d : Dk') (w : Wr) : JM := ⟨[⟨d.o0, []⟩, ⟨d.o1, []⟩, (⟨d.log, []⟩ : FM).kp d.fin], d.stamp, w, none⟩
structure OpenQ (d : Dk') : Prop where
  r : DkR d
  l0 : d.o0.length ≤ 900000
  l1 : d.o1.length ≤ 900000
  l2 : d.log.length ≤ 900000
def spJin (c : Cn) : Sp := fun vs H Q _ => ∃ (x dx : Addr) (v : V) (d : Dk'), vs = [V.ref x, v] ∧ H x = some (.ins (cJournal c) dx []) ∧ Dt H d.dat v ∧ OpenQ d ∧ ∀ H' M w, IsMap d.map w → JAt c H' M x (opened d w) → Fr H [x] H' M → Q .non H'
theorem et_in2 {K : PySem.W.Frag} {l : L2.St} {H : Hp} {ta : TE} {x a b : Str} {r : Bool} (ha : EvV ta l H (.str x)) (hr : inV (.str x) [.str a, .str b] = r) : Ev (tOp (rIn K false) ta (tTup (tCons (tC (.str a)) (tCons (tC (.str b)) tNil)))) l H (.bool r) := fun H1 e Q q =>
  ha H1 e _ fun H2 e2 => ⟨show 2 ≤ sizeLine by decide, fun z hz => ⟨z, [.str a, .str b], rfl, .inr (.inl (.inl upd_same)), rfl, rfl, by
    have : Q (.bl (inV (.str x) [.str a, .str b])) (upd H2 z (.tup [.str a, .str b])) := by
      rw [hr]
      exact q _ _ (e2.trans (same_new hz)) rfl
    exact this⟩⟩
theorem fin_len (d : Dk') : d.fin ≤ d.log.length := by
  unfold Dk'.fin Dk'.log
  rw [List.length_append]
  split <;> omega
theorem sc_Journal___init__ : FnScope ["self", "start"] ["self", "start"] (defScope s_Journal___init__) := ⟨rfl, rfl, rfl, by decide +kernel, rfl, by decide +kernel, by decide +kernel⟩
theorem m_Journal {c : Cn} (T : Tx c) : Mc c "Journal" (cJournal c) 11 ["self", "start"] (spJin c ) :=
  T.mc 73 118 69 rfl rfl rfl sc_Journal___init__ (fun _ _ _ _ _ _ us hl => match us, hl with | [_, _], _ => rfl) (fun vs H Q E h => by obtain ⟨_, _, _, _, e, _⟩ := h; rw [e] <;> rfl) fun f cdv A outer s H vs Q E hr h => by
    refine ⟨_, (pss_cons (ps_fld (pv 0) (pv 1) rfl)
    (pss_cons (ps_asg (pe_d (d_recover T) (hr.mono (by decide)) (pa_cons (pv 1) pa_nil)) (pg_tup (by rfl) (pgs_cons (pg_fld (pv 0)) (pgs_cons (pg_fld (pv 0)) (pgs_cons (pg_fld (pv 0)) pgs_nil)))))
    (pss_cons (ps_fld (pv 0) (pe_mkd (m_Files T) (hr.mono (by decide)) (pa_cons (pv 1) pa_nil)) rfl)
    (pss_cons (ps_expr (pe_md (d_Files_keep T) T.c_Files (hr.mono (by decide)) (pe_fld (pv 0) rfl) (pa_cons (pe_k T.k_LOG) (pa_cons (pe_callB call_len_seq (by rfl) T.n_len (by decide +kernel) (pa_cons (pe_ix ix_tup (pe_d (d_mend T) (hr.mono (by decide)) (pa_cons (pv 1) pa_nil)) (pe_k T.k_LOG) (fun _ _ => rfl)) pa_nil)) pa_nil))))
    (pss_cons (ps_if (pt_cmpR op_in_seq (pe_fld (pv 0) rfl) (pe_tup (pa_cons pe_str (pa_cons pe_str pa_nil))) (by rfl)) (pss_one (ps_expr (pe_md (d_Files_sync T) T.c_Files (hr.mono (by decide)) (pe_fld (pv 0) rfl) (pa_cons (pe_k T.k_LOG) pa_nil)))) pss_nil)
    (pss_one (ps_fld (pv 0) pe_non rfl))))))), ?_⟩
    obtain ⟨x, dx, v, d, rfl, hx, hv, hq, k⟩ := h
    have L : Loc H [none, some d.dat] (L2.start ["self", "start"] [V.ref x, v]) := ⟨_, _, rfl, _, _, rfl, hv, trivial⟩
    obtain ⟨hDk, KS, h64, hK⟩ := hq.r
    refine p_seq (s_fldV (d := d.dat) (vv_at rfl) hx T.c_Journal T.a_Journal_start (by decide) (ev_v L rfl) fun v1 H1 e1 _ => ?_)
    have hx1 := e1 _ _ hx
    generalize hU1 : upd H1 x (.ins (cJournal c) dx (putF "start" v1 [])) = U1
    have k1 : Tk H1 U1 := hU1 ▸ tk_upd hx1
    have x1 : U1 x = some (.ins (cJournal c) dx [("start", v1)]) := by rw [← hU1]; exact upd_same
    have f1 : Fr H [x] U1 [x] := hU1 ▸ Fr.of e1 (Fr.upd (by simp) hx1)
    have L1 := (L.to e1).tk k1
    dsimp only
    -- what is recovered
    refine p_qasg (p_call (p_ea (ea_1 (ev_v (d := d.dat) (n := 1) L1 rfl)) fun vs2 H2 e2 hv2 => ?_))
    refine ⟨d, KS, by rw [List.append_nil]; exact hv2, hDk, h64, hK, fun a ve w H3 e3 hm ha hwd hwn => ?_⟩
    have e23 := e2.trans e3
    have x3 := e23 _ _ x1
    refine ⟨a, _, rfl, .inl ha, rfl, _, _, rfl, p_vv (vv_at (v := .ref x) rfl) fun H4 e4 => ⟨x, _, dx, _, rfl, e4 _ _ x3, T.c_Journal, T.a_Journal_stamp, by show 1 < 1000; decide, _, _, rfl, ?_⟩⟩
    have x4 := e4 _ _ x3
    generalize hU4 : upd H4 x (.ins (cJournal c) dx (putF "stamp" (V.int (d.stamp : Nat)) [("start", v1)])) = U4
    have k4 : Tk H4 U4 := hU4 ▸ tk_upd x4
    have x4' : U4 x = some (.ins (cJournal c) dx [("start", v1), ("stamp", .int (d.stamp : Nat))]) := by rw [← hU4]; exact upd_same
    have f4 : Fr U1 [x] U4 [x] := hU4 ▸ Fr.of (e23.trans e4) (Fr.upd (by simp) x4)
    have n4 : DN U4 ve := hU4 ▸ (hwn.to e4).keep fun a u hu hz => by
      rw [upd_ne]
      · exact hu
      · rintro rfl
        obtain ⟨o, xs, rfl⟩ := hz
        rw [x4] at hu
        cases hu
    refine p_vv (vv_at (v := .ref x) rfl) fun H5 e5 => ⟨x, _, dx, _, rfl, e5 _ _ x4', T.c_Journal, T.a_Journal_entries, by show 2 < 1000; decide, _, _, rfl, ?_⟩
    have x5 := e5 _ _ x4'
    generalize hU5 : upd H5 x (.ins (cJournal c) dx (putF "entries" ve [("start", v1), ("stamp", .int (d.stamp : Nat))])) = U5
    have k5 : Tk H5 U5 := hU5 ▸ tk_upd x5
    have x5' : U5 x = some (.ins (cJournal c) dx [("start", v1), ("stamp", .int (d.stamp : Nat)), ("entries", ve)]) := by rw [← hU5]; exact upd_same
    have f5 : Fr U4 [x] U5 [x] := hU5 ▸ Fr.of e5 (Fr.upd (by simp) x5)
    have n5 : DN U5 ve := hU5 ▸ (n4.to e5).keep fun a u hu hz => by
      rw [upd_ne]
      · exact hu
      · rintro rfl
        obtain ⟨o, xs, rfl⟩ := hz
        rw [x5] at hu
        cases hu
    refine p_vv (vv_at (v := .ref x) rfl) fun H6 e6 => ⟨x, _, dx, _, rfl, e6 _ _ x5', T.c_Journal, T.a_Journal_word, by show 3 < 1000; decide, rfl, ?_⟩
    have x6 := e6 _ _ x5'
    generalize hU6 : upd H6 x (.ins (cJournal c) dx (putF "word" (V.str (if d.t = 0 then "whole" else "cut")) [("start", v1), ("stamp", .int (d.stamp : Nat)), ("entries", ve)])) = U6
    have k6 : Tk H6 U6 := hU6 ▸ tk_upd x6
    have x6' : U6 x = some (.ins (cJournal c) dx [("start", v1), ("stamp", .int (d.stamp : Nat)), ("entries", ve), ("word", V.str (if d.t = 0 then "whole" else "cut"))]) := by rw [← hU6]; exact upd_same
    have f6 : Fr U5 [x] U6 [x] := hU6 ▸ Fr.of e6 (Fr.upd (by simp) x6)
    have n6 : DN U6 ve := hU6 ▸ (n5.to e6).keep fun a u hu hz => by
      rw [upd_ne]
      · exact hu
      · rintro rfl
        obtain ⟨o, xs, rfl⟩ := hz
        rw [x6] at hu
        cases hu
    have kall : Tk H3 U6 := ((((tk_same e4).trans k4).trans ((tk_same e5).trans k5)).trans ((tk_same e6).trans k6))
    have hw6 := Dt.tk kall _ hwd
    have L6 := (L1.to e23).tk kall
    have f16 := ((f1.trans f4).trans f5).trans f6
    -- the files
    refine p_seq (p_sfld (p_ea (ea_1 (ev_v (d := d.dat) (n := 1) L6 rfl)) fun vs7 H7 e7 hv7 => ?_))
    obtain ⟨v7, _, rfl, hv7, rfl⟩ := hv7
    intro fl dx2 hfl hdx2 hne
    have s7 : Same H7 (upd (upd H7 dx2 (.own fl)) fl (.ins (cFiles c) dx2 [])) := (same_new hdx2).trans (same_new (by rw [upd_ne hne.symm]; exact hfl))
    refine ⟨fl, dx2, v7, [d.o0, d.o1, d.log], rfl, upd_same, hv7.to s7, by show 3 ≤ 1000; decide, fun H8 Mf hF g8 => ⟨rfl, p_vv (vv_at (v := .ref x) rfl) fun H9 e9 => ?_⟩⟩
    have x7 := s7 _ _ (e7 _ _ x6')
    have xfl : x ≠ fl := ne_of_none (e7 _ _ x6') hfl
    have xMf : x ∉ Mf := g8.apart x7 (by simp [xfl])
    have x8 : H8 x = some (.ins (cJournal c) dx [("start", v1), ("stamp", .int (d.stamp : Nat)), ("entries", ve), ("word", V.str (if d.t = 0 then "whole" else "cut"))]) := g8.out x7 (by simp [xfl])
    have n8 : DN H8 ve := ((n6.to e7).to s7).keep fun a u hu hz => g8.keep a u hu (by
      rintro m
      obtain rfl := List.mem_singleton.mp m
      obtain ⟨o, xs, rfl⟩ := hz
      rw [upd_same] at hu
      cases hu)
    have x9 := e9 _ _ x8
    have k78 : Tk H7 H8 := (tk_same s7).trans g8.tk
    refine ⟨x, _, dx, _, rfl, x9, T.c_Journal, T.a_Journal_files, by show 4 < 1000; decide, ?_⟩
    generalize hU9 : upd H9 x (.ins (cJournal c) dx (putF "files" (V.ref fl) [("start", v1), ("stamp", .int (d.stamp : Nat)), ("entries", ve), ("word", V.str (if d.t = 0 then "whole" else "cut"))])) = U9
    have k9 : Tk H9 U9 := hU9 ▸ tk_upd x9
    have x9' : U9 x = some (.ins (cJournal c) dx [("start", v1), ("stamp", .int (d.stamp : Nat)), ("entries", ve), ("word", V.str (if d.t = 0 then "whole" else "cut")), ("files", V.ref fl)]) := by rw [← hU9]; exact upd_same
    have n9 : DN U9 ve := hU9 ▸ (n8.to e9).keep fun a u hu hz => by
      rw [upd_ne]
      · exact hu
      · rintro rfl
        obtain ⟨o, xs, rfl⟩ := hz
        rw [x9] at hu
        cases hu
    have hF9 : FilesAt c U9 Mf fl [⟨d.o0, []⟩, ⟨d.o1, []⟩, ⟨d.log, []⟩] := hU9 ▸ (hF.to e9).out (fun a m o ho => (upd_ne (by rintro rfl; exact xMf m)).trans ho) (hU9 ▸ k9)
    have hw9 := Dt.tk k9 _ ((Dt.tk k78 _ (hw6.to e7)).to e9)
    have L9 := (((L6.to e7).tk k78).to e9).tk k9
    -- all that is apart from x stays
    have fx : Fr H [x] U9 (x :: Mf) := by
      refine ⟨fun a o ho n => ?_, fun a m => ?_, fun a ha => ?_, ((((f16.tk.trans (tk_same e7)).trans k78).trans (tk_same e9)).trans k9)⟩
      · have h6 := f16.keep a o ho n
        have h7 := s7 _ _ (e7 _ _ h6)
        have nfl : a ≠ fl := ne_of_none (e7 _ _ h6) hfl
        rw [← hU9, upd_ne (by rintro rfl; exact n (by simp))]
        exact e9 _ _ (g8.keep a o h7 (by simp [nfl]))
      · rcases List.mem_cons.mp m with e | m
        · exact .inl (by simp [e])
        · refine .inr (f16.dom _ (Same.free e7 ?_))
          rcases g8.sub a m with q | q
          · rw [List.mem_singleton.mp q]; exact hfl
          · exact Same.free s7 q
      · refine f16.dom _ (Same.free e7 (Same.free s7 (g8.dom _ (Same.free e9 ?_))))
        by_cases q : a = x
        · subst q; rw [x9'] at ha; cases ha
        · rw [← hU9, upd_ne q] at ha; exact ha
    dsimp only
    -- the log is cut
    have hf2 : ([⟨d.o0, []⟩, ⟨d.o1, []⟩, ⟨d.log, []⟩] : List FM)[2]? = some ⟨d.log, []⟩ := rfl
    have hmend : ∀ {H' : Hp} {l' : List (Option V)} {x0 : Option PyData}, Loc H' [x0, some d.dat] l' → Ev (tCB (rLenQ c.K) (tCons (tOp (rIxT c.K) (tCall (spF (fun (d : Dk') => [d.dat]) DkQ (fun d => dsk (d.o0, d.o1, if d.later = [] then [] else recs (d.lo + 1) d.ws))) [] E0 (tCons (tVar 1) tNil)) (tC (.int 2))) tNil)) l' H' (.int (d.fin : Nat)) := fun L' => (ev_len (ds := (if d.later = [] then [] else recs (d.lo + 1) d.ws).map .int) (ev_ix (i := 2) (ds := [octD d.o0, octD d.o1, octD (if d.later = [] then [] else recs (d.lo + 1) d.ws)]) (ev_F d (ea_1 (ev_v L' rfl)) hDk) ev_int rfl)).is (by
      rw [List.length_map]
      unfold Dk'.fin
      split <;> rfl)
    refine p_qdrop (hF9.meth (vv_fld (vv_at rfl) x9' T.c_Journal T.a_Journal_files rfl) (ea_2 (ev_int (i := 2)) (hmend L9)) fun vs10 H10 e10 hv10 => ?_)
    obtain ⟨w1, _, rfl, hw1, w2, _, rfl, hw2, rfl⟩ := hv10
    obtain rfl : w1 = .int 2 := hw1
    obtain rfl : w2 = .int (d.fin : Nat) := hw2
    refine ⟨fl, Mf, _, 2, ⟨d.log, []⟩, (⟨d.log, []⟩ : FM).kp d.fin, [.int (d.fin : Nat)], rfl, rfl, hF9.to e10, hf2, by show d.log.length + 0 ≤ _; have := hq.l2; omega, by show 0 < _; decide, ⟨d.fin, rfl, rfl⟩, fun H11 M11 hF11 g11 => ?_⟩
    have g := Fr.of e10 g11
    have x11 : H11 x = _ := g.out x9' xMf
    have n11 : DN H11 ve := n9.keep fun a u hu hz => g.keep a u hu fun m => by
      obtain ⟨o, xs, rfl⟩ := hz
      exact hF9.nofrz a m hu
    have hw11 := Dt.tk g.tk _ hw9
    have fx11 : Fr H [x] H11 (x :: M11) := by
      have g' : Fr U9 (x :: Mf) H11 (x :: M11) := ⟨fun a o ho n => g.keep a o ho fun m => n (by simp [m]), fun a m => by
        rcases List.mem_cons.mp m with e | m
        · exact .inl (by simp [e])
        · exact (g.sub a m).imp (fun m => by simp [m]) id, g.dom, g.tk⟩
      exact fx.trans g'
    have xM11 : x ∉ M11 := g.apart x9' xMf
    -- the word is neither
    have hin : EvT (tTest (tOp (rIn c.K false) (tFld c.K (tVar 0) "word") (tTup (tCons (tC (.str "broken")) (tCons (tC (.str "gap")) tNil))))) (L2.start ["self", "start"] [V.ref x, v]) H11 false := et_of (et_in2 (x := if d.t = 0 then "whole" else "cut") (vv_fld (vv_at rfl) x11 T.c_Journal T.a_Journal_word rfl) (by split <;> decide +kernel))
    refine q_skip hin fun H12 e12 => ?_
    refine p_sfld (p_ev (d := drawnD none) ev_non fun v13 H13 e13 hv13 => p_vv (vv_at (v := .ref x) rfl) fun H14 e14 => ?_)
    have e1214 := (e12.trans e13).trans e14
    have x14 := e1214 _ _ x11
    refine ⟨x, _, dx, _, rfl, x14, T.c_Journal, T.a_Journal_drawn, by show 5 < 1000; decide, ?_⟩
    have kz : Tk H14 (upd H14 x (.ins (cJournal c) dx (JFields v1 d.stamp ve (V.str (if d.t = 0 then "whole" else "cut")) fl v13))) := tk_upd x14
    refine k _ (x :: M11) w hm ⟨dx, v1, ve, V.str (if d.t = 0 then "whole" else "cut"), v13, fl, M11, rfl, xM11, upd_same, Dt.tk kz _ (hw11.to e1214), (n11.to e1214).keep fun a u hu hz => ?_, Dt.tk kz _ (hv13.to e14), ?_⟩ ((fx11.to e1214).trans (Fr.upd (by simp) x14))
    · rw [upd_ne]
      · exact hu
      · rintro rfl
        obtain ⟨o, xs, rfl⟩ := hz
        rw [x14] at hu
        cases hu
    · exact (hF11.to e1214).out (fun a m o ho => (upd_ne (by rintro rfl; exact xM11 m)).trans ho) kz
end Sp
set_option Elab.async false
set_option linter.all false
set_option maxRecDepth 100000
set_option maxHeartbeats 4000000
namespace Sp
open PySem PySem.Spec PyProof.Rows L2
/-! ### the source of choices -/
def GenAt (H : Hp) (M : List Addr) (g : Addr) : Prop := ∃ (r : Addr) (cs : List Int) (s : Int), M = [g, r] ∧ g ≠ r ∧ H g = some (.lst [.ref r, .int s]) ∧ H r = some (.lst (cs.map V.int)) ∧ (∀ x ∈ cs, 0 ≤ x) ∧ 0 ≤ s ∧ s < 2147483647 ∧ cs.length ≤ 1000
section
variable {H H' H1 : Hp} {M N : List Addr} {g : Addr}
theorem GenAt.out (h : GenAt H M g) (k : ∀ a ∈ M, ∀ o, H a = some o → H' a = some o) : GenAt H' M g := by
  obtain ⟨r, cs, s, rfl, hn, h1, h2, h3, h4, h5, h6⟩ := h
  exact ⟨r, cs, s, rfl, hn, k _ (by simp) _ h1, k _ (by simp) _ h2, h3, h4, h5, h6⟩
theorem GenAt.fresh (h : GenAt H M g) {p : Addr} (hp : H p = none) : p ∉ M := fun m => by
  obtain ⟨r, cs, s, rfl, hn, h1, h2, _⟩ := h
  rcases List.mem_cons.mp m with rfl | m
  · rw [hp] at h1; cases h1
  · rw [List.mem_singleton.mp m] at hp
    rw [hp] at h2; cases h2
theorem GenAt.to (h : GenAt H M g) (e : Same H H') : GenAt H' M g := h.out fun a _ o ho => e a o ho
theorem GenAt.has (h : GenAt H M g) : ∀ a ∈ M, ∃ xs, H a = some (.lst xs) := by
  obtain ⟨r, cs, s, rfl, hn, h1, h2, _⟩ := h
  intro a m
  rcases List.mem_cons.mp m with rfl | m
  · exact ⟨_, h1⟩
  · rw [List.mem_singleton.mp m]
    exact ⟨_, h2⟩
end
def spDraw : Sp := fun vs H Q _ => ∃ (g : Addr) (M : List Addr) (k : Nat), vs = [V.ref g, V.int (k : Nat)] ∧ GenAt H M g ∧ 0 < k ∧ k < 1000000 ∧ ∀ (r : Nat) H', r < k → GenAt H' M g → Fr H M H' M → Q (.int (r : Nat)) H'
theorem p_bm0 {K : PySem.W.Frag} {T : String} {r : V → List V → Hp → VK → Prop} {to : TE} {l : L2.St} {H : Hp} {Q : VK} (h : to l H fun x H1 => tyV K T x H1 ∧ r x [] H1 Q) : tBM0 K T r to l H Q := h
theorem div_lt (s : Int) (h : 0 ≤ s) (k : Nat) (hk : 0 < k) : 0 ≤ s / (k : Int) := Int.ediv_nonneg h (by omega)
theorem ev_int1 {l : L2.St} {H : Hp} {te : TE} {i : Int} (h : Ev te l H (.int i)) : Ev (tCB (fun xs H Q => (∃ i, xs = [V.int i] ∧ Q (.int i) H) ∨ ∃ k, xs = [V.bl k] ∧ Q (.int (if k then 1 else 0)) H) (tCons te tNil)) l H (.int i) := fun H1 e Q q => h H1 e _ fun v H2 e2 hv => .inl ⟨i, by rw [show v = .int i from hv], q _ H2 e2 rfl⟩
theorem sc__law_draw : FnScope ["_law_heap_here", "_law_many", "_law_rest"] ["_law_heap_here", "_law_many"] (defScope s__law_draw) := ⟨rfl, rfl, rfl, by decide +kernel, rfl, by decide +kernel, by decide +kernel⟩
theorem d__law_draw {c : Cn} (T : Tx c) : Df c "_law_draw" 1 ["_law_heap_here", "_law_many"] (spDraw ) :=
  T.df 44 44 rfl rfl sc__law_draw (fun _ _ _ _ _ _ us hl => match us, hl with | [_, _], _ => rfl) (fun vs H Q E h => by obtain ⟨_, _, _, e, _⟩ := h; rw [e] <;> rfl) fun f cdv A outer s H vs Q E hr h => by
    refine ⟨_, (pss_cons (ps_while PassesOwn.never (PW.pt (pw_and (pt_cmpR (op_neD hr.units) (pe_ix ix_list (pv 0) pe_int (fun _ _ => rfl)) (pe_lst pa_nil) (nomark _)) (pw_and1 (pt_cmpR op_eq (pe_ix ix_list (pe_ix ix_list (pv 0) pe_int (fun _ _ => rfl)) (pe_un un_neg pe_int) (fun _ _ => rfl)) pe_int (nomark _))))) (pss_one (ps_expr (pe_bm0 PySem.F.plainAttrs_list PySem.F.slot_list_pop PySem.F.type_list_pop mt_pop (pe_ix ix_list (pv 0) pe_int (fun _ _ => rfl))))))
    (pss_cons (ps_if (pt_cmpR (op_neD hr.units) (pe_ix ix_list (pv 0) pe_int (fun _ _ => rfl)) (pe_lst pa_nil) (nomark _)) (pss_cons (ps_set (i := 2) sc__law_draw.nd rfl (by first | exact Or.inl rfl | exact Or.inr rfl) (pe_callTy call_int1 (by rfl) T.n_int (by decide +kernel) (pa_cons (pe_bm0 PySem.F.plainAttrs_list PySem.F.slot_list_pop PySem.F.type_list_pop mt_pop (pe_ix ix_list (pv 0) pe_int (fun _ _ => rfl))) pa_nil)))
    (pss_cons (ps_expr (pe_bm PySem.F.plainAttrs_list PySem.F.slot_list_append PySem.F.type_list_append mt_append (pe_ix ix_list (pv 0) pe_int (fun _ _ => rfl)) (pa_cons (pe_op op_fdiv (pv 2) (pv 1)) pa_nil)))
    (pss_one (ps_ret (pe_op op_mod (pv 2) (pv 1)))))) pss_nil)
    (pss_cons (ps_asg (pe_op op_mod (pe_callTy call_int1 (by rfl) T.n_int (by decide +kernel) (pa_cons (pe_op op_add (pe_op op_mul (pe_ix ix_list (pv 0) pe_int (fun _ _ => rfl)) pe_int) pe_int) pa_nil)) pe_int) (pg_sub (pv 0) pe_int set_list))
    (pss_one (ps_ret (pe_op op_mod (pe_callTy call_int1 (by rfl) T.n_int (by decide +kernel) (pa_cons (pe_op op_fdiv (pe_ix ix_list (pv 0) pe_int (fun _ _ => rfl)) pe_int) pa_nil)) (pv 1))))))), ?_⟩
    obtain ⟨g, M, k0, rfl, ⟨r, cs, s0, rfl, hne, hg, hr', hcs, hs0, hs1, hlen⟩, hk0, hk1, k⟩ := h
    have L : Loc H [none, some (.int (k0 : Nat)), none] (L2.start ["_law_heap_here", "_law_many", "_law_rest"] [V.ref g, V.int (k0 : Nat)]) := ⟨_, _, rfl, _, _, rfl, rfl, _, _, rfl, trivial⟩
    have hself : (L2.start ["_law_heap_here", "_law_many", "_law_rest"] [V.ref g, V.int (k0 : Nat)])[0]? = some (some (.ref g)) := rfl
    have hsh : ∀ cs : List Int, SeqAt.shaped (.list (cs.map PyData.int)) = true := fun cs => (Sd.lst (n := 0) fun d hd => by
      obtain ⟨x, _, rfl⟩ := List.mem_map.mp hd
      exact Sd.int 0 x).shaped
    have h0 : ∀ {H' : Hp} {l : List (Option V)}, l[0]? = some (some (.ref g)) → H' g = some (.lst [.ref r, .int s0]) → EvV (tOp (rIxL c.K) (tVar 0) (tC (.int 0))) l H' (.ref r) := fun hl hg => vv_ix (i := 0) (vv_at hl) hg ev_int rfl
    refine q_while (fun m l' H' => ∃ cs, m = cs.length ∧ l' = L2.start ["_law_heap_here", "_law_many", "_law_rest"] [V.ref g, V.int (k0 : Nat)] ∧ Fr H [g, r] H' [g, r] ∧ H' g = some (.lst [.ref r, .int s0]) ∧ H' r = some (.lst (cs.map V.int)) ∧ (∀ x ∈ cs, 0 ≤ x) ∧ cs.length ≤ 1000) cs.length ⟨cs, rfl, rfl, Fr.refl _ _, hg, hr', hcs, hlen⟩ ?_
    rintro m l' H2 ⟨cs, rfl, rfl, f2, g2, r2, hcs, hlen⟩
    have hne0 : ∀ {H3 : Hp}, Same H2 H3 → Ev (tOp (rNeD c.K) (tOp (rIxL c.K) (tVar 0) (tC (.int 0))) (tLst tNil)) (L2.start ["_law_heap_here", "_law_many", "_law_rest"] [V.ref g, V.int (k0 : Nat)]) H3 (.bool (!(cs.map PyData.int).isEmpty)) := fun e => ev_neL (h0 rfl (e _ _ g2)) (e _ _ r2) (Dts.ints cs) (el_lst ea_nil (by decide)) (hsh cs)
    refine ⟨!(cs.map PyData.int).isEmpty && decide (cs.getLast?.getD 1 = 0), et_and (et_of (hne0 (Same.refl _))) fun hb => ?_, fun hb H3 e3 => ?_, fun hb H3 e3 => ?_⟩
    · obtain ⟨x, hx⟩ : ∃ x, cs.getLast? = some x := by
        cases e : cs.getLast? with
        | some x => exact ⟨x, rfl⟩
        | none =>
          have := List.getLast?_eq_none_iff.mp e
          rw [this] at hb
          exact Bool.noConfusion hb
      refine et_of ((ev_eqI (i := x) (ev_ixL (ds := cs.map .int) (i := -1) (h0 rfl g2) r2 (Dts.ints cs) (ev_U ev_int) (atI_last (by rw [List.getLast?_map, hx]; rfl))) (ev_int (i := 0))).is (by rw [hx]; rfl))
    · -- a zero is dropped
      have hcn : cs ≠ [] := by
        rintro rfl
        exact Bool.noConfusion hb
      have hpos : 0 < cs.length := List.length_pos_iff.mpr hcn
      have r3 := e3 _ _ r2
      obtain ⟨y, hy⟩ : ∃ y, (cs.map V.int)[(cs.map V.int).length - 1]? = some y := ⟨_, List.getElem?_eq_getElem (by rw [List.length_map]; omega)⟩
      refine p_drop (p_bm0 (p_vv (h0 rfl (e3 _ _ g2)) fun H4 e4 => ⟨.inl ⟨rfl, _, SqL.of (e4 _ _ r3)⟩, r, _, y, rfl, rfl, e4 _ _ r3, hy, ?_⟩))
      refine ⟨(cs.dropLast).length, by rw [List.length_dropLast]; omega, cs.dropLast, rfl, rfl, ((f2.to e3).to e4).trans (Fr.upd (by simp) (e4 _ _ r3)), (upd_ne hne).trans (e4 _ _ (e3 _ _ g2)), by rw [upd_same, List.map_dropLast], fun x hx => hcs x (List.dropLast_subset _ hx), by rw [List.length_dropLast]; omega⟩
    · have hG : ∀ {H' : Hp} {cs : List Int}, H' g = some (.lst [.ref r, .int s0]) → H' r = some (.lst (cs.map V.int)) → (∀ x ∈ cs, 0 ≤ x) → cs.length ≤ 1000 → GenAt H' [g, r] g := fun h1 h2 h3 h4 => ⟨r, _, s0, rfl, hne, h1, h2, h3, hs0, hs1, h4⟩
      refine q_if (et_of (hne0 e3)) (fun hb2 H4 e4 => ?_) (fun hb2 H4 e4 => ?_)
      · have hcn : cs ≠ [] := by
          rintro rfl
          exact Bool.noConfusion hb2
        obtain ⟨x, hx⟩ : ∃ x, cs.getLast? = some x := ⟨cs.getLast hcn, List.getLast?_eq_some_getLast hcn⟩
        have hxm : x ∈ cs := List.mem_of_getLast? hx
        have hx0 := hcs x hxm
        have hpos : 0 < cs.length := List.length_pos_iff.mpr hcn
        have e34 := e3.trans e4
        have hy : (cs.map V.int)[(cs.map V.int).length - 1]? = some (V.int x) := by
          rw [List.length_map, List.getElem?_map, ← List.getLast?_eq_getElem?, hx]
          rfl
        refine p_qasg (p_cb (p_cons (p_bm0 (p_vv (h0 rfl (e34 _ _ g2)) fun H5 e5 => ⟨.inl ⟨rfl, _, SqL.of ((e34.trans e5) _ _ r2)⟩, r, _, V.int x, rfl, rfl, (e34.trans e5) _ _ r2, hy, ?_⟩))))
        have e35 := e34.trans e5
        have r5 := e35 _ _ r2
        have g5 := e35 _ _ g2
        refine p_nil (.inl ⟨x, rfl, ?_⟩)
        have fA : Fr H [g, r] (upd H5 r (.lst ((cs.map V.int).dropLast))) [g, r] := (f2.to e35).trans (Fr.upd (by simp) r5)
        generalize hH6 : upd H5 r (.lst ((cs.map V.int).dropLast)) = H6 at fA ⊢
        have g6 : H6 g = some (.lst [.ref r, .int s0]) := by rw [← hH6]; exact (upd_ne hne).trans g5
        have r6 : H6 r = some (.lst (cs.dropLast.map V.int)) := by rw [← hH6, upd_same, List.map_dropLast]
        have L6 : Loc H6 [none, some (.int (k0 : Nat)), some (.int x)] ((L2.start ["_law_heap_here", "_law_many", "_law_rest"] [V.ref g, V.int (k0 : Nat)]).set 2 (some (.int x))) := ⟨_, _, rfl, _, _, rfl, rfl, _, _, rfl, rfl, trivial⟩
        refine p_seq (s_appV (d := .int (x / (k0 : Int))) (h0 rfl g6) r6 (ev_I (C := CDiv) (ev_v L6 rfl) (ev_v L6 rfl) ⟨by omega, by omega⟩) (by rw [List.length_map, List.length_dropLast]; omega) fun v7 H7 e7 hv7 => ?_)
        obtain rfl : v7 = .int (x / (k0 : Int)) := hv7
        have r7 := e7 _ _ r6
        have fB := (fA.to e7).trans (Fr.upd (u := .lst (cs.dropLast.map V.int ++ [V.int (x / (k0 : Int))])) (by simp) r7)
        have L8 := (L6.to e7).tk (tk_upd (u := .lst (cs.dropLast.map V.int ++ [V.int (x / (k0 : Int))])) r7)
        have hm := Int.emod_nonneg x (show (k0 : Int) ≠ 0 by omega)
        have hm2 := Int.emod_lt_of_pos x (show (0 : Int) < k0 by omega)
        refine s_ret (d := .int (x % (k0 : Int))) (ev_I (C := fun _ j => 0 < j) (ev_v L8 rfl) (ev_v L8 rfl) (by omega)) fun v9 H9 e9 hv9 => ?_
        obtain rfl : v9 = .int (x % (k0 : Int)) := hv9
        have := k (x % (k0 : Int)).toNat H9 (by omega) (hG (cs := cs.dropLast ++ [x / (k0 : Int)]) (e9 _ _ ((upd_ne hne).trans (e7 _ _ g6))) (e9 _ _ (by rw [upd_same, List.map_append]; rfl)) (fun y hy => ?_) (by rw [List.length_append, List.length_dropLast]; show _ + 1 ≤ _; omega)) (fB.to e9)
        · rw [show (((x % (k0 : Int)).toNat : Nat) : Int) = x % (k0 : Int) by omega] at this
          exact this
        · rcases List.mem_append.mp hy with m | m
          · exact hcs y (List.dropLast_subset _ m)
          · rw [List.mem_singleton.mp m]
            exact div_lt x hx0 k0 hk0
      · have e34 := e3.trans e4
        have g4 := e34 _ _ g2
        have r4 := e34 _ _ r2
        show tSeq _ _ _ _ _
        have hm := Int.emod_nonneg (s0 * 48271 + 13) (show (2147483647 : Int) ≠ 0 by decide)
        have hm2 := Int.emod_lt_of_pos (s0 * 48271 + 13) (show (0 : Int) < 2147483647 by decide)
        refine p_qasg (p_ev (d := .int ((s0 * 48271 + 13) % 2147483647)) (ev_I (C := fun _ j => 0 < j) (ev_int1 (ev_I0 (ev_I (C := CMul) (i := s0) (ev_ofV (vv_ix (i := 1) (vv_at hself) g4 ev_int rfl) rfl) (ev_int (i := 48271)) (.inr (by decide))) (ev_int (i := 13)))) (ev_int (i := 2147483647)) (by decide)) fun v5 H5 e5 hv5 => ?_)
        obtain rfl : v5 = .int ((s0 * 48271 + 13) % 2147483647) := hv5
        refine p_vv (vv_at hself) fun H6 e6 => p_ev (ev_int (i := 1)) fun v7 H7 e7 hv7 => ?_
        have e57 := (e5.trans e6).trans e7
        have g7 := e57 _ _ g4
        refine ⟨g, _, 1, 1, rfl, hv7, g7, rfl, ?_⟩
        have fA := ((f2.to e34).to e57).trans (Fr.upd (u := .lst ([V.ref r, V.int s0].set 1 (V.int ((s0 * 48271 + 13) % 2147483647)))) (by simp) g7)
        generalize hH8 : upd H7 g (.lst ([V.ref r, V.int s0].set 1 (V.int ((s0 * 48271 + 13) % 2147483647)))) = H8 at fA ⊢
        have g8 : H8 g = some (.lst [.ref r, .int ((s0 * 48271 + 13) % 2147483647)]) := by rw [← hH8]; exact upd_same
        have r8 : H8 r = some (.lst (cs.map V.int)) := by rw [← hH8]; exact (upd_ne hne.symm).trans (e57 _ _ r4)
        have L8 : Loc H8 [none, some (.int (k0 : Nat)), none] (L2.start ["_law_heap_here", "_law_many", "_law_rest"] [V.ref g, V.int (k0 : Nat)]) := ⟨_, _, rfl, _, _, rfl, rfl, _, _, rfl, trivial⟩
        dsimp only
        generalize (s0 * 48271 + 13) % 2147483647 = s1 at *
        have hq0 : 0 ≤ s1 / 64 := Int.ediv_nonneg hm (by decide)
        have hr0 := Int.emod_nonneg (s1 / 64) (show (k0 : Int) ≠ 0 by omega)
        have hr2 := Int.emod_lt_of_pos (s1 / 64) (show (0 : Int) < k0 by omega)
        refine s_ret (d := .int (s1 / 64 % (k0 : Int))) (ev_I (C := fun _ j => 0 < j) (ev_int1 (ev_I (C := CDiv) (i := s1) (ev_ofV (vv_ix (i := 1) (vv_at hself) g8 ev_int rfl) rfl) (ev_int (i := 64)) ⟨by decide, by decide⟩)) (ev_v L8 rfl) (by omega)) fun v9 H9 e9 hv9 => ?_
        obtain rfl : v9 = .int (s1 / 64 % (k0 : Int)) := hv9
        have := k (s1 / 64 % (k0 : Int)).toNat H9 (by omega) ⟨r, cs, s1, rfl, hne, e9 _ _ g8, e9 _ _ r8, hcs, hm, hm2, hlen⟩ (fA.to e9)
        rw [show (((s1 / 64 % (k0 : Int)).toNat : Nat) : Int) = s1 / 64 % (k0 : Int) by omega] at this
        exact this
end Sp
set_option Elab.async false
set_option linter.all false
set_option maxRecDepth 100000
set_option maxHeartbeats 4000000
namespace Sp
open PySem PySem.Spec PyProof.Rows L2
def PkV (H : Hp) (M : List Addr) (s : V) (ds : List PyData) : Prop := (∃ x : Str, s = .str x ∧ ds = x.cps.toList.map sg) ∨ ∃ (a : Addr) (xs : List V), s = .ref a ∧ H a = some (.lst xs) ∧ a ∉ M ∧ Dts H ds xs
def spPick : Sp := fun vs H Q _ => ∃ (g : Addr) (M : List Addr) (s : V) (ds : List PyData), vs = [V.ref g, s] ∧ GenAt H M g ∧ PkV H M s ds ∧ 0 < ds.length ∧ ds.length < 1000 ∧ ∀ d v H', d ∈ ds → Dt H' d v → GenAt H' M g → Fr H M H' M → Q v H'
theorem sc__law_pick : FnScope ["_law_heap_here", "_law_some"] ["_law_heap_here", "_law_some"] (defScope s__law_pick) := ⟨rfl, rfl, rfl, by decide +kernel, rfl, by decide +kernel, by decide +kernel⟩
theorem d__law_pick {c : Cn} (T : Tx c) : Df c "_law_pick" 2 ["_law_heap_here", "_law_some"] (spPick ) :=
  T.df 45 45 rfl rfl sc__law_pick (fun _ _ _ _ _ _ us hl => match us, hl with | [_, _], _ => rfl) (fun vs H Q E h => by obtain ⟨_, _, _, _, e, _⟩ := h; rw [e] <;> rfl) fun f cdv A outer s H vs Q E hr h => by
    refine ⟨_, (pss_one (ps_ret (pe_ix ix_seq (pv 1) (pe_d (d__law_draw T) (hr.mono (by decide)) (pa_cons (pv 0) (pa_cons (pe_callB call_len (by rfl) T.n_len (by decide +kernel) (pa_cons (pv 1) pa_nil)) pa_nil))) (fun _ _ => rfl)))), ?_⟩
    obtain ⟨g, M, s0, ds, rfl, hG, hp, h0, h1, k⟩ := h
    have hlenV : LenV c.K s0 H ds.length := by
      rcases hp with ⟨x, rfl, rfl⟩ | ⟨a, xs, rfl, ha, hm, hx⟩
      · refine ⟨?_, by rw [List.length_map]; rfl⟩
        rw [List.length_map] at h1
        exact Nat.le_trans (Nat.le_of_lt h1) (by decide)
      · exact .inl ⟨xs, SqL.of ha, hx.len.symm⟩
    refine p_ret (p_op (p_at (v := s0) rfl (p_call (p_cons (p_at (v := .ref g) rfl (p_cons (p_cb (p_cons (p_at (v := s0) rfl (p_nil ⟨s0, ds.length, rfl, hlenV, ?_⟩)))))))))) 
    refine p_nil ⟨g, M, ds.length, rfl, hG, h0, by omega, fun r H' hr2 hG' hF => ?_⟩
    rcases hp with ⟨x, rfl, rfl⟩ | ⟨a, xs, rfl, ha, hm, hx⟩
    · have hr3 : r < x.cps.toList.length := by rw [List.length_map] at hr2; exact hr2
      have hc : x.cps.toList[r]? = some x.cps.toList[r] := List.getElem?_eq_getElem hr3
      refine .inr (.inr ⟨x, (r : Nat), x.cps.toList[r], rfl, rfl, ?_, atI_nat hc, ?_⟩)
      · rw [List.length_map] at h1
        exact Nat.le_trans (Nat.le_of_lt h1) (by decide)
      · exact k (sg x.cps.toList[r]) _ H' (List.mem_map.mpr ⟨_, List.getElem_mem hr3, rfl⟩) rfl hG' hF
    · have hd : ds[r]? = some ds[r] := List.getElem?_eq_getElem hr2
      obtain ⟨v, hv, hdv⟩ := hx.get hd
      exact .inl ⟨a, xs, (r : Nat), v, rfl, rfl, SqL.of (hF.out ha hm), atI_nat hv, k ds[r] v H' (List.getElem_mem hr2) (Dt.tk hF.tk _ hdv) hG' hF⟩
section
variable {K : PySem.W.Frag} {l : L2.St} {H H' : Hp} {M : List Addr} {g : Addr} {Q : VK} {E : XK} {tm ts te : TE} {i j k : Nat} {ds : List PyData}
theorem r_draw (hl : l[i]? = some (some (.ref g))) (hm : Ev tm l H (.int (k : Nat))) (hk : 0 < k) (hk2 : k < 1000000) (hG : GenAt H M g) (q : ∀ (r : Nat) H', r < k → GenAt H' M g → Fr H M H' M → Q (.int (r : Nat)) H') : tCall spDraw [] E (tCons (tVar i) (tCons tm tNil)) l H Q :=
  p_call (p_cons (p_at hl (p_cons (p_ev hm fun v H1 e hv => p_nil ⟨g, M, k, by rw [show v = .int (k : Nat) from hv]; rfl, hG.to e, hk, hk2, fun r H' hr hG' hF => q r H' hr hG' (Fr.of e hF)⟩))))
theorem r_pickS {x : Str} (hl : l[i]? = some (some (.ref g))) (hs : Ev ts l H (.str x)) (h0 : 0 < x.cps.size) (h1 : x.cps.size < 1000) (hG : GenAt H M g) (q : ∀ ch H', ch ∈ x.cps.toList → GenAt H' M g → Fr H M H' M → Q (.str ⟨#[ch]⟩) H') : tCall spPick [] E (tCons (tVar i) (tCons ts tNil)) l H Q :=
  p_call (p_cons (p_at hl (p_cons (p_ev hs fun v H1 e hv => p_nil ⟨g, M, v, x.cps.toList.map sg, rfl, hG.to e, .inl ⟨x, hv, rfl⟩, by rw [List.length_map, Array.length_toList]; exact h0, by rw [List.length_map, Array.length_toList]; exact h1, fun d v H' hd hv' hG' hF => by
    obtain ⟨ch, hc, rfl⟩ := List.mem_map.mp hd
    rw [show v = .str ⟨#[ch]⟩ from hv']
    exact q ch H' hc hG' (Fr.of e hF)⟩))))
theorem r_pickL (hl : l[i]? = some (some (.ref g))) (hs : EvL ts l H ds) (h0 : 0 < ds.length) (h1 : ds.length < 1000) (hG : GenAt H M g) (q : ∀ d v H', d ∈ ds → Dt H' d v → GenAt H' M g → Fr H M H' M → Q v H') : tCall spPick [] E (tCons (tVar i) (tCons ts tNil)) l H Q :=
  p_call (p_cons (p_at hl (p_cons (p_el hs fun p xs H1 hp e h2 hx => p_nil ⟨g, M, .ref p, ds, rfl, hG.to e, .inr ⟨p, xs, rfl, h2, hG.fresh hp, hx⟩, h0, h1, fun d v H' hd hv' hG' hF => q d v H' hd hv' hG' (Fr.of e hF)⟩))))
/-- over a new list made of anything: its end -/
theorem pick_fin {vs : List V} {H1 : Hp} (hx : Dts H1 ds vs) (h0 : 0 < ds.length) (h1 : ds.length < 1000) (hG : GenAt H1 M g) (q : ∀ d v H', d ∈ ds → Dt H' d v → GenAt H' M g → Fr H1 M H' M → Q v H') : vs.length ≤ sizeLine ∧ ∀ p, H1 p = none → tNil l (upd H1 p (.lst vs)) fun vs' H2 => spPick ((V.ref g :: V.ref p :: vs') ++ []) H2 Q E :=
  ⟨by rw [hx.len]; exact Nat.le_trans (Nat.le_of_lt h1) (by decide), fun p hp => p_nil ⟨g, M, .ref p, ds, rfl, hG.to (same_new hp), .inr ⟨p, vs, rfl, upd_same, hG.fresh hp, hx.to (same_new hp)⟩, h0, h1, fun d v H' hd hv' hG' hF => q d v H' hd hv' hG' (Fr.of (same_new hp) hF)⟩⟩
/-! ### comprehensions that draw -/
theorem lcd {J : It} {n : Nat} {Gp : Hp → Prop} {Y : Nat → Hp → V → Hp → Prop} {g : TG} {t : TT} {vs : List Nat} {H1 : Hp} {ga : Addr} (w : Walk J n Gp Y) (Inv : Nat → List PyData → Prop) (hlen : ∀ i ds, Inv i ds → ds.length < 1000000) (h0 : Inv 0 []) (hG0 : GenAt H1 M ga) (hGp : ∀ H', Fr H1 M H' M → Gp H')
    (hs : ∀ i x H' H2 ds, i < n → Inv i ds → Fr H1 M H' M → GenAt H' M ga → Y i H' x H2 → ∃ l2, (∀ N : L2.St → Hp → Prop, N l2 H2 → g x (wipe l vs) H2 N) ∧ wipe l2 vs = wipe l vs ∧ Same H' H2 ∧
      ∀ (N : Hp → Prop) (QE : V → Hp → Prop), (∀ H3, Inv (i + 1) ds → Fr H2 M H3 M → GenAt H3 M ga → N H3) → (∀ d v H4, Inv (i + 1) (ds ++ [d]) → Dt H4 d v → Fr H2 M H4 M → GenAt H4 M ga → QE v H4) → t l2 H2 fun b H3 => if b = true then te l2 H3 QE else N H3)
    (q : ∀ p xs ds H2, Inv n ds → H1 p = none → Fr H1 M H2 M → GenAt H2 M ga → H2 p = some (.lst xs) → Dts H2 ds xs → Q (.ref p) H2) :
    ∀ D, H1 D = none → ∃ W : Nat → Nat → Hp → Prop, (∃ m, W 0 m (upd H1 D (.lst []))) ∧ ∀ i m H, W i m H →
      (J.stop i H ∧ Q (.ref D) H) ∨ (J.go i H ∧ ∃ Nx : Hp → Prop, (∀ H', Nx H' → ∃ m', m' < m ∧ W (i + 1) m' H') ∧ ∀ x H', J.yld i H x H' → g x (wipe l vs) H' fun σ2 H2 => wipe σ2 vs = wipe l vs ∧ t σ2 H2 fun b H3 =>
        if b = true then te σ2 H3 fun y H4 => ∃ acc, H4 D = some (.lst acc) ∧ acc.length < sizeLine ∧ Nx (upd H4 D (.lst (acc ++ [y]))) else Nx H3) := fun p hp => by
  have hpM : p ∉ M := hG0.fresh hp
  have fmut : ∀ {H2 : Hp} {u : HO}, Fr H1 M H2 M → Tk H2 (upd H2 p u) → Fr H1 M (upd H2 p u) M := fun {H2 u} f k => ⟨fun a o ho n => by
    rw [upd_ne (ne_of_none ho hp)]
    exact f.keep a o ho n, fun a m => .inl m, fun a ha => by
    by_cases e : a = p
    · subst e; exact hp
    · rw [upd_ne e] at ha; exact f.dom a ha, f.tk.trans k⟩
  have gmut : ∀ {H2 : Hp} {u : HO}, GenAt H2 M ga → GenAt (upd H2 p u) M ga := fun h => h.out fun a m o ho => (upd_ne (by rintro rfl; exact hpM m)).trans ho
  refine lc_it w (fun i H' => ∃ ds xs, Inv i ds ∧ Fr H1 M H' M ∧ GenAt H' M ga ∧ H' p = some (.lst xs) ∧ Dts H' ds xs) ⟨[], [], h0, fmut (Fr.refl _ _) (tk_new hp), gmut hG0, upd_same, rfl⟩ (fun i H' _ ⟨_, _, _, f, _⟩ => hGp H' f) (fun i x H' H2 hi ⟨ds, xs, hI, f, hG, hx, hd⟩ hy => ?_) (fun H' ⟨ds, xs, hI, f, hG, hx, hd⟩ => q p xs ds H' hI hp f hG hx hd)
  obtain ⟨l2, h1, h2, h3, h4⟩ := hs i x H' H2 ds hi hI f hG hy
  refine h1 _ ⟨h2, h4 _ _ (fun H3 hI' f3 hG3 => ?_) (fun d v H4 hI' hd4 f4 hG4 => ?_)⟩
  · have ft := Fr.of h3 f3
    exact ⟨ds, xs, hI', (f.to h3).trans f3, hG3, ft.out hx hpM, Dts.tk ft.tk _ hd⟩
  · have ft := Fr.of h3 f4
    have hx4 := ft.out hx hpM
    have k : Tk H4 (upd H4 p (.lst (xs ++ [v]))) := tk_upd hx4
    exact ⟨xs, hx4, by rw [hd.len]; exact sz_lt (hlen _ _ hI), ds ++ [d], _, hI', fmut ((f.to h3).trans f4) k, gmut hG4, upd_same, Dts.tk k _ ((Dts.tk ft.tk _ hd).app (Dts.one hd4))⟩
end
end Sp
set_option Elab.async false
set_option linter.all false
set_option maxRecDepth 100000
set_option maxHeartbeats 4000000
namespace Sp
open PySem PySem.Spec PyProof.Rows L2
theorem joinL_nil : ∀ ps : List (List Nat), TL.joinL [] ps = ps.flatten
  | [] => rfl
  | [p] => by simp [TL.joinL]
  | p :: q :: r => by
    show p ++ ([] ++ TL.joinL [] (q :: r)) = _
    rw [joinL_nil (q :: r)]
    simp
theorem join_signs (cs : List Nat) : Txt.join "" (cs.map fun c => (⟨#[c]⟩ : Str)) = ⟨cs.toArray⟩ := by
  refine str_ext ?_
  have h := TL.tl_join "" (cs.map fun c => (⟨#[c]⟩ : Str))
  rw [← TL.join_eq] at h
  have h2 : (Txt.join "" (cs.map fun c => (⟨#[c]⟩ : Str))).cps.toList = TL.joinL (TL.tl "") ((cs.map fun c => (⟨#[c]⟩ : Str)).map TL.tl) := h
  rw [h2, show TL.tl "" = [] from rfl, joinL_nil, List.map_map]
  show ((cs.map fun c => [c]).flatten) = cs
  clear h h2
  induction cs with
  | nil => rfl
  | cons c cs ih =>
    rw [List.map_cons, List.flatten_cons, ih]
    rfl
def rJoin (K : PySem.W.Frag) : V → List V → Hp → VK → Prop := fun x xs H Q => ∃ a p, ∃ ys : List Str, x = .str a ∧ xs = [.ref p] ∧ (SqL K H p (ys.map V.str) ∨ SqT K H p (ys.map V.str)) ∧ (ys.map (·.length)).sum + ys.length * a.length ≤ 16777216 ∧ Q (.str (Txt.join a ys)) H
section
variable {K : PySem.W.Frag} {l : L2.St} {H : Hp} {te : TE} {Q : VK}
theorem p_join (h : te l H fun y H2 => rJoin K (.str "") [y] H2 Q) : tM1 (rJoin K) (tC (.str "")) te l H Q := ⟨⟨_, rfl⟩, h⟩
theorem p_lcR {ta : TA} {g : TG} {tt : TT} {tx : TE} {vs : List Nat} (h : ta l H fun ws H1 => ∃ j : Int, ws = [.int j] ∧ -(2 ^ 62) ≤ j ∧ j < 2 ^ 62 ∧ ∀ D, H1 D = none → ∃ W : Nat → Nat → Hp → Prop, (∃ m, W 0 m (upd H1 D (.lst []))) ∧ ∀ i m H, W i m H →
  ((Itr 0 j.toNat).stop i H ∧ Q (.ref D) H) ∨ ((Itr 0 j.toNat).go i H ∧ ∃ Nx : Hp → Prop, (∀ H', Nx H' → ∃ m', m' < m ∧ W (i + 1) m' H') ∧ ∀ x H', (Itr 0 j.toNat).yld i H x H' → g x (wipe l vs) H' fun σ2 H2 => wipe σ2 vs = wipe l vs ∧ tt σ2 H2 fun b H3 =>
    if b = true then tx σ2 H3 fun y H4 => ∃ acc, H4 D = some (.lst acc) ∧ acc.length < sizeLine ∧ Nx (upd H4 D (.lst (acc ++ [y]))) else Nx H3)) : tLc (iRng1 ta) g tt tx vs l H Q := h
theorem sum_ones : ∀ cs : List Nat, ((cs.map fun c => (⟨#[c]⟩ : Str)).map (·.length)).sum = cs.length
  | [] => rfl
  | c :: cs => by
    rw [List.map_cons, List.map_cons, List.sum_cons, sum_ones cs, List.length_cons]
    show 1 + cs.length = _
    omega
/-- ''.join of signs that were drawn -/
theorem join_fin {p : Addr} {cs : List Nat} (h : H p = some (.lst (cs.map fun c => V.str ⟨#[c]⟩))) (hz : cs.length ≤ 1000) (q : Q (.str ⟨cs.toArray⟩) H) : rJoin K (.str "") [.ref p] H Q := by
  refine ⟨"", p, cs.map fun c => (⟨#[c]⟩ : Str), rfl, rfl, .inl (SqL.of (by rw [h, List.map_map]; rfl)), ?_, by rw [join_signs]; exact q⟩
  rw [sum_ones]
  show _ + _ * 0 ≤ _
  omega
end
/-! ### texts, numbers, values -/
theorem Dts.of_sg {H : Hp} : ∀ {cs : List Nat} {xs : List V}, Dts H (cs.map sg) xs → xs = cs.map fun c => V.str ⟨#[c]⟩
  | [], _, h => h
  | c :: cs, _, h => by
    obtain ⟨v, vs, rfl, h1, h2⟩ := h
    rw [show v = .str ⟨#[c]⟩ from h1, Dts.of_sg h2]
    rfl
/-- signs drawn one by one -/
theorem r_signs {K : PySem.W.Frag} {l : L2.St} {H : Hp} {M : List Addr} {g : Addr} {x : Str} {i : Nat} {ts tk : TE} {ds : List Int} {B : Nat} {Q : VK}
    (hl0 : l[0]? = some (some (.ref g))) (hl : (wipe l [i])[0]? = some (some (.ref g)) ∧ ∀ v, ((wipe l [i]).set i v)[0]? = some (some (.ref g))) (hw : ∀ v, wipe ((wipe l [i]).set i (some v)) [i] = wipe l [i])
    (hx : ∀ (v : V) H1, Ev ts ((wipe l [i]).set i (some v)) H1 (.str x)) (h0 : 0 < x.cps.size) (h1 : x.cps.size < 1000) (hds : EvL tk l H (ds.map .int)) (hd0 : 0 < ds.length) (hd1 : ds.length < 1000) (hB : ∀ d ∈ ds, 0 ≤ d ∧ d ≤ B) (hB2 : B ≤ 1000) (hG : GenAt H M g)
    (q : ∀ (cs : List Nat) H', cs.length ≤ B → (∀ c ∈ cs, c ∈ x.cps.toList) → GenAt H' M g → Fr H M H' M → Q (.str ⟨cs.toArray⟩) H') :
    tM1 (rJoin K) (tC (.str "")) (tLc (iRng1 (tCons (tCall spPick [] E0 (tCons (tVar 0) (tCons tk tNil))) tNil)) (gName i) tYes (tCall spPick [] E0 (tCons (tVar 0) (tCons ts tNil))) [i]) l H Q := by
  refine p_join (p_lcR ?_)
  refine p_cons (r_pickL hl0 hds (by rw [List.length_map]; exact hd0) (by rw [List.length_map]; exact hd1) hG fun d v H1 hd hv hG1 f1 => p_nil ?_)
  obtain ⟨k, hk, rfl⟩ := List.mem_map.mp hd
  obtain ⟨hk0, hkB⟩ := hB k hk
  refine ⟨k, by rw [show v = .int k from hv], by omega, by omega, ?_⟩
  refine lcd (M := M) (ga := g) (Q := fun y H2 => rJoin K (.str "") [y] H2 Q) (l := l) (vs := [i]) (g := gName i) (t := tYes) (te := tCall spPick [] E0 (tCons (tVar 0) (tCons ts tNil))) (walk_range (lo := 0) (n := k.toNat)) (fun n ds => ∃ cs : List Nat, ds = cs.map sg ∧ cs.length ≤ n ∧ cs.length ≤ 1000 ∧ ∀ c ∈ cs, c ∈ x.cps.toList) ?_ ⟨[], rfl, Nat.le_refl _, Nat.zero_le _, fun _ h => (nomatch h)⟩ hG1 (fun _ _ => trivial) ?_ ?_
  · rintro n ds ⟨cs, rfl, _, hcz, _⟩
    rw [List.length_map]
    omega
  · rintro n y H' H2 ds hn ⟨cs, rfl, hcl, hcz, hcm⟩ fr hG' ⟨rfl, rfl⟩
    refine ⟨(wipe l [i]).set i (some (.int (0 + (n : Nat)))), fun N hN => hN, hw _, Same.refl _, fun N QE _ hE => ?_⟩
    unfold tYes
    dsimp only
    rw [if_pos rfl]
    refine r_pickS (hl.2 _) (hx _ _) h0 h1 hG' fun ch H4 hc hG4 f4 => ?_
    exact hE (sg ch) _ H4 ⟨cs ++ [ch], by rw [List.map_append]; rfl, by rw [List.length_append]; show cs.length + 1 ≤ _; omega, by rw [List.length_append]; show cs.length + 1 ≤ _; omega, fun c hc' => (List.mem_append.mp hc').elim (hcm c) fun m => by rw [List.mem_singleton.mp m]; exact hc⟩ rfl f4 hG4
  · rintro p xs ds H2 ⟨cs, rfl, hcl, hcz, hcm⟩ hp fr hG2 hx2 hd2
    rw [Dts.of_sg hd2] at hx2
    exact join_fin hx2 (by omega) (q cs H2 (by omega) hcm hG2 (f1.trans fr))
end Sp
set_option Elab.async false
set_option linter.all false
set_option maxRecDepth 100000
set_option maxHeartbeats 4000000
namespace Sp
open PySem PySem.Spec PyProof.Rows L2
/-- a def that draws one value -/
def spOne {α : Type} (R : α → PyData → Prop) (a0 : α) : Sp := fun vs H Q _ => ∃ (g : Addr) (M : List Addr), vs = [V.ref g] ∧ GenAt H M g ∧ ∀ d v H', R a0 d → Dt H' d v → GenAt H' M g → Fr H M H' M → Q v H'
def isTextD (_ : Unit) (d : PyData) : Prop := ∃ x, TextOk x ∧ d = .str x
def isIntD (_ : Unit) (d : PyData) : Prop := ∃ i, IntOk i ∧ d = .int i
def isValD (_ : Unit) (d : PyData) : Prop := ∃ x : Val, ValOk x ∧ d = x.d
theorem ln_one {α : Type} {R : α → PyData → Prop} {a0 : α} {ps : List Str} (h : ps.length = 1) : Ln ps (spOne R a0) := fun vs H Q E hh => by
  obtain ⟨_, _, e, _⟩ := hh
  rw [e, h]
  rfl
theorem mem_str {cs : List Nat} : (⟨cs.toArray⟩ : Str).cps.toList = cs := rfl
theorem sc__law_text : FnScope ["_law_heap_here", "_law_signs", "_law_turn"] ["_law_heap_here"] (defScope s__law_text) := ⟨rfl, rfl, rfl, by decide +kernel, rfl, by decide +kernel, by decide +kernel⟩
theorem d__law_text {c : Cn} (T : Tx c) : Df c "_law_text" 3 ["_law_heap_here"] ((spOne isTextD ()) ) :=
  T.df 47 47 rfl rfl sc__law_text (fun _ _ _ _ _ _ us hl => match us, hl with | [_], _ => rfl) (ln_one rfl) fun f cdv A outer s H vs Q E hr h => by
    refine ⟨_, (pss_cons (ps_set (i := 1) sc__law_text.nd rfl (by first | exact Or.inl rfl | exact Or.inr rfl) pe_str)
    (pss_one (ps_ret (pe_join pe_str (pe_lc (own := [("_law_turn", 2)]) (by rfl) sc__law_text.nd (pi_range1 (by rfl) T.n_range (pa_cons (pe_d (d__law_pick T) (hr.mono (by decide)) (pa_cons (pv 0) (pa_cons (pe_lst (pa_cons pe_int (pa_cons pe_int (pa_cons pe_int (pa_cons pe_int (pa_cons pe_int (pa_cons pe_int (pa_cons pe_int pa_nil)))))))) pa_nil))) pa_nil)) (blkOk_by (own := [("_law_turn", 2)]) (N := ["_law_heap_here", "_law_signs", "_law_turn"]) (sc := defScope s__law_text) (by decide +kernel)) (fun _ _ _ _ _ => (pg_name (i := 2) sc__law_text.nd rfl (by first | exact Or.inl rfl | exact Or.inr rfl))) (fun _ _ _ _ _ => pts_nil) (fun _ _ _ _ _ => (pe_d (d__law_pick T) (hr.mono (by decide)) (pa_cons (pv 0) (pa_cons (pv 1) pa_nil))))))))), ?_⟩
    obtain ⟨g, M, rfl, hG, k⟩ := h
    have L : Loc H [none, none, none] (L2.start ["_law_heap_here", "_law_signs", "_law_turn"] [V.ref g]) := ⟨_, _, rfl, _, _, rfl, _, _, rfl, trivial⟩
    refine q_asg (d := .str " -./0123456789:ABCDEFGHIJKLMNOPQRSTUVWXYZ_abcdefghijklmnopqrstuvwxyz") ev_str L fun v1 H1 e1 hv1 L1 => ?_
    obtain rfl : v1 = .str " -./0123456789:ABCDEFGHIJKLMNOPQRSTUVWXYZ_abcdefghijklmnopqrstuvwxyz" := hv1
    refine p_ret (r_signs (M := M) (g := g) (ds := [0, 1, 1, 2, 3, 5, 32]) (B := 32) (x := " -./0123456789:ABCDEFGHIJKLMNOPQRSTUVWXYZ_abcdefghijklmnopqrstuvwxyz") rfl ⟨rfl, fun _ => rfl⟩ (fun _ => rfl) (fun v H2 => ev_at rfl rfl) (by decide +kernel) (by decide +kernel) (el_lst (ea_cons ev_int (ea_cons ev_int (ea_cons ev_int (ea_cons ev_int (ea_3 ev_int ev_int ev_int))))) (by show 7 ≤ 1000000; decide)) (by decide) (by decide) (by decide) (by decide) (hG.to e1) fun cs H' hl hm hG' hF => ?_)
    exact k _ _ H' ⟨⟨cs.toArray⟩, ⟨hl, fun c hc => by rw [← textS]; exact hm c hc⟩, rfl⟩ rfl hG' (Fr.of e1 hF)
theorem ea_data {l : L2.St} {H : Hp} {t : TA} {ds : List PyData} (h : EvA t l H ds) : EvA t l H ds := h
theorem sc__law_integer : FnScope ["_law_heap_here", "_law_great", "_law_found"] ["_law_heap_here"] (defScope s__law_integer) := ⟨rfl, rfl, rfl, by decide +kernel, rfl, by decide +kernel, by decide +kernel⟩
theorem d__law_integer {c : Cn} (T : Tx c) : Df c "_law_integer" 3 ["_law_heap_here"] (spOne isIntD () ) :=
  T.df 48 48 rfl rfl sc__law_integer (fun _ _ _ _ _ _ us hl => match us, hl with | [_], _ => rfl) (ln_one rfl) fun f cdv A outer s H vs Q E hr h => by
    refine ⟨_, (pss_cons (ps_set (i := 1) sc__law_integer.nd rfl (by first | exact Or.inl rfl | exact Or.inr rfl) pe_int)
    (pss_cons (ps_set (i := 2) sc__law_integer.nd rfl (by first | exact Or.inl rfl | exact Or.inr rfl) (pe_d (d__law_pick T) (hr.mono (by decide)) (pa_cons (pv 0) (pa_cons (pe_lst (pa_cons (pe_d (d__law_draw T) (hr.mono (by decide)) (pa_cons (pv 0) (pa_cons pe_int pa_nil))) (pa_cons (pe_d (d__law_draw T) (hr.mono (by decide)) (pa_cons (pv 0) (pa_cons pe_int pa_nil))) (pa_cons (pe_d (d__law_draw T) (hr.mono (by decide)) (pa_cons (pv 0) (pa_cons pe_int pa_nil))) (pa_cons (pv 1) (pa_cons (pe_op op_sub (pv 1) (pe_d (d__law_draw T) (hr.mono (by decide)) (pa_cons (pv 0) (pa_cons pe_int pa_nil)))) pa_nil)))))) pa_nil))))
    (pss_one (ps_ret (pe_ifExp (pt_cmpR op_eq (pe_d (d__law_draw T) (hr.mono (by decide)) (pa_cons (pv 0) (pa_cons pe_int pa_nil))) pe_int (nomark _)) (pv 2) (pe_op op_sub pe_int (pv 2))))))), ?_⟩
    obtain ⟨g, M, rfl, hG, k⟩ := h
    have L : Loc H [none, none, none] (L2.start ["_law_heap_here", "_law_great", "_law_found"] [V.ref g]) := ⟨_, _, rfl, _, _, rfl, _, _, rfl, trivial⟩
    refine q_asg (d := .int 1000000000000000000) ev_int L fun v1 H1 e1 hv1 L1 => ?_
    obtain rfl : v1 = .int 1000000000000000000 := hv1
    have hl0 : ((L2.start ["_law_heap_here", "_law_great", "_law_found"] [V.ref g]).set 1 (some (.int 1000000000000000000)))[0]? = some (some (.ref g)) := rfl
    refine p_qasg (p_call (p_cons (p_at hl0 (p_cons (p_lst ?_)))))
    refine p_cons (r_draw (k := 5) hl0 (ev_int (i := 5)) (by decide) (by decide) (hG.to e1) fun r2 H2 hr2 hG2 f2 => ?_)
    refine p_cons (r_draw (k := 300) hl0 (ev_int (i := 300)) (by decide) (by decide) hG2 fun r3 H3 hr3 hG3 f3 => ?_)
    refine p_cons (r_draw (k := 40000) hl0 (ev_int (i := 40000)) (by decide) (by decide) hG3 fun r4 H4 hr4 hG4 f4 => ?_)
    refine p_cons (p_at (v := .int 1000000000000000000) rfl ?_)
    refine p_cons (p_op (p_at (v := .int 1000000000000000000) rfl ?_))
    refine r_draw (k := 9) hl0 (ev_int (i := 9)) (by decide) (by decide) hG4 fun r5 H5 hr5 hG5 f5 => ⟨_, _, rfl, rfl, p_nil ?_⟩
    refine pick_fin (ds := [.int (r2 : Nat), .int (r3 : Nat), .int (r4 : Nat), .int 1000000000000000000, .int (1000000000000000000 - (r5 : Nat))]) ⟨_, _, rfl, rfl, _, _, rfl, rfl, _, _, rfl, rfl, _, _, rfl, rfl, _, _, rfl, rfl, rfl⟩ (by show 0 < 5; decide) (by show 5 < 1000; decide) hG5 fun d v H6 hd hv hG6 f6 => ?_
    obtain ⟨i, hi, rfl⟩ : ∃ i : Int, (0 ≤ i ∧ i ≤ 1000000000000000000) ∧ d = .int i := by
      rcases List.mem_cons.mp hd with rfl | hd
      · exact ⟨_, ⟨by omega, by omega⟩, rfl⟩
      rcases List.mem_cons.mp hd with rfl | hd
      · exact ⟨_, ⟨by omega, by omega⟩, rfl⟩
      rcases List.mem_cons.mp hd with rfl | hd
      · exact ⟨_, ⟨by omega, by omega⟩, rfl⟩
      rcases List.mem_cons.mp hd with rfl | hd
      · exact ⟨_, ⟨by omega, by omega⟩, rfl⟩
      · rw [List.mem_singleton.mp hd]
        exact ⟨_, ⟨by omega, by omega⟩, rfl⟩
    obtain rfl : v = .int i := hv
    have fA := (((Fr.of e1 f2).trans f3).trans f4).trans (f5.trans f6)
    refine p_ret ?_
    refine (show tTest (tOp rEq (tCall spDraw [] E0 (tCons (tVar 0) (tCons (tC (.int 2)) tNil))) (tC (.int 0))) _ H6 (fun b H7 => if b = true then tVar 2 _ H7 Q else tOp (rI0 fun i j => V.int (i - j)) (tC (.int 0)) (tVar 2) _ H7 Q) from p_test (p_op (r_draw (k := 2) rfl (ev_int (i := 2)) (by decide) (by decide) hG6 fun r7 H7 hr7 hG7 f7 => p_ev (ev_int (i := 0)) fun v8 H8 e8 hv8 => ?_)))
    obtain rfl : v8 = .int 0 := hv8
    refine ⟨rfl, _, rfl, ?_⟩
    split
    · exact p_at (v := .int i) rfl (k _ _ H8 ⟨i, ⟨by omega, by omega⟩, rfl⟩ rfl (hG7.to e8) ((fA.trans f7).to e8))
    · exact p_op (p_ev (ev_int (i := 0)) fun v9 H9 e9 hv9 => p_at (v := .int i) rfl ⟨0, i, hv9, rfl, k _ _ H9 ⟨0 - i, ⟨by omega, by omega⟩, rfl⟩ rfl ((hG7.to e8).to e9) (((fA.trans f7).to e8).to e9)⟩)
theorem sc__law_value : FnScope ["_law_heap_here"] ["_law_heap_here"] (defScope s__law_value) := ⟨rfl, rfl, rfl, by decide +kernel, rfl, by decide +kernel, by decide +kernel⟩
theorem d__law_value {c : Cn} (T : Tx c) : Df c "_law_value" 4 ["_law_heap_here"] (spOne isValD () ) :=
  T.df 49 49 rfl rfl sc__law_value (fun _ _ _ _ _ _ us hl => match us, hl with | [_], _ => rfl) (ln_one rfl) fun f cdv A outer s H vs Q E hr h => by
    refine ⟨_, (pss_one (ps_ret (pe_ifExp (pt_cmpR op_eq (pe_d (d__law_draw T) (hr.mono (by decide)) (pa_cons (pv 0) (pa_cons pe_int pa_nil))) pe_int (nomark _)) (pe_d (d__law_text T) (hr.mono (by decide)) (pa_cons (pv 0) pa_nil)) (pe_d (d__law_integer T) (hr.mono (by decide)) (pa_cons (pv 0) pa_nil))))), ?_⟩
    obtain ⟨g, M, rfl, hG, k⟩ := h
    refine p_ret ?_
    refine (show tTest (tOp rEq (tCall spDraw [] E0 (tCons (tVar 0) (tCons (tC (.int 2)) tNil))) (tC (.int 0))) _ H (fun b H7 => if b = true then tCall (spOne isTextD ()) [] E0 (tCons (tVar 0) tNil) _ H7 Q else tCall (spOne isIntD ()) [] E0 (tCons (tVar 0) tNil) _ H7 Q) from p_test (p_op (r_draw (k := 2) rfl (ev_int (i := 2)) (by decide) (by decide) hG fun r7 H7 hr7 hG7 f7 => p_ev (ev_int (i := 0)) fun v8 H8 e8 hv8 => ?_)))
    obtain rfl : v8 = .int 0 := hv8
    refine ⟨rfl, _, rfl, ?_⟩
    split
    · refine p_call (p_cons (p_at (v := .ref g) rfl (p_nil ⟨g, M, rfl, hG7.to e8, fun d v H' hd hv hG' hF => ?_⟩)))
      obtain ⟨x, hx, rfl⟩ := hd
      exact k _ v H' ⟨.str x, hx, rfl⟩ hv hG' ((f7.to e8).trans hF)
    · refine p_call (p_cons (p_at (v := .ref g) rfl (p_nil ⟨g, M, rfl, hG7.to e8, fun d v H' hd hv hG' hF => ?_⟩)))
      obtain ⟨x, hx, rfl⟩ := hd
      exact k _ v H' ⟨.int x, hx, rfl⟩ hv hG' ((f7.to e8).trans hF)
end Sp
set_option Elab.async false
set_option linter.all false
set_option maxRecDepth 100000
set_option maxHeartbeats 4000000
namespace Sp
open PySem PySem.Spec PyProof.Rows L2
/-! ### the map of the law -/
def spMapL : Sp := fun vs H Q _ => ∃ (w1 w2 : Wr) (KS : List Str) (v1 v2 : V), vs = [v1, v2] ∧ Dt H (wrD w1) v1 ∧ DN H v1 ∧ Dt H (wrD w2) v2 ∧ KS.length < 64 ∧ (∀ p ∈ w1 ++ w2, p.1 ∈ KS) ∧ ∀ v H' w, Same H H' → IsMap (sem Mp0 (w1 ++ w2)) w → Dt H' (wrD w) v → DN H' v → Q v H'
theorem pairs_refs {K : PySem.W.Frag} {H : Hp} : ∀ {w : Wr} {xs : List V}, Dts H (w.map pairD) xs → ∃ ps : List Addr, xs = ps.map V.ref ∧ Paired (fun p (kv : Key × V) => SqT K H p [kV kv.1, kv.2]) ps (w.map fun p => ((Sum.inr p.1 : Key), p.2.v))
  | [], _, h => ⟨[], h, .nil⟩
  | p :: w, _, h => by
    obtain ⟨v, vs, rfl, ⟨a, ys, rfl, ha, y1, _, rfl, hy1, y2, _, rfl, hy2, rfl⟩, h2⟩ := h
    obtain ⟨ps, rfl, hp⟩ := pairs_refs (K := K) h2
    obtain rfl : y1 = .str p.1 := hy1
    obtain rfl := Val.of_dt hy2
    exact ⟨a :: ps, rfl, .cons (.inl ha) hp⟩
theorem dk_merge {KS : List Str} : ∀ {w : Wr} {kvs : List (Key × V)} {f : Mp}, DkI kvs KS f → (∀ p ∈ w, p.1 ∈ KS) → DkI (mergeK kvs (w.map fun p => ((Sum.inr p.1 : Key), p.2.v))) KS (sem f w)
  | [], _, _, h, _ => h
  | p :: w, kvs, f, h, hk => by
    show DkI (mergeK (putK kvs (.inr p.1) p.2.v) _) KS (sem (semStep f p) w)
    exact dk_merge (h.put (hk p List.mem_cons_self)) fun q hq => hk q (List.mem_cons_of_mem _ hq)
theorem rd_uniq {H : Hp} {a : Addr} {xs ys : List V} {o : Obj} (h : Rd H a (.tup xs)) (e : H a = some (.frz o (.tup ys))) : xs = ys := by
  rcases h with h | ⟨o', h⟩
  · rw [h] at e; cases e
  · rw [h] at e
    have := Option.some.inj e
    cases this
    rfl
theorem sc__law_map : FnScope ["_law_entries", "_law_pairs", "_law_known", "_law_key", "_law_value_here"] ["_law_entries", "_law_pairs"] (defScope s__law_map) := ⟨rfl, rfl, rfl, by decide +kernel, rfl, by decide +kernel, by decide +kernel⟩
theorem d__law_map {c : Cn} (T : Tx c) : Df c "_law_map" 1 ["_law_entries", "_law_pairs"] (spMapL ) :=
  T.df 51 51 rfl rfl sc__law_map (fun _ _ _ _ _ _ us hl => match us, hl with | [_, _], _ => rfl) (fun vs H Q E h => by obtain ⟨_, _, _, _, _, e, _⟩ := h; rw [e] <;> rfl) fun f cdv A outer s H vs Q E hr h => by
    refine ⟨_, (pss_cons (ps_set (i := 2) sc__law_map.nd rfl (by first | exact Or.inl rfl | exact Or.inr rfl) (pe_callTy (call_dictT rfl) (by rfl) T.n_dict (by decide +kernel) (pa_cons (pv 0) pa_nil)))
    (pss_cons (ps_for PassesOwn.never rfl (pi_tup (pv 1)) (pg_tup (by rfl) (pgs_cons (pg_name (i := 3) sc__law_map.nd rfl (by first | exact Or.inl rfl | exact Or.inr rfl)) (pgs_cons (pg_name (i := 4) sc__law_map.nd rfl (by first | exact Or.inl rfl | exact Or.inr rfl)) pgs_nil))) (pss_one (ps_dput (hu_of hr) (pv 2) (pv 3) (pv 4) rfl)))
    (pss_one (ps_ret (pe_callTy call_tupleF (by rfl) T.n_tuple (by decide +kernel) (pa_cons (pe_lc (own := [("_law_key", 3)]) (by rfl) sc__law_map.nd (pi_list (pe_callB (call_sortedD rfl) (by rfl) T.n_sorted (by decide +kernel) (pa_cons (pv 2) pa_nil))) (blkOk_by (own := [("_law_key", 3)]) (N := ["_law_entries", "_law_pairs", "_law_known", "_law_key", "_law_value_here"]) (sc := defScope s__law_map) (by decide +kernel)) (fun _ _ _ _ _ => (pg_name (i := 3) sc__law_map.nd rfl (by first | exact Or.inl rfl | exact Or.inr rfl))) (fun _ _ _ _ _ => (pts_one (pt_cmpR op_notN (pe_dget (hu_of hr) (pv 2) (pv 3) (fun _ _ => rfl)) pe_non (nomark _)))) (fun _ _ _ _ _ => (pe_tup (pa_cons (pv 3) (pa_cons (pe_dget (hu_of hr) (pv 2) (pv 3) (fun _ _ => rfl)) pa_nil))))) pa_nil)))))), ?_⟩
    obtain ⟨w1, w2, KS, v1, v2, rfl, hv1, ⟨a, o, ys, rfl, ha, ho⟩, hv2, h64, hKS, k⟩ := h
    obtain ⟨a', xs, ea, ha', hxs⟩ := hv1
    obtain rfl := V.ref.inj ea
    obtain rfl := rd_uniq ha' ha
    obtain ⟨ps, rfl, hps⟩ := pairs_refs (K := c.K) hxs
    refine p_qasg (p_cb (p_cons (p_at (v := .ref a) rfl (p_nil ⟨a, o, ps, _, rfl, ha, ho, hps, fun p hp => ?_⟩))))
    have s1 : Same H (upd H p (.dK (mergeK [] (w1.map fun q => ((Sum.inr q.1 : Key), q.2.v))))) := same_new hp
    have hk1 : DkI (mergeK [] (w1.map fun q => ((Sum.inr q.1 : Key), q.2.v))) KS (sem Mp0 w1) := dk_merge (DkI.nil KS) fun q hq => hKS q (by simp [hq])
    have L1 : Loc (upd H p (.dK (mergeK [] (w1.map fun q => ((Sum.inr q.1 : Key), q.2.v))))) [none, some (wrD w2)] ((L2.start ["_law_entries", "_law_pairs", "_law_known", "_law_key", "_law_value_here"] [V.ref a, v2]).set 2 (some (.ref p))) := ⟨_, _, rfl, _, _, rfl, hv2.to s1, trivial⟩
    refine q_forV (ds := w2.map pairD) (n := 1) L1 rfl (fun i l' H' => Tk (upd H p (.dK (mergeK [] (w1.map fun q => ((Sum.inr q.1 : Key), q.2.v))))) H' ∧ Same H H' ∧ (∃ kvs, H' p = some (.dK kvs) ∧ DkI kvs KS (sem Mp0 (w1 ++ w2.take i))) ∧ l'.length = 5 ∧ l'[2]? = some (some (.ref p))) ⟨Tk.refl _, s1, ⟨_, upd_same, by rw [List.take_zero, List.append_nil]; exact hk1⟩, rfl, rfl⟩ (fun i l' H' h => h.1) ?_ ?_
    · rintro i d v l' H' hi hd ⟨k2, s2, ⟨kvs, h2, hk⟩, hl, l1⟩
      obtain ⟨q, hq, rfl⟩ := map_at hi
      refine g_un2 (d1 := .str q.1) (d2 := q.2.d) hd (G := []) trivial fun v2 w2' hv2 hw2 _ => ?_
      obtain rfl : v2 = .str q.1 := hv2
      obtain rfl := Val.of_dt hw2
      refine r_put (p := q) (a := p) (KS := KS) (kvs := kvs) ?_ h2 hk h64 ?_ ?_ (hKS q (by simp [List.mem_of_getElem? hq])) fun kvs' hk' => ⟨k2.trans (tk_upd h2), same_mut s2 hp, ⟨kvs', upd_same, ?_⟩, by rw [List.length_set, List.length_set]; exact hl, ?_⟩
      · rw [List.getElem?_set_ne (by decide), List.getElem?_set_ne (by decide)]; exact l1
      · rw [List.getElem?_set_ne (by decide), List.getElem?_set_self (by omega)]
      · rw [List.getElem?_set_self (by rw [List.length_set]; omega)]
      · rw [sem_app] at hk' ⊢
        unfold sem at hk' ⊢
        rw [take_fold hq]
        exact hk'
      · rw [List.getElem?_set_ne (by decide), List.getElem?_set_ne (by decide)]; exact l1
    · rintro l' H' ⟨k2, s2, ⟨kvs, h2, hk⟩, hl, l1⟩
      rw [List.length_map, List.take_length] at hk
      exact r_known (j := 2) (i := 3) l1 h2 hk h64 (by decide) (by omega) fun v H1 w e hs hd hn => k v H1 w (s2.trans e) hs hd hn
/-! ### the source -/
def spHeap (c : Cn) : Sp := fun vs H Q _ => ∃ (a : Addr) (ns : List Int), vs = [V.ref a, V.int 51] ∧ SqL c.K H a (ns.map V.int) ∧ ∀ g M H', GenAt H' M g → (∀ x ∈ M, H x = none) → Same H H' → Q (.ref g) H'
theorem ev_abs {l : L2.St} {H : Hp} {te : TE} {i : Int} (h : Ev te l H (.int i)) : Ev (tCB (fun xs H Q => ∃ i, xs = [V.int i] ∧ Q (.int (if i < 0 then -i else i)) H) (tCons te tNil)) l H (.int (if i < 0 then -i else i)) := fun H1 e Q q => h H1 e _ fun v H2 e2 hv => ⟨i, by rw [show v = .int i from hv], q _ H2 e2 rfl⟩
def absI (i : Int) : Int := if i < 0 then -i else i
def absD : PyData → PyData
  | .int i => .int (absI i)
  | d => d
def bigD : PyData → Bool
  | .int i => decide (i ≥ 1000000000000000000)
  | _ => false
theorem cutV_take (xs : List V) (n : Nat) : cutV xs none (some (n : Nat)) = xs.take n := by
  unfold cutV
  rw [sIx_k, HT.sIx_none, List.drop_zero, Nat.sub_zero]
  by_cases h : n ≤ xs.length
  · rw [Nat.min_eq_left h]
  · rw [Nat.min_eq_right (by omega), List.take_of_length_le (Nat.le_refl _), List.take_of_length_le (by omega)]
theorem sql_to {K : PySem.W.Frag} {H H' : Hp} {a : Addr} {xs : List V} (h : SqL K H a xs) (e : Same H H') : SqL K H' a xs := h.imp (rd_to e) id
theorem el_cutL {K : PySem.W.Frag} {l : L2.St} {H : Hp} {a : Addr} {ns : List Int} {n j : Nat} (hl : l[j]? = some (some (.ref a))) (h : SqL K H a (ns.map V.int)) : EvL (tSl (rSlL K) (tVar j) tNoPart (tPart (tC (.int (n : Nat))))) l H ((ns.take n).map .int) := fun H1 e Q q =>
  p_at hl (show tNoPart l H1 _ from (eo_none (l := l) (H := H1)) H1 (Same.refl _) _ fun H2 e2 => (eo_some (ev_int (i := (n : Nat)))) H2 (Same.refl _) _ fun H3 e3 => ⟨a, _, rfl, sql_to h ((e.trans e2).trans e3), fun p hp => q p _ _ (Same.free (e2.trans e3) hp) ((e2.trans e3).trans (same_new hp)) upd_same (by
    rw [cutV_take, ← List.map_take]
    exact Dts.ints _)⟩)
theorem absI_nn (i : Int) : 0 ≤ absI i := by unfold absI; split <;> omega
theorem filter_int (cs : List Int) : kept bigD id (cs.map .int) = (cs.filter fun i => decide (i ≥ 1000000000000000000)).map .int := by
  unfold kept
  rw [List.map_id, List.filter_map]
  rfl
theorem sc__law_heap : FnScope ["_law_script", "_law_base_here", "_law_cells", "_law_cell", "_law_stir"] ["_law_script", "_law_base_here"] (defScope s__law_heap) := ⟨rfl, rfl, rfl, by decide +kernel, rfl, by decide +kernel, by decide +kernel⟩
theorem d__law_heap {c : Cn} (T : Tx c) : Df c "_law_heap" 1 ["_law_script", "_law_base_here"] (spHeap c ) :=
  T.df 43 43 rfl rfl sc__law_heap (fun _ _ _ _ _ _ us hl => match us, hl with | [_, _], _ => rfl) (fun vs H Q E h => by obtain ⟨_, _, e, _⟩ := h; rw [e] <;> rfl) fun f cdv A outer s H vs Q E hr h => by
    refine ⟨_, (pss_cons (ps_setLc (i := 2) (own := [("_law_cell", 3)]) (by rfl) sc__law_heap.nd rfl rfl (sw_true rfl rfl rfl (by decide +kernel)) (pi_list (pe_slice sl_list (pv 0) po_none (po_some pe_int))) (blkOk_by (own := [("_law_cell", 3)]) (N := ["_law_script", "_law_base_here", "_law_cells", "_law_cell", "_law_stir"]) (sc := defScope s__law_heap) (by decide +kernel)) (fun _ _ _ _ _ => (pg_name (i := 3) sc__law_heap.nd rfl (by first | exact Or.inl rfl | exact Or.inr rfl))) (fun _ _ _ _ _ => pts_nil) (fun _ _ _ _ _ => (pe_callB call_abs (by rfl) T.n_abs (by decide +kernel) (pa_cons (pe_callTy call_int1 (by rfl) T.n_int (by decide +kernel) (pa_cons (pv 3) pa_nil)) pa_nil))))
    (pss_cons (ps_set (i := 4) sc__law_heap.nd rfl (by first | exact Or.inl rfl | exact Or.inr rfl) (pe_op op_add pe_int (pe_op op_mul pe_int (pv 1))))
    (pss_cons (ps_for PassesOwn.never rfl (pi_list (pv 2)) (pg_name (i := 3) sc__law_heap.nd rfl (by first | exact Or.inl rfl | exact Or.inr rfl)) (pss_one (ps_set (i := 4) sc__law_heap.nd rfl (by first | exact Or.inl rfl | exact Or.inr rfl) (pe_op op_mod (pe_callTy call_int1 (by rfl) T.n_int (by decide +kernel) (pa_cons (pe_op op_add (pe_op op_add (pe_op op_mul (pv 4) pe_int) (pe_op op_mod (pv 3) pe_int)) pe_int) pa_nil)) pe_int))))
    (pss_one (ps_ret (pe_lst (pa_cons (pe_revL (pe_lc (own := [("_law_cell", 3)]) (by rfl) sc__law_heap.nd (pi_list (pv 2)) (blkOk_by (own := [("_law_cell", 3)]) (N := ["_law_script", "_law_base_here", "_law_cells", "_law_cell", "_law_stir"]) (sc := defScope s__law_heap) (by decide +kernel)) (fun _ _ _ _ _ => (pg_name (i := 3) sc__law_heap.nd rfl (by first | exact Or.inl rfl | exact Or.inr rfl))) (fun _ _ _ _ _ => (pts_one (pt_cmpR op_ge (pv 3) (pe_op op_pow pe_int pe_int) (nomark _)))) (fun _ _ _ _ _ => (pv 3)))) (pa_cons (pv 4) pa_nil)))))))), ?_⟩
    obtain ⟨a, ns, rfl, ha, k⟩ := h
    have L : Loc H [none, some (.int 51), none, none, none] (L2.start ["_law_script", "_law_base_here", "_law_cells", "_law_cell", "_law_stir"] [V.ref a, V.int 51]) := ⟨_, _, rfl, _, _, rfl, rfl, _, _, rfl, _, _, rfl, _, _, rfl, trivial⟩
    refine q_asgN (ds := ((ns.take 63).map absI).map .int) ?_ L rfl fun p xs l1 H1 hp e1 h1 hx1 l12 l1j L1 => ?_
    · have key := el_lcN (K := c.K) (l := L2.start ["_law_script", "_law_base_here", "_law_cells", "_law_cell", "_law_stir"] [V.ref a, V.int 51]) (H := H) (tl := tSl (rSlL c.K) (tVar 0) tNoPart (tPart (tC (.int 63)))) (t := tYes) (te := tCB (fun xs H Q => ∃ i, xs = [V.int i] ∧ Q (.int (if i < 0 then -i else i)) H) (tCons (tCB (fun xs H Q => (∃ i, xs = [V.int i] ∧ Q (.int i) H) ∨ ∃ k, xs = [V.bl k] ∧ Q (.int (if k then 1 else 0)) H) (tCons (tVar 3) tNil)) tNil)) (vs := [3]) (j := 3) (ds := (ns.take 63).map .int) (fun _ => true) absD (el_cutL (n := 63) rfl ha) (by rw [List.length_map, List.length_take]; omega) (fun _ => rfl) (fun i d v H2 e2 hd hdv => ?_)
      · rw [kept_all, List.map_map] at key
        rw [List.map_map]
        exact key
      · obtain ⟨x, hx, rfl⟩ := map_at hd
        exact ⟨et_yes, fun _ => ev_abs (ev_int1 (ev_at rfl hdv))⟩
    have hclen : ((ns.take 63).map absI).length ≤ 63 := by rw [List.length_map, List.length_take]; omega
    have hc0 : ∀ x ∈ (ns.take 63).map absI, 0 ≤ x := fun x hx => by
      obtain ⟨y, _, rfl⟩ := List.mem_map.mp hx
      exact absI_nn y
    generalize (ns.take 63).map absI = cs at hx1 hclen hc0
    refine q_asg (d := .int 93748) ((ev_I0 (ev_int (i := 52387)) (ev_I (C := CMul) (ev_int (i := 811)) (ev_v L1 rfl) (.inl (by decide)))).is rfl) L1 fun v2 H2 e2 _ L2' => ?_
    have l22 : (l1.set 4 (some v2))[2]? = some (some (.ref p)) := by rw [List.getElem?_set_ne (by decide)]; exact l12
    refine q_forL (ds := cs.map .int) l22 (e2 _ _ h1) (fun i l' H' => ∃ s : Int, 0 ≤ s ∧ s < 2147483647 ∧ Same H1 H' ∧ Loc H' [none, some (.int 51), none, none, some (.int s)] l' ∧ l'[2]? = some (some (.ref p))) ⟨93748, by decide, by decide, e2, L2', l22⟩ (fun i l' H' ⟨_, _, _, e, _⟩ => ⟨e _ _ h1, hx1.to e⟩) ?_ ?_
    · rintro i d v l' H' hi hdv ⟨s1, hs0, hs1, e', L3, l32⟩
      obtain ⟨x, hx, rfl⟩ := map_at hi
      have L4 := Loc.set hdv 3 L3
      have hm := Int.emod_nonneg (s1 * 48271 + x % 2147483549 + 29) (show (2147483647 : Int) ≠ 0 by decide)
      have hm2 := Int.emod_lt_of_pos (s1 * 48271 + x % 2147483549 + 29) (show (0 : Int) < 2147483647 by decide)
      refine s_asg (d := .int ((s1 * 48271 + x % 2147483549 + 29) % 2147483647)) (ev_I (C := fun _ j => 0 < j) (ev_int1 (ev_I0 (ev_I0 (ev_I (C := CMul) (ev_v L4 rfl) (ev_int (i := 48271)) (.inr (by decide))) (ev_I (C := fun _ j => 0 < j) (ev_v L4 rfl) (ev_int (i := 2147483549)) (by decide))) (ev_int (i := 29)))) (ev_int (i := 2147483647)) (by decide)) L4 fun v5 H5 e5 _ L5 => ⟨_, hm, hm2, e'.trans e5, L5.wk 3, ?_⟩
      rw [List.getElem?_set_ne (by decide), List.getElem?_set_ne (by decide)]
      exact l32
    · rintro l' H' ⟨s1, hs0, hs1, e', L3, l32⟩
      have hbig : EvL (tLc (iList c.K (tVar 2)) (gName 3) (tTest (tOp (rI0 fun i j => .bl (decide (i ≥ j))) (tVar 3) (tOp (rI CPow fun i j => .int (i ^ j.toNat)) (tC (.int 10)) (tC (.int 18))))) (tVar 3) [3]) l' H' ((cs.filter fun i => decide (i ≥ 1000000000000000000)).map .int) := by
        have key := el_lcL (K := c.K) (l := l') (H := H') (tl := tVar 2) (te := tVar 3) (t := tTest (tOp (rI0 fun i j => .bl (decide (i ≥ j))) (tVar 3) (tOp (rI CPow fun i j => .int (i ^ j.toNat)) (tC (.int 10)) (tC (.int 18))))) (vs := [3]) (j := 3) (ds := cs.map .int) bigD id (vv_at l32) (e' _ _ h1) (hx1.to e') (by rw [List.length_map]; omega) (fun x => by
          show ((l'.set 3 none).set 3 (some x)).set 3 none = l'.set 3 none
          rw [List.set_set, List.set_set]) (fun i d v H2 e2 hd hdv => ?_)
        · rw [filter_int] at key
          exact key
        · obtain ⟨x, hx, rfl⟩ := map_at hd
          have hv3 : ((wipe l' [3]).set 3 (some v))[3]? = some (some v) := List.getElem?_set_self (by
            show 3 < (l'.set 3 none).length
            rw [List.length_set]
            exact Nat.lt_of_lt_of_le (Nat.blt_eq.mp (show Nat.blt 3 5 = true from rfl)) L3.le)
          exact ⟨et_of ((ev_B0 (ev_at hv3 hdv) (ev_I (C := CPow) (ev_int (i := 10)) (ev_int (i := 18)) ⟨by decide, by decide, by decide⟩)).is rfl), fun _ => ev_at hv3 hdv⟩
      refine p_ret (p_lst (p_cons ?_))
      refine (show tLc _ _ _ _ _ l' H' (fun x H1 => ∃ a xs, x = .ref a ∧ SqL c.K H1 a xs ∧ ∀ p, H1 p = none → _) from p_el hbig fun q zs H5 hq e5 h5 hz5 => ⟨q, zs, rfl, SqL.of h5, fun r hr' => ?_⟩)
      have er : Same H5 (upd H5 r (.lst zs.reverse)) := same_new hr'
      refine p_cons (p_ev (ev_v (n := 4) (L3.to (e5.trans er)) rfl) fun v6 H6 e6 hv6 => p_nil ⟨by show 2 ≤ sizeLine; decide, fun g hg => ?_⟩)
      obtain rfl : v6 = .int s1 := hv6
      have eg : Same H6 (upd H6 g (.lst [.ref r, .int s1])) := same_new hg
      have hgr : g ≠ r := (ne_of_none (e6 _ _ upd_same) hg).symm
      have hzs : zs = ((cs.filter fun i => decide (i ≥ 1000000000000000000)).map V.int) := Dts.of_ints hz5
      have eAll := (((e1.trans e').trans e5).trans er).trans e6
      refine k g [g, r] _ ⟨r, (cs.filter fun i => decide (i ≥ 1000000000000000000)).reverse, s1, rfl, hgr, upd_same, ?_, fun x hx => ?_, hs0, hs1, ?_⟩ (fun x hx => ?_) (eAll.trans eg)
      · refine eg _ _ (e6 _ _ ?_)
        rw [upd_same, hzs, List.map_reverse]
      · exact hc0 x (List.mem_filter.mp (List.mem_reverse.mp hx)).1
      · rw [List.length_reverse]
        have := List.length_filter_le (fun i => decide (i ≥ 1000000000000000000)) cs
        omega
      · rcases List.mem_cons.mp hx with rfl | hx
        · exact Same.free eAll hg
        · rw [List.mem_singleton.mp hx]
          exact Same.free ((e1.trans e').trans e5) hr'
end Sp
set_option Elab.async false
set_option linter.all false
set_option maxRecDepth 100000
set_option maxHeartbeats 4000000
namespace Sp
open PySem PySem.Spec PyProof.Rows L2
theorem fr_mut {H H' : Hp} {M : List Addr} {p : Addr} {u : HO} (f : Fr H M H' M) (hp : H p = none) (k : Tk H' (upd H' p u)) : Fr H M (upd H' p u) M := ⟨fun a o ho n => by
    rw [upd_ne (ne_of_none ho hp)]
    exact f.keep a o ho n, fun a m => .inl m, fun a ha => by
    by_cases e : a = p
    · subst e; exact hp
    · rw [upd_ne e] at ha; exact f.dom a ha, f.tk.trans k⟩
theorem gen_upd {H : Hp} {M : List Addr} {g p : Addr} {u : HO} (h : GenAt H M g) (hp : p ∉ M) : GenAt (upd H p u) M g := h.out fun a m o ho => (upd_ne (by rintro rfl; exact hp m)).trans ho
section
variable {K : PySem.W.Frag} {l : L2.St} {H H' : Hp} {te ta : TE} {t u : TT} {b : Bool} {QB : Bool → Hp → Prop} {D : Ends} {tu tw tz : TS}
theorem p_and (h : t l H fun b H1 => if b = true then u l H1 QB else QB false H1) : tAnd t u l H QB := h
theorem p_et (h : EvT t l H b) (k : ∀ H1, Same H H1 → QB b H1) : t l H QB := h H (Same.refl _) QB k
theorem p_qif (h : t l H fun b H1 => if b = true then tu { D with nx := tz D } l H1 else tw { D with nx := tz D } l H1) : tSeq (tIfS t tu tw) tz D l H := h
theorem p_qpar3 {n m o : Nat} {ta : TA} (h : ta l H fun vs H1 => ∃ u v w, vs = [u, v, w] ∧ tz D (((l.set n (some u)).set m (some v)).set o (some w)) H1) : tSeq (tPar3 n m o ta) tz D l H := h
theorem ev_ixS {x : Str} {i : Int} {ch : Nat} (ha : Ev ta l H (.str x)) (hb : Ev te l H (.int i)) (hz : x.cps.size ≤ 1000000) (h : atI x.cps.toList i = some ch) : Ev (tOp rIxS ta te) l H (sg ch) := fun H1 e Q q =>
  ha H1 e _ fun v H2 e2 h2 => hb H2 (e.trans e2) _ fun w H3 e3 h3 => ⟨x, i, ch, h2, h3, Nat.le_trans hz (by decide), h, q _ H3 (e2.trans e3) rfl⟩
end
theorem inV_str (x : Str) : ∀ ks : List Str, inV (.str x) (ks.map V.str) = decide (x ∈ ks)
  | [] => rfl
  | k :: ks => by
    show (eqV (.str k) (.str x) || inV (.str x) (ks.map V.str)) = _
    rw [inV_str x ks]
    show ((k == x) || decide (x ∈ ks)) = _
    by_cases e : k = x
    · subst e
      simp
    · have : (k == x) = false := beq_false_of_ne e
      rw [this, Bool.false_or]
      refine decide_eq_decide.mpr ?_
      rw [List.mem_cons]
      exact ⟨.inr, fun h => h.elim (fun q => absurd q.symm e) id⟩
theorem size_app (x y : Str) : (x ++ y).cps.size = x.cps.size + y.cps.size := by
  show (x.cps ++ y.cps).size = _
  rw [Array.size_append]
theorem mem_app {x y : Str} {c : Nat} (h : c ∈ (x ++ y).cps.toList) : c ∈ x.cps.toList ∨ c ∈ y.cps.toList := by
  have h : c ∈ (x.cps ++ y.cps).toList := h
  rw [Array.toList_append] at h
  exact List.mem_append.mp h
def spKeys : Sp := fun vs H Q _ => ∃ (g : Addr) (M : List Addr) (k : Nat), vs = [V.ref g, V.int (k : Nat)] ∧ GenAt H M g ∧ k ≤ 3 ∧ ∀ (p : Addr) (ks : List Str) H', H p = none → GenAt H' M g → Fr H M H' M → H' p = some (.lst (ks.map V.str)) → ks.Nodup → ks.length ≤ 3 → (∀ x ∈ ks, KeyOk x) → Q (.ref p) H'
theorem sc__law_keys : FnScope ["_law_heap_here", "_law_many", "_law_signs", "_law_stem", "_law_turn", "_law_first", "_law_step", "_law_found", "_law_key"] ["_law_heap_here", "_law_many"] (defScope s__law_keys) := ⟨rfl, rfl, rfl, by decide +kernel, rfl, by decide +kernel, by decide +kernel⟩
theorem d__law_keys {c : Cn} (T : Tx c) : Df c "_law_keys" 3 ["_law_heap_here", "_law_many"] (spKeys ) :=
  T.df 46 46 rfl rfl sc__law_keys (fun _ _ _ _ _ _ us hl => match us, hl with | [_, _], _ => rfl) (fun vs H Q E h => by obtain ⟨_, _, _, e, _⟩ := h; rw [e] <;> rfl) fun f cdv A outer s H vs Q E hr h => by
    refine ⟨_, (pss_cons (ps_set (i := 2) sc__law_keys.nd rfl (by first | exact Or.inl rfl | exact Or.inr rfl) pe_str)
    (pss_cons (ps_set (i := 3) sc__law_keys.nd rfl (by first | exact Or.inl rfl | exact Or.inr rfl) (pe_join pe_str (pe_lc (own := [("_law_turn", 4)]) (by rfl) sc__law_keys.nd (pi_range1 (by rfl) T.n_range (pa_cons (pe_d (d__law_pick T) (hr.mono (by decide)) (pa_cons (pv 0) (pa_cons (pe_lst (pa_cons pe_int (pa_cons pe_int (pa_cons pe_int (pa_cons pe_int (pa_cons pe_int pa_nil)))))) pa_nil))) pa_nil)) (blkOk_by (own := [("_law_turn", 4)]) (N := ["_law_heap_here", "_law_many", "_law_signs", "_law_stem", "_law_turn", "_law_first", "_law_step", "_law_found", "_law_key"]) (sc := defScope s__law_keys) (by decide +kernel)) (fun _ _ _ _ _ => (pg_name (i := 4) sc__law_keys.nd rfl (by first | exact Or.inl rfl | exact Or.inr rfl))) (fun _ _ _ _ _ => pts_nil) (fun _ _ _ _ _ => (pe_d (d__law_pick T) (hr.mono (by decide)) (pa_cons (pv 0) (pa_cons (pv 2) pa_nil)))))))
    (pss_cons (ps_par3 (i := 5) (j := 6) (l := 7) (by rfl) sc__law_keys.nd rfl rfl rfl (by decide) (by decide) (by decide) rfl rfl rfl (pa_cons (pe_d (d__law_draw T) (hr.mono (by decide)) (pa_cons (pv 0) (pa_cons pe_int pa_nil))) (pa_cons (pe_d (d__law_pick T) (hr.mono (by decide)) (pa_cons (pv 0) (pa_cons (pe_lst (pa_cons pe_int (pa_cons pe_int (pa_cons pe_int (pa_cons pe_int pa_nil))))) pa_nil))) (pa_cons (pe_lst pa_nil) pa_nil))) (by rfl))
    (pss_cons (ps_for PassesOwn.never rfl (pi_range1 (by rfl) T.n_range (pa_cons (pv 1) pa_nil)) (pg_name (i := 4) sc__law_keys.nd rfl (by first | exact Or.inl rfl | exact Or.inr rfl)) (pss_cons (ps_set (i := 8) sc__law_keys.nd rfl (by first | exact Or.inl rfl | exact Or.inr rfl) (pe_op op_add_str (pv 3) (pe_ix ix_str (pv 2) (pe_op op_mod (pe_callTy call_int1 (by rfl) T.n_int (by decide +kernel) (pa_cons (pe_op op_add (pv 5) (pe_op op_mul (pv 6) (pv 4))) pa_nil)) pe_int) (fun _ _ => rfl))))
    (pss_cons (ps_if (PW.pt (pw_and (pt_cmpR op_lt (pe_callB call_len_str (by rfl) T.n_len (by decide +kernel) (pa_cons (pv 8) pa_nil)) pe_int (nomark _)) (pw_and1 (pt_cmpR op_eq (pe_d (d__law_draw T) (hr.mono (by decide)) (pa_cons (pv 0) (pa_cons pe_int pa_nil))) pe_int (nomark _))))) (pss_one (ps_set (i := 8) sc__law_keys.nd rfl (by first | exact Or.inl rfl | exact Or.inr rfl) (pe_op op_add_str (pe_op op_add_str (pv 8) (pe_d (d__law_pick T) (hr.mono (by decide)) (pa_cons (pv 0) (pa_cons (pv 2) pa_nil)))) (pe_d (d__law_pick T) (hr.mono (by decide)) (pa_cons (pv 0) (pa_cons (pe_lst (pa_cons pe_str (pa_cons pe_str (pa_cons pe_str pa_nil)))) pa_nil)))))) pss_nil)
    (pss_one (ps_if (pt_cmpR op_notIn_seq (pv 8) (pv 7) (by rfl)) (pss_one (ps_expr (pe_bm PySem.F.plainAttrs_list PySem.F.slot_list_append PySem.F.type_list_append mt_append (pv 7) (pa_cons (pv 8) pa_nil)))) pss_nil)))))
    (pss_one (ps_ret (pv 7))))))), ?_⟩
    obtain ⟨g, M, k0, rfl, hG, hk0, k⟩ := h
    have L : Loc H [none, some (.int (k0 : Nat)), none, none, none, none, none, none, none] (L2.start ["_law_heap_here", "_law_many", "_law_signs", "_law_stem", "_law_turn", "_law_first", "_law_step", "_law_found", "_law_key"] [V.ref g, V.int (k0 : Nat)]) := ⟨_, _, rfl, _, _, rfl, rfl, _, _, rfl, _, _, rfl, _, _, rfl, _, _, rfl, _, _, rfl, _, _, rfl, _, _, rfl, trivial⟩
    refine q_asg (d := .str "0123456789_abcdefghijklmnopqrstuvwxyz") ev_str L fun v1 H1 e1 hv1 L1 => ?_
    obtain rfl : v1 = .str "0123456789_abcdefghijklmnopqrstuvwxyz" := hv1
    refine p_qasg (r_signs (M := M) (g := g) (ds := [0, 0, 1, 2, 15]) (B := 15) (x := "0123456789_abcdefghijklmnopqrstuvwxyz") rfl ⟨rfl, fun _ => rfl⟩ (fun _ => rfl) (fun v H2 => ev_at rfl rfl) (by decide +kernel) (by decide +kernel) (el_lst (ea_cons ev_int (ea_cons ev_int (ea_3 ev_int ev_int ev_int))) (by show 5 ≤ 1000000; decide)) (by decide) (by decide) (by decide) (by decide) (hG.to e1) fun cs H2 hcl hcm hG2 f2 => ?_)
    rw [keyS] at hcm
    have hst : (⟨cs.toArray⟩ : Str).cps.size ≤ 15 := hcl
    have hsm : ∀ c ∈ (⟨cs.toArray⟩ : Str).cps.toList, c ∈ keySigns := hcm
    generalize (⟨cs.toArray⟩ : Str) = stem at hst hsm
    have L2' := Loc.set (d := .str stem) (v := .str stem) rfl 3 (L1.tk f2.tk)
    refine p_qpar3 (p_cons (r_draw (k := 37) rfl (ev_int (i := 37)) (by decide) (by decide) hG2 fun r3 H3 hr3 hG3 f3 => p_cons (r_pickL (ds := [.int 1, .int 2, .int 5, .int 11]) rfl (el_lst (ea_cons ev_int (ea_3 ev_int ev_int ev_int)) (by show 4 ≤ 1000000; decide)) (by show 0 < 4; decide) (by show 4 < 1000; decide) hG3 fun d4 v4 H4 hd4 hv4 hG4 f4 => p_cons (p_lst (p_nil ⟨Nat.zero_le _, fun p hp => p_nil ⟨_, _, _, rfl, ?_⟩⟩)))))
    obtain ⟨st, hst0, rfl⟩ : ∃ st : Nat, st ≤ 11 ∧ d4 = .int (st : Nat) := by
      rcases List.mem_cons.mp hd4 with rfl | hd
      · exact ⟨1, by decide, rfl⟩
      rcases List.mem_cons.mp hd with rfl | hd
      · exact ⟨2, by decide, rfl⟩
      rcases List.mem_cons.mp hd with rfl | hd
      · exact ⟨5, by decide, rfl⟩
      · rw [List.mem_singleton.mp hd]
        exact ⟨11, by decide, rfl⟩
    obtain rfl : v4 = .int (st : Nat) := hv4
    have f04 := ((Fr.of e1 f2).trans f3).trans f4
    have hpH : H p = none := f04.dom p hp
    have hpM : p ∉ M := hG4.fresh hp
    have L4 := Loc.off (v := some (.ref p)) 7 (Loc.set (d := .int (st : Nat)) (v := .int (st : Nat)) rfl 6 (Loc.set (d := .int (r3 : Nat)) (v := .int (r3 : Nat)) rfl 5 (((L2'.tk (f3.tk.trans f4.tk)).to (same_new (u := .lst []) hp)))))
    refine q_forR (k := k0) (ev_v L4 rfl) (by omega) (fun i l' H' => Fr H M H' M ∧ GenAt H' M g ∧ Loc H' [none, some (.int (k0 : Nat)), some (.str "0123456789_abcdefghijklmnopqrstuvwxyz"), some (.str stem), none, some (.int (r3 : Nat)), some (.int (st : Nat)), none, none] l' ∧ l'[0]? = some (some (.ref g)) ∧ l'[7]? = some (some (.ref p)) ∧ ∃ ks : List Str, H' p = some (.lst (ks.map V.str)) ∧ ks.Nodup ∧ ks.length ≤ i ∧ ∀ x ∈ ks, KeyOk x) (fun H5 e5 => ⟨(f04.to (same_new hp)).to e5, (hG4.to (same_new hp)).to e5, L4.to e5, rfl, rfl, [], e5 _ _ upd_same, .nil, Nat.le_refl _, fun _ h => (nomatch h)⟩) ?_ ?_
    · rintro i l' H5 hi ⟨f5, hG5, L5, l50, l57, ks, hks, hn, hkl, hok⟩
      have L6 := Loc.set (d := .int (i : Nat)) (v := .int (i : Nat)) rfl 4 L5
      have hlen5 := L5.le
      have hix : ((((r3 : Nat) : Int) + (st : Nat) * (i : Nat)) % 37) = (((r3 + st * i) % 37 : Nat) : Int) := by omega
      have hlt : (r3 + st * i) % 37 < ("0123456789_abcdefghijklmnopqrstuvwxyz" : Str).cps.toList.length := by
        rw [keyS]
        exact Nat.mod_lt _ (by decide)
      obtain ⟨ch, hch, hcm⟩ : ∃ ch, ("0123456789_abcdefghijklmnopqrstuvwxyz" : Str).cps.toList[(r3 + st * i) % 37]? = some ch ∧ ch ∈ keySigns := by
        refine ⟨_, List.getElem?_eq_getElem hlt, ?_⟩
        have h1 : ∀ c ∈ ("0123456789_abcdefghijklmnopqrstuvwxyz" : Str).cps.toList, c ∈ keySigns := fun c hc => by rw [← keyS]; exact hc
        exact h1 _ (List.getElem_mem hlt)
      refine q_asg (d := .str (stem ++ ⟨#[ch]⟩)) (ev_addS (y := ⟨#[ch]⟩) rfl (ev_v L6 rfl) (ev_ixS (ev_v L6 rfl) (ev_I (C := fun _ j => 0 < j) (ev_int1 (ev_I0 (ev_v L6 rfl) (ev_I (C := CMul) (i := (st : Nat)) (ev_v L6 rfl) (ev_v L6 rfl) (.inl ⟨by omega, by omega⟩)))) (ev_int (i := 37)) (by decide)) (by decide +kernel) (by rw [hix]; exact atI_nat hch)) (by rw [len_k, len_k]; show _ + 1 ≤ _; omega)) L6 fun v7 H7 e7 hv7 L7 => ?_
      obtain rfl : v7 = .str (stem ++ ⟨#[ch]⟩) := hv7
      have hk1 : KeyOk (stem ++ ⟨#[ch]⟩) := ⟨by rw [size_app]; show 1 ≤ _ + 1; omega, by rw [size_app]; show _ + 1 ≤ 16; omega, fun c hc => (mem_app hc).elim (hsm c) fun m => by
        obtain rfl := List.mem_singleton.mp m
        exact hcm⟩
      have l70 : ((l'.set 4 (some (.int (i : Nat)))).set 8 (some (.str (stem ++ ⟨#[ch]⟩))))[0]? = some (some (.ref g)) := by rw [List.getElem?_set_ne (by decide), List.getElem?_set_ne (by decide)]; exact l50
      have l77 : ((l'.set 4 (some (.int (i : Nat)))).set 8 (some (.str (stem ++ ⟨#[ch]⟩))))[7]? = some (some (.ref p)) := by rw [List.getElem?_set_ne (by decide), List.getElem?_set_ne (by decide)]; exact l57
      -- the end: a key is added if it is new
      have fin : ∀ (l2 : List (Option V)) (H2 : Hp) (x : Str) (D : Ends), KeyOk x → l2[8]? = some (some (.str x)) → l2[7]? = some (some (.ref p)) → Fr H M H2 M → GenAt H2 M g → H2 p = some (.lst (ks.map V.str)) → (∀ (H3 : Hp) (ks' : List Str), Fr H M H3 M → GenAt H3 M g → Tk H2 H3 → H3 p = some (.lst (ks'.map V.str)) → ks'.Nodup → ks'.length ≤ i + 1 → (∀ x ∈ ks', KeyOk x) → D.nx l2 H3) →
          tIfS (tTest (tOp (rIn c.K true) (tVar 8) (tVar 7))) (tDrop (tBM c.K "list" rAppend (tVar 7) (tCons (tVar 8) tNil))) tNext D l2 H2 := by
        intro l2 H2 x D hx h8 h7 f2 hG2 hp2 kk
        refine p_if (p_test (p_op (p_at h8 (p_at h7 ⟨p, _, rfl, .inl (SqL.of hp2), rfl, ?_, _, rfl, ?_⟩))))
        · rw [List.all_map, List.all_eq_true]
          intro y _
          rfl
        · rw [if_pos rfl, inV_str]
          by_cases hm : x ∈ ks
          · rw [decide_eq_true hm]
            exact kk H2 ks f2 hG2 (Tk.refl _) hp2 hn (by omega) hok
          · rw [decide_eq_false hm]
            rw [if_pos (show (!false) = true from rfl)]
            refine s_appV (d := .str x) (vv_at h7) hp2 (ev_at h8 rfl) (by rw [List.length_map]; omega) fun v H3 e3 hv => ?_
            obtain rfl : v = .str x := hv
            have hp3 := e3 _ _ hp2
            refine kk _ (ks ++ [x]) (fr_mut (f2.to e3) hpH (tk_upd hp3)) (gen_upd (hG2.to e3) hpM) ((tk_same e3).trans (tk_upd hp3)) (by rw [upd_same, List.map_append]; rfl) ?_ (by rw [List.length_append]; show _ + 1 ≤ _; omega) fun y hy => (List.mem_append.mp hy).elim (hok y) fun m => by rw [List.mem_singleton.mp m]; exact hx
            rw [List.nodup_append]
            refine ⟨hn, by simp, fun a ha b hb => ?_⟩
            rw [List.mem_singleton.mp hb]
            rintro rfl
            exact hm ha
      have hKs : ∀ c ∈ ("0123456789_abcdefghijklmnopqrstuvwxyz" : Str).cps.toList, c ∈ keySigns := fun c hc => by rw [← keyS]; exact hc
      have hks7 := e7 _ _ hks
      have f7 := f5.to e7
      have hG7 := hG5.to e7
      generalize (stem ++ ⟨#[ch]⟩ : Str) = x at hk1 l70 l77 L7 ⊢
      have hlen7 := L7.le
      generalize hl7 : ((l'.set 4 (some (.int (i : Nat)))).set 8 (some (.str x))) = l7 at l70 l77 L7 hlen7 ⊢
      have fin2 : ∀ (H3 : Hp) (l3 : List (Option V)) (ks' : List Str), Loc H3 [none, some (.int (k0 : Nat)), some (.str "0123456789_abcdefghijklmnopqrstuvwxyz"), some (.str stem), none, some (.int (r3 : Nat)), some (.int (st : Nat)), none, none] l3 → l3[0]? = some (some (.ref g)) → l3[7]? = some (some (.ref p)) → Fr H M H3 M → GenAt H3 M g → H3 p = some (.lst (ks'.map V.str)) → ks'.Nodup → ks'.length ≤ i + 1 → (∀ x ∈ ks', KeyOk x) → Fr H M H3 M ∧ GenAt H3 M g ∧ Loc H3 [none, some (.int (k0 : Nat)), some (.str "0123456789_abcdefghijklmnopqrstuvwxyz"), some (.str stem), none, some (.int (r3 : Nat)), some (.int (st : Nat)), none, none] l3 ∧ l3[0]? = some (some (.ref g)) ∧ l3[7]? = some (some (.ref p)) ∧ ∃ ks : List Str, H3 p = some (.lst (ks.map V.str)) ∧ ks.Nodup ∧ ks.length ≤ i + 1 ∧ ∀ x ∈ ks, KeyOk x :=
        fun H3 l3 ks' hL h0 h7 hf hg hp hn' hl' ho => ⟨hf, hg, hL, h0, h7, ks', hp, hn', hl', ho⟩
      have l78 : l7[8]? = some (some (.str x)) := by
        rw [← hl7]
        exact List.getElem?_set_self (by rw [List.length_set]; exact Nat.lt_of_lt_of_le (Nat.blt_eq.mp (show Nat.blt 8 9 = true from rfl)) hlen5)
      have L7' := (L7.wk 4).wk 8
      refine p_qif (p_and (p_et (b := decide (((x.length : Nat) : Int) < 14)) (et_of (ev_B0 (ev_lenS (ev_at (d := .str x) l78 rfl) (by rw [len_k]; have := hk1.len; omega)) (ev_int (i := 14)))) fun H8 e8 => ?_))
      have f8 := f7.to e8
      have hG8 := hG7.to e8
      have hks8 := e8 _ _ hks7
      have fin3 : ∀ (D : Ends) H9, Same H8 H9 ∨ Fr H8 M H9 M → GenAt H9 M g → (∀ H3 (ks' : List Str), Fr H M H3 M → GenAt H3 M g → Loc H3 [none, some (.int (k0 : Nat)), some (.str "0123456789_abcdefghijklmnopqrstuvwxyz"), some (.str stem), none, some (.int (r3 : Nat)), some (.int (st : Nat)), none, none] l7 → H3 p = some (.lst (ks'.map V.str)) → ks'.Nodup → ks'.length ≤ i + 1 → (∀ x ∈ ks', KeyOk x) → D.nx l7 H3) → tIfS (tTest (tOp (rIn c.K true) (tVar 8) (tVar 7))) (tDrop (tBM c.K "list" rAppend (tVar 7) (tCons (tVar 8) tNil))) tNext D l7 H9 := by
        intro D H9 h9 hG9 kk
        have f9 : Fr H8 M H9 M := h9.elim Fr.same id
        exact fin l7 H9 x D hk1 l78 l77 (f8.trans f9) hG9 (f9.out hks8 hpM) fun H3 ks' hf hg hk hp' hn' hl' ho => kk H3 ks' hf hg ((((L7'.to e8).tk f9.tk).tk hk)) hp' hn' hl' ho
      by_cases hlt14 : ((x.length : Nat) : Int) < 14
      · rw [decide_eq_true hlt14, if_pos rfl]
        refine p_test (p_op (r_draw (k := 4) l70 (ev_int (i := 4)) (by decide) (by decide) hG8 fun r9 H9 hr9 hG9 f9 => p_ev (ev_int (i := 0)) fun v10 H10 e10 hv10 => ?_))
        obtain rfl : v10 = .int 0 := hv10
        refine ⟨rfl, _, rfl, ?_⟩
        have f810 := f9.to e10
        split
        · refine p_asg (p_op (p_op (p_at l78 ?_)))
          refine r_pickS (x := "0123456789_abcdefghijklmnopqrstuvwxyz") l70 (ev_v (n := 2) (((L7'.to e8).tk f9.tk).to e10) rfl) (by decide +kernel) (by decide +kernel) (hG9.to e10) fun c1 H11 hc1 hG11 f11 => ⟨x, ⟨#[c1]⟩, rfl, rfl, Nat.le_trans (show x.length + 1 ≤ 1000000 by omega) (by decide), ?_⟩
          refine r_pickL (ds := [.str "", .str "_", .str "0"]) l70 (el_lst (ea_3 ev_str ev_str ev_str) len3) (by show 0 < 3; decide) (by show 3 < 1000; decide) hG11 fun d12 v12 H12 hd12 hv12 hG12 f12 => ?_
          obtain ⟨y, hy, hys, rfl⟩ : ∃ y : Str, y.cps.size ≤ 1 ∧ (∀ c ∈ y.cps.toList, c ∈ keySigns) ∧ d12 = .str y := by
            rcases List.mem_cons.mp hd12 with rfl | hd
            · exact ⟨"", by decide +kernel, by decide +kernel, rfl⟩
            rcases List.mem_cons.mp hd with rfl | hd
            · exact ⟨"_", by decide +kernel, by decide +kernel, rfl⟩
            · rw [List.mem_singleton.mp hd]
              exact ⟨"0", by decide +kernel, by decide +kernel, rfl⟩
          obtain rfl : v12 = .str y := hv12
          have hxl : x.cps.size < 14 := by have : ((x.cps.size : Nat) : Int) < 14 := hlt14; omega
          have hz : (x ++ ⟨#[c1]⟩ : Str).length = x.cps.size + 1 := size_app x ⟨#[c1]⟩
          have hk2 : KeyOk (x ++ ⟨#[c1]⟩ ++ y) := ⟨by rw [size_app, size_app]; show 1 ≤ _ + 1 + _; omega, by rw [size_app, size_app]; show _ + 1 + _ ≤ 16; omega, fun c hc => (mem_app hc).elim (fun hc => (mem_app hc).elim (hk1.sig c) fun m => by
            obtain rfl := List.mem_singleton.mp m
            exact hKs _ hc1) (hys c)⟩
          refine ⟨_, _, rfl, rfl, Nat.le_trans (show _ ≤ 1000000 by rw [hz, len_k]; omega) (by decide), ?_⟩
          have fz := (f810.trans f11).trans f12
          have l98 : (l7.set 8 (some (.str (x ++ ⟨#[c1]⟩ ++ y))))[8]? = some (some (.str (x ++ ⟨#[c1]⟩ ++ y))) := List.getElem?_set_self (Nat.lt_of_lt_of_le (Nat.blt_eq.mp (show Nat.blt 8 9 = true from rfl)) hlen7)
          have l97 : (l7.set 8 (some (.str (x ++ ⟨#[c1]⟩ ++ y))))[7]? = some (some (.ref p)) := by rw [List.getElem?_set_ne (by decide)]; exact l77
          have l90 : (l7.set 8 (some (.str (x ++ ⟨#[c1]⟩ ++ y))))[0]? = some (some (.ref g)) := by rw [List.getElem?_set_ne (by decide)]; exact l70
          refine fin _ H12 _ _ hk2 l98 l97 (f8.trans fz) hG12 (fz.out hks8 hpM) fun H3 ks' hf hg hk hp' hn' hl' ho => fin2 H3 _ ks' ?_ l90 l97 hf hg hp' hn' hl' ho
          exact Loc.off 8 ((((L7'.to e8).tk fz.tk)).tk hk)
        · exact fin3 _ H10 (.inr f810) (hG9.to e10) fun H3 ks' hf hg hL hp' hn' hl' ho => fin2 H3 l7 ks' hL l70 l77 hf hg hp' hn' hl' ho
      · rw [decide_eq_false hlt14, if_neg (by decide), if_neg (by decide)]
        exact fin3 _ H8 (.inl (Same.refl _)) hG8 fun H3 ks' hf hg hL hp' hn' hl' ho => fin2 H3 l7 ks' hL l70 l77 hf hg hp' hn' hl' ho
    · rintro l' H5 ⟨f5, hG5, L5, l50, l57, ks, hks, hn, hkl, hok⟩
      exact p_ret (p_at l57 (k p ks H5 hpH hG5 f5 hks hn (by omega) hok))
end Sp
set_option Elab.async false
set_option linter.all false
set_option maxRecDepth 100000
set_option maxHeartbeats 4000000
namespace Sp
open PySem PySem.Spec PyProof.Rows L2
def rSortQ (K : PySem.W.Frag) : List V → Hp → VK → Prop := fun vs H Q => ∃ (a : Addr) (xs : List Str), vs = [V.ref a] ∧ SqL K H a (xs.map V.str) ∧ xs.length < 64 ∧ ∀ (ys : List Str) (p : Addr), ys.Perm xs → sortedS ys = true → H p = none → Q (.ref p) (upd H p (.lst (ys.map V.str)))
section
variable {K : PySem.W.Frag} {l : L2.St} {H H' : Hp} {te ta tl : TE} {t u : TT} {b : Bool} {Q : VK}
theorem el_sortS {a : Addr} {ks : List Str} (ha : EvV ta l H (.ref a)) (h : H a = some (.lst (ks.map V.str))) (hl : ks.length < 64) (hn : ks.Nodup) : EvL (tCB (rSortQ K) (tCons ta tNil)) l H ((srt ks).map .str) := fun H1 e Q q =>
  ha H1 e _ fun H2 e2 => ⟨a, ks, rfl, SqL.of ((e.trans e2) _ _ h), hl, fun ys p hp hs hpn => by
    rw [srt_only hp hs hn]
    exact q p _ _ (Same.free e2 hpn) (e2.trans (same_new hpn)) upd_same (Dts.strs _)⟩
theorem p_lcL {g : TG} {tt : TT} {tx : TE} {vs : List Nat} (h : tl l H fun x H1 => ∃ a, x = .ref a ∧ (∃ xs, SqL K H1 a xs) ∧ ∀ D, H1 D = none → ∃ W : Nat → Nat → Hp → Prop, (∃ m, W 0 m (upd H1 D (.lst []))) ∧ ∀ i m H, W i m H →
  ((Itl K a).stop i H ∧ Q (.ref D) H) ∨ ((Itl K a).go i H ∧ ∃ Nx : Hp → Prop, (∀ H', Nx H' → ∃ m', m' < m ∧ W (i + 1) m' H') ∧ ∀ x H', (Itl K a).yld i H x H' → g x (wipe l vs) H' fun σ2 H2 => wipe σ2 vs = wipe l vs ∧ tt σ2 H2 fun b H3 =>
    if b = true then tx σ2 H3 fun y H4 => ∃ acc, H4 D = some (.lst acc) ∧ acc.length < sizeLine ∧ Nx (upd H4 D (.lst (acc ++ [y]))) else Nx H3)) : tLc (iList K tl) g tt tx vs l H Q := h
theorem r_lcdV {M : List Addr} {ga a : Addr} {xs : List V} {vs : List Nat} {j : Nat} (hl : EvV tl l H (.ref a)) (ha : H a = some (.lst xs)) (haM : a ∉ M) (hG0 : GenAt H M ga) (Inv : Nat → List PyData → Prop) (hlen : ∀ i ds, Inv i ds → ds.length < 1000000) (h0 : Inv 0 []) (hw : ∀ x, wipe ((wipe l vs).set j (some x)) vs = wipe l vs)
    (hs : ∀ i x H' ds, xs[i]? = some x → Inv i ds → Fr H M H' M → GenAt H' M ga →
      ∀ (N : Hp → Prop) (QE : V → Hp → Prop), (∀ H3, Inv (i + 1) ds → Fr H' M H3 M → GenAt H3 M ga → N H3) → (∀ d v H4, Inv (i + 1) (ds ++ [d]) → Dt H4 d v → Fr H' M H4 M → GenAt H4 M ga → QE v H4) → t ((wipe l vs).set j (some x)) H' fun b H3 => if b = true then te ((wipe l vs).set j (some x)) H3 QE else N H3)
    (q : ∀ p zs ds H2, Inv xs.length ds → H p = none → Fr H M H2 M → GenAt H2 M ga → H2 p = some (.lst zs) → Dts H2 ds zs → Q (.ref p) H2) : tLc (iList K tl) (gName j) t te vs l H Q := by
  refine p_lcL (p_vv hl fun H1 e1 => ⟨a, rfl, ⟨xs, SqL.of (e1 _ _ ha)⟩, ?_⟩)
  refine lcd (M := M) (ga := ga) (Q := Q) (l := l) (vs := vs) (g := gName j) (t := t) (te := te) (walk_list (K := K) (a := a) (xs := xs)) Inv hlen h0 (hG0.to e1) (fun H' f => SqL.of (f.out (e1 _ _ ha) haM)) (fun i x H' H2 ds hi hI f hG hy => ?_) fun p zs ds H2 hI hp f hG h2 hd => q p zs ds H2 hI (Same.free e1 hp) (Fr.of e1 f) hG h2 hd
  obtain ⟨rfl, hx⟩ := hy
  exact ⟨(wipe l vs).set j (some x), fun N hN => hN, hw x, Same.refl _, hs i x _ ds hx hI (Fr.of e1 f) hG⟩
theorem r_lcdN {M : List Addr} {ga : Addr} {ds0 : List PyData} {vs : List Nat} {j : Nat} (hl : EvL tl l H ds0) (hG0 : GenAt H M ga) (Inv : Nat → List PyData → Prop) (hlen : ∀ i ds, Inv i ds → ds.length < 1000000) (h0 : Inv 0 []) (hw : ∀ x, wipe ((wipe l vs).set j (some x)) vs = wipe l vs)
    (hs : ∀ i d0 x H' ds, ds0[i]? = some d0 → Dt H' d0 x → Inv i ds → Fr H M H' M → GenAt H' M ga →
      ∀ (N : Hp → Prop) (QE : V → Hp → Prop), (∀ H3, Inv (i + 1) ds → Fr H' M H3 M → GenAt H3 M ga → N H3) → (∀ d v H4, Inv (i + 1) (ds ++ [d]) → Dt H4 d v → Fr H' M H4 M → GenAt H4 M ga → QE v H4) → t ((wipe l vs).set j (some x)) H' fun b H3 => if b = true then te ((wipe l vs).set j (some x)) H3 QE else N H3)
    (q : ∀ p zs ds H2, Inv ds0.length ds → H p = none → Fr H M H2 M → GenAt H2 M ga → H2 p = some (.lst zs) → Dts H2 ds zs → Q (.ref p) H2) : tLc (iList K tl) (gName j) t te vs l H Q := by
  refine p_lcL (p_el hl fun a xs H1 ha0 e1 ha hx => ⟨a, rfl, ⟨xs, SqL.of ha⟩, ?_⟩)
  have haM := hG0.fresh ha0
  refine lcd (M := M) (ga := ga) (Q := Q) (l := l) (vs := vs) (g := gName j) (t := t) (te := te) (walk_list (K := K) (a := a) (xs := xs)) Inv hlen h0 (hG0.to e1) (fun H' f => SqL.of (f.out ha haM)) (fun i x H' H2 ds hi hI f hG hy => ?_) fun p zs ds H2 hI hp f hG h2 hd => q p zs ds H2 (by rw [hx.len] at hI; exact hI) (Same.free e1 hp) (Fr.of e1 f) hG h2 hd
  obtain ⟨rfl, hx'⟩ := hy
  obtain ⟨d0, hd0, hdv⟩ := (Dts.tk f.tk _ hx).of_get hx'
  exact ⟨(wipe l vs).set j (some x), fun N hN => hN, hw x, Same.refl _, hs i d0 x _ ds hd0 hdv hI (Fr.of e1 f) hG⟩
theorem p_tif (h : t l H fun b H1 => if b = true then ta l H1 Q else te l H1 Q) : tIf t ta te l H Q := h
end
def spWrites : Sp := fun vs H Q _ => ∃ (g : Addr) (M : List Addr) (a : Addr) (ks : List Str), vs = [V.ref g, V.ref a] ∧ GenAt H M g ∧ H a = some (.lst (ks.map V.str)) ∧ a ∉ M ∧ ks.Nodup ∧ ks.length ≤ 3 ∧ (∀ x ∈ ks, KeyOk x) ∧ ∀ (w : Wr) v H', WrOk w → (∀ p ∈ w, p.1 ∈ ks) → Dt H' (wrD w) v → GenAt H' M g → Fr H M H' M → Q v H'
theorem sc__law_writes : FnScope ["_law_heap_here", "_law_keys_here", "_law_some", "_law_key"] ["_law_heap_here", "_law_keys_here"] (defScope s__law_writes) := ⟨rfl, rfl, rfl, by decide +kernel, rfl, by decide +kernel, by decide +kernel⟩
theorem d__law_writes {c : Cn} (T : Tx c) : Df c "_law_writes" 5 ["_law_heap_here", "_law_keys_here"] (spWrites ) :=
  T.df 50 50 rfl rfl sc__law_writes (fun _ _ _ _ _ _ us hl => match us, hl with | [_, _], _ => rfl) (fun vs H Q E h => by obtain ⟨_, _, _, _, e, _⟩ := h; rw [e] <;> rfl) fun f cdv A outer s H vs Q E hr h => by
    refine ⟨_, (pss_cons (ps_setLc (i := 2) (own := [("_law_key", 3)]) (by rfl) sc__law_writes.nd rfl rfl (sw_true rfl rfl rfl (by decide +kernel)) (pi_list (pe_callB cr_sortedS (by rfl) T.n_sorted (by decide +kernel) (pa_cons (pv 1) pa_nil))) (blkOk_by (own := [("_law_key", 3)]) (N := ["_law_heap_here", "_law_keys_here", "_law_some", "_law_key"]) (sc := defScope s__law_writes) (by decide +kernel)) (fun _ _ _ _ _ => (pg_name (i := 3) sc__law_writes.nd rfl (by first | exact Or.inl rfl | exact Or.inr rfl))) (fun _ _ _ _ _ => (pts_one (pt_cmpR op_gt (pe_d (d__law_draw T) (hr.mono (by decide)) (pa_cons (pv 0) (pa_cons pe_int pa_nil))) pe_int (nomark _)))) (fun _ _ _ _ _ => (pv 3)))
    (pss_cons (ps_set (i := 2) sc__law_writes.nd rfl (by first | exact Or.inl rfl | exact Or.inr rfl) (pe_ifExp (pt_cmpR (op_neD hr.units) (pv 2) (pe_lst pa_nil) (nomark _)) (pv 2) (pe_slice sl_list (pv 1) po_none (po_some pe_int))))
    (pss_one (ps_ret (pe_callTy call_tuple_of (by rfl) T.n_tuple (by decide +kernel) (pa_cons (pe_lc (own := [("_law_key", 3)]) (by rfl) sc__law_writes.nd (pi_list (pv 2)) (blkOk_by (own := [("_law_key", 3)]) (N := ["_law_heap_here", "_law_keys_here", "_law_some", "_law_key"]) (sc := defScope s__law_writes) (by decide +kernel)) (fun _ _ _ _ _ => (pg_name (i := 3) sc__law_writes.nd rfl (by first | exact Or.inl rfl | exact Or.inr rfl))) (fun _ _ _ _ _ => pts_nil) (fun _ _ _ _ _ => (pe_tup (pa_cons (pv 3) (pa_cons (pe_ifExp (pt_cmpR op_eq (pe_d (d__law_draw T) (hr.mono (by decide)) (pa_cons (pv 0) (pa_cons pe_int pa_nil))) pe_int (nomark _)) pe_non (pe_d (d__law_value T) (hr.mono (by decide)) (pa_cons (pv 0) pa_nil))) pa_nil))))) pa_nil)))))), ?_⟩
    obtain ⟨g, M, a, ks, rfl, hG, ha, haM, hn, hkl, hok, k⟩ := h
    have hsl : (srt ks).length = ks.length := (srt_perm ks).length_eq
    -- which keys
    refine p_qasg (r_lcdN (M := M) (ga := g) (el_sortS (K := c.K) (ta := tVar 1) (vv_at rfl) ha (by omega) hn) hG (fun n ds => ∃ zs : List Str, ds = zs.map .str ∧ zs.Sublist ((srt ks).take n)) ?_ ⟨[], rfl, List.nil_sublist _⟩ (fun _ => rfl) ?_ ?_)
    · rintro n ds ⟨zs, rfl, hs⟩
      have := hs.length_le
      rw [List.length_take] at this
      rw [List.length_map]
      omega
    · rintro n d0 x H' ds hx hdx ⟨zs, rfl, hs⟩ f' hG' N QE hN hE
      obtain ⟨y, hy, rfl⟩ := map_at hx
      obtain rfl : x = .str y := hdx
      have ht : (srt ks).take (n + 1) = (srt ks).take n ++ [y] := by rw [List.take_add_one, hy]; rfl
      refine p_test (p_op (r_draw (k := 3) rfl (ev_int (i := 3)) (by decide) (by decide) hG' fun r3 H3 hr3 hG3 f3 => p_ev (ev_int (i := 0)) fun v4 H4 e4 hv4 => ?_))
      refine ⟨_, 0, rfl, hv4, _, rfl, ?_⟩
      split
      · exact p_at (v := .str y) rfl (hE (.str y) _ H4 ⟨zs ++ [y], by rw [List.map_append]; rfl, by rw [ht]; exact hs.append (List.Sublist.refl _)⟩ rfl (f3.to e4) (hG3.to e4))
      · exact hN H4 ⟨zs, rfl, by rw [ht]; exact hs.trans (List.sublist_append_left _ _)⟩ (f3.to e4) (hG3.to e4)
    rintro q zs' ds H2 ⟨zs, rfl, hs⟩ hqH f02 hG2 h2 hd2
    have hzs : zs' = zs.map V.str := Dts.of_strs hd2
    subst hzs
    have hs1 : zs.Sublist (srt ks) := hs.trans (List.take_sublist _ _)
    -- some keys at least
    refine p_qasg (p_tif (p_et (b := !(zs.map PyData.str).isEmpty) (et_of (ev_neL (vv_at rfl) h2 (Dts.strs zs) (el_lst ea_nil (by decide)) ?_)) fun H3 e3 => ?_))
    · exact (Sd.lst (n := 0) fun d hd => by
        obtain ⟨x, hx, rfl⟩ := List.mem_map.mp hd
        exact Sd.key (hok x ((srt_perm ks).mem_iff.mp (hs1.subset hx))) 0).shaped
    have rest : ∀ (q2 : Addr) (zs2 : List Str) H4, zs2.Pairwise ltS → (∀ x ∈ zs2, x ∈ ks) → zs2.length ≤ 3 → H4 q2 = some (.lst (zs2.map V.str)) → q2 ∉ M → GenAt H4 M g → Fr H M H4 M →
        tRet (tCB (rTupQ c.K) (tCons (tLc (iList c.K (tVar 2)) (gName 3) tYes (tTup (tCons (tVar 3) (tCons (tIf (tTest (tOp rEq (tCall spDraw [] E0 (tCons (tVar 0) (tCons (tC (.int 3)) tNil))) (tC (.int 0)))) (tC .non) (tCall (spOne isValD ()) [] E0 (tCons (tVar 0) tNil))) tNil))) [3]) tNil)) { nx := fun x H' => Q V.non H', rt := Q } (((L2.start ["_law_heap_here", "_law_keys_here", "_law_some", "_law_key"] [V.ref g, V.ref a]).set 2 (some (.ref q))).set 2 (some (.ref q2))) H4 := by
      intro q2 zs2 H4 hasc hsub hlen hq2 hq2M hG4 f4
      refine p_ret (p_cb (p_cons (r_lcdV (M := M) (ga := g) (a := q2) (xs := zs2.map V.str) (vv_at rfl) hq2 hq2M hG4 (fun n ds => ∃ w : Wr, ds = w.map pairD ∧ w.map (·.1) = zs2.take n ∧ ∀ p ∈ w, ValOk p.2) ?_ ⟨[], rfl, rfl, fun _ h => (nomatch h)⟩ (fun _ => rfl) ?_ ?_)))
      · rintro n ds ⟨w, rfl, hw, _⟩
        have := congrArg List.length hw
        rw [List.length_map, List.length_take] at this
        rw [List.length_map]
        omega
      · rintro n x H5 ds hx ⟨w, rfl, hw, hv⟩ f' hG' N QE hN hE
        obtain ⟨y, hy, rfl⟩ := map_at hx
        unfold tYes
        dsimp only
        rw [if_pos rfl]
        have fin2 : ∀ (x : Val) H6, ValOk x → Fr H5 M H6 M → GenAt H6 M g → [V.str y, x.v].length ≤ sizeLine ∧ ∀ p, H6 p = none → QE (.ref p) (upd H6 p (.tup [V.str y, x.v])) := fun x H6 hx f6 hG6 => ⟨by show 2 ≤ sizeLine; decide, fun p hp6 => hE (pairD (y, x)) _ _ ⟨w ++ [(y, x)], by rw [List.map_append]; rfl, by rw [List.map_append, hw, List.take_add_one, hy]; rfl, fun p hp => (List.mem_append.mp hp).elim (hv p) fun m => by rw [List.mem_singleton.mp m]; exact hx⟩ ⟨p, _, rfl, .inl upd_same, _, _, rfl, rfl, _, _, rfl, x.dt _, rfl⟩ (f6.to (same_new hp6)) (hG6.to (same_new hp6))⟩
        refine p_tup (p_cons (p_at (v := .str y) rfl (p_cons (p_tif (p_test (p_op (r_draw (k := 3) rfl (ev_int (i := 3)) (by decide) (by decide) hG' fun r6 H6 hr6 hG6 f6 => p_ev (ev_int (i := 0)) fun v7 H7 e7 hv7 => ?_)))))))
        obtain rfl : v7 = .int 0 := hv7
        refine ⟨rfl, _, rfl, ?_⟩
        split
        · exact p_ev ev_non fun v8 H8 e8 hv8 => p_nil (by
            obtain rfl : v8 = .non := hv8
            exact fin2 .non H8 trivial ((f6.to e7).to e8) ((hG6.to e7).to e8))
        · refine p_call (p_cons (p_at (v := .ref g) rfl (p_nil ⟨g, M, rfl, hG6.to e7, fun d v H8 hd hv8 hG8 f8 => p_nil ?_⟩)))
          obtain ⟨x, hx, rfl⟩ := hd
          obtain rfl := Val.of_dt hv8
          exact fin2 x H8 hx ((f6.to e7).trans f8) hG8
      · rintro r zs3 ds H5 ⟨w, rfl, hw, hv⟩ hr5 f5 hG5 h5 hd5
        rw [List.length_map, List.take_length] at hw
        refine p_nil ⟨r, zs3, rfl, .inl ⟨SqL.of h5, fun z hz => ?_⟩⟩
        have hmem : ∀ p ∈ w, p.1 ∈ ks := fun p hp => hsub _ (by rw [← hw]; exact List.mem_map.mpr ⟨p, hp, rfl⟩)
        have hwl := congrArg List.length hw
        rw [List.length_map] at hwl
        exact k w _ _ ⟨fun p hp => ⟨hok _ (hmem p hp), hv p hp⟩, by omega, by show (w.map (·.1)).Pairwise ltS; rw [hw]; exact hasc⟩ hmem ⟨z, zs3, rfl, .inl upd_same, hd5.to (same_new hz)⟩ (hG5.to (same_new hz)) ((f4.trans f5).to (same_new hz))
    have hasc := (srt_asc hn).sublist hs1
    have hsub : ∀ x ∈ zs, x ∈ ks := fun x hx => (srt_perm ks).mem_iff.mp (hs1.subset hx)
    have hlen := hs1.length_le
    split
    · exact p_at (v := .ref q) rfl (rest q zs H3 hasc hsub (by omega) (e3 _ _ h2) (hG.fresh hqH) (hG2.to e3) (f02.to e3))
    · have ha3 : H3 a = some (.lst (ks.map V.str)) := e3 _ _ (f02.out ha haM)
      refine p_at (v := .ref a) rfl ?_
      refine ⟨1, rfl, a, _, rfl, SqL.of ha3, fun q2 hq2 => ?_⟩
      refine rest q2 (ks.take 1) _ ?_ (fun x hx => List.mem_of_mem_take hx) (by rw [List.length_take]; omega) (by rw [upd_same, List.map_take]; exact congrArg (fun z => some (HO.lst z)) (cutV_take _ 1)) (hG2.fresh (Same.free e3 hq2)) ((hG2.to e3).to (same_new hq2)) ((f02.to e3).to (same_new hq2))
      match ks with
      | [] => exact .nil
      | x :: _ => exact List.pairwise_singleton _ _
end Sp
set_option Elab.async false
set_option linter.all false
set_option maxRecDepth 100000
set_option maxHeartbeats 4000000
namespace Sp
open PySem PySem.Spec PyProof.Rows L2
/-! ### what a file is after k steps -/
theorem step_full (o : Oct) (w : Deed) (j : Nat) : stepAt (o, w.steps + j) w = (behind o w, j) := by
  unfold stepAt
  dsimp only
  have e : min (w.steps + j) w.steps = w.steps := by omega
  rw [e]
  refine Prod.ext ?_ (by dsimp only; omega)
  dsimp only
  by_cases h : 0 < w.steps
  · rw [if_pos h, if_pos rfl]
  · rw [if_neg h]
    cases w with
    | keep n => exact absurd (show 0 < 1 by decide) h
    | add x =>
      have : x = [] := List.length_eq_zero_iff.mp (by have : ¬ 0 < x.length := h; omega)
      subst this
      show o = o ++ []
      rw [List.append_nil]
theorem fold_full : ∀ (ds : List Deed) (o : Oct) (j : Nat), ds.foldl stepAt (o, (ds.map Deed.steps).sum + j) = (ds.foldl behind o, j)
  | [], o, j => by simp
  | d :: ds, o, j => by
    show ds.foldl stepAt (stepAt (o, ((d :: ds).map Deed.steps).sum + j) d) = _
    rw [List.map_cons, List.sum_cons, Nat.add_assoc, step_full]
    exact fold_full ds (behind o d) j
theorem fold_left : ∀ (ds : List Deed) (s : Oct × Nat), (ds.foldl stepAt s).2 = s.2 - (ds.map Deed.steps).sum
  | [], s => by simp
  | d :: ds, s => by
    show (ds.foldl stepAt (stepAt s d)).2 = _
    rw [fold_left ds, List.map_cons, List.sum_cons]
    show s.2 - min s.2 d.steps - _ = _
    omega
theorem step_zero (o : Oct) (w : Deed) : (stepAt (o, 0) w).1 = o := by
  unfold stepAt
  dsimp only
  rw [Nat.zero_min]
  rfl
theorem FM.at_last (f : FM) : f.at f.steps = f.cur := by
  unfold FM.at FM.steps FM.cur
  have := fold_full f.de f.sy 0
  rw [Nat.add_zero] at this
  rw [this]
theorem FM.steps_push (f : FM) (w : Deed) : (f.push w).steps = f.steps + w.steps := by
  unfold FM.push FM.steps
  simp
theorem FM.cur_push (f : FM) (w : Deed) : (f.push w).cur = behind f.cur w := by
  unfold FM.push FM.cur
  rw [List.foldl_append]
  rfl
theorem FM.at_push_le (f : FM) (w : Deed) {k : Nat} (h : k ≤ f.steps) : (f.push w).at k = f.at k := by
  unfold FM.push FM.at
  rw [List.foldl_append]
  show (stepAt (f.de.foldl stepAt (f.sy, k)) w).1 = _
  have h2 := fold_left f.de (f.sy, k)
  have h0 : (f.de.foldl stepAt (f.sy, k)).2 = 0 := by
    rw [h2]
    unfold FM.steps at h
    dsimp only
    omega
  generalize f.de.foldl stepAt (f.sy, k) = s at h0 ⊢
  obtain ⟨o, n⟩ := s
  have h0 : n = 0 := h0
  subst h0
  exact step_zero o w
theorem FM.at_push_add (f : FM) (x : Oct) {j : Nat} (h0 : 0 < j) (hj : j ≤ x.length) : (f.push (.add x)).at (f.steps + j) = f.cur ++ x.take j := by
  unfold FM.push FM.at FM.steps
  rw [List.foldl_append, fold_full]
  show (stepAt (f.cur, j) (.add x)).1 = _
  unfold stepAt
  dsimp only
  have es : Deed.steps (.add x) = x.length := rfl
  have e : min j (Deed.steps (.add x)) = j := by rw [es]; omega
  rw [e, if_pos h0]
  split
  · next h =>
    rw [es] at h
    show f.cur ++ x = _
    rw [h, List.take_length]
  · rfl
theorem FM.at_push_keep (f : FM) (n : Nat) : (f.push (.keep n)).at (f.steps + 1) = f.cur.take n := by
  unfold FM.push FM.at FM.steps
  rw [List.foldl_append, fold_full]
  show (stepAt (f.cur, 1) (.keep n)).1 = _
  rfl
theorem FM.at_zero (f : FM) : f.at 0 = f.sy := by
  unfold FM.at
  generalize f.sy = o
  induction f.de with
  | nil => rfl
  | cons d ds ih =>
    show (ds.foldl stepAt (stepAt (o, 0) d)).1 = o
    have : stepAt (o, 0) d = (o, 0) := Prod.ext (step_zero o d) (by show 0 - min 0 _ = 0; omega)
    rw [this]
    exact ih
theorem FM.at_len (f : FM) (k : Nat) : (f.at k).length ≤ f.bnd := foldAt_len f.de (f.sy, k)
theorem FM.cur_len (f : FM) : f.cur.length ≤ f.bnd := fold_len f.de f.sy
/-! ### rows that tell what a file is at each step -/
/-- row k tells f.at k -/
structure Rows {α : Type} (P : Oct → α → Prop) (f : FM) (rows : List α) : Prop where
  len : rows.length = f.many
  row : ∀ k r, rows[k]? = some r → P (f.at k) r
section
variable {α : Type} {P P' : Oct → α → Prop} {f : FM} {rows : List α}
theorem Rows.imp (h : Rows P f rows) (hp : ∀ o r, P o r → P' o r) : Rows P' f rows := ⟨h.len, fun k r e => hp _ _ (h.row k r e)⟩
theorem Rows.one {o : Oct} {r : α} (h : P o r) : Rows P ⟨o, []⟩ [r] := ⟨rfl, fun k r' e => by
  match k, e with
  | 0, e =>
    obtain rfl : r = r' := Option.some.inj e
    exact h
  | k + 1, e => simp at e⟩
theorem Rows.last (h : Rows P f rows) : ∃ r, rows.getLast? = some r ∧ rows[f.steps]? = some r ∧ P f.cur r := by
  have hl := h.len
  unfold FM.many at hl
  have hi : f.steps < rows.length := by omega
  have hr : rows[f.steps]? = some rows[f.steps] := List.getElem?_eq_getElem hi
  refine ⟨rows[f.steps], ?_, hr, ?_⟩
  · rw [List.getLast?_eq_getElem?, show rows.length - 1 = f.steps by omega]
    exact hr
  · rw [← f.at_last]
    exact h.row _ _ hr
theorem Rows.first (h : Rows P f rows) : ∃ r rs, rows = r :: rs ∧ P f.sy r := by
  have hl := h.len
  unfold FM.many at hl
  match rows, hl, h with
  | [], hl, _ =>
    have hl : 0 = 1 + f.steps := hl
    omega
  | r :: rs, _, h => exact ⟨r, rs, rfl, by rw [← f.at_zero]; exact h.row 0 r rfl⟩
theorem Rows.sync (h : Rows P f rows) {r : α} (e : rows.getLast? = some r) : Rows P f.sync [r] := by
  obtain ⟨r', e1, _, e3⟩ := h.last
  rw [e] at e1
  obtain rfl := Option.some.inj e1
  exact Rows.one e3
theorem Rows.keep (h : Rows P f rows) {n : Nat} {r : α} (hr : P (f.cur.take n) r) : Rows P (f.push (.keep n)) (rows ++ [r]) := by
  have hl := h.len
  unfold FM.many at hl
  refine ⟨?_, fun k r' e => ?_⟩
  · unfold FM.many
    rw [FM.steps_push, List.length_append, hl]
    show 1 + f.steps + 1 = 1 + (f.steps + 1)
    omega
  · by_cases hk : k < rows.length
    · rw [List.getElem?_append_left hk] at e
      rw [FM.at_push_le _ _ (by omega)]
      exact h.row k r' e
    · have hk2 := (List.getElem?_eq_some_iff.mp e).1
      rw [List.length_append] at hk2
      have hk3 : k = f.steps + 1 := by have : [r].length = 1 := rfl; omega
      subst hk3
      rw [List.getElem?_append_right (by omega), show f.steps + 1 - rows.length = 0 by omega] at e
      obtain rfl : r = r' := Option.some.inj e
      rw [FM.at_push_keep]
      exact hr
theorem Rows.add (h : Rows P f rows) {x : Oct} {rs : List α} (hlen : rs.length = x.length) (hr : ∀ j r, rs[j]? = some r → P (f.cur ++ x.take (j + 1)) r) : Rows P (f.push (.add x)) (rows ++ rs) := by
  have hl := h.len
  unfold FM.many at hl
  refine ⟨?_, fun k r' e => ?_⟩
  · unfold FM.many
    rw [FM.steps_push, List.length_append, hl, hlen]
    show 1 + f.steps + x.length = 1 + (f.steps + x.length)
    omega
  · by_cases hk : k < rows.length
    · rw [List.getElem?_append_left hk] at e
      rw [FM.at_push_le _ _ (by omega)]
      exact h.row k r' e
    · rw [List.getElem?_append_right (by omega)] at e
      have hj := (List.getElem?_eq_some_iff.mp e).1
      have := hr _ _ e
      rw [show k = f.steps + (k - rows.length + 1) by omega, FM.at_push_add f x (by omega) (by omega)]
      exact this
end
end Sp
set_option Elab.async false
set_option linter.all false
set_option maxRecDepth 100000
set_option maxHeartbeats 4000000
namespace Sp
open PySem PySem.Spec PyProof.Rows L2
abbrev IRow := Int × Nat
abbrev LRow := Nat × Nat × Nat
/-- the map after t writes -/
def Fm (W : List Wr) (t : Nat) : Mp := sem Mp0 (W.take t).flatten
structure KsOk (ks : List Str) : Prop where
  nd : ks.Nodup
  len : ks.length ≤ 3
  ok : ∀ x ∈ ks, KeyOk x
def WsOk (ks : List Str) (W : List Wr) : Prop := ∀ w ∈ W, WrOk w ∧ ∀ p ∈ w, p.1 ∈ ks
theorem Fm.isIn {ks : List Str} {W : List Wr} (h : WsOk ks W) (t : Nat) : Mp.In (Fm W t) ks := (Mp.In.zero ks).all fun p hp => by
  obtain ⟨w, hw, hpw⟩ := List.mem_flatten.mp hp
  have hw := List.mem_of_mem_take hw
  exact ⟨(h w hw).2 p hpw, ((h w hw).1.ok p hpw).2⟩
theorem IsMap.ok {ks : List Str} {f : Mp} {w : Wr} (hk : KsOk ks) (h : IsMap f w) (hi : Mp.In f ks) : WrOk w ∧ Full w ∧ ∀ p ∈ w, p.1 ∈ ks := by
  have hm : ∀ p ∈ w, f p.1 = some p.2 := fun p hp => (h.mem p.1 p.2).mp hp
  have hkk : ∀ p ∈ w, p.1 ∈ ks := fun p hp => hi.key _ _ (hm p hp)
  exact ⟨⟨fun p hp => ⟨hk.ok _ (hkk p hp), (hi.val _ _ (hm p hp)).2⟩, Nat.le_trans (h.len hi) hk.len, h.asc⟩, fun p hp => (hi.val _ _ (hm p hp)).1, hkk⟩
theorem Fm_app {W V : List Wr} {t : Nat} (h : t ≤ W.length) : Fm (W ++ V) t = Fm W t := by
  unfold Fm
  rw [List.take_append_of_le_length h]
theorem Fm_take {W : List Wr} {t u : Nat} (h : t ≤ u) : Fm (W.take u) t = Fm W t := by
  unfold Fm
  rw [List.take_take, Nat.min_eq_left h]
theorem Fm_add {W : List Wr} (t n : Nat) : Fm W (t + n) = sem (Fm W t) ((W.drop t).take n).flatten := by
  unfold Fm
  rw [List.take_add, List.flatten_append, sem_app]
/-! ### rows -/
def imOf (W : List Wr) (r : IRow) : Option (Nat × Wr) → Prop
  | none => r.1 = -1
  | some (s, w) => r.1 = (s : Int) ∧ s ≤ W.length ∧ IsMap (Fm W s) w
def ImgRow (W : List Wr) (o : Oct) (r : IRow) : Prop := o.length = r.2 ∧ ∃ im, ImgQ (o, im) ∧ imOf W r im
structure LogIs (W : List Wr) (b0 : Nat) (o : Oct) (r : LRow) (lo : Nat) (ws : List Wr) (b : Oct) (t : Nat) : Prop where
  ho : o = recs (lo + 1) ws ++ (frame b).take t
  hb : b.length ≤ 65535
  ht : t < (frame b).length
  hf : r.2.1 = (recs (lo + 1) ws).length
  hw : ws = (W.drop lo).take ws.length
  hl : lo + ws.length ≤ W.length
  hlast : (ws = [] ∧ r.1 = 0) ∨ (ws ≠ [] ∧ lo ≤ b0 ∧ r.1 = lo + ws.length)
def LogRow (W : List Wr) (b0 : Nat) (o : Oct) (r : LRow) : Prop := o.length = r.2.2 ∧ ∃ lo ws b t, LogIs W b0 o r lo ws b t
theorem ImgRow.app {W V : List Wr} {o : Oct} {r : IRow} (h : ImgRow W o r) : ImgRow (W ++ V) o r := by
  obtain ⟨h1, im, h2, h3⟩ := h
  refine ⟨h1, im, h2, ?_⟩
  cases im with
  | none => exact h3
  | some p => exact ⟨h3.1, by rw [List.length_append]; have := h3.2.1; omega, by rw [Fm_app h3.2.1]; exact h3.2.2⟩
theorem ImgRow.tak {W : List Wr} {o : Oct} {r : IRow} {u : Nat} (h : ImgRow W o r) (hu : r.1 ≤ (u : Int)) : ImgRow (W.take u) o r := by
  obtain ⟨h1, im, h2, h3⟩ := h
  refine ⟨h1, im, h2, ?_⟩
  cases im with
  | none => exact h3
  | some p =>
    obtain ⟨s, w⟩ := p
    obtain ⟨e1, e2, e3⟩ := h3
    have hsu : s ≤ u := by omega
    exact ⟨e1, by rw [List.length_take]; omega, by rw [Fm_take hsu]; exact e3⟩
theorem LogRow.app {W V : List Wr} {b0 b1 : Nat} {o : Oct} {r : LRow} (h : LogRow W b0 o r) (hb : b0 ≤ b1) : LogRow (W ++ V) b1 o r := by
  obtain ⟨h1, lo, ws, b, t, h⟩ := h
  refine ⟨h1, lo, ws, b, t, h.ho, h.hb, h.ht, h.hf, ?_, by rw [List.length_append]; have := h.hl; omega, h.hlast.imp id fun ⟨a, c, d⟩ => ⟨a, by omega, d⟩⟩
  have := h.hl
  rw [List.drop_append_of_le_length (by omega), List.take_append_of_le_length (by rw [List.length_drop]; omega)]
  exact h.hw
theorem LogRow.mono {W : List Wr} {b0 b1 : Nat} {o : Oct} {r : LRow} (h : LogRow W b0 o r) (hb : b0 ≤ b1) : LogRow W b1 o r := by
  have := h.app (V := []) hb
  rwa [List.append_nil] at this
theorem LogRow.zero (W : List Wr) (b0 : Nat) : LogRow W b0 [] (0, 0, 0) := ⟨rfl, 0, [], [], 0, rfl, by decide, by decide, rfl, rfl, Nat.zero_le _, .inl ⟨rfl, rfl⟩⟩
theorem ImgRow.none (W : List Wr) : ImgRow W [] (-1, 0) := ⟨rfl, Option.none, ⟨[], 0, by decide, by decide, rfl⟩, rfl⟩
/-! ### the base of two images -/
theorem baseOf_is {W : List Wr} {ks : List Str} {im0 im1 : Option (Nat × Wr)} {r0 r1 : IRow} (hW : WsOk ks W) (h0 : imOf W r0 im0) (h1 : imOf W r1 im1) :
    ((baseOf im0 im1).2.1 : Int) = max 0 (max r0.1 r1.1) ∧ (baseOf im0 im1).2.1 ≤ W.length ∧ IsMap (Fm W (baseOf im0 im1).2.1) (baseOf im0 im1).2.2 ∧ (if (baseOf im0 im1).1 = some 0 then 1 else 0 : Nat) = if r0.1 < 0 ∨ r1.1 > r0.1 then 0 else 1 := by
  have hz : IsMap (Fm W 0) [] := ⟨.nil, fun k v => ⟨fun h => (nomatch h), fun h => by
    have h : Mp0 k = some v := h
    cases h⟩⟩
  cases im0 with
  | none =>
    have h0 : r0.1 = -1 := h0
    cases im1 with
    | none =>
      have h1 : r1.1 = -1 := h1
      refine ⟨by show (0 : Int) = _; omega, Nat.zero_le _, hz, ?_⟩
      rw [if_pos (c := r0.1 < 0 ∨ r1.1 > r0.1) (.inl (by omega))]
      rfl
    | some p =>
      obtain ⟨s, w⟩ := p
      obtain ⟨e1, e2, e3⟩ := h1
      refine ⟨by show (s : Int) = _; omega, e2, e3, ?_⟩
      rw [if_pos (c := r0.1 < 0 ∨ r1.1 > r0.1) (.inl (by omega))]
      rfl
  | some p =>
    obtain ⟨s, w⟩ := p
    obtain ⟨e1, e2, e3⟩ := h0
    cases im1 with
    | none =>
      have h1 : r1.1 = -1 := h1
      refine ⟨by show (s : Int) = _; omega, e2, e3, ?_⟩
      rw [if_neg (c := r0.1 < 0 ∨ r1.1 > r0.1) (by omega)]
      rfl
    | some p =>
      obtain ⟨s1, w1⟩ := p
      obtain ⟨g1, g2, g3⟩ := h1
      by_cases hlt : s < s1
      · have eb : baseOf (some (s, w)) (some (s1, w1)) = (some 1, s1, w1) := if_pos (.inr hlt)
        rw [eb]
        refine ⟨by show (s1 : Int) = _; omega, g2, g3, ?_⟩
        rw [if_pos (c := r0.1 < 0 ∨ r1.1 > r0.1) (.inr (by omega))]
        rfl
      · have eb : baseOf (some (s, w)) (some (s1, w1)) = (some 0, s, w) := if_neg (by rintro (h | h); cases h; exact hlt h)
        rw [eb]
        refine ⟨by show (s : Int) = _; omega, e2, e3, ?_⟩
        rw [if_neg (c := r0.1 < 0 ∨ r1.1 > r0.1) (by omega)]
        rfl
/-! ### what is recovered of a choice of rows -/
structure Got (ks : List Str) (W : List Wr) (o0 o1 o2 : Oct) (r0 r1 : IRow) (rl : LRow) (d : Dk') : Prop where
  o0 : d.o0 = o0
  o1 : d.o1 = o1
  log : d.log = o2
  q : OpenQ d
  base : ((d.base.2.1 : Nat) : Int) = max 0 (max r0.1 r1.1)
  stamp : d.stamp = max d.base.2.1 rl.1
  map : d.map = Fm W d.stamp
  le : d.stamp ≤ W.length
  fin : d.fin = if d.base.2.1 < rl.1 then rl.2.1 else 0
theorem got {ks : List Str} {W : List Wr} {o0 o1 o2 : Oct} {r0 r1 : IRow} {rl : LRow} {b0 : Nat} (hk : KsOk ks) (hW : WsOk ks W) (hl : W.length ≤ 5000) (h0 : ImgRow W o0 r0) (h1 : ImgRow W o1 r1) (h2 : LogRow W b0 o2 rl) (hb : (b0 : Int) ≤ max 0 (max r0.1 r1.1)) (l0 : o0.length ≤ 900000) (l1 : o1.length ≤ 900000) (l2 : o2.length ≤ 900000) : ∃ d, Got ks W o0 o1 o2 r0 r1 rl d := by
  obtain ⟨_, im0, q0, i0⟩ := h0
  obtain ⟨_, im1, q1, i1⟩ := h1
  obtain ⟨_, lo, ws, b, t, hL⟩ := h2
  obtain ⟨hb1, hb2, hb3, _⟩ := baseOf_is hW i0 i1
  have hle := hL.hl
  have hwsW : ∀ w ∈ ws, w ∈ W := fun w hw => by
    rw [hL.hw] at hw
    exact List.mem_of_mem_drop (List.mem_of_mem_take hw)
  obtain ⟨m1, m2, m3⟩ := hb3.ok hk (Fm.isIn hW _)
  have hhd : ws = [] ∨ lo ≤ (baseOf im0 im1).2.1 := hL.hlast.imp And.left fun ⟨_, a, _⟩ => by omega
  refine ⟨⟨o0, o1, im0, im1, lo, ws, b, t⟩, rfl, rfl, hL.ho.symm, ⟨⟨⟨q0, q1, ⟨by show lo + 1 + ws.length < 1000000; omega, by show ws.length ≤ 10000; omega, fun w hw => (hW w (hwsW w hw)).1, hL.hb, hL.ht⟩, hhd⟩, ks, by have := hk.len; omega, fun p hp => ?_⟩, l0, l1, by rw [show (⟨o0, o1, im0, im1, lo, ws, b, t⟩ : Dk').log = o2 from hL.ho.symm]; exact l2⟩, hb1, ?_, ?_, ?_, ?_⟩
  · rcases List.mem_append.mp hp with m | m
    · exact m3 p m
    · obtain ⟨w, hw, hpw⟩ := List.mem_flatten.mp m
      exact (hW w (hwsW w (List.mem_of_mem_drop hw))).2 p hpw
  all_goals
    have hbase : (⟨o0, o1, im0, im1, lo, ws, b, t⟩ : Dk').base = baseOf im0 im1 := rfl
    have hlater : (⟨o0, o1, im0, im1, lo, ws, b, t⟩ : Dk').later = ws.drop ((baseOf im0 im1).2.1 - lo) := rfl
    have hll : (ws.drop ((baseOf im0 im1).2.1 - lo)).length = ws.length - ((baseOf im0 im1).2.1 - lo) := List.length_drop
    have hst : (⟨o0, o1, im0, im1, lo, ws, b, t⟩ : Dk').stamp = (baseOf im0 im1).2.1 + (ws.length - ((baseOf im0 im1).2.1 - lo)) := by
      rw [← hll]
      rfl
  · rw [hst, hbase]
    rcases hL.hlast with ⟨rfl, e⟩ | ⟨hne, _, e⟩
    · rw [e]
      simp
    · rw [e]
      have : 0 < ws.length := List.length_pos_iff.mpr hne
      rcases hhd with h | h
      · exact absurd h hne
      · omega
  · rw [hst]
    unfold Dk'.map
    rw [hbase, hlater, sem_app, hb3.sem (Fm.isIn hW _), Fm_add]
    congr 2
    rcases hL.hlast with ⟨rfl, e⟩ | ⟨hne, _, e⟩
    · simp
    · have hlo : lo ≤ (baseOf im0 im1).2.1 := hhd.resolve_left hne
      conv => lhs; rw [hL.hw]
      rw [List.drop_take, List.drop_drop, show lo + ((baseOf im0 im1).2.1 - lo) = (baseOf im0 im1).2.1 by omega]
  · rw [hst]
    rcases hL.hlast with ⟨rfl, e⟩ | ⟨hne, _, e⟩
    · simp only [List.length_nil]
      omega
    · have hlo : lo ≤ (baseOf im0 im1).2.1 := hhd.resolve_left hne
      omega
  · unfold Dk'.fin
    rw [hbase, hlater, hL.hf]
    have hnil : ws.drop ((baseOf im0 im1).2.1 - lo) = [] ↔ ¬ (baseOf im0 im1).2.1 < rl.1 := by
      rw [← List.length_eq_zero_iff, hll]
      rcases hL.hlast with ⟨rfl, e⟩ | ⟨hne, _, e⟩
      · rw [e]
        simp
      · have hlo : lo ≤ (baseOf im0 im1).2.1 := hhd.resolve_left hne
        have : 0 < ws.length := List.length_pos_iff.mpr hne
        omega
    by_cases h : (baseOf im0 im1).2.1 < rl.1
    · rw [if_pos h, if_neg (fun e => hnil.mp e h)]
    · rw [if_neg h, if_pos (hnil.mpr h)]
end Sp
set_option Elab.async false
set_option linter.all false
set_option maxRecDepth 100000
set_option maxHeartbeats 4000000
namespace Sp
open PySem PySem.Spec PyProof.Rows L2
/-! ### the law's state -/
structure LM where
  J : JM
  ms : List Wr
  im0 : List IRow
  im1 : List IRow
  lg : List LRow
namespace LM
def a0 (S : LM) : Int := (S.im0.head?.getD (-1, 0)).1
def a1 (S : LM) : Int := (S.im1.head?.getD (-1, 0)).1
def b0 (S : LM) : Nat := (max 0 (max S.a0 S.a1)).toNat
def place (S : LM) : Nat := if S.a0 < 0 ∨ S.a1 > S.a0 then 0 else 1
def last (S : LM) : LRow := S.lg.getLast?.getD (0, 0, 0)
def im (S : LM) (p : Nat) : List IRow := if p = 0 then S.im0 else S.im1
end LM
structure LInv (ks : List Str) (n : Nat) (W : List Wr) (S : LM) : Prop where
  f3 : S.J.F.length = 3
  bnd : ∀ f ∈ S.J.F, f.bnd ≤ 500 * n ∧ f.de.length ≤ 5 * n
  wok : WsOk ks W
  wl : W.length ≤ n
  msl : S.ms.length = W.length + 1
  ms : ∀ t w, S.ms[t]? = some w → IsMap (Fm W t) w
  st : S.J.stamp = W.length
  jw : IsMap (Fm W W.length) S.J.w
  r0 : Rows (ImgRow W) (S.J.f 0) S.im0
  r1 : Rows (ImgRow W) (S.J.f 1) S.im1
  r2 : Rows (LogRow W S.b0) (S.J.f 2) S.lg
  ll : S.last.2.1 = S.last.2.2 ∧ ((0 < S.last.2.2 ∧ S.last.1 = W.length) ∨ (S.last.2.2 = 0 ∧ W.length = S.b0))
  dr0 : S.J.drawn = none → S.im0.length = 1 ∧ S.im1.length = 1
  dr : ∀ p s, S.J.drawn = some (p, s) → p = S.place ∧ S.b0 ≤ s ∧ s ≤ W.length ∧ (S.im (1 - p)).length = 1 ∧ ∃ z, (S.im p).getLast? = some ((s : Int), z)
theorem LInv.f3s {ks : List Str} {n : Nat} {W : List Wr} {S : LM} (h : LInv ks n W S) (hn : n ≤ 1000) : F3s S.J.F := ⟨h.f3, fun f hf => ⟨by have := (h.bnd f hf).1; omega, by have := (h.bnd f hf).2; omega⟩⟩
theorem mem_f {ks : List Str} {n : Nat} {W : List Wr} {S : LM} (h : LInv ks n W S) {i : Nat} (hi : i < 3) : S.J.f i ∈ S.J.F ∧ S.J.F[i]? = some (S.J.f i) := by
  have hi' : i < S.J.F.length := by rw [h.f3]; exact hi
  have e : S.J.F[i]? = some (S.J.f i) := by
    unfold JM.f
    rw [List.getD_eq_getElem?_getD, List.getElem?_eq_getElem hi']
    rfl
  exact ⟨List.mem_of_getElem? e, e⟩
theorem setF_f {J : JM} {i j : Nat} {g : FM} (hl : J.F.length = 3) (hi : i < 3) : (J.setF i g).f j = if j = i then g else J.f j := by
  unfold JM.f JM.setF
  dsimp only
  rw [List.getD_eq_getElem?_getD, List.getD_eq_getElem?_getD]
  by_cases e : j = i
  · subst e
    rw [if_pos rfl, List.getElem?_set_self (by omega)]
    rfl
  · rw [if_neg e, List.getElem?_set_ne (fun q => e q.symm)]
theorem head_app {α : Type} {l : List α} {r : List α} (h : l ≠ []) : (l ++ r).head? = l.head? := by
  cases l with
  | nil => exact absurd rfl h
  | cons x xs => rfl
theorem rec_pos (s : Nat) (w : Wr) : 0 < (rec_ s w).length := by unfold rec_; rw [frame_len]; omega
theorem LogIs.app {W V : List Wr} {b0 b1 : Nat} {o : Oct} {r : LRow} {lo : Nat} {ws : List Wr} {b : Oct} {t : Nat} (h : LogIs W b0 o r lo ws b t) (hb : b0 ≤ b1) : LogIs (W ++ V) b1 o r lo ws b t := by
  refine ⟨h.ho, h.hb, h.ht, h.hf, ?_, by rw [List.length_append]; have := h.hl; omega, h.hlast.imp id fun ⟨a, c, d⟩ => ⟨a, by omega, d⟩⟩
  have := h.hl
  rw [List.drop_append_of_le_length (by omega), List.take_append_of_le_length (by rw [List.length_drop]; omega)]
  exact h.hw
theorem recs_pos {s : Nat} : ∀ {ws : List Wr}, ws ≠ [] → 0 < (recs s ws).length
  | [], h => absurd rfl h
  | w :: ws, _ => by
    show 0 < (frame (body s w) ++ ((bodies (s + 1) ws).map frame).flatten).length
    rw [List.length_append, frame_len]
    omega
/-! ### a write -/
def logRows (r : LRow) (now size : Nat) : List LRow := (List.range (size - 1)).map (fun j => (r.1, r.2.1, r.2.2 + (j + 1))) ++ [(now, r.2.2 + size, r.2.2 + size)]
def LM.wrote (S : LM) (w w' m' : Wr) : LM := { S with J := S.J.wrote w w', ms := S.ms ++ [m'], lg := S.lg ++ logRows S.last (S.J.stamp + 1) (rec_ (S.J.stamp + 1) w).length }
theorem logRows_get {r : LRow} {now size j : Nat} {x : LRow} (hs : 0 < size) (h : (logRows r now size)[j]? = some x) : (j + 1 < size ∧ x = (r.1, r.2.1, r.2.2 + (j + 1))) ∨ (j + 1 = size ∧ x = (now, r.2.2 + size, r.2.2 + size)) := by
  unfold logRows at h
  by_cases hj : j < size - 1
  · rw [List.getElem?_append_left (by simpa using hj), List.getElem?_map, List.getElem?_range hj] at h
    exact .inl ⟨by omega, (Option.some.inj h).symm⟩
  · rw [List.getElem?_append_right (by simpa using hj)] at h
    have := (List.getElem?_eq_some_iff.mp h).1
    simp only [List.length_map, List.length_range, List.length_cons, List.length_nil] at this h
    rw [show j - (size - 1) = 0 by omega] at h
    exact .inr ⟨by omega, (Option.some.inj h).symm⟩
theorem logRows_len {r : LRow} {now size : Nat} (hs : 0 < size) : (logRows r now size).length = size := by
  unfold logRows
  simp only [List.length_append, List.length_map, List.length_range, List.length_cons, List.length_nil]
  omega
theorem logRows_last {r : LRow} {now size : Nat} (l : List LRow) : (l ++ logRows r now size).getLast? = some (now, r.2.2 + size, r.2.2 + size) := by
  unfold logRows
  rw [← List.append_assoc, List.getLast?_concat]
theorem LInv.last_is {ks : List Str} {n : Nat} {W : List Wr} {S : LM} (h : LInv ks n W S) : S.lg.getLast? = some S.last ∧ LogRow W S.b0 (S.J.f 2).cur S.last := by
  obtain ⟨r, e1, _, e3⟩ := h.r2.last
  unfold LM.last
  rw [e1]
  exact ⟨rfl, e3⟩
theorem LInv.wrote {ks : List Str} {n : Nat} {W : List Wr} {S : LM} {w w' m' : Wr} (h : LInv ks n W S) (hn : n ≤ 1000) (hw : WrOk w) (hwk : ∀ p ∈ w, p.1 ∈ ks) (h1 : IsMap (Fm (W ++ [w]) (W.length + 1)) w') (h2 : IsMap (Fm (W ++ [w]) (W.length + 1)) m') : LInv ks (n + 1) (W ++ [w]) (S.wrote w w' m') := by
  have hl3 := h.f3
  have hst := h.st
  have hwl := h.wl
  have hsz := rec_len (s := S.J.stamp + 1) (w := w) (by omega) hw
  have hpos := rec_pos (S.J.stamp + 1) w
  have hadd : (S.J.f 2).add (rec_ (S.J.stamp + 1) w) = (S.J.f 2).push (.add (rec_ (S.J.stamp + 1) w)) := if_pos hpos
  have hb0 : (S.wrote w w' m').b0 = S.b0 := rfl
  obtain ⟨hlast, hcur⟩ := h.last_is
  obtain ⟨hc1, lo, ws, b, t, hL⟩ := hcur
  have ht0 : t = 0 := by
    have e := hL.ho
    have := congrArg List.length e
    rw [List.length_append, List.length_take, hc1] at this
    have h3 := hL.hf
    have h4 := h.ll.1
    have h5 := hL.ht
    omega
  have hcur : (S.J.f 2).cur = recs (lo + 1) ws := by
    rw [hL.ho, ht0, List.take_zero, List.append_nil]
  refine ⟨?_, fun f hf => ?_, ?_, ?_, ?_, ?_, ?_, ?_, ?_, ?_, ?_, ?_, h.dr0, ?_⟩
  · show (S.J.F.set 2 _).length = 3
    rw [List.length_set]
    exact hl3
  · rcases List.mem_or_eq_of_mem_set (show f ∈ S.J.F.set 2 _ from hf) with m | rfl
    · have := h.bnd f m
      omega
    · rw [hadd]
      have hm := (mem_f h (i := 2) (by decide)).1
      have h4 := h.bnd _ hm
      have h3 := (S.J.f 2).push_bd (.add (rec_ (S.J.stamp + 1) w))
      have h5 : FM.addLen (.add (rec_ (S.J.stamp + 1) w)) = (rec_ (S.J.stamp + 1) w).length := rfl
      omega
  · intro x hx
    rcases List.mem_append.mp hx with m | m
    · exact h.wok x m
    · rw [List.mem_singleton.mp m]
      exact ⟨hw, hwk⟩
  · rw [List.length_append]
    show W.length + 1 ≤ _
    omega
  · show (S.ms ++ [m']).length = _
    rw [List.length_append, List.length_append, h.msl]
    rfl
  · intro t x hx
    have hx : (S.ms ++ [m'])[t]? = some x := hx
    by_cases ht : t < S.ms.length
    · rw [List.getElem?_append_left ht] at hx
      rw [Fm_app (by have := h.msl; omega)]
      exact h.ms t x hx
    · have h3 := (List.getElem?_eq_some_iff.mp hx).1
      rw [List.length_append] at h3
      have h5 := h.msl
      have h6 : [m'].length = 1 := rfl
      have h4 : t = S.ms.length := by omega
      subst h4
      rw [List.getElem?_append_right (Nat.le_refl _), Nat.sub_self] at hx
      obtain rfl := Option.some.inj hx
      rw [h5]
      exact h2
  · show S.J.stamp + 1 = _
    rw [List.length_append, hst]
    rfl
  · rw [List.length_append]
    exact h1
  · have e : (S.wrote w w' m').J.f 0 = S.J.f 0 := setF_f (i := 2) (j := 0) hl3 (by decide)
    rw [e]
    exact h.r0.imp fun o r hr => hr.app
  · have e : (S.wrote w w' m').J.f 1 = S.J.f 1 := setF_f (i := 2) (j := 1) hl3 (by decide)
    rw [e]
    exact h.r1.imp fun o r hr => hr.app
  · have e : (S.wrote w w' m').J.f 2 = (S.J.f 2).add (rec_ (S.J.stamp + 1) w) := setF_f (i := 2) (j := 2) hl3 (by decide)
    rw [e, hadd, hb0]
    refine (h.r2.imp (P' := LogRow (W ++ [w]) S.b0) fun o r hr => hr.app (Nat.le_refl _)).add (logRows_len hpos) fun j r hr => ?_
    rw [hcur]
    have hrle := hL.hl
    rcases logRows_get hpos hr with ⟨hj, rfl⟩ | ⟨hj, rfl⟩
    · have hlen : (recs (lo + 1) ws ++ (rec_ (S.J.stamp + 1) w).take (j + 1)).length = S.last.2.2 + (j + 1) := by
        rw [List.length_append, List.length_take, ← hL.hf, h.ll.1]
        omega
      have hA := hL.app (V := [w]) (Nat.le_refl S.b0)
      have hbl := body_len (s := S.J.stamp + 1) (w := w) (by omega) hw
      exact ⟨hlen, lo, ws, body (S.J.stamp + 1) w, j + 1, rfl, by omega, hj, hL.hf, hA.hw, hA.hl, hA.hlast⟩
    · have hlen : (recs (lo + 1) ws ++ (rec_ (S.J.stamp + 1) w).take (j + 1)).length = S.last.2.2 + (rec_ (S.J.stamp + 1) w).length := by
        rw [List.length_append, hj, List.take_length, ← hL.hf, h.ll.1]
      refine ⟨hlen, ?_⟩
      rw [hj, List.take_length]
      by_cases hne : ws = []
      · subst hne
        have hz : S.last.2.2 = 0 := by
          rw [← h.ll.1, hL.hf]
          rfl
        have hb : W.length = S.b0 := by
          rcases h.ll.2 with ⟨q, _⟩ | ⟨_, q⟩
          · omega
          · exact q
        refine ⟨W.length, [w], [], 0, ?_, by decide, by decide, ?_, ?_, by simp, .inr ⟨by simp, by omega, by rw [hst]; rfl⟩⟩
        · rw [recs_one, ← hst]
          show [] ++ _ = _ ++ []
          rw [List.nil_append, List.append_nil]
        · rw [recs_one, ← hst]
          show S.last.2.2 + _ = _
          omega
        · simp
      · have hpos2 := recs_pos (s := lo + 1) hne
        have hlo : lo + ws.length = W.length := by
          rcases h.ll.2 with ⟨_, q⟩ | ⟨q, _⟩
          · rcases hL.hlast with ⟨e, _⟩ | ⟨_, _, e⟩
            · exact absurd e hne
            · omega
          · have := hL.hf
            have := h.ll.1
            omega
        obtain ⟨_, hlb, hl1⟩ := hL.hlast.resolve_left fun q => hne q.1
        have hww : ws = W.drop lo := by
          have := hL.hw
          rw [List.take_of_length_le (by rw [List.length_drop]; omega)] at this
          exact this
        refine ⟨lo, ws ++ [w], [], 0, ?_, by decide, by decide, ?_, ?_, by rw [List.length_append, List.length_append]; have : [w].length = 1 := rfl; omega, .inr ⟨by simp, hlb, by rw [List.length_append, hst, ← hlo]; rfl⟩⟩
        · rw [recs_app, recs_one, show lo + 1 + ws.length = S.J.stamp + 1 by omega]
          show _ = _ ++ []
          rw [List.append_nil]
        · rw [recs_app, recs_one, show lo + 1 + ws.length = S.J.stamp + 1 by omega, List.length_append, ← hL.hf, h.ll.1]
        · rw [List.drop_append_of_le_length (by omega), ← hww, List.take_length]
  · have e : (S.wrote w w' m').last = (S.J.stamp + 1, S.last.2.2 + (rec_ (S.J.stamp + 1) w).length, S.last.2.2 + (rec_ (S.J.stamp + 1) w).length) := by
      unfold LM.last LM.wrote
      dsimp only
      rw [logRows_last]
      rfl
    rw [e]
    exact ⟨rfl, .inl ⟨by show 0 < _ + _; omega, by show S.J.stamp + 1 = _; rw [List.length_append, hst]; rfl⟩⟩
  · intro p s hp
    obtain ⟨e1, e2, e3, e4⟩ := h.dr p s hp
    exact ⟨e1, e2, by rw [List.length_append]; omega, e4⟩
/-! ### sync of the log -/
def LM.synced (S : LM) : LM := { S with J := S.J.setF 2 (S.J.f 2).sync, lg := [S.last] }
theorem LInv.synced {ks : List Str} {n : Nat} {W : List Wr} {S : LM} (h : LInv ks n W S) : LInv ks (n + 1) W S.synced := by
  have hl3 := h.f3
  have hwl := h.wl
  obtain ⟨hlast, hcur⟩ := h.last_is
  refine ⟨?_, fun f hf => ?_, h.wok, by omega, h.msl, h.ms, h.st, h.jw, ?_, ?_, ?_, h.ll, h.dr0, h.dr⟩
  · show (S.J.F.set 2 _).length = 3
    rw [List.length_set]
    exact hl3
  · rcases List.mem_or_eq_of_mem_set (show f ∈ S.J.F.set 2 _ from hf) with m | rfl
    · have := h.bnd f m
      omega
    · have h4 := h.bnd _ (mem_f h (i := 2) (by decide)).1
      have h3 := (S.J.f 2).sync_bd
      omega
  · rw [show S.synced.J.f 0 = S.J.f 0 from setF_f (i := 2) (j := 0) hl3 (by decide)]
    exact h.r0
  · rw [show S.synced.J.f 1 = S.J.f 1 from setF_f (i := 2) (j := 1) hl3 (by decide)]
    exact h.r1
  · rw [show S.synced.J.f 2 = (S.J.f 2).sync from setF_f (i := 2) (j := 2) hl3 (by decide)]
    exact h.r2.sync hlast
/-! ### a draw -/
def imgRows (now size : Nat) : List IRow := (List.range (size - 1)).map (fun j => ((-1 : Int), j + 1)) ++ [((now : Int), size)]
theorem imgRows_get {now size j : Nat} {x : IRow} (hs : 0 < size) (h : (imgRows now size)[j]? = some x) : (j + 1 < size ∧ x = (-1, j + 1)) ∨ (j + 1 = size ∧ x = ((now : Int), size)) := by
  unfold imgRows at h
  by_cases hj : j < size - 1
  · rw [List.getElem?_append_left (by simpa using hj), List.getElem?_map, List.getElem?_range hj] at h
    exact .inl ⟨by omega, (Option.some.inj h).symm⟩
  · rw [List.getElem?_append_right (by simpa using hj)] at h
    have := (List.getElem?_eq_some_iff.mp h).1
    simp only [List.length_map, List.length_range, List.length_cons, List.length_nil] at this h
    rw [show j - (size - 1) = 0 by omega] at h
    exact .inr ⟨by omega, (Option.some.inj h).symm⟩
theorem imgRows_len {now size : Nat} (hs : 0 < size) : (imgRows now size).length = size := by
  unfold imgRows
  simp only [List.length_append, List.length_map, List.length_range, List.length_cons, List.length_nil]
  omega
/-- the rows of a file after a draw -/
def drawnRows (rows : List IRow) (now size : Nat) : List IRow := (rows ++ if 0 < (rows.getLast?.getD (-1, 0)).2 then [(-1, 0)] else []) ++ imgRows now size
theorem draw_rows {W : List Wr} {f : FM} {rows : List IRow} {s : Nat} {w : Wr} (h : Rows (ImgRow W) f rows) (hs : s < 1000000) (hw : WrOk w) (hf : Full w) (hm : IsMap (Fm W s) w) (hle : s ≤ W.length) : Rows (ImgRow W) ((f.kp 0).add (rec_ s w)) (drawnRows rows s (rec_ s w).length) := by
  have hpos := rec_pos s w
  have hbl := body_len hs hw
  obtain ⟨r, e1, _, e3⟩ := h.last
  have hadd : (f.kp 0).add (rec_ s w) = (f.kp 0).push (.add (rec_ s w)) := if_pos hpos
  rw [hadd]
  have key : Rows (ImgRow W) (f.kp 0) (rows ++ if 0 < (rows.getLast?.getD (-1, 0)).2 then [(-1, 0)] else []) ∧ (f.kp 0).cur = [] := by
    rw [e1]
    show Rows _ _ (rows ++ if 0 < r.2 then _ else _) ∧ _
    rw [← e3.1]
    unfold FM.kp
    by_cases hc : 0 < f.cur.length
    · rw [if_pos hc, if_pos hc]
      exact ⟨h.keep (by show ImgRow W (f.cur.take 0) (-1, 0); rw [List.take_zero]; exact ImgRow.none W), by rw [FM.cur_push]; rfl⟩
    · rw [if_neg hc, if_neg hc, List.append_nil]
      exact ⟨h, List.length_eq_zero_iff.mp (by omega)⟩
  refine key.1.add (imgRows_len hpos) fun j x hx => ?_
  rw [key.2, List.nil_append]
  rcases imgRows_get hpos hx with ⟨hj, rfl⟩ | ⟨hj, rfl⟩
  · exact ⟨by rw [List.length_take]; show _ = j + 1; omega, none, ⟨body s w, j + 1, by omega, hj, rfl⟩, rfl⟩
  · rw [hj, List.take_length]
    exact ⟨rfl, some (s, w), ⟨hs, hw, hf, rfl⟩, rfl, hle, hm⟩
theorem drawn_head {rows : List IRow} {now size : Nat} (h : rows ≠ []) : (drawnRows rows now size).head? = rows.head? := by
  unfold drawnRows
  rw [List.append_assoc, head_app h]
theorem drawn_last {rows : List IRow} {now size : Nat} : (drawnRows rows now size).getLast? = some ((now : Int), size) := by
  unfold drawnRows imgRows
  rw [← List.append_assoc, List.getLast?_concat]
def LM.drew (S : LM) : LM := { S with J := S.J.draw S.place, im0 := if S.place = 0 then drawnRows S.im0 S.J.stamp (rec_ S.J.stamp S.J.w).length else S.im0, im1 := if S.place = 0 then S.im1 else drawnRows S.im1 S.J.stamp (rec_ S.J.stamp S.J.w).length }
theorem LInv.ne {ks : List Str} {n : Nat} {W : List Wr} {S : LM} (h : LInv ks n W S) : S.im0 ≠ [] ∧ S.im1 ≠ [] := by
  obtain ⟨r, rs, e, _⟩ := h.r0.first
  obtain ⟨r', rs', e', _⟩ := h.r1.first
  exact ⟨by rw [e]; simp, by rw [e']; simp⟩
theorem LInv.b0le {ks : List Str} {n : Nat} {W : List Wr} {S : LM} (h : LInv ks n W S) : S.b0 ≤ W.length := by
  obtain ⟨r, rs, e, _, im, _, i0⟩ := h.r0.first
  obtain ⟨r', rs', e', _, im', _, i1⟩ := h.r1.first
  have h0 : S.a0 = r.1 := by unfold LM.a0; rw [e]; rfl
  have h1 : S.a1 = r'.1 := by unfold LM.a1; rw [e']; rfl
  obtain ⟨h2, h3, _⟩ := baseOf_is h.wok i0 i1
  unfold LM.b0
  rw [h0, h1]
  omega
theorem LInv.drew {ks : List Str} {n : Nat} {W : List Wr} {S : LM} (h : LInv ks n W S) (hk : KsOk ks) (hn : n ≤ 1000) : LInv ks (n + 1) W S.drew := by
  have hl3 := h.f3
  have hwl := h.wl
  have hst := h.st
  obtain ⟨hne0, hne1⟩ := h.ne
  obtain ⟨m1, m2, _⟩ := h.jw.ok hk (Fm.isIn h.wok _)
  have hp2 : S.place < 2 := by unfold LM.place; split <;> omega
  have ha0 : S.drew.a0 = S.a0 := by
    unfold LM.a0 LM.drew
    dsimp only
    split
    · rw [drawn_head hne0]
    · rfl
  have ha1 : S.drew.a1 = S.a1 := by
    unfold LM.a1 LM.drew
    dsimp only
    split
    · rfl
    · rw [drawn_head hne1]
  have hb : S.drew.b0 = S.b0 := by unfold LM.b0; rw [ha0, ha1]
  have hpl : S.drew.place = S.place := by unfold LM.place; rw [ha0, ha1]
  have hJ : ∀ j, S.drew.J.f j = if j = S.place then ((S.J.f S.place).kp 0).add (rec_ S.J.stamp S.J.w) else S.J.f j := fun j => setF_f (i := S.place) (j := j) hl3 (by omega)
  have hmap : IsMap (Fm W S.J.stamp) S.J.w := by rw [hst]; exact h.jw
  refine ⟨?_, fun f hf => ?_, h.wok, by omega, h.msl, h.ms, h.st, h.jw, ?_, ?_, ?_, ?_, fun z => (nomatch z), ?_⟩
  · show (S.J.F.set _ _).length = 3
    rw [List.length_set]
    exact hl3
  · rcases List.mem_or_eq_of_mem_set (show f ∈ S.J.F.set _ _ from hf) with m | rfl
    · have := h.bnd f m
      omega
    · have h4 := h.bnd _ (mem_f h (i := S.place) (by omega)).1
      have h5 := (S.J.f S.place).kp_bd 0
      have h6 := ((S.J.f S.place).kp 0).add_bd (rec_ S.J.stamp S.J.w)
      have h7 := rec_len (s := S.J.stamp) (w := S.J.w) (by omega) m1
      omega
  · rw [hJ 0]
    show Rows _ _ (if S.place = 0 then _ else _)
    by_cases e : S.place = 0
    · rw [if_pos e.symm, if_pos e]
      have : S.J.f S.place = S.J.f 0 := by rw [e]
      rw [this]
      exact draw_rows h.r0 (by omega) m1 m2 hmap (by omega)
    · rw [if_neg (fun q => e q.symm), if_neg e]
      exact h.r0
  · rw [hJ 1]
    show Rows _ _ (if S.place = 0 then _ else _)
    by_cases e : S.place = 0
    · rw [if_neg (by omega), if_pos e]
      exact h.r1
    · have e1 : S.place = 1 := by omega
      rw [if_pos e1.symm, if_neg e]
      have : S.J.f S.place = S.J.f 1 := by rw [e1]
      rw [this]
      exact draw_rows h.r1 (by omega) m1 m2 hmap (by omega)
  · rw [hJ 2, if_neg (by omega), hb]
    exact h.r2
  · have : S.drew.last = S.last := rfl
    rw [this, hb]
    exact h.ll
  · intro p s hp
    have hp : some (S.place, S.J.stamp) = some (p, s) := hp
    obtain ⟨rfl, rfl⟩ := Prod.mk.inj (Option.some.inj hp)
    have hb0 := h.b0le
    -- the other place is single
    have hother : (S.im (1 - S.place)).length = 1 := by
      cases e : S.J.drawn with
      | none =>
        obtain ⟨g0, g1⟩ := h.dr0 e
        unfold LM.im
        split
        · exact g0
        · exact g1
      | some q =>
        obtain ⟨p', s'⟩ := q
        obtain ⟨rfl, _, _, g, _⟩ := h.dr p' s' e
        exact g
    refine ⟨hpl.symm, by rw [hb]; omega, by omega, ?_, (rec_ S.J.stamp S.J.w).length, ?_⟩
    · unfold LM.im at hother ⊢
      show (if 1 - S.place = 0 then (if S.place = 0 then (_ : List IRow) else _) else (if S.place = 0 then _ else _) : List IRow).length = 1
      by_cases e : S.place = 0
      · rw [e] at hother ⊢
        exact hother
      · have e1 : S.place = 1 := by omega
        rw [e1] at hother ⊢
        exact hother
    · unfold LM.im
      show (if S.place = 0 then (if S.place = 0 then (_ : List IRow) else _) else (if S.place = 0 then _ else _) : List IRow).getLast? = _
      by_cases e : S.place = 0
      · rw [if_pos e, if_pos e]
        exact drawn_last
      · rw [if_neg e, if_neg e]
        exact drawn_last
end Sp
set_option Elab.async false
set_option linter.all false
set_option maxRecDepth 100000
set_option maxHeartbeats 4000000
namespace Sp
open PySem PySem.Spec PyProof.Rows L2
/-! ### a settle -/
def lastR (rows : List IRow) : List IRow := match rows.getLast? with
  | some r => [r]
  | none => []
def LM.settled (S : LM) : LM := match S.J.drawn with
  | none => S
  | some (p, s) => { S with J := S.J.settle, im0 := if p = 0 then lastR S.im0 else S.im0, im1 := if p = 0 then S.im1 else lastR S.im1, lg := if s = S.J.stamp ∧ 0 < S.last.2.2 then S.lg ++ [(0, 0, 0)] else S.lg }
theorem one_head {α : Type} {l : List α} (h : l.length = 1) : ∃ x, l = [x] := by
  match l, h with
  | [x], _ => exact ⟨x, rfl⟩
theorem LInv.settled {ks : List Str} {n : Nat} {W : List Wr} {S : LM} (h : LInv ks n W S) : LInv ks (n + 1) W S.settled := by
  have hl3 := h.f3
  have hwl := h.wl
  have hst := h.st
  have hup : ∀ {f : FM}, f ∈ S.J.F → f.bnd ≤ 500 * (n + 1) ∧ f.de.length ≤ 5 * (n + 1) := fun hf => by have := h.bnd _ hf; omega
  cases e : S.J.drawn with
  | none =>
    have : S.settled = S := by unfold LM.settled; rw [e]
    rw [this]
    exact ⟨h.f3, fun f hf => hup hf, h.wok, by omega, h.msl, h.ms, h.st, h.jw, h.r0, h.r1, h.r2, h.ll, h.dr0, h.dr⟩
  | some q =>
    obtain ⟨p, s⟩ := q
    obtain ⟨hpp, hb0s, hsw, hoth, z, hz⟩ := h.dr p s e
    have hp2 : p < 2 := by rw [hpp]; unfold LM.place; split <;> omega
    have eS : S.settled = { S with J := S.J.settle, im0 := if p = 0 then lastR S.im0 else S.im0, im1 := if p = 0 then S.im1 else lastR S.im1, lg := if s = S.J.stamp ∧ 0 < S.last.2.2 then S.lg ++ [(0, 0, 0)] else S.lg } := by unfold LM.settled; rw [e]
    have eJ : S.J.settle = { (if s = S.J.stamp then (S.J.setF p (S.J.f p).sync).setF 2 (((S.J.setF p (S.J.f p).sync).f 2).kp 0) else S.J.setF p (S.J.f p).sync) with drawn := none } := by unfold JM.settle; rw [e]
    obtain ⟨hlast, hcur⟩ := h.last_is
    -- the files
    have hf2 : (S.J.setF p (S.J.f p).sync).f 2 = S.J.f 2 := by rw [setF_f hl3 (by omega), if_neg (by omega)]
    have hl3' : (S.J.setF p (S.J.f p).sync).F.length = 3 := by show (S.J.F.set _ _).length = 3; rw [List.length_set]; exact hl3
    have hJ : ∀ j, S.J.settle.f j = if j = p then (S.J.f p).sync else if j = 2 ∧ s = S.J.stamp then (S.J.f 2).kp 0 else S.J.f j := by
      intro j
      rw [eJ]
      by_cases hs : s = S.J.stamp
      · rw [if_pos hs]
        show ((S.J.setF p (S.J.f p).sync).setF 2 _).f j = _
        rw [setF_f hl3' (by decide), hf2]
        by_cases hj : j = 2
        · rw [if_pos hj, if_neg (by omega), if_pos ⟨hj, hs⟩]
        · rw [if_neg hj, setF_f hl3 (by omega)]
          by_cases hjp : j = p
          · rw [if_pos hjp, if_pos hjp]
          · rw [if_neg hjp, if_neg hjp, if_neg (fun q => hj q.1)]
      · rw [if_neg hs]
        show (S.J.setF p (S.J.f p).sync).f j = _
        rw [setF_f hl3 (by omega)]
        by_cases hjp : j = p
        · rw [if_pos hjp, if_pos hjp]
        · rw [if_neg hjp, if_neg hjp, if_neg (fun q => hs q.2)]
    have hstp : S.J.settle.stamp = S.J.stamp := by rw [eJ]; split <;> rfl
    have hw' : S.J.settle.w = S.J.w := by rw [eJ]; split <;> rfl
    have hlen3 : S.J.settle.F.length = 3 := by
      rw [eJ]
      split
      · show ((S.J.F.set _ _).set _ _).length = 3
        rw [List.length_set, List.length_set]
        exact hl3
      · exact hl3'
    -- the base
    have hone : ∀ rows : List IRow, rows.getLast? = some ((s : Int), z) → lastR rows = [((s : Int), z)] := fun rows q => by unfold lastR; rw [q]
    have hb1 : S.settled.b0 = s := by
      have hb0 := hb0s
      unfold LM.b0 at hb0 ⊢
      rw [eS]
      unfold LM.a0 LM.a1 at hb0 ⊢
      unfold LM.im at hz
      dsimp only
      by_cases hp : p = 0
      · rw [if_pos hp] at hz
        rw [if_pos hp, if_pos hp, hone _ hz]
        show (max 0 (max (s : Int) _)).toNat = s
        omega
      · rw [if_neg hp] at hz
        rw [if_neg hp, if_neg hp, hone _ hz]
        show (max 0 (max _ (s : Int))).toNat = s
        omega
    have hf2b : ∀ {f : FM}, f ∈ S.J.settle.F → f = (S.J.f p).sync ∨ f = (S.J.f 2).kp 0 ∨ f ∈ S.J.F := fun {f} hf => by
      rw [eJ] at hf
      split at hf
      · rcases List.mem_or_eq_of_mem_set (show f ∈ (S.J.F.set _ _).set _ _ from hf) with m | m
        · rcases List.mem_or_eq_of_mem_set m with m | m
          · exact .inr (.inr m)
          · exact .inl m
        · rw [hf2] at m
          exact .inr (.inl m)
      · rcases List.mem_or_eq_of_mem_set (show f ∈ S.J.F.set _ _ from hf) with m | m
        · exact .inr (.inr m)
        · exact .inl m
    have hJs : S.settled.J = S.J.settle := by rw [eS]
    refine ⟨by rw [hJs]; exact hlen3, fun f hf => ?_, h.wok, by omega, by rw [eS]; exact h.msl, by rw [eS]; exact h.ms, by rw [hJs, hstp]; exact hst, by rw [hJs, hw']; exact h.jw, ?_, ?_, ?_, ?_, fun _ => ?_, fun p' s' hd => ?_⟩
    · rw [hJs] at hf
      rcases hf2b hf with rfl | rfl | m
      · have := (S.J.f p).sync_bd
        have := h.bnd _ (mem_f h (i := p) (by omega)).1
        omega
      · have := (S.J.f 2).kp_bd 0
        have := h.bnd _ (mem_f h (i := 2) (by decide)).1
        omega
      · exact hup m
    · rw [hJs, hJ 0]
      rw [eS]
      dsimp only
      by_cases hp : p = 0
      · subst hp
        rw [if_pos rfl, if_pos rfl]
        obtain ⟨r, e1, _⟩ := h.r0.last
        have : lastR S.im0 = [r] := by unfold lastR; rw [e1]
        rw [this]
        exact h.r0.sync e1
      · rw [if_neg (fun q => hp q.symm), if_neg (by omega), if_neg hp]
        exact h.r0
    · rw [hJs, hJ 1]
      rw [eS]
      dsimp only
      by_cases hp : p = 0
      · rw [if_neg (by omega), if_neg (by omega), if_pos hp]
        exact h.r1
      · have hp1 : p = 1 := by omega
        subst hp1
        rw [if_pos rfl, if_neg (by decide)]
        obtain ⟨r, e1, _⟩ := h.r1.last
        have : lastR S.im1 = [r] := by unfold lastR; rw [e1]
        rw [this]
        exact h.r1.sync e1
    · rw [hJs, hJ 2, if_neg (by omega), hb1]
      rw [eS]
      dsimp only
      have hR := h.r2.imp (P' := LogRow W s) fun o r hr => hr.mono hb0s
      by_cases hs : s = S.J.stamp
      · rw [if_pos ⟨rfl, hs⟩]
        unfold FM.kp
        rw [hcur.1]
        by_cases hc : 0 < S.last.2.2
        · rw [if_pos hc, if_pos ⟨hs, hc⟩]
          exact hR.keep (by rw [List.take_zero]; exact LogRow.zero W s)
        · rw [if_neg hc, if_neg (fun q => hc q.2)]
          exact hR
      · rw [if_neg (fun q => hs q.2), if_neg (fun q => hs q.1)]
        exact hR
    · rw [hb1]
      have hlast' : S.settled.last = if s = S.J.stamp ∧ 0 < S.last.2.2 then (0, 0, 0) else S.last := by
        rw [eS]
        unfold LM.last
        dsimp only
        split
        · rw [List.getLast?_concat]
          rfl
        · rfl
      rw [hlast']
      by_cases hc : s = S.J.stamp ∧ 0 < S.last.2.2
      · rw [if_pos hc]
        exact ⟨rfl, .inr ⟨rfl, by omega⟩⟩
      · rw [if_neg hc]
        refine ⟨h.ll.1, ?_⟩
        rcases h.ll.2 with q | ⟨q1, q2⟩
        · exact .inl q
        · exact .inr ⟨q1, by omega⟩
    · rw [eS]
      dsimp only
      unfold LM.im at hoth hz
      by_cases hp : p = 0
      · subst hp
        rw [if_pos rfl] at hz
        rw [if_pos rfl, if_pos rfl, hone _ hz]
        exact ⟨rfl, hoth⟩
      · have hp1 : p = 1 := by omega
        subst hp1
        rw [if_neg (by decide)] at hz
        rw [if_neg (by decide), if_neg (by decide), hone _ hz]
        exact ⟨hoth, rfl⟩
    · rw [hJs, eJ] at hd
      exact (nomatch hd)
end Sp
set_option Elab.async false
set_option linter.all false
set_option maxRecDepth 100000
set_option maxHeartbeats 4000000
namespace Sp
open PySem PySem.Spec PyProof.Rows L2
/-- one write more, in the map -/
theorem Fm_next {ks : List Str} {W : List Wr} {w0 w : Wr} (hW : WsOk ks W) (h : IsMap (Fm W W.length) w0) : sem Mp0 (w0 ++ w) = Fm (W ++ [w]) (W.length + 1) := by
  rw [sem_app, h.sem (Fm.isIn hW _)]
  unfold Fm
  rw [List.take_length, show W.length + 1 = (W ++ [w]).length by simp, List.take_length, List.flatten_append, sem_app]
  simp
theorem LInv.rowsb {ks : List Str} {n : Nat} {W : List Wr} {S : LM} (h : LInv ks n W S) {k0 k1 : Nat} {r0 r1 : IRow} (h0 : S.im0[k0]? = some r0) (h1 : S.im1[k1]? = some r1) : (S.b0 : Int) ≤ max 0 (max r0.1 r1.1) := by
  have one : ∀ (rows : List IRow) (k : Nat) (r : IRow), rows.length = 1 → rows[k]? = some r → (rows.head?.getD (-1, 0)).1 = r.1 := by
    intro rows k r hl hr
    obtain ⟨x, rfl⟩ := one_head hl
    have := (List.getElem?_eq_some_iff.mp hr).1
    have hk : k = 0 := by have : [x].length = 1 := rfl; omega
    subst hk
    obtain rfl : x = r := Option.some.inj hr
    rfl
  unfold LM.b0
  cases e : S.J.drawn with
  | none =>
    obtain ⟨g0, g1⟩ := h.dr0 e
    have e0 : S.a0 = r0.1 := one _ _ _ g0 h0
    have e1 : S.a1 = r1.1 := one _ _ _ g1 h1
    omega
  | some q =>
    obtain ⟨p, s⟩ := q
    obtain ⟨hp, _, _, g, _⟩ := h.dr p s e
    unfold LM.im at g
    unfold LM.place at hp
    by_cases hc : S.a0 < 0 ∨ S.a1 > S.a0
    · rw [if_pos hc] at hp
      subst hp
      have e1 : S.a1 = r1.1 := one _ _ _ g h1
      omega
    · rw [if_neg hc] at hp
      subst hp
      have e0 : S.a0 = r0.1 := one _ _ _ g h0
      omega
theorem LInv.olen {ks : List Str} {n : Nat} {W : List Wr} {S : LM} (h : LInv ks n W S) {i : Nat} (hi : i < 3) (k : Nat) : ((S.J.f i).at k).length ≤ 500 * n := Nat.le_trans (FM.at_len _ _) (h.bnd _ (mem_f h hi).1).1
theorem LInv.got {ks : List Str} {n : Nat} {W : List Wr} {S : LM} (h : LInv ks n W S) (hk : KsOk ks) (hn : n ≤ 1000) {k0 k1 k2 : Nat} {r0 r1 : IRow} {rl : LRow} (h0 : S.im0[k0]? = some r0) (h1 : S.im1[k1]? = some r1) (h2 : S.lg[k2]? = some rl) :
    ∃ d, Got ks W ((S.J.f 0).at k0) ((S.J.f 1).at k1) ((S.J.f 2).at k2) r0 r1 rl d := by
  have l0 := h.olen (i := 0) (by decide) k0
  have l1 := h.olen (i := 1) (by decide) k1
  have l2 := h.olen (i := 2) (by decide) k2
  have := h.wl
  exact Sp.got hk h.wok (by omega) (h.r0.row _ _ h0) (h.r1.row _ _ h1) (h.r2.row _ _ h2) (h.rowsb h0 h1) (by omega) (by omega) (by omega)
/-! ### opened again -/
def keptR (base : Nat) (rl : LRow) : LRow := if base < rl.1 then (rl.1, rl.2.1, rl.2.1) else (0, 0, 0)
def openLogs (base : Nat) (rl : LRow) : List LRow := if (keptR base rl).2.2 < rl.2.2 then [rl, keptR base rl] else [rl]
def LM.opened (d : Dk') (w : Wr) (ms : List Wr) (r0 r1 : IRow) (rl : LRow) : LM := ⟨Sp.opened d w, ms, [r0], [r1], openLogs d.base.2.1 rl⟩
theorem LInv.opened {ks : List Str} {n : Nat} {W : List Wr} {o0 o1 o2 : Oct} {r0 r1 : IRow} {rl : LRow} {b0 : Nat} {d : Dk'} {w : Wr} {ms : List Wr} (hW : WsOk ks W) (hl : W.length ≤ n) (h0 : ImgRow W o0 r0) (h1 : ImgRow W o1 r1) (h2 : LogRow W b0 o2 rl) (hb : (b0 : Int) ≤ max 0 (max r0.1 r1.1)) (G : Got ks W o0 o1 o2 r0 r1 rl d)
    (l0 : o0.length ≤ 500 * n) (l1 : o1.length ≤ 500 * n) (l2 : o2.length ≤ 500 * n) (hw : IsMap d.map w) (hml : ms.length = d.stamp + 1) (hms : ∀ t x, ms[t]? = some x → IsMap (Fm W t) x) : LInv ks (n + 1) (W.take d.stamp) (LM.opened d w ms r0 r1 rl) := by
  have hle := G.le
  have hst := G.stamp
  have hba := G.base
  have hWl : (W.take d.stamp).length = d.stamp := by rw [List.length_take]; omega
  have hb0 : (LM.opened d w ms r0 r1 rl).b0 = d.base.2.1 := by
    show (max 0 (max r0.1 r1.1)).toNat = _
    omega
  obtain ⟨ho2, lo, ws, b, t, hL⟩ := h2
  have hrl : rl.2.1 ≤ rl.2.2 := by
    have := congrArg List.length hL.ho
    rw [List.length_append] at this
    have := hL.hf
    omega
  -- the log's row, as it stands now
  have hlog : ∀ (o : Oct) (r : LRow) (t' : Nat), o = recs (lo + 1) ws ++ (frame b).take t' → t' ≤ t → o.length = r.2.2 → r.1 = rl.1 → r.2.1 = rl.2.1 → LogRow (W.take d.stamp) d.base.2.1 o r := by
    intro o r t' ho ht' hlen e1 e2
    refine ⟨hlen, ?_⟩
    rcases hL.hlast with ⟨hnil, e⟩ | ⟨hne, hlb, e⟩
    · subst hnil
      exact ⟨0, [], b, t', ho, hL.hb, by have := hL.ht; omega, by rw [e2, hL.hf]; rfl, rfl, Nat.zero_le _, .inl ⟨rfl, by rw [e1, e]⟩⟩
    · refine ⟨lo, ws, b, t', ho, hL.hb, by have := hL.ht; omega, by rw [e2, hL.hf], ?_, by rw [hWl]; omega, .inr ⟨hne, by omega, by rw [e1, e]⟩⟩
      rw [List.drop_take, List.take_take, Nat.min_eq_left (by omega)]
      exact hL.hw
  have hfin : d.fin = (keptR d.base.2.1 rl).2.2 := by
    rw [G.fin]
    unfold keptR
    split <;> rfl
  have hkept : LogRow (W.take d.stamp) d.base.2.1 (o2.take d.fin) (keptR d.base.2.1 rl) := by
    rw [hfin]
    unfold keptR
    by_cases hc : d.base.2.1 < rl.1
    · rw [if_pos hc]
      have ht : o2.take rl.2.1 = recs (lo + 1) ws := by
        rw [hL.ho, hL.hf, List.take_left]
      show LogRow _ _ (o2.take rl.2.1) _
      rw [ht]
      exact hlog _ _ 0 (by simp) (Nat.zero_le _) hL.hf.symm rfl rfl
    · rw [if_neg hc]
      show LogRow _ _ (o2.take 0) _
      rw [List.take_zero]
      exact LogRow.zero _ _
  have hf2 : (LM.opened d w ms r0 r1 rl).J.f 2 = (⟨o2, []⟩ : FM).kp d.fin := by
    show (⟨d.log, []⟩ : FM).kp d.fin = _
    rw [G.log]
  have hcur : (⟨o2, []⟩ : FM).cur = o2 := rfl
  refine ⟨rfl, fun f hf => ?_, fun x hx => hW x (List.mem_of_mem_take hx), by omega, by show ms.length = _; rw [hml, hWl], fun t x hx => ?_, by show d.stamp = _; rw [hWl], ?_, ?_, ?_, ?_, ?_, fun _ => ⟨rfl, rfl⟩, fun p s h => (nomatch h)⟩
  · have hf : f ∈ [(⟨d.o0, []⟩ : FM), ⟨d.o1, []⟩, (⟨d.log, []⟩ : FM).kp d.fin] := hf
    rcases List.mem_cons.mp hf with rfl | hf
    · rw [G.o0]
      show o0.length + 0 ≤ _ ∧ 0 ≤ _
      omega
    rcases List.mem_cons.mp hf with rfl | hf
    · rw [G.o1]
      show o1.length + 0 ≤ _ ∧ 0 ≤ _
      omega
    · rw [List.mem_singleton.mp hf, G.log]
      have := (⟨o2, []⟩ : FM).kp_bd d.fin
      have e1 : (⟨o2, []⟩ : FM).bnd = o2.length := rfl
      have e2 : (⟨o2, []⟩ : FM).de.length = 0 := rfl
      omega
  · have ht : t < ms.length := (List.getElem?_eq_some_iff.mp hx).1
    rw [Fm_take (by omega)]
    exact hms t x hx
  · show IsMap (Fm _ _) w
    rw [hWl, Fm_take (Nat.le_refl _), ← G.map]
    exact hw
  · show Rows _ ⟨d.o0, []⟩ [r0]
    rw [G.o0]
    exact Rows.one (h0.tak (by omega))
  · show Rows _ ⟨d.o1, []⟩ [r1]
    rw [G.o1]
    exact Rows.one (h1.tak (by omega))
  · rw [hf2, hb0]
    show Rows _ _ (openLogs d.base.2.1 rl)
    have hone : Rows (LogRow (W.take d.stamp) d.base.2.1) ⟨o2, []⟩ [rl] := Rows.one (hlog o2 rl t hL.ho (Nat.le_refl _) ho2 rfl rfl)
    unfold FM.kp openLogs
    rw [hcur, ho2, hfin]
    by_cases hc : (keptR d.base.2.1 rl).2.2 < rl.2.2
    · rw [if_pos hc, if_pos hc]
      exact hone.keep (by rw [hcur, ← hfin]; exact hkept)
    · rw [if_neg hc, if_neg hc]
      exact hone
  · rw [hb0, hWl]
    have hlast : (LM.opened d w ms r0 r1 rl).last = if (keptR d.base.2.1 rl).2.2 < rl.2.2 then keptR d.base.2.1 rl else rl := by
      unfold LM.last LM.opened openLogs
      dsimp only
      split <;> rfl
    rw [hlast]
    have hpos : d.base.2.1 < rl.1 → 0 < rl.2.1 := fun hc => by
      rcases hL.hlast with ⟨_, e⟩ | ⟨hne, _, _⟩
      · omega
      · rw [hL.hf]
        exact recs_pos hne
    by_cases hc : d.base.2.1 < rl.1
    · have ek : keptR d.base.2.1 rl = (rl.1, rl.2.1, rl.2.1) := if_pos hc
      have := hpos hc
      rw [ek]
      split
      · exact ⟨rfl, .inl ⟨this, by show rl.1 = d.stamp; omega⟩⟩
      · next hn =>
        have hn : ¬ rl.2.1 < rl.2.2 := hn
        exact ⟨by omega, .inl ⟨by omega, by omega⟩⟩
    · have ek : keptR d.base.2.1 rl = (0, 0, 0) := if_neg hc
      rw [ek]
      split
      · exact ⟨rfl, .inr ⟨rfl, by omega⟩⟩
      · next hn =>
        have hn : ¬ 0 < rl.2.2 := hn
        exact ⟨by omega, .inr ⟨by omega, by omega⟩⟩
/-! ### mended once -/
theorem mended {d : Dk'} (h : DkR d) : ∃ e : Dk', e.o0 = d.o0 ∧ e.o1 = d.o1 ∧ e.log = (if d.later = [] then [] else recs (d.lo + 1) d.ws) ∧ DkR e ∧ e.base = d.base ∧ e.later = d.later ∧ e.t = 0 ∧ (if e.later = [] then [] else recs (e.lo + 1) e.ws) = (if d.later = [] then [] else recs (d.lo + 1) d.ws) := by
  obtain ⟨hq, KS, h64, hK⟩ := h
  have hlater : (⟨d.o0, d.o1, d.im0, d.im1, d.lo, if d.later = [] then [] else d.ws, [], 0⟩ : Dk').later = d.later := by
    show (if d.later = [] then [] else d.ws).drop (d.base.2.1 - d.lo) = d.later
    by_cases e : d.later = []
    · rw [if_pos e, e]
      simp
    · rw [if_neg e]
      rfl
  refine ⟨⟨d.o0, d.o1, d.im0, d.im1, d.lo, if d.later = [] then [] else d.ws, [], 0⟩, rfl, rfl, ?_, ⟨⟨hq.i0, hq.i1, ?_, ?_⟩, KS, h64, ?_⟩, rfl, hlater, rfl, ?_⟩
  · show recs (d.lo + 1) (if d.later = [] then [] else d.ws) ++ (frame []).take 0 = _
    rw [List.take_zero, List.append_nil]
    split <;> rfl
  · have hr := hq.ro
    have a1 : d.lo + 1 + d.ws.length < 1000000 := hr.len
    have a2 : d.ws.length ≤ 10000 := hr.len2
    refine ⟨?_, ?_, ?_, (by show ([] : Oct).length ≤ 65535; decide), (by show 0 < (frame []).length; decide)⟩
    · show d.lo + 1 + (if d.later = [] then [] else d.ws).length < 1000000
      split
      · show d.lo + 1 + 0 < _; omega
      · exact a1
    · show (if d.later = [] then [] else d.ws).length ≤ 10000
      split
      · exact Nat.zero_le _
      · exact a2
    · intro w hw
      have hw : w ∈ (if d.later = [] then [] else d.ws) := hw
      split at hw
      · exact (nomatch hw)
      · exact hr.oks w hw
  · show (if d.later = [] then [] else d.ws) = [] ∨ _
    by_cases e : d.later = []
    · rw [if_pos e]; exact .inl rfl
    · rw [if_neg e]; exact hq.hd
  · rw [hlater]
    exact hK
  · rw [hlater]
    show (if d.later = [] then [] else recs (d.lo + 1) (if d.later = [] then [] else d.ws)) = _
    by_cases e : d.later = []
    · rw [if_pos e, if_pos e]
    · rw [if_neg e, if_neg e, if_neg e]
end Sp
set_option Elab.async false
set_option linter.all false
set_option maxRecDepth 100000
set_option maxHeartbeats 1000000
namespace Sp
open PySem PySem.Spec PyProof.Rows L2
/-! ### octets -/
theorem pair2_ok {n : Int} (h : 0 ≤ n) (g : n < 65536) : OctOk (pair2 n) := octOk_cons (by omega) (octOk_cons (by omega) octOk_nil)
theorem frame_ok {b : Oct} (h : OctOk b) (hl : b.length ≤ 65535) : OctOk (frame b) := by
  have hc := ckSum_bd (frameHead b)
  unfold frame
  refine octOk_app ?_ ?_
  · unfold frameHead
    exact octOk_app (octOk_app (pair2_ok (by omega) (by omega)) (pair2_ok (by omega) (by omega))) h
  · unfold sumOct
    exact octOk_app (pair2_ok (by omega) (by omega)) (pair2_ok (by omega) (by omega))
theorem codes_ok {x : Str} (h : ∀ c ∈ x.cps.toList, c < 256) : OctOk (codes x) := fun y hy => by
  unfold codes at hy
  obtain ⟨c, hc, rfl⟩ := List.mem_map.mp hy
  have := h c hc
  omega
theorem keySigns_lt : ∀ c ∈ keySigns, c < 256 := by decide +kernel
theorem textSigns_lt : ∀ c ∈ textSigns, c < 256 := by decide +kernel
theorem encVal_ok {v : Val} (h : ValOk v) : OctOk (encVal v) := by
  cases v with
  | non => exact octOk_cons (by omega) octOk_nil
  | int i => exact octOk_cons (by omega) (encNum_ok _)
  | str x => exact octOk_cons (by omega) (octOk_app (encNum_ok _) (codes_ok fun c hc => textSigns_lt c (h.2 c hc)))
theorem encPairs_ok : ∀ {w : Wr}, w.Ok → OctOk (encPairs w)
  | [], _ => octOk_nil
  | p :: w, h => octOk_app (octOk_app (octOk_app (codes_ok fun c hc => keySigns_lt c ((h p List.mem_cons_self).1.sig c hc)) (octOk_cons (by omega) octOk_nil)) (encVal_ok (h p List.mem_cons_self).2)) (encPairs_ok (w := w) fun q hq => h q (List.mem_cons_of_mem _ hq))
theorem rec_ok {s : Nat} {w : Wr} (h : w.Ok) (hl : (body s w).length ≤ 65535) : OctOk (rec_ s w) := frame_ok (octOk_app (encNum_ok _) (octOk_app (encNum_ok _) (encPairs_ok h))) hl
/-- the octets of a file's deeds -/
def FOk (f : FM) : Prop := OctOk f.sy ∧ ∀ x, Deed.add x ∈ f.de → OctOk x
theorem octOk_take {o : Oct} (h : OctOk o) (n : Nat) : OctOk (o.take n) := fun x hx => h x (List.mem_of_mem_take hx)
theorem behind_ok {o : Oct} (h : OctOk o) : ∀ {d : Deed}, (∀ x, d = .add x → OctOk x) → OctOk (behind o d)
  | .keep n, _ => octOk_take h n
  | .add x, g => octOk_app h (g x rfl)
theorem fold_ok : ∀ {ds : List Deed} {o : Oct}, OctOk o → (∀ x, Deed.add x ∈ ds → OctOk x) → OctOk (ds.foldl behind o)
  | [], _, h, _ => h
  | d :: ds, o, h, g => fold_ok (ds := ds) (behind_ok h fun x e => g x (e ▸ List.mem_cons_self)) fun x m => g x (List.mem_cons_of_mem _ m)
theorem FOk.cur {f : FM} (h : FOk f) : OctOk f.cur := fold_ok h.1 h.2
theorem FOk.push {f : FM} {d : Deed} (h : FOk f) (g : ∀ x, d = .add x → OctOk x) : FOk (f.push d) := ⟨h.1, fun x m => (List.mem_append.mp (show Deed.add x ∈ f.de ++ [d] from m)).elim (h.2 x) fun q => g x (List.mem_singleton.mp q).symm⟩
theorem FOk.add {f : FM} {o : Oct} (h : FOk f) (g : OctOk o) : FOk (f.add o) := by
  unfold FM.add
  split
  · exact h.push fun x e => by cases e; exact g
  · exact h
theorem FOk.kp {f : FM} {n : Nat} (h : FOk f) : FOk (f.kp n) := by
  unfold FM.kp
  split
  · exact h.push fun x e => by cases e
  · exact h
theorem FOk.sync {f : FM} (h : FOk f) : FOk f.sync := ⟨h.cur, fun x m => (nomatch m)⟩
theorem stepAt_ok {s : Oct × Nat} {d : Deed} (h : OctOk s.1) (g : ∀ x, d = .add x → OctOk x) : OctOk (stepAt s d).1 := by
  have ho : OctOk d.oct := by
    cases d with
    | keep n => exact octOk_nil
    | add x => exact g x rfl
  unfold stepAt
  dsimp only
  split
  · split
    · exact behind_ok h g
    · exact octOk_app h (octOk_take ho _)
  · exact h
theorem foldAt_ok : ∀ {ds : List Deed} {s : Oct × Nat}, OctOk s.1 → (∀ x, Deed.add x ∈ ds → OctOk x) → OctOk (ds.foldl stepAt s).1
  | [], _, h, _ => h
  | d :: ds, s, h, g => foldAt_ok (ds := ds) (stepAt_ok h fun x e => g x (e ▸ List.mem_cons_self)) fun x m => g x (List.mem_cons_of_mem _ m)
theorem FOk.at {f : FM} (h : FOk f) (k : Nat) : OctOk (f.at k) := foldAt_ok h.1 h.2
def JOk (J : JM) : Prop := ∀ f ∈ J.F, FOk f
theorem JOk.f {J : JM} (h : JOk J) {i : Nat} (hi : i < J.F.length) : FOk (J.f i) := by
  unfold JM.f
  rw [List.getD_eq_getElem?_getD, List.getElem?_eq_getElem hi]
  exact h _ (List.getElem_mem hi)
theorem JOk.setF {J : JM} (h : JOk J) {i : Nat} {f : FM} (g : FOk f) : JOk (J.setF i f) := fun x m => by
  rcases List.mem_or_eq_of_mem_set (show x ∈ J.F.set i f from m) with m | rfl
  · exact h x m
  · exact g
theorem recW_ok {s : Nat} {w : Wr} (hs : s < 1000000) (h : WrOk w) : OctOk (rec_ s w) := rec_ok h.ok (by have := body_len hs h; omega)
theorem JOk.draw {J : JM} (h : JOk J) {p : Nat} (hp : p < J.F.length) (hs : J.stamp < 1000000) (hw : WrOk J.w) : JOk (J.draw p) := h.setF (((h.f hp).kp).add (recW_ok hs hw))
theorem JOk.wrote {J : JM} (h : JOk J) {w w' : Wr} (h3 : J.F.length = 3) (hs : J.stamp + 1 < 1000000) (hw : WrOk w) : JOk (J.wrote w w') := h.setF ((h.f (by omega)).add (recW_ok hs hw))
theorem JOk.settle {J : JM} (h : JOk J) (h3 : J.F.length = 3) (pl : ∀ p s, J.drawn = some (p, s) → p < 2) : JOk J.settle := by
  unfold JM.settle
  split
  · exact h
  · next p s e =>
    have hp := pl p s e
    have h1 : JOk (J.setF p (J.f p).sync) := h.setF (h.f (by omega)).sync
    have hl : (J.setF p (J.f p).sync).F.length = 3 := (List.length_set).trans h3
    show JOk { (if s = J.stamp then _ else _ : JM) with drawn := none }
    split
    · exact h1.setF (h1.f (by omega)).kp
    · exact h1
theorem opened_ok {d : Dk'} {w : Wr} (h0 : OctOk d.o0) (h1 : OctOk d.o1) (h2 : OctOk d.log) : JOk (opened d w) := fun f m => by
  have one : ∀ {o : Oct}, OctOk o → FOk ⟨o, []⟩ := fun ho => ⟨ho, fun x m => (nomatch m)⟩
  rcases List.mem_cons.mp (show f ∈ [_, _, _] from m) with rfl | m
  · exact one h0
  rcases List.mem_cons.mp m with rfl | m
  · exact one h1
  rw [List.mem_singleton.mp m]
  exact (one h2).kp
theorem steps_sum (ds : List Deed) : (ds.map Deed.steps).sum ≤ (ds.map FM.addLen).sum + ds.length := by
  induction ds with
  | nil => exact Nat.le_refl _
  | cons d ds ih =>
    have : d.steps ≤ FM.addLen d + 1 := by
      cases d with
      | keep n => exact Nat.le_refl _
      | add x => exact Nat.le_succ _
    simp only [List.map_cons, List.sum_cons, List.length_cons]
    omega
theorem LInv.many {ks : List Str} {n : Nat} {W : List Wr} {S : LM} (h : LInv ks n W S) {i : Nat} (hi : i < 3) : (S.J.f i).many ≤ 1 + 505 * n := by
  have h1 := h.bnd _ (mem_f h hi).1
  have h2 := steps_sum (S.J.f i).de
  have h3 : (S.J.f i).bnd = (S.J.f i).sy.length + ((S.J.f i).de.map FM.addLen).sum := rfl
  show 1 + ((S.J.f i).de.map Deed.steps).sum ≤ _
  omega
theorem LInv.lens {ks : List Str} {n : Nat} {W : List Wr} {S : LM} (h : LInv ks n W S) : S.im0.length ≤ 1 + 505 * n ∧ S.im1.length ≤ 1 + 505 * n ∧ S.lg.length ≤ 1 + 505 * n ∧ 0 < S.im0.length ∧ 0 < S.im1.length ∧ 0 < S.lg.length := by
  have a0 := h.r0.len
  have a1 := h.r1.len
  have a2 := h.r2.len
  have b0 := h.many (i := 0) (by decide)
  have b1 := h.many (i := 1) (by decide)
  have b2 := h.many (i := 2) (by decide)
  have c : ∀ f : FM, 0 < f.many := fun f => by show 0 < 1 + f.steps; omega
  have c0 := c (S.J.f 0)
  have c1 := c (S.J.f 1)
  have c2 := c (S.J.f 2)
  omega
theorem LInv.jms {ks : List Str} {n : Nat} {W : List Wr} {S : LM} (h : LInv ks n W S) (hk : KsOk ks) : S.ms[S.J.stamp]? = some S.J.w ∧ WrOk S.J.w := by
  have hl : S.J.stamp < S.ms.length := by rw [h.msl, h.st]; omega
  obtain ⟨x, e⟩ : ∃ x, S.ms[S.J.stamp]? = some x := ⟨_, List.getElem?_eq_getElem hl⟩
  have h1 := h.ms _ _ e
  rw [h.st] at h1
  have := IsMap.uniq h1 h.jw
  exact ⟨by rw [e, this], (h.jw.ok hk (Fm.isIn h.wok _)).1⟩
end Sp
set_option Elab.async false
set_option linter.all false
set_option maxRecDepth 100000
set_option maxHeartbeats 4000000
namespace Sp
open PySem PySem.Spec PyProof.Rows L2
def rowD (r : IRow) : PyData := .tuple [.int r.1, .int (r.2 : Nat)]
def logD (r : LRow) : PyData := .tuple [.int (r.1 : Nat), .int (r.2.1 : Nat), .int (r.2.2 : Nat)]
/-- tuples without a dict of their own stay -/
def Fz (H H' : Hp) : Prop := ∀ a o xs, H a = some (.frz o (.tup xs)) → H' a = some (.frz o (.tup xs))
theorem Fz.refl (H : Hp) : Fz H H := fun _ _ _ h => h
theorem Fz.trans {H H1 H2 : Hp} (a : Fz H H1) (b : Fz H1 H2) : Fz H H2 := fun x o xs h => b x o xs (a x o xs h)
theorem Fz.same {H H' : Hp} (e : Same H H') : Fz H H' := fun _ _ _ h => e _ _ h
theorem Fz.upd {H : Hp} {p : Addr} {o u : HO} (h : H p = some o) (ho : wr o = true := by rfl) : Fz H (upd H p u) := fun a ob xs e => by
  rw [upd_ne]
  · exact e
  · rintro rfl
    rw [h] at e
    rw [Option.some.inj e] at ho
    cases ho
theorem DN.fz {H H' : Hp} {v : V} (h : DN H v) (k : Fz H H') : DN H' v := by
  obtain ⟨a, o, xs, e1, e2, e3⟩ := h
  exact ⟨a, o, xs, e1, k _ _ _ e2, e3⟩
theorem Fr.fz {H H' : Hp} {M M' : List Addr} (h : Fr H M H' M') (hm : ∀ a ∈ M, ∀ o xs, H a ≠ some (.frz o (.tup xs))) : Fz H H' := fun a o xs e => h.keep a _ e fun m => hm a m o xs e
theorem GenAt.nofrz {H : Hp} {M : List Addr} {g : Addr} (h : GenAt H M g) : ∀ a ∈ M, ∀ o xs, H a ≠ some (.frz o (.tup xs)) := by
  obtain ⟨r, cs, s, rfl, hn, h1, h2, _⟩ := h
  intro a m o xs e
  rcases List.mem_cons.mp m with rfl | m
  · rw [h1] at e; cases e
  · rw [List.mem_singleton.mp m] at e
    rw [h2] at e; cases e
theorem JAt.nofrz {c : Cn} {H : Hp} {M : List Addr} {j : Addr} {J : JM} (h : JAt c H M j J) : ∀ a ∈ M, ∀ o xs, H a ≠ some (.frz o (.tup xs)) := by
  obtain ⟨dx, v0, ve, vw, vd, fl, Mf, rfl, hj, h1, h2, h3, h4, h5⟩ := h
  intro a m o xs e
  rcases List.mem_cons.mp m with rfl | m
  · rw [h1] at e; cases e
  · exact h5.nofrz a m e
theorem JAt.out' {c : Cn} {H H' : Hp} {M : List Addr} {j : Addr} {J : JM} (h : JAt c H M j J) (k : ∀ a ∈ M, ∀ o, H a = some o → H' a = some o) (kt : Tk H H') (kf : Fz H H') : JAt c H' M j J := by
  obtain ⟨dx, v0, ve, vw, vd, fl, Mf, rfl, hj, h1, h2, h3, h4, h5⟩ := h
  exact ⟨dx, v0, ve, vw, vd, fl, Mf, rfl, hj, k _ (by simp) _ h1, Dt.tk kt _ h2, h3.fz kf, Dt.tk kt _ h4, h5.out (fun a m => k a (by simp [m])) kt⟩
def MapsAt (H : Hp) (md : Addr) (ms : List Wr) : Prop := ∃ mk : List (Key × V), H md = some (.dK mk) ∧ mk.map (·.1) = (List.range ms.length).map (fun t => (Sum.inl ((t : Nat) : Int) : Key)) ∧ ∀ t w, ms[t]? = some w → ∃ v, valV mk (.inl ((t : Nat) : Int) : Key) = some v ∧ Dt H (wrD w) v ∧ DN H v
structure StP where
  kvs : List (Key × V)
  j : Addr
  Mj : List Addr
  md : Addr
  ia : Addr
  i0 : Addr
  i1 : Addr
  lg : Addr
  x0 : List V
  x1 : List V
  xl : List V
  vd : V
structure StR (c : Cn) (H : Hp) (M : List Addr) (st : Addr) (S : LM) (dw : Option (Nat × Nat)) (P : StP) : Prop where
  M : M = st :: P.md :: P.ia :: P.i0 :: P.i1 :: P.lg :: P.Mj
  nd : [st, P.md, P.ia, P.i0, P.i1, P.lg].Nodup
  dj : ∀ a ∈ [st, P.md, P.ia, P.i0, P.i1, P.lg], a ∉ P.Mj
  st : H st = some (.dK P.kvs)
  kl : P.kvs.length ≤ 20
  kj : valV P.kvs (.inr "journal" : Key) = some (.ref P.j)
  km : valV P.kvs (.inr "maps" : Key) = some (.ref P.md)
  ki : valV P.kvs (.inr "images" : Key) = some (.ref P.ia)
  kg : valV P.kvs (.inr "logs" : Key) = some (.ref P.lg)
  kd : valV P.kvs (.inr "drawn" : Key) = some P.vd
  j : JAt c H P.Mj P.j S.J
  ms : MapsAt H P.md S.ms
  ia : H P.ia = some (.lst [.ref P.i0, .ref P.i1])
  i0 : H P.i0 = some (.lst P.x0)
  d0 : Dts H (S.im0.map rowD) P.x0
  i1 : H P.i1 = some (.lst P.x1)
  d1 : Dts H (S.im1.map rowD) P.x1
  lg : H P.lg = some (.lst P.xl)
  dl : Dts H (S.lg.map logD) P.xl
  dd : Dt H (drawnD dw) P.vd
def StAt (c : Cn) (H : Hp) (M : List Addr) (st : Addr) (S : LM) (dw : Option (Nat × Nat)) : Prop := ∃ P, StR c H M st S dw P
theorem MapsAt.out {H H' : Hp} {md : Addr} {ms : List Wr} (h : MapsAt H md ms) (k : ∀ o, H md = some o → H' md = some o) (kt : Tk H H') (kf : Fz H H') : MapsAt H' md ms := by
  obtain ⟨mk, h1, h2, h3⟩ := h
  refine ⟨mk, k _ h1, h2, fun t w hw => ?_⟩
  obtain ⟨v, g1, g2, g3⟩ := h3 t w hw
  exact ⟨v, g1, Dt.tk kt _ g2, g3.fz kf⟩
section
variable {c : Cn} {H H' : Hp} {M : List Addr} {st : Addr} {S : LM} {dw : Option (Nat × Nat)} {P : StP}
theorem StR.out (h : StR c H M st S dw P) (k : ∀ a ∈ M, ∀ o, H a = some o → H' a = some o) (kt : Tk H H') (kf : Fz H H') : StR c H' M st S dw P := by
  have hM := h.M
  have mem : ∀ a ∈ [st, P.md, P.ia, P.i0, P.i1, P.lg], a ∈ M := fun a m => by
    rw [hM]
    simp only [List.mem_cons, List.not_mem_nil, or_false] at m ⊢
    rcases m with m | m | m | m | m | m <;> simp [m]
  exact ⟨hM, h.nd, h.dj, k _ (mem _ (by simp)) _ h.st, h.kl, h.kj, h.km, h.ki, h.kg, h.kd, h.j.out' (fun a m => k a (by rw [hM]; simp [m])) kt kf, h.ms.out (k _ (mem _ (by simp))) kt kf, k _ (mem _ (by simp)) _ h.ia, k _ (mem _ (by simp)) _ h.i0, Dts.tk kt _ h.d0, k _ (mem _ (by simp)) _ h.i1, Dts.tk kt _ h.d1, k _ (mem _ (by simp)) _ h.lg, Dts.tk kt _ h.dl, Dt.tk kt _ h.dd⟩
theorem StR.to (h : StR c H M st S dw P) (e : Same H H') : StR c H' M st S dw P := h.out (fun a _ o ho => e a o ho) (tk_same e) (Fz.same e)
theorem StAt.to (h : StAt c H M st S dw) (e : Same H H') : StAt c H' M st S dw := by
  obtain ⟨P, h⟩ := h
  exact ⟨P, h.to e⟩
theorem StAt.gen {N N' : List Addr} {g : Addr} (h : StAt c H M st S dw) (hG : GenAt H N g) (f : Fr H N H' N') (hd : ∀ a ∈ N, a ∉ M) : StAt c H' M st S dw := by
  obtain ⟨P, h⟩ := h
  exact ⟨P, h.out (fun a m o ho => f.keep a o ho fun q => hd a q m) f.tk (f.fz hG.nofrz)⟩
end
namespace LM
def setIm (S : LM) (p : Nat) (rows : List IRow) : LM := if p = 0 then { S with im0 := rows } else { S with im1 := rows }
end LM
section
variable {c : Cn} {H H' : Hp} {M : List Addr} {st : Addr} {S : LM} {dw dw' : Option (Nat × Nat)} {P : StP}
theorem StR.mem (h : StR c H M st S dw P) : ∀ a ∈ [st, P.md, P.ia, P.i0, P.i1, P.lg], a ∈ M := fun a m => by
  rw [h.M]
  simp only [List.mem_cons, List.not_mem_nil, or_false] at m ⊢
  rcases m with m | m | m | m | m | m <;> simp [m]
/-- which row list a place has -/
def StP.row (P : StP) (p : Nat) : Addr := if p = 0 then P.i0 else P.i1
theorem StR.rowAt (h : StR c H M st S dw P) {p : Nat} (hp : p < 2) : ∃ xs, H (P.row p) = some (.lst xs) ∧ Dts H ((S.im p).map rowD) xs ∧ ([V.ref P.i0, V.ref P.i1])[p]? = some (.ref (P.row p)) ∧ P.row p ∈ M := by
  unfold StP.row LM.im
  match p, hp with
  | 0, _ => exact ⟨_, h.i0, h.d0, rfl, h.mem _ (by simp)⟩
  | 1, _ => exact ⟨_, h.i1, h.d1, rfl, h.mem _ (by simp)⟩
theorem fr1_fz {H H' : Hp} {r : Addr} {xs : List V} (f : Fr H [r] H' [r]) (h : H r = some (.lst xs)) : Fz H H' := f.fz fun a m o ys e => by
  rw [List.mem_singleton.mp m, h] at e
  cases e
theorem StR.setRow (h : StR c H M st S dw P) {p : Nat} (hp : p < 2) {rows : List IRow} {ys : List V} (f : Fr H [P.row p] H' [P.row p]) (hy : H' (P.row p) = some (.lst ys)) (hd : Dts H' (rows.map rowD) ys) : ∃ P', StR c H' M st (S.setIm p rows) dw P' ∧ P'.md = P.md ∧ P'.lg = P.lg ∧ P'.kvs = P.kvs := by
  have hn := h.nd
  simp only [List.nodup_cons, List.mem_cons, List.not_mem_nil, or_false, not_or] at hn
  obtain ⟨⟨a1, a2, a3, a4, a5⟩, ⟨b2, b3, b4, b5⟩, ⟨c3, c4, c5⟩, ⟨d4, d5⟩, e5, _⟩ := hn
  have hk := f.tk
  unfold StP.row at f hy
  match p, hp with
  | 0, _ =>
    have hz := fr1_fz f h.i0
    have k : ∀ a o, a ≠ P.i0 → H a = some o → H' a = some o := fun a o hne ho => f.keep a o ho fun m => hne (List.mem_singleton.mp m)
    exact ⟨{ P with x0 := ys }, ⟨h.M, h.nd, h.dj, k _ _ a3 h.st, h.kl, h.kj, h.km, h.ki, h.kg, h.kd, h.j.out' (fun a m o ho => k a o (fun e => h.dj P.i0 (by simp) (e ▸ m)) ho) hk hz, h.ms.out (fun o ho => k _ _ b3 ho) hk hz, k _ _ c3 h.ia, hy, hd, k _ _ (fun e => d4 e.symm) h.i1, Dts.tk hk _ h.d1, k _ _ (fun e => d5 e.symm) h.lg, Dts.tk hk _ h.dl, Dt.tk hk _ h.dd⟩, rfl, rfl, rfl⟩
  | 1, _ =>
    have hz := fr1_fz f h.i1
    have k : ∀ a o, a ≠ P.i1 → H a = some o → H' a = some o := fun a o hne ho => f.keep a o ho fun m => hne (List.mem_singleton.mp m)
    exact ⟨{ P with x1 := ys }, ⟨h.M, h.nd, h.dj, k _ _ a4 h.st, h.kl, h.kj, h.km, h.ki, h.kg, h.kd, h.j.out' (fun a m o ho => k a o (fun e => h.dj P.i1 (by simp) (e ▸ m)) ho) hk hz, h.ms.out (fun o ho => k _ _ b4 ho) hk hz, k _ _ c4 h.ia, k _ _ d4 h.i0, Dts.tk hk _ h.d0, hy, hd, k _ _ (fun e => e5 e.symm) h.lg, Dts.tk hk _ h.dl, Dt.tk hk _ h.dd⟩, rfl, rfl, rfl⟩
theorem StR.setLog (h : StR c H M st S dw P) {rows : List LRow} {ys : List V} (f : Fr H [P.lg] H' [P.lg]) (hy : H' P.lg = some (.lst ys)) (hd : Dts H' (rows.map logD) ys) : StR c H' M st { S with lg := rows } dw { P with xl := ys } := by
  have hn := h.nd
  simp only [List.nodup_cons, List.mem_cons, List.not_mem_nil, or_false, not_or] at hn
  obtain ⟨⟨a1, a2, a3, a4, a5⟩, ⟨b2, b3, b4, b5⟩, ⟨c3, c4, c5⟩, ⟨d4, d5⟩, e5, _⟩ := hn
  have hk := f.tk
  have hz := fr1_fz f h.lg
  have k : ∀ a o, a ≠ P.lg → H a = some o → H' a = some o := fun a o hne ho => f.keep a o ho fun m => hne (List.mem_singleton.mp m)
  exact ⟨h.M, h.nd, h.dj, k _ _ a5 h.st, h.kl, h.kj, h.km, h.ki, h.kg, h.kd, h.j.out' (fun a m o ho => k a o (fun e => h.dj P.lg (by simp) (e ▸ m)) ho) hk hz, h.ms.out (fun o ho => k _ _ b5 ho) hk hz, k _ _ c5 h.ia, k _ _ d5 h.i0, Dts.tk hk _ h.d0, k _ _ e5 h.i1, Dts.tk hk _ h.d1, hy, hd, Dt.tk hk _ h.dd⟩
/-- state['drawn'] = .. -/
theorem StR.setDrawn (h : StR c H M st S dw P) {v : V} (hv : Dt H (drawnD dw') v) : StR c (upd H st (.dK (putK P.kvs (.inr "drawn") v))) M st S dw' { P with kvs := putK P.kvs (.inr "drawn") v, vd := v } ∧ Fr H M (upd H st (.dK (putK P.kvs (.inr "drawn") v))) M := by
  have hn := h.nd
  simp only [List.nodup_cons, List.mem_cons, List.not_mem_nil, or_false, not_or] at hn
  obtain ⟨⟨a1, a2, a3, a4, a5⟩, _⟩ := hn
  have hk : Tk H (upd H st (.dK (putK P.kvs (.inr "drawn") v))) := tk_upd h.st
  have hz : Fz H (upd H st (.dK (putK P.kvs (.inr "drawn") v))) := Fz.upd h.st
  have k : ∀ a o, a ≠ st → H a = some o → upd H st (.dK (putK P.kvs (.inr "drawn") v)) a = some o := fun a o hne ho => (upd_ne hne).trans ho
  have kv : ∀ x : Str, x ≠ "drawn" → valV (putK P.kvs (.inr "drawn" : Key) v) (.inr x : Key) = valV P.kvs (.inr x) := fun x hx => by
    rw [valV_put, if_neg (fun e => hx (Sum.inr.inj e))]
  have hmem : (Sum.inr "drawn" : Key) ∈ P.kvs.map (·.1) := by
    by_cases m : (Sum.inr "drawn" : Key) ∈ P.kvs.map (·.1)
    · exact m
    · have := valV_none_iff.mpr m
      rw [h.kd] at this
      cases this
  refine ⟨⟨h.M, h.nd, h.dj, upd_same, ?_, (kv _ (by decide +kernel)).trans h.kj, (kv _ (by decide +kernel)).trans h.km, (kv _ (by decide +kernel)).trans h.ki, (kv _ (by decide +kernel)).trans h.kg, ?_, h.j.out' (fun a m o ho => k a o (fun e => h.dj st (by simp) (e ▸ m)) ho) hk hz, h.ms.out (fun o ho => k _ _ (fun e => a1 e.symm) ho) hk hz, k _ _ (fun e => a2 e.symm) h.ia, k _ _ (fun e => a3 e.symm) h.i0, Dts.tk hk _ h.d0, k _ _ (fun e => a4 e.symm) h.i1, Dts.tk hk _ h.d1, k _ _ (fun e => a5 e.symm) h.lg, Dts.tk hk _ h.dl, Dt.tk hk _ hv⟩, Fr.upd (h.mem _ (by simp)) h.st⟩
  · have := congrArg List.length (putK_keys v hmem)
    rw [List.length_map, List.length_map] at this
    show (putK P.kvs _ _).length ≤ 20
    rw [this]
    exact h.kl
  · show valV (putK P.kvs _ _) _ = _
    rw [valV_put, if_pos rfl]
end
theorem fr_weak {H H' : Hp} {M : List Addr} {r : Addr} (f : Fr H [r] H' [r]) (hr : r ∈ M) : Fr H M H' M := ⟨fun a o ho n => f.keep a o ho fun m => n (by rw [List.mem_singleton.mp m]; exact hr), fun a m => .inl m, f.dom, f.tk⟩
/-! ### looking at the state -/
section
variable {K : PySem.W.Frag} {l : L2.St} {H H' : Hp} {ta tb te : TE} {v : V}
theorem vv_getK {a : Addr} {kvs : List (Key × V)} {x : Str} (ha : EvV ta l H (.ref a)) (h : Rd H a (.dK kvs)) (hv : valV kvs (.inr x : Key) = some v) : EvV (tDGet ta (tC (.str x))) l H v := fun H1 e Q q =>
  ha H1 e _ fun H2 e2 => ⟨a, v, rfl, .inl ⟨kvs, .inr x, rd_to (e.trans e2) h, rfl, hv.symm⟩, q H2 e2⟩
theorem nuMax3_int (i j k : Int) : nuMax3 (.int i) (.int j) (.int k) = some (.int (max i (max j k))) := by
  have e : ∀ a b : Int, nuMax2 (.int a) (.int b) = some (.int (max a b)) := fun a b => by
    show (some (decide (a < b))).map (fun c => if c = true then V.int b else V.int a) = _
    rw [Option.map_some]
    congr 1
    by_cases h : a < b
    · rw [decide_eq_true h, if_pos rfl, show max a b = b by omega]
    · rw [decide_eq_false h, if_neg (by decide), show max a b = a by omega]
  unfold nuMax3
  rw [e, Option.bind_some, e]
  congr 2
  omega
theorem ev_max3 {l : L2.St} {H : Hp} {ta tb tc : TE} {i j k : Int} (ha : Ev ta l H (.int i)) (hb : Ev tb l H (.int j)) (hc : Ev tc l H (.int k)) : Ev (tCB (rNuC3 nuMax3) (tCons ta (tCons tb (tCons tc tNil)))) l H (.int (max i (max j k))) := fun H1 e Q q =>
  ha H1 e _ fun v H2 e2 h2 => hb H2 (e.trans e2) _ fun w H3 e3 h3 => hc H3 ((e.trans e2).trans e3) _ fun z H4 e4 h4 => ⟨.int i, .int j, .int k, .int (max i (max j k)), by rw [show v = .int i from h2, show w = .int j from h3, show z = .int k from h4], by
    exact nuMax3_int i j k, q _ H4 ((e2.trans e3).trans e4) rfl⟩
theorem ev_max2 {l : L2.St} {H : Hp} {ta tb : TE} {i j : Int} (ha : Ev ta l H (.int i)) (hb : Ev tb l H (.int j)) : Ev (tCB (fun xs H Q => ∃ i j, xs = [V.int i, V.int j] ∧ Q (.int (if j > i then j else i)) H) (tCons ta (tCons tb tNil))) l H (.int (max i j)) := fun H1 e Q q =>
  ha H1 e _ fun v H2 e2 h2 => hb H2 (e.trans e2) _ fun w H3 e3 h3 => ⟨i, j, by rw [show v = .int i from h2, show w = .int j from h3], q _ H3 (e2.trans e3) (by
    show V.int _ = V.int _
    congr 1
    split <;> omega)⟩
end
def LookQ (S : LM) (ks : List Nat) (r0 r1 : IRow) (rl : LRow) : Prop := ∃ k0 k1 k2, ks = [k0, k1, k2] ∧ S.im0[k0]? = some r0 ∧ S.im1[k1]? = some r1 ∧ S.lg[k2]? = some rl
/-- a look at the state by numbers -/
def spSt (c : Cn) (res : IRow → IRow → LRow → PyData) : Sp := fun vs H Q _ => ∃ st M S dw ks r0 r1 rl v, vs = [V.ref st, v] ∧ Dt H (natsD ks) v ∧ StAt c H M st S dw ∧ LookQ S ks r0 r1 rl ∧ ∀ v H', Same H H' → Dt H' (res r0 r1 rl) v → Q v H'
def baseI (r0 r1 : IRow) : Int := max 0 (max r0.1 r1.1)
theorem sc__law_base : FnScope ["_law_state", "_law_numbers_here"] ["_law_state", "_law_numbers_here"] (defScope s__law_base) := ⟨rfl, rfl, rfl, by decide +kernel, rfl, by decide +kernel, by decide +kernel⟩
theorem d__law_base {c : Cn} (T : Tx c) : Df c "_law_base" 1 ["_law_state", "_law_numbers_here"] (spSt c (fun r0 r1 _ => .int (baseI r0 r1)) ) :=
  T.df 53 53 rfl rfl sc__law_base (fun _ _ _ _ _ _ us hl => match us, hl with | [_, _], _ => rfl) (fun vs H Q E h => by obtain ⟨_, _, _, _, _, _, _, _, _, e, _⟩ := h; rw [e] <;> rfl) fun f cdv A outer s H vs Q E hr h => by
    refine ⟨_, (pss_one (ps_ret (pe_callB (call_max3Nu rfl) (by rfl) T.n_max (by decide +kernel) (pa_cons pe_int (pa_cons (pe_ix ix_tup (pe_ix ix_list (pe_ix ix_list (pe_dget (hu_of hr) (pv 0) pe_str (fun _ _ => rfl)) pe_int (fun _ _ => rfl)) (pe_ix ix_tup (pv 1) pe_int (fun _ _ => rfl)) (fun _ _ => rfl)) pe_int (fun _ _ => rfl)) (pa_cons (pe_ix ix_tup (pe_ix ix_list (pe_ix ix_list (pe_dget (hu_of hr) (pv 0) pe_str (fun _ _ => rfl)) pe_int (fun _ _ => rfl)) (pe_ix ix_tup (pv 1) pe_int (fun _ _ => rfl)) (fun _ _ => rfl)) pe_int (fun _ _ => rfl)) pa_nil)))))), ?_⟩
    obtain ⟨st, M, S, dw, ks, r0, r1, rl, v, rfl, hv, ⟨P, hS⟩, ⟨k0, k1, k2, rfl, h0, h1, h2⟩, k⟩ := h
    have hn : ∀ {i : Nat} {x : Nat}, ([k0, k1, k2] : List Nat)[i]? = some x → Ev (tOp (rIxT c.K) (tVar 1) (tC (.int (i : Nat)))) (L2.start ["_law_state", "_law_numbers_here"] [V.ref st, v]) H (.int (x : Nat)) := fun hx => ev_ix (ds := [k0, k1, k2].map fun k => PyData.int (k : Nat)) (ev_at (d := natsD [k0, k1, k2]) rfl hv) ev_int (atI_nat (by rw [List.getElem?_map, hx]; rfl))
    have him : EvV (tDGet (tVar 0) (tC (.str "images"))) (L2.start ["_law_state", "_law_numbers_here"] [V.ref st, v]) H (.ref P.ia) := vv_getK (vv_at rfl) (.inl hS.st) hS.ki
    exact s_ret (d := .int (baseI r0 r1)) (ev_max3 (ev_int (i := 0)) (ev_ix (ds := [.int r0.1, .int (r0.2 : Nat)]) (i := 0) (ev_ixL (ds := S.im0.map rowD) (vv_ix (i := 0) him hS.ia ev_int rfl) hS.i0 hS.d0 (hn (i := 0) rfl) (atI_nat (by rw [List.getElem?_map, h0]; rfl))) ev_int rfl) (ev_ix (ds := [.int r1.1, .int (r1.2 : Nat)]) (i := 0) (ev_ixL (ds := S.im1.map rowD) (vv_ix (i := 1) him hS.ia ev_int rfl) hS.i1 hS.d1 (hn (i := 1) rfl) (atI_nat (by rw [List.getElem?_map, h1]; rfl))) ev_int rfl)) fun v H1 e hd => k v H1 e hd
theorem sc__law_due : FnScope ["_law_state", "_law_numbers_here"] ["_law_state", "_law_numbers_here"] (defScope s__law_due) := ⟨rfl, rfl, rfl, by decide +kernel, rfl, by decide +kernel, by decide +kernel⟩
theorem d__law_due {c : Cn} (T : Tx c) : Df c "_law_due" 2 ["_law_state", "_law_numbers_here"] (spSt c (fun r0 r1 rl => .int (max (baseI r0 r1) (rl.1 : Nat))) ) :=
  T.df 54 54 rfl rfl sc__law_due (fun _ _ _ _ _ _ us hl => match us, hl with | [_, _], _ => rfl) (fun vs H Q E h => by obtain ⟨_, _, _, _, _, _, _, _, _, e, _⟩ := h; rw [e] <;> rfl) fun f cdv A outer s H vs Q E hr h => by
    refine ⟨_, (pss_one (ps_ret (pe_callB (call_max2 rfl) (by rfl) T.n_max (by decide +kernel) (pa_cons (pe_d (d__law_base T) (hr.mono (by decide)) (pa_cons (pv 0) (pa_cons (pv 1) pa_nil))) (pa_cons (pe_ix ix_tup (pe_ix ix_list (pe_dget (hu_of hr) (pv 0) pe_str (fun _ _ => rfl)) (pe_ix ix_tup (pv 1) pe_int (fun _ _ => rfl)) (fun _ _ => rfl)) pe_int (fun _ _ => rfl)) pa_nil))))), ?_⟩
    obtain ⟨st, M, S, dw, ks, r0, r1, rl, v, rfl, hv, ⟨P, hS⟩, ⟨k0, k1, k2, rfl, h0, h1, h2⟩, k⟩ := h
    have hn : ∀ {i : Nat} {x : Nat}, ([k0, k1, k2] : List Nat)[i]? = some x → Ev (tOp (rIxT c.K) (tVar 1) (tC (.int (i : Nat)))) (L2.start ["_law_state", "_law_numbers_here"] [V.ref st, v]) H (.int (x : Nat)) := fun hx => ev_ix (ds := [k0, k1, k2].map fun k => PyData.int (k : Nat)) (ev_at (d := natsD [k0, k1, k2]) rfl hv) ev_int (atI_nat (by rw [List.getElem?_map, hx]; rfl))
    have hbase : Ev (tCall (spSt c (fun r0 r1 _ => .int (baseI r0 r1))) [] E0 (tCons (tVar 0) (tCons (tVar 1) tNil))) (L2.start ["_law_state", "_law_numbers_here"] [V.ref st, v]) H (.int (baseI r0 r1)) := fun H1 e Q q => p_call (p_cons (p_at (v := .ref st) rfl (p_cons (p_at (v := v) rfl (p_nil ⟨st, M, S, dw, _, r0, r1, rl, v, rfl, hv.to e, ⟨P, hS.to e⟩, ⟨k0, k1, k2, rfl, h0, h1, h2⟩, q⟩)))))
    exact s_ret (ev_max2 hbase (ev_ix (ds := [.int (rl.1 : Nat), .int (rl.2.1 : Nat), .int (rl.2.2 : Nat)]) (i := 0) (ev_ixL (ds := S.lg.map logD) (vv_getK (vv_at rfl) (.inl hS.st) hS.kg) hS.lg hS.dl (hn (i := 2) rfl) (atI_nat (by rw [List.getElem?_map, h2]; rfl))) ev_int rfl)) fun v H1 e hd => k v H1 e hd
def spChoices (c : Cn) : Sp := fun vs H Q _ => ∃ st M S dw, vs = [V.ref st] ∧ StAt c H M st S dw ∧ ∀ v H', Same H H' → Dt H' (natsD [S.im0.length, S.im1.length, S.lg.length]) v → Q v H'
theorem sc__law_choices : FnScope ["_law_state"] ["_law_state"] (defScope s__law_choices) := ⟨rfl, rfl, rfl, by decide +kernel, rfl, by decide +kernel, by decide +kernel⟩
theorem d__law_choices {c : Cn} (T : Tx c) : Df c "_law_choices" 1 ["_law_state"] (spChoices c ) :=
  T.df 58 58 rfl rfl sc__law_choices (fun _ _ _ _ _ _ us hl => match us, hl with | [_], _ => rfl) (fun vs H Q E h => by obtain ⟨_, _, _, _, e, _⟩ := h; rw [e] <;> rfl) fun f cdv A outer s H vs Q E hr h => by
    refine ⟨_, (pss_one (ps_ret (pe_tup (pa_cons (pe_callB call_len_seq (by rfl) T.n_len (by decide +kernel) (pa_cons (pe_ix ix_list (pe_dget (hu_of hr) (pv 0) pe_str (fun _ _ => rfl)) pe_int (fun _ _ => rfl)) pa_nil)) (pa_cons (pe_callB call_len_seq (by rfl) T.n_len (by decide +kernel) (pa_cons (pe_ix ix_list (pe_dget (hu_of hr) (pv 0) pe_str (fun _ _ => rfl)) pe_int (fun _ _ => rfl)) pa_nil)) (pa_cons (pe_callB call_len_seq (by rfl) T.n_len (by decide +kernel) (pa_cons (pe_dget (hu_of hr) (pv 0) pe_str (fun _ _ => rfl)) pa_nil)) pa_nil)))))), ?_⟩
    obtain ⟨st, M, S, dw, rfl, ⟨P, hS⟩, k⟩ := h
    have him : EvV (tDGet (tVar 0) (tC (.str "images"))) (L2.start ["_law_state"] [V.ref st]) H (.ref P.ia) := vv_getK (vv_at rfl) (.inl hS.st) hS.ki
    have e0 := hS.d0.len
    have e1 := hS.d1.len
    have e2 := hS.dl.len
    rw [List.length_map] at e0 e1 e2
    exact s_ret (d := natsD [S.im0.length, S.im1.length, S.lg.length]) (ev_tup (ea_3 ((ev_lenL (vv_ix (i := 0) him hS.ia ev_int rfl) hS.i0).is (by rw [e0])) ((ev_lenL (vv_ix (i := 1) him hS.ia ev_int rfl) hS.i1).is (by rw [e1])) ((ev_lenL (vv_getK (vv_at rfl) (.inl hS.st) hS.kg) hS.lg).is (by rw [e2]))) len3) fun v H1 e hd => k v H1 e hd
end Sp
set_option Elab.async false
set_option linter.all false
set_option maxRecDepth 100000
set_option maxHeartbeats 4000000
namespace Sp
open PySem PySem.Spec PyProof.Rows L2
theorem ev_maxM {l : L2.St} {H : Hp} {ta : TE} {md : Addr} {ms : List Wr} (ha : EvV ta l H (.ref md)) (h : MapsAt H md ms) (hp : 0 < ms.length) : Ev (tCB rMaxD (tCons ta tNil)) l H (.int ((ms.length - 1 : Nat) : Int)) := fun H1 e Q q => ha H1 e _ fun H2 e2 => by
  obtain ⟨mk, h1, h2, _⟩ := h
  refine ⟨md, mk, (List.range ms.length).map fun t => ((t : Nat) : Int), rfl, .inl ((e.trans e2) _ _ h1), by rw [h2, List.map_map]; rfl, by rw [List.length_map, List.length_range]; exact hp, fun m hm hmax => ?_⟩
  obtain ⟨t, ht, rfl⟩ := List.mem_map.mp hm
  have ht := List.mem_range.mp ht
  have := hmax ((ms.length - 1 : Nat) : Int) (List.mem_map.mpr ⟨ms.length - 1, List.mem_range.mpr (by omega), rfl⟩)
  have e3 : t = ms.length - 1 := by omega
  subst e3
  exact q _ _ e2 rfl
theorem ev_maps {l : L2.St} {H : Hp} {ta tb : TE} {md : Addr} {ms : List Wr} {t : Nat} {w : Wr} (ha : EvV ta l H (.ref md)) (h : MapsAt H md ms) (hb : Ev tb l H (.int (t : Nat))) (hw : ms[t]? = some w) : Ev (tDGet ta tb) l H (wrD w) := by
  obtain ⟨mk, h1, h2, h3⟩ := h
  obtain ⟨v, g1, g2, _⟩ := h3 t w hw
  exact ev_getK (k := .inl ((t : Nat) : Int)) ha hb rfl (.inl h1) g1 g2
theorem p_qpar {n m : Nat} {ta : TA} {D : Ends} {tz : TS} {l : L2.St} {H : Hp} (h : ta l H fun vs H1 => ∃ u v, vs = [u, v] ∧ tz D ((l.set n (some u)).set m (some v)) H1) : tSeq (tPar n m ta) tz D l H := h
theorem p_dput {td ty tv : TE} {D : Ends} {l : L2.St} {H : Hp} (h : tv l H fun v H1 => td l H1 fun x H2 => ty l H2 fun y H3 => ∃ a H4, x = .ref a ∧ DPut H3 a y v H4 ∧ D.nx l H4) : sDPut td ty tv D l H := h
def LM.drewR (S : LM) : LM := S.setIm S.place (drawnRows (S.im S.place) S.J.stamp (rec_ S.J.stamp S.J.w).length)
theorem drew_eq (S : LM) : S.drew = { S.drewR with J := S.J.draw S.place } := by
  unfold LM.drewR LM.setIm LM.im LM.drew
  by_cases h : S.place = 0
  · rw [if_pos h, if_pos h, if_pos h, if_pos h]
  · rw [if_neg h, if_neg h, if_neg h, if_neg h]
structure DueQ (S : LM) : Prop where
  msl : S.ms.length = S.J.stamp + 1
  ms : S.ms[S.J.stamp]? = some S.J.w
  w : WrOk S.J.w
  st : S.J.stamp < 1000000
  n0 : S.im0 ≠ []
  n1 : S.im1 ≠ []
  l0 : S.im0.length < 500000
  l1 : S.im1.length < 500000
def spDD (c : Cn) : Sp := fun vs H Q _ => ∃ st M S dw, vs = [V.ref st] ∧ StAt c H M st S dw ∧ DueQ S ∧ ∀ H', StAt c H' M st S.drewR (some (S.place, S.J.stamp)) → Fr H M H' M → Q .non H'
theorem im_first {rows : List IRow} (h : rows ≠ []) : rows[0]? = some (rows.head?.getD (-1, 0)) := by
  cases rows with
  | nil => exact absurd rfl h
  | cons x xs => rfl
/-- a list of rows that grows; all else stays -/
def RowSt {α : Type} (H4 : Hp) (r : Addr) (D : α → PyData) (rows : List α) (H5 : Hp) : Prop := Fr H4 [r] H5 [r] ∧ ∃ ys, H5 r = some (.lst ys) ∧ Dts H5 (rows.map D) ys
theorem RowSt.to {α : Type} {H4 H5 H6 : Hp} {r : Addr} {D : α → PyData} {rows : List α} (h : RowSt H4 r D rows H5) (e : Same H5 H6) : RowSt H4 r D rows H6 := by
  obtain ⟨f, ys, h1, h2⟩ := h
  exact ⟨f.to e, ys, e _ _ h1, h2.to e⟩
theorem row_app {α : Type} {K : PySem.W.Frag} {H4 H : Hp} {r : Addr} {Dd : α → PyData} {rows : List α} {x : α} {l : L2.St} {n : Nat} {te ta : TE} {D : Ends} (h : RowSt H4 r Dd rows H) (hl : EvV ta l H (.ref r)) (he : Ev te l H (Dd x)) (hz : rows.length < 1000000) (k : ∀ H', RowSt H4 r Dd (rows ++ [x]) H' → Tk H H' → D.nx l H') : tDrop (tBM K "list" rAppend ta (tCons te tNil)) D l H := by
  obtain ⟨f, ys, h1, h2⟩ := h
  refine s_appV hl h1 he (by rw [h2.len, List.length_map]; exact hz) fun v H1 e hv => ?_
  have h1' := e _ _ h1
  have kt : Tk H1 (upd H1 r (.lst (ys ++ [v]))) := tk_upd h1'
  refine k _ ⟨(f.to e).trans (Fr.upd (by simp) h1'), ys ++ [v], upd_same, ?_⟩ ((tk_same e).trans kt)
  rw [List.map_append]
  exact Dts.tk kt _ ((h2.to e).app (Dts.one hv))
theorem sc__law_draw_due : FnScope ["_law_state", "_law_first", "_law_second", "_law_here", "_law_place", "_law_size", "_law_row", "_law_at"] ["_law_state"] (defScope s__law_draw_due) := ⟨rfl, rfl, rfl, by decide +kernel, rfl, by decide +kernel, by decide +kernel⟩
theorem d__law_draw_due {c : Cn} (T : Tx c) : Df c "_law_draw_due" 7 ["_law_state"] (spDD c ) :=
  T.df 55 55 rfl rfl sc__law_draw_due (fun _ _ _ _ _ _ us hl => match us, hl with | [_], _ => rfl) (fun vs H Q E h => by obtain ⟨_, _, _, _, e, _⟩ := h; rw [e] <;> rfl) fun f cdv A outer s H vs Q E hr h => by
    refine ⟨_, (pss_cons (ps_par3 (i := 1) (j := 2) (l := 3) (by rfl) sc__law_draw_due.nd rfl rfl rfl (by decide) (by decide) (by decide) rfl rfl rfl (pa_cons (pe_ix ix_tup (pe_ix ix_list (pe_ix ix_list (pe_dget (hu_of hr) (pv 0) pe_str (fun _ _ => rfl)) pe_int (fun _ _ => rfl)) pe_int (fun _ _ => rfl)) pe_int (fun _ _ => rfl)) (pa_cons (pe_ix ix_tup (pe_ix ix_list (pe_ix ix_list (pe_dget (hu_of hr) (pv 0) pe_str (fun _ _ => rfl)) pe_int (fun _ _ => rfl)) pe_int (fun _ _ => rfl)) pe_int (fun _ _ => rfl)) (pa_cons (pe_callB (call_maxD rfl) (by rfl) T.n_max (by decide +kernel) (pa_cons (pe_dget (hu_of hr) (pv 0) pe_str (fun _ _ => rfl)) pa_nil)) pa_nil))) (by rfl))
    (pss_cons (ps_set (i := 4) sc__law_draw_due.nd rfl (by first | exact Or.inl rfl | exact Or.inr rfl) (pe_ifExp (PW.pt (pw_or (pt_cmpR op_lt (pv 1) pe_int (nomark _)) (pw_or1 (pt_cmpR op_gt (pv 2) (pv 1) (nomark _))))) pe_int pe_int))
    (pss_cons (ps_par (i := 5) (j := 6) (by rfl) sc__law_draw_due.nd rfl rfl (by decide) rfl rfl (pa_cons (pe_callB call_len_seq (by rfl) T.n_len (by decide +kernel) (pa_cons (pe_d (d_put_image T) (hr.mono (by decide)) (pa_cons (pv 3) (pa_cons (pe_dget (hu_of hr) (pe_dget (hu_of hr) (pv 0) pe_str (fun _ _ => rfl)) (pv 3) (fun _ _ => rfl)) pa_nil))) pa_nil)) (pa_cons (pe_ix ix_list (pe_dget (hu_of hr) (pv 0) pe_str (fun _ _ => rfl)) (pv 4) (fun _ _ => rfl)) pa_nil)) (by rfl))
    (pss_cons (ps_if (pt_cmpR op_gt (pe_ix ix_tup (pe_ix ix_list (pv 6) (pe_un un_neg pe_int) (fun _ _ => rfl)) pe_int (fun _ _ => rfl)) pe_int (nomark _)) (pss_one (ps_expr (pe_bm PySem.F.plainAttrs_list PySem.F.slot_list_append PySem.F.type_list_append mt_append (pv 6) (pa_cons (pe_tup (pa_cons (pe_un un_neg pe_int) (pa_cons pe_int pa_nil))) pa_nil)))) pss_nil)
    (pss_cons (ps_for PassesOwn.never rfl (pi_range2 (by rfl) T.n_range (pa_cons pe_int (pa_cons (pv 5) pa_nil))) (pg_name (i := 7) sc__law_draw_due.nd rfl (by first | exact Or.inl rfl | exact Or.inr rfl)) (pss_one (ps_expr (pe_bm PySem.F.plainAttrs_list PySem.F.slot_list_append PySem.F.type_list_append mt_append (pv 6) (pa_cons (pe_tup (pa_cons (pe_un un_neg pe_int) (pa_cons (pv 7) pa_nil))) pa_nil)))))
    (pss_cons (ps_expr (pe_bm PySem.F.plainAttrs_list PySem.F.slot_list_append PySem.F.type_list_append mt_append (pv 6) (pa_cons (pe_tup (pa_cons (pv 3) (pa_cons (pv 5) pa_nil))) pa_nil)))
    (pss_one (ps_dput (hu_of hr) (pv 0) pe_str (pe_tup (pa_cons (pv 4) (pa_cons (pv 3) pa_nil))) rfl)))))))), ?_⟩
    obtain ⟨st, M, S, dw, rfl, ⟨P, hS⟩, hq, k⟩ := h
    have L : Loc H [none, none, none, none, none, none, none, none] (L2.start ["_law_state", "_law_first", "_law_second", "_law_here", "_law_place", "_law_size", "_law_row", "_law_at"] [V.ref st]) := ⟨_, _, rfl, _, _, rfl, _, _, rfl, _, _, rfl, _, _, rfl, _, _, rfl, _, _, rfl, _, _, rfl, trivial⟩
    have hp2 : S.place < 2 := by unfold LM.place; split <;> omega
    have hl0 : S.im0.length < 500000 := hq.l0
    have hsz := rec_len hq.st hq.w
    have hpos := rec_pos S.J.stamp S.J.w
    have him : EvV (tDGet (tVar 0) (tC (.str "images"))) (L2.start ["_law_state", "_law_first", "_law_second", "_law_here", "_law_place", "_law_size", "_law_row", "_law_at"] [V.ref st]) H (.ref P.ia) := vv_getK (vv_at rfl) (.inl hS.st) hS.ki
    have hmsl := hq.msl
    refine q_par3 (d1 := .int S.a0) (d2 := .int S.a1) (d3 := .int (S.J.stamp : Nat)) (ev_ix (ds := [.int S.a0, .int ((S.im0.head?.getD (-1, 0)).2 : Nat)]) (i := 0) (ev_ixL (ds := S.im0.map rowD) (i := 0) (vv_ix (i := 0) him hS.ia ev_int rfl) hS.i0 hS.d0 ev_int (atI_nat (j := 0) (by rw [List.getElem?_map, im_first hq.n0]; rfl))) ev_int rfl) (ev_ix (ds := [.int S.a1, .int ((S.im1.head?.getD (-1, 0)).2 : Nat)]) (i := 0) (ev_ixL (ds := S.im1.map rowD) (i := 0) (vv_ix (i := 1) him hS.ia ev_int rfl) hS.i1 hS.d1 ev_int (atI_nat (j := 0) (by rw [List.getElem?_map, im_first hq.n1]; rfl))) ev_int rfl) ((ev_maxM (vv_getK (vv_at rfl) (.inl hS.st) hS.km) hS.ms (by omega)).is (by rw [hmsl]; rfl)) L fun u1 u2 u3 H1 e1 L1 => ?_
    refine q_asg (d := .int (S.place : Nat)) (ev_if (b := decide (S.a0 < 0 ∨ S.a1 > S.a0)) ((et_or (b := decide (S.a0 < 0)) (c := decide (S.a1 > S.a0)) (et_of (ev_B0 (ev_v L1 rfl) (ev_int (i := 0)))) fun _ => et_of (ev_B0 (ev_v L1 rfl) (ev_v L1 rfl))).is (by rw [Bool.decide_or])) (fun hb => (ev_int (i := 0)).is ?_) (fun hb => (ev_int (i := 1)).is ?_)) L1 fun u4 H2 e2 hu4 L2' => ?_
    · unfold LM.place
      rw [if_pos (of_decide_eq_true hb)]
      rfl
    · unfold LM.place
      rw [if_neg (of_decide_eq_false hb)]
      rfl
    have hS2 := hS.to (e1.trans e2)
    obtain ⟨xs, hx, hd, hrow, hrM⟩ := hS2.rowAt hp2
    refine p_qpar (p_cons (p_ev (d := .int ((rec_ S.J.stamp S.J.w).length : Nat)) ((ev_len (ds := (rec_ S.J.stamp S.J.w).map .int) (ev_F (S.J.stamp, S.J.w) (ea_2 (ev_v L2' rfl) (ev_maps (vv_getK (vv_at rfl) (.inl hS2.st) hS2.km) hS2.ms (ev_v L2' rfl) hq.ms)) ⟨hq.st, hq.w⟩)).is (by rw [List.length_map])) fun u5 H3 e3 hu5 => p_cons (p_vv (vv_ix (i := (S.place : Nat)) (xs := [V.ref P.i0, V.ref P.i1]) (vv_getK (vv_at rfl) (.inl (hS2.to e3).st) hS2.ki) (hS2.to e3).ia (ev_v (L2'.to e3) rfl) (atI_nat hrow)) fun H4 e4 => p_nil ⟨_, _, rfl, ?_⟩)))
    obtain rfl : u5 = .int ((rec_ S.J.stamp S.J.w).length : Nat) := hu5
    have hS4 := (hS2.to e3).to e4
    have hx4 := (e3.trans e4) _ _ hx
    have hd4 := hd.to (e3.trans e4)
    have L4 := Loc.off (v := some (.ref (P.row S.place))) 6 (Loc.set (d := .int ((rec_ S.J.stamp S.J.w).length : Nat)) (v := .int ((rec_ S.J.stamp S.J.w).length : Nat)) rfl 5 ((L2'.to e3).to e4))
    have hne : S.im S.place ≠ [] := by unfold LM.im; split; exact hq.n0; exact hq.n1
    have hlen : (S.im S.place).length < 500000 := by unfold LM.im; split; exact hq.l0; exact hq.l1
    generalize hrr : P.row S.place = r at *
    generalize hrows : S.im S.place = rows at *
    -- from here only the row list grows
    have hxl : xs.length = rows.length := by rw [hd.len, List.length_map]
    obtain ⟨z, hz⟩ : ∃ z, rows.getLast? = some z := ⟨rows.getLast hne, List.getLast?_eq_some_getLast hne⟩
    have hcond : Ev (tOp (rI0 fun i j => .bl (decide (i > j))) (tOp (rIxT c.K) (tOp (rIxL c.K) (tVar 6) (tUn (rU fun i => .int (-i)) (tC (.int 1)))) (tC (.int 1))) (tC (.int 0))) (((((((L2.start ["_law_state", "_law_first", "_law_second", "_law_here", "_law_place", "_law_size", "_law_row", "_law_at"] [V.ref st]).set 1 (some u1)).set 2 (some u2)).set 3 (some u3)).set 4 (some u4)).set 5 (some (V.int ((rec_ S.J.stamp S.J.w).length : Nat)))).set 6 (some (V.ref r))) H4 (.bool (decide (0 < z.2))) := (ev_B0 (ev_ix (ds := [.int z.1, .int (z.2 : Nat)]) (i := 1) (ev_ixL (ds := rows.map rowD) (i := -1) (vv_at rfl) hx4 hd4 (ev_U ev_int) (atI_last (by rw [List.getLast?_map, hz]; rfl))) ev_int rfl) (ev_int (i := 0))).is (by congr 1; exact decide_eq_decide.mpr (by omega))
    let rows1 : List IRow := rows ++ if 0 < z.2 then [(-1, 0)] else []
    have hr1 : drawnRows rows S.J.stamp (rec_ S.J.stamp S.J.w).length = rows1 ++ imgRows S.J.stamp (rec_ S.J.stamp S.J.w).length := by
      unfold drawnRows
      rw [hz]
      rfl
    have hl1 : rows1.length ≤ rows.length + 1 := by
      show (rows ++ if 0 < z.2 then [((-1 : Int), 0)] else []).length ≤ _
      rw [List.length_append]
      split <;> simp
    have st4 : RowSt H4 r rowD rows H4 := ⟨Fr.refl _ _, xs, hx4, hd4⟩
    have l40 : (((((((L2.start ["_law_state", "_law_first", "_law_second", "_law_here", "_law_place", "_law_size", "_law_row", "_law_at"] [V.ref st]).set 1 (some u1)).set 2 (some u2)).set 3 (some u3)).set 4 (some u4)).set 5 (some (V.int ((rec_ S.J.stamp S.J.w).length : Nat)))).set 6 (some (V.ref r)))[0]? = some (some (.ref st)) := rfl
    have l46 : (((((((L2.start ["_law_state", "_law_first", "_law_second", "_law_here", "_law_place", "_law_size", "_law_row", "_law_at"] [V.ref st]).set 1 (some u1)).set 2 (some u2)).set 3 (some u3)).set 4 (some u4)).set 5 (some (V.int ((rec_ S.J.stamp S.J.w).length : Nat)))).set 6 (some (V.ref r)))[6]? = some (some (.ref r)) := rfl
    have L4' : Loc H4 [none, none, none, some (.int (S.J.stamp : Nat)), some (.int (S.place : Nat)), some (.int ((rec_ S.J.stamp S.J.w).length : Nat)), none, none] (((((((L2.start ["_law_state", "_law_first", "_law_second", "_law_here", "_law_place", "_law_size", "_law_row", "_law_at"] [V.ref st]).set 1 (some u1)).set 2 (some u2)).set 3 (some u3)).set 4 (some u4)).set 5 (some (V.int ((rec_ S.J.stamp S.J.w).length : Nat)))).set 6 (some (V.ref r))) := (L4.wk 1).wk 2
    generalize (((((((L2.start ["_law_state", "_law_first", "_law_second", "_law_here", "_law_place", "_law_size", "_law_row", "_law_at"] [V.ref st]).set 1 (some u1)).set 2 (some u2)).set 3 (some u3)).set 4 (some u4)).set 5 (some (V.int ((rec_ S.J.stamp S.J.w).length : Nat)))).set 6 (some (V.ref r))) = l4 at *
    have hsize : (rec_ S.J.stamp S.J.w).length ≤ 208 := hsz
    generalize hsz0 : (rec_ S.J.stamp S.J.w).length = size at *
    -- the test
    have tail : ∀ H5, RowSt H4 r rowD rows1 H5 → tSeq (tFor (iRng2 (tCons (tC (.int 1)) (tCons (tVar 5) tNil))) (gName 7) (tDrop (tBM c.K "list" rAppend (tVar 6) (tCons (tTup (tCons (tUn (rU fun i => .int (-i)) (tC (.int 1))) (tCons (tVar 7) tNil))) tNil)))) (tSeq (tDrop (tBM c.K "list" rAppend (tVar 6) (tCons (tTup (tCons (tVar 3) (tCons (tVar 5) tNil))) tNil))) (sDPut (tVar 0) (tC (.str "drawn")) (tTup (tCons (tVar 4) (tCons (tVar 3) tNil))))) { nx := fun x H' => Q V.non H', rt := Q } l4 H5 := by
      intro H5 h5
      have L5 := L4'.tk h5.1.tk
      refine q_forR2 (lo := 1) (hi := size) (ev_int (i := 1)) (ev_v L5 rfl) (by omega) (by decide) (fun j l' H' => RowSt H4 r rowD (rows1 ++ (List.range j).map fun j => ((-1 : Int), j + 1)) H' ∧ l'[0]? = some (some (.ref st)) ∧ l'[6]? = some (some (.ref r)) ∧ Loc H' [none, none, none, some (.int (S.J.stamp : Nat)), some (.int (S.place : Nat)), some (.int (size : Nat)), none, none] l') (fun H6 e6 => ⟨by
        have := h5.to e6
        simpa using this, l40, l46, L5.to e6⟩) ?_ ?_
      · rintro j l' H' hj ⟨hr', l0, l6, L'⟩
        have L7 := Loc.set (d := .int ((1 + j : Nat) : Int)) (v := .int ((1 + j : Nat) : Int)) rfl 7 L'
        refine row_app (x := ((-1 : Int), j + 1)) (n := 6) hr' (vv_at (by rw [List.getElem?_set_ne (by decide)]; exact l6)) ((ev_tup (ea_2 (ev_U (ev_int (i := 1))) (ev_v L7 rfl)) len2).is (by rw [show 1 + j = j + 1 by omega]; rfl)) (by rw [List.length_append, List.length_map, List.length_range]; omega) fun H8 h8 kt => ⟨?_, by rw [List.getElem?_set_ne (by decide)]; exact l0, by rw [List.getElem?_set_ne (by decide)]; exact l6, ?_⟩
        · rw [List.range_succ, List.map_append, ← List.append_assoc]
          exact h8
        · exact (L7.tk kt).wk 7
      · rintro l' H' ⟨hr', l0, l6, L'⟩
        refine p_seq (row_app (x := ((S.J.stamp : Int), size)) (n := 6) hr' (vv_at l6) (ev_tup (ea_2 (ev_v L' rfl) (ev_v L' rfl)) len2) (by rw [List.length_append, List.length_map, List.length_range]; omega) fun H8 h8 kt => ?_)
        have hrows2 : rows1 ++ ((List.range (size - 1)).map fun j => ((-1 : Int), j + 1)) ++ [((S.J.stamp : Int), size)] = drawnRows rows S.J.stamp size := by
          rw [hr1, List.append_assoc]
          rfl
        rw [hrows2] at h8
        obtain ⟨f8, ys8, hy8, hd8⟩ := h8
        obtain ⟨P', hS8, _, _, hkv⟩ := hS4.setRow hp2 (rows := drawnRows rows S.J.stamp size) (by rw [hrr]; exact f8) (by rw [hrr]; exact hy8) hd8
        have eR : S.setIm S.place (drawnRows rows S.J.stamp size) = S.drewR := by
          unfold LM.drewR
          rw [hrows, hsz0]
        rw [eR] at hS8
        have L8 := L'.tk kt
        dsimp only
        refine p_dput (p_ev (d := drawnD (some (S.place, S.J.stamp))) (ev_tup (ea_2 (ev_v (n := 4) L8 rfl) (ev_v (n := 3) L8 rfl)) len2) fun v9 H9 e9 hv9 => p_vv (vv_at l0) fun H10 e10 => p_vv (vv_c (v := .str "drawn")) fun H11 e11 => ?_)
        have e911 := (e9.trans e10).trans e11
        have hS11 := hS8.to e911
        obtain ⟨hS12, f12⟩ := hS11.setDrawn (dw' := some (S.place, S.J.stamp)) (hv9.to (e10.trans e11))
        refine ⟨st, _, rfl, .inl ⟨P'.kvs, .inr "drawn", hS11.st, rfl, Nat.lt_of_le_of_lt hS11.kl (by decide), rfl⟩, ?_⟩
        refine k _ ⟨_, hS12⟩ ?_
        exact ((((Fr.same (e1.trans e2)).to (e3.trans e4)).trans (fr_weak f8 hrM)).to e911).trans f12
    refine q_if (et_of hcond) (fun hb H5 e5 => ?_) (fun hb H5 e5 => ?_)
    · refine row_app (x := ((-1 : Int), 0)) (n := 6) (st4.to e5) (vv_at l46) (ev_tup (ea_2 (ev_U (ev_int (i := 1))) (ev_int (i := 0))) len2) (by omega) fun H6 h6 kt => ?_
      refine tail H6 ?_
      show RowSt H4 r rowD (rows ++ if 0 < z.2 then [((-1 : Int), 0)] else []) H6
      rw [if_pos (of_decide_eq_true hb)]
      exact h6
    · refine tail H5 ?_
      show RowSt H4 r rowD (rows ++ if 0 < z.2 then [((-1 : Int), 0)] else []) H5
      rw [if_neg (of_decide_eq_false hb), List.append_nil]
      exact st4.to e5
end Sp
set_option Elab.async false
set_option linter.all false
set_option maxRecDepth 100000
set_option maxHeartbeats 400000
namespace Sp
open PySem PySem.Spec PyProof.Rows L2
theorem cutD_last {ds : List PyData} {d : PyData} (h : ds.getLast? = some d) : cutD ds (some (-1)) none = [d] := by
  obtain ⟨ys, rfl⟩ := List.getLast?_eq_some_iff.mp h
  unfold cutD
  have e : HT.sIx (ys ++ [d]).length 0 (some (-1)) = ys.length := by
    have e1 : ∀ n : Nat, HT.sIx n 0 (some (-1)) = ((-1 : Int) + (n : Int)).toNat := fun n => by
      show (if (-1 : Int) < 0 then ((-1 : Int) + (n : Int)).toNat else min (-1 : Int).toNat n) = _
      rw [if_pos (by decide)]
    rw [e1, List.length_append]
    have : [d].length = 1 := rfl
    omega
  rw [e, HT.sIx_none, List.drop_left, List.length_append]
  show [d].take (ys.length + 1 - ys.length) = _
  rw [show ys.length + 1 - ys.length = 1 by omega]
  rfl
theorem el_lastL {K : PySem.W.Frag} {l : L2.St} {H : Hp} {ta : TE} {a : Addr} {xs : List V} {ds : List PyData} {d : PyData} (ha : EvV ta l H (.ref a)) (h : H a = some (.lst xs)) (hx : Dts H ds xs) (hd : ds.getLast? = some d) : EvL (tSl (rSlL K) ta (tPart (tUn (rU fun i => .int (-i)) (tC (.int 1)))) tNoPart) l H [d] := fun H1 e Q q =>
  ha H1 e _ fun H2 e2 => (eo_some (ev_U (ev_int (i := 1)))) H2 (Same.refl _) _ fun H3 e3 => (eo_none (l := l) (H := H3)) H3 (Same.refl _) _ fun H4 e4 => ⟨a, xs, rfl, SqL.of ((((e.trans e2).trans e3).trans e4) _ _ h), fun p hp => q p _ _ (Same.free ((e2.trans e3).trans e4) hp) (((e2.trans e3).trans e4).trans (same_new hp)) upd_same (by
    have := (hx.to ((((e.trans e2).trans e3).trans e4).trans (same_new (u := .lst (cutV xs (some (-1)) none)) hp))).cut (lo := some (-1)) (hi := none)
    rw [cutD_last hd] at this
    exact this)⟩
section
variable {c : Cn} {H H' : Hp} {M : List Addr} {st : Addr} {S : LM} {dw dw' : Option (Nat × Nat)} {P : StP}
theorem StR.has (h : StR c H M st S dw P) : ∀ a ∈ M, ∃ o, H a = some o := by
  intro a m
  rw [h.M] at m
  obtain ⟨mk, hm, _⟩ := h.ms
  rcases List.mem_cons.mp m with rfl | m
  · exact ⟨_, h.st⟩
  rcases List.mem_cons.mp m with rfl | m
  · exact ⟨_, hm⟩
  rcases List.mem_cons.mp m with rfl | m
  · exact ⟨_, h.ia⟩
  rcases List.mem_cons.mp m with rfl | m
  · exact ⟨_, h.i0⟩
  rcases List.mem_cons.mp m with rfl | m
  · exact ⟨_, h.i1⟩
  rcases List.mem_cons.mp m with rfl | m
  · exact ⟨_, h.lg⟩
  · obtain ⟨o, ho, _⟩ := h.j.has a m
    exact ⟨o, ho⟩
theorem StR.fresh (h : StR c H M st S dw P) {q : Addr} (hq : H q = none) : q ∉ M := fun m => by
  obtain ⟨o, ho⟩ := h.has q m
  rw [hq] at ho
  cases ho
/-- state['images'][p] = a new row list -/
theorem StR.ia0 (h : StR c H M st S dw P) {q : Addr} {rows : List IRow} {ys : List V} (k : ∀ a o, a ≠ P.ia → H a = some o → H' a = some o) (kt : Tk H H') (kz : Fz H H') (hi : H' P.ia = some (.lst [.ref q, .ref P.i1])) (hqM : q ∉ M) (hy : H' q = some (.lst ys)) (hd : Dts H' (rows.map rowD) ys) :
    StR c H' (st :: P.md :: P.ia :: q :: P.i1 :: P.lg :: P.Mj) st { S with im0 := rows } dw { P with i0 := q, x0 := ys } := by
  have hn := h.nd
  simp only [List.nodup_cons, List.mem_cons, List.not_mem_nil, or_false, not_or] at hn
  obtain ⟨⟨a1, a2, a3, a4, a5⟩, ⟨b2, b3, b4, b5⟩, ⟨c3, c4, c5⟩, ⟨d4, d5⟩, e5, _⟩ := hn
  have hqn : ∀ a ∈ [st, P.md, P.ia, P.i0, P.i1, P.lg], a ≠ q := fun a m e => hqM (e ▸ h.mem a m)
  have q0 : st ≠ q := hqn st (by simp)
  have q1 : P.md ≠ q := hqn P.md (by simp)
  have q2 : P.ia ≠ q := hqn P.ia (by simp)
  have q4 : P.i1 ≠ q := hqn P.i1 (by simp)
  have q5 : P.lg ≠ q := hqn P.lg (by simp)
  have qj : q ∉ P.Mj := fun m => hqM (by rw [h.M]; simp [m])
  have hnd : [st, P.md, P.ia, q, P.i1, P.lg].Nodup := by
    simp only [List.nodup_cons, List.mem_cons, List.not_mem_nil, or_false, not_or]
    exact ⟨⟨a1, a2, q0, a4, a5⟩, ⟨b2, q1, b4, b5⟩, ⟨q2, c4, c5⟩, ⟨q4.symm, q5.symm⟩, e5, by simp⟩
  have hdj : ∀ a ∈ [st, P.md, P.ia, q, P.i1, P.lg], a ∉ P.Mj := fun a m => by
    simp only [List.mem_cons, List.not_mem_nil, or_false] at m
    rcases m with m | m | m | m | m | m
    · rw [m]; exact h.dj _ (by simp)
    · rw [m]; exact h.dj _ (by simp)
    · rw [m]; exact h.dj _ (by simp)
    · rw [m]; exact qj
    · rw [m]; exact h.dj _ (by simp)
    · rw [m]; exact h.dj _ (by simp)
  have hj := h.j.out' (fun a m o ho => k a o (fun e => h.dj P.ia (by simp) (e ▸ m)) ho) kt kz
  have hms := h.ms.out (fun o ho => k _ _ b2 ho) kt kz
  have n4 : P.i1 ≠ P.ia := fun e => c4 e.symm
  have n5 : P.lg ≠ P.ia := fun e => c5 e.symm
  exact { M := rfl, nd := hnd, dj := hdj, st := k _ _ a2 h.st, kl := h.kl, kj := h.kj, km := h.km, ki := h.ki, kg := h.kg, kd := h.kd, j := hj, ms := hms, ia := hi, i0 := hy, d0 := hd, i1 := k _ _ n4 h.i1, d1 := Dts.tk kt _ h.d1, lg := k _ _ n5 h.lg, dl := Dts.tk kt _ h.dl, dd := Dt.tk kt _ h.dd }
theorem StR.ia1 (h : StR c H M st S dw P) {q : Addr} {rows : List IRow} {ys : List V} (k : ∀ a o, a ≠ P.ia → H a = some o → H' a = some o) (kt : Tk H H') (kz : Fz H H') (hi : H' P.ia = some (.lst [.ref P.i0, .ref q])) (hqM : q ∉ M) (hy : H' q = some (.lst ys)) (hd : Dts H' (rows.map rowD) ys) :
    StR c H' (st :: P.md :: P.ia :: P.i0 :: q :: P.lg :: P.Mj) st { S with im1 := rows } dw { P with i1 := q, x1 := ys } := by
  have hn := h.nd
  simp only [List.nodup_cons, List.mem_cons, List.not_mem_nil, or_false, not_or] at hn
  obtain ⟨⟨a1, a2, a3, a4, a5⟩, ⟨b2, b3, b4, b5⟩, ⟨c3, c4, c5⟩, ⟨d4, d5⟩, e5, _⟩ := hn
  have hqn : ∀ a ∈ [st, P.md, P.ia, P.i0, P.i1, P.lg], a ≠ q := fun a m e => hqM (e ▸ h.mem a m)
  have q0 : st ≠ q := hqn st (by simp)
  have q1 : P.md ≠ q := hqn P.md (by simp)
  have q2 : P.ia ≠ q := hqn P.ia (by simp)
  have q3 : P.i0 ≠ q := hqn P.i0 (by simp)
  have q5 : P.lg ≠ q := hqn P.lg (by simp)
  have qj : q ∉ P.Mj := fun m => hqM (by rw [h.M]; simp [m])
  have hnd : [st, P.md, P.ia, P.i0, q, P.lg].Nodup := by
    simp only [List.nodup_cons, List.mem_cons, List.not_mem_nil, or_false, not_or]
    exact ⟨⟨a1, a2, a3, q0, a5⟩, ⟨b2, b3, q1, b5⟩, ⟨c3, q2, c5⟩, ⟨q3, d5⟩, q5.symm, by simp⟩
  have hdj : ∀ a ∈ [st, P.md, P.ia, P.i0, q, P.lg], a ∉ P.Mj := fun a m => by
    simp only [List.mem_cons, List.not_mem_nil, or_false] at m
    rcases m with m | m | m | m | m | m
    · rw [m]; exact h.dj _ (by simp)
    · rw [m]; exact h.dj _ (by simp)
    · rw [m]; exact h.dj _ (by simp)
    · rw [m]; exact h.dj _ (by simp)
    · rw [m]; exact qj
    · rw [m]; exact h.dj _ (by simp)
  have hj := h.j.out' (fun a m o ho => k a o (fun e => h.dj P.ia (by simp) (e ▸ m)) ho) kt kz
  have hms := h.ms.out (fun o ho => k _ _ b2 ho) kt kz
  have n3 : P.i0 ≠ P.ia := fun e => c3 e.symm
  have n5 : P.lg ≠ P.ia := fun e => c5 e.symm
  exact { M := rfl, nd := hnd, dj := hdj, st := k _ _ a2 h.st, kl := h.kl, kj := h.kj, km := h.km, ki := h.ki, kg := h.kg, kd := h.kd, j := hj, ms := hms, ia := hi, i0 := k _ _ n3 h.i0, d0 := Dts.tk kt _ h.d0, i1 := hy, d1 := hd, lg := k _ _ n5 h.lg, dl := Dts.tk kt _ h.dl, dd := Dt.tk kt _ h.dd }
theorem StR.setIa {H0 : Hp} {P0 : StP} (h : StR c H M st S dw P) (e0 : Same H0 H) (h0 : StR c H0 M st S dw P0) {p : Nat} (hp : p < 2) {q : Addr} {rows : List IRow} {ys : List V} (hq : H0 q = none) (hy : H q = some (.lst ys)) (hd : Dts H (rows.map rowD) ys) :
    ∃ P' M', StR c (L2.upd H P.ia (.lst ([V.ref P.i0, V.ref P.i1].set p (.ref q)))) M' st (S.setIm p rows) dw P' ∧ P'.j = P.j ∧ Fr H0 M (L2.upd H P.ia (.lst ([V.ref P.i0, V.ref P.i1].set p (.ref q)))) M' := by
  have hqM : q ∉ M := h0.fresh hq
  have q2 : q ≠ P.ia := fun e => hqM (by rw [e]; exact h.mem _ (by simp))
  have hM := h.M
  have him := h.mem P.ia (by simp)
  have e01 : p = 0 ∨ p = 1 := by omega
  have hfr : ∀ (u : List V) M', (∀ a ∈ M', a ∈ M ∨ a = q) → Fr H0 M (L2.upd H P.ia (.lst u)) M' := fun u M' hM' => by
    have f := (Fr.same (M := M) e0).trans (Fr.upd (u := .lst u) him h.ia)
    exact ⟨f.keep, fun a m => (hM' a m).imp id (fun e => by rw [e]; exact hq), f.dom, f.tk⟩
  have kk : ∀ (u : List V) a o, a ≠ P.ia → H a = some o → L2.upd H P.ia (.lst u) a = some o := fun u a o hne ho => (upd_ne hne).trans ho
  have kt : ∀ u : List V, Tk H (L2.upd H P.ia (.lst u)) := fun u => tk_upd h.ia
  have kz : ∀ u : List V, Fz H (L2.upd H P.ia (.lst u)) := fun u => Fz.upd h.ia
  rcases e01 with rfl | rfl
  · refine ⟨_, _, h.ia0 (rows := rows) (kk _) (kt _) (kz _) upd_same hqM ((upd_ne q2).trans hy) (Dts.tk (kt _) _ hd), rfl, hfr _ _ fun a m => ?_⟩
    rw [hM]
    simp only [List.mem_cons] at m ⊢
    rcases m with m | m | m | m | m | m | m
    · exact .inl (.inl m)
    · exact .inl (.inr (.inl m))
    · exact .inl (.inr (.inr (.inl m)))
    · exact .inr m
    · exact .inl (.inr (.inr (.inr (.inr (.inl m)))))
    · exact .inl (.inr (.inr (.inr (.inr (.inr (.inl m))))))
    · exact .inl (.inr (.inr (.inr (.inr (.inr (.inr m))))))
  · refine ⟨_, _, h.ia1 (rows := rows) (kk _) (kt _) (kz _) upd_same hqM ((upd_ne q2).trans hy) (Dts.tk (kt _) _ hd), rfl, hfr _ _ fun a m => ?_⟩
    rw [hM]
    simp only [List.mem_cons] at m ⊢
    rcases m with m | m | m | m | m | m | m
    · exact .inl (.inl m)
    · exact .inl (.inr (.inl m))
    · exact .inl (.inr (.inr (.inl m)))
    · exact .inl (.inr (.inr (.inr (.inl m))))
    · exact .inr m
    · exact .inl (.inr (.inr (.inr (.inr (.inr (.inl m))))))
    · exact .inl (.inr (.inr (.inr (.inr (.inr (.inr m))))))
end
end Sp
set_option Elab.async false
set_option linter.all false
set_option maxRecDepth 100000
set_option maxHeartbeats 400000
namespace Sp
open PySem PySem.Spec PyProof.Rows L2
def LM.settledR (S : LM) (p s : Nat) : LM := { S with im0 := if p = 0 then lastR S.im0 else S.im0, im1 := if p = 0 then S.im1 else lastR S.im1, lg := if s = S.J.stamp ∧ 0 < S.last.2.2 then S.lg ++ [(0, 0, 0)] else S.lg }
def LM.settledD (S : LM) : Option (Nat × Nat) → LM
  | none => S
  | some (p, s) => S.settledR p s
structure SetlQ (S : LM) (dw : Option (Nat × Nat)) : Prop where
  msl : S.ms.length = S.J.stamp + 1
  n0 : S.im0 ≠ []
  n1 : S.im1 ≠ []
  ng : S.lg ≠ []
  lg : S.lg.length < 500000
  pl : ∀ p s, dw = some (p, s) → p < 2
def spSD (c : Cn) : Sp := fun vs H Q _ => ∃ st M S dw P, vs = [V.ref st] ∧ StR c H M st S dw P ∧ SetlQ S dw ∧ ∀ H' M' P', StR c H' M' st (S.settledD dw) none P' → P'.j = P.j → Fr H M H' M' → Q .non H'
theorem sc__law_settle_due : FnScope ["_law_state", "_law_place", "_law_stamp"] ["_law_state"] (defScope s__law_settle_due) := ⟨rfl, rfl, rfl, by decide +kernel, rfl, by decide +kernel, by decide +kernel⟩
theorem d__law_settle_due {c : Cn} (T : Tx c) : Df c "_law_settle_due" 1 ["_law_state"] (spSD c ) :=
  T.df 56 56 rfl rfl sc__law_settle_due (fun _ _ _ _ _ _ us hl => match us, hl with | [_], _ => rfl) (fun vs H Q E h => by obtain ⟨_, _, _, _, _, e, _⟩ := h; rw [e] <;> rfl) fun f cdv A outer s H vs Q E hr h => by
    refine ⟨_, (pss_one (ps_if (pt_cmpR op_notN (pe_dget (hu_of hr) (pv 0) pe_str (fun _ _ => rfl)) pe_non (nomark _)) (pss_cons (ps_asg (pe_dget (hu_of hr) (pv 0) pe_str (fun _ _ => rfl)) (pg_tup (by rfl) (pgs_cons (pg_name (i := 1) sc__law_settle_due.nd rfl (by first | exact Or.inl rfl | exact Or.inr rfl)) (pgs_cons (pg_name (i := 2) sc__law_settle_due.nd rfl (by first | exact Or.inl rfl | exact Or.inr rfl)) pgs_nil))))
    (pss_cons (ps_asg (pe_slice sl_list (pe_ix ix_list (pe_dget (hu_of hr) (pv 0) pe_str (fun _ _ => rfl)) (pv 1) (fun _ _ => rfl)) (po_some (pe_un un_neg pe_int)) po_none) (pg_sub (pe_dget (hu_of hr) (pv 0) pe_str (fun _ _ => rfl)) (pv 1) set_list))
    (pss_cons (ps_if (PW.pt (pw_and (pt_cmpR op_eq (pv 2) (pe_callB (call_maxD rfl) (by rfl) T.n_max (by decide +kernel) (pa_cons (pe_dget (hu_of hr) (pv 0) pe_str (fun _ _ => rfl)) pa_nil)) (nomark _)) (pw_and1 (pt_cmpR op_gt (pe_ix ix_tup (pe_ix ix_list (pe_dget (hu_of hr) (pv 0) pe_str (fun _ _ => rfl)) (pe_un un_neg pe_int) (fun _ _ => rfl)) pe_int (fun _ _ => rfl)) pe_int (nomark _))))) (pss_one (ps_expr (pe_bm PySem.F.plainAttrs_list PySem.F.slot_list_append PySem.F.type_list_append mt_append (pe_dget (hu_of hr) (pv 0) pe_str (fun _ _ => rfl)) (pa_cons (pe_tup (pa_cons pe_int (pa_cons pe_int (pa_cons pe_int pa_nil)))) pa_nil)))) pss_nil)
    (pss_one (ps_dput (hu_of hr) (pv 0) pe_str pe_non rfl))))) pss_nil)), ?_⟩
    obtain ⟨st, M, S, dw, P, rfl, hS, hq, k⟩ := h
    have L : Loc H [none, none, none] (L2.start ["_law_state", "_law_place", "_law_stamp"] [V.ref st]) := ⟨_, _, rfl, _, _, rfl, _, _, rfl, trivial⟩
    have hdr : ∀ {H' : Hp}, Same H H' → Ev (tDGet (tVar 0) (tC (.str "drawn"))) (L2.start ["_law_state", "_law_place", "_law_stamp"] [V.ref st]) H' (drawnD dw) := fun e => ev_ofV (vv_getK (vv_at rfl) (.inl (hS.to e).st) hS.kd) (hS.to e).dd
    cases dw with
    | none =>
      refine s_if (b := false) (et_of ((ev_notN rfl (hdr (Same.refl _))).is rfl)) (fun z => nomatch z) (fun _ H1 e1 => ?_)
      exact k H1 M P (hS.to e1) rfl (Fr.same e1)
    | some ps =>
      obtain ⟨p, s0⟩ := ps
      have hp : p < 2 := hq.pl p s0 rfl
      refine s_if (b := true) (et_of ((ev_notN rfl (hdr (Same.refl _))).is rfl)) (fun _ H1 e1 => ?_) (fun z => nomatch z)
      refine q_un2 (d1 := .int (p : Nat)) (d2 := .int (s0 : Nat)) (hdr e1) (L.to e1) fun v1 v2 H2 e2 _ _ L2' => ?_
      have e02 := e1.trans e2
      have hS2 := hS.to e02
      obtain ⟨xs, hx, hd, hrow, hrM⟩ := hS2.rowAt hp
      have hne : S.im p ≠ [] := by unfold LM.im; split; exact hq.n0; exact hq.n1
      obtain ⟨z, hz⟩ : ∃ z, (S.im p).getLast? = some z := ⟨(S.im p).getLast hne, List.getLast?_eq_some_getLast hne⟩
      have him : ∀ {H' : Hp} {l' : List (Option V)}, Same H2 H' → l'[0]? = some (some (.ref st)) → EvV (tDGet (tVar 0) (tC (.str "images"))) l' H' (.ref P.ia) := fun e hl => vv_getK (vv_at hl) (.inl (hS2.to e).st) hS.ki
      refine p_qasg (p_el (el_lastL (d := rowD z) (vv_ix (i := (p : Nat)) (him (Same.refl _) rfl) hS2.ia (ev_v L2' rfl) (atI_nat hrow)) hx hd (by rw [List.getLast?_map, hz]; rfl)) fun q ys H3 hq3 e3 h3 hy3 => ?_)
      refine p_vv (him (e3) rfl) fun H4 e4 => p_ev (ev_v (n := 1) (L2'.to (e3.trans e4)) rfl) fun v5 H5 e5 hv5 => ?_
      have e25 := (e3.trans e4).trans e5
      have hS5 := hS2.to e25
      refine ⟨P.ia, _, (p : Nat), p, rfl, hv5, hS5.ia, ixN_k (by show p < 2; exact hp), ?_⟩
      have hq0 : H q = none := Same.free e02 hq3
      obtain ⟨P', M', hS6, hj6, f6⟩ := hS5.setIa (H0 := H) (e02.trans e25) hS hp (rows := [z]) hq0 ((e4.trans e5) _ _ h3) (hy3.to (e4.trans e5))
      have hk6 := f6.tk
      have L6 : Loc (L2.upd H5 P.ia (.lst ([V.ref P.i0, V.ref P.i1].set p (.ref q)))) [none, some (.int (p : Nat)), some (.int (s0 : Nat))] (((L2.start ["_law_state", "_law_place", "_law_stamp"] [V.ref st]).set 1 (some v1)).set 2 (some v2)) := (L2'.to e25).tk (tk_upd hS5.ia)
      have l60 : (((L2.start ["_law_state", "_law_place", "_law_stamp"] [V.ref st]).set 1 (some v1)).set 2 (some v2))[0]? = some (some (.ref st)) := rfl
      have eIm : ∀ lg', { S.setIm p [z] with lg := lg' } = { S with im0 := if p = 0 then lastR S.im0 else S.im0, im1 := if p = 0 then S.im1 else lastR S.im1, lg := lg' } := by
        intro lg'
        have hlr : lastR (S.im p) = [z] := by unfold lastR; rw [hz]
        unfold LM.setIm
        unfold LM.im at hlr
        by_cases h0 : p = 0
        · rw [if_pos h0] at hlr
          rw [if_pos h0, if_pos h0, if_pos h0, hlr]
        · rw [if_neg h0] at hlr
          rw [if_neg h0, if_neg h0, if_neg h0, hlr]
      have hJ6 : (S.setIm p [z]).J = S.J := by unfold LM.setIm; split <;> rfl
      have hms6 : (S.setIm p [z]).ms = S.ms := by unfold LM.setIm; split <;> rfl
      have hlg6 : (S.setIm p [z]).lg = S.lg := by unfold LM.setIm; split <;> rfl
      dsimp only
      generalize L2.upd H5 P.ia (.lst ([V.ref P.i0, V.ref P.i1].set p (.ref q))) = H6 at *
      generalize (((L2.start ["_law_state", "_law_place", "_law_stamp"] [V.ref st]).set 1 (some v1)).set 2 (some v2)) = l6 at *
      obtain ⟨y, hy⟩ : ∃ y, S.lg.getLast? = some y := ⟨S.lg.getLast hq.ng, List.getLast?_eq_some_getLast hq.ng⟩
      have hlast : S.last = y := by unfold LM.last; rw [hy]; rfl
      have hmsl := hq.msl
      -- the end: drawn = None
      have tail : ∀ H7 lg' P7, StR c H7 M' st { S.setIm p [z] with lg := lg' } (some (p, s0)) P7 → P7.j = P.j → Fr H6 M' H7 M' → lg' = (if s0 = S.J.stamp ∧ 0 < S.last.2.2 then S.lg ++ [(0, 0, 0)] else S.lg) → sDPut (tVar 0) (tC (.str "drawn")) (tC .non) { nx := fun x H' => Q V.non H', rt := Q } l6 H7 := by
        intro H7 lg' P7 h7 hj7 f7 hlg'
        refine p_dput (p_vv (vv_c (v := .non)) fun H8 e8 => p_vv (vv_at l60) fun H9 e9 => p_vv (vv_c (v := .str "drawn")) fun H10 e10 => ?_)
        have e710 := (e8.trans e9).trans e10
        have h10 := h7.to e710
        obtain ⟨h11, f11⟩ := h10.setDrawn (dw' := none) (v := .non) rfl
        refine ⟨st, _, rfl, .inl ⟨P7.kvs, .inr "drawn", h10.st, rfl, Nat.lt_of_le_of_lt h10.kl (by decide), rfl⟩, ?_⟩
        refine k _ M' { P7 with kvs := putK P7.kvs (.inr "drawn") .non, vd := .non } ?_ hj7 (((f6.trans f7).to e710).trans f11)
        rw [eIm] at h11
        show StR c _ M' st (S.settledR p s0) none _
        unfold LM.settledR
        rw [← hlg']
        exact h11
      refine p_qif (p_and (p_et (b := decide (s0 = S.J.stamp)) (et_of ((ev_eqI (ev_v L6 rfl) ((ev_maxM (vv_getK (vv_at l60) (.inl hS6.st) hS6.km) hS6.ms (by rw [hms6]; omega)).is (by rw [hms6, hmsl]))).is (by congr 1; exact decide_eq_decide.mpr (by omega)))) fun H7 e7 => ?_))
      have h7 := hS6.to e7
      by_cases hs : s0 = S.J.stamp
      · rw [decide_eq_true hs, if_pos rfl]
        have hdl := h7.dl
        rw [hlg6] at hdl
        refine p_et (b := decide (0 < y.2.2)) (et_of ((ev_B0 (ev_ix (ds := [.int (y.1 : Nat), .int (y.2.1 : Nat), .int (y.2.2 : Nat)]) (i := 2) (ev_ixL (ds := S.lg.map logD) (i := -1) (vv_getK (vv_at l60) (.inl h7.st) h7.kg) h7.lg hdl (ev_U ev_int) (atI_last (by rw [List.getLast?_map, hy]; rfl))) ev_int rfl) (ev_int (i := 0))).is (by congr 1; exact decide_eq_decide.mpr (by omega)))) fun H8 e8 => ?_
        have h8 := h7.to e8
        by_cases hc : 0 < y.2.2
        · rw [decide_eq_true hc, if_pos rfl]
          have hst8 : RowSt H8 P'.lg logD S.lg H8 := ⟨Fr.refl _ _, _, h8.lg, by have := h8.dl; rw [hlg6] at this; exact this⟩
          refine row_app (n := 0) (x := ((0, 0, 0) : LRow)) hst8 (vv_getK (vv_at l60) (.inl h8.st) h8.kg) (ev_tup (ea_3 (ev_int (i := 0)) (ev_int (i := 0)) (ev_int (i := 0))) len3) (by have := hq.lg; omega) fun H9 h9 kt => ?_
          obtain ⟨f9, ys9, hy9, hd9⟩ := h9
          exact tail H9 _ _ (h8.setLog f9 hy9 hd9) hj6 (((Fr.same (e7.trans e8)).trans (fr_weak f9 (h8.mem _ (by simp))))) (by rw [hlast, if_pos ⟨hs, hc⟩])
        · rw [decide_eq_false hc, if_neg (by decide)]
          refine tail H8 S.lg P' ?_ hj6 (Fr.same (e7.trans e8)) (by rw [hlast, if_neg (fun q => hc q.2)])
          rw [← hlg6]
          exact h8
      · rw [decide_eq_false hs, if_neg (by decide), if_neg (by decide)]
        refine tail H7 S.lg P' ?_ hj6 (Fr.same e7) (by rw [if_neg (fun q => hs q.1)])
        rw [← hlg6]
        exact h7
end Sp
set_option Elab.async false
set_option linter.all false
set_option maxRecDepth 100000
set_option maxHeartbeats 1000000
namespace Sp
open PySem PySem.Spec PyProof.Rows L2
section
variable {K : PySem.W.Frag} {l : L2.St} {H H' : Hp} {te ta tl : TE} {t u : TT} {b : Bool} {Q : VK}
theorem p_lcT {g : TG} {tt : TT} {tx : TE} {vs : List Nat} (h : tl l H fun x H1 => ∃ a, x = .ref a ∧ (∃ xs, SqT K H1 a xs) ∧ ∀ D, H1 D = none → ∃ W : Nat → Nat → Hp → Prop, (∃ m, W 0 m (upd H1 D (.lst []))) ∧ ∀ i m H, W i m H →
  ((Itt K a).stop i H ∧ Q (.ref D) H) ∨ ((Itt K a).go i H ∧ ∃ Nx : Hp → Prop, (∀ H', Nx H' → ∃ m', m' < m ∧ W (i + 1) m' H') ∧ ∀ x H', (Itt K a).yld i H x H' → g x (wipe l vs) H' fun σ2 H2 => wipe σ2 vs = wipe l vs ∧ tt σ2 H2 fun b H3 =>
    if b = true then tx σ2 H3 fun y H4 => ∃ acc, H4 D = some (.lst acc) ∧ acc.length < sizeLine ∧ Nx (upd H4 D (.lst (acc ++ [y]))) else Nx H3)) : tLc (iTup K tl) g tt tx vs l H Q := h
theorem r_lcdT {M : List Addr} {ga : Addr} {ds0 : List PyData} {vs : List Nat} {j : Nat} (hl : Ev tl l H (.tuple ds0)) (hG0 : GenAt H M ga) (Inv : Nat → List PyData → Prop) (hlen : ∀ i ds, Inv i ds → ds.length < 1000000) (h0 : Inv 0 []) (hw : ∀ x, wipe ((wipe l vs).set j (some x)) vs = wipe l vs)
    (hs : ∀ i d0 x H' ds, ds0[i]? = some d0 → Dt H' d0 x → Inv i ds → Fr H M H' M → GenAt H' M ga →
      ∀ (N : Hp → Prop) (QE : V → Hp → Prop), (∀ H3, Inv (i + 1) ds → Fr H' M H3 M → GenAt H3 M ga → N H3) → (∀ d v H4, Inv (i + 1) (ds ++ [d]) → Dt H4 d v → Fr H' M H4 M → GenAt H4 M ga → QE v H4) → t ((wipe l vs).set j (some x)) H' fun b H3 => if b = true then te ((wipe l vs).set j (some x)) H3 QE else N H3)
    (q : ∀ p zs ds H2, Inv ds0.length ds → H p = none → Fr H M H2 M → GenAt H2 M ga → H2 p = some (.lst zs) → Dts H2 ds zs → Q (.ref p) H2) : tLc (iTup K tl) (gName j) t te vs l H Q := by
  refine p_lcT (p_ev hl fun v H1 e1 hv => ?_)
  obtain ⟨a, xs, rfl, ha, hx⟩ := hv
  refine ⟨a, rfl, ⟨xs, .inl ha⟩, ?_⟩
  refine lcd (M := M) (ga := ga) (Q := Q) (l := l) (vs := vs) (g := gName j) (t := t) (te := te) (walk_tup (K := K) (a := a) (xs := xs)) Inv hlen h0 (hG0.to e1) (fun H' f => .inl (f.tk _ _ ha)) (fun i x H' H2 ds hi hI f hG hy => ?_) fun p zs ds H2 hI hp f hG h2 hd => q p zs ds H2 (by rw [hx.len] at hI; exact hI) (Same.free e1 hp) (Fr.of e1 f) hG h2 hd
  obtain ⟨rfl, hx'⟩ := hy
  obtain ⟨d0, hd0, hdv⟩ := (Dts.tk f.tk _ hx).of_get hx'
  exact ⟨(wipe l vs).set j (some x), fun N hN => hN, hw x, Same.refl _, hs i d0 x _ ds hd0 hdv hI (Fr.of e1 f) hG⟩
end
/-- numbers below these bounds -/
def Below : List Nat → List Nat → Prop
  | [], [] => True
  | k :: ks, m :: ms => k < m ∧ Below ks ms
  | _, _ => False
theorem Below.snoc : ∀ {ks ms : List Nat} {k m : Nat}, Below ks ms → k < m → Below (ks ++ [k]) (ms ++ [m])
  | [], [], _, _, _, h => ⟨h, trivial⟩
  | [], _ :: _, _, _, h, _ => h.elim
  | _ :: _, [], _, _, h, _ => h.elim
  | _ :: _, _ :: _, _, _, h, g => ⟨h.1, Below.snoc h.2 g⟩
theorem Below.len : ∀ {ks ms : List Nat}, Below ks ms → ks.length = ms.length
  | [], [], _ => rfl
  | [], _ :: _, h => h.elim
  | _ :: _, [], h => h.elim
  | _ :: _, _ :: _, h => congrArg (· + 1) (Below.len h.2)
def LM.mosts (S : LM) : List Nat := [S.im0.length, S.im1.length, S.lg.length]
def spNumbers (c : Cn) : Sp := fun vs H Q _ => ∃ g MG st M S dw, vs = [V.ref g, V.ref st] ∧ GenAt H MG g ∧ StAt c H M st S dw ∧ (∀ m ∈ S.mosts, 0 < m ∧ m < 1000000) ∧ ∀ ks v H', Below ks S.mosts → Dt H' (natsD ks) v → GenAt H' MG g → Fr H MG H' MG → Q v H'
theorem sc__law_numbers : FnScope ["_law_heap_here", "_law_state", "_law_most"] ["_law_heap_here", "_law_state"] (defScope s__law_numbers) := ⟨rfl, rfl, rfl, by decide +kernel, rfl, by decide +kernel, by decide +kernel⟩
theorem d__law_numbers {c : Cn} (T : Tx c) : Df c "_law_numbers" 3 ["_law_heap_here", "_law_state"] (spNumbers c ) :=
  T.df 59 59 rfl rfl sc__law_numbers (fun _ _ _ _ _ _ us hl => match us, hl with | [_, _], _ => rfl) (fun vs H Q E h => by obtain ⟨_, _, _, _, _, _, e, _⟩ := h; rw [e] <;> rfl) fun f cdv A outer s H vs Q E hr h => by
    refine ⟨_, (pss_one (ps_ret (pe_callTy call_tuple_of (by rfl) T.n_tuple (by decide +kernel) (pa_cons (pe_lc (own := [("_law_most", 2)]) (by rfl) sc__law_numbers.nd (pi_tup (pe_d (d__law_choices T) (hr.mono (by decide)) (pa_cons (pv 1) pa_nil))) (blkOk_by (own := [("_law_most", 2)]) (N := ["_law_heap_here", "_law_state", "_law_most"]) (sc := defScope s__law_numbers) (by decide +kernel)) (fun _ _ _ _ _ => (pg_name (i := 2) sc__law_numbers.nd rfl (by first | exact Or.inl rfl | exact Or.inr rfl))) (fun _ _ _ _ _ => pts_nil) (fun _ _ _ _ _ => (pe_d (d__law_pick T) (hr.mono (by decide)) (pa_cons (pv 0) (pa_cons (pe_lst (pa_cons pe_int (pa_cons (pe_op op_sub (pv 2) pe_int) (pa_cons (pe_d (d__law_draw T) (hr.mono (by decide)) (pa_cons (pv 0) (pa_cons (pv 2) pa_nil))) (pa_cons (pe_d (d__law_draw T) (hr.mono (by decide)) (pa_cons (pv 0) (pa_cons (pv 2) pa_nil))) pa_nil))))) pa_nil))))) pa_nil)))), ?_⟩
    obtain ⟨g, MG, st, M, S, dw, rfl, hG, hS, hm, k⟩ := h
    have hch : Ev (tCall (spChoices c) [] E0 (tCons (tVar 1) tNil)) (L2.start ["_law_heap_here", "_law_state", "_law_most"] [V.ref g, V.ref st]) H (.tuple (S.mosts.map fun k => PyData.int (k : Nat))) := fun H1 e Q q => p_call (p_cons (p_at (v := .ref st) rfl (p_nil ⟨st, M, S, dw, rfl, hS.to e, q⟩)))
    refine p_ret (p_cb (p_cons (r_lcdT (M := MG) (ga := g) hch hG (fun n ds => ∃ ks, ds = ks.map (fun k => PyData.int ((k : Nat) : Int)) ∧ Below ks (S.mosts.take n)) ?_ ⟨[], rfl, trivial⟩ (fun _ => rfl) ?_ ?_)))
    · rintro n ds ⟨ks, rfl, hb⟩
      have := hb.len
      rw [List.length_take] at this
      have : S.mosts.length = 3 := rfl
      rw [List.length_map]
      omega
    · rintro n d0 x H' ds hd0 hx ⟨ks, rfl, hb⟩ f' hG' N QE hN hE
      obtain ⟨m, hmn, rfl⟩ := map_at hd0
      obtain rfl : x = .int (m : Nat) := hx
      obtain ⟨hm0, hm1⟩ := hm m (List.mem_of_getElem? hmn)
      unfold tYes
      dsimp only
      rw [if_pos rfl]
      have l0 : ((wipe (L2.start ["_law_heap_here", "_law_state", "_law_most"] [V.ref g, V.ref st]) [2]).set 2 (some (V.int (m : Nat))))[0]? = some (some (.ref g)) := rfl
      have l2 : ((wipe (L2.start ["_law_heap_here", "_law_state", "_law_most"] [V.ref g, V.ref st]) [2]).set 2 (some (V.int (m : Nat))))[2]? = some (some (.int (m : Nat))) := rfl
      refine p_call (p_cons (p_at l0 (p_cons (p_lst (p_cons (p_ev (ev_int (i := 0)) fun v1 H1 e1 hv1 => p_cons (p_ev (d := .int ((m : Nat) - 1)) (ev_I0 (ev_at (d := .int (m : Nat)) l2 rfl) (ev_int (i := 1))) fun v2 H2 e2 hv2 => p_cons ?_)))))))
      obtain rfl : v1 = .int 0 := hv1
      obtain rfl : v2 = .int ((m : Nat) - 1) := hv2
      refine r_draw (k := m) l0 (ev_at (d := .int (m : Nat)) l2 rfl) hm0 hm1 ((hG'.to e1).to e2) fun r3 H3 hr3 hG3 f3 => p_cons (r_draw (k := m) l0 (ev_at (d := .int (m : Nat)) l2 rfl) hm0 hm1 hG3 fun r4 H4 hr4 hG4 f4 => p_nil ?_)
      refine pick_fin (ds := [.int 0, .int ((m : Nat) - 1), .int (r3 : Nat), .int (r4 : Nat)]) ⟨_, _, rfl, rfl, _, _, rfl, rfl, _, _, rfl, rfl, _, _, rfl, rfl, rfl⟩ (by show 0 < 4; decide) (by show 4 < 1000; decide) hG4 fun d v H5 hd hv hG5 f5 => ?_
      obtain ⟨r, hr, rfl⟩ : ∃ r : Nat, r < m ∧ d = .int (r : Nat) := by
        rcases List.mem_cons.mp hd with rfl | hd
        · exact ⟨0, hm0, rfl⟩
        rcases List.mem_cons.mp hd with rfl | hd
        · exact ⟨m - 1, by omega, by congr 1; omega⟩
        rcases List.mem_cons.mp hd with rfl | hd
        · exact ⟨r3, hr3, rfl⟩
        · rw [List.mem_singleton.mp hd]
          exact ⟨r4, hr4, rfl⟩
      refine hE _ v H5 ⟨ks ++ [r], by rw [List.map_append]; rfl, ?_⟩ hv (((Fr.of (e1.trans e2) f3).trans f4).trans f5) hG5
      rw [List.take_add_one, hmn]
      exact hb.snoc hr
    · rintro p zs ds H2 ⟨ks, rfl, hb⟩ hp f2 hG2 h2 hd2
      rw [List.length_map, List.take_length] at hb
      refine p_nil ⟨p, zs, rfl, .inl ⟨SqL.of h2, fun z hz => ?_⟩⟩
      exact k ks _ _ hb ⟨z, zs, rfl, .inl upd_same, hd2.to (same_new hz)⟩ (hG2.to (same_new hz)) (f2.to (same_new hz))
end Sp
set_option Elab.async false
set_option linter.all false
set_option maxRecDepth 100000
set_option maxHeartbeats 1000000
namespace Sp
open PySem PySem.Spec PyProof.Rows L2
/-! ### data that may be shown -/
structure Shw (n wt : Nat) (d : PyData) : Prop where
  lay : d.canLay0 = true
  dep : d.depth ≤ n
  short : d.intsShort 21 = true
  show_ : d.showable = true
  wt : d.weight ≤ wt
theorem natlog {i : Int} (h : -1000000000000000000 ≤ i ∧ i ≤ 1000000000000000000) : i.natAbs.log2 < 60 := by
  by_cases h0 : i.natAbs = 0
  · rw [h0]
    decide
  · rw [Nat.log2_lt h0]
    have e : (2 : Nat) ^ 60 = 1152921504606846976 := by decide
    omega
theorem int_len {i : Int} (h : -1000000000000000000 ≤ i ∧ i ≤ 1000000000000000000) : (PyData.shown (.int i)).length ≤ 21 := by
  show (Str.ofString (toString i)).length ≤ 21
  have e : (10 : Int) ^ 19 = 10000000000000000000 := by decide
  by_cases h0 : 0 ≤ i
  · have := toString_length_le h0 (k := 19) (by decide) (by rw [e]; omega)
    omega
  · have h1 := len_text_negI (n := i) (by omega)
    have h2 := toString_length_le (v := 0 - i) (by omega) (k := 19) (by decide) (by rw [e]; omega)
    omega
theorem Shw.int {i : Int} (n : Nat) (h : -1000000000000000000 ≤ i ∧ i ≤ 1000000000000000000) : Shw n 61 (.int i) := by
  refine ⟨rfl, Nat.zero_le _, decide_eq_true (int_len h), decide_eq_true (by have := natlog h; omega), ?_⟩
  show (if i == 0 then 0 else i.natAbs.log2 + 1) ≤ 61
  have := natlog h
  split <;> omega
theorem Shw.non (n : Nat) : Shw n 0 .none := ⟨rfl, Nat.zero_le _, rfl, rfl, Nat.le_refl _⟩
theorem Shw.str {x : Str} {n wt : Nat} (h : PyData.strOk x = true) (hw : x.cps.size ≤ wt) : Shw n wt (.str x) := ⟨h, Nat.zero_le _, rfl, rfl, hw⟩
theorem Shw.up {n m wt wu : Nat} {d : PyData} (h : Shw n wt d) (a : n ≤ m) (b : wt ≤ wu) : Shw m wu d := ⟨h.lay, Nat.le_trans h.dep a, h.short, h.show_, Nat.le_trans h.wt b⟩
theorem short_all : ∀ {ds : List PyData}, (∀ d ∈ ds, d.intsShort 21 = true) → PyData.intsShortAll 21 ds = true
  | [], _ => rfl
  | d :: ds, h => by
    show (d.intsShort 21 && PyData.intsShortAll 21 ds) = true
    rw [h d List.mem_cons_self, short_all fun x hx => h x (List.mem_cons_of_mem _ hx)]
    rfl
theorem show_all : ∀ {ds : List PyData}, (∀ d ∈ ds, d.showable = true) → PyData.showableAll ds = true
  | [], _ => rfl
  | d :: ds, h => by
    show (d.showable && PyData.showableAll ds) = true
    rw [h d List.mem_cons_self, show_all fun x hx => h x (List.mem_cons_of_mem _ hx)]
    rfl
theorem wt_all {wt : Nat} : ∀ {ds : List PyData}, (∀ d ∈ ds, d.weight ≤ wt) → PyData.weightAll ds ≤ (wt + 1) * ds.length
  | [], _ => Nat.zero_le _
  | d :: ds, h => by
    show d.weight + 1 + PyData.weightAll ds ≤ _
    have h1 := h d List.mem_cons_self
    have h2 := wt_all fun x hx => h x (List.mem_cons_of_mem _ hx)
    rw [List.length_cons, Nat.mul_add]
    omega
theorem Shw.tup {n wt k : Nat} {ds : List PyData} (h : ∀ d ∈ ds, Shw n wt d) (hl : ds.length ≤ k) : Shw (n + 1) ((wt + 1) * k) (.tuple ds) := ⟨canLay_all fun d hd => (h d hd).lay, Nat.succ_le_succ (depth_all fun d hd => (h d hd).dep), short_all fun d hd => (h d hd).short, show_all fun d hd => (h d hd).show_, Nat.le_trans (wt_all fun d hd => (h d hd).wt) (Nat.mul_le_mul_left _ hl)⟩
theorem Shw.lst {n wt k : Nat} {ds : List PyData} (h : ∀ d ∈ ds, Shw n wt d) (hl : ds.length ≤ k) : Shw (n + 1) ((wt + 1) * k) (.list ds) := ⟨canLay_all fun d hd => (h d hd).lay, Nat.succ_le_succ (depth_all fun d hd => (h d hd).dep), short_all fun d hd => (h d hd).short, show_all fun d hd => (h d hd).show_, Nat.le_trans (wt_all fun d hd => (h d hd).wt) (Nat.mul_le_mul_left _ hl)⟩
theorem Shw.sh {n wt : Nat} {d : PyData} (h : Shw n wt d) (hn : n ≤ 50) (hw : wt ≤ 100000) : d.showable = true ∧ d.hasDict = false ∧ d.depth ≤ 50 ∧ d.shown.length ≤ sizeLine := by
  refine ⟨h.show_, PyData.hasDict_of_canLay d h.lay, Nat.le_trans h.dep hn, ?_⟩
  have := PyData.shown_le 21 (by decide) d (PyData.leavesShort_of_canLay0 21 d h.lay h.short)
  have h2 := h.wt
  rw [sizeLine_eq]
  omega
theorem Shw.sd {n wt : Nat} {d : PyData} (h : Shw n wt d) : Sd n d := ⟨h.lay, h.dep⟩
theorem Shw.val {x : Val} (h : ValOk x) (n : Nat) : Shw n 61 x.d := by
  cases x with
  | non => exact (Shw.non n).up (Nat.le_refl _) (by decide)
  | int i => exact Shw.int n h
  | str y => exact Shw.str (strOk_of h.2 (by decide)) (by have := h.1; omega)
theorem Shw.wr {w : Wr} (h : WrOk w) : Shw 2 375 (wrD w) := by
  refine (Shw.tup (n := 1) (wt := 124) (k := 3) (fun d hd => ?_) (by rw [List.length_map]; exact h.len)).up (Nat.le_refl _) (by decide)
  obtain ⟨p, hp, rfl⟩ := List.mem_map.mp hd
  refine (Shw.tup (n := 0) (wt := 61) (k := 2) (fun d hd => ?_) (Nat.le_refl _)).up (Nat.le_refl _) (by decide)
  rcases List.mem_cons.mp hd with rfl | hd
  · exact (Shw.str (n := 0) (wt := 16) (strOk_of (h.ok p hp).1.sig (by decide)) (h.ok p hp).1.len).up (Nat.le_refl _) (by decide)
  · rw [List.mem_singleton.mp hd]
    exact Shw.val (h.ok p hp).2 0
end Sp
set_option Elab.async false
set_option linter.all false
set_option maxRecDepth 100000
set_option maxHeartbeats 1000000
namespace Sp
open PySem PySem.Spec PyProof.Rows L2
section
variable {K : PySem.W.Frag} {l : L2.St} {H H' : Hp} {te ta tl : TE} {ds : List PyData} {E : XK}
def ShC (d : PyData) : Prop := d.showable = true ∧ d.hasDict = false ∧ d.depth ≤ 50 ∧ d.shown.length ≤ sizeLine
theorem ev_reprT (h : Ev te l H (.tuple ds)) (hs : ShC (.tuple ds)) : Ev (tCB (rReprD K) (tCons te tNil)) l H (.str (PyData.tuple ds).shown) := fun H1 e Q q => h H1 e _ fun v H2 e2 hv => by
  obtain ⟨a, xs, rfl, ha, hx⟩ := hv
  exact ⟨a, .tuple ds, rfl, .tup (.inl ha) (Dts.dp ds hx), hs.1, hs.2.1, hs.2.2.1, hs.2.2.2, q _ _ e2 rfl⟩
theorem ev_reprL (h : EvL te l H ds) (hs : ShC (.list ds)) : Ev (tCB (rReprD K) (tCons te tNil)) l H (.str (PyData.list ds).shown) := fun H1 e Q q => h H1 e _ fun p xs H2 hp e2 h2 hx =>
  ⟨p, .list ds, rfl, .lst (SqL.of h2) (Dts.dp ds hx), hs.1, hs.2.1, hs.2.2.1, hs.2.2.2, q _ _ e2 rfl⟩
def wordS (d : Dk') : Str := if d.t = 0 then "whole" else "cut"
theorem ev_rec {d : Dk'} {w : Wr} (h : Ev ta l H d.dat) (hd : DkR d) (hw : IsMap d.map w) : Ev (tCall spRec [] E (tCons ta tNil)) l H (.tuple [.int (d.stamp : Nat), wrD w, .str (wordS d)]) := fun H1 e Q q =>
  p_call (p_cons (p_ev (h.to e) fun v H2 e2 hv => p_nil (by
    obtain ⟨hq, KS, h64, hK⟩ := hd
    exact ⟨d, KS, Dts.one hv, hq, h64, hK, fun a u w' H3 e3 hm ha hwd _ => by
      obtain rfl := hm.uniq hw
      exact q _ H3 (e2.trans e3) ⟨a, _, rfl, ha, _, _, rfl, rfl, _, _, rfl, hwd, _, _, rfl, rfl, rfl⟩⟩)))
end
theorem Sd.dsk (p : Oct × Oct × Oct) : Sd 2 (dsk p) := Sd.tup fun d hd => by
  rcases List.mem_cons.mp hd with rfl | hd
  · exact Sd.oct _
  rcases List.mem_cons.mp hd with rfl | hd
  · exact Sd.oct _
  · rw [List.mem_singleton.mp hd]
    exact Sd.oct _
theorem shc3 {s : Nat} {w : Wr} {x : Str} (hs : s ≤ 1000000) (hw : WrOk w) (hx : PyData.strOk x = true) (hxl : x.cps.size ≤ 100) : ShC (.tuple [.int (s : Nat), wrD w, .str x]) := by
  refine (Shw.tup (n := 2) (wt := 375) (k := 3) (fun d hd => ?_) (Nat.le_refl _)).sh (by decide) (by decide)
  rcases List.mem_cons.mp hd with rfl | hd
  · exact (Shw.int 2 ⟨by omega, by omega⟩).up (Nat.le_refl _) (by decide)
  rcases List.mem_cons.mp hd with rfl | hd
  · exact Shw.wr hw
  · rw [List.mem_singleton.mp hd]
    exact Shw.str hx (by omega)
theorem shc2 {s : Nat} {w : Wr} (hs : s ≤ 1000000) (hw : WrOk w) : ShC (.tuple [.int (s : Nat), wrD w]) ∧ ShC (.list [.int (s : Nat), wrD w]) := by
  have h : ∀ d ∈ [PyData.int (s : Nat), wrD w], Shw 2 375 d := fun d hd => by
    rcases List.mem_cons.mp hd with rfl | hd
    · exact (Shw.int 2 ⟨by omega, by omega⟩).up (Nat.le_refl _) (by decide)
    · rw [List.mem_singleton.mp hd]
      exact Shw.wr hw
  exact ⟨(Shw.tup (k := 2) h (Nat.le_refl _)).sh (by decide) (by decide), (Shw.lst (k := 2) h (Nat.le_refl _)).sh (by decide) (by decide)⟩
structure MrQ (p : Dk' × Wr) : Prop where
  q : DkR p.1
  w : IsMap p.1.map p.2
  ok : WrOk p.2
  st : p.1.stamp ≤ 1000000
theorem sc__law_mended_right : FnScope ["_law_disk", "_law_stamp", "_law_entries", "_law_once"] ["_law_disk", "_law_stamp", "_law_entries"] (defScope s__law_mended_right) := ⟨rfl, rfl, rfl, by decide +kernel, rfl, by decide +kernel, by decide +kernel⟩
theorem d__law_mended_right {c : Cn} (T : Tx c) : Dg c "_law_mended_right" 11 ["_law_disk", "_law_stamp", "_law_entries"] (spF (fun (p : Dk' × Wr) => [p.1.dat, .int (p.1.stamp : Nat), wrD p.2]) MrQ (fun _ => .bool true)) :=
  T.dg 62 62 rfl rfl sc__law_mended_right (fun _ _ _ _ _ _ us hl => match us, hl with | [_, _, _], _ => rfl) (ln_F fun _ => rfl) fun f cdv A outer s H vs Q E hgd hr h => by
    refine ⟨_, (pss_cons (ps_set (i := 3) sc__law_mended_right.nd rfl (by first | exact Or.inl rfl | exact Or.inr rfl) (pe_d (d_mend T) (hr.mono (by decide)) (pa_cons (pv 0) pa_nil)))
    (pss_cons (ps_if (PW.pt (pw_or (pt_cmpR (op_neD hr.units) (pe_dk0 (dk_mend T) (hr.mono (by decide)) (pv 3)) (pv 3) (nomark _)) (pw_or (pt_cmpR (op_neD hr.units) (pe_slice sl_tupA (pv 3) po_none (po_some pe_int)) (pe_slice sl_tupA (pv 0) po_none (po_some pe_int)) (nomark _)) (pw_or1 (pt_cmpR (op_neD hr.units) (pe_slice sl_tupA (pe_ix ix_tup (pv 0) pe_int (fun _ _ => rfl)) po_none (po_some (pe_callB call_len_seq (by rfl) T.n_len (by decide +kernel) (pa_cons (pe_ix ix_tup (pv 3) pe_int (fun _ _ => rfl)) pa_nil)))) (pe_ix ix_tup (pv 3) pe_int (fun _ _ => rfl)) (nomark _)))))) (pss_one (ps_ret pe_bl)) pss_nil)
    (pss_one (ps_ret (pe_and (pe_cmpR op_eq (pe_callB (call_reprD hgd hr) (by rfl) T.n_repr (by decide +kernel) (pa_cons (pe_d (d_recover T) (hr.mono (by decide)) (pa_cons (pv 3) pa_nil)) pa_nil)) (pe_callB (call_reprD hgd hr) (by rfl) T.n_repr (by decide +kernel) (pa_cons (pe_tup (pa_cons (pv 1) (pa_cons (pv 2) (pa_cons pe_str pa_nil)))) pa_nil)) (nomark _)) (pe_one (pe_cmpR op_eq (pe_callB (call_reprD hgd hr) (by rfl) T.n_repr (by decide +kernel) (pa_cons (pe_slice sl_tupA (pe_d (d_recover T) (hr.mono (by decide)) (pa_cons (pv 0) pa_nil)) po_none (po_some pe_int)) pa_nil)) (pe_callB (call_reprD hgd hr) (by rfl) T.n_repr (by decide +kernel) (pa_cons (pe_tup (pa_cons (pv 1) (pa_cons (pv 2) pa_nil))) pa_nil)) (nomark _)))))))), ?_⟩
    obtain ⟨⟨d, w⟩, hv, hq, k⟩ := h
    have hR := hq.q
    have hw := hq.w
    have hok := hq.ok
    have hst := hq.st
    dsimp only at hv hR hw hok hst k
    obtain ⟨e, eo0, eo1, elog, eR, ebase, elater, et, emend⟩ := mended hR
    have estamp : e.stamp = d.stamp := by unfold Dk'.stamp; rw [ebase, elater]
    have emap : e.map = d.map := by unfold Dk'.map; rw [ebase, elater]
    have edat : dsk (d.o0, d.o1, if d.later = [] then [] else recs (d.lo + 1) d.ws) = e.dat := by unfold Dk'.dat; rw [eo0, eo1, elog]
    have edat2 : dsk (e.o0, e.o1, if e.later = [] then [] else recs (e.lo + 1) e.ws) = e.dat := by unfold Dk'.dat; rw [emend, elog]
    have L := Loc.start (N := ["_law_disk", "_law_stamp", "_law_entries", "_law_once"]) hv
    refine q_asg (d := e.dat) ((ev_F d (ea_1 (ev_v L rfl)) hR.q).is edat) L fun v1 H1 e1 _ L1 => ?_
    have c1 : cutD [octD e.o0, octD e.o1, octD e.log] none (some 2) = [octD e.o0, octD e.o1] := cut_head [octD e.o0, octD e.o1] [octD e.log] rfl
    have c2 : cutD [octD d.o0, octD d.o1, octD d.log] none (some 2) = [octD e.o0, octD e.o1] := by rw [eo0, eo1]; exact cut_head [octD d.o0, octD d.o1] [octD d.log] rfl
    have c3 : cutD (d.log.map PyData.int) none (some ((e.log.length : Nat) : Int)) = e.log.map .int := by
      rw [elog]
      unfold Dk'.log
      by_cases hl : d.later = []
      · rw [if_pos hl, List.map_append]
        exact cut_head [] _ rfl
      · rw [if_neg hl, List.map_append]
        exact cut_head _ _ (by rw [List.length_map])
    have s2 : Sd 2 (.tuple [octD e.o0, octD e.o1]) := Sd.tup fun x hx => by
      rcases List.mem_cons.mp hx with rfl | hx
      · exact Sd.oct _
      · rw [List.mem_singleton.mp hx]
        exact Sd.oct _
    have hs0 : Sd 2 e.dat := Sd.dsk _
    have hs3 := Sd.oct e.log
    refine q_skip ((et_or (b := false) (c := false) (et_of (ev_neD (d1 := e.dat) (d2 := e.dat) ((ev_F e (ea_1 (ev_v L1 rfl)) eR.q).is edat2) (ev_v L1 rfl) hs0.shaped hs0.shaped (by rw [hs0.refl]; rfl))) fun _ => (et_or (b := false) (c := false) (et_of (ev_neD (d1 := .tuple [octD e.o0, octD e.o1]) (d2 := .tuple [octD e.o0, octD e.o1]) ((ev_sl (ev_v L1 rfl) eo_none (eo_some (ev_int (i := 2)))).is (congrArg PyData.tuple c1)) ((ev_sl (ev_v (n := 0) (d := d.dat) L1 rfl) eo_none (eo_some (ev_int (i := 2)))).is (congrArg PyData.tuple c2)) s2.shaped s2.shaped (by rw [s2.refl]; rfl))) fun _ => et_of (ev_neD (d1 := octD e.log) (d2 := octD e.log) ((ev_sl (ev_ix (d := octD d.log) (ds := [octD d.o0, octD d.o1, octD d.log]) (i := 2) (ev_v L1 rfl) ev_int rfl) eo_none (eo_some ((ev_len (ds := e.log.map .int) (ev_ix (d := octD e.log) (ds := [octD e.o0, octD e.o1, octD e.log]) (i := 2) (ev_v L1 rfl) ev_int rfl)).is (by rw [List.length_map])))).is (congrArg PyData.tuple c3)) (ev_ix (d := octD e.log) (ds := [octD e.o0, octD e.o1, octD e.log]) (i := 2) (ev_v L1 rfl) ev_int rfl) hs3.shaped hs3.shaped (by rw [hs3.refl]; rfl))).is rfl).is rfl) fun H2 e2 => ?_
    have L2' := L1.to e2
    have hword : wordS e = "whole" := by unfold wordS; rw [if_pos et]
    have hcut2 : cutD [.int (d.stamp : Nat), wrD w, .str (wordS d)] none (some 2) = [.int (d.stamp : Nat), wrD w] := cut_head [PyData.int (d.stamp : Nat), wrD w] [.str (wordS d)] rfl
    refine s_ret (d := .bool true) ((ev_and (b := true) (c := true) ((ev_eqS (ev_reprT ((ev_rec (w := w) (ev_v (n := 3) (d := e.dat) L2' rfl) eR (by rw [emap]; exact hw)).is (by rw [estamp, hword])) (shc3 hst hok (by decide +kernel) (by decide +kernel))) (ev_reprT (ev_tup (ea_3 (ev_v L2' rfl) (ev_v L2' rfl) ev_str) len3) (shc3 hst hok (by decide +kernel) (by decide +kernel)))).is (by rw [decide_eq_true rfl])) fun _ => (ev_eqS (ev_reprT ((ev_sl (ev_rec (w := w) (ev_v (n := 0) (d := d.dat) L2' rfl) hR hw) eo_none (eo_some (ev_int (i := 2)))).is (congrArg PyData.tuple hcut2)) (shc2 hst hok).1) (ev_reprT (ev_tup (ea_2 (ev_v L2' rfl) (ev_v L2' rfl)) len2) (shc2 hst hok).1)).is (by rw [decide_eq_true rfl])).is rfl) fun v H3 e3 hd => k v H3 ((e1.trans e2).trans e3) hd
end Sp
set_option Elab.async false
set_option linter.all false
set_option maxRecDepth 100000
set_option maxHeartbeats 1000000
namespace Sp
open PySem PySem.Spec PyProof.Rows L2
theorem ev_jl {c : Cn} {α : Type} {args : α → List PyData} {pre : α → JM → Prop} {res : α → JM → PyData} {m : Str} {l : L2.St} {H : Hp} {M : List Addr} {j : Addr} {J : JM} {ta : TE} {t : TA} {E : XK} (h : JAt c H M j J) (ha : EvV ta l H (.ref j)) (a : α) (ht : EvA t l H (args a)) (hp : pre a J) (hm : m ≠ "start" ∧ m ≠ "stamp" ∧ m ≠ "entries" ∧ m ≠ "word" ∧ m ≠ "files" ∧ m ≠ "drawn" := by decide +kernel) : Ev (tMeth (cJournal c) m (spJL c args pre res) [] E ta t) l H (res a J) := fun H1 e Q q => by
  refine (h.to e).meth (ha.to e) (fun H2 e2 Q q => ht H2 (e.trans e2) Q q) (fun vs H2 e2 hvs => ?_) hm
  exact ⟨a, j, M, J, vs, rfl, hvs, (h.to e).to e2, hp, fun v H3 e3 hd => q v H3 (e2.trans e3) hd⟩
theorem ev_due {c : Cn} {l : L2.St} {H : Hp} {M : List Addr} {st : Addr} {S : LM} {dw : Option (Nat × Nat)} {ks : List Nat} {r0 r1 : IRow} {rl : LRow} {ta tb : TE} {E : XK} {res : IRow → IRow → LRow → PyData} (h : StAt c H M st S dw) (ha : EvV ta l H (.ref st)) (hb : Ev tb l H (natsD ks)) (hl : LookQ S ks r0 r1 rl) : Ev (tCall (spSt c res) [] E (tCons ta (tCons tb tNil))) l H (res r0 r1 rl) := fun H1 e Q q =>
  p_call (p_cons (p_vv (ha.to e) fun H2 e2 => p_cons (p_ev ((hb.to e).to e2) fun v H3 e3 hv => p_nil ⟨st, M, S, dw, ks, r0, r1, rl, v, rfl, hv, ((h.to e).to e2).to e3, hl, fun v4 H4 e4 hd => q v4 H4 ((e2.trans e3).trans e4) hd⟩)))
structure CrQ (S : LM) (ks : List Nat) (r0 r1 : IRow) (rl : LRow) (d : Dk') (w : Wr) : Prop where
  look : LookQ S ks r0 r1 rl
  f3 : F3 S.J.F
  num : NumOk S.J.F ks
  cut : cutF S.J.F ks = [d.o0, d.o1, d.log]
  r : DkR d
  oo : OctS d.o0 ∧ OctS d.o1 ∧ OctS d.log
  due : max (baseI r0 r1) (rl.1 : Nat) = (d.stamp : Nat)
  ms : S.ms[d.stamp]? = some w
  hw : IsMap d.map w
  ok : WrOk w
  st : d.stamp ≤ 1000000
def spCR (c : Cn) : Sp := fun vs H Q _ => ∃ st M S dw ks v r0 r1 rl d w, vs = [V.ref st, v] ∧ Dt H (natsD ks) v ∧ StAt c H M st S dw ∧ CrQ S ks r0 r1 rl d w ∧ ∀ H', Same H H' → Q (.bl true) H'
theorem sc__law_cut_right : FnScope ["_law_state", "_law_numbers_here", "_law_disk", "_law_stamp", "_law_entries", "_law_word", "_law_due_here"] ["_law_state", "_law_numbers_here"] (defScope s__law_cut_right) := ⟨rfl, rfl, rfl, by decide +kernel, rfl, by decide +kernel, by decide +kernel⟩
theorem d__law_cut_right {c : Cn} (T : Tx c) : Dg c "_law_cut_right" 11 ["_law_state", "_law_numbers_here"] (spCR c ) :=
  T.dg 60 60 rfl rfl sc__law_cut_right (fun _ _ _ _ _ _ us hl => match us, hl with | [_, _], _ => rfl) (fun vs H Q E h => by obtain ⟨_, _, _, _, _, _, _, _, _, _, _, e, _⟩ := h; rw [e] <;> rfl) fun f cdv A outer s H vs Q E hgd hr h => by
    refine ⟨_, (pss_cons (ps_set (i := 2) sc__law_cut_right.nd rfl (by first | exact Or.inl rfl | exact Or.inr rfl) (pe_md (d_Journal_cut T) T.c_Journal (hr.mono (by decide)) (pe_dget (hu_of hr) (pv 0) pe_str (fun _ _ => rfl)) (pa_cons (pv 1) pa_nil)))
    (pss_cons (ps_asg (pe_d (d_recover T) (hr.mono (by decide)) (pa_cons (pv 2) pa_nil)) (pg_tup (by rfl) (pgs_cons (pg_name (i := 3) sc__law_cut_right.nd rfl (by first | exact Or.inl rfl | exact Or.inr rfl)) (pgs_cons (pg_name (i := 4) sc__law_cut_right.nd rfl (by first | exact Or.inl rfl | exact Or.inr rfl)) (pgs_cons (pg_name (i := 5) sc__law_cut_right.nd rfl (by first | exact Or.inl rfl | exact Or.inr rfl)) pgs_nil)))))
    (pss_cons (ps_set (i := 6) sc__law_cut_right.nd rfl (by first | exact Or.inl rfl | exact Or.inr rfl) (pe_d (d__law_due T) (hr.mono (by decide)) (pa_cons (pv 0) (pa_cons (pv 1) pa_nil))))
    (pss_one (ps_ret (pe_and (pe_cmpR op_eq (pe_callB (call_reprD hgd hr) (by rfl) T.n_repr (by decide +kernel) (pa_cons (pe_lst (pa_cons (pv 3) (pa_cons (pv 4) pa_nil))) pa_nil)) (pe_callB (call_reprD hgd hr) (by rfl) T.n_repr (by decide +kernel) (pa_cons (pe_lst (pa_cons (pv 6) (pa_cons (pe_dget (hu_of hr) (pe_dget (hu_of hr) (pv 0) pe_str (fun _ _ => rfl)) (pv 6) (fun _ _ => rfl)) pa_nil))) pa_nil)) (nomark _)) (pe_and (pe_cmpR op_in_seq (pv 5) (pe_tup (pa_cons pe_str (pa_cons pe_str pa_nil))) (by rfl)) (pe_one (pe_d (d_is_disk T) (hr.mono (by decide)) (pa_cons (pv 2) pa_nil)))))))))), ?_⟩
    obtain ⟨st, M, S, dw, ks, v, r0, r1, rl, d, w, rfl, hv, ⟨P, hS⟩, hq, k⟩ := h
    have L : Loc H [none, some (natsD ks), none, none, none, none, none] (L2.start ["_law_state", "_law_numbers_here", "_law_disk", "_law_stamp", "_law_entries", "_law_word", "_law_due_here"] [V.ref st, v]) := ⟨_, _, rfl, _, _, rfl, hv, _, _, rfl, _, _, rfl, _, _, rfl, _, _, rfl, _, _, rfl, trivial⟩
    have hdat : PyData.tuple ((cutF S.J.F ks).map octD) = d.dat := by rw [hq.cut]; rfl
    refine q_asg (d := d.dat) ((ev_jl hS.j (vv_getK (vv_at rfl) (.inl hS.st) hS.kj) ks (ea_1 (ev_v L rfl)) ⟨hq.f3, hq.num⟩).is hdat) L fun v1 H1 e1 _ L1 => ?_
    refine q_un3 (d1 := .int (d.stamp : Nat)) (d2 := wrD w) (d3 := .str (wordS d)) (ev_rec (w := w) (ev_v (n := 2) (d := d.dat) L1 rfl) hq.r hq.hw) L1 fun v2 v3 v4 H2 e2 _ _ hv4 L2' => ?_
    obtain rfl : v4 = .str (wordS d) := hv4
    have hS2 := (hS.to e1).to e2
    refine q_asg (d := .int (d.stamp : Nat)) ((ev_due ⟨P, hS2⟩ (vv_at rfl) (ev_v L2' rfl) hq.look).is (by show PyData.int _ = _; rw [hq.due])) L2' fun v5 H3 e3 _ L3 => ?_
    have hS3 := hS2.to e3
    have hc2 := (shc2 (s := d.stamp) hq.st hq.ok).2
    refine p_ret (p_ev (d := .bool true) ((ev_and (b := true) (c := true) ((ev_eqS (ev_reprL (el_lst (ea_2 (ev_v L3 rfl) (ev_v L3 rfl)) len2) hc2) (ev_reprL (el_lst (ea_2 (ev_v L3 rfl) (ev_maps (vv_getK (vv_at rfl) (.inl hS3.st) hS3.km) hS3.ms (ev_v L3 rfl) hq.ms)) len2) hc2)).is (by rw [decide_eq_true rfl])) fun _ => (ev_and (b := true) (c := true) (et_in2 (x := wordS d) (vv_at rfl) (by unfold wordS; split <;> decide +kernel)) fun _ => (ev_F (d.o0, d.o1, d.log) (ea_1 (ev_v L3 rfl)) hq.oo)).is rfl).is rfl) fun v6 H4 e4 hd => ?_)
    obtain rfl : v6 = .bl true := hd
    exact k H4 (((e1.trans e2).trans e3).trans e4)
end Sp
set_option Elab.async false
set_option linter.all false
set_option maxRecDepth 100000
set_option maxHeartbeats 1000000
namespace Sp
open PySem PySem.Spec PyProof.Rows L2
def stKvs (j md ia lg : Addr) : List (Key × V) := [(.inr "journal", .ref j), (.inr "maps", .ref md), (.inr "images", .ref ia), (.inr "logs", .ref lg), (.inr "drawn", .non)]
theorem stKvs_val (j md ia lg : Addr) : valV (mergeK [] (stKvs j md ia lg)) (.inr "journal" : Key) = some (.ref j) ∧ valV (mergeK [] (stKvs j md ia lg)) (.inr "maps" : Key) = some (.ref md) ∧ valV (mergeK [] (stKvs j md ia lg)) (.inr "images" : Key) = some (.ref ia) ∧ valV (mergeK [] (stKvs j md ia lg)) (.inr "logs" : Key) = some (.ref lg) ∧ valV (mergeK [] (stKvs j md ia lg)) (.inr "drawn" : Key) = some .non := by
  have e : mergeK [] (stKvs j md ia lg) = putK (putK (putK (putK (putK [] (.inr "journal" : Key) (.ref j)) (.inr "maps") (.ref md)) (.inr "images") (.ref ia)) (.inr "logs") (.ref lg)) (.inr "drawn") .non := rfl
  have ne : ∀ {x y : Str}, x ≠ y → ¬ (Sum.inr x : Key) = .inr y := fun h q => h (Sum.inr.inj q)
  rw [e]
  refine ⟨?_, ?_, ?_, ?_, ?_⟩
  · rw [valV_put, if_neg (ne (by decide +kernel)), valV_put, if_neg (ne (by decide +kernel)), valV_put, if_neg (ne (by decide +kernel)), valV_put, if_neg (ne (by decide +kernel)), valV_put, if_pos rfl]
  · rw [valV_put, if_neg (ne (by decide +kernel)), valV_put, if_neg (ne (by decide +kernel)), valV_put, if_neg (ne (by decide +kernel)), valV_put, if_pos rfl]
  · rw [valV_put, if_neg (ne (by decide +kernel)), valV_put, if_neg (ne (by decide +kernel)), valV_put, if_pos rfl]
  · rw [valV_put, if_neg (ne (by decide +kernel)), valV_put, if_pos rfl]
  · rw [valV_put, if_pos rfl]
theorem mk_state {c : Cn} {H : Hp} {p j md ia i0 i1 lg : Addr} {Mj : List Addr} {S : LM} {x0 x1 xl : List V} (nd : [p, md, ia, i0, i1, lg].Nodup) (dj : ∀ a ∈ [p, md, ia, i0, i1, lg], a ∉ Mj) (hp : H p = some (.dK [])) (hj : JAt c H Mj j S.J) (hms : MapsAt H md S.ms) (hia : H ia = some (.lst [.ref i0, .ref i1])) (h0 : H i0 = some (.lst x0)) (d0 : Dts H (S.im0.map rowD) x0) (h1 : H i1 = some (.lst x1)) (d1 : Dts H (S.im1.map rowD) x1) (hg : H lg = some (.lst xl)) (dl : Dts H (S.lg.map logD) xl) :
    StR c (upd H p (.dK (mergeK [] (stKvs j md ia lg)))) (p :: md :: ia :: i0 :: i1 :: lg :: Mj) p S none ⟨mergeK [] (stKvs j md ia lg), j, Mj, md, ia, i0, i1, lg, x0, x1, xl, .non⟩ := by
  have hn := nd
  simp only [List.nodup_cons, List.mem_cons, List.not_mem_nil, or_false, not_or] at hn
  obtain ⟨⟨a1, a2, a3, a4, a5⟩, _⟩ := hn
  obtain ⟨v1, v2, v3, v4, v5⟩ := stKvs_val j md ia lg
  have kt : Tk H (upd H p (.dK (mergeK [] (stKvs j md ia lg)))) := tk_upd hp
  have kz : Fz H (upd H p (.dK (mergeK [] (stKvs j md ia lg)))) := Fz.upd hp
  have k : ∀ a o, a ≠ p → H a = some o → upd H p (.dK (mergeK [] (stKvs j md ia lg))) a = some o := fun a o hne ho => (upd_ne hne).trans ho
  have hl := length_mergeK (stKvs j md ia lg) []
  have hl5 : (stKvs j md ia lg).length = 5 := rfl
  exact { M := rfl, nd := nd, dj := dj, st := upd_same, kl := by rw [hl5] at hl; exact Nat.le_trans hl (by decide), kj := v1, km := v2, ki := v3, kg := v4, kd := v5, j := hj.out' (fun a m o ho => k a o (fun e => dj p (by simp) (e ▸ m)) ho) kt kz, ms := hms.out (fun o ho => k _ _ (fun e => a1 e.symm) ho) kt kz, ia := k _ _ (fun e => a2 e.symm) hia, i0 := k _ _ (fun e => a3 e.symm) h0, d0 := Dts.tk kt _ d0, i1 := k _ _ (fun e => a4 e.symm) h1, d1 := Dts.tk kt _ d1, lg := k _ _ (fun e => a5 e.symm) hg, dl := Dts.tk kt _ dl, dd := rfl }
theorem p_disp {trs : List (TE × TE)} {l : L2.St} {H : Hp} {Q : VK} (h : ∀ p, H p = none → tPairs trs l (upd H p (.dK [])) fun ps H2 => H2 p = some (.dK []) ∧ ∃ kvs : List (Key × V), ps = kvs.map (fun kv => (kV kv.1, kv.2)) ∧ kvs.length ≤ 15 ∧ Q (.ref p) (upd H2 p (.dK (mergeK [] kvs)))) : tDisp trs l H Q := h
theorem p_make {C : Addr} {sp : Sp} {E : XK} {t : TA} {l : L2.St} {H : Hp} {Q : VK} (h : t l H fun vs H1 => ∀ x dx, H1 x = none → H1 dx = none → dx ≠ x → sp (.ref x :: (vs ++ [])) (upd (upd H1 dx (.own x)) x (.ins C dx [])) (fun v H2 => v = .non ∧ Q (.ref x) H2) E) : tMake C sp [] E t l H Q := h
/-- Journal(disk): a new journal, all else stays -/
theorem r_journal {c : Cn} {l : L2.St} {H : Hp} {ta : TE} {E : XK} {d : Dk'} {Q : VK} (ha : Ev ta l H d.dat) (hd : OpenQ d) (k : ∀ j Mj H' w, IsMap d.map w → JAt c H' Mj j (opened d w) → Same H H' → (∀ a ∈ Mj, H a = none) → Q (.ref j) H') : tMake (cJournal c) (spJin c) [] E (tCons ta tNil) l H Q := by
  refine p_make (p_cons (p_ev ha fun v H1 e1 hv => p_nil fun x dx hx hdx hne => ?_))
  have s1 : Same H1 (upd (upd H1 dx (.own x)) x (.ins (cJournal c) dx [])) := (same_new hdx).trans (same_new (by rw [upd_ne hne.symm]; exact hx))
  refine ⟨x, dx, v, d, rfl, upd_same, hv.to s1, hd, fun H' M w hm hj f => ⟨rfl, k x M H' w hm hj ?_ ?_⟩⟩
  · intro a o ho
    have h1 := s1 _ _ (e1 _ _ ho)
    exact f.keep a o h1 fun m => by
      rw [List.mem_singleton.mp m] at ho
      rw [e1 _ _ ho] at hx
      cases hx
  · intro a m
    refine Same.free e1 ?_
    rcases f.sub a m with q | q
    · rw [List.mem_singleton.mp q]; exact hx
    · exact Same.free s1 q
end Sp
set_option Elab.async false
set_option linter.all false
set_option maxRecDepth 100000
set_option maxHeartbeats 1000000
namespace Sp
open PySem PySem.Spec PyProof.Rows L2
def d00 : Dk' := ⟨[], [], none, none, 0, [], [], 0⟩
theorem frame_pos (b : Oct) : 0 < (frame b).length := by rw [frame_len]; omega
theorem d00_q : OpenQ d00 := by
  have hi : ImgQ (([] : Oct), none) := ⟨[], 0, by show 0 ≤ 65535; decide, frame_pos [], rfl⟩
  exact ⟨⟨⟨hi, hi, ⟨by show 0 + 1 + 0 < 1000000; decide, by show 0 ≤ 10000; decide, fun w h => (nomatch h), by show 0 ≤ 65535; decide, frame_pos []⟩, .inl rfl⟩, [], by decide, fun p h => (nomatch h)⟩, by show 0 ≤ 900000; decide, by show 0 ≤ 900000; decide, by show 0 ≤ 900000; decide⟩
def begunS (w : Wr) : LM := ⟨opened d00 w, [[]], [(-1, 0)], [(-1, 0)], [(0, 0, 0)]⟩
def spBegun (c : Cn) : Sp := fun vs H Q _ => ∃ v, vs = [v] ∧ Dt H (dsk ([], [], [])) v ∧ ∀ st M w H', IsMap Mp0 w → StAt c H' M st (begunS w) none → Same H H' → (∀ a ∈ M, H a = none) → Q (.ref st) H'
theorem sc__law_begun : FnScope ["_law_disk", "_law_images", "_law_logs"] ["_law_disk"] (defScope s__law_begun) := ⟨rfl, rfl, rfl, by decide +kernel, rfl, by decide +kernel, by decide +kernel⟩
theorem d__law_begun {c : Cn} (T : Tx c) : Df c "_law_begun" 13 ["_law_disk"] (spBegun c ) :=
  T.df 52 52 rfl rfl sc__law_begun (fun _ _ _ _ _ _ us hl => match us, hl with | [_], _ => rfl) (fun vs H Q E h => by obtain ⟨_, e, _⟩ := h; rw [e] <;> rfl) fun f cdv A outer s H vs Q E hr h => by
    refine ⟨_, (pss_cons (ps_par (i := 1) (j := 2) (by rfl) sc__law_begun.nd rfl rfl (by decide) rfl rfl (pa_cons (pe_lst (pa_cons (pe_lst (pa_cons (pe_tup (pa_cons (pe_un un_neg pe_int) (pa_cons pe_int pa_nil))) pa_nil)) (pa_cons (pe_lst (pa_cons (pe_tup (pa_cons (pe_un un_neg pe_int) (pa_cons pe_int pa_nil))) pa_nil)) pa_nil))) (pa_cons (pe_lst (pa_cons (pe_tup (pa_cons pe_int (pa_cons pe_int (pa_cons pe_int pa_nil)))) pa_nil)) pa_nil)) (by rfl))
    (pss_one (ps_ret (pe_disp (pps_cons pe_str (pe_mkd (m_Journal T) (hr.mono (by decide)) (pa_cons (pv 0) pa_nil)) (pps_cons pe_str (pe_disp (pps_cons pe_int pe_tup0 pps_nil) (by rfl) (by rfl) (fun z => by cases z) (by decide)) (pps_cons pe_str (pv 1) (pps_cons pe_str (pv 2) (pps_cons pe_str pe_non pps_nil))))) (by rfl) (by rfl) (fun z => by cases z) (by decide))))), ?_⟩
    obtain ⟨v, rfl, hv, k⟩ := h
    refine p_qpar (p_cons (p_lst ?_))
    refine p_cons (p_el (el_lst (ds := [rowD (-1, 0)]) (ea_1 (ev_tup (ea_2 ((ev_U (ev_int (i := 1))).is rfl) (ev_int (i := 0))) len2)) len1) fun i0 x0 H1 hi0 e1 h0 d0 => ?_)
    refine p_cons (p_el (el_lst (ds := [rowD (-1, 0)]) (ea_1 (ev_tup (ea_2 ((ev_U (ev_int (i := 1))).is rfl) (ev_int (i := 0))) len2)) len1) fun i1 x1 H2 hi1 e2 h1 d1 => ?_)
    refine p_nil ⟨by show 2 ≤ sizeLine; decide, fun ia hia => ?_⟩
    refine p_cons (p_el (el_lst (ds := [logD (0, 0, 0)]) (ea_1 (ev_tup (ea_3 (ev_int (i := 0)) (ev_int (i := 0)) (ev_int (i := 0))) len3)) len1) fun lg xl H4 hlg e4 hg dl => ?_)
    refine p_nil ⟨_, _, rfl, ?_⟩
    have e3 : Same H2 (upd H2 ia (.lst [.ref i0, .ref i1])) := same_new hia
    have e24 := e3.trans e4
    have e04 := (e1.trans e2).trans e24
    refine p_ret (p_disp fun p hp => ?_)
    have e5 : Same H4 (upd H4 p (.dK [])) := same_new hp
    refine p_vv (vv_c (v := .str "journal")) fun H6 e6 => ?_
    refine r_journal (d := d00) (ev_at (v := v) rfl (((hv.to e04).to e5).to e6)) d00_q fun j Mj H7 w hm hj e7 hMj => ?_
    refine p_vv (vv_c (v := .str "maps")) fun H8 e8 => ?_
    refine p_disp fun md hmd => ?_
    have e9 : Same H8 (upd H8 md (.dK [])) := same_new hmd
    refine p_vv (vv_c (v := .int 0)) fun H10 e10 => ?_
    intro tz oz htz hoz
    have e11 : Same H10 (upd H10 tz (.frz oz (.tup []))) := same_new htz
    refine ⟨e11 _ _ (e10 _ _ upd_same), [(.inl 0, .ref tz)], rfl, by show 1 ≤ 15; decide, ?_⟩
    have hmd11 : (upd H10 tz (.frz oz (.tup []))) md = some (.dK []) := e11 _ _ (e10 _ _ upd_same)
    have ntz : tz ≠ md := (ne_of_none (e10 _ _ upd_same) htz).symm
    generalize hU : upd (upd H10 tz (.frz oz (.tup []))) md (.dK (mergeK [] [((Sum.inl 0 : Key), V.ref tz)])) = U
    have e8U : Same H8 U := fun a o ho => by
      rw [← hU, upd_ne (ne_of_none ho hmd)]
      exact e11 _ _ (e10 _ _ (e9 _ _ ho))
    have hmdU : U md = some (.dK [((Sum.inl 0 : Key), V.ref tz)]) := by rw [← hU]; exact upd_same
    have htzU : U tz = some (.frz oz (.tup [])) := by rw [← hU, upd_ne ntz]; exact upd_same
    refine p_vv (vv_c (v := .str "images")) fun H12 e12 => p_at (v := .ref ia) rfl (p_vv (vv_c (v := .str "logs")) fun H13 e13 => p_at (v := .ref lg) rfl (p_vv (vv_c (v := .str "drawn")) fun H14 e14 => p_vv (vv_c (v := .non)) fun H15 e15 => ?_))
    have eU := ((e12.trans e13).trans e14).trans e15
    have e6U := (e7.trans e8).trans (e8U.trans eU)
    have e4U := (e5.trans e6).trans e6U
    have hp6 : H6 p = some (.dK []) := e6 _ _ upd_same
    have hi0' : H4 i0 = some (.lst x0) := e24 _ _ (e2 _ _ h0)
    have hi1' : H4 i1 = some (.lst x1) := e24 _ _ h1
    have hia' : H4 ia = some (.lst [.ref i0, .ref i1]) := e4 _ _ upd_same
    have n01 : i0 ≠ i1 := ne_of_none h0 hi1
    have n0a : i0 ≠ ia := ne_of_none (e2 _ _ h0) hia
    have n1a : i1 ≠ ia := ne_of_none h1 hia
    have n0g : i0 ≠ lg := ne_of_none (e3 _ _ (e2 _ _ h0)) hlg
    have n1g : i1 ≠ lg := ne_of_none (e3 _ _ h1) hlg
    have nag : ia ≠ lg := ne_of_none upd_same hlg
    have n0p : i0 ≠ p := ne_of_none hi0' hp
    have n1p : i1 ≠ p := ne_of_none hi1' hp
    have nap : ia ≠ p := ne_of_none hia' hp
    have ngp : lg ≠ p := ne_of_none hg hp
    have mdf : ∀ {a : Addr} {o : HO}, H6 a = some o → a ≠ md := fun h => ne_of_none (e8 _ _ (e7 _ _ h)) hmd
    have n0m := mdf (e6 _ _ (e5 _ _ hi0'))
    have n1m := mdf (e6 _ _ (e5 _ _ hi1'))
    have nam := mdf (e6 _ _ (e5 _ _ hia'))
    have ngm := mdf (e6 _ _ (e5 _ _ hg))
    have npm := mdf hp6
    have mjf : ∀ {a : Addr} {o : HO}, H6 a = some o → a ∉ Mj := fun h m => by
      have := hMj _ m
      rw [h] at this
      cases this
    refine ⟨e6U _ _ hp6, stKvs j md ia lg, rfl, by show 5 ≤ 15; decide, ?_⟩
    have hmz : md ∉ Mj := fun m => by
      obtain ⟨o, ho, _⟩ := hj.has md m
      exact absurd rfl (ne_of_none (e8 _ _ ho) hmd)
    have hst := mk_state (c := c) (H := H15) (p := p) (j := j) (md := md) (ia := ia) (i0 := i0) (i1 := i1) (lg := lg) (Mj := Mj) (S := begunS w) (x0 := x0) (x1 := x1) (xl := xl) (by
      simp only [List.nodup_cons, List.mem_cons, List.not_mem_nil, or_false, not_or]
      exact ⟨⟨npm, nap.symm, n0p.symm, n1p.symm, ngp.symm⟩, ⟨nam.symm, n0m.symm, n1m.symm, ngm.symm⟩, ⟨n0a.symm, n1a.symm, nag⟩, ⟨n01, n0g⟩, n1g, by simp⟩) (fun a m => by
      simp only [List.mem_cons, List.not_mem_nil, or_false] at m
      rcases m with m | m | m | m | m | m
      · rw [m]; exact mjf hp6
      · rw [m]; exact hmz
      · rw [m]; exact mjf (e6 _ _ (e5 _ _ hia'))
      · rw [m]; exact mjf (e6 _ _ (e5 _ _ hi0'))
      · rw [m]; exact mjf (e6 _ _ (e5 _ _ hi1'))
      · rw [m]; exact mjf (e6 _ _ (e5 _ _ hg))) (e6U _ _ hp6) (hj.to (e8.trans (e8U.trans eU))) ⟨_, eU _ _ hmdU, rfl, fun t x hx => by
      match t, hx with
      | 0, hx =>
        obtain rfl : ([] : Wr) = x := Option.some.inj hx
        exact ⟨.ref tz, rfl, ⟨tz, [], rfl, .inr ⟨oz, eU _ _ htzU⟩, rfl⟩, ⟨tz, oz, [], rfl, eU _ _ htzU, hoz⟩⟩
      | t + 1, hx => simp [begunS] at hx⟩ (e4U _ _ hia') (e4U _ _ hi0') (d0.to (e2.trans (e24.trans e4U))) (e4U _ _ hi1') (d1.to (e24.trans e4U)) (e4U _ _ hg) (dl.to e4U)
    have hp0 : H p = none := Same.free e04 hp
    refine k p _ w _ ?_ ⟨_, hst⟩ (fun a o ho => ?_) fun a m => ?_
    · exact hm
    · rw [upd_ne (ne_of_none ho hp0)]
      exact e4U _ _ (e04 _ _ ho)
    · rcases List.mem_cons.mp m with rfl | m
      · exact hp0
      rcases List.mem_cons.mp m with rfl | m
      · exact Same.free (((e04.trans e5).trans e6).trans (e7.trans e8)) hmd
      rcases List.mem_cons.mp m with rfl | m
      · exact Same.free (e1.trans e2) hia
      rcases List.mem_cons.mp m with rfl | m
      · exact hi0
      rcases List.mem_cons.mp m with rfl | m
      · exact Same.free e1 hi1
      rcases List.mem_cons.mp m with rfl | m
      · exact Same.free ((e1.trans e2).trans e3) hlg
      · exact Same.free ((e04.trans e5).trans e6) (hMj a m)
end Sp
set_option Elab.async false
set_option linter.all false
set_option maxRecDepth 100000
set_option maxHeartbeats 1000000
namespace Sp
open PySem PySem.Spec PyProof.Rows L2
/-- more objects, where one is locked -/
theorem relock {G H' H'' : Hp} {md : Addr} {od : Obj} {u : HO} (hG : G md = some u) (h : H' = upd G md (.frz od u)) (e : Same H' H'') : ∃ G'', H'' = upd G'' md (.frz od u) ∧ Same G G'' ∧ G'' md = some u := by
  subst h
  refine ⟨upd H'' md u, ?_, fun a o ho => ?_, upd_same⟩
  · funext a
    by_cases q : a = md
    · subst q
      rw [upd_same]
      exact e _ _ upd_same
    · rw [upd_ne q, upd_ne q]
  · by_cases q : a = md
    · subst q
      rw [upd_same, ← hG, ho]
    · rw [upd_ne q]
      exact e _ _ ((upd_ne q).trans ho)
theorem keys_at {mk : List (Key × V)} {n i : Nat} {k : Key} {v : V} (h : mk.map (·.1) = (List.range n).map (fun t => (Sum.inl ((t : Nat) : Int) : Key))) (hi : mk[i]? = some (k, v)) : i < n ∧ k = .inl ((i : Nat) : Int) := by
  have e : (mk.map (·.1))[i]? = some k := by rw [List.getElem?_map, hi]; rfl
  rw [h, List.getElem?_map] at e
  have hin : i < n := by
    by_cases q : i < n
    · exact q
    · rw [List.getElem?_eq_none (by simpa using q)] at e
      cases e
  rw [List.getElem?_range hin] at e
  exact ⟨hin, (Option.some.inj e).symm⟩
theorem valV_ix : ∀ {mk : List (Key × V)} {i : Nat} {k : Key} {v : V}, (mk.map (·.1)).Nodup → mk[i]? = some (k, v) → valV mk k = some v
  | [], _, _, _, _, h => by simp at h
  | p :: r, 0, k, v, _, h => by
    have h : p = (k, v) := by simpa using h
    subst h
    exact valV_pos rfl
  | p :: r, i + 1, k, v, hn, h => by
    have h : r[i]? = some (k, v) := by simpa using h
    have hn := List.nodup_cons.mp (show (p.1 :: r.map (·.1)).Nodup from hn)
    have hne : ¬ p.1 = k := fun e => hn.1 (e ▸ List.mem_map.mpr ⟨(k, v), List.mem_of_getElem? h, rfl⟩)
    rw [valV_neg hne]
    exact valV_ix hn.2 h
theorem keysNd (n : Nat) : ((List.range n).map (fun t => (Sum.inl ((t : Nat) : Int) : Key))).Nodup :=
  List.nodup_range.map _ fun a b hab e => hab (by have : ((a : Nat) : Int) = ((b : Nat) : Int) := Sum.inl.inj e; omega)
theorem r_forK {td : TE} {l : L2.St} {H : Hp} {d : Addr} {o : Obj} {kvs : List (Key × V)} {g : TG} {tb : TS} {D : Ends} (hv : EvV td l H (.ref d)) (hd : H d = some (.frz o (.dK kvs))) (Pv : Nat → L2.St → Hp → Prop) (h0 : ∀ H1, Same H H1 → Pv 0 l H1) (hG : ∀ i l' H', Pv i l' H' → H' d = some (.frz o (.dK kvs)))
    (hs : ∀ i k v l' H', kvs[i]? = some (k, v) → Pv i l' H' → g (kV k) l' H' fun l2 H2 => tb { D with nx := Pv (i + 1), ct := Pv (i + 1), bk := D.nx } l2 H2) (hdn : ∀ l' H', Pv kvs.length l' H' → D.nx l' H') : tFor (iKeys td) g tb D l H :=
  hv H (Same.refl _) _ fun H1 e1 => ⟨d, o, rfl, .inl ⟨kvs, e1 _ _ hd, for_it walk_keys Pv (h0 H1 e1) (fun i l' H' _ p => hG i l' H' p) (fun i x l' H' H2 _ p hy => by
    obtain ⟨rfl, k, v, hk, rfl⟩ := hy
    exact hs i k v l' _ hk p) hdn⟩⟩
theorem r_copy {c : Cn} {l : List (Option V)} {H : Hp} {M : List Addr} {st m2 : Addr} {S : LM} {dw : Option (Nat × Nat)} {P : StP} {due : Nat} {D : Ends} (h : StR c H M st S dw P) (h2 : H m2 = some (.dK [])) (hm2 : m2 ∉ M) (l0 : l[0]? = some (some (.ref st))) (l3 : l[3]? = some (some (.int (due : Nat)))) (l4 : l[4]? = some (some (.ref m2))) (hlen : 5 < l.length) (hdue : due < S.ms.length) (hbig : S.ms.length < 100000)
    (k : ∀ l' H', Fr H [m2] H' [m2] → MapsAt H' m2 (S.ms.take (due + 1)) → (∀ j, j ≠ 5 → l'[j]? = l[j]?) → l'.length = l.length → D.nx l' H') :
    tLock (tFor (iKeys (tDGet (tVar 0) (tC (.str "maps")))) (gName 5) (tIfS (tTest (tOp (rI0 fun i j => .bl (decide (i ≤ j))) (tVar 5) (tVar 3))) (sDPut (tVar 4) (tVar 5) (tDGet (tDGet (tVar 0) (tC (.str "maps"))) (tVar 5))) tNext)) D l H := by
  obtain ⟨mk, hmd, hkeys, hvals⟩ := h.ms
  have hmdM : P.md ∈ M := h.mem _ (by simp)
  have hstM : st ∈ M := h.mem _ (by simp)
  have nmd : P.md ≠ m2 := fun e => hm2 (e ▸ hmdM)
  have nst : st ≠ m2 := fun e => hm2 (e ▸ hstM)
  have nsm : st ≠ P.md := by
    have hn := h.nd
    simp only [List.nodup_cons, List.mem_cons, List.not_mem_nil, or_false, not_or] at hn
    exact hn.1.1
  have hml : mk.length = S.ms.length := by
    have := congrArg List.length hkeys
    simpa using this
  refine ⟨P.md, .dK mk, hmd, trivial, fun od => ?_⟩
  -- what holds at each turn
  let Pv : Nat → L2.St → Hp → Prop := fun i l' H' => ∃ G nk, H' = upd G P.md (.frz od (.dK mk)) ∧ G P.md = some (.dK mk) ∧ Fr H [m2] G [m2] ∧ G m2 = some (.dK nk) ∧ nk.map (·.1) = (List.range (min i (due + 1))).map (fun t => (Sum.inl ((t : Nat) : Int) : Key)) ∧ (∀ t, t < min i (due + 1) → valV nk (.inl ((t : Nat) : Int) : Key) = valV mk (.inl ((t : Nat) : Int))) ∧ (∀ j, j ≠ 5 → l'[j]? = l[j]?) ∧ l'.length = l.length
  have hst' : ∀ {G H' : Hp}, H' = upd G P.md (.frz od (.dK mk)) → Fr H [m2] G [m2] → H' st = some (.dK P.kvs) := fun e f => by
    rw [e, upd_ne nsm]
    exact f.keep _ _ h.st (by simp [nst])
  have e0 : (upd H P.md (.frz od (.dK mk))) st = some (.dK P.kvs) := hst' rfl (Fr.refl _ _)
  refine r_forK (vv_getK (vv_at l0) (.inl e0) h.km) upd_same Pv ?_ ?_ ?_ ?_
  · intro H1 e1
    obtain ⟨G, q1, q2, q3⟩ := relock hmd rfl e1
    exact ⟨G, [], q1, q3, Fr.same q2, q2 _ _ h2, rfl, fun t ht => absurd ht (by omega), fun j _ => rfl, rfl⟩
  · rintro i l' H' ⟨G, nk, rfl, _⟩
    exact upd_same
  · rintro i key v l' H' hi ⟨G, nk, hH', hGm, f, hG2, hk2, hv2, hl, hll⟩
    obtain ⟨hin, rfl⟩ := keys_at hkeys hi
    have hvi : valV mk (.inl ((i : Nat) : Int) : Key) = some v := by
      exact valV_ix (by rw [hkeys]; exact keysNd _) hi
    show tIfS _ _ _ _ (l'.set 5 (some (.int ((i : Nat) : Int)))) H'
    have l5 : (l'.set 5 (some (V.int ((i : Nat) : Int))))[5]? = some (some (.int ((i : Nat) : Int))) := List.getElem?_set_self (by omega)
    have lj : ∀ j, j ≠ 5 → (l'.set 5 (some (V.int ((i : Nat) : Int))))[j]? = l[j]? := fun j hj => by rw [List.getElem?_set_ne (Ne.symm hj)]; exact hl j hj
    refine p_if (p_et (b := decide (i ≤ due)) (et_of ((ev_B0 (ev_at (d := .int ((i : Nat) : Int)) l5 rfl) (ev_at (d := .int (due : Nat)) ((lj 3 (by decide)).trans l3) rfl)).is (by congr 1; exact decide_eq_decide.mpr (by omega)))) fun H1 e1 => ?_)
    obtain ⟨G1, q1, q2, q3⟩ := relock hGm hH' e1
    have f1 := f.to q2
    by_cases hle : i ≤ due
    · rw [decide_eq_true hle, if_pos rfl]
      have hst1 := hst' q1 f1
      have hmd1 : H1 P.md = some (.frz od (.dK mk)) := by rw [q1]; exact upd_same
      have hgm : EvV (tDGet (tVar 0) (tC (.str "maps"))) (l'.set 5 (some (V.int ((i : Nat) : Int)))) H1 (.ref P.md) := vv_getK (vv_at ((lj 0 (by decide)).trans l0)) (.inl hst1) h.km
      refine p_dput ?_
      refine (show tDGet (tDGet (tVar 0) (tC (.str "maps"))) (tVar 5) (l'.set 5 (some (V.int ((i : Nat) : Int)))) H1 _ from hgm H1 (Same.refl _) _ fun H2 e2 => p_at l5 ⟨P.md, v, rfl, .inl ⟨mk, .inl ((i : Nat) : Int), .inr ⟨od, e2 _ _ hmd1⟩, rfl, hvi.symm⟩, p_at ((lj 4 (by decide)).trans l4) (p_at l5 ?_)⟩)
      obtain ⟨G2, r1, r2, r3⟩ := relock q3 q1 e2
      have f2 := f1.to r2
      have hG22 : G2 m2 = some (.dK nk) := r2 _ _ (q2 _ _ hG2)
      have hm22 : H2 m2 = some (.dK nk) := by rw [r1, upd_ne nmd.symm]; exact hG22
      have hmin : min i (due + 1) = i := by omega
      rw [hmin] at hk2 hv2
      have hnew : valV nk (.inl ((i : Nat) : Int) : Key) = none := valV_none_iff.mpr (by
        rw [hk2]
        intro m
        obtain ⟨t, ht, e⟩ := List.mem_map.mp m
        have := List.mem_range.mp ht
        have e : ((t : Nat) : Int) = ((i : Nat) : Int) := Sum.inl.inj e
        omega)
      refine ⟨m2, _, rfl, .inl ⟨nk, .inl ((i : Nat) : Int), hm22, rfl, ?_, rfl⟩, ?_⟩
      · have := congrArg List.length hk2
        rw [List.length_map, List.length_map, List.length_range] at this
        exact Nat.lt_of_lt_of_le (show nk.length < 100000 by omega) (by decide)
      refine ⟨upd G2 m2 (.dK (putK nk (.inl ((i : Nat) : Int)) v)), _, ?_, (upd_ne nmd).trans r3, f2.trans (Fr.upd (by simp) hG22), upd_same, ?_, fun t ht => ?_, lj, by rw [List.length_set]; exact hll⟩
      · rw [r1]
        funext a
        by_cases a1 : a = m2
        · subst a1
          rw [upd_same, upd_ne nmd.symm, upd_same]
        · rw [upd_ne a1]
          by_cases a2 : a = P.md
          · subst a2
            rw [upd_same, upd_same]
          · rw [upd_ne a2, upd_ne a2, upd_ne a1]
      · rw [putK_new _ hnew, List.map_append, hk2, show min (i + 1) (due + 1) = i + 1 by omega, List.range_succ, List.map_append]
        rfl
      · rw [valV_put]
        by_cases e : (t : Nat) = i
        · subst e
          rw [if_pos rfl, hvi]
        · rw [if_neg (fun q => e (by have : ((t : Nat) : Int) = ((i : Nat) : Int) := Sum.inl.inj q; omega))]
          exact hv2 t (by omega)
    · rw [decide_eq_false hle, if_neg (by decide)]
      refine ⟨G1, nk, q1, q3, f1, q2 _ _ hG2, ?_, fun t ht => ?_, lj, by rw [List.length_set]; exact hll⟩
      · rw [hk2, show min (i + 1) (due + 1) = min i (due + 1) by omega]
      · exact hv2 t (by omega)
  · rintro l' H' ⟨G, nk, hH', hGm, f, hG2, hk2, hv2, hl, hll⟩
    have hGe : upd H' P.md (.dK mk) = G := by
      rw [hH']
      funext a
      by_cases q : a = P.md
      · subst q
        rw [upd_same, hGm]
      · rw [upd_ne q, upd_ne q]
    refine ⟨by rw [hH']; exact upd_same, ?_⟩
    rw [hGe]
    have hmin : min mk.length (due + 1) = due + 1 := by omega
    rw [hmin] at hk2 hv2
    have hz : Fz H G := f.fz fun a m o xs e => by
      rw [List.mem_singleton.mp m, h2] at e
      cases e
    refine k l' G f ⟨nk, hG2, ?_, fun t w hw => ?_⟩ hl hll
    · rw [hk2, List.length_take, Nat.min_eq_left (by omega)]
    · have ht := (List.getElem?_eq_some_iff.mp hw).1
      rw [List.length_take] at ht
      rw [List.getElem?_take_of_lt (by omega)] at hw
      obtain ⟨v, g1, g2, g3⟩ := hvals t w hw
      exact ⟨v, by rw [hv2 t (by omega)]; exact g1, Dt.tk f.tk _ g2, g3.fz hz⟩
end Sp
set_option Elab.async false
set_option linter.all false
set_option maxRecDepth 100000
set_option maxHeartbeats 1000000
namespace Sp
open PySem PySem.Spec PyProof.Rows L2
/-- what _law_opened needs -/
structure OpQ (S : LM) (ks : List Nat) (r0 r1 : IRow) (rl : LRow) (d : Dk') : Prop where
  look : LookQ S ks r0 r1 rl
  f3 : F3 S.J.F
  num : NumOk S.J.F ks
  cut : cutF S.J.F ks = [d.o0, d.o1, d.log]
  op : OpenQ d
  due : max (baseI r0 r1) (rl.1 : Nat) = (d.stamp : Nat)
  base : baseI r0 r1 = (d.base.2.1 : Nat)
  ms : d.stamp < S.ms.length
  big : S.ms.length < 100000
def spOpened (c : Cn) : Sp := fun vs H Q _ => ∃ st M S dw ks v r0 r1 rl d, vs = [V.ref st, v] ∧ Dt H (natsD ks) v ∧ StAt c H M st S dw ∧ OpQ S ks r0 r1 rl d ∧ ∀ st' M' w H', IsMap d.map w → StAt c H' M' st' (LM.opened d w (S.ms.take (d.stamp + 1)) r0 r1 rl) none → Same H H' → (∀ a ∈ M', H a = none) → Q (.ref st') H'
theorem r_two {l : L2.St} {H : Hp} {te : TE} {vs : List Nat} {j : Nat} {d0 d1 : PyData} {Q : VK} (hw : ∀ x, wipe ((wipe l vs).set j (some x)) vs = wipe l vs) (e0 : Ev te ((wipe l vs).set j (some (.int 0))) H d0) (e1 : Ev te ((wipe l vs).set j (some (.int 1))) H d1)
    (k : ∀ ia i0 i1 x0 x1 H', Same H H' → H ia = none → H i0 = none → H i1 = none → [ia, i0, i1].Nodup → H' ia = some (.lst [.ref i0, .ref i1]) → H' i0 = some (.lst x0) → Dts H' [d0] x0 → H' i1 = some (.lst x1) → Dts H' [d1] x1 → Q (.ref ia) H') : tLc (iRng1 (tCons (tC (.int 2)) tNil)) (gName j) tYes (tLst (tCons te tNil)) vs l H Q := by
  refine p_lcR (p_cons (p_vv (vv_c (v := .int 2)) fun H1 s1 => p_nil ⟨2, rfl, by decide, by decide, fun p hp => ?_⟩))
  have hp0 : H p = none := Same.free s1 hp
  refine lc_range (lo := 0) (n := 2) (fun i H' => Same H H' ∧ ((i = 0 ∧ H' p = some (.lst [])) ∨ (i = 1 ∧ ∃ i0 x0, H i0 = none ∧ i0 ≠ p ∧ H' p = some (.lst [.ref i0]) ∧ H' i0 = some (.lst x0) ∧ Dts H' [d0] x0) ∨ (i = 2 ∧ ∃ i0 x0 i1 x1, H i0 = none ∧ H i1 = none ∧ [p, i0, i1].Nodup ∧ H' p = some (.lst [.ref i0, .ref i1]) ∧ H' i0 = some (.lst x0) ∧ Dts H' [d0] x0 ∧ H' i1 = some (.lst x1) ∧ Dts H' [d1] x1))) ⟨s1.trans (same_new hp), .inl ⟨rfl, upd_same⟩⟩ (fun i H' hi w => ⟨hw _, ?_⟩) (fun H' w => ?_)
  · unfold tYes
    dsimp only
    rw [if_pos rfl]
    obtain ⟨s2, ⟨rfl, w1⟩ | ⟨rfl, i0, x0, w1, w2, w3, w4, w5⟩ | ⟨rfl, _⟩⟩ := w
    · refine p_el (el_lst (ds := [d0]) (ea_1 (e0.to s2)) len1) fun i0 x0 H3 h3 s3 g3 dd3 => ?_
      have hne : i0 ≠ p := (ne_of_none w1 h3).symm
      have hpp : H3 p = some (.lst []) := s3 _ _ w1
      exact ⟨[], hpp, by decide, same_mut (s2.trans s3) hp0, .inr (.inl ⟨rfl, i0, x0, Same.free s2 h3, hne, upd_same, (upd_ne hne).trans g3, Dts.tk (tk_upd hpp) _ dd3⟩)⟩
    · refine p_el (el_lst (ds := [d1]) (ea_1 (e1.to s2)) len1) fun i1 x1 H3 h3 s3 g3 dd3 => ?_
      have hne : i1 ≠ p := (ne_of_none w3 h3).symm
      have hpp : H3 p = some (.lst [.ref i0]) := s3 _ _ w3
      have hn2 : i0 ≠ i1 := ne_of_none w4 h3
      refine ⟨[.ref i0], hpp, by show 1 < sizeLine; decide, same_mut (s2.trans s3) hp0, .inr (.inr ⟨rfl, i0, x0, i1, x1, w1, Same.free s2 h3, ?_, upd_same, (upd_ne w2).trans (s3 _ _ w4), Dts.tk (tk_upd hpp) _ (w5.to s3), (upd_ne hne).trans g3, Dts.tk (tk_upd hpp) _ dd3⟩)⟩
      simp only [List.nodup_cons, List.mem_cons, List.not_mem_nil, or_false, not_or]
      exact ⟨⟨w2.symm, hne.symm⟩, hn2, by simp⟩
    · omega
  · obtain ⟨s2, ⟨w, _⟩ | ⟨w, _⟩ | ⟨_, i0, x0, i1, x1, w1, w2, w3, w4, w5, w6, w7, w8⟩⟩ := w
    · cases w
    · cases w
    · exact k p i0 i1 x0 x1 H' s2 hp0 w1 w2 w3 w4 w5 w6 w7 w8
theorem el_ifE {l : L2.St} {H : Hp} {t : TT} {ta tb : TE} {b : Bool} {ds : List PyData} (h : EvT t l H b) (h1 : b = true → EvL ta l H ds) (h2 : b = false → EvL tb l H ds) : EvL (tIf t ta tb) l H ds := fun H1 e Q q => h H1 e _ fun H2 e2 => by
  cases b
  · exact h2 rfl H2 (e.trans e2) Q fun p xs H3 hp e3 g hd => q p xs H3 (Same.free e2 hp) (e2.trans e3) g hd
  · exact h1 rfl H2 (e.trans e2) Q fun p xs H3 hp e3 g hd => q p xs H3 (Same.free e2 hp) (e2.trans e3) g hd
theorem len11 {α : Type} {l : List α} (h : l.length = 11) : ∃ a b c d e f g i j k m, l = [a, b, c, d, e, f, g, i, j, k, m] := by
  match l, h with
  | [a, b, c, d, e, f, g, i, j, k, m], _ => exact ⟨_, _, _, _, _, _, _, _, _, _, _, rfl⟩
theorem sc__law_opened : FnScope ["_law_state", "_law_numbers_here", "_law_disk", "_law_due_here", "_law_maps", "_law_stamp", "_law_log", "_law_kept", "_law_images", "_law_place", "_law_logs"] ["_law_state", "_law_numbers_here"] (defScope s__law_opened) := ⟨rfl, rfl, rfl, by decide +kernel, rfl, by decide +kernel, by decide +kernel⟩
theorem d__law_opened {c : Cn} (T : Tx c) : Df c "_law_opened" 13 ["_law_state", "_law_numbers_here"] (spOpened c ) :=
  T.df 61 61 rfl rfl sc__law_opened (fun _ _ _ _ _ _ us hl => match us, hl with | [_, _], _ => rfl) (fun vs H Q E h => by obtain ⟨_, _, _, _, _, _, _, _, _, _, e, _⟩ := h; rw [e] <;> rfl) fun f cdv A outer s H vs Q E hr h => by
    refine ⟨_, (pss_cons (ps_par3 (i := 2) (j := 3) (l := 4) (by rfl) sc__law_opened.nd rfl rfl rfl (by decide) (by decide) (by decide) rfl rfl rfl (pa_cons (pe_md (d_Journal_cut T) T.c_Journal (hr.mono (by decide)) (pe_dget (hu_of hr) (pv 0) pe_str (fun _ _ => rfl)) (pa_cons (pv 1) pa_nil)) (pa_cons (pe_d (d__law_due T) (hr.mono (by decide)) (pa_cons (pv 0) (pa_cons (pv 1) pa_nil))) (pa_cons pe_dnewK pa_nil))) (by rfl))
    (pss_cons (ps_lock (ps_for PassesOwn.never rfl (pi_keys (pe_dget (hu_of hr) (pv 0) pe_str (fun _ _ => rfl))) (pg_name (i := 5) sc__law_opened.nd rfl (by first | exact Or.inl rfl | exact Or.inr rfl)) (pss_one (ps_if (pt_cmpR op_le (pv 5) (pv 3) (nomark _)) (pss_one (ps_dput (hu_of hr) (pv 4) (pv 5) (pe_dget (hu_of hr) (pe_dget (hu_of hr) (pv 0) pe_str (fun _ _ => rfl)) (pv 5) (fun _ _ => rfl)) rfl)) pss_nil))))
    (pss_cons (ps_set (i := 6) sc__law_opened.nd rfl (by first | exact Or.inl rfl | exact Or.inr rfl) (pe_ix ix_list (pe_dget (hu_of hr) (pv 0) pe_str (fun _ _ => rfl)) (pe_ix ix_tup (pv 1) pe_int (fun _ _ => rfl)) (fun _ _ => rfl)))
    (pss_cons (ps_set (i := 7) sc__law_opened.nd rfl (by first | exact Or.inl rfl | exact Or.inr rfl) (pe_ifExp (pt_cmpR op_gt (pe_ix ix_tup (pv 6) pe_int (fun _ _ => rfl)) (pe_d (d__law_base T) (hr.mono (by decide)) (pa_cons (pv 0) (pa_cons (pv 1) pa_nil))) (nomark _)) (pe_tup (pa_cons (pe_ix ix_tup (pv 6) pe_int (fun _ _ => rfl)) (pa_cons (pe_ix ix_tup (pv 6) pe_int (fun _ _ => rfl)) (pa_cons (pe_ix ix_tup (pv 6) pe_int (fun _ _ => rfl)) pa_nil)))) (pe_tup (pa_cons pe_int (pa_cons pe_int (pa_cons pe_int pa_nil))))))
    (pss_cons (ps_setLc (i := 8) (own := [("_law_place", 9)]) (by rfl) sc__law_opened.nd rfl rfl (sw_true rfl rfl rfl (by decide +kernel)) (pi_range1 (by rfl) T.n_range (pa_cons pe_int pa_nil)) (blkOk_by (own := [("_law_place", 9)]) (N := ["_law_state", "_law_numbers_here", "_law_disk", "_law_due_here", "_law_maps", "_law_stamp", "_law_log", "_law_kept", "_law_images", "_law_place", "_law_logs"]) (sc := defScope s__law_opened) (by decide +kernel)) (fun _ _ _ _ _ => (pg_name (i := 9) sc__law_opened.nd rfl (by first | exact Or.inl rfl | exact Or.inr rfl))) (fun _ _ _ _ _ => pts_nil) (fun _ _ _ _ _ => (pe_lst (pa_cons (pe_ix (ix_listK c.K) (pe_ix (ix_listK c.K) (pe_dget (hu_of hr) (pv 0) pe_str (fun _ _ => rfl)) (pv 9) (fun _ _ => rfl)) (pe_ix (ix_tupK c.K) (pv 1) (pv 9) (fun _ _ => rfl)) (fun _ _ => rfl)) pa_nil))))
    (pss_cons (ps_set (i := 10) sc__law_opened.nd rfl (by first | exact Or.inl rfl | exact Or.inr rfl) (pe_ifExp (pt_cmpR op_lt (pe_ix ix_tup (pv 7) pe_int (fun _ _ => rfl)) (pe_ix ix_tup (pv 6) pe_int (fun _ _ => rfl)) (nomark _)) (pe_lst (pa_cons (pv 6) (pa_cons (pv 7) pa_nil))) (pe_lst (pa_cons (pv 6) pa_nil))))
    (pss_one (ps_ret (pe_disp (pps_cons pe_str (pe_mkd (m_Journal T) (hr.mono (by decide)) (pa_cons (pv 2) pa_nil)) (pps_cons pe_str (pv 4) (pps_cons pe_str (pv 8) (pps_cons pe_str (pv 10) (pps_cons pe_str pe_non pps_nil))))) (by rfl) (by rfl) (fun z => by cases z) (by decide)))))))))), ?_⟩
    obtain ⟨st, M, S, dw, ks, v, r0, r1, rl, d, rfl, hv, ⟨P, hS⟩, hq, k⟩ := h
    have L : Loc H [none, some (natsD ks), none, none, none, none, none, none, none, none, none] (L2.start ["_law_state", "_law_numbers_here", "_law_disk", "_law_due_here", "_law_maps", "_law_stamp", "_law_log", "_law_kept", "_law_images", "_law_place", "_law_logs"] [V.ref st, v]) := ⟨_, _, rfl, _, _, rfl, hv, _, _, rfl, _, _, rfl, _, _, rfl, _, _, rfl, _, _, rfl, _, _, rfl, _, _, rfl, _, _, rfl, _, _, rfl, trivial⟩
    have hdat : PyData.tuple ((cutF S.J.F ks).map octD) = d.dat := by rw [hq.cut]; rfl
    refine p_qpar3 (p_cons (p_ev (d := d.dat) ((ev_jl hS.j (vv_getK (vv_at rfl) (.inl hS.st) hS.kj) ks (ea_1 (ev_v L rfl)) ⟨hq.f3, hq.num⟩).is hdat) fun v2 H1 e1 h2 => ?_))
    refine p_cons (p_ev (d := .int (d.stamp : Nat)) ((ev_due (H := H1) ⟨P, hS.to e1⟩ (vv_at rfl) (ev_v (L.to e1) rfl) hq.look).is (by show PyData.int _ = _; rw [hq.due])) fun v3 H2 e2 h3 => ?_)
    obtain rfl : v3 = .int (d.stamp : Nat) := h3
    refine p_cons fun m2 hm2 => p_nil ⟨_, _, _, rfl, ?_⟩
    have en : Same H2 (upd H2 m2 (.dK [])) := same_new hm2
    have hS3 := ((hS.to e1).to e2).to en
    have hmM : m2 ∉ M := fun m => by
      obtain ⟨o, ho⟩ := (hS.to (e1.trans e2)).has m2 m
      rw [hm2] at ho
      cases ho
    refine r_copy hS3 upd_same hmM rfl rfl rfl (show 5 < 11 by decide) hq.ms hq.big fun l4 H4 f4 hms4 hl4 hll4 => ?_
    obtain ⟨x0, x1, x2, x3, x4, x5, x6, x7, x8, x9, x10, rfl⟩ := len11 (l := l4) hll4
    obtain rfl : x0 = some (.ref st) := Option.some.inj (hl4 0 (by decide))
    obtain rfl : x1 = some v := Option.some.inj (hl4 1 (by decide))
    obtain rfl : x2 = some v2 := Option.some.inj (hl4 2 (by decide))
    obtain rfl : x3 = some (.int (d.stamp : Nat)) := Option.some.inj (hl4 3 (by decide))
    obtain rfl : x4 = some (.ref m2) := Option.some.inj (hl4 4 (by decide))
    obtain rfl : x6 = none := Option.some.inj (hl4 6 (by decide))
    obtain rfl : x7 = none := Option.some.inj (hl4 7 (by decide))
    obtain rfl : x8 = none := Option.some.inj (hl4 8 (by decide))
    obtain rfl : x9 = none := Option.some.inj (hl4 9 (by decide))
    obtain rfl : x10 = none := Option.some.inj (hl4 10 (by decide))
    have e02 := (e1.trans e2).trans en
    have hz4 : Fz (upd H2 m2 (.dK [])) H4 := f4.fz fun a m o xs e => by
      rw [List.mem_singleton.mp m, upd_same] at e
      cases e
    have hS4 : StR c H4 M st S dw P := hS3.out (fun a m o ho => f4.keep a o ho fun q => hmM (List.mem_singleton.mp q ▸ m)) f4.tk hz4
    have hv4 : Dt H4 (natsD ks) v := Dt.tk f4.tk _ (hv.to e02)
    have h24 : Dt H4 d.dat v2 := Dt.tk f4.tk _ ((h2.to e2).to en)
    have L4 : Loc H4 [none, some (natsD ks), some d.dat, some (.int (d.stamp : Nat)), none, none, none, none, none, none, none] [some (V.ref st), some v, some v2, some (.int (d.stamp : Nat)), some (.ref m2), x5, none, none, none, none, none] := ⟨_, _, rfl, _, _, rfl, hv4, _, _, rfl, h24, _, _, rfl, rfl, _, _, rfl, _, _, rfl, _, _, rfl, _, _, rfl, _, _, rfl, _, _, rfl, _, _, rfl, trivial⟩
    obtain ⟨k0, k1, k2, rfl, g0, g1, g2⟩ := hq.look
    have hn : ∀ {l : L2.St} {H' : Hp} {i : Nat} {x : Nat}, l[1]? = some (some v) → Dt H' (natsD [k0, k1, k2]) v → ([k0, k1, k2] : List Nat)[i]? = some x → ∀ K, Ev (tOp (rIxT K) (tVar 1) (tC (.int (i : Nat)))) l H' (.int (x : Nat)) := fun hl hd hx K => ev_ix (ds := [k0, k1, k2].map fun k => PyData.int (k : Nat)) (ev_at (d := natsD [k0, k1, k2]) hl hd) ev_int (atI_nat (by rw [List.getElem?_map, hx]; rfl))
    refine q_asg (d := logD rl) (ev_ixL (ds := S.lg.map logD) (vv_getK (vv_at rfl) (.inl hS4.st) hS4.kg) hS4.lg hS4.dl (hn (i := 2) rfl hv4 rfl _) (atI_nat (by rw [List.getElem?_map, g2]; rfl))) L4 fun v6 H5 e5 h6 L5 => ?_
    have hS5 := hS4.to e5
    have hl5 : ∀ {i : Int} {x : Nat}, atI [PyData.int (rl.1 : Nat), .int (rl.2.1 : Nat), .int (rl.2.2 : Nat)] i = some (.int (x : Nat)) → Ev (tOp (rIxT c.K) (tVar 6) (tC (.int i))) _ H5 (.int (x : Nat)) := fun hx => ev_ix (ds := [.int (rl.1 : Nat), .int (rl.2.1 : Nat), .int (rl.2.2 : Nat)]) (ev_v L5 rfl) ev_int hx
    refine q_asg (d := logD (keptR d.base.2.1 rl)) (ev_if (b := decide (d.base.2.1 < rl.1)) (et_of ((ev_B0 (hl5 (i := 0) (x := rl.1) rfl) (ev_due (res := fun r0 r1 _ => .int (baseI r0 r1)) ⟨P, hS5⟩ (vv_at rfl) (ev_v L5 rfl) hq.look)).is (by congr 1; exact decide_eq_decide.mpr (by rw [hq.base]; omega)))) (fun hb => (ev_tup (ea_3 (hl5 (i := 0) (x := rl.1) rfl) (hl5 (i := 1) (x := rl.2.1) rfl) (hl5 (i := 1) (x := rl.2.1) rfl)) len3).is (by unfold keptR; rw [if_pos (of_decide_eq_true hb)]; rfl)) (fun hb => (ev_tup (ea_3 (ev_int (i := 0)) (ev_int (i := 0)) (ev_int (i := 0))) len3).is (by unfold keptR; rw [if_neg (of_decide_eq_false hb)]; rfl))) L5 fun v7 H6 e6 h7 L6 => ?_
    have hS6 := hS5.to e6
    have hv6 : Dt H6 (natsD [k0, k1, k2]) v := (hv4.to e5).to e6
    refine p_qasg (r_two (d0 := rowD r0) (d1 := rowD r1) (fun _ => rfl) (ev_ixL (ds := S.im0.map rowD) (vv_ix (i := 0) (vv_getK (vv_at rfl) (.inl hS6.st) hS6.ki) hS6.ia (ev_at (d := .int 0) rfl rfl) rfl) hS6.i0 hS6.d0 (ev_ix (ds := [k0, k1, k2].map fun k => PyData.int (k : Nat)) (i := (0 : Nat)) (d := .int (k0 : Nat)) (ev_at (d := natsD [k0, k1, k2]) rfl hv6) (ev_at (d := .int 0) rfl rfl) rfl) (atI_nat (by rw [List.getElem?_map, g0]; rfl))) (ev_ixL (ds := S.im1.map rowD) (vv_ix (i := 1) (vv_getK (vv_at rfl) (.inl hS6.st) hS6.ki) hS6.ia (ev_at (d := .int 1) rfl rfl) rfl) hS6.i1 hS6.d1 (ev_ix (ds := [k0, k1, k2].map fun k => PyData.int (k : Nat)) (i := (1 : Nat)) (d := .int (k1 : Nat)) (ev_at (d := natsD [k0, k1, k2]) rfl hv6) (ev_at (d := .int 1) rfl rfl) rfl) (atI_nat (by rw [List.getElem?_map, g1]; rfl))) fun ia i0 i1 y0 y1 H7 e7 hia hi0 hi1 nd7 gia gi0 dd0 gi1 dd1 => ?_)
    have h67 : Dt H7 (logD rl) v6 := (h6.to e6).to e7
    have h77 : Dt H7 (logD (keptR d.base.2.1 rl)) v7 := h7.to e7
    refine p_qasg (p_el (ds := (openLogs d.base.2.1 rl).map logD) (el_ifE (b := decide ((keptR d.base.2.1 rl).2.2 < rl.2.2)) (et_of ((ev_B0 (ev_ix (ds := [.int ((keptR d.base.2.1 rl).1 : Nat), .int ((keptR d.base.2.1 rl).2.1 : Nat), .int ((keptR d.base.2.1 rl).2.2 : Nat)]) (i := 2) (ev_at (d := logD (keptR d.base.2.1 rl)) rfl h77) ev_int rfl) (ev_ix (ds := [.int (rl.1 : Nat), .int (rl.2.1 : Nat), .int (rl.2.2 : Nat)]) (i := 2) (ev_at (d := logD rl) rfl h67) ev_int rfl)).is (by congr 1; exact decide_eq_decide.mpr (by omega)))) (fun hb => by
      rw [show (openLogs d.base.2.1 rl).map logD = [logD rl, logD (keptR d.base.2.1 rl)] by unfold openLogs; rw [if_pos (of_decide_eq_true hb)]; rfl]
      exact el_lst (ea_2 (ev_at rfl h67) (ev_at rfl h77)) len2) (fun hb => by
      rw [show (openLogs d.base.2.1 rl).map logD = [logD rl] by unfold openLogs; rw [if_neg (of_decide_eq_false hb)]; rfl]
      exact el_lst (ea_1 (ev_at rfl h67)) len1)) fun lg xl H8 hlg e8 glg dlg => ?_)
    refine p_ret (p_disp fun p hp => ?_)
    refine p_vv (vv_c (v := .str "journal")) fun H9 e9 => ?_
    have en8 : Same H8 (upd H8 p (.dK [])) := same_new hp
    have e49 := ((((e5.trans e6).trans e7).trans e8).trans en8).trans e9
    refine r_journal (d := d) (ev_at (v := v2) rfl (h24.to e49)) hq.op fun j Mj H10 w hm hj e10 hMj => ?_
    refine p_vv (vv_c (v := .str "maps")) fun H11 e11 => p_at (v := .ref m2) rfl ?_
    refine p_vv (vv_c (v := .str "images")) fun H12 e12 => p_at (v := .ref ia) rfl (p_vv (vv_c (v := .str "logs")) fun H13 e13 => p_at (v := .ref lg) rfl (p_vv (vv_c (v := .str "drawn")) fun H14 e14 => p_vv (vv_c (v := .non)) fun H15 e15 => ?_))
    have eU := ((((e11.trans e12).trans e13).trans e14).trans e15)
    have e9U := e10.trans eU
    have e8U := (en8.trans e9).trans e9U
    refine ⟨e9U _ _ (e9 _ _ upd_same), stKvs j m2 ia lg, rfl, by show 5 ≤ 15; decide, ?_⟩
    have e4U := e49.trans e9U
    obtain ⟨mk4, gm4, _⟩ := id hms4
    have e46 := e5.trans e6
    have dom4 : ∀ a, H4 a = none → H a = none := fun a q => Same.free e02 (f4.dom a q)
    have gm6 := e46 _ _ gm4
    have gm8 := e8 _ _ (e7 _ _ gm6)
    have npm : p ≠ m2 := (ne_of_none gm8 hp).symm
    have npa : p ≠ ia := (ne_of_none (e8 _ _ gia) hp).symm
    have np0 : p ≠ i0 := (ne_of_none (e8 _ _ gi0) hp).symm
    have np1 : p ≠ i1 := (ne_of_none (e8 _ _ gi1) hp).symm
    have npg : p ≠ lg := (ne_of_none glg hp).symm
    have nma := ne_of_none gm6 hia
    have nm0 := ne_of_none gm6 hi0
    have nm1 := ne_of_none gm6 hi1
    have nmg := ne_of_none (e7 _ _ gm6) hlg
    have nag := ne_of_none gia hlg
    have n0g := ne_of_none gi0 hlg
    have n1g := ne_of_none gi1 hlg
    simp only [List.nodup_cons, List.mem_cons, List.not_mem_nil, or_false, not_or] at nd7
    obtain ⟨⟨na0, na1⟩, n01, _⟩ := nd7
    have mjf : ∀ {a : Addr} {o : HO}, H9 a = some o → a ∉ Mj := fun h m => by
      have := hMj _ m
      rw [h] at this
      cases this
    have e79 := (e8.trans en8).trans e9
    have hst := mk_state (c := c) (H := H15) (p := p) (j := j) (md := m2) (ia := ia) (i0 := i0) (i1 := i1) (lg := lg) (Mj := Mj) (S := LM.opened d w (S.ms.take (d.stamp + 1)) r0 r1 rl) (x0 := y0) (x1 := y1) (xl := xl) (by
      simp only [List.nodup_cons, List.mem_cons, List.not_mem_nil, or_false, not_or]
      exact ⟨⟨npm, npa, np0, np1, npg⟩, ⟨nma, nm0, nm1, nmg⟩, ⟨na0, na1, nag⟩, ⟨n01, n0g⟩, n1g, by simp⟩) (fun a m => by
      simp only [List.mem_cons, List.not_mem_nil, or_false] at m
      rcases m with m | m | m | m | m | m
      · rw [m]; exact mjf (e9 _ _ upd_same)
      · rw [m]; exact mjf (e49 _ _ gm4)
      · rw [m]; exact mjf (e79 _ _ gia)
      · rw [m]; exact mjf (e79 _ _ gi0)
      · rw [m]; exact mjf (e79 _ _ gi1)
      · rw [m]; exact mjf (e9 _ _ (en8 _ _ glg))) (e9U _ _ (e9 _ _ upd_same)) (hj.to eU) (hms4.out (fun o ho => e4U _ _ ho) (tk_same e4U) (Fz.same e4U)) (e9U _ _ (e79 _ _ gia)) (e9U _ _ (e79 _ _ gi0)) (dd0.to (e79.trans e9U)) (e9U _ _ (e79 _ _ gi1)) (dd1.to (e79.trans e9U)) (e8U _ _ glg) (dlg.to e8U)
    have hp4 : H4 p = none := Same.free ((e46.trans e7).trans e8) hp
    have hp0 : H p = none := dom4 _ hp4
    have e2U : Same H2 H15 := fun a o ho => e4U _ _ (f4.keep a o (en _ _ ho) fun q => by
      rw [List.mem_singleton.mp q, hm2] at ho
      cases ho)
    refine k p _ w _ hm ⟨_, hst⟩ (fun a o ho => ?_) fun a m => ?_
    · rw [upd_ne (ne_of_none ho hp0)]
      exact e2U _ _ ((e1.trans e2) _ _ ho)
    · rcases List.mem_cons.mp m with rfl | m
      · exact hp0
      rcases List.mem_cons.mp m with rfl | m
      · exact Same.free (e1.trans e2) hm2
      rcases List.mem_cons.mp m with rfl | m
      · exact dom4 _ (Same.free e46 hia)
      rcases List.mem_cons.mp m with rfl | m
      · exact dom4 _ (Same.free e46 hi0)
      rcases List.mem_cons.mp m with rfl | m
      · exact dom4 _ (Same.free e46 hi1)
      rcases List.mem_cons.mp m with rfl | m
      · exact dom4 _ (Same.free (e46.trans e7) hlg)
      · exact dom4 _ (Same.free e49 (hMj a m))
end Sp
set_option Elab.async false
set_option linter.all false
set_option maxRecDepth 100000
set_option maxHeartbeats 1000000
namespace Sp
open PySem PySem.Spec PyProof.Rows L2
/-- the world of the deeds -/
structure Wd (c : Cn) (H : Hp) (MG MS : List Addr) (g st ka : Addr) (ks : List Str) (n : Nat) (W : List Wr) (S : LM) : Prop where
  gen : GenAt H MG g
  keys : H ka = some (.lst (ks.map V.str))
  kg : ka ∉ MG
  km : ka ∉ MS
  dj : ∀ a ∈ MG, a ∉ MS
  kk : KsOk ks
  inv : LInv ks n W S
  oct : JOk S.J
  st : StAt c H MS st S S.J.drawn
theorem LInv.dueQ {ks : List Str} {n : Nat} {W : List Wr} {S : LM} (h : LInv ks n W S) (hk : KsOk ks) (hn : n ≤ 901) : DueQ S := by
  obtain ⟨a, b, d, e, f, g⟩ := h.lens
  obtain ⟨j1, j2⟩ := h.jms hk
  have := h.wl
  exact ⟨by rw [h.msl, h.st], j1, j2, by rw [h.st]; omega, List.length_pos_iff.mp e, List.length_pos_iff.mp f, by omega, by omega⟩
theorem LInv.setlQ {ks : List Str} {n : Nat} {W : List Wr} {S : LM} (h : LInv ks n W S) (hn : n ≤ 901) : SetlQ S S.J.drawn := by
  obtain ⟨a, b, d, e, f, g⟩ := h.lens
  exact ⟨by rw [h.msl, h.st], List.length_pos_iff.mp e, List.length_pos_iff.mp f, List.length_pos_iff.mp g, by omega, fun p s q => by
    rw [(h.dr p s q).1]
    unfold LM.place
    split <;> omega⟩
/-- one deed more: choices drawn, then the state changed -/
theorem Wd.step {c : Cn} {H H8 H' : Hp} {MG MS MS' : List Addr} {g st ka : Addr} {ks : List Str} {n n' : Nat} {W W' : List Wr} {S S' : LM} (w : Wd c H MG MS g st ka ks n W S) (f1 : Fr H MG H8 MG) (hG : GenAt H8 MG g) (f2 : Fr H8 MS H' MS') (i' : LInv ks n' W' S') (o' : JOk S'.J) (s' : StAt c H' MS' st S' S'.J.drawn) :
    Wd c H' MG MS' g st ka ks n' W' S' ∧ Fr H (MG ++ MS) H' (MG ++ MS') := by
  have ndis : ∀ a ∈ MG, a ∉ MS' := fun a m q => by
    rcases f2.sub a q with q | q
    · exact w.dj a m q
    · obtain ⟨o, e⟩ := hG.has a m
      rw [e] at q
      cases q
  have k8 : H8 ka = some (.lst (ks.map V.str)) := f1.keep _ _ w.keys w.kg
  refine ⟨⟨hG.out fun a m o ho => f2.keep a o ho fun q => w.dj a m q, f2.keep _ _ k8 w.km, w.kg, f2.apart k8 w.km, ndis, w.kk, i', o', s'⟩, fun a o ho hn => ?_, fun a m => ?_, fun a e => f1.dom a (f2.dom a e), f1.tk.trans f2.tk⟩
  · simp only [List.mem_append, not_or] at hn
    exact f2.keep a o (f1.keep a o ho hn.1) hn.2
  · rcases List.mem_append.mp m with m | m
    · exact .inl (List.mem_append_left _ m)
    · rcases f2.sub a m with q | q
      · exact .inl (List.mem_append_right _ q)
      · exact .inr (f1.dom a q)
section
variable {c : Cn} {H H' : Hp} {M : List Addr} {st : Addr} {S : LM} {dw dw' : Option (Nat × Nat)} {P : StP}
/-- a map more -/
theorem StR.addMap (h : StR c H M st S dw P) {v : V} {w : Wr} (hv : Dt H (wrD w) v) (hn : DN H v) : ∃ mk, H P.md = some (.dK mk) ∧ mk.length = S.ms.length ∧ StR c (upd H P.md (.dK (putK mk (.inl ((S.ms.length : Nat) : Int)) v))) M st { S with ms := S.ms ++ [w] } dw P ∧ Fr H M (upd H P.md (.dK (putK mk (.inl ((S.ms.length : Nat) : Int)) v))) M := by
  have hn0 := h.nd
  simp only [List.nodup_cons, List.mem_cons, List.not_mem_nil, or_false, not_or] at hn0
  obtain ⟨⟨a1, a2, a3, a4, a5⟩, ⟨b2, b3, b4, b5⟩, _⟩ := hn0
  obtain ⟨mk, m1, m2, m3⟩ := h.ms
  have hml : mk.length = S.ms.length := by
    have := congrArg List.length m2
    simpa using this
  have kt : Tk H (upd H P.md (.dK (putK mk (.inl ((S.ms.length : Nat) : Int)) v))) := tk_upd m1
  have kz : Fz H (upd H P.md (.dK (putK mk (.inl ((S.ms.length : Nat) : Int)) v))) := Fz.upd m1
  have k : ∀ a o, a ≠ P.md → H a = some o → upd H P.md (.dK (putK mk (.inl ((S.ms.length : Nat) : Int)) v)) a = some o := fun a o hne ho => (upd_ne hne).trans ho
  have hnew : valV mk (.inl ((S.ms.length : Nat) : Int) : Key) = none := valV_none_iff.mpr (by
    rw [m2]
    intro m
    obtain ⟨t, ht, e⟩ := List.mem_map.mp m
    have := List.mem_range.mp ht
    have e : ((t : Nat) : Int) = ((S.ms.length : Nat) : Int) := Sum.inl.inj e
    omega)
  have hms : MapsAt (upd H P.md (.dK (putK mk (.inl ((S.ms.length : Nat) : Int)) v))) P.md (S.ms ++ [w]) := by
    refine ⟨_, upd_same, ?_, fun t x hx => ?_⟩
    · rw [putK_new _ hnew, List.map_append, m2, List.length_append]
      show _ = (List.range (S.ms.length + 1)).map _
      rw [List.range_succ, List.map_append]
      rfl
    · by_cases ht : t < S.ms.length
      · rw [List.getElem?_append_left ht] at hx
        obtain ⟨u, g1, g2, g3⟩ := m3 t x hx
        refine ⟨u, ?_, Dt.tk kt _ g2, g3.fz kz⟩
        rw [valV_put, if_neg (fun q => by have : ((t : Nat) : Int) = ((S.ms.length : Nat) : Int) := Sum.inl.inj q; omega)]
        exact g1
      · have h3 := (List.getElem?_eq_some_iff.mp hx).1
        rw [List.length_append] at h3
        have h4 : t = S.ms.length := by have : [w].length = 1 := rfl; omega
        subst h4
        rw [List.getElem?_append_right (Nat.le_refl _), Nat.sub_self] at hx
        obtain rfl := Option.some.inj hx
        exact ⟨v, by rw [valV_put, if_pos rfl], Dt.tk kt _ hv, hn.fz kz⟩
  exact ⟨mk, m1, hml, { M := h.M, nd := h.nd, dj := h.dj, st := k _ _ a1 h.st, kl := h.kl, kj := h.kj, km := h.km, ki := h.ki, kg := h.kg, kd := h.kd, j := h.j.out' (fun a m o ho => k a o (fun e => h.dj P.md (by simp) (e ▸ m)) ho) kt kz, ms := hms, ia := k _ _ (fun e => b2 e.symm) h.ia, i0 := k _ _ (fun e => b3 e.symm) h.i0, d0 := Dts.tk kt _ h.d0, i1 := k _ _ (fun e => b4 e.symm) h.i1, d1 := Dts.tk kt _ h.d1, lg := k _ _ (fun e => b5 e.symm) h.lg, dl := Dts.tk kt _ h.dl, dd := Dt.tk kt _ h.dd }, Fr.upd (h.mem _ (by simp)) m1⟩
/-- the journal in another way -/
theorem StR.jto (h : StR c H M st S dw P) {Mj' : List Addr} {J' : JM} (hj : JAt c H' Mj' P.j J') (f : Fr H P.Mj H' Mj') : ∃ M', StR c H' M' st { S with J := J' } dw { P with Mj := Mj' } ∧ Fr H M H' M' := by
  have kt := f.tk
  have kz : Fz H H' := f.fz h.j.nofrz
  have k : ∀ a ∈ [st, P.md, P.ia, P.i0, P.i1, P.lg], ∀ o, H a = some o → H' a = some o := fun a m o ho => f.keep a o ho (h.dj a m)
  have hh := h.has
  have hm := h.mem
  have hM := h.M
  refine ⟨st :: P.md :: P.ia :: P.i0 :: P.i1 :: P.lg :: Mj', { M := rfl, nd := h.nd, dj := fun a m q => ?_, st := k _ (by simp) _ h.st, kl := h.kl, kj := h.kj, km := h.km, ki := h.ki, kg := h.kg, kd := h.kd, j := hj, ms := h.ms.out (k _ (by simp)) kt kz, ia := k _ (by simp) _ h.ia, i0 := k _ (by simp) _ h.i0, d0 := Dts.tk kt _ h.d0, i1 := k _ (by simp) _ h.i1, d1 := Dts.tk kt _ h.d1, lg := k _ (by simp) _ h.lg, dl := Dts.tk kt _ h.dl, dd := Dt.tk kt _ h.dd }, fun a o ho n => f.keep a o ho fun m => n (by rw [hM]; simp [m]), fun a m => ?_, f.dom, kt⟩
  · rcases f.sub a q with q | q
    · exact h.dj a m q
    · obtain ⟨o, ho⟩ := hh a (hm a m)
      rw [ho] at q
      cases q
  · rw [hM]
    have m' : a ∈ [st, P.md, P.ia, P.i0, P.i1, P.lg] ∨ a ∈ Mj' := List.mem_append.mp (show a ∈ [st, P.md, P.ia, P.i0, P.i1, P.lg] ++ Mj' from m)
    have e : st :: P.md :: P.ia :: P.i0 :: P.i1 :: P.lg :: P.Mj = [st, P.md, P.ia, P.i0, P.i1, P.lg] ++ P.Mj := rfl
    rw [e]
    rcases m' with m' | m'
    · exact .inl (List.mem_append_left _ m')
    · rcases f.sub a m' with q | q
      · exact .inl (List.mem_append_right _ q)
      · exact .inr q
/-- state['logs'] = a new list -/
theorem StR.newLog {H0 : Hp} (h : StR c H M st S dw P) (e0 : Same H0 H) {q : Addr} {rows : List LRow} {ys : List V} (h0 : q ∉ M) (hq : H0 q = none) (hy : H q = some (.lst ys)) (hd : Dts H (rows.map logD) ys) :
    ∃ P' M', StR c (upd H st (.dK (putK P.kvs (.inr "logs") (.ref q)))) M' st { S with lg := rows } dw P' ∧ P'.j = P.j ∧ Fr H0 M (upd H st (.dK (putK P.kvs (.inr "logs") (.ref q)))) M' := by
  have hn := h.nd
  simp only [List.nodup_cons, List.mem_cons, List.not_mem_nil, or_false, not_or] at hn
  obtain ⟨⟨a1, a2, a3, a4, a5⟩, ⟨b2, b3, b4, b5⟩, ⟨c3, c4, c5⟩, ⟨d4, d5⟩, e5, _⟩ := hn
  have kt : Tk H (upd H st (.dK (putK P.kvs (.inr "logs") (.ref q)))) := tk_upd h.st
  have kz : Fz H (upd H st (.dK (putK P.kvs (.inr "logs") (.ref q)))) := Fz.upd h.st
  have k : ∀ a o, a ≠ st → H a = some o → upd H st (.dK (putK P.kvs (.inr "logs") (.ref q))) a = some o := fun a o hne ho => (upd_ne hne).trans ho
  have hqn : ∀ a ∈ [st, P.md, P.ia, P.i0, P.i1, P.lg], a ≠ q := fun a m e => h0 (e ▸ h.mem a m)
  have q0 : st ≠ q := hqn st (by simp)
  have q1 : P.md ≠ q := hqn P.md (by simp)
  have q2 : P.ia ≠ q := hqn P.ia (by simp)
  have q3 : P.i0 ≠ q := hqn P.i0 (by simp)
  have q4 : P.i1 ≠ q := hqn P.i1 (by simp)
  have qj : q ∉ P.Mj := fun m => h0 (by rw [h.M]; simp [m])
  have kv : ∀ x : Str, x ≠ "logs" → valV (putK P.kvs (.inr "logs" : Key) (.ref q)) (.inr x : Key) = valV P.kvs (.inr x) := fun x hx => by
    rw [valV_put, if_neg (fun e => hx (Sum.inr.inj e))]
  have hmem : (Sum.inr "logs" : Key) ∈ P.kvs.map (·.1) := by
    by_cases m : (Sum.inr "logs" : Key) ∈ P.kvs.map (·.1)
    · exact m
    · have := valV_none_iff.mpr m
      rw [h.kg] at this
      cases this
  have hnd : [st, P.md, P.ia, P.i0, P.i1, q].Nodup := by
    simp only [List.nodup_cons, List.mem_cons, List.not_mem_nil, or_false, not_or]
    exact ⟨⟨a1, a2, a3, a4, q0⟩, ⟨b2, b3, b4, q1⟩, ⟨c3, c4, q2⟩, ⟨d4, q3⟩, q4, by simp⟩
  have hdj : ∀ a ∈ [st, P.md, P.ia, P.i0, P.i1, q], a ∉ P.Mj := fun a m => by
    simp only [List.mem_cons, List.not_mem_nil, or_false] at m
    rcases m with m | m | m | m | m | m
    · rw [m]; exact h.dj _ (by simp)
    · rw [m]; exact h.dj _ (by simp)
    · rw [m]; exact h.dj _ (by simp)
    · rw [m]; exact h.dj _ (by simp)
    · rw [m]; exact h.dj _ (by simp)
    · rw [m]; exact qj
  have hkl : (putK P.kvs (.inr "logs" : Key) (V.ref q)).length ≤ 20 := by
    have := congrArg List.length (putK_keys (V.ref q) hmem)
    rw [List.length_map, List.length_map] at this
    rw [this]
    exact h.kl
  have hM := h.M
  refine ⟨{ P with kvs := putK P.kvs (.inr "logs") (.ref q), lg := q, xl := ys }, st :: P.md :: P.ia :: P.i0 :: P.i1 :: q :: P.Mj, { M := rfl, nd := hnd, dj := hdj, st := upd_same, kl := hkl, kj := (kv _ (by decide +kernel)).trans h.kj, km := (kv _ (by decide +kernel)).trans h.km, ki := (kv _ (by decide +kernel)).trans h.ki, kg := by rw [valV_put, if_pos rfl], kd := (kv _ (by decide +kernel)).trans h.kd, j := h.j.out' (fun a m o ho => k a o (fun e => h.dj st (by simp) (e ▸ m)) ho) kt kz, ms := h.ms.out (fun o ho => k _ _ (fun e => a1 e.symm) ho) kt kz, ia := k _ _ (fun e => a2 e.symm) h.ia, i0 := k _ _ (fun e => a3 e.symm) h.i0, d0 := Dts.tk kt _ h.d0, i1 := k _ _ (fun e => a4 e.symm) h.i1, d1 := Dts.tk kt _ h.d1, lg := k _ _ q0.symm hy, dl := Dts.tk kt _ hd, dd := Dt.tk kt _ h.dd }, rfl, ?_⟩
  have f := (Fr.same (M := M) e0).trans (Fr.upd (u := .dK (putK P.kvs (.inr "logs") (.ref q))) (h.mem st (by simp)) h.st)
  refine ⟨f.keep, fun a m => ?_, f.dom, f.tk⟩
  rw [hM]
  simp only [List.mem_cons] at m ⊢
  rcases m with m | m | m | m | m | m | m
  · exact .inl (.inl m)
  · exact .inl (.inr (.inl m))
  · exact .inl (.inr (.inr (.inl m)))
  · exact .inl (.inr (.inr (.inr (.inl m))))
  · exact .inl (.inr (.inr (.inr (.inr (.inl m)))))
  · exact .inr (m ▸ hq)
  · exact .inl (.inr (.inr (.inr (.inr (.inr (.inr m))))))
theorem vv_getI {l : L2.St} {ta tb : TE} {a : Addr} {kvs : List (Key × V)} {i : Int} {v : V} (ha : EvV ta l H (.ref a)) (hb : Ev tb l H (.int i)) (h : Rd H a (.dK kvs)) (hv : valV kvs (.inl i : Key) = some v) : EvV (tDGet ta tb) l H v := fun H1 e Q q =>
  ha H1 e _ fun H2 e2 => hb H2 (e.trans e2) _ fun w H3 e3 h3 => ⟨a, v, rfl, .inl ⟨kvs, .inl i, rd_to ((e.trans e2).trans e3) h, h3, hv.symm⟩, q H3 (e2.trans e3)⟩
theorem ite_same {b : Bool} {X : Prop} (h : X) : if b = true then X else X := by
  cases b <;> exact h
theorem StR.jeq {H2 : Hp} {S2 : LM} {dw2 : Option (Nat × Nat)} {P2 : StP} (h : StR c H M st S dw P) (h2 : StR c H2 M st S2 dw2 P2) : P.j = P2.j := by
  have e := h.M.symm.trans h2.M
  simp only [List.cons.injEq] at e
  have e7 := e.2.2.2.2.2.2
  obtain ⟨dx, v0, ve, vw, vd, fl, Mf, q, _⟩ := h.j
  obtain ⟨dx', v0', ve', vw', vd', fl', Mf', q', _⟩ := h2.j
  rw [q, q'] at e7
  exact (List.cons.inj e7).1
end
theorem drewR_J (S : LM) : S.drewR.J = S.J := by
  unfold LM.drewR LM.setIm
  split <;> rfl
theorem settledD_J (S : LM) (dw : Option (Nat × Nat)) : (S.settledD dw).J = S.J := by
  cases dw <;> rfl
theorem settled_eq (S : LM) : S.settled = { S.settledD S.J.drawn with J := S.J.settle } := by
  unfold LM.settled LM.settledD
  cases e : S.J.drawn with
  | none =>
    have : S.J.settle = S.J := by unfold JM.settle; rw [e]
    dsimp only
    rw [this]
  | some q => rfl
theorem settled_J (S : LM) : S.settled.J = S.J.settle := by rw [settled_eq]
theorem settle_dr (J : JM) : J.settle.drawn = none := by
  unfold JM.settle
  cases e : J.drawn with
  | none => exact e
  | some q => rfl
theorem settled_dr (S : LM) : S.settled.J.drawn = none := by rw [settled_J, settle_dr]
theorem imaged_eq (S : LM) : S.drew.settled = { S.drewR.settledD (some (S.place, S.J.stamp)) with J := (S.J.draw S.place).settle } := by
  rw [settled_eq, drew_eq]
  have e : S.drewR.J.stamp = S.J.stamp := by rw [drewR_J]
  show ({ ({ S.drewR with J := S.J.draw S.place } : LM).settledR S.place S.J.stamp with J := (S.J.draw S.place).settle } : LM) = { S.drewR.settledR S.place S.J.stamp with J := (S.J.draw S.place).settle }
  unfold LM.settledR
  dsimp only
  rw [e]
  rfl
theorem LInv.pl {ks : List Str} {n : Nat} {W : List Wr} {S : LM} (h : LInv ks n W S) : ∀ p s, S.J.drawn = some (p, s) → p < 2 := fun p s q => by
  rw [(h.dr p s q).1]
  unfold LM.place
  split <;> omega
theorem LInv.setlR {ks : List Str} {n : Nat} {W : List Wr} {S : LM} (h : LInv ks n W S.drew) (hn : n ≤ 901) : SetlQ S.drewR (some (S.place, S.J.stamp)) := by
  have g := h.setlQ hn
  have e := drew_eq S
  generalize S.drew = Z at g e
  subst e
  exact ⟨by rw [drewR_J]; exact g.msl, g.n0, g.n1, g.ng, g.lg, g.pl⟩
/-- the images of the first rows -/
theorem LInv.drawQ {ks : List Str} {n : Nat} {W : List Wr} {S : LM} (h : LInv ks n W S) (hk : KsOk ks) (hn : n ≤ 1000) : ∃ a, DrawQ a S.J ∧ drawAt a.1 a.2 = S.place := by
  obtain ⟨r, rs, e, _, im, q0, i0⟩ := h.r0.first
  obtain ⟨r', rs', e', _, im', q1, i1⟩ := h.r1.first
  have h0 : S.a0 = r.1 := by unfold LM.a0; rw [e]; rfl
  have h1 : S.a1 = r'.1 := by unfold LM.a1; rw [e']; rfl
  have hwl := h.wl
  have hst := h.st
  obtain ⟨_, _, _, h4⟩ := baseOf_is h.wok i0 i1
  refine ⟨(im, im'), ⟨h.f3s hn, q0, q1, by omega, (h.jms hk).2⟩, ?_⟩
  unfold drawAt LM.place
  rw [h0, h1]
  exact h4
end Sp
set_option Elab.async false
set_option linter.all false
set_option maxRecDepth 100000
set_option maxHeartbeats 1000000
namespace Sp
open PySem PySem.Spec PyProof.Rows L2 SkE
def spDeed (c : Cn) : Sp := fun vs H Q _ => ∃ MG MS g st ka ks n W S, vs = [V.ref g, V.ref st, V.ref ka] ∧ Wd c H MG MS g st ka ks n W S ∧ n ≤ 900 ∧ ∀ n' MS' W' S' H', n' ≤ n + 2 → Wd c H' MG MS' g st ka ks n' W' S' → Fr H (MG ++ MS) H' (MG ++ MS') → Q (.bl true) H'
theorem sc__law_deed : FnScope ["_law_heap_here", "_law_state", "_law_keys_here", "_law_journal", "_law_maps", "_law_logs", "_law_here", "_law_form", "_law_pairs", "_law_size", "_law_last", "_law_at", "_law_told"] ["_law_heap_here", "_law_state", "_law_keys_here"] (defScope s__law_deed) := ⟨rfl, rfl, rfl, by decide +kernel, rfl, by decide +kernel, by decide +kernel⟩
theorem d__law_deed {c : Cn} (T : Tx c) : Df c "_law_deed" 11 ["_law_heap_here", "_law_state", "_law_keys_here"] (spDeed c ) :=
  T.df 57 57 rfl rfl sc__law_deed (fun _ _ _ _ _ _ us hl => match us, hl with | [_, _, _], _ => rfl) (fun vs H Q E h => by obtain ⟨_, _, _, _, _, _, _, _, _, e, _⟩ := h; rw [e] <;> rfl) fun f cdv A outer s H vs Q E hr h => by
    refine ⟨_, (pss_cons (ps_par3 (i := 3) (j := 4) (l := 5) (by rfl) sc__law_deed.nd rfl rfl rfl (by decide) (by decide) (by decide) rfl rfl rfl (pa_cons (pe_dget (hu_of hr) (pv 1) pe_str (fun _ _ => rfl)) (pa_cons (pe_dget (hu_of hr) (pv 1) pe_str (fun _ _ => rfl)) (pa_cons (pe_dget (hu_of hr) (pv 1) pe_str (fun _ _ => rfl)) pa_nil))) (by rfl))
    (pss_cons (ps_par (i := 6) (j := 7) (by rfl) sc__law_deed.nd rfl rfl (by decide) rfl rfl (pa_cons (pe_callB (call_maxD rfl) (by rfl) T.n_max (by decide +kernel) (pa_cons (pv 4) pa_nil)) (pa_cons (pe_d (d__law_draw T) (hr.mono (by decide)) (pa_cons (pv 0) (pa_cons pe_int pa_nil))) pa_nil)) (by rfl))
    (pss_cons (ps_if (pt_cmpR op_lt (pv 7) pe_int (nomark _)) (pss_cons (ps_set (i := 8) sc__law_deed.nd rfl (by first | exact Or.inl rfl | exact Or.inr rfl) (pe_d (d__law_writes T) (hr.mono (by decide)) (pa_cons (pv 0) (pa_cons (pv 2) pa_nil))))
    (pss_cons (ps_par (i := 9) (j := 10) (by rfl) sc__law_deed.nd rfl rfl (by decide) rfl rfl (pa_cons (pe_callB call_len_seq (by rfl) T.n_len (by decide +kernel) (pa_cons (pe_d (d_put_record T) (hr.mono (by decide)) (pa_cons (pe_op op_add (pv 6) pe_int) (pa_cons (pv 8) pa_nil))) pa_nil)) (pa_cons (pe_ix ix_list (pv 5) (pe_un un_neg pe_int) (fun _ _ => rfl)) pa_nil)) (by rfl))
    (pss_cons (ps_dput (hu_of hr) (pv 4) (pe_op op_add (pv 6) pe_int) (pe_d (d__law_map T) (hr.mono (by decide)) (pa_cons (pe_dget (hu_of hr) (pv 4) (pv 6) (fun _ _ => rfl)) (pa_cons (pv 8) pa_nil))) rfl)
    (pss_cons (ps_for PassesOwn.never rfl (pi_range2 (by rfl) T.n_range (pa_cons pe_int (pa_cons (pv 9) pa_nil))) (pg_name (i := 11) sc__law_deed.nd rfl (by first | exact Or.inl rfl | exact Or.inr rfl)) (pss_one (ps_expr (pe_bm PySem.F.plainAttrs_list PySem.F.slot_list_append PySem.F.type_list_append mt_append (pv 5) (pa_cons (pe_tup (pa_cons (pe_ix ix_tup (pv 10) pe_int (fun _ _ => rfl)) (pa_cons (pe_ix ix_tup (pv 10) pe_int (fun _ _ => rfl)) (pa_cons (pe_op op_add (pe_ix ix_tup (pv 10) pe_int (fun _ _ => rfl)) (pv 11)) pa_nil)))) pa_nil)))))
    (pss_cons (ps_expr (pe_bm PySem.F.plainAttrs_list PySem.F.slot_list_append PySem.F.type_list_append mt_append (pv 5) (pa_cons (pe_tup (pa_cons (pe_op op_add (pv 6) pe_int) (pa_cons (pe_op op_add (pe_ix ix_tup (pv 10) pe_int (fun _ _ => rfl)) (pv 9)) (pa_cons (pe_op op_add (pe_ix ix_tup (pv 10) pe_int (fun _ _ => rfl)) (pv 9)) pa_nil)))) pa_nil)))
    (pss_one (ps_ret (pe_cmpR op_eq (pe_callB call_repr_int (by rfl) T.n_repr (by decide +kernel) (pa_cons (pe_ifExp (pt_cmpR op_eq (pv 7) pe_int (nomark _)) (pe_mdk (dk_Journal_write T) T.c_Journal (hr.mono (by decide)) (pv 3) (pv 8)) (pe_md (d_Journal_write T) T.c_Journal (hr.mono (by decide)) (pv 3) (pa_cons (pv 8) pa_nil))) pa_nil)) (pe_callB call_repr_int (by rfl) T.n_repr (by decide +kernel) (pa_cons (pe_op op_add (pv 6) pe_int) pa_nil)) (nomark _))))))))) pss_nil)
    (pss_cons (ps_if (pt_cmpR op_eq (pv 7) pe_int (nomark _)) (pss_cons (ps_dput (hu_of hr) (pv 1) pe_str (pe_slice sl_list (pv 5) (po_some (pe_un un_neg pe_int)) po_none) rfl)
    (pss_one (ps_ret (pe_cmpR op_isN (pe_md0 (d_Journal_sync T) T.c_Journal (hr.mono (by decide)) (pv 3)) pe_non (nomark _))))) pss_nil)
    (pss_cons (ps_if (pt_cmpR op_ne (pv 7) pe_int (nomark _)) (pss_one (ps_expr (pe_d (d__law_draw_due T) (hr.mono (by decide)) (pa_cons (pv 1) pa_nil)))) pss_nil)
    (pss_cons (ps_if (pt_cmpR op_ne (pv 7) pe_int (nomark _)) (pss_one (ps_expr (pe_d (d__law_settle_due T) (hr.mono (by decide)) (pa_cons (pv 1) pa_nil)))) pss_nil)
    (pss_cons (ps_set (i := 12) sc__law_deed.nd rfl (by first | exact Or.inl rfl | exact Or.inr rfl) (pe_ifExp (pt_cmpR op_eq (pv 7) pe_int (nomark _)) (pe_md0 (d_Journal_draw T) T.c_Journal (hr.mono (by decide)) (pv 3)) (pe_ifExp (pt_cmpR op_eq (pv 7) pe_int (nomark _)) (pe_md0 (d_Journal_settle T) T.c_Journal (hr.mono (by decide)) (pv 3)) (pe_md0 (d_Journal_image T) T.c_Journal (hr.mono (by decide)) (pv 3)))))
    (pss_one (ps_ret (pe_cmpR op_isN (pv 12) pe_non (nomark _))))))))))), ?_⟩
    obtain ⟨MG, MS, g, st, ka, ks, n, W, S, rfl, w, hn, k⟩ := h
    obtain ⟨P, hS⟩ := w.st
    refine p_qpar3 (p_cons (p_vv (vv_getK (vv_at (v := .ref st) rfl) (.inl hS.st) hS.kj) fun H1 e1 => ?_))
    refine p_cons (p_vv (vv_getK (vv_at (v := .ref st) rfl) (.inl (hS.to e1).st) hS.km) fun H2 e2 => ?_)
    refine p_cons (p_vv (vv_getK (vv_at (v := .ref st) rfl) (.inl ((hS.to e1).to e2).st) hS.kg) fun H3 e3 => p_nil ⟨_, _, _, rfl, ?_⟩)
    have e03 := (e1.trans e2).trans e3
    have hS3 := hS.to e03
    refine p_qpar (p_cons (p_ev (ev_maxM (vv_at (v := .ref P.md) rfl) hS3.ms (by rw [w.inv.msl]; omega)) fun v6 H4 e4 h6 => ?_))
    obtain rfl : v6 = .int ((S.ms.length - 1 : Nat) : Int) := h6
    have hG4 := (w.gen.to e03).to e4
    refine r_draw (k := 9) rfl (ev_int (i := 9)) (by decide) (by decide) hG4 fun form H5 hform hG5 f5 => p_nil ⟨_, _, rfl, ?_⟩
    have hS4 := hS3.to e4
    have hS5 : StR c H5 MS st S S.J.drawn P := hS4.out (fun a m o ho => f5.keep a o ho fun q => w.dj a q m) f5.tk (f5.fz hG4.nofrz)
    have hka5 : H5 ka = some (.lst (ks.map V.str)) := f5.keep _ _ (e4 _ _ (e03 _ _ w.keys)) w.kg
    have hnow : S.ms.length - 1 = W.length := by rw [w.inv.msl]; omega
    rw [hnow]
    refine p_qif (p_et (b := decide (form < 5)) (et_of ((ev_B0 (ev_at (d := .int (form : Nat)) rfl rfl) (ev_int (i := 5))).is (by congr 1; exact decide_eq_decide.mpr (by omega)))) fun H6 e6 => ?_)
    have f6 : Fr H MG H6 MG := (Fr.of (e03.trans e4) f5).to e6
    have hS6 := hS5.to e6
    have hG6 := hG5.to e6
    have hka6 := e6 _ _ hka5
    have hst := w.inv.st
    have hwl := w.inv.wl
    have hmsl := w.inv.msl
    have hl3 := w.inv.f3
    obtain ⟨j1, j2⟩ := w.inv.jms w.kk
    obtain ⟨hlast, _⟩ := w.inv.last_is
    obtain ⟨hn0, hn1, hn2, _⟩ := w.inv.lens
    by_cases hf5 : form < 5
    · rw [decide_eq_true hf5, if_pos rfl]
      refine p_qasg (p_call (p_cons (p_at (v := .ref g) rfl (p_cons (p_at (v := .ref ka) rfl (p_nil ?_))))))
      refine ⟨g, MG, ka, ks, rfl, hG6, hka6, w.kg, w.kk.nd, w.kk.len, w.kk.ok, fun wr v8 H8 hwr hmem hd8 hG8 f8 => ?_⟩
      have hS8 : StR c H8 MS st S S.J.drawn P := hS6.out (fun a m o ho => f8.keep a o ho fun q => w.dj a q m) f8.tk (f8.fz hG6.nofrz)
      have f08 := f6.trans f8
      have hpos := rec_pos (W.length + 1) wr
      have hsz := rec_len (s := W.length + 1) (w := wr) (by omega) hwr
      refine p_qpar (p_cons (p_ev (d := .int ((rec_ (W.length + 1) wr).length : Nat)) ((ev_len (ds := (rec_ (W.length + 1) wr).map .int) (ev_F (W.length + 1, wr) (ea_2 ((ev_I0 (ev_at (d := .int (W.length : Nat)) rfl rfl) (ev_int (i := 1))).is rfl) (ev_at (v := v8) rfl hd8)) ⟨by show W.length + 1 < 1000000; omega, hwr⟩)).is (by rw [List.length_map])) fun v9 H9 e9 h9 => ?_))
      obtain rfl : v9 = .int ((rec_ (W.length + 1) wr).length : Nat) := h9
      refine p_cons (p_ev (d := logD S.last) (ev_ixL (ds := S.lg.map logD) (i := -1) (vv_at rfl) (hS8.to e9).lg (hS8.to e9).dl ((ev_U (ev_int (i := 1))).is rfl) (atI_last (by rw [List.getLast?_map, hlast]; rfl))) fun v10 H10 e10 h10 => p_nil ⟨_, _, rfl, ?_⟩)
      have hS10 := (hS8.to e9).to e10
      have hd10 := (hd8.to e9).to e10
      obtain ⟨mk, m1, m2, m3⟩ := hS10.ms
      obtain ⟨v0, g1, g2, g3⟩ := m3 _ _ j1
      rw [hst] at g1
      refine p_seq (p_dput (p_call (p_cons (p_vv (vv_getI (i := ((W.length : Nat) : Int)) (vv_at (v := .ref P.md) rfl) (ev_at (d := .int (W.length : Nat)) rfl rfl) (.inl m1) g1) fun H11 e11 => p_cons (p_at (v := v8) rfl (p_nil ?_))))))
      have hjk : ∀ p ∈ S.J.w, p.1 ∈ ks := (w.inv.jw.ok w.kk (Fm.isIn w.inv.wok _)).2.2
      have hkl := w.kk.len
      refine ⟨S.J.w, wr, ks, v0, v8, rfl, g2.to e11, g3.to e11, hd10.to e11, by omega, fun p hp => (List.mem_append.mp hp).elim (hjk p) (hmem p), fun v12 H12 m' e12 hm' hd12 hn12 => ?_⟩
      refine p_at (v := .ref P.md) rfl (p_ev (d := .int ((W.length + 1 : Nat) : Int)) ((ev_I0 (ev_at (d := .int (W.length : Nat)) rfl rfl) (ev_int (i := 1))).is rfl) fun v13 H13 e13 h13 => ?_)
      obtain rfl : v13 = .int ((W.length + 1 : Nat) : Int) := h13
      have e1013 := (e11.trans e12).trans e13
      obtain ⟨mk', hmk', hml', hS14, f14⟩ := (hS10.to e1013).addMap (hd12.to e13) (hn12.to e13)
      rw [hmsl] at hS14 f14
      refine ⟨P.md, _, rfl, .inl ⟨mk', .inl ((W.length + 1 : Nat) : Int), hmk', rfl, Nat.lt_of_lt_of_le (show mk'.length < 100000 by omega) (by decide), rfl⟩, ?_⟩
      have hL14 : Loc H10 [none, none, none, none, none, none, some (.int (W.length : Nat)), some (.int (form : Nat)), some (wrD wr), some (.int ((rec_ (W.length + 1) wr).length : Nat)), some (logD S.last), none, none] (((((((((L2.start ["_law_heap_here", "_law_state", "_law_keys_here", "_law_journal", "_law_maps", "_law_logs", "_law_here", "_law_form", "_law_pairs", "_law_size", "_law_last", "_law_at", "_law_told"] [V.ref g, V.ref st, V.ref ka]).set 3 (some (.ref P.j))).set 4 (some (.ref P.md))).set 5 (some (.ref P.lg))).set 6 (some (.int (W.length : Nat)))).set 7 (some (.int (form : Nat)))).set 8 (some v8)).set 9 (some (.int ((rec_ (W.length + 1) wr).length : Nat)))).set 10 (some v10)) := ⟨_, _, rfl, _, _, rfl, _, _, rfl, _, _, rfl, _, _, rfl, _, _, rfl, _, _, rfl, rfl, _, _, rfl, rfl, _, _, rfl, hd10, _, _, rfl, rfl, _, _, rfl, h10, _, _, rfl, _, _, rfl, trivial⟩
      have L14 := (hL14.to e1013).tk f14.tk
      have hG14 := ((hG8.to (e9.trans e10)).to e1013).out fun a m o ho => f14.keep a o ho fun q => w.dj a m q
      have f814 := (Fr.same (M := MS) ((e9.trans e10).trans e1013)).trans f14
      dsimp only
      generalize hU : upd H13 P.md (.dK (putK mk' (.inl ((W.length + 1 : Nat) : Int)) v12)) = H14 at *
      generalize hsz0 : (rec_ (W.length + 1) wr).length = size at *
      have st14 : RowSt H14 P.lg logD S.lg H14 := ⟨Fr.refl _ _, _, hS14.lg, hS14.dl⟩
      have hix : ∀ {H' : Hp} {l' : List (Option V)} {i : Nat} {x : Nat}, Loc H' [none, none, none, none, none, none, some (.int (W.length : Nat)), some (.int (form : Nat)), some (wrD wr), some (.int (size : Nat)), some (logD S.last), none, none] l' → ([S.last.1, S.last.2.1, S.last.2.2] : List Nat)[i]? = some x → Ev (tOp (rIxT c.K) (tVar 10) (tC (.int (i : Nat)))) l' H' (.int (x : Nat)) := fun L' hx => ev_ix (ds := ([S.last.1, S.last.2.1, S.last.2.2] : List Nat).map fun k => PyData.int (k : Nat)) (ev_v (d := logD S.last) L' rfl) ev_int (atI_nat (by rw [List.getElem?_map, hx]; rfl))
      refine q_forR2 (lo := 1) (hi := size) (ev_int (i := 1)) (ev_v L14 rfl) (by omega) (by decide) (fun j l' H' => RowSt H14 P.lg logD (S.lg ++ (List.range j).map fun j => (S.last.1, S.last.2.1, S.last.2.2 + (j + 1))) H' ∧ l'[3]? = some (some (.ref P.j)) ∧ l'[5]? = some (some (.ref P.lg)) ∧ Loc H' [none, none, none, none, none, none, some (.int (W.length : Nat)), some (.int (form : Nat)), some (wrD wr), some (.int (size : Nat)), some (logD S.last), none, none] l') (fun H15 e15 => ⟨by
        have := st14.to e15
        simpa using this, rfl, rfl, L14.to e15⟩) ?_ ?_
      · rintro j l' H' hj ⟨hr', l3, l5, L'⟩
        have L7 := Loc.set (d := .int ((1 + j : Nat) : Int)) (v := .int ((1 + j : Nat) : Int)) rfl 11 L'
        have L7' : Loc H' [none, none, none, none, none, none, some (.int (W.length : Nat)), some (.int (form : Nat)), some (wrD wr), some (.int (size : Nat)), some (logD S.last), none, none] (l'.set 11 (some (.int ((1 + j : Nat) : Int)))) := L7.wk 11
        refine row_app (x := ((S.last.1, S.last.2.1, S.last.2.2 + (j + 1)) : LRow)) (n := 5) hr' (vv_at (by rw [List.getElem?_set_ne (by decide)]; exact l5)) ((ev_tup (ea_3 (hix (i := 0) L7' rfl) (hix (i := 1) L7' rfl) (ev_I0 (hix (i := 2) L7' rfl) (ev_v (d := .int ((1 + j : Nat) : Int)) L7 rfl))) len3).is (by
          unfold logD
          dsimp only
          rw [show ((S.last.2.2 : Nat) : Int) + ((1 + j : Nat) : Int) = ((S.last.2.2 + (j + 1) : Nat) : Int) by omega])) (by rw [List.length_append, List.length_map, List.length_range]; omega) fun H8 h8 kt => ⟨?_, by rw [List.getElem?_set_ne (by decide)]; exact l3, by rw [List.getElem?_set_ne (by decide)]; exact l5, L7'.tk kt⟩
        rw [List.range_succ, List.map_append, ← List.append_assoc]
        exact h8
      · rintro l' H' ⟨hr', l3, l5, L'⟩
        refine p_seq (row_app (x := ((W.length + 1, S.last.2.2 + size, S.last.2.2 + size) : LRow)) (n := 5) hr' (vv_at l5) ((ev_tup (ea_3 (ev_I0 (ev_v (d := .int (W.length : Nat)) L' rfl) (ev_int (i := 1))) (ev_I0 (hix (i := 2) L' rfl) (ev_v (d := .int (size : Nat)) L' rfl)) (ev_I0 (hix (i := 2) L' rfl) (ev_v (d := .int (size : Nat)) L' rfl))) len3).is rfl) (by rw [List.length_append, List.length_map, List.length_range]; omega) fun H15 h15 kt => ?_)
        have hrows : S.lg ++ ((List.range (size - 1)).map fun j => (S.last.1, S.last.2.1, S.last.2.2 + (j + 1))) ++ [(W.length + 1, S.last.2.2 + size, S.last.2.2 + size)] = S.lg ++ logRows S.last (W.length + 1) size := by
          unfold logRows
          rw [List.append_assoc]
        rw [hrows] at h15
        obtain ⟨f15, ys15, hy15, hd15⟩ := h15
        have hS15 := hS14.setLog f15 hy15 hd15
        have L15 := L'.tk kt
        dsimp only
        refine p_ret (p_op (p_cb (p_cons (p_tif (p_et (b := decide (form = 0)) (et_of ((ev_eqI (ev_v (d := .int (form : Nat)) L15 rfl) (ev_int (i := 0))).is (by congr 1; exact decide_eq_decide.mpr (by omega)))) fun H16 e16 => ite_same ?_)))))
        have hS16 := hS15.to e16
        have L16 := L15.to e16
        refine hS16.j.meth (vv_at l3) (ea_1 (ev_v (n := 8) (d := wrD wr) L16 rfl)) fun vs17 H17 e17 hvs17 => ?_
        have hS17 := hS16.to e17
        refine ⟨(wr, ks), P.j, P.Mj, S.J, vs17, rfl, hvs17, hS17.j, ⟨w.inv.f3s (by omega), by omega, hwr, j2.len, (by show ks.length < 64; omega), fun p hp => (List.mem_append.mp hp).elim (hjk p) (hmem p)⟩, fun v18 H18 M18 J18 hJ18 hd18 hjat18 f18 => ?_⟩
        obtain ⟨w', hw', rfl⟩ := hJ18
        obtain rfl : v18 = .int ((S.J.stamp + 1 : Nat) : Int) := hd18
        refine p_nil ⟨((S.J.stamp + 1 : Nat) : Int), rfl, Nat.lt_trans (natlog ⟨by omega, by omega⟩) (by decide), ?_⟩
        obtain ⟨M19, hS18, f19⟩ := hS17.jto hjat18 f18
        have L18 := (L16.to e17).tk f18.tk
        refine p_cb (p_cons (p_ev (d := .int ((W.length + 1 : Nat) : Int)) ((ev_I0 (ev_v (d := .int (W.length : Nat)) L18 rfl) (ev_int (i := 1))).is rfl) fun v20 H20 e20 h20 => p_nil ⟨((W.length + 1 : Nat) : Int), by rw [show v20 = .int ((W.length + 1 : Nat) : Int) from h20], Nat.lt_trans (natlog ⟨by omega, by omega⟩) (by decide), rfl, ?_⟩))
        rw [hst, decide_eq_true rfl]
        have hS20 := hS18.to e20
        have eW : S.wrote wr w' m' = { S with ms := S.ms ++ [m'], lg := S.lg ++ logRows S.last (W.length + 1) size, J := S.J.wrote wr w' } := by
          unfold LM.wrote
          rw [hst, hsz0]
        have eF := Fm_next (w := wr) w.inv.wok w.inv.jw
        rw [eF] at hw' hm'
        have hin := w.inv.wrote (by omega) hwr hmem hw' hm'
        have f820 : Fr H8 MS H20 M19 := (((f814.trans (fr_weak f15 (hS14.mem _ (by simp)))).to (e16.trans e17)).trans f19).to e20
        have hfin := w.step (n' := n + 1) (W' := W ++ [wr]) (S' := S.wrote wr w' m') f08 hG8 f820 hin (w.oct.wrote hl3 (by omega) hwr) ⟨_, by rw [eW]; exact hS20⟩
        exact k (n + 1) M19 (W ++ [wr]) (S.wrote wr w' m') H20 (by omega) hfin.1 hfin.2
    · rw [decide_eq_false hf5, if_neg (by decide)]
      refine p_qif (p_et (b := decide (form = 5)) (et_of ((ev_eqI (ev_at (d := .int (form : Nat)) rfl rfl) (ev_int (i := 5))).is (by congr 1; exact decide_eq_decide.mpr (by omega)))) fun H7 e7 => ?_)
      have hS7 := hS6.to e7
      have f7 := f6.to e7
      have hG7 := hG6.to e7
      have hfs := w.inv.f3s (by omega)
      by_cases hf : form = 5
      · rw [decide_eq_true hf, if_pos rfl]
        refine p_seq (p_dput (p_el (el_lastL (d := logD S.last) (vv_at (v := .ref P.lg) rfl) hS7.lg hS7.dl (by rw [List.getLast?_map, hlast]; rfl)) fun q ys H8 hq e8 h8 hy8 => p_at (v := .ref st) rfl (p_vv (vv_c (v := .str "logs")) fun H9 e9 => ?_)))
        have hS9 := (hS7.to e8).to e9
        obtain ⟨P', M', hS10, hPj, f10⟩ := hS9.newLog (e8.trans e9) (rows := [S.last]) (hS7.fresh hq) hq (e9 _ _ h8) (hy8.to e9)
        refine ⟨st, _, rfl, .inl ⟨P.kvs, .inr "logs", hS9.st, rfl, Nat.lt_of_le_of_lt hS9.kl (by decide), rfl⟩, ?_⟩
        dsimp only
        refine p_ret (p_op (hS10.j.meth (vv_at (v := .ref P'.j) (by rw [hPj]; rfl)) ea_nil fun vs11 H11 e11 hvs11 => ?_))
        obtain rfl : vs11 = [] := hvs11
        have hS11 := hS10.to e11
        refine ⟨(), P'.j, P'.Mj, S.J, [], rfl, rfl, hS11.j, hfs.three, fun v12 H12 M12 J12 hJ12 hd12 hjat12 f12 => ?_⟩
        subst hJ12
        obtain rfl : v12 = .non := hd12
        obtain ⟨M13, hS12, f13⟩ := hS11.jto hjat12 f12
        refine p_vv (vv_c (v := .non)) fun H14 e14 => ⟨rfl, ?_⟩
        rw [decide_eq_true rfl]
        have hfin := w.step (n' := n + 1) (W' := W) (S' := S.synced) f7 hG7 (((f10.to e11).trans f13).to e14) w.inv.synced (w.oct.setF (w.oct.f (by omega)).sync) ⟨_, hS12.to e14⟩
        exact k (n + 1) M13 W S.synced H14 (by omega) hfin.1 hfin.2
      rw [decide_eq_false hf, if_neg (by decide)]
      obtain ⟨a0, hdq, hdp⟩ := w.inv.drawQ w.kk (by omega)
      have hdue := w.inv.dueQ w.kk (by omega)
      have hdr := w.inv.drew w.kk (by omega)
      have hp2 : S.place < 2 := by unfold LM.place; split <;> omega
      have odr : JOk S.drew.J := w.oct.draw (by omega) (by omega) j2
      have h678 : form = 6 ∨ form = 7 ∨ form = 8 := by omega
      rcases h678 with rfl | rfl | rfl
      · -- draw
        refine p_qif (p_et (b := true) (et_of ((ev_neI (ev_at (d := .int ((6 : Nat) : Int)) rfl rfl) (ev_int (i := 7))).is rfl)) fun H8 e8 => ?_)
        rw [if_pos rfl]
        refine p_drop (p_call (p_cons (p_at (v := .ref st) rfl (p_nil ⟨st, MS, S, S.J.drawn, rfl, ⟨P, hS7.to e8⟩, hdue, fun H9 hst9 f9 => ?_⟩))))
        obtain ⟨P9, hS9⟩ := hst9
        have ej := (hS7.to e8).jeq hS9
        dsimp only
        refine p_qif (p_et (b := false) (et_of ((ev_neI (ev_at (d := .int ((6 : Nat) : Int)) rfl rfl) (ev_int (i := 6))).is rfl)) fun H10 e10 => ?_)
        rw [if_neg (by decide)]
        have hS10 := hS9.to e10
        dsimp only [tNext]
        refine p_qasg (p_tif (p_et (b := true) (et_of ((ev_eqI (ev_at (d := .int ((6 : Nat) : Int)) rfl rfl) (ev_int (i := 6))).is rfl)) fun H11 e11 => ?_))
        rw [if_pos rfl]
        have hS11 := hS10.to e11
        refine hS11.j.meth (vv_at (v := .ref P9.j) (by rw [← ej]; rfl)) ea_nil fun vs12 H12 e12 hvs12 => ?_
        obtain rfl : vs12 = [] := hvs12
        have hS12 := hS11.to e12
        refine ⟨a0, P9.j, P9.Mj, S.drewR.J, [], rfl, rfl, hS12.j, by rw [drewR_J]; exact hdq, fun v13 H13 M13 J13 hJ13 hd13 hjat13 f13 => ?_⟩
        rw [drewR_J, hdp] at hJ13
        subst hJ13
        obtain rfl : v13 = .non := hd13
        obtain ⟨M14, hS13, f14⟩ := hS12.jto hjat13 f13
        refine p_ret (p_op (p_at (v := .non) rfl (p_vv (vv_c (v := .non)) fun H15 e15 => ⟨rfl, ?_⟩)))
        rw [decide_eq_true rfl]
        rw [← drew_eq] at hS13
        have hfin := w.step (n' := n + 1) (W' := W) (S' := S.drew) f7 hG7 (((Fr.of e8 f9).to ((e10.trans e11).trans e12)).trans f14 |>.to e15) hdr odr ⟨_, hS13.to e15⟩
        exact k (n + 1) M14 W S.drew H15 (by omega) hfin.1 hfin.2
      · -- settle
        refine p_qif (p_et (b := false) (et_of ((ev_neI (ev_at (d := .int ((7 : Nat) : Int)) rfl rfl) (ev_int (i := 7))).is rfl)) fun H8 e8 => ?_)
        rw [if_neg (by decide)]
        dsimp only [tNext]
        refine p_qif (p_et (b := true) (et_of ((ev_neI (ev_at (d := .int ((7 : Nat) : Int)) rfl rfl) (ev_int (i := 6))).is rfl)) fun H9 e9 => ?_)
        rw [if_pos rfl]
        refine p_drop (p_call (p_cons (p_at (v := .ref st) rfl (p_nil ⟨st, MS, S, S.J.drawn, P, rfl, (hS7.to e8).to e9, w.inv.setlQ (by omega), fun H10 M10 P10 hS10 ej f10 => ?_⟩))))
        dsimp only
        refine p_qasg (p_tif (p_et (b := false) (et_of ((ev_eqI (ev_at (d := .int ((7 : Nat) : Int)) rfl rfl) (ev_int (i := 6))).is rfl)) fun H11 e11 => ?_))
        rw [if_neg (by decide)]
        refine p_tif (p_et (b := true) (et_of ((ev_eqI (ev_at (d := .int ((7 : Nat) : Int)) rfl rfl) (ev_int (i := 7))).is rfl)) fun H12 e12 => ?_)
        rw [if_pos rfl]
        have hS12 := (hS10.to e11).to e12
        refine hS12.j.meth (vv_at (v := .ref P10.j) (by rw [ej]; rfl)) ea_nil fun vs13 H13 e13 hvs13 => ?_
        obtain rfl : vs13 = [] := hvs13
        have hS13 := hS12.to e13
        refine ⟨(), P10.j, P10.Mj, (S.settledD S.J.drawn).J, [], rfl, rfl, hS13.j, by rw [settledD_J]; exact ⟨hfs, w.inv.pl⟩, fun v14 H14 M14 J14 hJ14 hd14 hjat14 f14 => ?_⟩
        rw [settledD_J] at hJ14
        subst hJ14
        obtain rfl : v14 = .non := hd14
        obtain ⟨M15, hS14, f15⟩ := hS13.jto hjat14 f14
        refine p_ret (p_op (p_at (v := .non) rfl (p_vv (vv_c (v := .non)) fun H16 e16 => ⟨rfl, ?_⟩)))
        rw [decide_eq_true rfl]
        rw [← settled_eq] at hS14
        have hfin := w.step (n' := n + 1) (W' := W) (S' := S.settled) f7 hG7 (((Fr.of (e8.trans e9) f10).to ((e11.trans e12).trans e13)).trans f15 |>.to e16) w.inv.settled (by rw [settled_J]; exact w.oct.settle hl3 w.inv.pl) ⟨_, by rw [settled_dr]; exact hS14.to e16⟩
        exact k (n + 1) M15 W S.settled H16 (by omega) hfin.1 hfin.2
      · -- image
        refine p_qif (p_et (b := true) (et_of ((ev_neI (ev_at (d := .int ((8 : Nat) : Int)) rfl rfl) (ev_int (i := 7))).is rfl)) fun H8 e8 => ?_)
        rw [if_pos rfl]
        refine p_drop (p_call (p_cons (p_at (v := .ref st) rfl (p_nil ⟨st, MS, S, S.J.drawn, rfl, ⟨P, hS7.to e8⟩, hdue, fun H9 hst9 f9 => ?_⟩))))
        obtain ⟨P9, hS9⟩ := hst9
        have ej := (hS7.to e8).jeq hS9
        dsimp only
        refine p_qif (p_et (b := true) (et_of ((ev_neI (ev_at (d := .int ((8 : Nat) : Int)) rfl rfl) (ev_int (i := 6))).is rfl)) fun H10 e10 => ?_)
        rw [if_pos rfl]
        refine p_drop (p_call (p_cons (p_at (v := .ref st) rfl (p_nil ⟨st, MS, S.drewR, some (S.place, S.J.stamp), P9, rfl, hS9.to e10, hdr.setlR (by omega), fun H11 M11 P11 hS11 ej11 f11 => ?_⟩))))
        dsimp only
        refine p_qasg (p_tif (p_et (b := false) (et_of ((ev_eqI (ev_at (d := .int ((8 : Nat) : Int)) rfl rfl) (ev_int (i := 6))).is rfl)) fun H12 e12 => ?_))
        rw [if_neg (by decide)]
        refine p_tif (p_et (b := false) (et_of ((ev_eqI (ev_at (d := .int ((8 : Nat) : Int)) rfl rfl) (ev_int (i := 7))).is rfl)) fun H13 e13 => ?_)
        rw [if_neg (by decide)]
        have hS13 := (hS11.to e12).to e13
        refine hS13.j.meth (vv_at (v := .ref P11.j) (by rw [ej11, ← ej]; rfl)) ea_nil fun vs14 H14 e14 hvs14 => ?_
        obtain rfl : vs14 = [] := hvs14
        have hS14 := hS13.to e14
        have eJ : (S.drewR.settledD (some (S.place, S.J.stamp))).J = S.J := (settledD_J _ _).trans (drewR_J S)
        refine ⟨a0, P11.j, P11.Mj, _, [], rfl, rfl, hS14.j, by rw [eJ]; exact ⟨hdq, by rw [hdp]; exact hdr.f3s (by omega)⟩, fun v15 H15 M15 J15 hJ15 hd15 hjat15 f15 => ?_⟩
        rw [eJ, hdp] at hJ15
        subst hJ15
        obtain rfl : v15 = .non := hd15
        obtain ⟨M16, hS15, f16⟩ := hS14.jto hjat15 f15
        refine p_ret (p_op (p_at (v := .non) rfl (p_vv (vv_c (v := .non)) fun H17 e17 => ⟨rfl, ?_⟩)))
        rw [decide_eq_true rfl]
        rw [← imaged_eq] at hS15
        have hfin := w.step (n' := n + 2) (W' := W) (S' := S.drew.settled) f7 hG7 (((((Fr.of e8 f9).to e10).trans f11).to ((e12.trans e13).trans e14)).trans f16 |>.to e17) hdr.settled (by rw [settled_J]; exact odr.settle hdr.f3 hdr.pl) ⟨_, by rw [settled_dr]; exact hS15.to e17⟩
        exact k (n + 2) M16 W S.drew.settled H17 (by omega) hfin.1 hfin.2
end Sp
set_option Elab.async false
set_option linter.all false
set_option maxRecDepth 100000
set_option maxHeartbeats 1000000
namespace Sp
open PySem PySem.Spec PyProof.Rows L2
/-! ### what the law needs of a state, a cut, an opening -/
theorem Below.three {nums : List Nat} {a b c : Nat} (h : Below nums [a, b, c]) : ∃ k0 k1 k2, nums = [k0, k1, k2] ∧ k0 < a ∧ k1 < b ∧ k2 < c := by
  match nums, h with
  | [k0, k1, k2], h => exact ⟨k0, k1, k2, rfl, h.1, h.2.1, h.2.2.1⟩
  | [], h => exact h.elim
  | [_], h => exact h.2.elim
  | [_, _], h => exact h.2.2.elim
  | _ :: _ :: _ :: _ :: _, h => exact h.2.2.2.elim
theorem LInv.cut {ks : List Str} {n : Nat} {W : List Wr} {S : LM} (h : LInv ks n W S) (hk : KsOk ks) (ho : JOk S.J) (hn : n ≤ 900) {nums : List Nat} (hb : Below nums S.mosts) :
    ∃ r0 r1 rl d w, CrQ S nums r0 r1 rl d w ∧ OpQ S nums r0 r1 rl d ∧ LInv ks (n + 1) (W.take d.stamp) (LM.opened d w (S.ms.take (d.stamp + 1)) r0 r1 rl) ∧ JOk (LM.opened d w (S.ms.take (d.stamp + 1)) r0 r1 rl).J ∧ syncedIs (LM.opened d w (S.ms.take (d.stamp + 1)) r0 r1 rl).J d := by
  obtain ⟨k0, k1, k2, rfl, b0, b1, b2⟩ := hb.three
  obtain ⟨r0, e0⟩ : ∃ r, S.im0[k0]? = some r := ⟨_, List.getElem?_eq_getElem b0⟩
  obtain ⟨r1, e1⟩ : ∃ r, S.im1[k1]? = some r := ⟨_, List.getElem?_eq_getElem b1⟩
  obtain ⟨rl, e2⟩ : ∃ r, S.lg[k2]? = some r := ⟨_, List.getElem?_eq_getElem b2⟩
  obtain ⟨d, G⟩ := h.got hk (by omega) e0 e1 e2
  have hle := G.le
  have hwl := h.wl
  have hmsl := h.msl
  have hba := G.base
  have hst := G.stamp
  obtain ⟨w, hw⟩ : ∃ w, S.ms[d.stamp]? = some w := ⟨_, List.getElem?_eq_getElem (by omega)⟩
  have hm := h.ms _ _ hw
  have hok := (hm.ok hk (Fm.isIn h.wok _)).1
  have hm' : IsMap d.map w := by rw [G.map]; exact hm
  have look : LookQ S [k0, k1, k2] r0 r1 rl := ⟨k0, k1, k2, rfl, e0, e1, e2⟩
  have f3 : F3 S.J.F := (h.f3s (by omega)).three
  have l0 := h.r0.len
  have l1 := h.r1.len
  have l2 := h.r2.len
  have num : NumOk S.J.F [k0, k1, k2] := ⟨rfl, fun i f k hf hk' => by
    match i, hk' with
    | 0, hk' =>
      obtain rfl : k0 = k := Option.some.inj hk'
      obtain rfl := Option.some.inj ((mem_f h (i := 0) (by decide)).2.symm.trans hf)
      omega
    | 1, hk' =>
      obtain rfl : k1 = k := Option.some.inj hk'
      obtain rfl := Option.some.inj ((mem_f h (i := 1) (by decide)).2.symm.trans hf)
      omega
    | 2, hk' =>
      obtain rfl : k2 = k := Option.some.inj hk'
      obtain rfl := Option.some.inj ((mem_f h (i := 2) (by decide)).2.symm.trans hf)
      omega
    | i + 3, hk' => simp at hk'⟩
  have cut : cutF S.J.F [k0, k1, k2] = [d.o0, d.o1, d.log] := by
    rw [G.o0, G.o1, G.log]
    rfl
  have due : max (baseI r0 r1) (rl.1 : Nat) = (d.stamp : Nat) := by
    unfold baseI
    omega
  have k0' := (ho.f (i := 0) (by rw [h.f3]; decide)).at k0
  have k1' := (ho.f (i := 1) (by rw [h.f3]; decide)).at k1
  have k2' := (ho.f (i := 2) (by rw [h.f3]; decide)).at k2
  rw [← G.o0] at k0'
  rw [← G.o1] at k1'
  rw [← G.log] at k2'
  have q0 := G.q.l0
  have q1 := G.q.l1
  have q2 := G.q.l2
  refine ⟨r0, r1, rl, d, w, ⟨look, f3, num, cut, G.q.r, ⟨⟨k0', by omega⟩, ⟨k1', by omega⟩, ⟨k2', by omega⟩⟩, due, hw, hm', hok, by omega⟩, ⟨look, f3, num, cut, G.q, due, hba.symm, by omega, by omega⟩, ?_, opened_ok k0' k1' k2', ?_⟩
  · refine LInv.opened h.wok hwl (h.r0.row _ _ e0) (h.r1.row _ _ e1) (h.r2.row _ _ e2) (h.rowsb e0 e1) G (h.olen (i := 0) (by decide) k0) (h.olen (i := 1) (by decide) k1) (h.olen (i := 2) (by decide) k2) hm' (by rw [List.length_take]; omega) fun t x hx => ?_
    have ht := (List.getElem?_eq_some_iff.mp hx).1
    rw [List.length_take] at ht
    rw [List.getElem?_take_of_lt (by omega)] at hx
    exact h.ms t x hx
  · show [octD d.o0, octD d.o1, octD ((⟨d.log, []⟩ : FM).kp d.fin).sy] = _
    have e : ((⟨d.log, []⟩ : FM).kp d.fin).sy = d.log := by
      unfold FM.kp
      split <;> rfl
    rw [e]
theorem LInv.many_eq {ks : List Str} {n : Nat} {W : List Wr} {S : LM} (h : LInv ks n W S) (hn : n ≤ 900) : manyD S.J.F = natsD [S.im0.length, S.im1.length, S.lg.length] := by
  have f3 : F3 S.J.F := (h.f3s (by omega)).three
  obtain ⟨f0, f1, f2, e⟩ := f3.ex
  have l0 := h.r0.len
  have l1 := h.r1.len
  have l2 := h.r2.len
  unfold JM.f at l0 l1 l2
  rw [e] at l0 l1 l2
  rw [e, l0, l1, l2]
  rfl
theorem LInv.zeros {ks : List Str} {n : Nat} {W : List Wr} {S : LM} (h : LInv ks n W S) : Below [0, 0, 0] S.mosts := by
  obtain ⟨_, _, _, a, b, c⟩ := h.lens
  exact ⟨a, b, c, trivial⟩
/-- what the disk tells after one write more -/
theorem LInv.fin {ks : List Str} {n : Nat} {W : List Wr} {S : LM} (h : LInv ks n W S) (hk : KsOk ks) (hn : n ≤ 900) {w w' : Wr} (hw : WrOk w) (hwk : ∀ p ∈ w, p.1 ∈ ks) (hm : IsMap (sem Mp0 (S.J.w ++ w)) w') :
    ∃ d, DkR d ∧ .tuple ((S.J.wrote w w').F.map fun f => octD f.cur) = d.dat ∧ IsMap d.map w' ∧ WrOk w' ∧ F3 (S.J.wrote w w').F := by
  have eF := Fm_next (w := w) h.wok h.jw
  rw [eF] at hm
  have h1 := h.wrote (by omega) hw hwk hm hm
  obtain ⟨r0, _, e0, _⟩ := h1.r0.last
  obtain ⟨r1, _, e1, _⟩ := h1.r1.last
  obtain ⟨rl, g2, e2, _⟩ := h1.r2.last
  obtain ⟨d, G⟩ := h1.got hk (by omega) e0 e1 e2
  have f3 : F3 (S.wrote w w' w').J.F := (h1.f3s (by omega)).three
  have hst := h.st
  have hrl : rl.1 = W.length + 1 := by
    have g : (S.lg ++ logRows S.last (S.J.stamp + 1) (rec_ (S.J.stamp + 1) w).length).getLast? = some rl := g2
    rw [logRows_last] at g
    have := Option.some.inj g
    rw [← this, hst]
  have hle := G.le
  have hs := G.stamp
  rw [List.length_append] at hle
  have : [w].length = 1 := rfl
  have hd : d.stamp = W.length + 1 := by omega
  refine ⟨d, G.q.r, ?_, by rw [G.map, hd]; exact hm, (hm.ok hk (Fm.isIn h1.wok _)).1, f3⟩
  show _ = dsk (d.o0, d.o1, d.log)
  rw [G.o0, G.o1, G.log, FM.at_last, FM.at_last, FM.at_last]
  obtain ⟨f0, f1, f2, e⟩ := f3.ex
  have e' : (S.J.wrote w w').F = [f0, f1, f2] := e
  unfold JM.f
  rw [e, e']
  rfl
/-- the first state -/
theorem begun_inv {ks : List Str} {w : Wr} (hw : IsMap Mp0 w) : LInv ks 1 [] (begunS w) ∧ JOk (begunS w).J := by
  have G : Got ks [] [] [] [] (-1, 0) (-1, 0) (0, 0, 0) d00 := ⟨rfl, rfl, rfl, d00_q, rfl, rfl, rfl, Nat.le_refl _, rfl⟩
  refine ⟨?_, opened_ok octOk_nil octOk_nil octOk_nil⟩
  exact LInv.opened (n := 0) (W := []) (ms := [[]]) (d := d00) (w := w) (b0 := 0) (fun x hx => (nomatch hx)) (Nat.le_refl _) (ImgRow.none []) (ImgRow.none []) (LogRow.zero [] 0) (by decide) G (Nat.le_refl _) (Nat.le_refl _) (Nat.le_refl _) hw rfl fun t x hx => by
    match t, hx with
    | 0, hx =>
      obtain rfl : [] = x := Option.some.inj hx
      exact ⟨.nil, fun k v => ⟨fun h => (nomatch h), fun h => by
        have h : Mp0 k = some v := h
        cases h⟩⟩
    | t + 1, hx => simp at hx
theorem Wd.gen' {c : Cn} {H H' : Hp} {MG MS : List Addr} {g st ka : Addr} {ks : List Str} {n : Nat} {W : List Wr} {S : LM} (w : Wd c H MG MS g st ka ks n W S) (f : Fr H MG H' MG) (hG : GenAt H' MG g) : Wd c H' MG MS g st ka ks n W S :=
  (w.step f hG (Fr.refl _ _) w.inv w.oct (w.st.gen w.gen f w.dj)).1
theorem Wd.to {c : Cn} {H H' : Hp} {MG MS : List Addr} {g st ka : Addr} {ks : List Str} {n : Nat} {W : List Wr} {S : LM} (w : Wd c H MG MS g st ka ks n W S) (e : Same H H') : Wd c H' MG MS g st ka ks n W S :=
  w.gen' (Fr.same e) (w.gen.to e)
/-- another state, made anew -/
theorem Wd.new {c : Cn} {H H' : Hp} {MG MS MS' : List Addr} {g st st' ka : Addr} {ks : List Str} {n n' : Nat} {W W' : List Wr} {S S' : LM} (w : Wd c H MG MS g st ka ks n W S) (e : Same H H') (hf : ∀ a ∈ MS', H a = none) (i' : LInv ks n' W' S') (o' : JOk S'.J) (s' : StAt c H' MS' st' S' S'.J.drawn) : Wd c H' MG MS' g st' ka ks n' W' S' :=
  ⟨w.gen.to e, e _ _ w.keys, w.kg, fun m => (by
    have := hf _ m
    rw [w.keys] at this
    cases this), fun a m q => (by
    obtain ⟨o, ho⟩ := w.gen.has a m
    rw [hf a q] at ho
    cases ho), w.kk, i', o', s'⟩
theorem shc4 {s : Nat} {w : Wr} (hs : s ≤ 1000000) (hw : WrOk w) : ShC (.list [.int (s : Nat), wrD w, .int (s : Nat)]) := by
  refine (Shw.lst (n := 2) (wt := 375) (k := 3) (fun d hd => ?_) (Nat.le_refl _)).sh (by decide) (by decide)
  rcases List.mem_cons.mp hd with rfl | hd
  · exact (Shw.int 2 ⟨by omega, by omega⟩).up (Nat.le_refl _) (by decide)
  rcases List.mem_cons.mp hd with rfl | hd
  · exact Shw.wr hw
  · rw [List.mem_singleton.mp hd]
    exact (Shw.int 2 ⟨by omega, by omega⟩).up (Nat.le_refl _) (by decide)
theorem shcN {ks : List Nat} (hl : ks.length ≤ 3) (hk : ∀ k ∈ ks, k ≤ 1000000) : ShC (natsD ks) := by
  refine (Shw.tup (n := 0) (wt := 61) (k := 3) (fun d hd => ?_) (by rw [List.length_map]; exact hl)).sh (by decide) (by decide)
  obtain ⟨k, hm, rfl⟩ := List.mem_map.mp hd
  have := hk k hm
  exact Shw.int 0 ⟨by omega, by omega⟩
theorem shcW {w : Wr} (hw : WrOk w) : ShC (wrD w) := (Shw.wr hw).sh (by decide) (by decide)
section
variable {c : Cn} {l : L2.St} {H : Hp} {ta tb te : TE} {tu tw : TS} {D : Ends} {b : Bool}
theorem ev_cr {M : List Addr} {st : Addr} {S : LM} {dw : Option (Nat × Nat)} {ks : List Nat} {r0 r1 : IRow} {rl : LRow} {d : Dk'} {w : Wr} {E : XK} (h : StAt c H M st S dw) (ha : EvV ta l H (.ref st)) (hb : Ev tb l H (natsD ks)) (hq : CrQ S ks r0 r1 rl d w) : Ev (tCall (spCR c) [] E (tCons ta (tCons tb tNil))) l H (.bool true) := fun H1 e Q q =>
  p_call (p_cons (p_vv (ha.to e) fun H2 e2 => p_cons (p_ev ((hb.to e).to e2) fun v H3 e3 hv => p_nil ⟨st, M, S, dw, ks, v, r0, r1, rl, d, w, rfl, hv, ((h.to e).to e2).to e3, hq, fun H4 e4 => q _ H4 ((e2.trans e3).trans e4) rfl⟩)))
theorem ev_chs {M : List Addr} {st : Addr} {S : LM} {dw : Option (Nat × Nat)} {E : XK} (h : StAt c H M st S dw) (ha : EvV ta l H (.ref st)) : Ev (tCall (spChoices c) [] E (tCons ta tNil)) l H (natsD [S.im0.length, S.im1.length, S.lg.length]) := fun H1 e Q q =>
  p_call (p_cons (p_vv (ha.to e) fun H2 e2 => p_nil ⟨st, M, S, dw, rfl, (h.to e).to e2, fun v H3 e3 hd => q v H3 (e2.trans e3) hd⟩))
theorem p_not {t : TT} {Q : Bool → Hp → Prop} (h : t l H fun b H1 => Q (!b) H1) : tNot t l H Q := h
theorem p_B {Q : Bool → Hp → Prop} (h : te l H fun v H1 => ∃ b, v = .bl b ∧ Q b H1) : tB te l H Q := h
/-- for i in range(..), the number drawn -/
def forR (g : TG) (tb : TS) (D : Ends) (l : L2.St) (J : It) (H : Hp) : Prop := tFor (fun _ H' R => R J H') g tb D l H
theorem p_for {t : TA} {g : TG} (h : t l H fun vs H1 => ∃ j : Int, vs = [.int j] ∧ -(2 ^ 62) ≤ j ∧ j < 2 ^ 62 ∧ forR g tu D l (Itr 0 j.toNat) H1) : tFor (iRng1 t) g tu D l H := h
theorem r_for {n k : Nat} {v : V} (hv : v = .int (k : Nat)) (hk : k ≤ 1000000) (Pv : Nat → L2.St → Hp → Prop) (h0 : Pv 0 l H)
    (hs : ∀ (i : Nat) l' H', i < k → Pv i l' H' → tu { D with nx := Pv (i + 1), ct := Pv (i + 1), bk := D.nx } (l'.set n (some (.int (i : Nat)))) H') (hd : ∀ l' H', Pv k l' H' → D.nx l' H') :
    ∃ j : Int, [v] = [.int j] ∧ -(2 ^ 62) ≤ j ∧ j < 2 ^ 62 ∧ forR (gName n) tu D l (Itr 0 j.toNat) H := by
  subst hv
  refine ⟨(k : Nat), rfl, by omega, by omega, ?_⟩
  rw [Int.toNat_natCast]
  exact for_range (lo := 0) (n := k) Pv h0 (fun i l' H' hi p => by
    have := hs i l' H' hi p
    rw [show (0 : Int) + (i : Nat) = ((i : Nat) : Int) by omega]
    exact this) hd
end
end Sp
set_option Elab.async false
set_option linter.all false
set_option maxRecDepth 100000
set_option maxHeartbeats 1000000
namespace Sp
open PySem PySem.Spec PyProof.Rows L2
def spLaw (c : Cn) : Sp := fun vs H Q _ => ∃ (a : Addr) (ns : List Int), vs = [V.ref a] ∧ SqL c.K H a (ns.map V.int) ∧ ∀ H', Q (.bl true) H'
theorem sc_law : FnScope ["_law_script", "_law_heap_here", "_law_keys_here", "_law_state", "_law_turn", "_law_deed_here", "_law_numbers_here", "_law_due_here", "_law_entries", "_law_journal", "_law_pairs"] ["_law_script"] (defScope s_law) := ⟨rfl, rfl, rfl, by decide +kernel, rfl, by decide +kernel, by decide +kernel⟩
theorem d_law {c : Cn} (T : Tx c) : Dg c "law" 14 ["_law_script"] (spLaw c ) :=
  T.dg 63 63 rfl rfl sc_law (fun _ _ _ _ _ _ us hl => match us, hl with | [_], _ => rfl) (fun vs H Q E h => by obtain ⟨_, _, e, _⟩ := h; rw [e] <;> rfl) fun f cdv A outer s H vs Q E hgd hr h => by
    refine ⟨_, (pss_cons (ps_set (i := 1) sc_law.nd rfl (by first | exact Or.inl rfl | exact Or.inr rfl) (pe_d (d__law_heap T) (hr.mono (by decide)) (pa_cons (pv 0) (pa_cons pe_int pa_nil))))
    (pss_cons (ps_set (i := 2) sc_law.nd rfl (by first | exact Or.inl rfl | exact Or.inr rfl) (pe_d (d__law_keys T) (hr.mono (by decide)) (pa_cons (pv 1) (pa_cons (pe_op op_add pe_int (pe_d (d__law_draw T) (hr.mono (by decide)) (pa_cons (pv 1) (pa_cons pe_int pa_nil)))) pa_nil))))
    (pss_cons (ps_set (i := 3) sc_law.nd rfl (by first | exact Or.inl rfl | exact Or.inr rfl) (pe_d (d__law_begun T) (hr.mono (by decide)) (pa_cons (pe_tup (pa_cons (pe_tup pa_nil) (pa_cons (pe_tup pa_nil) (pa_cons (pe_tup pa_nil) pa_nil)))) pa_nil)))
    (pss_cons (ps_for PassesOwn.never rfl (pi_range1 (by rfl) T.n_range (pa_cons (pe_op op_add pe_int (pe_d (d__law_draw T) (hr.mono (by decide)) (pa_cons (pv 1) (pa_cons pe_int pa_nil)))) pa_nil)) (pg_name (i := 4) sc_law.nd rfl (by first | exact Or.inl rfl | exact Or.inr rfl)) (pss_cons (ps_for PassesOwn.never rfl (pi_range1 (by rfl) T.n_range (pa_cons (pe_d (d__law_draw T) (hr.mono (by decide)) (pa_cons (pv 1) (pa_cons pe_int pa_nil))) pa_nil)) (pg_name (i := 5) sc_law.nd rfl (by first | exact Or.inl rfl | exact Or.inr rfl)) (pss_one (ps_if (pt_not (pt_val (pe_d (d__law_deed T) (hr.mono (by decide)) (pa_cons (pv 1) (pa_cons (pv 3) (pa_cons (pv 2) pa_nil)))))) (pss_one (ps_ret pe_bl)) pss_nil)))
    (pss_cons (ps_set (i := 6) sc_law.nd rfl (by first | exact Or.inl rfl | exact Or.inr rfl) (pe_d (d__law_numbers T) (hr.mono (by decide)) (pa_cons (pv 1) (pa_cons (pv 3) pa_nil))))
    (pss_cons (ps_set (i := 7) sc_law.nd rfl (by first | exact Or.inl rfl | exact Or.inr rfl) (pe_d (d__law_due T) (hr.mono (by decide)) (pa_cons (pv 3) (pa_cons (pv 6) pa_nil))))
    (pss_cons (ps_set (i := 8) sc_law.nd rfl (by first | exact Or.inl rfl | exact Or.inr rfl) (pe_dget (hu_of hr) (pe_dget (hu_of hr) (pv 3) pe_str (fun _ _ => rfl)) (pv 7) (fun _ _ => rfl)))
    (pss_cons (ps_if (PW.pt (pw_or (pt_not (pt_val (pe_dG (d__law_cut_right T) hgd (hr.mono (by decide)) (pa_cons (pv 3) (pa_cons (pv 6) pa_nil))))) (pw_or1 (pt_not (pt_val (pe_dG (d__law_mended_right T) hgd (hr.mono (by decide)) (pa_cons (pe_md (d_Journal_cut T) T.c_Journal (hr.mono (by decide)) (pe_dget (hu_of hr) (pv 3) pe_str (fun _ _ => rfl)) (pa_cons (pv 6) pa_nil)) (pa_cons (pv 7) (pa_cons (pv 8) pa_nil))))))))) (pss_one (ps_ret pe_bl)) pss_nil)
    (pss_cons (ps_set (i := 3) sc_law.nd rfl (by first | exact Or.inl rfl | exact Or.inr rfl) (pe_d (d__law_opened T) (hr.mono (by decide)) (pa_cons (pv 3) (pa_cons (pv 6) pa_nil))))
    (pss_cons (ps_set (i := 9) sc_law.nd rfl (by first | exact Or.inl rfl | exact Or.inr rfl) (pe_dget (hu_of hr) (pv 3) pe_str (fun _ _ => rfl)))
    (pss_cons (ps_if (pt_cmpR op_ne (pe_callB (call_reprD hgd hr) (by rfl) T.n_repr (by decide +kernel) (pa_cons (pe_lst (pa_cons (pe_fld (pv 9) rfl) (pa_cons (pe_fld (pv 9) rfl) (pa_cons (pe_md0 (d_Journal_sure T) T.c_Journal (hr.mono (by decide)) (pv 9)) pa_nil)))) pa_nil)) (pe_callB (call_reprD hgd hr) (by rfl) T.n_repr (by decide +kernel) (pa_cons (pe_lst (pa_cons (pv 7) (pa_cons (pv 8) (pa_cons (pv 7) pa_nil)))) pa_nil)) (nomark _)) (pss_one (ps_ret pe_bl)) pss_nil)
    (pss_one (ps_if (PW.pt (pw_or (pt_cmpR op_ne (pe_callB (call_reprD hgd hr) (by rfl) T.n_repr (by decide +kernel) (pa_cons (pe_md0 (d_Journal_choices T) T.c_Journal (hr.mono (by decide)) (pv 9)) pa_nil)) (pe_callB (call_reprD hgd hr) (by rfl) T.n_repr (by decide +kernel) (pa_cons (pe_d (d__law_choices T) (hr.mono (by decide)) (pa_cons (pv 3) pa_nil)) pa_nil)) (nomark _)) (pw_or1 (pt_not (pt_val (pe_dG (d__law_cut_right T) hgd (hr.mono (by decide)) (pa_cons (pv 3) (pa_cons (pe_tup (pa_cons pe_int (pa_cons pe_int (pa_cons pe_int pa_nil)))) pa_nil)))))))) (pss_one (ps_ret pe_bl)) pss_nil)))))))))))
    (pss_cons (ps_set (i := 10) sc_law.nd rfl (by first | exact Or.inl rfl | exact Or.inr rfl) (pe_d (d__law_writes T) (hr.mono (by decide)) (pa_cons (pv 1) (pa_cons (pv 2) pa_nil))))
    (pss_cons (ps_set (i := 7) sc_law.nd rfl (by first | exact Or.inl rfl | exact Or.inr rfl) (pe_d (d__law_map T) (hr.mono (by decide)) (pa_cons (pe_fld (pv 9) rfl) (pa_cons (pv 10) pa_nil))))
    (pss_one (ps_ret (pe_and (pe_cmpR op_eq (pe_md (d_Journal_write T) T.c_Journal (hr.mono (by decide)) (pv 9) (pa_cons (pv 10) pa_nil)) (pe_op op_add (pe_callB (call_maxD rfl) (by rfl) T.n_max (by decide +kernel) (pa_cons (pe_dget (hu_of hr) (pv 3) pe_str (fun _ _ => rfl)) pa_nil)) pe_int) (nomark _)) (pe_one (pe_cmpR op_eq (pe_callB (call_reprD hgd hr) (by rfl) T.n_repr (by decide +kernel) (pa_cons (pe_ix ix_tup (pe_d (d_recover T) (hr.mono (by decide)) (pa_cons (pe_md0 (d_Journal_disk T) T.c_Journal (hr.mono (by decide)) (pv 9)) pa_nil)) pe_int (fun _ _ => rfl)) pa_nil)) (pe_callB (call_reprD hgd hr) (by rfl) T.n_repr (by decide +kernel) (pa_cons (pv 7) pa_nil)) (nomark _)))))))))))), ?_⟩
    obtain ⟨a, ns, rfl, ha, k⟩ := h
    -- the source of choices, the keys, the first state
    refine p_qasg (p_call (p_cons (p_at (v := .ref a) rfl (p_cons (p_vv (vv_c (v := .int 51)) fun H1 e1 => p_nil ?_)))))
    refine ⟨a, ns, rfl, sql_to ha e1, fun g MG H2 hG2 hfr2 e2 => ?_⟩
    refine p_qasg (p_call (p_cons (p_at (v := .ref g) rfl (p_cons (p_op (p_vv (vv_c (v := .int 1)) fun H3 e3 => r_draw (k := 3) rfl (ev_int (i := 3)) (by decide) (by decide) (hG2.to e3) fun r H4 hr4 hG4 f4 => ?_))))))
    refine ⟨1, r, rfl, rfl, p_nil ?_⟩
    refine ⟨g, MG, 1 + r, by rw [show ((1 + r : Nat) : Int) = 1 + (r : Int) by omega]; rfl, hG4, by omega, fun ka ks H5 hka hG5 f5 h5 hnd hlen hok => ?_⟩
    refine p_qasg (p_call (p_cons (p_ev (d := dsk ([], [], [])) (ev_tup (ds := [octD [], octD [], octD []]) (ea_3 (ev_tup ea_nil (by decide)) (ev_tup ea_nil (by decide)) (ev_tup ea_nil (by decide))) len3) fun v6 H6 e6 h6 => p_nil ⟨v6, rfl, h6, fun st MS w0 H7 hw0 hst e7 hfr7 => ?_⟩)))
    obtain ⟨hinv, hoct⟩ := begun_inv (ks := ks) hw0
    have hG6 := hG5.to e6
    have w7 : Wd c H7 MG MS g st ka ks 1 [] (begunS w0) := ⟨hG6.to e7, e7 _ _ (e6 _ _ h5), hG4.fresh hka, fun m => (by
      have := hfr7 _ m
      rw [e6 _ _ h5] at this
      cases this), fun a m q => (by
      obtain ⟨o, ho⟩ := hG6.has a m
      rw [hfr7 a q] at ho
      cases ho), ⟨hnd, hlen, hok⟩, hinv, hoct, hst⟩
    refine p_seq (p_for (p_cons (p_op (p_vv (vv_c (v := .int 1)) fun H8 e8 => r_draw (k := 4) rfl (ev_int (i := 4)) (by decide) (by decide) (w7.gen.to e8) fun r2 H9 hr9 hG9 f9 => ?_))))
    refine ⟨1, r2, rfl, rfl, p_nil ?_⟩
    have w9 := w7.gen' (Fr.of e8 f9) hG9
    refine r_for (k := 1 + r2) (by show V.int (1 + (r2 : Int)) = V.int ((1 + r2 : Nat) : Int); rw [show ((1 + r2 : Nat) : Int) = 1 + (r2 : Int) by omega]) (by omega) (fun i l' H' => ∃ MS st n W S, Wd c H' MG MS g st ka ks n W S ∧ n ≤ 1 + 11 * i ∧ l'.length = 11 ∧ l'[1]? = some (some (.ref g)) ∧ l'[2]? = some (some (.ref ka)) ∧ l'[3]? = some (some (.ref st)) ∧ (0 < i → ∃ P, StR c H' MS st S S.J.drawn P ∧ l'[9]? = some (some (.ref P.j)))) ⟨MS, st, 1, [], begunS w0, w9, Nat.le_refl _, rfl, rfl, rfl, rfl, fun z => absurd z (by decide)⟩ ?_ ?_
    · -- one turn
      rintro i l0 H10 hi ⟨MS, st, n, W, S, w10, hn, hl, l1, l2, l3, _⟩
      obtain ⟨x0, x1, x2, x3, x4, x5, x6, x7, x8, x9, x10, rfl⟩ := len11 hl
      obtain rfl := Option.some.inj l1
      obtain rfl := Option.some.inj l2
      obtain rfl := Option.some.inj l3
      clear hl l1 l2 l3
      -- the deeds
      refine p_seq (p_for (p_cons (r_draw (k := 6) rfl (ev_int (i := 6)) (by decide) (by decide) w10.gen fun r3 H11 hr11 hG11 f11 => p_nil ?_)))
      have w11 := w10.gen' f11 hG11
      refine r_for (k := r3) rfl (by omega) (fun j l' H' => ∃ MS n' W S, Wd c H' MG MS g st ka ks n' W S ∧ n' ≤ n + 2 * j ∧ l'.length = 11 ∧ l'[1]? = some (some (.ref g)) ∧ l'[2]? = some (some (.ref ka)) ∧ l'[3]? = some (some (.ref st))) ⟨MS, n, W, S, w11, Nat.le_refl _, rfl, rfl, rfl, rfl⟩ ?_ ?_
      · rintro j l1 H12 hj ⟨MS', n', W', S', w12, hn', hl, l11, l12, l13⟩
        have g1 : (l1.set 5 (some (V.int ((j : Nat) : Int))))[1]? = some (some (.ref g)) := by rw [List.getElem?_set_ne (by decide)]; exact l11
        have g2 : (l1.set 5 (some (V.int ((j : Nat) : Int))))[2]? = some (some (.ref ka)) := by rw [List.getElem?_set_ne (by decide)]; exact l12
        have g3 : (l1.set 5 (some (V.int ((j : Nat) : Int))))[3]? = some (some (.ref st)) := by rw [List.getElem?_set_ne (by decide)]; exact l13
        refine p_if (p_not (p_B (p_call (p_cons (p_at g1 (p_cons (p_at g3 (p_cons (p_at g2 (p_nil ⟨MG, MS', g, st, ka, ks, n', W', S', rfl, w12, by omega, fun n2 MS2 W2 S2 H13 hn2 w13 f13 => ⟨true, rfl, ?_⟩⟩))))))))))
        show (if (!true) = true then _ else _)
        rw [if_neg (by decide)]
        exact ⟨MS2, n2, W2, S2, w13, by omega, by rw [List.length_set]; exact hl, g1, g2, g3⟩
      rintro l1 H12 ⟨MS2, n2, W2, S2, w12, hn2, hl, l11, l12, l13⟩
      obtain ⟨y0, y1, y2, y3, y4, y5, y6, y7, y8, y9, y10, rfl⟩ := len11 hl
      obtain rfl := Option.some.inj l11
      obtain rfl := Option.some.inj l12
      obtain rfl := Option.some.inj l13
      clear hl l11 l12 l13
      have hn3 : n2 ≤ 100 := by omega
      obtain ⟨b0, b1, b2, c0, c1, c2⟩ := w12.inv.lens
      -- the cut
      refine p_qasg (p_call (p_cons (p_at (v := .ref g) rfl (p_cons (p_at (v := .ref st) rfl (p_nil ⟨g, MG, st, MS2, S2, S2.J.drawn, rfl, w12.gen, w12.st, fun m hm => ?_, fun nums v13 H13 hb h13 hG13 f13 => ?_⟩))))))
      · have hm : m ∈ [S2.im0.length, S2.im1.length, S2.lg.length] := hm
        simp only [List.mem_cons, List.not_mem_nil, or_false] at hm
        rcases hm with rfl | rfl | rfl <;> constructor <;> omega
      have w13 := w12.gen' f13 hG13
      obtain ⟨r0, r1, rl, d, wm, hC, hO, hI, hJ, hsy⟩ := w13.inv.cut w13.kk w13.oct (by omega) hb
      obtain ⟨P13, hS13⟩ := w13.st
      refine p_qasg (p_ev (d := .int (d.stamp : Nat)) ((ev_due ⟨P13, hS13⟩ (vv_at (v := .ref st) rfl) (ev_at (v := v13) rfl h13) hC.look).is (by show PyData.int _ = _; rw [hC.due])) fun v14 H14 e14 h14 => ?_)
      obtain rfl : v14 = .int (d.stamp : Nat) := h14
      have hS14 := hS13.to e14
      refine p_qasg (p_ev (d := wrD wm) (ev_maps (vv_getK (vv_at (v := .ref st) rfl) (.inl hS14.st) hS14.km) hS14.ms (ev_at (d := .int (d.stamp : Nat)) rfl rfl) hC.ms) fun v15 H15 e15 h15 => ?_)
      have hS15 := hS14.to e15
      have e1315 := e14.trans e15
      have hdat : PyData.tuple ((cutF S2.J.F nums).map octD) = d.dat := by rw [hC.cut]; rfl
      refine q_skip ((et_or (b := false) (c := false) ((et_not (et_B (ev_cr ⟨P13, hS15⟩ (vv_at (v := .ref st) rfl) (ev_at (v := v13) rfl (h13.to e1315)) hC))).is rfl) fun _ => (et_not (et_B (ev_F (d, wm) (ea_3 ((ev_jl hS15.j (vv_getK (vv_at (v := .ref st) rfl) (.inl hS15.st) hS15.kj) nums (ea_1 (ev_at (v := v13) rfl (h13.to e1315))) ⟨hC.f3, hC.num⟩).is hdat) (ev_at (d := .int (d.stamp : Nat)) rfl rfl) (ev_at (v := v15) rfl h15)) ⟨hC.r, hC.hw, hC.ok, hC.st⟩))).is rfl).is rfl) fun H16 e16 => ?_
      have w16 := (w13.to e1315).to e16
      have e1316 := e1315.trans e16
      -- opened on what is left
      refine p_qasg (p_call (p_cons (p_at (v := .ref st) rfl (p_cons (p_at (v := v13) rfl (p_nil ⟨st, MS2, S2, S2.J.drawn, nums, v13, r0, r1, rl, d, rfl, h13.to e1316, w16.st, hO, fun st' MS' w' H17 hw' hst' e17 hfr17 => ?_⟩))))))
      obtain rfl := hw'.uniq hC.hw
      have hJst : (LM.opened d w' (S2.ms.take (d.stamp + 1)) r0 r1 rl).J.stamp = d.stamp := rfl
      have hJw : (LM.opened d w' (S2.ms.take (d.stamp + 1)) r0 r1 rl).J.w = w' := rfl
      have hJd : (LM.opened d w' (S2.ms.take (d.stamp + 1)) r0 r1 rl).J.drawn = none := rfl
      have w17 : Wd c H17 MG MS' g st' ka ks (n2 + 1) (W2.take d.stamp) (LM.opened d w' (S2.ms.take (d.stamp + 1)) r0 r1 rl) := w16.new e17 hfr17 hI hJ (by rw [hJd]; exact hst')
      generalize LM.opened d w' (S2.ms.take (d.stamp + 1)) r0 r1 rl = S3 at *
      obtain ⟨P17, hS17⟩ := w17.st
      refine p_qasg (p_vv (vv_getK (vv_at (v := .ref st') rfl) (.inl hS17.st) hS17.kj) fun H18 e18 => ?_)
      have hS18 := hS17.to e18
      have h15' := ((h15.to e16).to e17).to e18
      have hF3 : F3 S3.J.F := (w17.inv.f3s (by omega)).three
      have hsh4 := shc4 (s := d.stamp) hC.st hC.ok
      refine q_skip (et_of ((ev_neS (ev_reprL (el_lst (ea_3 ((hS18.j.stp T (vv_at (v := .ref P17.j) rfl)).is (by rw [hJst])) ((hS18.j.ent T (vv_at (v := .ref P17.j) rfl)).is (by rw [hJw])) (ev_jl hS18.j (vv_at (v := .ref P17.j) rfl) d ea_nil ⟨hF3, hsy, hC.r⟩)) len3) hsh4) (ev_reprL (el_lst (ea_3 (ev_at (d := .int (d.stamp : Nat)) rfl rfl) (ev_at (v := v15) rfl h15') (ev_at (d := .int (d.stamp : Nat)) rfl rfl)) len3) hsh4)).is (by rw [decide_eq_true rfl]; rfl))) fun H19 e19 => ?_
      have w19 := (w17.to e18).to e19
      have hS19 := hS18.to e19
      obtain ⟨a0, a1, a2, _⟩ := w17.inv.lens
      have hshN : ShC (natsD [S3.im0.length, S3.im1.length, S3.lg.length]) := shcN (Nat.le_refl 3) fun m hm => by
        simp only [List.mem_cons, List.not_mem_nil, or_false] at hm
        rcases hm with rfl | rfl | rfl <;> omega
      obtain ⟨r0', r1', rl', d', wm', hC', _⟩ := w19.inv.cut w19.kk w19.oct (by omega) w19.inv.zeros
      refine s_skip ((et_or (b := false) (c := false) ((et_of (ev_neS (ev_reprT ((ev_jl hS19.j (vv_at (v := .ref P17.j) rfl) () ea_nil hF3).is (w17.inv.many_eq (by omega))) hshN) (ev_reprT (ev_chs ⟨P17, hS19⟩ (vv_at (v := .ref st') rfl)) hshN))).is (by rw [decide_eq_true rfl]; rfl)) fun _ => (et_not (et_B (ev_cr ⟨P17, hS19⟩ (vv_at (v := .ref st') rfl) (ev_tup (ds := ([0, 0, 0] : List Nat).map fun k => PyData.int (k : Nat)) (ea_3 (ev_int (i := 0)) (ev_int (i := 0)) (ev_int (i := 0))) len3) hC'))).is rfl).is rfl) fun H20 e20 => ?_
      exact ⟨MS', st', n2 + 1, W2.take d.stamp, S3, w19.to e20, by omega, rfl, rfl, rfl, rfl, fun _ => ⟨P17, hS19.to e20, rfl⟩⟩
    · -- what is written behind
      rintro l0 H10 ⟨MS, st, n, W, S, w10, hn, hl, l1, l2, l3, lj⟩
      obtain ⟨P, hS10, l9⟩ := lj (by omega)
      obtain ⟨x0, x1, x2, x3, x4, x5, x6, x7, x8, x9, x10, rfl⟩ := len11 hl
      obtain rfl := Option.some.inj l1
      obtain rfl := Option.some.inj l2
      obtain rfl := Option.some.inj l3
      obtain rfl := Option.some.inj l9
      clear hl l1 l2 l3 l9 lj
      have hn3 : n ≤ 45 := by omega
      refine p_qasg (p_call (p_cons (p_at (v := .ref g) rfl (p_cons (p_at (v := .ref ka) rfl (p_nil ⟨g, MG, ka, ks, rfl, w10.gen, w10.keys, w10.kg, w10.kk.nd, w10.kk.len, w10.kk.ok, fun wr v11 H11 hwr hmem h11 hG11 f11 => ?_⟩))))))
      have hS11 : StR c H11 MS st S S.J.drawn P := hS10.out (fun a m o ho => f11.keep a o ho fun q => w10.dj a q m) f11.tk (f11.fz w10.gen.nofrz)
      have hkl := w10.kk.len
      have hst := w10.inv.st
      have hwl := w10.inv.wl
      have hmsl := w10.inv.msl
      obtain ⟨j1, j2⟩ := w10.inv.jms w10.kk
      have hjk : ∀ p ∈ S.J.w, p.1 ∈ ks := (w10.inv.jw.ok w10.kk (Fm.isIn w10.inv.wok _)).2.2
      have hks : ∀ p ∈ S.J.w ++ wr, p.1 ∈ ks := fun p hp => (List.mem_append.mp hp).elim (hjk p) (hmem p)
      obtain ⟨dx, v0, ve, vw, vd, fl, Mf, hMj, hjn, q1, q2, q3, q4, q5⟩ := hS11.j
      refine p_qasg (p_call (p_cons (p_vv (vv_fld (vv_at (v := .ref P.j) rfl) q1 T.c_Journal T.a_Journal_entries rfl) fun H12 e12 => p_cons (p_at (v := v11) rfl (p_nil ⟨S.J.w, wr, ks, ve, v11, rfl, q2.to e12, q3.to e12, h11.to e12, by omega, hks, fun v13 H13 m' e13 hm' h13 hn13 => ?_⟩)))))
      have e1113 := e12.trans e13
      have hS13 := hS11.to e1113
      refine p_ret ?_
      refine (show tOp _ _ _ _ _ _ from p_op (hS13.j.meth (vv_at (v := .ref P.j) rfl) (ea_1 (ev_at (v := v11) rfl (h11.to e1113))) fun vs14 H14 e14 hvs14 => ?_))
      have hS14 := hS13.to e14
      refine ⟨(wr, ks), P.j, P.Mj, S.J, vs14, rfl, hvs14, hS14.j, ⟨w10.inv.f3s (by omega), by omega, hwr, j2.len, (by show ks.length < 64; omega), hks⟩, fun v15 H15 M15 J15 hJ15 hd15 hjat15 f15 => ?_⟩
      obtain ⟨w', hw', rfl⟩ := hJ15
      obtain rfl : v15 = .int ((S.J.stamp + 1 : Nat) : Int) := hd15
      obtain ⟨M16, hS15, f16⟩ := hS14.jto hjat15 f15
      obtain rfl := hw'.uniq hm'
      obtain ⟨d, hR, hdat, hdm, hok, hF3⟩ := w10.inv.fin w10.kk (by omega) hwr hmem hw'
      have h13' := Dt.tk f15.tk _ (h13.to e14)
      refine p_ev (d := .int ((S.J.stamp + 1 : Nat) : Int)) ((ev_I0 ((ev_maxM (vv_getK (vv_at (v := .ref st) rfl) (.inl hS15.st) hS15.km) hS15.ms (by show 0 < S.ms.length; omega)).is (by show PyData.int ((S.ms.length - 1 : Nat) : Int) = .int (S.J.stamp : Nat); rw [hmsl, hst]; rfl)) (ev_int (i := 1))).is rfl) fun v16 H16 e16 h16 => ?_
      obtain rfl : v16 = .int ((S.J.stamp + 1 : Nat) : Int) := h16
      have hS16 := hS15.to e16
      refine ⟨rfl, ?_⟩
      rw [decide_eq_true rfl]
      refine ⟨true, rfl, ?_⟩
      rw [if_pos rfl]
      refine p_ev (d := .bool true) ((ev_eqS (ev_reprT (ev_ix (i := 1) (ds := [.int (d.stamp : Nat), wrD w', .str (wordS d)]) (ev_rec ((ev_jl hS16.j (vv_at (v := .ref P.j) rfl) () ea_nil hF3).is hdat) hR hdm) ev_int rfl) (shcW hok)) (ev_reprT (ev_at (v := v13) rfl (h13'.to e16)) (shcW hok))).is (by rw [decide_eq_true rfl])) fun v17 H17 e17 h17 => ?_
      obtain rfl : v17 = .bl true := h17
      exact k H17
end Sp
set_option Elab.async false
set_option linter.all false
set_option maxRecDepth 100000
set_option maxHeartbeats 0
namespace Sp
open PySem PySem.Spec PyProof.Rows L2
def nm0 : List PySem.Str := ["is_integer", "is_below", "is_text", "is_sequence", "is_tuple_of", "map_of", "octet_at", "put_number", "get_number", "put_integer", "get_integer", "signs_by_octets", "put_key", "get_key", "put_text", "get_text", "put_value", "get_value", "put_writes", "get_pairs", "get_writes", "put_entries", "get_entries", "check_sum"]
def nm1 : List PySem.Str := ["pair_of", "sum_octets", "put_frame", "frame_fault", "get_frame", "read_frames", "put_record", "put_image", "get_record", "get_image", "records_of", "base_of", "later_records", "recover", "mend", "is_octets", "is_disk", "octets_behind", "steps_of", "_law_heap", "_law_draw", "_law_pick", "_law_keys", "_law_text"]
def nm2 : List PySem.Str := ["_law_integer", "_law_value", "_law_writes", "_law_map", "_law_begun", "_law_base", "_law_due", "_law_draw_due", "_law_settle_due", "_law_deed", "_law_choices", "_law_numbers", "_law_cut_right", "_law_opened", "_law_mended_right", "StoreError", "InvalidOctets", "InvalidSize", "Refused", "Files", "Journal", "KEY_SIGNS", "TEXT_SIGNS", "LONGEST_KEY"]
def nm3 : List PySem.Str := ["LONGEST_TEXT", "GREATEST", "MOST_OCTETS", "NONE_TAG", "INTEGER_TAG", "TEXT_TAG", "MODULUS", "LONGEST_BODY", "HEAD", "EXTRA", "PLACES", "LOG"]
def nms : List PySem.Str := nm0 ++ nm1 ++ nm2 ++ nm3
abbrev R : PySem.W.OpenRow := PySem.W.OpenLaw.row PySem.Challenge.rw_spelledways_k51_whole_mending_twice_and
/-! the looks: only what the facts ask -/
def dictAs (g : Addr → Option Obj) (a : Addr) : List Addr := match g a with
  | some o => (match o.data with
    | .dict es _ => es.toList.flatMap fun e => He.refV e.val
    | _ => [])
  | none => []
def fnAs (g : Addr → Option Obj) (a : Addr) : List Addr := match g a with
  | some o => (match o.data with
    | .func fd => a :: He.refV fd.code
    | _ => [a])
  | none => []
def topAs (g : Addr → Option Obj) (a : Addr) : List Addr := match g a with
  | some o => (match o.data with
    | .func fd => a :: He.refV fd.code
    | .cls cd => a :: cd.ns :: (dictAs g cd.ns).flatMap (fnAs g)
    | _ => [])
  | none => []
def asS (g : Addr → Option Obj) : List Addr := mainGlobals :: (dictAs g mainGlobals).flatMap (topAs g)
def obS (g : Addr → Option Obj) : He.AlD := He.obsD fa fn (He.frG g (asS g))
def hk : PySem.W.Hook where
  α := He.AlD
  obs := fun s => obS s.heap.get?
  val := fun _ => He.valD fn
  says := fun _ h => ∃ K : PySem.W.Frag, K.In h ∧ He.SaysD fa fn K
  of := fun _ _ e => ⟨_, He.frG_in, e⟩
  keeps := fun _ _ _ ⟨K, hK, c⟩ k => ⟨K, PySem.W.Frag.In.keeps hK k, c⟩
def ob (s : PySem.W.SharedT) : He.AlD := obS (HandSHeadRun.getT s)
theorem ob_eq (s : PySem.W.SharedT) : ob s = hk.obs s.abs := by
  have e : HandSHeadRun.getT s = s.abs.heap.get? := funext (HandSHeadRun.getT_eq s)
  show obS (HandSHeadRun.getT s) = obS s.abs.heap.get?
  rw [e]
theorem run (w : World) : HandSHeadRun.RunEq R (PySem.W.view R.prog [94]) hk ob 100000 nms w := by
  intro os
  kernel_rfl
end Sp
set_option Elab.async false
set_option linter.all false
set_option maxRecDepth 100000
set_option maxHeartbeats 0
namespace Sp
open PySem PySem.Spec PyProof.Rows L2
/-- the script's object -/
abbrev scrO (vs : List Value) : Obj := { cls := .type "list", data := .seq vs.toArray }
/-- the law is entered: nothing is tracked but the script (unless the text owns it), nothing is being shown -/
theorem enter_law {P : Program} {w : World} {K : PySem.W.Frag} {mg mb : Str → Option Value} {k : Nat} {fa a : Addr} {x y : Str} {s : Shared} {vs : List Value} {ns : List Int} {sp : Cn → Sp}
    (hK : K.In s.heap) (hg : s.heap.Ns mainGlobals mg) (hb : s.heap.Ns builtinsNs mb) (hbb : ∀ x : Str, x ≠ "__name__" → mb x = bootBuiltins x) (hl : s.heap.NoLimit) (hgens : s.gens = #[])
    (ho : s.heap.get? a = some (scrO vs)) (hi : IntsAre vs ns) (hn : ns.length ≤ sizeLine) (hr : Room k callerA) (hfa : mg y = some (.ref fa))
    (F : ∀ base : Heap, K.In base → base.Ns mainGlobals mg → Dg ⟨P, w, K, mg, base⟩ y k [x] (sp ⟨P, w, K, mg, base⟩))
    (hsp : ∀ (base : Heap) (H : Hp), SqL K H a (ns.map V.int) → sp ⟨P, w, K, mg, base⟩ [.ref a] H (fun v _ => v = .bl true) E0) :
    codeAny (model P w) callerA (.call (.ref fa) ⟨[.ref a], []⟩) (fun r s' => r = .ok (.ret (.bool true)) ∧ OldK s.heap s'.heap ∧ s'.os = s.os ∧ AllBare s'.gens) s := by
  have hv := vals_ints hi
  have hlen := hi.length
  obtain ⟨H, hH1, hH2⟩ : ∃ H : Hp, (∀ b u, H b = some u → b = a ∧ K.lookup a = none ∧ u = .frz (scrO vs) (.lst (ns.map V.int))) ∧ (K.lookup a = none → H a = some (.frz (scrO vs) (.lst (ns.map V.int)))) := by
    refine ⟨fun b => if b = a ∧ K.lookup a = none then some (.frz (scrO vs) (.lst (ns.map V.int))) else none, fun b u e => ?_, fun q => if_pos ⟨rfl, q⟩⟩
    dsimp only at e
    split at e
    · next q => exact ⟨q.1, q.2, (Option.some.inj e).symm⟩
    · cases e
  have free : ∀ b o, s.heap.get? b = some o → o ≠ scrO vs → H b = none := fun b o e n => by
    cases q : H b with
    | none => rfl
    | some u =>
      obtain ⟨rfl, _⟩ := hH1 b u q
      exact absurd (Option.some.inj (e.symm.trans ho)) n
  have owned : ∀ b o, K.lookup b = some o → H b = none := fun b o e => by
    cases q : H b with
    | none => rfl
    | some u =>
      obtain ⟨rfl, z, _⟩ := hH1 b u q
      rw [z] at e
      cases e
  have hK' : K.In (hidT s.heap H) := fun b o e => hidT_get (hK b o e) (owned b o e)
  have names : ∀ (b : Addr) (m : Str → Option Value), s.heap.Ns b m → (hidT s.heap H).Ns b m := by
    rintro b m ⟨o, es, ep, e, d, r⟩
    exact ⟨o, es, ep, hidT_get e (free b o e fun z => by rw [z] at d; cases d), d, r⟩
  have nolim : (hidT s.heap H).NoLimit := by
    obtain ⟨mc, h1, h2⟩ := hl
    exact ⟨mc, names _ _ h1, h2⟩
  have hok : HOk P w H s.heap := fun b u e => by
    obtain ⟨rfl, _, rfl⟩ := hH1 b u e
    exact ⟨ho, by rw [List.length_map]; exact hn, vs, _, hv, ho⟩
  have hsq : SqL K H a (ns.map V.int) := by
    cases q : K.lookup a with
    | none => exact .inl (.inr ⟨_, hH2 q⟩)
    | some o =>
      obtain rfl : o = scrO vs := Option.some.inj ((hK a o q).symm.trans ho)
      exact .inr ⟨_, vs.toArray, _, q, rfl, rfl, rfl, by rw [List.size_toArray]; omega, by simpa using hv⟩
  have env : Env0 P w K mg (hidT s.heap H) callerA [] s H := { frames := rfl, mod := ⟨hK', names _ _ hg, ⟨mb, names _ _ hb, hbb⟩, nolim⟩, bs := fun b o e => of_hidT e, bsz := Nat.le_of_eq (hidT_size _ _), funs := trivial, frf := fun b m => (by cases m), hok := hok, bare := .of_eq hgens }
  obtain ⟨f, fd, G, hf, _, hbind⟩ := F _ hK' (names _ _ hg)
  have ef : f = fa := Value.ref.inj (Option.some.inj (hf.symm.trans hfa))
  subst ef
  refine codeAny_mono (G.run callerA [] s H ⟨[.ref a], []⟩ [.ref a] [.ref a] (fun v _ => v = .bl true) E0 rfl hr env (hbind s [.ref a] hK rfl) (.cons rfl .nil) (hsp _ H hsq)) fun r s' q => ?_
  match r, q with
  | .error _, q => exact q.elim
  | .ok (.ret u), q =>
    obtain ⟨v, H', q1, q2, q3, q4, q5, q6⟩ := q
    have q6 : v = .bl true := q6
    subst q6
    obtain rfl : u = Value.bool true := q5
    refine ⟨rfl, OldK.of_keep fun b o e => ?_, q1, q2⟩
    cases z : H b with
    | none => exact q3.keep b o e z (by intro m; cases m) (by intro m; cases m)
    | some y =>
      obtain ⟨rfl, _, rfl⟩ := hH1 b y z
      obtain ⟨z1, _⟩ := q4 b _ (q3.frzs b _ _ z)
      rw [z1, ← ho, e]
/-- what the top leaves is what the walk asks for -/
theorem law_at {P : Program} {w : World} {K : PySem.W.Frag} {mg : Str → Option Value} (S : He.SaysD fa fn K) : ∀ base : Heap, K.In base → base.Ns mainGlobals mg → Dg ⟨P, w, K, mg, base⟩ "law" 14 ["_law_script"] (spLaw ⟨P, w, K, mg, base⟩) :=
  fun base hK hg => d_law ⟨base, hK, hg, S⟩
end Sp
open PySem PySem.W PySem.Calls PyProof.Rows
theorem PySem.Challenge.cw_spelledways_k51_whole_mending_twice_and_holds : PySem.Challenge.rw_spelledways_k51_whole_mending_twice_and.Holds := by
  w_on; o_law
  refine HandSHeadRun.head_any (r := Sp.R) (q := view Sp.R.prog [94]) (H := Sp.hk) (ob := Sp.ob) (M := 100000) (loose := Sp.nms) (d := HandSHeadRun.topDef Sp.R.prog 94) (kwd := []) Sp.ob_eq (by kernel_rfl) (fun s => by kernel_rfl) Sp.run (by kernel_rfl) (by kernel_rfl) (by kernel_rfl) (by rfl) (by first | assumption | decide +kernel) (by decide +kernel) ⟨rfl, rfl, rfl, rfl, rfl, by decide +kernel⟩ ?hw ?hc
  case hw => w_witness2
  case hc =>
    refine Att.attach_call (l := PySem.Challenge.rw_spelledways_k51_whole_mending_twice_and) (n := 63) rfl (by kernel_rfl) fun w s₀ s₁ mg mb fa o pm cd doc a vs ns G Y ho hd hcd hmg hobj hints hlen hg => ?_
    obtain ⟨K, hK, S⟩ := Y
    have e : (HandSHeadRun.topDef Sp.R.prog 94).name = ("law" : PySem.Str) := by kernel_rfl
    rw [e] at hmg
    exact Sp.enter_law (sp := Sp.spLaw) (k := 14) (x := "_law_script") hK G.T.g G.T.b G.T.builtins G.T.nolimit hg hobj hints (Nat.le_trans hlen (by decide)) ⟨rfl, by decide, by decide⟩ hmg (Sp.law_at S) fun base H h => ⟨a, ns, rfl, h, fun _ => rfl⟩
