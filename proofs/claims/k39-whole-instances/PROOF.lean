import PyProof.Rows.All
import Wide.All
import OpenK.AllK
import Wide.FinOn
import HandS.ForMost
import HandS.Nested
import HandS.Zip
import HandS.IsInst
import HandS.TupAny
import HandS.Deep
import HandS.Walk
import HandS.DictComp
import HandS.Flow
import HandS.Steps
import HandS.SortKw
import HandS.Lambda
import HandS.Comp
import HandS.Iter
import PyProof.ListNew
import HandS.CallLocal
import HandS.EndTab
import PySem.Challenge.RW_lastproof_k39_whole_instances_conclude_i
section
set_option Elab.async false
set_option linter.all false
set_option maxRecDepth 100000
/-! data in the abstract heap; slots by their contents; what readings come to -/
namespace G3
open PySem PySem.Spec PyProof.Rows L2 LamX NdefX

/-- data that never changes once it is made -/
inductive Dat where
  | non | bl (b : Bool) | int (i : Int) | str (s : Str)
  | tup (l : List Dat)
  | wts (kvs : List (List Int × Int))
  | obj (C : Addr) (fs : List (Str × Dat))

mutual
def Rp (H : Hp) : Dat → V → Prop
  | .non, v => v = V.non
  | .bl b, v => v = V.bl b
  | .int i, v => v = V.int i
  | .str s, v => v = V.str s
  | .tup ds, v => ∃ a xs, v = V.ref a ∧ H a = some (.tup xs) ∧ Rps H ds xs
  | .wts kvs, v => ∃ a, v = V.ref a ∧ H a = some (.dT (kvs.map fun p => (p.1.map Sum.inl, V.int p.2)))
  | .obj C fs, v => ∃ a dx gs, v = V.ref a ∧ H a = some (.ins C dx gs) ∧ Rpf H fs gs
def Rps (H : Hp) : List Dat → List V → Prop
  | [], xs => xs = []
  | d :: ds, xs => ∃ x r, xs = x :: r ∧ Rp H d x ∧ Rps H ds r
def Rpf (H : Hp) : List (Str × Dat) → List (Str × V) → Prop
  | [], gs => ∀ p ∈ gs, p.1 ≠ (Str.ofString "conclusion") ∧ p.1 ≠ (Str.ofString "allowed")
  | p :: fs, gs => (∃ x, gs.lookup p.1 = some x ∧ Rp H p.2 x) ∧ Rpf H fs gs
end

/-- what data leans on is kept -/
structure Stab (H H' : Hp) : Prop where
  t : ∀ a xs, H a = some (.tup xs) → H' a = some (.tup xs)
  w : ∀ a kvs, H a = some (.dT kvs) → H' a = some (.dT kvs)
  i : ∀ a C dx gs, H a = some (.ins C dx gs) → H' a = some (.ins C dx gs)
  x : ∀ a ψ, H a = some (.ext ψ) → H' a = some (.ext ψ)
  c : ∀ a o y, H a = some (.frz o (.own y)) → H' a = some (.frz o (.own y))

mutual
theorem Rp.mono {H H' : Hp} (e : Stab H H') : ∀ (d : Dat) {v : V}, Rp H d v → Rp H' d v
  | .non, _, h => h
  | .bl _, _, h => h
  | .int _, _, h => h
  | .str _, _, h => h
  | .tup ds, _, h => by
    obtain ⟨a, xs, h1, h2, h3⟩ := h
    exact ⟨a, xs, h1, e.t _ _ h2, Rps.mono e ds h3⟩
  | .wts kvs, _, h => by
    obtain ⟨a, h1, h2⟩ := h
    exact ⟨a, h1, e.w _ _ h2⟩
  | .obj C fs, _, h => by
    obtain ⟨a, dx, gs, h1, h2, h3⟩ := h
    exact ⟨a, dx, gs, h1, e.i _ _ _ _ h2, Rpf.mono e fs h3⟩
theorem Rps.mono {H H' : Hp} (e : Stab H H') : ∀ (ds : List Dat) {xs : List V}, Rps H ds xs → Rps H' ds xs
  | [], _, h => h
  | d :: ds, _, h => by
    obtain ⟨x, r, h1, h2, h3⟩ := h
    exact ⟨x, r, h1, Rp.mono e d h2, Rps.mono e ds h3⟩
theorem Rpf.mono {H H' : Hp} (e : Stab H H') : ∀ (fs : List (Str × Dat)) {gs : List (Str × V)}, Rpf H fs gs → Rpf H' fs gs
  | [], _, h => h
  | p :: fs, _, h => by
    obtain ⟨⟨x, h1, h2⟩, h3⟩ := h
    exact ⟨⟨x, h1, Rp.mono e p.2 h2⟩, Rpf.mono e fs h3⟩
end

theorem Rpf.nometh {H : Hp} : ∀ {fs : List (Str × Dat)} {gs : List (Str × V)}, Rpf H fs gs → ∀ p ∈ gs, p.1 ≠ (Str.ofString "conclusion") ∧ p.1 ≠ (Str.ofString "allowed")
  | [], _, h => h
  | _ :: fs, _, h => Rpf.nometh (fs := fs) h.2
theorem Rps.length {H : Hp} : ∀ {ds : List Dat} {xs : List V}, Rps H ds xs → xs.length = ds.length
  | [], _, h => by rw [show _ = [] from h]; rfl
  | d :: ds, _, h => by
    obtain ⟨x, r, rfl, _, h3⟩ := h
    rw [List.length_cons, List.length_cons, Rps.length h3]
theorem Rps.get {H : Hp} : ∀ {ds : List Dat} {xs : List V} {i : Nat} {x : V}, Rps H ds xs → xs[i]? = some x → ∃ d, ds[i]? = some d ∧ Rp H d x
  | [], _, _, _, h, e => by rw [show _ = [] from h] at e; simp at e
  | d :: ds, _, 0, _, h, e => by
    obtain ⟨x, r, rfl, h2, _⟩ := h
    cases e
    exact ⟨d, rfl, h2⟩
  | d :: ds, _, i + 1, _, h, e => by
    obtain ⟨x, r, rfl, _, h3⟩ := h
    exact Rps.get (ds := ds) (i := i) h3 (by simpa using e)
theorem Rps.at {H : Hp} : ∀ {ds : List Dat} {xs : List V} {i : Nat} {d : Dat}, Rps H ds xs → ds[i]? = some d → ∃ x, xs[i]? = some x ∧ Rp H d x
  | [], _, _, _, _, e => by simp at e
  | d :: ds, _, 0, _, h, e => by
    obtain ⟨x, r, rfl, h2, _⟩ := h
    cases e
    exact ⟨x, rfl, h2⟩
  | d :: ds, _, i + 1, _, h, e => by
    obtain ⟨x, r, rfl, _, h3⟩ := h
    exact Rps.at (ds := ds) (i := i) h3 (by simpa using e)
theorem Rps.app {H : Hp} : ∀ {ds es : List Dat} {xs ys : List V}, Rps H ds xs → Rps H es ys → Rps H (ds ++ es) (xs ++ ys)
  | [], _, _, _, h, k => by rw [show _ = [] from h]; exact k
  | d :: ds, _, _, _, h, k => by
    obtain ⟨x, r, rfl, h2, h3⟩ := h
    exact ⟨x, _, rfl, h2, Rps.app h3 k⟩
theorem Rps.one {H : Hp} {d : Dat} {x : V} (h : Rp H d x) : Rps H [d] [x] := ⟨x, [], rfl, h, rfl⟩
theorem Rps.take {H : Hp} : ∀ {ds : List Dat} {xs : List V} (n : Nat), Rps H ds xs → Rps H (ds.take n) (xs.take n)
  | _, _, 0, _ => rfl
  | [], _, n + 1, h => by rw [show _ = [] from h]; rfl
  | d :: ds, _, n + 1, h => by
    obtain ⟨x, r, rfl, h2, h3⟩ := h
    exact ⟨x, _, rfl, h2, Rps.take n h3⟩
theorem Rps.drop {H : Hp} : ∀ {ds : List Dat} {xs : List V} (n : Nat), Rps H ds xs → Rps H (ds.drop n) (xs.drop n)
  | _, _, 0, h => h
  | [], _, n + 1, h => by rw [show _ = [] from h]; rfl
  | d :: ds, _, n + 1, h => by
    obtain ⟨x, r, rfl, _, h3⟩ := h
    exact Rps.drop n h3
theorem Rps.set {H : Hp} {d : Dat} {x : V} (r : Rp H d x) : ∀ {ds : List Dat} {xs : List V} (n : Nat), Rps H ds xs → Rps H (ds.set n d) (xs.set n x)
  | [], _, _, h => by rw [show _ = [] from h]; rfl
  | e :: ds, _, 0, h => by
    obtain ⟨y, t, rfl, _, h3⟩ := h
    exact ⟨x, t, rfl, r, h3⟩
  | e :: ds, _, n + 1, h => by
    obtain ⟨y, t, rfl, h2, h3⟩ := h
    exact ⟨y, _, rfl, h2, Rps.set r n h3⟩
theorem Rps.dropLast {H : Hp} {ds : List Dat} {xs : List V} (h : Rps H ds xs) : Rps H ds.dropLast xs.dropLast := by
  rw [List.dropLast_eq_take, List.dropLast_eq_take, h.length]
  exact h.take _
theorem Rps.ints {H : Hp} : ∀ (ns : List Int), Rps H (ns.map Dat.int) (ns.map V.int)
  | [] => rfl
  | n :: ns => ⟨_, _, rfl, rfl, Rps.ints ns⟩
theorem Rps.ints_eq {H : Hp} : ∀ {ns : List Int} {xs : List V}, Rps H (ns.map Dat.int) xs → xs = ns.map V.int
  | [], _, h => h
  | n :: ns, _, h => by
    obtain ⟨x, r, rfl, h2, h3⟩ := h
    rw [show x = V.int n from h2, Rps.ints_eq h3]
    rfl
theorem Rps.bls_eq {H : Hp} : ∀ {ns : List Bool} {xs : List V}, Rps H (ns.map Dat.bl) xs → xs = ns.map V.bl
  | [], _, h => h
  | n :: ns, _, h => by
    obtain ⟨x, r, rfl, h2, h3⟩ := h
    rw [show x = V.bl n from h2, Rps.bls_eq h3]
    rfl

/-- the entries of a dict with int keys -/
def Rpk (H : Hp) : List (Int × Dat) → List (Key × V) → Prop
  | [], ys => ys = []
  | p :: r, ys => ∃ x t, ys = (Sum.inl p.1, x) :: t ∧ Rp H p.2 x ∧ Rpk H r t
theorem Rpk.mono {H H' : Hp} (e : Stab H H') : ∀ {kvs : List (Int × Dat)} {ys : List (Key × V)}, Rpk H kvs ys → Rpk H' kvs ys
  | [], _, h => h
  | p :: r, _, h => by
    obtain ⟨x, t, h1, h2, h3⟩ := h
    exact ⟨x, t, h1, Rp.mono e _ h2, Rpk.mono e h3⟩
theorem Rpk.length {H : Hp} : ∀ {kvs : List (Int × Dat)} {ys : List (Key × V)}, Rpk H kvs ys → ys.length = kvs.length
  | [], _, h => by rw [show _ = [] from h]; rfl
  | p :: r, _, h => by
    obtain ⟨x, t, rfl, _, h3⟩ := h
    rw [List.length_cons, List.length_cons, Rpk.length h3]
/-- what a table of int keys holds -/
def getI {α : Type} (kvs : List (Int × α)) (k : Int) : Option α := (kvs.find? fun p => decide (p.1 = k)).map (·.2)
def putI {α : Type} (kvs : List (Int × α)) (k : Int) (d : α) : List (Int × α) := if kvs.any (fun p => decide (p.1 = k)) then kvs.map (fun p => if p.1 = k then (p.1, d) else p) else kvs ++ [(k, d)]
theorem getI_nil {α : Type} {k : Int} : getI ([] : List (Int × α)) k = none := rfl
theorem getI_pos {α : Type} {p : Int × α} {r : List (Int × α)} {k : Int} (e : p.1 = k) : getI (p :: r) k = some p.2 := by simp [getI, List.find?_cons, e]
theorem getI_neg {α : Type} {p : Int × α} {r : List (Int × α)} {k : Int} (e : ¬ p.1 = k) : getI (p :: r) k = getI r k := by simp [getI, List.find?_cons, e]
theorem Rpk.get {H : Hp} {k : Int} : ∀ {kvs : List (Int × Dat)} {ys : List (Key × V)}, Rpk H kvs ys →
    (getI kvs k = none ∧ valV ys (Sum.inl k) = none) ∨ ∃ d x, getI kvs k = some d ∧ valV ys (Sum.inl k) = some x ∧ Rp H d x
  | [], _, h => by rw [show _ = [] from h]; exact .inl ⟨rfl, rfl⟩
  | p :: r, _, h => by
    obtain ⟨x, t, rfl, h2, h3⟩ := h
    by_cases e : p.1 = k
    · exact .inr ⟨p.2, x, getI_pos e, valV_pos (by rw [e]), h2⟩
    · have e' : ¬ ((Sum.inl p.1 : Key), x).1 = Sum.inl k := fun z => e (Sum.inl.inj z)
      rw [getI_neg e, valV_neg e']
      exact Rpk.get h3
theorem Rpk.any {H : Hp} {k : Int} : ∀ {kvs : List (Int × Dat)} {ys : List (Key × V)}, Rpk H kvs ys → (ys.any fun kv => decide (kv.1 = Sum.inl k)) = kvs.any fun p => decide (p.1 = k)
  | [], _, h => by rw [show _ = [] from h]; rfl
  | p :: r, _, h => by
    obtain ⟨x, t, rfl, _, h3⟩ := h
    rw [List.any_cons, List.any_cons, Rpk.any h3]
    congr 1
    by_cases e : p.1 = k
    · rw [decide_eq_true e, decide_eq_true (by rw [e])]
    · rw [decide_eq_false e, decide_eq_false fun z => e (Sum.inl.inj z)]
theorem Rpk.app {H : Hp} : ∀ {kvs ls : List (Int × Dat)} {ys zs : List (Key × V)}, Rpk H kvs ys → Rpk H ls zs → Rpk H (kvs ++ ls) (ys ++ zs)
  | [], _, _, _, h, k => by rw [show _ = [] from h]; exact k
  | p :: r, _, _, _, h, k => by
    obtain ⟨x, t, rfl, h2, h3⟩ := h
    exact ⟨x, _, rfl, h2, Rpk.app h3 k⟩
theorem Rpk.repl {H : Hp} {k : Int} {d : Dat} {v : V} (hv : Rp H d v) : ∀ {kvs : List (Int × Dat)} {ys : List (Key × V)}, Rpk H kvs ys →
    Rpk H (kvs.map fun p => if p.1 = k then (p.1, d) else p) (ys.map fun kv => if kv.1 = Sum.inl k then (kv.1, v) else kv)
  | [], _, h => by rw [show _ = [] from h]; rfl
  | p :: r, _, h => by
    obtain ⟨x, t, rfl, h2, h3⟩ := h
    rw [List.map_cons, List.map_cons]
    by_cases e : p.1 = k
    · rw [if_pos e, if_pos (show ((Sum.inl p.1 : Key), x).1 = Sum.inl k by rw [e])]
      exact ⟨v, _, rfl, hv, Rpk.repl hv h3⟩
    · rw [if_neg e, if_neg (show ¬ ((Sum.inl p.1 : Key), x).1 = Sum.inl k from fun z => e (Sum.inl.inj z))]
      exact ⟨x, _, rfl, h2, Rpk.repl hv h3⟩
theorem Rpk.put {H : Hp} {k : Int} {d : Dat} {v : V} (hv : Rp H d v) {kvs : List (Int × Dat)} {ys : List (Key × V)} (h : Rpk H kvs ys) : Rpk H (putI kvs k d) (putK ys (Sum.inl k) v) := by
  unfold putI putK
  rw [Rpk.any h]
  split
  · exact Rpk.repl hv h
  · exact h.app ⟨v, [], rfl, hv, rfl⟩
theorem Rpk.at {H : Hp} : ∀ {kvs : List (Int × Dat)} {ys : List (Key × V)} {i : Nat} {k : Key} {x : V}, Rpk H kvs ys → ys[i]? = some (k, x) → ∃ p, kvs[i]? = some p ∧ k = Sum.inl p.1 ∧ Rp H p.2 x
  | [], _, _, _, _, h, e => by rw [show _ = [] from h] at e; simp at e
  | p :: r, _, 0, _, _, h, e => by
    obtain ⟨x, t, rfl, h2, _⟩ := h
    cases e
    exact ⟨p, rfl, rfl, h2⟩
  | p :: r, _, i + 1, _, _, h, e => by
    obtain ⟨x, t, rfl, _, h3⟩ := h
    exact Rpk.at (i := i) h3 (by simpa using e)

/-! ### heaps that grow -/
structure Gr (H H' : Hp) : Prop where
  e : ExtN H H'
  n : ∀ b, H' b = none → H b = none
theorem Gr.refl (H : Hp) : Gr H H := ⟨ExtN.refl H, fun _ h => h⟩
theorem Gr.trans {H H1 H2 : Hp} (a : Gr H H1) (b : Gr H1 H2) : Gr H H2 := ⟨a.e.trans b.e, fun c h => a.n c (b.n c h)⟩
theorem Gr.new {H : Hp} {p : Addr} {o : HO} (h : H p = none) : Gr H (upd H p o) := by
  refine ⟨fun b u e n => ?_, fun b e => ?_⟩
  · rw [upd_ne (ne_of_none e h)]; exact e
  · by_cases hb : b = p
    · rw [hb]; exact h
    · rw [upd_ne hb] at e; exact e
theorem Gr.stab {H H' : Hp} (g : Gr H H') : Stab H H' :=
  ⟨fun a xs h => g.e a _ h (fun _ z => nomatch z), fun a xs h => g.e a _ h (fun _ z => nomatch z), fun a C dx gs h => g.e a _ h (fun _ z => nomatch z), fun a ψ h => g.e a _ h (fun _ z => nomatch z), fun a o y h => g.e a _ h (fun _ z => nomatch z)⟩
theorem Gr.lst {H H' : Hp} (g : Gr H H') {a : Addr} {xs : List V} (h : H a = some (.lst xs)) : H' a = some (.lst xs) := g.e a _ h (fun _ z => nomatch z)
theorem Gr.dk {H H' : Hp} (g : Gr H H') {a : Addr} {xs : List (Key × V)} (h : H a = some (.dK xs)) : H' a = some (.dK xs) := g.e a _ h (fun _ z => nomatch z)
theorem Gr.frz {H H' : Hp} (g : Gr H H') {a : Addr} {o : Obj} {u : HO} (h : H a = some (.frz o u)) : H' a = some (.frz o u) := g.e a _ h (fun _ z => nomatch z)
theorem Gr.rd {H H' : Hp} (g : Gr H H') {a : Addr} {xs : List (Key × V)} (h : Rd H a (.dK xs)) : Rd H' a (.dK xs) := by
  rcases h with h | ⟨o, h⟩
  · exact .inl (g.dk h)
  · exact .inr ⟨o, g.frz h⟩
theorem Gr.sqL {K : PySem.W.Frag} {H H' : Hp} (g : Gr H H') {a : Addr} {xs : List V} (h : SqL K H a xs) : SqL K H' a xs := by
  rcases h with (h | ⟨o, h⟩) | h
  · exact .inl (.inl (g.lst h))
  · exact .inl (.inr ⟨o, g.frz h⟩)
  · exact .inr h

/-! ### what a slot or a value holds -/
inductive Sl where
  | sh (d : Dat)
  | lst (ds : List Dat) | own (ds : List Dat) | at (b : Addr) (ds : List Dat)
  | dct (kvs : List (Int × Dat)) | dcx (kvs : List (Int × Dat)) | ownD (kvs : List (Int × Dat))
  | scr (ns : List Int)
  | raw (v : V)
  | fn (φ : Hp → V → Prop)
def Sl.owned : Sl → Bool
  | .own _ => true | .at _ _ => true | .ownD _ => true | _ => false
/-- a container that might be written -/
def Sl.cont : Sl → Bool
  | .own _ => true | .at _ _ => true | .ownD _ => true | .lst _ => true | .dct _ => true | .dcx _ => true | _ => false

section
variable (K : PySem.W.Frag) (T : List NTab)
def SlOk (H0 H : Hp) : Sl → V → Prop
  | .sh d, v => Rp H d v
  | .lst ds, v => ∃ a xs, v = .ref a ∧ H a = some (.lst xs) ∧ Rps H ds xs
  | .own ds, v => ∃ a xs, v = .ref a ∧ H a = some (.lst xs) ∧ Rps H ds xs ∧ H0 a = none
  | .at b ds, v => ∃ a xs, v = .ref a ∧ H a = some (.lst xs) ∧ Rps H ds xs ∧ H0 a = none ∧ a = b
  | .dct kvs, v => ∃ a ys, v = .ref a ∧ Rd H a (.dK ys) ∧ Rpk H kvs ys
  | .dcx kvs, v => ∃ a ys, v = .ref a ∧ H a = some (.dK ys) ∧ Rpk H kvs ys
  | .ownD kvs, v => ∃ a ys, v = .ref a ∧ H a = some (.dK ys) ∧ Rpk H kvs ys ∧ H0 a = none
  | .scr ns, v => ∃ a, v = .ref a ∧ SqL K H a (ns.map V.int)
  | .raw u, v => v = u
  | .fn φ, v => φ H v ∧ ∀ H1 H2 v, Stab H1 H2 → φ H1 v → φ H2 v
end
theorem SlOk.grow {K : PySem.W.Frag} {H0 H H' : Hp} (g : Gr H H') : ∀ {s : Sl} {v : V}, SlOk K H0 H s v → SlOk K H0 H' s v
  | .sh d, _, h => Rp.mono g.stab d h
  | .lst ds, _, h => let ⟨a, xs, h1, h2, h3⟩ := h; ⟨a, xs, h1, g.lst h2, Rps.mono g.stab ds h3⟩
  | .own ds, _, h => let ⟨a, xs, h1, h2, h3, h4⟩ := h; ⟨a, xs, h1, g.lst h2, Rps.mono g.stab ds h3, h4⟩
  | .at _ ds, _, h => let ⟨a, xs, h1, h2, h3, h4⟩ := h; ⟨a, xs, h1, g.lst h2, Rps.mono g.stab ds h3, h4⟩
  | .dct ds, _, h => let ⟨a, xs, h1, h2, h3⟩ := h; ⟨a, xs, h1, g.rd h2, Rpk.mono g.stab h3⟩
  | .dcx ds, _, h => let ⟨a, xs, h1, h2, h3⟩ := h; ⟨a, xs, h1, g.dk h2, Rpk.mono g.stab h3⟩
  | .ownD ds, _, h => let ⟨a, xs, h1, h2, h3, h4⟩ := h; ⟨a, xs, h1, g.dk h2, Rpk.mono g.stab h3, h4⟩
  | .scr ns, _, h => let ⟨a, h1, h2⟩ := h; ⟨a, h1, g.sqL h2⟩
  | .raw _, _, h => h
  | .fn _, _, h => ⟨h.2 _ _ _ g.stab h.1, h.2⟩
theorem SlOk.base {K : PySem.W.Frag} {H0 H0' H : Hp} (g : ∀ b, H0' b = none → H0 b = none) : ∀ {s : Sl} {v : V}, SlOk K H0' H s v → SlOk K H0 H s v
  | .sh _, _, h => h
  | .lst _, _, h => h
  | .own _, _, h => let ⟨a, xs, h1, h2, h3, h4⟩ := h; ⟨a, xs, h1, h2, h3, g _ h4⟩
  | .at _ _, _, h => let ⟨a, xs, h1, h2, h3, h4, h5⟩ := h; ⟨a, xs, h1, h2, h3, g _ h4, h5⟩
  | .dct _, _, h => h
  | .dcx _, _, h => h
  | .ownD _, _, h => let ⟨a, xs, h1, h2, h3, h4⟩ := h; ⟨a, xs, h1, h2, h3, g _ h4⟩
  | .scr _, _, h => h
  | .raw _, _, h => h
  | .fn _, _, h => h

abbrev AS := List (Option Sl)

/-- the slots σ over the heap H, since H0, are as δ says -/
structure Rel (K : PySem.W.Frag) (T : List NTab) (H0 H : Hp) (σ : L2.St) (δ : AS) : Prop where
  ext : Gr H0 H
  tabs : TabsN T H
  len : σ.length = δ.length
  ok : ∀ (i : Nat) (s : Sl), δ[i]? = some (some s) → ∃ v, σ[i]? = some (some v) ∧ SlOk K H0 H s v
  ap : ∀ (i j : Nat) (a : Addr) (si sj : Sl), δ[i]? = some (some si) → si.owned = true → δ[j]? = some (some sj) → sj.cont = true → σ[i]? = some (some (.ref a)) → σ[j]? = some (some (.ref a)) → i = j

section
variable {K : PySem.W.Frag} {T : List NTab} {H0 H H' : Hp} {σ : L2.St} {δ : AS}
theorem Rel.grow (r : Rel K T H0 H σ δ) (g : Gr H H') (t : TabsN T H') : Rel K T H0 H' σ δ :=
  ⟨r.ext.trans g, t, r.len, fun i s e => let ⟨v, h1, h2⟩ := r.ok i s e; ⟨v, h1, h2.grow g⟩, r.ap⟩

/-- te, from slots as δ says, comes to a value as s says; nothing that is there changes -/
def Ev (K : PySem.W.Frag) (T : List NTab) (te : TE) (δ : AS) (s : Sl) : Prop := ∀ H0 H σ, Rel K T H0 H σ δ → ∀ Q : VK, (∀ v H', Gr H H' → TabsN T H' → SlOk K H H' s v → Q v H') → te σ H Q
def EvA (K : PySem.W.Frag) (T : List NTab) (ta : TA) (δ : AS) (ss : List Sl) : Prop := ∀ H0 H σ, Rel K T H0 H σ δ → ∀ Q : List V → Hp → Prop, (∀ vs H', Gr H H' → TabsN T H' → Paired (SlOk K H H') ss vs → Q vs H') → ta σ H Q
def EvT (K : PySem.W.Frag) (T : List NTab) (tt : TT) (δ : AS) (b : Bool) : Prop := ∀ H0 H σ, Rel K T H0 H σ δ → ∀ Q : Bool → Hp → Prop, (∀ H', Gr H H' → TabsN T H' → Q b H') → tt σ H Q
def EvO (K : PySem.W.Frag) (T : List NTab) (to : TO) (δ : AS) (o : Option Int) : Prop := ∀ H0 H σ, Rel K T H0 H σ δ → ∀ Q : Option Int → Hp → Prop, (∀ H', Gr H H' → TabsN T H' → Q o H') → to σ H Q

theorem Paired.mapG {ss : List Sl} {vs : List V} {F G : Sl → V → Prop} (p : Paired F ss vs) (h : ∀ s v, F s v → G s v) : Paired G ss vs := L2.Paired.mapP p h
/-- values got on the way stay -/
theorem SlOk.over {H1 H2 : Hp} {s : Sl} {v : V} (h : SlOk K H H1 s v) (g : Gr H1 H2) : SlOk K H H2 s v := h.grow g

theorem ev_var {i : Nat} {s : Sl} (h : δ[i]? = some (some s)) (ho : s.owned = false) : Ev K T (tVar i) δ s := fun H0 H σ r Q q => by
  obtain ⟨v, h1, h2⟩ := r.ok i s h
  refine ⟨v, h1, q v H (Gr.refl H) r.tabs ?_⟩
  cases s <;> first | exact h2 | (exact absurd ho (by simp [Sl.owned]))
/-- an own list, read -/
theorem ev_own {i : Nat} {ds : List Dat} (h : δ[i]? = some (some (.own ds))) : Ev K T (tVar i) δ (.lst ds) := fun H0 H σ r Q q => by
  obtain ⟨v, h1, a, xs, h2, h3, h4, _⟩ := r.ok i _ h
  exact ⟨v, h1, q v H (Gr.refl H) r.tabs ⟨a, xs, h2, h3, h4⟩⟩
theorem ev_dcx {i : Nat} {ds : List (Int × Dat)} (h : δ[i]? = some (some (.dcx ds))) : Ev K T (tVar i) δ (.dct ds) := fun H0 H σ r Q q => by
  obtain ⟨v, h1, a, xs, h2, h3, h4⟩ := r.ok i _ h
  exact ⟨v, h1, q v H (Gr.refl H) r.tabs ⟨a, xs, h2, .inl h3, h4⟩⟩
/-- an own dict, handed on -/
theorem ev_ownX {i : Nat} {ds : List (Int × Dat)} (h : δ[i]? = some (some (.ownD ds))) : Ev K T (tVar i) δ (.dcx ds) := fun H0 H σ r Q q => by
  obtain ⟨v, h1, a, xs, h2, h3, h4, _⟩ := r.ok i _ h
  exact ⟨v, h1, q v H (Gr.refl H) r.tabs ⟨a, xs, h2, h3, h4⟩⟩
theorem Ev.toX {te : TE} {ds : List (Int × Dat)} (h : Ev K T te δ (.ownD ds)) : Ev K T te δ (.dcx ds) := fun H0 H σ r Q q =>
  h H0 H σ r Q fun v H' g t ⟨a, xs, h1, h2, h3, _⟩ => q v H' g t ⟨a, xs, h1, h2, h3⟩
theorem ev_ownD {i : Nat} {ds : List (Int × Dat)} (h : δ[i]? = some (some (.ownD ds))) : Ev K T (tVar i) δ (.dct ds) := fun H0 H σ r Q q => by
  obtain ⟨v, h1, a, xs, h2, h3, h4, _⟩ := r.ok i _ h
  exact ⟨v, h1, q v H (Gr.refl H) r.tabs ⟨a, xs, h2, .inl h3, h4⟩⟩
theorem ev_int {i : Int} : Ev K T (tC (.int i)) δ (.sh (.int i)) := fun H0 H σ r Q q => q _ H (Gr.refl H) r.tabs rfl
theorem ev_bl {b : Bool} : Ev K T (tC (.bl b)) δ (.sh (.bl b)) := fun H0 H σ r Q q => q _ H (Gr.refl H) r.tabs rfl
theorem ev_str {b : Str} : Ev K T (tC (.str b)) δ (.sh (.str b)) := fun H0 H σ r Q q => q _ H (Gr.refl H) r.tabs rfl
theorem ev_non : Ev K T (tC .non) δ (.sh .non) := fun H0 H σ r Q q => q _ H (Gr.refl H) r.tabs rfl
theorem ev_raw {v : V} : Ev K T (tC v) δ (.raw v) := fun H0 H σ r Q q => q _ H (Gr.refl H) r.tabs rfl
/-- an own thing is a thing -/
theorem Ev.shared {te : TE} {ds : List Dat} (h : Ev K T te δ (.own ds)) : Ev K T te δ (.lst ds) := fun H0 H σ r Q q =>
  h H0 H σ r Q fun v H' g t ⟨a, xs, h1, h2, h3, _⟩ => q v H' g t ⟨a, xs, h1, h2, h3⟩
theorem Ev.sharedD {te : TE} {ds : List (Int × Dat)} (h : Ev K T te δ (.ownD ds)) : Ev K T te δ (.dct ds) := fun H0 H σ r Q q =>
  h H0 H σ r Q fun v H' g t ⟨a, xs, h1, h2, h3, _⟩ => q v H' g t ⟨a, xs, h1, .inl h2, h3⟩
theorem Ev.of_eq {te : TE} {s s' : Sl} (h : Ev K T te δ s) (e : s = s') : Ev K T te δ s' := e ▸ h
theorem EvT.of_eq {te : TT} {s s' : Bool} (h : EvT K T te δ s) (e : s = s') : EvT K T te δ s' := e ▸ h

theorem ea_nil : EvA K T tNil δ [] := fun H0 H σ r Q q => q [] H (Gr.refl H) r.tabs .nil
theorem ea_cons {te : TE} {ta : TA} {s : Sl} {ss : List Sl} (h : Ev K T te δ s) (k : EvA K T ta δ ss) : EvA K T (tCons te ta) δ (s :: ss) := fun H0 H σ r Q q =>
  h H0 H σ r _ fun v H1 g1 t1 o1 => k H0 H1 σ (r.grow g1 t1) _ fun vs H2 g2 t2 o2 => q _ H2 (g1.trans g2) t2 (.cons (o1.over g2) (Paired.mapG o2 fun s v h => h.base g1.n))
theorem Paired.shs {H H' : Hp} : ∀ {ds : List Dat} {vs : List V}, Paired (SlOk K H H') (ds.map Sl.sh) vs → Rps H' ds vs
  | [], _, h => by cases h; rfl
  | d :: ds, _, h => by
    cases h with
    | cons a b => exact ⟨_, _, rfl, a, Paired.shs b⟩
theorem ev_tup {ta : TA} {ds : List Dat} (h : EvA K T ta δ (ds.map Sl.sh)) (hl : ds.length ≤ 10000 := by exact Nat.le_of_ble_eq_true rfl) : Ev K T (tTup ta) δ (.sh (.tup ds)) := fun H0 H σ r Q q =>
  h H0 H σ r _ fun vs H1 g1 t1 o1 => by
    have rs := Paired.shs o1
    refine ⟨Nat.le_trans (by rw [rs.length]; exact hl) (by decide), fun p np => ?_⟩
    have g2 : Gr H1 (upd H1 p (.tup vs)) := .new np
    exact q _ _ (g1.trans g2) (t1.ext fun b o e => by rw [upd_ne (ne_of_none e np)]; exact e) ⟨p, vs, rfl, upd_same, Rps.mono g2.stab _ rs⟩
theorem ev_lst {ta : TA} {ds : List Dat} (h : EvA K T ta δ (ds.map Sl.sh)) (hl : ds.length ≤ 10000 := by exact Nat.le_of_ble_eq_true rfl) : Ev K T (tLst ta) δ (.own ds) := fun H0 H σ r Q q =>
  h H0 H σ r _ fun vs H1 g1 t1 o1 => by
    have rs := Paired.shs o1
    refine ⟨Nat.le_trans (by rw [rs.length]; exact hl) (by decide), fun p np => ?_⟩
    have g2 : Gr H1 (upd H1 p (.lst vs)) := .new np
    exact q _ _ (g1.trans g2) (t1.ext fun b o e => by rw [upd_ne (ne_of_none e np)]; exact e) ⟨p, vs, rfl, upd_same, Rps.mono g2.stab _ rs, g1.n _ np⟩
theorem TabsN.new {H : Hp} {p : Addr} {o : HO} (t : TabsN T H) (np : H p = none) : TabsN T (upd H p o) := t.ext fun b u e => by rw [upd_ne (ne_of_none e np)]; exact e
end
end G3
end

section
set_option Elab.async false
set_option linter.all false
set_option maxRecDepth 100000
namespace G3
open PySem PySem.Spec PyProof.Rows L2 LamX NdefX

section
variable {K : PySem.W.Frag} {T : List NTab} {H0 H H' : Hp} {σ : L2.St} {δ : AS}
theorem sz {n : Nat} (h : n ≤ 100000) : n ≤ sizeLine := Nat.le_trans h (by decide)
theorem szl {n : Nat} (h : n ≤ 100000) : n < sizeLine := Nat.lt_of_le_of_lt h (by decide)
theorem TabsN.lstUpd {T : List NTab} {H : Hp} {p : Addr} {o u : HO} (t : TabsN T H) (hp : H p = some u) (h1 : ∀ ps, u ≠ .tbl ps) (h2 : ∀ φ, u ≠ .ext φ) : TabsN T (upd H p o) := fun q hq => by
  obtain ⟨ps, a, b, c⟩ := t q hq
  have n1 : q.1 ≠ p := fun e => by rw [e, hp] at a; exact h1 _ (Option.some.inj a)
  refine ⟨ps, by rw [upd_ne n1]; exact a, b, fun pos cv hc => ?_⟩
  obtain ⟨k, e1, e2⟩ := c pos cv hc
  have n2 : k ≠ p := fun e => by rw [e, hp] at e2; exact h2 _ (Option.some.inj e2)
  exact ⟨k, e1, by rw [upd_ne n2]; exact e2⟩

/-! ### statements -/
structure Kon where
  nx : AS → Prop
  rt : Sl → Prop
  bk : AS → Prop := fun _ => False
  ct : AS → Prop := fun _ => False
structure KOk (K : PySem.W.Frag) (T : List NTab) (H0 : Hp) (k : Kon) (D : Ends) : Prop where
  nx : ∀ H σ δ, Rel K T H0 H σ δ → k.nx δ → D.nx σ H
  rt : ∀ H v s, Gr H0 H → TabsN T H → SlOk K H0 H s v → k.rt s → D.rt v H
  bk : ∀ H σ δ, Rel K T H0 H σ δ → k.bk δ → D.bk σ H
  ct : ∀ H σ δ, Rel K T H0 H σ δ → k.ct δ → D.ct σ H
def Sx (K : PySem.W.Frag) (T : List NTab) (ts : TS) (δ : AS) (k : Kon) : Prop := ∀ H0 H σ D, Rel K T H0 H σ δ → KOk K T H0 k D → ts D σ H

variable {te : TE} {tt : TT} {t u : TS} {k : Kon} {s : Sl}
theorem sx_next (h : k.nx δ) : Sx K T tNext δ k := fun H0 H σ D r o => o.nx H σ δ r h
theorem sx_break (h : k.bk δ) : Sx K T tBreak δ k := fun H0 H σ D r o => o.bk H σ δ r h
theorem sx_cont (h : k.ct δ) : Sx K T tCont δ k := fun H0 H σ D r o => o.ct H σ δ r h
theorem sx_seq (h : Sx K T t δ { k with nx := fun δ' => Sx K T u δ' k }) : Sx K T (tSeq t u) δ k := fun H0 H σ D r o =>
  h H0 H σ { D with nx := u D } r ⟨fun H σ δ r q => q H0 H σ D r o, o.rt, o.bk, o.ct⟩
theorem sx_if {b : Bool} (h : EvT K T tt δ b) (h1 : b = true → Sx K T t δ k) (h2 : b = false → Sx K T u δ k) : Sx K T (tIfS tt t u) δ k := fun H0 H σ D r o =>
  h H0 H σ r _ fun H' g tb => by
    have r' := r.grow g tb
    cases b with
    | true => exact h1 rfl H0 H' σ D r' o
    | false => exact h2 rfl H0 H' σ D r' o
theorem sx_ret (h : Ev K T te δ s) (q : k.rt s) : Sx K T (tRet te) δ k := fun H0 H σ D r o =>
  h H0 H σ r _ fun v H' g tb hv => o.rt H' v s (r.ext.trans g) tb (hv.base r.ext.n) q
theorem sx_retOwn {i : Nat} {ds : List Dat} (h : δ[i]? = some (some (.own ds))) (q : k.rt (.own ds)) : Sx K T (tRet (tVar i)) δ k := fun H0 H σ D r o => by
  obtain ⟨v, h1, h2⟩ := r.ok i _ h
  exact ⟨v, h1, o.rt H v _ r.ext r.tabs h2 q⟩
theorem sx_retOwnD {i : Nat} {ds : List (Int × Dat)} (h : δ[i]? = some (some (.ownD ds))) (q : k.rt (.ownD ds)) : Sx K T (tRet (tVar i)) δ k := fun H0 H σ D r o => by
  obtain ⟨v, h1, h2⟩ := r.ok i _ h
  exact ⟨v, h1, o.rt H v _ r.ext r.tabs h2 q⟩
theorem sx_retN (q : k.rt (.sh .non)) : Sx K T tRetN δ k := fun H0 H σ D r o => o.rt H .non (.sh .non) r.ext r.tabs rfl q
theorem sx_drop (h : Ev K T te δ s) (q : k.nx δ) : Sx K T (tDrop te) δ k := fun H0 H σ D r o =>
  h H0 H σ r _ fun v H' g tb hv => o.nx H' σ δ (r.grow g tb) q

/-- where a container's address comes from, it is tracked -/
theorem SlOk.there {s : Sl} {a : Addr} (h : SlOk K H0 H s (.ref a)) (c : s.cont = true) : H a ≠ none := by
  cases s with
  | own ds =>
    obtain ⟨b, xs, e, h2, _⟩ := h
    cases e
    rw [h2]; simp
  | «at» _ ds =>
    obtain ⟨b, xs, e, h2, _⟩ := h
    cases e
    rw [h2]; simp
  | lst ds =>
    obtain ⟨b, xs, e, h2, _⟩ := h
    cases e
    rw [h2]; simp
  | ownD ds =>
    obtain ⟨b, xs, e, h2, _⟩ := h
    cases e
    rw [h2]; simp
  | dcx ds =>
    obtain ⟨b, xs, e, h2, _⟩ := h
    cases e
    rw [h2]; simp
  | dct ds =>
    obtain ⟨b, xs, e, h2, _⟩ := h
    cases e
    rcases h2 with h2 | ⟨o, h2⟩ <;> (rw [h2]; simp)
  | _ => exact absurd c (by simp [Sl.cont])
theorem SlOk.fresh {s : Sl} {a : Addr} (h : SlOk K H0 H s (.ref a)) (c : s.owned = true) : H0 a = none := by
  cases s with
  | own ds =>
    obtain ⟨b, xs, e, _, _, h2⟩ := h
    cases e
    exact h2
  | «at» _ ds =>
    obtain ⟨b, xs, e, _, _, h2, _⟩ := h
    cases e
    exact h2
  | ownD ds =>
    obtain ⟨b, xs, e, _, _, h2⟩ := h
    cases e
    exact h2
  | _ => exact absurd c (by simp [Sl.owned])
def noOwn : AS → Bool
  | [] => true
  | none :: r => noOwn r
  | some s :: r => !s.owned && noOwn r
theorem noOwn_at : ∀ {δ : AS} {i : Nat} {s : Sl}, noOwn δ = true → δ[i]? = some (some s) → s.owned = false
  | [], _, _, _, e => by simp at e
  | none :: r, 0, _, _, e => by simp at e
  | none :: r, i + 1, _, h, e => noOwn_at (δ := r) (i := i) h (by simpa using e)
  | some s :: r, 0, _, h, e => by
    unfold noOwn at h
    simp only [Bool.and_eq_true, Bool.not_eq_true'] at h
    simp only [List.length_cons, Nat.zero_lt_succ, getElem?_pos, List.getElem_cons_zero, Option.some.injEq] at e
    rw [← e]; exact h.1
  | some s :: r, i + 1, _, h, e => by
    unfold noOwn at h
    simp only [Bool.and_eq_true, Bool.not_eq_true'] at h
    exact noOwn_at (δ := r) (i := i) h.2 (by simpa using e)
def setOk (δ : AS) (i : Nat) (s : Sl) : Bool := s.owned || !s.cont || noOwn (δ.set i none)
theorem set_at {α : Type} {l : List α} {i j : Nat} {x y : α} (e : (l.set i x)[j]? = some y) : (i = j ∧ y = x) ∨ (i ≠ j ∧ l[j]? = some y) := by
  by_cases h : i = j
  · subst h
    by_cases hl : i < l.length
    · rw [List.getElem?_set_self hl] at e
      exact .inl ⟨rfl, (Option.some.inj e).symm⟩
    · rw [List.getElem?_eq_none (by simpa using hl)] at e; cases e
  · rw [List.getElem?_set_ne h] at e
    exact .inr ⟨h, e⟩
theorem Rel.set {i : Nat} {v : V} (r : Rel K T H0 H σ δ) (hv : SlOk K H0 H s v) (hf : s.owned = true → ∀ a : Addr, v = V.ref a → ∀ (j : Nat) (sj : Sl), δ[j]? = some (some sj) → sj.cont = true → σ[j]? = some (some (.ref a)) → j = i)
    (hs : setOk δ i s = true) : Rel K T H0 H (σ.set i (some v)) (δ.set i (some s)) := by
  refine ⟨r.ext, r.tabs, by simpa using r.len, fun j sj e => ?_, fun j l a sj sl ej oj el cl vj vl => ?_⟩
  · rcases set_at e with ⟨rfl, e2⟩ | ⟨ne, e2⟩
    · cases e2
      have hl : i < δ.length := by
        by_cases hl : i < δ.length
        · exact hl
        · rw [List.getElem?_eq_none (by simpa using hl)] at e; cases e
      exact ⟨v, by rw [List.getElem?_set_self (by rw [r.len]; exact hl)], hv⟩
    · obtain ⟨w', h1, h2⟩ := r.ok j sj e2
      exact ⟨w', by rw [List.getElem?_set_ne ne]; exact h1, h2⟩
  · rcases set_at ej with ⟨rfl, e2⟩ | ⟨ne, e2⟩
    · cases e2
      rcases set_at el with ⟨e3, _⟩ | ⟨ne3, e3⟩
      · exact e3
      · have v1 : v = .ref a := by
          rcases set_at vj with ⟨_, z⟩ | ⟨z, _⟩
          · exact (Option.some.inj z).symm
          · exact absurd rfl z
        rw [List.getElem?_set_ne ne3] at vl
        exact (hf oj a v1 l sl e3 cl vl).symm
    · rcases set_at el with ⟨e3, e4⟩ | ⟨ne3, e3⟩
      · cases e4
        subst e3
        rw [List.getElem?_set_ne ne] at vj
        have v1 : v = .ref a := by
          rcases set_at vl with ⟨_, z⟩ | ⟨z, _⟩
          · exact (Option.some.inj z).symm
          · exact absurd rfl z
        by_cases os : s.owned = true
        · exact hf os a v1 j sj e2 (by cases sj <;> simp_all [Sl.owned, Sl.cont]) vj
        · unfold setOk at hs
          have hs' : noOwn (δ.set i none) = true := by
            simp only [Bool.or_eq_true, Bool.not_eq_true'] at hs
            rcases hs with (z | z) | z
            · exact absurd z os
            · rw [z] at cl; cases cl
            · exact z
          have := noOwn_at (i := j) hs' (by rw [List.getElem?_set_ne ne]; exact e2)
          rw [oj] at this; cases this
      · rw [List.getElem?_set_ne ne] at vj
        rw [List.getElem?_set_ne ne3] at vl
        exact r.ap j l a sj sl e2 oj e3 cl vj vl
/-- a new value is no slot's -/
theorem Rel.fresh {v : V} {H1 : Hp} (r : Rel K T H0 H σ δ) (h : SlOk K H H1 s v) : s.owned = true → ∀ a : Addr, v = V.ref a → ∀ (j : Nat) (sj : Sl), δ[j]? = some (some sj) → sj.cont = true → σ[j]? = some (some (V.ref a)) → j = j ∧ False := fun o a e j sj ej cj vj => by
  subst e
  have n := h.fresh o
  obtain ⟨w', h1, h2⟩ := r.ok j sj ej
  rw [vj] at h1
  cases h1
  exact absurd n (h2.there cj)
theorem Rel.setNew {i : Nat} {v : V} {H1 : Hp} (r : Rel K T H0 H σ δ) (g : Gr H H1) (tb : TabsN T H1) (hv : SlOk K H H1 s v) (hs : setOk δ i s = true) : Rel K T H0 H1 (σ.set i (some v)) (δ.set i (some s)) :=
  (r.grow g tb).set (hv.base r.ext.n) (fun o a e j sj ej cj vj => (r.fresh hv o a e j sj ej cj vj).2.elim) hs
theorem sx_set {i : Nat} (h : Ev K T te δ s) (q : k.nx (δ.set i (some s))) (hs : setOk δ i s = true := by rfl) : Sx K T (tAsg te (gName i)) δ k := fun H0 H σ D r o =>
  h H0 H σ r _ fun v H' g tb hv => o.nx H' _ _ (r.setNew g tb hv hs) q
/-- an own list is no longer to be written -/
theorem Rel.freeze {i : Nat} {ds : List Dat} (r : Rel K T H0 H σ δ) (h : δ[i]? = some (some (.own ds))) : Rel K T H0 H σ (δ.set i (some (.lst ds))) := by
  refine ⟨r.ext, r.tabs, by simpa using r.len, fun j sj e => ?_, fun j l a sj sl ej oj el cl vj vl => ?_⟩
  · rcases set_at e with ⟨rfl, e2⟩ | ⟨ne, e2⟩
    · cases e2
      obtain ⟨v, h1, a, xs, h2, h3, h4, _⟩ := r.ok i _ h
      exact ⟨v, h1, a, xs, h2, h3, h4⟩
    · exact r.ok j sj e2
  · rcases set_at ej with ⟨rfl, e2⟩ | ⟨ne, e2⟩
    · cases e2; cases oj
    · rcases set_at el with ⟨e3, e4⟩ | ⟨ne3, e3⟩
      · subst e3
        exact r.ap j i a sj (.own ds) e2 oj h rfl vj vl
      · exact r.ap j l a sj sl e2 oj e3 cl vj vl
theorem sx_freeze {i : Nat} {ds : List Dat} (h : δ[i]? = some (some (.own ds))) (q : Sx K T t (δ.set i (some (.lst ds))) k) : Sx K T t δ k := fun H0 H σ D r o => q H0 H σ D (r.freeze h) o
theorem Rel.freezeD {i : Nat} {ds : List (Int × Dat)} (r : Rel K T H0 H σ δ) (h : δ[i]? = some (some (.ownD ds))) : Rel K T H0 H σ (δ.set i (some (.dct ds))) := by
  refine ⟨r.ext, r.tabs, by simpa using r.len, fun j sj e => ?_, fun j l a sj sl ej oj el cl vj vl => ?_⟩
  · rcases set_at e with ⟨rfl, e2⟩ | ⟨ne, e2⟩
    · cases e2
      obtain ⟨v, h1, a, xs, h2, h3, h4, _⟩ := r.ok i _ h
      exact ⟨v, h1, a, xs, h2, .inl h3, h4⟩
    · exact r.ok j sj e2
  · rcases set_at ej with ⟨rfl, e2⟩ | ⟨ne, e2⟩
    · cases e2; cases oj
    · rcases set_at el with ⟨e3, e4⟩ | ⟨ne3, e3⟩
      · subst e3
        exact r.ap j i a sj (.ownD ds) e2 oj h rfl vj vl
      · exact r.ap j l a sj sl e2 oj e3 cl vj vl
theorem sx_freezeD {i : Nat} {ds : List (Int × Dat)} (h : δ[i]? = some (some (.ownD ds))) (q : Sx K T t (δ.set i (some (.dct ds))) k) : Sx K T t δ k := fun H0 H σ D r o => q H0 H σ D (r.freezeD h) o
/-- a slot forgotten -/
theorem Rel.forget {i : Nat} (r : Rel K T H0 H σ δ) : Rel K T H0 H σ (δ.set i none) := by
  refine ⟨r.ext, r.tabs, by simpa using r.len, fun j sj e => ?_, fun j l a sj sl ej oj el cl vj vl => ?_⟩
  · rcases set_at e with ⟨rfl, e2⟩ | ⟨ne, e2⟩
    · cases e2
    · exact r.ok j sj e2
  · rcases set_at ej with ⟨_, e2⟩ | ⟨ne, e2⟩
    · cases e2
    · rcases set_at el with ⟨_, e4⟩ | ⟨ne3, e3⟩
      · cases e4
      · exact r.ap j l a sj sl e2 oj e3 cl vj vl
theorem stab_lst {a : Addr} {u o : HO} (h : H a = some u) (h1 : ∀ xs, u ≠ .tup xs) (h2 : ∀ xs, u ≠ .dT xs) (h3 : ∀ C dx gs, u ≠ .ins C dx gs) (h4 : ∀ ψ, u ≠ .ext ψ := by exact fun _ z => nomatch z) (h5 : ∀ o y, u ≠ .frz o (.own y) := by exact fun _ _ z => nomatch z) : Stab H (upd H a o) := by
  refine ⟨fun b xs e => ?_, fun b xs e => ?_, fun b C dx gs e => ?_, fun b ψ e => ?_, fun b o y e => ?_⟩ <;> rw [upd_ne (fun z => by rw [z, h] at e; first | exact h1 _ (Option.some.inj e) | exact h2 _ (Option.some.inj e) | exact h3 _ _ _ (Option.some.inj e) | exact h4 _ (Option.some.inj e) | exact h5 _ _ (Option.some.inj e))] <;> exact e
/-- what may be written: an own list, an own dict -/
def Wr (u : HO) : Prop := (∃ xs, u = .lst xs) ∨ ∃ xs, u = .dK xs
theorem Wr.stab {a : Addr} {u o : HO} (h : H a = some u) (m : Wr u) : Stab H (upd H a o) := by
  rcases m with ⟨_, rfl⟩ | ⟨_, rfl⟩ <;> exact stab_lst h (fun _ z => nomatch z) (fun _ z => nomatch z) (fun _ _ _ z => nomatch z)
/-- a slot's fact behind a write elsewhere -/
theorem SlOk.wr {a : Addr} {u o : HO} {v : V} (hv : SlOk K H0 H s v) (h : H a = some u) (m : Wr u) (ne : s.cont = true → v ≠ .ref a) (nk : ∀ b xs, H b = some (.lst xs) → SqL K H b xs → True) (hsc : ∀ ns, s = .scr ns → v ≠ .ref a) : SlOk K H0 (upd H a o) s v := by
  have st : Stab H (upd H a o) := m.stab h
  cases s with
  | sh d => exact Rp.mono st d hv
  | lst ds =>
    obtain ⟨b, xs, rfl, h2, h3⟩ := hv
    exact ⟨b, xs, rfl, by rw [upd_ne (fun z => ne rfl (by rw [z]))]; exact h2, Rps.mono st _ h3⟩
  | own ds =>
    obtain ⟨b, xs, rfl, h2, h3, h4⟩ := hv
    exact ⟨b, xs, rfl, by rw [upd_ne (fun z => ne rfl (by rw [z]))]; exact h2, Rps.mono st _ h3, h4⟩
  | «at» _ ds =>
    obtain ⟨b, xs, rfl, h2, h3, h4⟩ := hv
    exact ⟨b, xs, rfl, by rw [upd_ne (fun z => ne rfl (by rw [z]))]; exact h2, Rps.mono st _ h3, h4⟩
  | dct ds =>
    obtain ⟨b, xs, rfl, h2, h3⟩ := hv
    have nb : b ≠ a := fun z => ne rfl (by rw [z])
    refine ⟨b, xs, rfl, ?_, Rpk.mono st h3⟩
    rcases h2 with h2 | ⟨ob, h2⟩
    · exact .inl (by rw [upd_ne nb]; exact h2)
    · exact .inr ⟨ob, by rw [upd_ne nb]; exact h2⟩
  | dcx ds =>
    obtain ⟨b, xs, rfl, h2, h3⟩ := hv
    exact ⟨b, xs, rfl, by rw [upd_ne (fun z => ne rfl (by rw [z]))]; exact h2, Rpk.mono st h3⟩
  | ownD ds =>
    obtain ⟨b, xs, rfl, h2, h3, h4⟩ := hv
    exact ⟨b, xs, rfl, by rw [upd_ne (fun z => ne rfl (by rw [z]))]; exact h2, Rpk.mono st h3, h4⟩
  | scr ns =>
    obtain ⟨b, rfl, h2⟩ := hv
    have nb : b ≠ a := fun z => hsc ns rfl (by rw [z])
    refine ⟨b, rfl, ?_⟩
    rcases h2 with (h2 | ⟨ob, h2⟩) | h2
    · exact .inl (.inl (by rw [upd_ne nb]; exact h2))
    · exact .inl (.inr ⟨ob, by rw [upd_ne nb]; exact h2⟩)
    · exact .inr h2
  | raw w => exact hv
  | fn w => exact ⟨hv.2 _ _ _ st hv.1, hv.2⟩
def noScr : AS → Bool
  | [] => true
  | none :: r => noScr r
  | some (.scr _) :: _ => false
  | some _ :: r => noScr r
theorem noScr_at : ∀ {δ : AS} {i : Nat} {ns : List Int}, noScr δ = true → δ[i]? = some (some (.scr ns)) → False
  | [], _, _, _, e => by simp at e
  | none :: r, 0, _, _, e => by simp at e
  | none :: r, i + 1, _, h, e => noScr_at (δ := r) (i := i) h (by simpa using e)
  | some s :: r, 0, _, h, e => by
    simp only [List.length_cons, Nat.zero_lt_succ, getElem?_pos, List.getElem_cons_zero, Option.some.injEq] at e
    rw [e] at h
    cases h
  | some s :: r, i + 1, _, h, e => by
    cases s <;> first | (exact noScr_at (δ := r) (i := i) h (by simpa using e)) | (cases h)
/-- the thing of an own slot is written -/
theorem Rel.write {i : Nat} {a : Addr} {u o : HO} {s s' : Sl} (r : Rel K T H0 H σ δ) (hi : δ[i]? = some (some s)) (ho : s.owned = true) (hv : σ[i]? = some (some (.ref a))) (h : H a = some u) (m : Wr u) (new : SlOk K H0 (upd H a o) s' (.ref a)) (hc : noScr δ = true) :
    Rel K T H0 (upd H a o) σ (δ.set i (some s')) := by
  have n0 : H0 a = none := by
    obtain ⟨v, h1, h2⟩ := r.ok i s hi
    rw [hv] at h1; cases h1
    exact h2.fresh ho
  refine ⟨⟨fun b w e n => ?_, fun b e => ?_⟩, ?_, by simpa using r.len, fun j sj e => ?_, fun j l b sj sl ej oj el cl vj vl => ?_⟩
  · rw [upd_ne (fun z => by rw [z, n0] at e; cases e)]
    exact r.ext.e b w e n
  · by_cases hb : b = a
    · rw [hb, upd_same] at e; cases e
    · rw [upd_ne hb] at e; exact r.ext.n b e
  · rcases m with ⟨_, rfl⟩ | ⟨_, rfl⟩ <;> exact TabsN.lstUpd r.tabs h (fun _ z => nomatch z) (fun _ z => nomatch z)
  · rcases set_at e with ⟨rfl, e2⟩ | ⟨ne, e2⟩
    · cases e2
      exact ⟨_, hv, new⟩
    · obtain ⟨v, h1, h2⟩ := r.ok j sj e2
      refine ⟨v, h1, h2.wr h m (fun c z => ?_) (fun _ _ _ _ => True.intro) fun ns z => ?_⟩
      · rw [z] at h1
        exact ne (r.ap i j a s sj hi ho e2 c hv h1)
      · rw [z] at e2
        exact (noScr_at hc e2).elim
  · have own_of : ∀ (x : Nat) (sx : Sl), (δ.set i (some s'))[x]? = some (some sx) → sx.owned = true → ∃ sy, δ[x]? = some (some sy) ∧ (x = i ∨ sy = sx) ∧ (sy.owned = true) := fun x sx ex ox => by
      rcases set_at ex with ⟨rfl, z⟩ | ⟨_, z⟩
      · exact ⟨s, hi, .inl rfl, ho⟩
      · exact ⟨sx, z, .inr rfl, ox⟩
    have cont_of : ∀ (x : Nat) (sx : Sl), (δ.set i (some s'))[x]? = some (some sx) → sx.cont = true → ∃ sy, δ[x]? = some (some sy) ∧ sy.cont = true := fun x sx ex ox => by
      rcases set_at ex with ⟨rfl, z⟩ | ⟨_, z⟩
      · exact ⟨s, hi, by cases s <;> simp_all [Sl.owned, Sl.cont]⟩
      · exact ⟨sx, z, ox⟩
    obtain ⟨sy, h1, _, h2⟩ := own_of j sj ej oj
    obtain ⟨sz, h3, h4⟩ := cont_of l sl el cl
    exact r.ap j l b sy sz h1 h2 h3 h4 vj vl
theorem sx_append {i : Nat} {ds : List Dat} {d : Dat} (hi : δ[i]? = some (some (.own ds))) (h : Ev K T te δ (.sh d)) (hl : ds.length ≤ 100000) (q : k.nx (δ.set i (some (.own (ds ++ [d]))))) (hc : noScr δ = true := by rfl) :
    Sx K T (tDrop (tBM K "list" rAppend (tVar i) (tCons te tNil))) δ k := fun H0 H σ D r o => by
  obtain ⟨v, h1, a, xs, rfl, h3, h4, h5⟩ := r.ok i _ hi
  refine ⟨.ref a, h1, .inl ⟨rfl, xs, .inl (.inl h3)⟩, ?_⟩
  refine h H0 H σ r _ fun y H' g tb hy => ?_
  have r' := r.grow g tb
  have h3' := g.lst h3
  refine ⟨a, xs, y, rfl, rfl, h3', szl (by rw [h4.length]; exact hl), o.nx _ _ _ (r'.write hi rfl h1 h3' (.inl ⟨_, rfl⟩) ?_ hc) q⟩
  have st : Stab H' (upd H' a (.lst (xs ++ [y]))) := (show Wr (.lst xs) from .inl ⟨_, rfl⟩).stab h3'
  exact ⟨a, _, rfl, upd_same, Rps.app (Rps.mono st _ (Rps.mono g.stab _ h4)) (Rps.one (Rp.mono st _ hy)), h5⟩
theorem sx_appendAt {i : Nat} {b : Addr} {ds : List Dat} {d : Dat} (hi : δ[i]? = some (some (.at b ds))) (h : Ev K T te δ (.sh d)) (hl : ds.length ≤ 100000) (q : k.nx (δ.set i (some (.at b (ds ++ [d]))))) (hc : noScr δ = true := by rfl) :
    Sx K T (tDrop (tBM K "list" rAppend (tVar i) (tCons te tNil))) δ k := fun H0 H σ D r o => by
  obtain ⟨v, h1, a, xs, rfl, h3, h4, h5⟩ := r.ok i _ hi
  refine ⟨.ref a, h1, .inl ⟨rfl, xs, .inl (.inl h3)⟩, ?_⟩
  refine h H0 H σ r _ fun y H' g tb hy => ?_
  have r' := r.grow g tb
  have h3' := g.lst h3
  refine ⟨a, xs, y, rfl, rfl, h3', szl (by rw [h4.length]; exact hl), o.nx _ _ _ (r'.write hi rfl h1 h3' (.inl ⟨_, rfl⟩) ?_ hc) q⟩
  have st : Stab H' (upd H' a (.lst (xs ++ [y]))) := (show Wr (.lst xs) from .inl ⟨_, rfl⟩).stab h3'
  exact ⟨a, _, rfl, upd_same, Rps.app (Rps.mono st _ (Rps.mono g.stab _ h4)) (Rps.one (Rp.mono st _ hy)), h5⟩
/-- a pinned list, read -/
theorem ev_at {i : Nat} {b : Addr} {ds : List Dat} (h : δ[i]? = some (some (.at b ds))) : Ev K T (tVar i) δ (.lst ds) := fun H0 H σ r Q q => by
  obtain ⟨v, h1, a, xs, h2, h3, h4, _⟩ := r.ok i _ h
  exact ⟨v, h1, q v H (Gr.refl H) r.tabs ⟨a, xs, h2, h3, h4⟩⟩
/-- d[key] = value, an own dict -/
theorem sx_dput {i : Nat} {kvs : List (Int × Dat)} {x : Int} {d : Dat} {tk : TE} (hi : δ[i]? = some (some (.ownD kvs))) (h : Ev K T te δ (.sh d)) (hk : Ev K T tk δ (.sh (.int x))) (hl : kvs.length ≤ 100000) (q : k.nx (δ.set i (some (.ownD (putI kvs x d))))) (hc : noScr δ = true := by rfl) :
    Sx K T (sDPut (tVar i) tk te) δ k := fun H0 H σ D r o => by
  refine h H0 H σ r _ fun y H' g tb hy => ?_
  have r' := r.grow g tb
  obtain ⟨v, h1, a, xs, rfl, h3, h4, h5⟩ := r'.ok i _ hi
  refine ⟨.ref a, h1, ?_⟩
  refine hk H0 H' σ r' _ fun z H2 g2 tb2 hz => ?_
  have r2 := r'.grow g2 tb2
  have h3' := g2.dk h3
  have ez : z = V.int x := hz
  subst ez
  refine ⟨a, _, rfl, .inl ⟨xs, Sum.inl x, h3', rfl, szl (by rw [h4.length]; exact hl), rfl⟩, o.nx _ _ _ (r2.write hi rfl h1 h3' (.inr ⟨_, rfl⟩) ?_ hc) q⟩
  have st : Stab H2 (upd H2 a (.dK (putK xs (Sum.inl x) y))) := (show Wr (.dK xs) from .inr ⟨_, rfl⟩).stab h3'
  exact ⟨a, _, rfl, upd_same, Rpk.put (Rp.mono st _ (Rp.mono g2.stab _ hy)) (Rpk.mono st (Rpk.mono g2.stab h4)), h5⟩
end
end G3
end

section
set_option Elab.async false
set_option linter.all false
set_option maxRecDepth 100000
namespace G3
open PySem PySem.Spec PyProof.Rows L2 LamX NdefX

/-! ### data that == tells apart -/
mutual
def Dat.py : Dat → PyData
  | .non => .none
  | .bl b => .bool b
  | .int i => .int i
  | .str s => .str s
  | .tup l => .tuple (pyAll l)
  | .wts _ => .dict []
  | .obj _ _ => .dict []
def pyAll : List Dat → List PyData
  | [] => []
  | d :: r => d.py :: pyAll r
end
mutual
/-- none, ints, texts, tuples of such -/
def Dat.plain : Dat → Bool
  | .non => true
  | .bl _ => false
  | .int _ => true
  | .str s => PyData.strOk s
  | .tup l => plainAll l
  | .wts _ => false
  | .obj _ _ => false
def plainAll : List Dat → Bool
  | [] => true
  | d :: r => d.plain && plainAll r
end
mutual
theorem eqv_plain : ∀ (d e : Dat), d.plain = true → e.plain = true → (PyData.eqv d.py e.py = true ↔ d = e)
  | .non, e, _, h => by cases e <;> simp_all [Dat.py, PyData.eqv, Dat.plain]
  | .bl _, _, h, _ => by simp [Dat.plain] at h
  | .int i, e, _, h => by cases e <;> simp_all [Dat.py, PyData.eqv, Dat.plain]
  | .str s, e, _, h => by cases e <;> simp_all [Dat.py, PyData.eqv, Dat.plain]
  | .tup l, .tup m, h, h' => by
    have := eqv_plainAll l m (by simpa [Dat.plain] using h) (by simpa [Dat.plain] using h')
    simp [Dat.py, PyData.eqv, this]
  | .tup l, .non, _, _ => by simp [Dat.py, PyData.eqv]
  | .tup l, .int _, _, _ => by simp [Dat.py, PyData.eqv]
  | .tup l, .str _, _, _ => by simp [Dat.py, PyData.eqv]
  | .tup l, .bl _, _, h => by simp [Dat.plain] at h
  | .tup l, .wts _, _, h => by simp [Dat.plain] at h
  | .tup l, .obj _ _, _, h => by simp [Dat.plain] at h
  | .wts _, _, h, _ => by simp [Dat.plain] at h
  | .obj _ _, _, h, _ => by simp [Dat.plain] at h
theorem eqv_plainAll : ∀ (l m : List Dat), plainAll l = true → plainAll m = true → (PyData.eqvAll (pyAll l) (pyAll m) = true ↔ l = m)
  | [], [], _, _ => by simp [pyAll, PyData.eqvAll]
  | [], _ :: _, _, _ => by simp [pyAll, PyData.eqvAll]
  | _ :: _, [], _, _ => by simp [pyAll, PyData.eqvAll]
  | d :: l, e :: m, h, h' => by
    simp only [plainAll, Bool.and_eq_true] at h h'
    have h1 := eqv_plain d e h.1 h'.1
    have h2 := eqv_plainAll l m h.2 h'.2
    simp [pyAll, PyData.eqvAll, h1, h2]
end
mutual
theorem lay_plain : ∀ (d : Dat), d.plain = true → d.py.canLay0 = true
  | .non, _ => rfl
  | .bl _, h => by simp [Dat.plain] at h
  | .int _, _ => rfl
  | .str s, h => by simpa [Dat.plain, Dat.py, PyData.canLay0] using h
  | .tup l, h => by
    have := lay_plainAll l (by simpa [Dat.plain] using h)
    simpa [Dat.py, PyData.canLay0] using this
  | .wts _, h => by simp [Dat.plain] at h
  | .obj _ _, h => by simp [Dat.plain] at h
theorem lay_plainAll : ∀ (l : List Dat), plainAll l = true → PyData.canLayAll0 (pyAll l) = true
  | [], _ => by simp [pyAll, PyData.canLayAll0]
  | d :: l, h => by
    simp only [plainAll, Bool.and_eq_true] at h
    simp [pyAll, PyData.canLayAll0, lay_plain d h.1, lay_plainAll l h.2]
end
mutual
def Dat.dep : Dat → Nat
  | .tup l => depAll l + 1
  | _ => 0
def depAll : List Dat → Nat
  | [] => 0
  | d :: r => max d.dep (depAll r)
end
mutual
theorem dep_py : ∀ d : Dat, d.py.depth ≤ d.dep + 1
  | .non => by simp [Dat.py, PyData.depth]
  | .bl _ => by simp [Dat.py, PyData.depth]
  | .int _ => by simp [Dat.py, PyData.depth]
  | .str _ => by simp [Dat.py, PyData.depth]
  | .tup l => by
    have := dep_pyAll l
    simp only [Dat.py, PyData.depth, Dat.dep]
    omega
  | .wts _ => by simp [Dat.py, PyData.depth, PyData.depthKv]
  | .obj _ _ => by simp [Dat.py, PyData.depth, PyData.depthKv]
theorem dep_pyAll : ∀ l : List Dat, PyData.depthAll (pyAll l) ≤ depAll l + 1
  | [] => by simp [pyAll, PyData.depthAll]
  | d :: l => by
    have h1 := dep_py d
    have h2 := dep_pyAll l
    simp only [pyAll, PyData.depthAll, depAll]
    omega
end
theorem shaped_plain {d : Dat} (h : d.plain = true) (hd : d.dep ≤ 60) : SeqAt.shaped d.py = true := by
  have h1 := dep_py d
  show (d.py.canLay0 && decide (d.py.depth ≤ 64)) = true
  rw [lay_plain d h, decide_eq_true (by omega)]
  rfl
mutual
theorem Rp.dp {K : PySem.W.Frag} {H : Hp} : ∀ (d : Dat) {v : V}, d.plain = true → Rp H d v → Dp K H v d.py
  | .non, _, _, h => by rw [show _ = V.non from h]; exact .non
  | .bl b, _, _, h => by rw [show _ = V.bl b from h]; exact .bl b
  | .int b, _, _, h => by rw [show _ = V.int b from h]; exact .int b
  | .str b, _, _, h => by rw [show _ = V.str b from h]; exact .str b
  | .tup l, _, p, h => by
    obtain ⟨a, xs, rfl, h2, h3⟩ := h
    rw [show (Dat.tup l).py = .tuple (pyAll l) by simp [Dat.py]]
    exact .tup (SqT.of h2) (Rps.dp l (by simpa [Dat.plain] using p) h3)
  | .wts _, _, p, _ => by simp [Dat.plain] at p
  | .obj _ _, _, p, _ => by simp [Dat.plain] at p
theorem Rps.dp {K : PySem.W.Frag} {H : Hp} : ∀ (l : List Dat) {xs : List V}, plainAll l = true → Rps H l xs → DpAll K H xs (pyAll l)
  | [], _, _, h => by rw [show _ = [] from h]; simp only [pyAll]; exact .nil
  | d :: l, _, p, h => by
    obtain ⟨x, r, rfl, h2, h3⟩ := h
    simp only [plainAll, Bool.and_eq_true] at p
    simp only [pyAll]
    exact .cons (Rp.dp d p.1 h2) (Rps.dp l p.2 h3)
end

/-! ### == and != at once -/
def rEqA (K : PySem.W.Frag) : R2 := fun x y H Q => rEq x y H Q ∨ rEqD K x y H Q
def rNeA (K : PySem.W.Frag) : R2 := fun x y H Q => rNe x y H Q ∨ rNeD K x y H Q
theorem op_eqA {X : Cx} (hu : X.A.units + 64 < cLine) : OpR X (compareOp .Eq) (rEqA X.K) := op_eq.or (op_eqD hu)
theorem op_neA {X : Cx} (hu : X.A.units + 64 < cLine) : OpR X (compareOp .NotEq) (rNeA X.K) := op_ne.or (op_neD hu)
def rAddA (K : PySem.W.Frag) : R2 := fun x y H Q => rI0 (fun i j => .int (i + j)) x y H Q ∨ rCatA K x y H Q ∨ rCat x y H Q
theorem op_addA {X : Cx} : OpR X (binaryOp .Add) (rAddA X.K) := op_add.or (op_catA.or op_cat)
def rSlAA (K : PySem.W.Frag) : V → Option Int → Option Int → Hp → VK → Prop := fun x lo hi H Q => rSlA K x lo hi H Q ∨ rSlL K x lo hi H Q
theorem sl_any {X : Cx} : SlR X (rSlAA X.K) := sl_tupA.or sl_list

section
variable {K : PySem.W.Frag} {T : List NTab} {H0 H H' : Hp} {σ : L2.St} {δ : AS} {te ta tb tc : TE} {tt tu : TT} {d e : Dat} {s : Sl} {b c : Bool}

/-! ### two-place operations -/
theorem ev_op {r : R2} {s1 s2 s : Sl} (ha : Ev K T ta δ s1) (hb : Ev K T tb δ s2)
    (hr : ∀ H0 H1 H2 x y, Gr H0 H1 → Gr H1 H2 → TabsN T H2 → SlOk K H0 H2 s1 x → SlOk K H1 H2 s2 y → (∀ b, H2 b = none → H1 b = none) → ∀ Q : VK, (∀ v H3, Gr H2 H3 → TabsN T H3 → SlOk K H2 H3 s v → Q v H3) → r x y H2 Q) : Ev K T (tOp r ta tb) δ s := fun H0 H σ r Q q =>
  ha H0 H σ r _ fun x H1 g1 t1 o1 => hb H0 H1 σ (r.grow g1 t1) _ fun y H2 g2 t2 o2 => hr H H1 H2 x y g1 g2 t2 (o1.grow g2) o2 g2.n Q fun v H3 g3 t3 o3 =>
    q v H3 ((g1.trans g2).trans g3) t3 (o3.base (g1.trans g2).n)
theorem ev_eqS {x y : Dat} (ha : Ev K T ta δ (.sh x)) (hb : Ev K T tb δ (.sh y)) (hs : ∀ H u v, Rp H x u → Rp H y v → scal u v = true ∧ decide (u = v) = b) : Ev K T (tOp (rEqA K) ta tb) δ (.sh (.bl b)) :=
  ev_op ha hb fun H0 H1 H2 x y g1 g2 t2 o1 o2 _ Q q => .inl (by
    obtain ⟨h1, h2⟩ := hs H2 x y o1 o2
    exact ⟨h1, q _ H2 (Gr.refl _) t2 (by rw [h2]; rfl)⟩)
theorem ev_neS {x y : Dat} (ha : Ev K T ta δ (.sh x)) (hb : Ev K T tb δ (.sh y)) (hs : ∀ H u v, Rp H x u → Rp H y v → scal u v = true ∧ decide (u = v) = b) : Ev K T (tOp (rNeA K) ta tb) δ (.sh (.bl (!b))) :=
  ev_op ha hb fun H0 H1 H2 x y g1 g2 t2 o1 o2 _ Q q => .inl (by
    obtain ⟨h1, h2⟩ := hs H2 x y o1 o2
    exact ⟨h1, q _ H2 (Gr.refl _) t2 (by rw [h2]; rfl)⟩)
theorem dec_of_inj {α : Type} [DecidableEq α] {f : α → V} (hf : ∀ a b, f a = f b → a = b) {i j : α} : decide (f i = f j) = decide (i = j) := by
  by_cases h : i = j
  · rw [h, decide_eq_true rfl, decide_eq_true rfl]
  · rw [decide_eq_false h, decide_eq_false fun z => h (hf _ _ z)]
theorem ev_eqI {i j : Int} (ha : Ev K T ta δ (.sh (.int i))) (hb : Ev K T tb δ (.sh (.int j))) : Ev K T (tOp (rEqA K) ta tb) δ (.sh (.bl (decide (i = j)))) :=
  ev_eqS ha hb fun H u v h1 h2 => by
    rw [show u = V.int i from h1, show v = V.int j from h2]
    exact ⟨rfl, dec_of_inj fun _ _ => V.int.inj⟩
theorem ev_neI {i j : Int} (ha : Ev K T ta δ (.sh (.int i))) (hb : Ev K T tb δ (.sh (.int j))) : Ev K T (tOp (rNeA K) ta tb) δ (.sh (.bl (!decide (i = j)))) :=
  ev_neS ha hb fun H u v h1 h2 => by
    rw [show u = V.int i from h1, show v = V.int j from h2]
    exact ⟨rfl, dec_of_inj fun _ _ => V.int.inj⟩
theorem ev_eqB {i j : Bool} (ha : Ev K T ta δ (.sh (.bl i))) (hb : Ev K T tb δ (.sh (.bl j))) : Ev K T (tOp (rEqA K) ta tb) δ (.sh (.bl (decide (i = j)))) :=
  ev_eqS ha hb fun H u v h1 h2 => by
    rw [show u = V.bl i from h1, show v = V.bl j from h2]
    exact ⟨rfl, dec_of_inj fun _ _ => V.bl.inj⟩
theorem ev_neB {i j : Bool} (ha : Ev K T ta δ (.sh (.bl i))) (hb : Ev K T tb δ (.sh (.bl j))) : Ev K T (tOp (rNeA K) ta tb) δ (.sh (.bl (!decide (i = j)))) :=
  ev_neS ha hb fun H u v h1 h2 => by
    rw [show u = V.bl i from h1, show v = V.bl j from h2]
    exact ⟨rfl, dec_of_inj fun _ _ => V.bl.inj⟩
theorem ev_neT {i j : Str} (ha : Ev K T ta δ (.sh (.str i))) (hb : Ev K T tb δ (.sh (.str j))) : Ev K T (tOp (rNeA K) ta tb) δ (.sh (.bl (!decide (i = j)))) :=
  ev_neS ha hb fun H u v h1 h2 => by
    rw [show u = V.str i from h1, show v = V.str j from h2]
    exact ⟨rfl, dec_of_inj fun _ _ => V.str.inj⟩
/-- deep data -/
theorem ev_eqD (ha : Ev K T ta δ (.sh d)) (hb : Ev K T tb δ (.sh e)) (pd : d.plain = true) (pe : e.plain = true) (dd : d.dep ≤ 60) (de : e.dep ≤ 60) (hb' : b = true ↔ d = e) : Ev K T (tOp (rEqA K) ta tb) δ (.sh (.bl b)) :=
  ev_op ha hb fun H0 H1 H2 x y g1 g2 t2 o1 o2 _ Q q => .inr ⟨d.py, e.py, Rp.dp d pd o1, Rp.dp e pe o2, shaped_plain pd dd, shaped_plain pe de, q _ H2 (Gr.refl _) t2 (by
    rw [show PyData.eqv d.py e.py = b from Bool.eq_iff_iff.mpr ((eqv_plain d e pd pe).trans hb'.symm)]; rfl)⟩
theorem ev_neD (ha : Ev K T ta δ (.sh d)) (hb : Ev K T tb δ (.sh e)) (pd : d.plain = true) (pe : e.plain = true) (dd : d.dep ≤ 60) (de : e.dep ≤ 60) (hb' : b = true ↔ d = e) : Ev K T (tOp (rNeA K) ta tb) δ (.sh (.bl (!b))) :=
  ev_op ha hb fun H0 H1 H2 x y g1 g2 t2 o1 o2 _ Q q => .inr ⟨d.py, e.py, Rp.dp d pd o1, Rp.dp e pe o2, shaped_plain pd dd, shaped_plain pe de, q _ H2 (Gr.refl _) t2 (by
    rw [show PyData.eqv d.py e.py = b from Bool.eq_iff_iff.mpr ((eqv_plain d e pd pe).trans hb'.symm)]; rfl)⟩
/-- two lists of data -/
theorem ev_eqL {ds es : List Dat} (ha : Ev K T ta δ (.lst ds)) (hb : Ev K T tb δ (.lst es)) (pd : plainAll ds = true) (pe : plainAll es = true) (dd : depAll ds ≤ 50) (de : depAll es ≤ 50) (hb' : b = true ↔ ds = es) : Ev K T (tOp (rEqA K) ta tb) δ (.sh (.bl b)) :=
  ev_op ha hb fun H0 H1 H2 x y g1 g2 t2 o1 o2 _ Q q => .inr (by
    obtain ⟨a, xs, rfl, a2, a3⟩ := o1
    obtain ⟨c, ys, rfl, c2, c3⟩ := o2
    have sh : ∀ {l : List Dat}, plainAll l = true → depAll l ≤ 50 → SeqAt.shaped (.list (pyAll l)) = true := fun {l} p q => by
      have := dep_pyAll l
      show (PyData.canLay0 (.list (pyAll l)) && decide (PyData.depth (.list (pyAll l)) ≤ 64)) = true
      rw [show PyData.canLay0 (.list (pyAll l)) = PyData.canLayAll0 (pyAll l) by simp [PyData.canLay0], lay_plainAll l p, decide_eq_true (by simp only [PyData.depth]; omega)]
      rfl
    refine ⟨.list (pyAll ds), .list (pyAll es), .lst (SqL.of a2) (Rps.dp ds pd a3), .lst (SqL.of c2) (Rps.dp es pe c3), sh pd dd, sh pe de, q _ H2 (Gr.refl _) t2 ?_⟩
    rw [show PyData.eqv (.list (pyAll ds)) (.list (pyAll es)) = b from Bool.eq_iff_iff.mpr (by simp only [PyData.eqv]; exact (eqv_plainAll ds es pd pe).trans hb'.symm)]
    rfl)
theorem ev_I0 {g : Int → Int → V} {g' : Int → Int → Dat} {i j : Int} (ha : Ev K T ta δ (.sh (.int i))) (hb : Ev K T tb δ (.sh (.int j))) (hg : ∀ H, Rp H (g' i j) (g i j)) : Ev K T (tOp (rI0 g) ta tb) δ (.sh (g' i j)) :=
  ev_op ha hb fun H0 H1 H2 x y g1 g2 t2 o1 o2 _ Q q => ⟨i, j, o1, o2, q _ H2 (Gr.refl _) t2 (hg H2)⟩
theorem ev_lt {i j : Int} (ha : Ev K T ta δ (.sh (.int i))) (hb : Ev K T tb δ (.sh (.int j))) : Ev K T (tOp (rI0 fun i j => .bl (decide (i < j))) ta tb) δ (.sh (.bl (decide (i < j)))) := ev_I0 (g' := fun i j => .bl (decide (i < j))) ha hb fun _ => rfl
theorem ev_gt {i j : Int} (ha : Ev K T ta δ (.sh (.int i))) (hb : Ev K T tb δ (.sh (.int j))) : Ev K T (tOp (rI0 fun i j => .bl (decide (j < i))) ta tb) δ (.sh (.bl (decide (j < i)))) := ev_I0 (g' := fun i j => .bl (decide (j < i))) ha hb fun _ => rfl
theorem ev_ge {i j : Int} (ha : Ev K T ta δ (.sh (.int i))) (hb : Ev K T tb δ (.sh (.int j))) : Ev K T (tOp (rI0 fun i j => .bl (decide (j ≤ i))) ta tb) δ (.sh (.bl (decide (j ≤ i)))) := ev_I0 (g' := fun i j => .bl (decide (j ≤ i))) ha hb fun _ => rfl
theorem ev_sub {i j : Int} (ha : Ev K T ta δ (.sh (.int i))) (hb : Ev K T tb δ (.sh (.int j))) : Ev K T (tOp (rI0 fun i j => .int (i - j)) ta tb) δ (.sh (.int (i - j))) := ev_I0 (g' := fun i j => .int (i - j)) ha hb fun _ => rfl
theorem ev_I {C : Int → Int → Prop} {g : Int → Int → V} {g' : Int → Int → Dat} {i j : Int} (ha : Ev K T ta δ (.sh (.int i))) (hb : Ev K T tb δ (.sh (.int j))) (hc : C i j) (hg : ∀ H, Rp H (g' i j) (g i j)) : Ev K T (tOp (rI C g) ta tb) δ (.sh (g' i j)) :=
  ev_op ha hb fun H0 H1 H2 x y g1 g2 t2 o1 o2 _ Q q => ⟨i, j, o1, o2, hc, q _ H2 (Gr.refl _) t2 (hg H2)⟩
theorem ev_mul {i j : Int} (ha : Ev K T ta δ (.sh (.int i))) (hb : Ev K T tb δ (.sh (.int j))) (hc : CMul i j) : Ev K T (tOp (rI CMul fun i j => .int (i * j)) ta tb) δ (.sh (.int (i * j))) := ev_I (g' := fun i j => .int (i * j)) ha hb hc fun _ => rfl
theorem ev_mod {i j : Int} (ha : Ev K T ta δ (.sh (.int i))) (hb : Ev K T tb δ (.sh (.int j))) (hc : 0 < j) : Ev K T (tOp (rI (fun _ j => 0 < j) fun i j => .int (i % j)) ta tb) δ (.sh (.int (i % j))) := ev_I (g' := fun i j => .int (i % j)) ha hb hc fun _ => rfl
theorem ev_fdiv {i j : Int} (ha : Ev K T ta δ (.sh (.int i))) (hb : Ev K T tb δ (.sh (.int j))) (hc : CDiv i j) : Ev K T (tOp (rI CDiv fun i j => .int (i / j)) ta tb) δ (.sh (.int (i / j))) := ev_I (g' := fun i j => .int (i / j)) ha hb hc fun _ => rfl
theorem ev_add {i j : Int} (ha : Ev K T ta δ (.sh (.int i))) (hb : Ev K T tb δ (.sh (.int j))) : Ev K T (tOp (rAddA K) ta tb) δ (.sh (.int (i + j))) :=
  ev_op ha hb fun H0 H1 H2 x y g1 g2 t2 o1 o2 _ Q q => .inl ⟨i, j, o1, o2, q _ H2 (Gr.refl _) t2 rfl⟩
theorem ev_catT {ds es : List Dat} (ha : Ev K T ta δ (.sh (.tup ds))) (hb : Ev K T tb δ (.sh (.tup es))) (hl : ds.length + es.length ≤ 100000) : Ev K T (tOp (rAddA K) ta tb) δ (.sh (.tup (ds ++ es))) :=
  ev_op ha hb fun H0 H1 H2 x y g1 g2 t2 o1 o2 _ Q q => .inr (.inl (by
    obtain ⟨a, xs, rfl, a2, a3⟩ := o1
    obtain ⟨c, ys, rfl, c2, c3⟩ := o2
    have l1 := a3.length
    have l2 := c3.length
    refine ⟨a, c, xs, ys, rfl, rfl, SqT.of a2, SqT.of c2, sz (by omega), fun e => ?_, fun _ e => ?_, fun _ _ p np => ?_⟩
    · rw [e] at l1
      have z : ds = [] := List.eq_nil_of_length_eq_zero l1.symm
      exact q _ H2 (Gr.refl _) t2 ⟨c, ys, rfl, c2, by rw [z]; exact c3⟩
    · rw [e] at l2
      have z : es = [] := List.eq_nil_of_length_eq_zero l2.symm
      exact q _ H2 (Gr.refl _) t2 ⟨a, xs, rfl, a2, by rw [z, List.append_nil]; exact a3⟩
    · have g3 : Gr H2 (upd H2 p (.tup (xs ++ ys))) := .new np
      exact q _ _ g3 (TabsN.new t2 np) ⟨p, _, rfl, upd_same, Rps.app (Rps.mono g3.stab _ a3) (Rps.mono g3.stab _ c3)⟩))
theorem ev_catL {ds es : List Dat} (ha : Ev K T ta δ (.lst ds)) (hb : Ev K T tb δ (.lst es)) (hl : ds.length + es.length ≤ 100000) : Ev K T (tOp (rAddA K) ta tb) δ (.own (ds ++ es)) :=
  ev_op ha hb fun H0 H1 H2 x y g1 g2 t2 o1 o2 _ Q q => .inr (.inr (by
    obtain ⟨a, xs, rfl, a2, a3⟩ := o1
    obtain ⟨c, ys, rfl, c2, c3⟩ := o2
    have l1 := a3.length
    have l2 := c3.length
    refine ⟨a, c, xs, ys, rfl, rfl, a2, c2, sz (by omega), fun p np => ?_⟩
    have g3 : Gr H2 (upd H2 p (.lst (xs ++ ys))) := .new np
    exact q _ _ g3 (TabsN.new t2 np) ⟨p, _, rfl, upd_same, Rps.app (Rps.mono g3.stab _ a3) (Rps.mono g3.stab _ c3), np⟩))

/-! ### subscripts -/
theorem atI_rep {ds : List Dat} {xs : List V} {i : Int} (h : Rps H ds xs) (e : atI ds i = some d) : ∃ x, atI xs i = some x ∧ Rp H d x := by
  unfold atI at e ⊢
  rw [h.length]
  cases q : ixN ds.length i with
  | none => rw [q] at e; cases e
  | some j =>
    rw [q] at e
    exact h.at (show ds[j]? = some d from e)
theorem ev_ixT {ds : List Dat} {i : Int} (ha : Ev K T ta δ (.sh (.tup ds))) (hb : Ev K T tb δ (.sh (.int i))) (e : atI ds i = some d) : Ev K T (tOp (rIx K) ta tb) δ (.sh d) :=
  ev_op ha hb fun H0 H1 H2 x y g1 g2 t2 o1 o2 _ Q q => .inr (.inl (by
    obtain ⟨a, xs, rfl, a2, a3⟩ := o1
    obtain ⟨v, h1, h2⟩ := atI_rep a3 e
    exact ⟨a, xs, i, v, rfl, o2, SqT.of a2, h1, q v H2 (Gr.refl _) t2 h2⟩))
theorem ev_ixL {ds : List Dat} {i : Int} (ha : Ev K T ta δ (.lst ds)) (hb : Ev K T tb δ (.sh (.int i))) (e : atI ds i = some d) : Ev K T (tOp (rIx K) ta tb) δ (.sh d) :=
  ev_op ha hb fun H0 H1 H2 x y g1 g2 t2 o1 o2 _ Q q => .inl (by
    obtain ⟨a, xs, rfl, a2, a3⟩ := o1
    obtain ⟨v, h1, h2⟩ := atI_rep a3 e
    exact ⟨a, xs, i, v, rfl, o2, SqL.of a2, h1, q v H2 (Gr.refl _) t2 h2⟩)
theorem ev_ixS {ns : List Int} {i n : Int} (ha : Ev K T ta δ (.scr ns)) (hb : Ev K T tb δ (.sh (.int i))) (e : atI ns i = some n) : Ev K T (tOp (rIx K) ta tb) δ (.sh (.int n)) :=
  ev_op ha hb fun H0 H1 H2 x y g1 g2 t2 o1 o2 _ Q q => .inl (by
    obtain ⟨a, rfl, a2⟩ := o1
    refine ⟨a, ns.map V.int, i, .int n, rfl, o2, a2, ?_, q _ H2 (Gr.refl _) t2 rfl⟩
    unfold atI at e ⊢
    rw [List.length_map]
    cases z : ixN ns.length i with
    | none => rw [z] at e; cases e
    | some j =>
      rw [z] at e
      show (ns.map V.int)[j]? = _
      rw [List.getElem?_map, show ns[j]? = some n from e]
      rfl)
theorem ev_neg {i : Int} (ha : Ev K T ta δ (.sh (.int i))) : Ev K T (tUn (rU fun i => .int (-i)) ta) δ (.sh (.int (-i))) := fun H0 H σ r Q q =>
  ha H0 H σ r _ fun x H1 g1 t1 o1 => ⟨i, o1, q _ H1 g1 t1 rfl⟩
/-- the items of a cut -/
def cut {α : Type} (xs : List α) (lo hi : Option Int) : List α := (xs.drop (HT.sIx xs.length 0 lo)).take (HT.sIx xs.length xs.length hi - HT.sIx xs.length 0 lo)
theorem Rps.cut {ds : List Dat} {xs : List V} (h : Rps H ds xs) (lo hi : Option Int) : Rps H (cut ds lo hi) (cutV xs lo hi) := by
  unfold G3.cut cutV
  rw [h.length]
  exact (h.drop _).take _
theorem eo_none : EvO K T tNoPart δ none := fun H0 H σ r Q q => q H (Gr.refl H) r.tabs
theorem eo_some {i : Int} (h : Ev K T te δ (.sh (.int i))) : EvO K T (tPart te) δ (some i) := fun H0 H σ r Q q =>
  h H0 H σ r _ fun v H1 g1 t1 o1 => ⟨i, o1, q H1 g1 t1⟩
variable {tl th : TO} {lo hi : Option Int}
theorem ev_slT {ds : List Dat} (ha : Ev K T ta δ (.sh (.tup ds))) (hl : EvO K T tl δ lo) (hh : EvO K T th δ hi) : Ev K T (tSl (rSlAA K) ta tl th) δ (.sh (.tup (cut ds lo hi))) := fun H0 H σ r Q q =>
  ha H0 H σ r _ fun x H1 g1 t1 o1 => hl H0 H1 σ (r.grow g1 t1) _ fun H2 g2 t2 => hh H0 H2 σ (r.grow (g1.trans g2) t2) _ fun H3 g3 t3 => .inl (by
    obtain ⟨a, xs, rfl, a2, a3⟩ := (o1.grow g2).grow g3
    have g := (g1.trans g2).trans g3
    refine ⟨a, xs, rfl, SqT.of a2, fun w => ?_, fun _ p np => ?_⟩
    · have e : cut ds lo hi = ds := by
        unfold cut
        rw [← a3.length, w.1, w.2, List.drop_zero, Nat.sub_zero, a3.length, List.take_length]
      exact q _ H3 g t3 ⟨a, xs, rfl, a2, by rw [e]; exact a3⟩
    · have g4 : Gr H3 (upd H3 p (.tup (cutV xs lo hi))) := .new np
      exact q _ _ (g.trans g4) (TabsN.new t3 np) ⟨p, _, rfl, upd_same, (Rps.mono g4.stab _ a3).cut lo hi⟩)
theorem ev_slL {ds : List Dat} (ha : Ev K T ta δ (.lst ds)) (hl : EvO K T tl δ lo) (hh : EvO K T th δ hi) : Ev K T (tSl (rSlAA K) ta tl th) δ (.own (cut ds lo hi)) := fun H0 H σ r Q q =>
  ha H0 H σ r _ fun x H1 g1 t1 o1 => hl H0 H1 σ (r.grow g1 t1) _ fun H2 g2 t2 => hh H0 H2 σ (r.grow (g1.trans g2) t2) _ fun H3 g3 t3 => .inr (by
    obtain ⟨a, xs, rfl, a2, a3⟩ := (o1.grow g2).grow g3
    have g := (g1.trans g2).trans g3
    refine ⟨a, xs, rfl, SqL.of a2, fun p np => ?_⟩
    have g4 : Gr H3 (upd H3 p (.lst (cutV xs lo hi))) := .new np
    exact q _ _ (g.trans g4) (TabsN.new t3 np) ⟨p, _, rfl, upd_same, (Rps.mono g4.stab _ a3).cut lo hi, g.n _ np⟩)

/-! ### fields -/
theorem Rpf.at : ∀ {fs : List (Str × Dat)} {gs : List (Str × V)} {n : Str}, Rpf H fs gs → fs.lookup n = some d → ∃ x, gs.lookup n = some x ∧ Rp H d x
  | [], _, _, _, e => by simp at e
  | p :: fs, gs, n, h, e => by
    obtain ⟨h1, h2⟩ := h
    obtain ⟨m, dm⟩ := p
    rw [List.lookup_cons] at e
    by_cases z : n = m
    · subst z
      simp only [beq_self_eq_true] at e
      cases e
      exact h1
    · rw [show (n == m) = false from beq_eq_false_iff_ne.mpr z] at e
      exact Rpf.at h2 e
theorem ev_fld {C : Addr} {fs : List (Str × Dat)} {f : Str} (ha : Ev K T ta δ (.sh (.obj C fs))) (hc : Cls K C) (hn : NoAttr K C f) (e : fs.lookup f = some d) : Ev K T (tFld K ta f) δ (.sh d) := fun H0 H σ r Q q =>
  ha H0 H σ r _ fun x H1 g1 t1 o1 => by
    obtain ⟨a, dx, gs, rfl, h2, h3⟩ := o1
    obtain ⟨v, h4, h5⟩ := h3.at e
    exact ⟨a, C, dx, gs, v, rfl, h2, hc, hn, h4, q v H1 g1 t1 h5⟩

/-! ### truth, tests -/
def Dat.tru : Dat → Option Bool
  | .non => some false
  | .bl b => some b
  | .int i => some (i != 0)
  | .tup l => some (!l.isEmpty)
  | _ => none
def Sl.tru : Sl → Option Bool
  | .sh d => d.tru
  | .lst l => some (!l.isEmpty)
  | .own l => some (!l.isEmpty)
  | _ => none
theorem Rps.isEmpty {ds : List Dat} {xs : List V} (h : Rps H ds xs) : xs.isEmpty = ds.isEmpty := by
  cases ds with
  | nil => rw [show xs = [] from h] <;> rfl
  | cons d r =>
    obtain ⟨x, t, rfl, _⟩ := h
    rfl
theorem SlOk.tru {v : V} (h : SlOk K H0 H s v) (e : s.tru = some b) : TruV K v H b := by
  cases s with
  | sh d =>
    cases d with
    | non => cases e; rw [show v = V.non from h]; rfl
    | bl w => cases e; rw [show v = V.bl _ from h]; rfl
    | int i => cases e; rw [show v = V.int i from h]; rfl
    | tup l =>
      obtain ⟨a, xs, rfl, h2, h3⟩ := h
      cases e
      exact .inr (.inl ⟨xs, SqT.of h2, by rw [h3.isEmpty]⟩)
    | _ => cases e
  | lst l =>
    obtain ⟨a, xs, rfl, h2, h3⟩ := h
    cases e
    exact .inl ⟨xs, SqL.of h2, by rw [h3.isEmpty]⟩
  | own l =>
    obtain ⟨a, xs, rfl, h2, h3, _⟩ := h
    cases e
    exact .inl ⟨xs, SqL.of h2, by rw [h3.isEmpty]⟩
  | _ => cases e
theorem et_tru (h : Ev K T te δ s) (e : s.tru = some b) : EvT K T (tTru K te) δ b := fun H0 H σ r Q q =>
  h H0 H σ r _ fun v H1 g1 t1 o1 => ⟨b, o1.tru e, q H1 g1 t1⟩
theorem et_test (h : Ev K T te δ (.sh (.bl b))) : EvT K T (tTest te) δ b := fun H0 H σ r Q q => h H0 H σ r _ fun v H1 g1 t1 o1 => ⟨b, o1, q H1 g1 t1⟩
theorem et_B (h : Ev K T te δ (.sh (.bl b))) : EvT K T (tB te) δ b := fun H0 H σ r Q q => h H0 H σ r _ fun v H1 g1 t1 o1 => ⟨b, o1, q H1 g1 t1⟩
theorem et_and (h1 : EvT K T tt δ b) (h2 : b = true → EvT K T tu δ c) : EvT K T (tAnd tt tu) δ (b && c) := fun H0 H σ r Q q =>
  h1 H0 H σ r _ fun H1 g1 t1 => by
    cases b with
    | true => exact h2 rfl H0 H1 σ (r.grow g1 t1) _ fun H2 g2 t2 => q H2 (g1.trans g2) t2
    | false => exact q H1 g1 t1
theorem et_or (h1 : EvT K T tt δ b) (h2 : b = false → EvT K T tu δ c) : EvT K T (tOr tt tu) δ (b || c) := fun H0 H σ r Q q =>
  h1 H0 H σ r _ fun H1 g1 t1 => by
    cases b with
    | false => exact h2 rfl H0 H1 σ (r.grow g1 t1) _ fun H2 g2 t2 => q H2 (g1.trans g2) t2
    | true => exact q H1 g1 t1
theorem et_not (h : EvT K T tt δ b) : EvT K T (tNot tt) δ (!b) := fun H0 H σ r Q q => h H0 H σ r _ fun H1 g1 t1 => q H1 g1 t1
theorem et_yes : EvT K T tYes δ true := fun H0 H σ r Q q => q H (Gr.refl H) r.tabs
theorem ev_notT (h : Ev K T te δ s) (e : s.tru = some b) : Ev K T (tNotT K te) δ (.sh (.bl (!b))) := fun H0 H σ r Q q => h H0 H σ r _ fun v H1 g1 t1 o1 => ⟨b, o1.tru e, q _ H1 g1 t1 rfl⟩
theorem ev_andT {s' : Sl} (h1 : Ev K T ta δ s') (e : s'.tru = some b) (h2 : b = true → Ev K T tb δ s) (h3 : b = false → s' = s) : Ev K T (tAndT K ta tb) δ s := fun H0 H σ r Q q =>
  h1 H0 H σ r _ fun v H1 g1 t1 o1 => ⟨b, o1.tru e, by
    cases b with
    | true => exact h2 rfl H0 H1 σ (r.grow g1 t1) _ fun w' H2 g2 t2 o2 => q w' H2 (g1.trans g2) t2 (o2.base g1.n)
    | false => exact q v H1 g1 t1 (h3 rfl ▸ o1)⟩
theorem ev_andB (h1 : Ev K T ta δ (.sh (.bl b))) (h2 : b = true → Ev K T tb δ (.sh (.bl c))) : Ev K T (tAndT K ta tb) δ (.sh (.bl (b && c))) := by
  refine ev_andT h1 rfl (fun e => ?_) fun e => ?_
  · rw [e]; exact h2 e
  · rw [e]; rfl
theorem ev_if (h : EvT K T tt δ b) (h1 : b = true → Ev K T ta δ s) (h2 : b = false → Ev K T tb δ s) : Ev K T (tIf tt ta tb) δ s := fun H0 H σ r Q q =>
  h H0 H σ r _ fun H1 g1 t1 => by
    cases b with
    | true => exact h1 rfl H0 H1 σ (r.grow g1 t1) _ fun w' H2 g2 t2 o2 => q w' H2 (g1.trans g2) t2 (o2.base g1.n)
    | false => exact h2 rfl H0 H1 σ (r.grow g1 t1) _ fun w' H2 g2 t2 o2 => q w' H2 (g1.trans g2) t2 (o2.base g1.n)
/-- is None, is not None -/
def Sl.non : Sl → Option Bool
  | .sh .non => some true
  | .raw _ => none
  | .fn _ => none
  | _ => some false
theorem SlOk.nonV {v : V} (h : SlOk K H0 H s v) (e : s.non = some b) : decide (v = .non) = b := by
  have nr : ∀ a : Addr, decide (V.ref a = V.non) = false := fun a => decide_eq_false fun z => nomatch z
  cases s with
  | sh d =>
    cases d with
    | non => cases e; rw [show v = V.non from h]; rfl
    | bl c => cases e; rw [show v = V.bl c from h]; exact decide_eq_false fun z => nomatch z
    | int i => cases e; rw [show v = V.int i from h]; exact decide_eq_false fun z => nomatch z
    | str i => cases e; rw [show v = V.str i from h]; exact decide_eq_false fun z => nomatch z
    | _ => cases e; obtain ⟨a, h⟩ := h; first | (obtain ⟨xs, rfl, _⟩ := h; exact nr a) | (obtain ⟨rfl, _⟩ := h; exact nr a) | (obtain ⟨xs, gs, rfl, _⟩ := h; exact nr a)
  | raw _ => cases e
  | fn _ => cases e
  | scr l => cases e; obtain ⟨a, rfl, _⟩ := h; exact nr a
  | _ => cases e; obtain ⟨a, xs, rfl, _⟩ := h; exact nr a
def rIsNN : R2 := fun x y H Q => y = .non ∧ Q (.bl (decide (x = .non))) H
def rNotNN : R2 := fun x y H Q => y = .non ∧ Q (.bl (!decide (x = .non))) H
theorem op_isNN {X : Cx} : OpR X (compareOp .Is) rIsNN := op_isN
theorem op_notNN {X : Cx} : OpR X (compareOp .IsNot) rNotNN := op_notN
theorem ev_isN (h : Ev K T te δ s) (e : s.non = some b) : Ev K T (tOp rIsNN te (tC .non)) δ (.sh (.bl b)) :=
  ev_op h ev_non fun H0 H1 H2 x y g1 g2 t2 o1 o2 _ Q q => ⟨o2, q _ H2 (Gr.refl _) t2 (by rw [o1.nonV e]; rfl)⟩
theorem ev_notN (h : Ev K T te δ s) (e : s.non = some b) : Ev K T (tOp rNotNN te (tC .non)) δ (.sh (.bl (!b))) :=
  ev_op h ev_non fun H0 H1 H2 x y g1 g2 t2 o1 o2 _ Q q => ⟨o2, q _ H2 (Gr.refl _) t2 (by rw [o1.nonV e]; rfl)⟩
end
end G3
end

section
set_option Elab.async false
set_option linter.all false
set_option maxRecDepth 100000
namespace G3
open PySem PySem.Spec PyProof.Rows L2 LamX NdefX

section
variable {K : PySem.W.Frag} {T : List NTab} {H0 H H' : Hp} {σ : L2.St} {δ : AS} {te ta tb tc : TE} {tt tu : TT} {d e : Dat} {s : Sl} {b c : Bool} {k : Kon}

/-! ### calls -/
/-- a def's promise by data: from arguments ss it hands back s, and nothing that is there changes -/
def spR (K : PySem.W.Frag) (T : List NTab) (R : List Sl → Sl → Prop) : Sp := fun vs H Q _ => ∃ ss s, R ss s ∧ Paired (SlOk K H H) ss vs ∧ TabsN T H ∧ ∀ v H', Gr H H' → TabsN T H' → SlOk K H H' s v → Q v H'
/-- values that are no new things -/
def Sl.isArg : Sl → Bool
  | .own _ => false | .at _ _ => false | .ownD _ => false | _ => true
theorem args_here {ss : List Sl} {vs : List V} (h : Paired (SlOk K H0 H) ss vs) (a : ss.all Sl.isArg = true) : Paired (SlOk K H H) ss vs := by
  induction h with
  | nil => exact .nil
  | @cons s v ss vs h _ ih =>
    rw [List.all_cons, Bool.and_eq_true] at a
    refine .cons ?_ (ih a.2)
    cases s <;> first | exact h | (exact absurd a.1 (by simp [Sl.isArg]))
theorem ev_call {R : List Sl → Sl → Prop} {ta : TA} {ss : List Sl} {E : XK} (h : EvA K T ta δ ss) (r : R ss s) (a : ss.all Sl.isArg = true := by rfl) : Ev K T (tCall (spR K T R) [] E ta) δ s := fun H0 H σ rl Q q =>
  h H0 H σ rl _ fun vs H1 g1 t1 o1 => ⟨ss, s, r, by rw [List.append_nil]; exact args_here o1 a, t1, fun v H2 g2 t2 o2 => q v H2 (g1.trans g2) t2 (o2.base g1.n)⟩
/-- a built-in's call, by data -/
def CB (K : PySem.W.Frag) (T : List NTab) (r : List V → Hp → VK → Prop) (ss : List Sl) (s : Sl) : Prop := ∀ H0 H vs, Paired (SlOk K H0 H) ss vs → TabsN T H → ∀ Q : VK, (∀ v H', Gr H H' → TabsN T H' → SlOk K H H' s v → Q v H') → r vs H Q
theorem ev_CB {r : List V → Hp → VK → Prop} {ta : TA} {ss : List Sl} (h : EvA K T ta δ ss) (c : CB K T r ss s) : Ev K T (tCB r ta) δ s := fun H0 H σ rl Q q =>
  h H0 H σ rl _ fun vs H1 g1 t1 o1 => c H H1 vs o1 t1 Q fun v H2 g2 t2 o2 => q v H2 (g1.trans g2) t2 (o2.base g1.n)
theorem paired1 {F : Sl → V → Prop} {s : Sl} {vs : List V} (h : Paired F [s] vs) : ∃ v, vs = [v] ∧ F s v := by
  cases h with
  | cons a b => cases b; exact ⟨_, rfl, a⟩
theorem paired2 {F : Sl → V → Prop} {s s' : Sl} {vs : List V} (h : Paired F [s, s'] vs) : ∃ v w, vs = [v, w] ∧ F s v ∧ F s' w := by
  cases h with
  | cons a b => cases b with | cons c d => cases d; exact ⟨_, _, rfl, a, c⟩
def rLenQ (K : PySem.W.Frag) : List V → Hp → VK → Prop := fun xs H Q => ∃ p ys, xs = [.ref p] ∧ (SqL K H p ys ∨ SqT K H p ys) ∧ Q (.int ys.length) H
theorem call_lenQ {X : Cx} : CallR X (.builtin "len") (rLenQ X.K) := call_len_seq
theorem cb_lenL {ds : List Dat} : CB K T (rLenQ K) [.lst ds] (.sh (.int ds.length)) := fun H0 H vs p t Q q => by
  obtain ⟨v, rfl, a, xs, rfl, h2, h3⟩ := paired1 p
  exact ⟨a, xs, rfl, .inl (SqL.of h2), q _ H (Gr.refl H) t (by rw [h3.length]; rfl)⟩
theorem cb_lenT {ds : List Dat} : CB K T (rLenQ K) [.sh (.tup ds)] (.sh (.int ds.length)) := fun H0 H vs p t Q q => by
  obtain ⟨v, rfl, a, xs, rfl, h2, h3⟩ := paired1 p
  exact ⟨a, xs, rfl, .inr (SqT.of h2), q _ H (Gr.refl H) t (by rw [h3.length]; rfl)⟩
theorem cb_lenS {ns : List Int} : CB K T (rLenQ K) [.scr ns] (.sh (.int ns.length)) := fun H0 H vs p t Q q => by
  obtain ⟨v, rfl, a, rfl, h2⟩ := paired1 p
  exact ⟨a, _, rfl, .inl h2, q _ H (Gr.refl H) t (by rw [List.length_map]; rfl)⟩
def rListQ (K : PySem.W.Frag) : List V → Hp → VK → Prop := fun xs H Q => ∃ p ys, xs = [.ref p] ∧ (SqL K H p ys ∨ SqT K H p ys) ∧ ∀ l, H l = none → Q (.ref l) (upd H l (.lst ys))
theorem call_listQ {X : Cx} : CallR X (.type "list") (rListQ X.K) := call_list_of
theorem new_lst {xs : List V} {ds : List Dat} {Q : VK} (t : TabsN T H) (h3 : Rps H ds xs) (q : ∀ v H', Gr H H' → TabsN T H' → SlOk K H H' (.own ds) v → Q v H') (l : Addr) (nl : H l = none) : Q (.ref l) (upd H l (.lst xs)) :=
  q _ _ (Gr.new nl) (TabsN.new t nl) ⟨l, xs, rfl, upd_same, Rps.mono (Gr.new nl).stab _ h3, nl⟩
theorem new_tup {xs : List V} {ds : List Dat} {Q : VK} (t : TabsN T H) (h3 : Rps H ds xs) (q : ∀ v H', Gr H H' → TabsN T H' → SlOk K H H' (.sh (.tup ds)) v → Q v H') (l : Addr) (nl : H l = none) : Q (.ref l) (upd H l (.tup xs)) :=
  q _ _ (Gr.new nl) (TabsN.new t nl) ⟨l, xs, rfl, upd_same, Rps.mono (Gr.new nl).stab _ h3⟩
theorem cb_listL {ds : List Dat} : CB K T (rListQ K) [.lst ds] (.own ds) := fun H0 H vs p t Q q => by
  obtain ⟨v, rfl, a, xs, rfl, h2, h3⟩ := paired1 p
  exact ⟨a, xs, rfl, .inl (SqL.of h2), new_lst t h3 q⟩
theorem cb_listT {ds : List Dat} : CB K T (rListQ K) [.sh (.tup ds)] (.own ds) := fun H0 H vs p t Q q => by
  obtain ⟨v, rfl, a, xs, rfl, h2, h3⟩ := paired1 p
  exact ⟨a, xs, rfl, .inr (SqT.of h2), new_lst t h3 q⟩
def rTupQ (K : PySem.W.Frag) : List V → Hp → VK → Prop := fun xs H Q => ∃ p ys, xs = [.ref p] ∧ ((SqL K H p ys ∧ ∀ l, H l = none → Q (.ref l) (upd H l (.tup ys))) ∨ (SqT K H p ys ∧ Q (.ref p) H))
theorem call_tupQ {X : Cx} : CallR X (.type "tuple") (rTupQ X.K) := call_tuple_of
theorem cb_tup {ds : List Dat} : CB K T (rTupQ K) [.lst ds] (.sh (.tup ds)) := fun H0 H vs p t Q q => by
  obtain ⟨v, rfl, a, xs, rfl, h2, h3⟩ := paired1 p
  exact ⟨a, xs, rfl, .inl ⟨SqL.of h2, new_tup t h3 q⟩⟩
theorem cb_tupO {ds : List Dat} : CB K T (rTupQ K) [.own ds] (.sh (.tup ds)) := fun H0 H vs p t Q q => by
  obtain ⟨v, rfl, a, xs, rfl, h2, h3, _⟩ := paired1 p
  exact ⟨a, xs, rfl, .inl ⟨SqL.of h2, new_tup t h3 q⟩⟩
def rIntQ : List V → Hp → VK → Prop := fun xs H Q => (∃ i, xs = [.int i] ∧ Q (.int i) H) ∨ ∃ k, xs = [.bl k] ∧ Q (.int (if k then 1 else 0)) H
theorem call_intQ {X : Cx} : CallR X (.type "int") rIntQ := call_int1
theorem cb_int {i : Int} : CB K T rIntQ [.sh (.int i)] (.sh (.int i)) := fun H0 H vs p t Q q => by
  obtain ⟨v, rfl, h⟩ := paired1 p
  exact .inl ⟨i, by rw [show v = V.int i from h], q _ H (Gr.refl H) t rfl⟩
theorem cb_any {bs : List Bool} : CB K T (rAny K) [.own (bs.map Dat.bl)] (.sh (.bl (bs.any id))) := fun H0 H vs p t Q q => by
  obtain ⟨v, rfl, a, xs, rfl, h2, h3, _⟩ := paired1 p
  exact ⟨a, bs, rfl, SqL.of (by rw [h2, h3.bls_eq]), q _ H (Gr.refl H) t rfl⟩
/-- isinstance(x, int) -/
theorem cb_isInt {i : Int} : CB K T (rIsi K) [.sh (.int i), .raw (.ty "int")] (.sh (.bl true)) := fun H0 H vs p t Q q => by
  obtain ⟨v, w', rfl, h1, h2⟩ := paired2 p
  rw [show v = V.int i from h1, show w' = V.ty "int" from h2]
  exact ⟨_, _, .type "int", .type "int", true, rfl, .ty "int", .base (.int i), kit_ty (by decide +kernel), q _ H (Gr.refl H) t rfl⟩
theorem cb_isTup {l : List Dat} : CB K T (rIsi K) [.sh (.tup l), .raw (.ty "int")] (.sh (.bl false)) := fun H0 H vs p t Q q => by
  obtain ⟨v, w', rfl, h1, h2⟩ := paired2 p
  obtain ⟨a, xs, rfl, h3, _⟩ := h1
  rw [show w' = V.ty "int" from h2]
  exact ⟨_, _, .type "tuple", .type "int", false, rfl, .ty "int", .base (.tup h3), kit_ty (by decide +kernel), q _ H (Gr.refl H) t rfl⟩

/-! ### dicts -/
theorem slot_dct {i : Nat} {kvs : List (Int × Dat)} {v : V} (h : SlOk K H0 H (.dct kvs) v) (x : Int) :
    ∃ a o, v = .ref a ∧ IsD H a ∧ DGet H a (.int x) o ∧ ((getI kvs x = none ∧ o = none) ∨ ∃ d y, getI kvs x = some d ∧ o = some y ∧ Rp H d y) := by
  obtain ⟨a, ys, rfl, h2, h3⟩ := h
  refine ⟨a, valV ys (Sum.inl x), rfl, .inl ⟨ys, h2⟩, .inl ⟨ys, Sum.inl x, h2, rfl, rfl⟩, ?_⟩
  rcases Rpk.get (k := x) h3 with ⟨h4, h5⟩ | ⟨d, y, h4, h5, h6⟩
  · exact .inl ⟨h4, h5⟩
  · exact .inr ⟨d, y, h4, h5, h6⟩
/-- d.get(x, y) -/
theorem ev_dget2 {kvs : List (Int × Dat)} {x : Int} {td ty tx : TE} (hd : Ev K T td δ (.dct kvs)) (hx : Ev K T ty δ (.sh (.int x))) (hy : Ev K T tx δ (.sh d)) : Ev K T (tDGet2 td ty tx) δ (.sh ((getI kvs x).getD d)) := fun H0 H σ r Q q =>
  hd H0 H σ r _ fun v H1 g1 t1 o1 => by
    obtain ⟨a, _, rfl, h1, _⟩ := slot_dct (i := 0) o1 x
    refine ⟨a, rfl, h1, ?_⟩
    refine hx H0 H1 σ (r.grow g1 t1) _ fun w' H2 g2 t2 o2 => ?_
    refine hy H0 H2 σ (r.grow (g1.trans g2) t2) _ fun z H3 g3 t3 o3 => ?_
    obtain ⟨a', o, e, _, h2, h3⟩ := slot_dct (i := 0) ((o1.grow g2).grow g3) x
    cases e
    have g := (g1.trans g2).trans g3
    refine ⟨o, by rw [show w' = V.int x from o2]; exact h2, ?_⟩
    rcases h3 with ⟨h4, rfl⟩ | ⟨d', y, h4, rfl, h5⟩
    · exact q _ H3 g t3 (by rw [h4]; exact o3)
    · exact q _ H3 g t3 (by rw [h4]; exact h5)
/-- d[x] -/
theorem ev_dix {kvs : List (Int × Dat)} {x : Int} {td ty : TE} (hd : Ev K T td δ (.dct kvs)) (hx : Ev K T ty δ (.sh (.int x))) (e : getI kvs x = some d) : Ev K T (tDGet td ty) δ (.sh d) := fun H0 H σ r Q q =>
  hd H0 H σ r _ fun v H1 g1 t1 o1 => hx H0 H1 σ (r.grow g1 t1) _ fun w' H2 g2 t2 o2 => by
    obtain ⟨a, o, rfl, _, h2, h3⟩ := slot_dct (i := 0) (o1.grow g2) x
    rcases h3 with ⟨h4, rfl⟩ | ⟨d', y, h4, rfl, h5⟩
    · rw [h4] at e; cases e
    · rw [h4] at e; cases e
      exact ⟨a, y, rfl, by rw [show w' = V.int x from o2]; exact h2, q y H2 (g1.trans g2) t2 h5⟩
/-- {} -/
theorem ev_dnew : Ev K T tDNewK δ (.ownD []) := fun H0 H σ r Q q p np => q _ _ (Gr.new np) (TabsN.new r.tabs np) ⟨p, [], rfl, upd_same, rfl, np⟩
/-- {x: y} -/
theorem ev_disp1 {x : Int} {tk tv : TE} (hk : Ev K T tk δ (.sh (.int x))) (hv : Ev K T tv δ (.sh d)) : Ev K T (tDisp [(tk, tv)]) δ (.ownD [(x, d)]) := fun H0 H σ r Q q p np => by
  have g0 : Gr H (upd H p (.dK [])) := .new np
  have t0 := TabsN.new (o := .dK []) r.tabs np
  refine hk H0 _ σ (r.grow g0 t0) _ fun v H1 g1 t1 o1 => ?_
  refine hv H0 H1 σ (r.grow (g0.trans g1) t1) _ fun w' H2 g2 t2 o2 => ?_
  have hp : H2 p = some (.dK []) := g2.dk (g1.dk upd_same)
  rw [show v = V.int x from o1]
  refine ⟨hp, [(Sum.inl x, w')], rfl, (by show 1 ≤ 15; decide), ?_⟩
  have st : Stab H2 (upd H2 p (.dK (mergeK [] [(Sum.inl x, w')]))) := (show Wr (.dK []) from .inr ⟨_, rfl⟩).stab hp
  refine q _ _ ⟨fun b u e n => ?_, fun b e => ?_⟩ (TabsN.lstUpd t2 hp (fun _ z => nomatch z) (fun _ z => nomatch z)) ⟨p, _, rfl, upd_same, ⟨w', [], rfl, Rp.mono st _ o2, rfl⟩, np⟩
  · rw [upd_ne (fun z => by rw [z, np] at e; cases e)]
    exact ((g0.trans g1).trans g2).e b u e n
  · by_cases hb : b = p
    · rw [hb]; exact np
    · rw [upd_ne hb] at e; exact ((g0.trans g1).trans g2).n b e

/-! ### what is walked -/
def Owned (δ : AS) (σ : L2.St) (a : Addr) : Prop := ∃ (i : Nat) (s : Sl), δ[i]? = some (some s) ∧ s.owned = true ∧ σ[i]? = some (some (.ref a))
/-- wi walks the items; A: an object that must stay as it is -/
def EvI (K : PySem.W.Frag) (T : List NTab) (wi : TI) (δ : AS) (items : List Dat) : Prop := ∀ H0 H σ, Rel K T H0 H σ δ → ∀ R : It → Hp → Prop,
  (∀ (J : It) (H' : Hp) (A : Option Addr) (G : Hp → Prop) (Y : Nat → Hp → V → Hp → Prop), Gr H H' → TabsN T H' → Walk J items.length G Y → (∀ a, A = some a → (∃ u, H' a = some u ∧ ∀ ps, u ≠ .tbl ps) ∧ ¬ Owned δ σ a) →
    (∀ Hx, Stab H' Hx → (∀ a, A = some a → Hx a = H' a) → G Hx ∧ ∀ i x Hx', i < items.length → TabsN T Hx → Y i Hx x Hx' → Gr Hx Hx' ∧ TabsN T Hx' ∧ ∃ d, items[i]? = some d ∧ Rp Hx' d x) → R J H') → wi σ H R
theorem ei_tup {ds : List Dat} (h : Ev K T te δ (.sh (.tup ds))) : EvI K T (iTup K te) δ ds := fun H0 H σ r R q =>
  h H0 H σ r _ fun v H1 g1 t1 o1 => by
    obtain ⟨a, xs, rfl, h2, h3⟩ := o1
    refine ⟨a, rfl, ⟨xs, SqT.of h2⟩, ?_⟩
    have w := walk_tup (K := K) (a := a) (xs := xs)
    rw [h3.length] at w
    refine q _ H1 none _ _ g1 t1 w (fun _ z => nomatch z) fun Hx st _ => ⟨SqT.of (st.t _ _ h2), fun i x Hx' _ tx y => ?_⟩
    obtain ⟨rfl, e⟩ := y
    obtain ⟨d, e2, hd⟩ := h3.get e
    exact ⟨Gr.refl _, tx, d, e2, Rp.mono st d hd⟩
theorem list_walk {ds : List Dat} {xs : List V} {a : Addr} (h2 : H a = some (.lst xs)) (h3 : Rps H ds xs) : Walk (Itl K a) ds.length (fun H => SqL K H a xs) (YAt xs) ∧
    (∀ Hx, Stab H Hx → (∀ b, some a = some b → Hx b = H b) → SqL K Hx a xs ∧ ∀ i x Hx', i < ds.length → TabsN T Hx → YAt xs i Hx x Hx' → Gr Hx Hx' ∧ TabsN T Hx' ∧ ∃ d, ds[i]? = some d ∧ Rp Hx' d x) := by
  refine ⟨by rw [← h3.length]; exact walk_list, fun Hx st ha => ⟨SqL.of (by rw [ha a rfl]; exact h2), fun i x Hx' _ tx y => ?_⟩⟩
  obtain ⟨rfl, e⟩ := y
  obtain ⟨d, e2, hd⟩ := h3.get e
  exact ⟨Gr.refl _, tx, d, e2, Rp.mono st d hd⟩
theorem not_owned_new (r : Rel K T H0 H σ δ) {a : Addr} (n : H a = none) : ¬ Owned δ σ a := fun ⟨i, s, h1, h2, h3⟩ => by
  obtain ⟨v, h4, h5⟩ := r.ok i s h1
  rw [h3] at h4; cases h4
  exact h5.there (by cases s <;> simp_all [Sl.owned, Sl.cont]) n
theorem not_owned_slot (r : Rel K T H0 H σ δ) {a : Addr} {i : Nat} {s : Sl} (h1 : δ[i]? = some (some s)) (h2 : s.cont = true) (h3 : s.owned = false) (h4 : σ[i]? = some (some (.ref a))) : ¬ Owned δ σ a := fun ⟨j, s', k1, k2, k3⟩ => by
  have := r.ap j i a s' s k1 k2 h1 h2 k3 h4
  subst this
  rw [h1] at k1; cases k1
  rw [h3] at k2; cases k2
theorem ei_new {ds : List Dat} (h : Ev K T te δ (.own ds)) : EvI K T (iList K te) δ ds := fun H0 H σ r R q =>
  h H0 H σ r _ fun v H1 g1 t1 o1 => by
    obtain ⟨a, xs, rfl, h2, h3, h4⟩ := o1
    obtain ⟨w, p⟩ := list_walk (K := K) (T := T) h2 h3
    exact ⟨a, rfl, ⟨xs, SqL.of h2⟩, q _ H1 (some a) _ _ g1 t1 w (fun b z => by cases z; exact ⟨⟨_, h2, fun _ z => nomatch z⟩, not_owned_new r h4⟩) p⟩
theorem ei_var {i : Nat} {ds : List Dat} (h : δ[i]? = some (some (.lst ds))) : EvI K T (iList K (tVar i)) δ ds := fun H0 H σ r R q => by
  obtain ⟨v, h1, a, xs, rfl, h2, h3⟩ := r.ok i _ h
  obtain ⟨w, p⟩ := list_walk (K := K) (T := T) h2 h3
  exact ⟨_, h1, a, rfl, ⟨xs, SqL.of h2⟩, q _ H (some a) _ _ (Gr.refl H) r.tabs w (fun b z => by cases z; exact ⟨⟨_, h2, fun _ z => nomatch z⟩, not_owned_slot r h rfl rfl h1⟩) p⟩
/-- lo, lo + 1, .. -/
def rng (lo : Int) (n : Nat) : List Dat := (List.range n).map fun i => Dat.int (lo + (i : Nat))
theorem rng_len (lo : Int) (n : Nat) : (rng lo n).length = n := by simp [rng]
theorem ei_rng {n : Int} {ta : TA} (h : EvA K T ta δ [.sh (.int n)]) (hn : n < 2 ^ 62) (hm : -(2 ^ 62) ≤ n) : EvI K T (iRng1 ta) δ (rng 0 n.toNat) := fun H0 H σ r R q =>
  h H0 H σ r _ fun vs H1 g1 t1 o1 => by
    obtain ⟨v, rfl, hv⟩ := paired1 o1
    refine ⟨n, by rw [show v = V.int n from hv], hm, hn, ?_⟩
    have w := walk_range (lo := 0) (n := n.toNat)
    refine q _ H1 none _ _ g1 t1 (by rw [rng_len]; exact w) (fun _ z => nomatch z) fun Hx st _ => ⟨True.intro, fun i x Hx' hi tx y => ?_⟩
    obtain ⟨rfl, rfl⟩ := y
    rw [rng_len] at hi
    exact ⟨Gr.refl _, tx, .int (0 + (i : Nat)), by simp [rng, hi], rfl⟩
/-- enumerate -/
def enu (ds : List Dat) : List Dat := ds.mapIdx fun i d => Dat.tup [.int (i : Nat), d]
theorem enu_len (ds : List Dat) : (enu ds).length = ds.length := by simp [enu]
theorem enu_at {ds : List Dat} {i : Nat} (h : ds[i]? = some d) : (enu ds)[i]? = some (.tup [.int (i : Nat), d]) := by simp [enu, h]
theorem enu_walk {ds : List Dat} {xs : List V} {a : Addr} (h2 : H a = some (.lst xs)) (h3 : Rps H ds xs) : Walk (Ite K a) (enu ds).length (fun H => SqL K H a xs) (YPair (fun i => some (.int (i : Nat))) (fun i => xs[i]?)) ∧
    (∀ Hx, Stab H Hx → (∀ b, some a = some b → Hx b = H b) → SqL K Hx a xs ∧ ∀ i x Hx', i < (enu ds).length → TabsN T Hx → YPair (fun i => some (.int (i : Nat))) (fun i => xs[i]?) i Hx x Hx' → Gr Hx Hx' ∧ TabsN T Hx' ∧ ∃ d, (enu ds)[i]? = some d ∧ Rp Hx' d x) := by
  refine ⟨by rw [enu_len, ← h3.length]; exact walk_enum, fun Hx st ha => ⟨SqL.of (by rw [ha a rfl]; exact h2), fun i x Hx' _ tx y => ?_⟩⟩
  obtain ⟨p, u, w', rfl, np, rfl, e1, e2⟩ := y
  cases e1
  obtain ⟨d, e3, hd⟩ := h3.get e2
  have g : Gr Hx (upd Hx p (.tup [.int (i : Nat), w'])) := .new np
  exact ⟨g, TabsN.new tx np, _, enu_at e3, p, _, rfl, upd_same, _, _, rfl, rfl, _, _, rfl, Rp.mono g.stab _ (Rp.mono st _ hd), rfl⟩
theorem ei_enumNew {ds : List Dat} (h : Ev K T te δ (.own ds)) : EvI K T (iEnum K (tCons te tNil)) δ (enu ds) := fun H0 H σ r R q =>
  h H0 H σ r _ fun v H1 g1 t1 o1 => by
    obtain ⟨a, xs, rfl, h2, h3, h4⟩ := o1
    obtain ⟨w, p⟩ := enu_walk (K := K) (T := T) h2 h3
    exact ⟨a, xs, rfl, SqL.of h2, q _ H1 (some a) _ _ g1 t1 w (fun b z => by cases z; exact ⟨⟨_, h2, fun _ z => nomatch z⟩, not_owned_new r h4⟩) p⟩
theorem ei_enumVar {i : Nat} {ds : List Dat} (h : δ[i]? = some (some (.lst ds))) : EvI K T (iEnum K (tCons (tVar i) tNil)) δ (enu ds) := fun H0 H σ r R q => by
  obtain ⟨v, h1, a, xs, rfl, h2, h3⟩ := r.ok i _ h
  obtain ⟨w, p⟩ := enu_walk (K := K) (T := T) h2 h3
  exact ⟨_, h1, a, xs, rfl, SqL.of h2, q _ H (some a) _ _ (Gr.refl H) r.tabs w (fun b z => by cases z; exact ⟨⟨_, h2, fun _ z => nomatch z⟩, not_owned_slot r h rfl rfl h1⟩) p⟩
/-- zip of two tuples -/
def zipD : List Dat → List Dat → List Dat
  | d :: ds, e :: es => .tup [d, e] :: zipD ds es
  | _, _ => []
theorem zipD_len : ∀ ds es : List Dat, (zipD ds es).length = min ds.length es.length
  | [], es => by cases es <;> simp [zipD]
  | d :: ds, [] => by simp [zipD]
  | d :: ds, e :: es => by simp [zipD, zipD_len ds es]
theorem zipD_at : ∀ {ds es : List Dat} {i : Nat} {d e : Dat}, ds[i]? = some d → es[i]? = some e → (zipD ds es)[i]? = some (.tup [d, e])
  | [], _, _, _, _, h, _ => by simp at h
  | _ :: _, [], _, _, _, _, h => by simp at h
  | d :: ds, e :: es, 0, _, _, h, h' => by cases h; cases h'; rfl
  | d :: ds, e :: es, i + 1, _, _, h, h' => by
    simp only [List.getElem?_cons_succ] at h h'
    simp only [zipD, List.getElem?_cons_succ]
    exact zipD_at h h'

/-! ### targets -/
/-- the target g takes d: the slots are δ' then; is: the slots that it stores -/
def Tgt (K : PySem.W.Frag) (T : List NTab) (g : TG) (d : Dat) (δ δ' : AS) (is : List Nat) : Prop := ∀ H0 H σ v, Rel K T H0 H σ δ → Rp H d v → ∀ Q : L2.St → Hp → Prop,
  (∀ σ', Rel K T H0 H σ' δ' → (∀ vs : List Nat, (∀ i ∈ is, i ∈ vs) → wipe σ' vs = wipe σ vs) → Q σ' H) → g v σ H Q
def Tgts (K : PySem.W.Frag) (T : List NTab) (g : TGs) (ds : List Dat) (δ δ' : AS) (is : List Nat) : Prop := ∀ H0 H σ vs, Rel K T H0 H σ δ → Rps H ds vs → ∀ Q : L2.St → Hp → Prop,
  (∀ σ', Rel K T H0 H σ' δ' → (∀ vs : List Nat, (∀ i ∈ is, i ∈ vs) → wipe σ' vs = wipe σ vs) → Q σ' H) → g vs σ H Q
theorem wipe_set {σ : L2.St} {i : Nat} {o : Option V} : ∀ {vs : List Nat}, i ∈ vs → wipe (σ.set i o) vs = wipe σ vs
  | [], h => by simp at h
  | j :: vs, h => by
    unfold wipe
    by_cases hi : i ∈ vs
    · rw [wipe_set hi]
    · have : j = i := by
        rcases List.mem_cons.mp h with e | e
        · exact e.symm
        · exact absurd e hi
      subst this
      have comm : ∀ (vs : List Nat) (τ : L2.St), j ∉ vs → wipe (τ.set j o) vs = (wipe τ vs).set j o := by
        intro vs
        induction vs with
        | nil => intro τ _; rfl
        | cons l r ih =>
          intro τ hn
          have h1 : j ≠ l := fun e => hn (by rw [e]; exact List.mem_cons_self)
          have h2 : j ∉ r := fun e => hn (List.mem_cons_of_mem _ e)
          unfold wipe
          rw [ih τ h2, List.set_comm _ _ h1]
      rw [comm vs σ hi, List.set_set]
theorem tg_name {i : Nat} : Tgt K T (gName i) d δ (δ.set i (some (.sh d))) [i] := fun H0 H σ v r hv Q q => by
  refine q _ (r.set (s := .sh d) hv (fun z => nomatch z) (by simp [setOk, Sl.cont])) fun vs h => wipe_set (h i (by simp))
theorem tg_nil : Tgts K T gNil [] δ δ [] := fun H0 H σ vs r hv Q q => ⟨hv, q σ r fun _ _ => rfl⟩
theorem tg_cons {g : TG} {gs : TGs} {ds : List Dat} {δ1 δ2 : AS} {is js : List Nat} (h : Tgt K T g d δ δ1 is) (k : Tgts K T gs ds δ1 δ2 js) : Tgts K T (gCons g gs) (d :: ds) δ δ2 (is ++ js) := fun H0 H σ vs r hv Q q => by
  obtain ⟨x, t, rfl, h1, h2⟩ := hv
  refine ⟨x, t, rfl, ?_⟩
  refine h H0 H σ x r h1 _ fun σ1 r1 w1 => ?_
  refine k H0 H σ1 t r1 h2 _ fun σ2 r2 w2 => q σ2 r2 fun vs hv => ?_
  rw [w2 vs fun i hi => hv i (List.mem_append_right _ hi), w1 vs fun i hi => hv i (List.mem_append_left _ hi)]
theorem tg_tup {gs : TGs} {ds : List Dat} {δ' : AS} {is : List Nat} {n : Nat} (h : Tgts K T gs ds δ δ' is) (hn : ds.length = n := by rfl) : Tgt K T (gTup K n gs) (.tup ds) δ δ' is := fun H0 H σ v r hv Q q => by
  obtain ⟨a, xs, rfl, h2, h3⟩ := hv
  exact ⟨a, xs, rfl, SqT.of h2, by rw [h3.length]; exact hn, h H0 H σ xs r h3 Q q⟩
/-- target = value -/
theorem sx_asg {g : TG} {δ' : AS} {is : List Nat} (h : Ev K T te δ (.sh d)) (t : Tgt K T g d δ δ' is) (q : k.nx δ') : Sx K T (tAsg te g) δ k := fun H0 H σ D r o =>
  h H0 H σ r _ fun v H1 g1 t1 o1 => t H0 H1 σ v (r.grow g1 t1) o1 _ fun σ' r' _ => o.nx H1 σ' δ' r' q

/-! ### loops -/
/-- the heap without what the slots own -/
theorem Rel.rebase (r : Rel K T H0 H σ δ) : ∃ Hb, Rel K T Hb H σ δ ∧ Gr H0 Hb ∧ ∀ a u, H a = some u → ¬ Owned δ σ a → Hb a = some u := by
  have own0 : ∀ b, Owned δ σ b → H0 b = none := fun b ⟨i, s, h1, h2, h3⟩ => by
    obtain ⟨v, h4, h5⟩ := r.ok i s h1
    rw [h3] at h4; cases h4
    exact h5.fresh h2
  refine ⟨fun b => open Classical in if Owned δ σ b then none else H b, ⟨⟨fun b o e n => ?_, fun b e => ?_⟩, r.tabs, r.len, fun i s e => ?_, r.ap⟩, ⟨fun b o e n => ?_, fun b e => ?_⟩, fun a u h n => ?_⟩
  · have e : (open Classical in if Owned δ σ b then none else H b) = some o := e
    split at e
    · cases e
    · exact e
  · show (open Classical in if Owned δ σ b then none else H b) = none
    split
    · rfl
    · exact e
  · obtain ⟨v, h1, h2⟩ := r.ok i s e
    refine ⟨v, h1, ?_⟩
    cases s with
    | own ds =>
      obtain ⟨a, xs, rfl, h3, h4, h5⟩ := h2
      exact ⟨a, xs, rfl, h3, h4, if_pos ⟨i, _, e, rfl, h1⟩⟩
    | «at» _ ds =>
      obtain ⟨a, xs, rfl, h3, h4, h5, h6⟩ := h2
      exact ⟨a, xs, rfl, h3, h4, if_pos ⟨i, _, e, rfl, h1⟩, h6⟩
    | ownD ds =>
      obtain ⟨a, xs, rfl, h3, h4, h5⟩ := h2
      exact ⟨a, xs, rfl, h3, h4, if_pos ⟨i, _, e, rfl, h1⟩⟩
    | _ => exact h2
  · show (open Classical in if Owned δ σ b then none else H b) = some o
    rw [if_neg fun z => by rw [own0 b z] at e; cases e]
    exact r.ext.e b o e n
  · have e : (open Classical in if Owned δ σ b then none else H b) = none := e
    split at e
    · rename_i z; exact own0 b z
    · exact r.ext.n b e
  · show (open Classical in if Owned δ σ a then none else H a) = some u
    rw [if_neg n]
    exact h
theorem Rel.back {Hb : Hp} (g : Gr H0 Hb) (r : Rel K T Hb H σ δ) : Rel K T H0 H σ δ :=
  ⟨g.trans r.ext, r.tabs, r.len, fun i s e => let ⟨v, h1, h2⟩ := r.ok i s e; ⟨v, h1, h2.base g.n⟩, r.ap⟩
theorem KOk.base {Hb : Hp} {D : Ends} (g : Gr H0 Hb) (o : KOk K T H0 k D) : KOk K T Hb k D :=
  ⟨fun H σ δ r q => o.nx H σ δ (r.back g) q, fun H v s g2 t h q => o.rt H v s (g.trans g2) t (h.base g.n) q, fun H σ δ r q => o.bk H σ δ (r.back g) q, fun H σ δ r q => o.ct H σ δ (r.back g) q⟩
theorem sx_for {wi : TI} {g : TG} {tb : TS} {items : List Dat} (hi : EvI K T wi δ items) (Iv : Nat → AS → Prop) (h0 : Iv 0 δ)
    (hs : ∀ i d δ', items[i]? = some d → Iv i δ' → ∃ δ2 is, Tgt K T g d δ' δ2 is ∧ Sx K T tb δ2 { k with nx := Iv (i + 1), ct := Iv (i + 1), bk := k.nx }) (hd : ∀ δ', Iv items.length δ' → k.nx δ') : Sx K T (tFor wi g tb) δ k := fun H0 H σ D r o => by
  refine hi H0 H σ r _ fun J H1 A G Y g1 t1 w hA hG => ?_
  have r1 := r.grow g1 t1
  obtain ⟨Hb, rb, gb, kb⟩ := r1.rebase
  have ob := o.base gb
  have good : ∀ Hx, Gr Hb Hx → G Hx ∧ ∀ i x Hx', i < items.length → TabsN T Hx → Y i Hx x Hx' → Gr Hx Hx' ∧ TabsN T Hx' ∧ ∃ d, items[i]? = some d ∧ Rp Hx' d x := fun Hx gx => by
    have noOwnT : ∀ a u, H1 a = some u → (∀ xs, u ≠ .lst xs) → (∀ xs, u ≠ .dK xs) → ¬ Owned δ σ a := fun a u h n1 n2 ⟨i, s, k1, k2, k3⟩ => by
      obtain ⟨v, k4, k5⟩ := r1.ok i s k1
      rw [k3] at k4; cases k4
      cases s with
      | own ds => obtain ⟨b, xs, e, k6, _⟩ := k5; cases e; rw [h] at k6; exact n1 _ (Option.some.inj k6)
      | «at» _ ds => obtain ⟨b, xs, e, k6, _⟩ := k5; cases e; rw [h] at k6; exact n1 _ (Option.some.inj k6)
      | ownD ds => obtain ⟨b, xs, e, k6, _⟩ := k5; cases e; rw [h] at k6; exact n2 _ (Option.some.inj k6)
      | _ => cases k2
    refine hG Hx ⟨fun a xs h => ?_, fun a xs h => ?_, fun a C dx gs h => ?_, fun a ψ h => ?_, fun a oo y h => ?_⟩ fun a ea => ?_
    · exact gx.stab.t a xs (kb a _ h (noOwnT a _ h (fun _ z => nomatch z) fun _ z => nomatch z))
    · exact gx.stab.w a xs (kb a _ h (noOwnT a _ h (fun _ z => nomatch z) fun _ z => nomatch z))
    · exact gx.stab.i a C dx gs (kb a _ h (noOwnT a _ h (fun _ z => nomatch z) fun _ z => nomatch z))
    · exact gx.stab.x a ψ (kb a _ h (noOwnT a _ h (fun _ z => nomatch z) fun _ z => nomatch z))
    · exact gx.stab.c a oo y (kb a _ h (noOwnT a _ h (fun _ z => nomatch z) fun _ z => nomatch z))
    · obtain ⟨⟨u, hu, nu⟩, no⟩ := hA a ea
      rw [hu]
      exact gx.e a u (kb a u hu no) nu
  refine for_it w (fun i σ' Hx => ∃ δ', Rel K T Hb Hx σ' δ' ∧ Iv i δ') ⟨δ, rb, h0⟩ (fun i σ' Hx _ ⟨δ', rx, _⟩ => (good Hx rx.ext).1) (fun i x σ' Hx Hx' hlt ⟨δ', rx, iv⟩ y => ?_) fun σ' Hx ⟨δ', rx, iv⟩ => ob.nx Hx σ' δ' rx (hd δ' iv)
  obtain ⟨gx, tx, d, e, hd'⟩ := (good Hx rx.ext).2 i x Hx' hlt rx.tabs y
  obtain ⟨δ2, is, tg, sb⟩ := hs i d δ' e iv
  refine tg Hb Hx' σ' x (rx.grow gx tx) hd' _ fun σ2 r2 _ => ?_
  exact sb Hb Hx' σ2 _ r2 ⟨fun H σ δ r q => ⟨δ, r, q⟩, ob.rt, ob.nx, fun H σ δ r q => ⟨δ, r, q⟩⟩
theorem sx_while {tb : TS} (Iv : Nat → AS → Prop) (m0 : Nat) (h0 : Iv m0 δ)
    (hs : ∀ m δ', Iv m δ' → ∃ b, EvT K T tt δ' b ∧ (b = true → Sx K T tb δ' { k with nx := fun δ2 => ∃ m', m' < m ∧ Iv m' δ2, ct := fun δ2 => ∃ m', m' < m ∧ Iv m' δ2, bk := k.nx }) ∧ (b = false → k.nx δ')) : Sx K T (tWhile tt tb) δ k := fun H0 H σ D r o => by
  refine ⟨fun m σ' Hx => ∃ δ', Rel K T H0 Hx σ' δ' ∧ Iv m δ', ⟨m0, δ, r, h0⟩, fun m σ' Hx ⟨δ', rx, iv⟩ => ?_⟩
  obtain ⟨b, hb, h1, h2⟩ := hs m δ' iv
  refine hb H0 Hx σ' rx _ fun H2 g2 t2 => ?_
  have r2 := rx.grow g2 t2
  cases b with
  | true => exact ⟨fun σ' Hx => ∃ m', m' < m ∧ ∃ δ', Rel K T H0 Hx σ' δ' ∧ Iv m' δ', fun σ' H' h => h, h1 rfl H0 H2 σ' _ r2 ⟨fun H σ δ r ⟨m', l, q⟩ => ⟨m', l, δ, r, q⟩, o.rt, o.nx, fun H σ δ r ⟨m', l, q⟩ => ⟨m', l, δ, r, q⟩⟩⟩
  | false => exact o.nx H2 σ' δ' r2 (h2 rfl)

/-! ### comprehensions -/
def wipeA (δ : AS) : List Nat → AS
  | [] => δ
  | v :: vs => (wipeA δ vs).set v none
theorem Rel.wipe (r : Rel K T H0 H σ δ) : ∀ vs : List Nat, Rel K T H0 H (wipe σ vs) (wipeA δ vs)
  | [] => r
  | v :: vs => by
    have h := (Rel.wipe r vs).forget (i := v)
    unfold L2.wipe wipeA
    refine ⟨h.ext, h.tabs, by simpa using (Rel.wipe r vs).len, fun i s e => ?_, fun i j a si sj ei oi ej cj vi vj => ?_⟩
    · rcases set_at e with ⟨_, z⟩ | ⟨ne, e2⟩
      · cases z
      · obtain ⟨x, h1, h2⟩ := (Rel.wipe r vs).ok i s e2
        exact ⟨x, by rw [List.getElem?_set_ne ne]; exact h1, h2⟩
    · rcases set_at ei with ⟨_, z⟩ | ⟨ne, e2⟩
      · cases z
      · rcases set_at ej with ⟨_, z⟩ | ⟨ne2, e3⟩
        · cases z
        · rw [List.getElem?_set_ne ne] at vi
          rw [List.getElem?_set_ne ne2] at vj
          exact (Rel.wipe r vs).ap i j a si sj e2 oi e3 cj vi vj
theorem wipe_wipe (σ : L2.St) : ∀ vs ws : List Nat, (∀ v ∈ vs, v ∈ ws) → wipe (wipe σ vs) ws = wipe σ ws
  | [], _, _ => rfl
  | v :: vs, ws, h => by
    rw [show wipe σ (v :: vs) = (wipe σ vs).set v none from rfl, wipe_set (h v List.mem_cons_self)]
    exact wipe_wipe σ vs ws fun x hx => h x (List.mem_cons_of_mem _ hx)
theorem ev_lc {wi : TI} {g : TG} {vs : List Nat} {items : List Dat} (f : Nat → Dat → Option Dat) (hi : EvI K T wi δ items) (hl : items.length ≤ 100000)
    (hs : ∀ i d, items[i]? = some d → ∃ δ2 is b, Tgt K T g d (wipeA δ vs) δ2 is ∧ (∀ i ∈ is, i ∈ vs) ∧ EvT K T tt δ2 b ∧ (b = true → ∃ e, f i d = some e ∧ Ev K T te δ2 (.sh e)) ∧ (b = false → f i d = none)) :
    Ev K T (tLc wi g tt te vs) δ (.own ((items.mapIdx f).filterMap id)) := fun H0 H σ r Q q => by
  refine hi H0 H σ r _ fun J H1 A G Y g1 t1 w hA hG => ?_
  intro D nD
  have r1 := r.grow g1 t1
  have gD : Gr H1 (upd H1 D (.lst [])) := .new nD
  have keepA : ∀ Hx, Gr H1 Hx → G Hx ∧ ∀ i x Hx', i < items.length → TabsN T Hx → Y i Hx x Hx' → Gr Hx Hx' ∧ TabsN T Hx' ∧ ∃ d, items[i]? = some d ∧ Rp Hx' d x := fun Hx gx =>
    hG Hx gx.stab fun a ea => by
      obtain ⟨⟨u, hu, nu⟩, _⟩ := hA a ea
      rw [hu]
      exact gx.e a u hu nu
  refine lc_it w (fun i Hx => Gr H1 Hx ∧ TabsN T Hx ∧ ∃ acc, Hx D = some (.lst acc) ∧ Rps Hx (((items.take i).mapIdx f).filterMap id) acc) ⟨gD, TabsN.new t1 nD, [], upd_same, rfl⟩ (fun i Hx _ ⟨gx, _, _⟩ => (keepA Hx gx).1) (fun i x Hx Hx' hlt ⟨gx, tx, acc, hD, hacc⟩ y => ?_) fun Hx ⟨gx, tx, acc, hD, hacc⟩ => ?_
  · obtain ⟨g2, t2, d, e, hd⟩ := (keepA Hx gx).2 i x Hx' hlt tx y
    obtain ⟨δ2, is, b, tg, his, hb, hy, hn⟩ := hs i d e
    have rw1 : Rel K T H0 Hx' (wipe σ vs) (wipeA δ vs) := (r1.grow (gx.trans g2) t2).wipe vs
    have tk : (((items.take (i + 1)).mapIdx f).filterMap id) = (((items.take i).mapIdx f).filterMap id) ++ (f i d).toList := by
      rw [List.take_succ, e]
      have hlen : (items.take i).length = i := by rw [List.length_take]; omega
      simp only [Option.toList_some, List.mapIdx_append, List.filterMap_append, hlen, List.mapIdx_singleton]
      congr 1
      cases hf : f i d <;> simp [hf]
    refine tg H0 Hx' _ x rw1 hd _ fun σ2 r2 wp => ⟨by rw [wp vs his]; exact wipe_wipe σ vs vs fun _ h => h, ?_⟩
    refine hb H0 Hx' σ2 r2 _ fun H3 g3 t3 => ?_
    cases b with
    | false =>
      refine ⟨(gx.trans g2).trans g3, t3, acc, g3.lst (g2.lst hD), ?_⟩
      rw [tk, hn rfl, Option.toList_none, List.append_nil]
      exact Rps.mono g3.stab _ (Rps.mono g2.stab _ hacc)
    | true =>
      obtain ⟨e', he', hev⟩ := hy rfl
      refine hev H0 H3 σ2 (r2.grow g3 t3) _ fun v H4 g4 t4 o4 => ?_
      have hD4 : H4 D = some (.lst acc) := g4.lst (g3.lst (g2.lst hD))
      have st : Stab H4 (upd H4 D (.lst (acc ++ [v]))) := (show Wr (.lst acc) from .inl ⟨_, rfl⟩).stab hD4
      have G4 := ((gx.trans g2).trans g3).trans g4
      have hlen : acc.length ≤ 100000 := by
        rw [hacc.length]
        refine Nat.le_trans (List.length_filterMap_le _ _) ?_
        rw [List.length_mapIdx, List.length_take]
        omega
      refine ⟨acc, hD4, szl hlen, ⟨fun b u e n => ?_, fun b e => ?_⟩, TabsN.lstUpd t4 hD4 (fun _ z => nomatch z) (fun _ z => nomatch z), _, upd_same, ?_⟩
      · rw [upd_ne (fun z => by rw [z, nD] at e; cases e)]
        exact G4.e b u e n
      · by_cases hb : b = D
        · rw [hb]; exact nD
        · rw [upd_ne hb] at e; exact G4.n b e
      · rw [tk, he', Option.toList_some]
        exact Rps.app (Rps.mono st _ (Rps.mono g4.stab _ (Rps.mono g3.stab _ (Rps.mono g2.stab _ hacc)))) (Rps.one (Rp.mono st _ o4))
  · refine q _ Hx (g1.trans gx) tx ⟨D, acc, rfl, hD, ?_, g1.n _ nD⟩
    rw [List.take_length] at hacc
    exact hacc
theorem filterMap_if {α β : Type} (p : α → Bool) (f : α → β) : ∀ l : List α, l.filterMap (fun d => if p d then some (f d) else none) = (l.filter p).map f
  | [] => rfl
  | d :: r => by
    cases h : p d <;> simp [List.filterMap_cons, h, filterMap_if p f r]
theorem mapIdx_const {α β : Type} (f : α → β) : ∀ (l : List α), (l.mapIdx fun _ d => f d) = l.map f
  | l => by
    apply List.ext_getElem?
    intro i
    simp
/-- [f x for x in ..] -/
theorem ev_lcMap {wi : TI} {g : TG} {vs : List Nat} {items : List Dat} (f : Dat → Dat) (hi : EvI K T wi δ items) (hl : items.length ≤ 100000)
    (hs : ∀ d ∈ items, ∃ δ2 is, Tgt K T g d (wipeA δ vs) δ2 is ∧ (∀ i ∈ is, i ∈ vs) ∧ Ev K T te δ2 (.sh (f d))) : Ev K T (tLc wi g tYes te vs) δ (.own (items.map f)) := by
  have h := ev_lc (K := K) (T := T) (te := te) (tt := tYes) (vs := vs) (g := g) (fun _ d => some (f d)) hi hl fun i d e => by
    obtain ⟨δ2, is, h1, h2, h3⟩ := hs d (List.mem_of_getElem? e)
    exact ⟨δ2, is, true, h1, h2, et_yes, fun _ => ⟨_, rfl, h3⟩, fun z => nomatch z⟩
  refine h.of_eq ?_
  rw [mapIdx_const (fun d => some (f d)), List.filterMap_map]
  simp
/-- [f x for x in .. if p x] -/
theorem ev_lcFilter {wi : TI} {g : TG} {vs : List Nat} {items : List Dat} (p : Dat → Bool) (f : Dat → Dat) (hi : EvI K T wi δ items) (hl : items.length ≤ 100000)
    (hs : ∀ d ∈ items, ∃ δ2 is, Tgt K T g d (wipeA δ vs) δ2 is ∧ (∀ i ∈ is, i ∈ vs) ∧ EvT K T tt δ2 (p d) ∧ (p d = true → Ev K T te δ2 (.sh (f d)))) : Ev K T (tLc wi g tt te vs) δ (.own ((items.filter p).map f)) := by
  have h := ev_lc (K := K) (T := T) (te := te) (tt := tt) (vs := vs) (g := g) (fun _ d => if p d then some (f d) else none) hi hl fun i d e => by
    obtain ⟨δ2, is, h1, h2, h3, h4⟩ := hs d (List.mem_of_getElem? e)
    exact ⟨δ2, is, p d, h1, h2, h3, fun z => ⟨_, by rw [if_pos z], h4 z⟩, fun z => by rw [z]; rfl⟩
  refine h.of_eq ?_
  rw [mapIdx_const (fun d => if p d then some (f d) else none), List.filterMap_map]
  rw [show (id ∘ fun d => if p d = true then some (f d) else none) = (fun d => if p d then some (f d) else none) from rfl, filterMap_if]
end
end G3
end

section
set_option Elab.async false
set_option linter.all false
set_option maxRecDepth 100000
namespace G3
open PySem PySem.Spec PyProof.Rows L2 LamX NdefX

def topS (i : Nat) : Stmt := PySem.Challenge.pw_lastproof_k39_whole_instances_conclude_i.main.body.getD i (.Pass ⟨0, 0, 0, 0⟩)

section
variable {K : PySem.W.Frag} {T : List NTab} {H : Hp}
def startA (n : Nat) (ss : List Sl) : AS := ss.map some ++ List.replicate (n - ss.length) none
theorem Paired.len {F : Sl → V → Prop} {ss : List Sl} {vs : List V} (h : Paired F ss vs) : vs.length = ss.length := by
  induction h with
  | nil => rfl
  | cons _ _ ih => rw [List.length_cons, List.length_cons, ih]
theorem Paired.nth {F : Sl → V → Prop} {ss : List Sl} {vs : List V} (h : Paired F ss vs) : ∀ {i : Nat} {s : Sl}, ss[i]? = some s → ∃ v, vs[i]? = some v ∧ F s v := by
  induction h with
  | nil => intro i s e; simp at e
  | cons a _ ih =>
    intro i s e
    cases i with
    | zero => cases e; exact ⟨_, rfl, a⟩
    | succ i => exact ih e
theorem Rel.start {N : List Str} {ss : List Sl} {vs : List V} (h : Paired (SlOk K H H) ss vs) (t : TabsN T H) : Rel K T H H (start N vs) (startA N.length ss) := by
  have hl := Paired.len h
  have at_ : ∀ {i : Nat} {s : Sl}, (startA N.length ss)[i]? = some (some s) → ∃ v, (L2.start N vs)[i]? = some (some v) ∧ SlOk K H H s v := fun {i s} e => by
    unfold startA at e
    by_cases hi : i < ss.length
    · rw [List.getElem?_append_left (by simpa using hi), List.getElem?_map] at e
      cases z : ss[i]? with
      | none => rw [z] at e; cases e
      | some s' =>
        rw [z] at e; cases e
        obtain ⟨v, h1, h2⟩ := Paired.nth h z
        refine ⟨v, ?_, h2⟩
        unfold L2.start
        rw [List.getElem?_append_left (by simpa [hl] using hi), List.getElem?_map, h1]
        rfl
    · rw [List.getElem?_append_right (by simpa using hi), List.getElem?_replicate] at e
      split at e <;> cases e
  refine ⟨Gr.refl H, t, ?_, fun i s e => at_ e, fun i j a si sj e oi => ?_⟩
  · unfold L2.start startA
    rw [List.length_append, List.length_append, List.length_map, List.length_map, List.length_replicate, List.length_replicate, hl]
  · obtain ⟨v, _, h2⟩ := at_ e
    cases si with
    | own ds => obtain ⟨a, xs, _, h3, _, h4⟩ := h2; rw [h3] at h4; cases h4
    | «at» _ ds => obtain ⟨a, xs, _, h3, _, h4, _⟩ := h2; rw [h3] at h4; cases h4
    | ownD ds => obtain ⟨a, xs, _, h3, _, h4⟩ := h2; rw [h3] at h4; cases h4
    | _ => cases oi
/-- what is wanted of a def that hands back r -/
abbrev fnK (r : Sl) : Kon := ⟨fun _ => r = .sh .non, fun s => s = r, fun _ => False, fun _ => False⟩
theorem fnK_ok {r : Sl} {Q : VK} (q : ∀ v H', Gr H H' → TabsN T H' → SlOk K H H' r v → Q v H') : KOk K T H (fnK r) { nx := fun _ H' => Q .non H', rt := Q } :=
  ⟨fun H' σ δ rl e => q .non H' rl.ext rl.tabs (by rw [show r = .sh .non from e]; rfl), fun H' v s g t h e => q v H' g t (by rw [← (show s = r from e)]; exact h), fun _ _ _ _ z => z.elim, fun _ _ _ _ z => z.elim⟩
end

/-- a def of the text, where it stands -/
structure FnAt (K : PySem.W.Frag) (mg : Str → Option Value) (x : Str) (st : Stmt) where
  f : Addr
  fd : FuncData
  F : Fun K x x st f fd
  g : mg x = some (.ref f)

section
variable {P : Program} {w : World} {K : PySem.W.Frag} {mg : Str → Option Value} {base : Heap} {T : List NTab}
abbrev Ok (P : Program) (w : World) (base : Heap) (T : List NTab) (k : Nat) {K : PySem.W.Frag} {mg : Str → Option Value} {x : Str} {st : Stmt} (a : FnAt K mg x st) (ps : List Str) (R : List Sl → Sl → Prop) : Prop := FnOk P w K mg base CX0 k a.f a.fd ps (spR K T R)
theorem fn_R {x qual : Str} {st : Stmt} {f : Addr} {fd : FuncData} {N ps : List Str} {k : Nat} {R : List Sl → Sl → Prop} (F : Fun K x qual st f fd) (S : FnScope N ps (defScope st)) (hl : ∀ ss s, R ss s → ss.length = ps.length)
    (hb : ∀ (cdv : Value) (A : Around) (outer : List Env) (s : Shared) (H : Hp) (E : XK), Room k (A.deeper (envOfC qual (defScope st) s.heap.objs.size f cdv)) →
      ∃ t, PSs (cxOf CX0 P w K mg base N qual (defScope st) f cdv A outer s H E).nox (defBody st) t ∧ ∀ ss r, R ss r → Sx K T t (startA N.length ss) (fnK r)) :
    FnOk P w K mg base CX0 (k + 1) f fd ps (spR K T R) := by
  refine F.ok S (fun vs H Q E ⟨ss, s, r, p, _⟩ => ?_) fun cdv A outer s H vs Q E hr ⟨ss, r, hR, p, tb, q⟩ => ?_
  · rw [Paired.len p]; exact hl ss s r
  · obtain ⟨t, h1, h2⟩ := hb cdv A outer s H E hr
    exact ⟨t, h1, h2 ss r hR H H _ _ (Rel.start p tb) (fnK_ok q)⟩
theorem FnOk.toR {k : Nat} {f : Addr} {fd : FuncData} {ps : List Str} {R R' : List Sl → Sl → Prop} (h : FnOk P w K mg base CX0 k f fd ps (spR K T R)) (i : ∀ ss s, R' ss s → R ss s) : FnOk P w K mg base CX0 k f fd ps (spR K T R') :=
  h.imp fun vs H Q E ⟨ss, s, r, p⟩ => ⟨ss, s, i _ _ r, p⟩
theorem pt_tru {X : Cx} {a : Expr} {ta : TE} (ha : PE X a ta) (he : ∀ whole, isTrue a X.env whole = (do let v ← whole; standAt a.pos; holding [v] (truthy v))) : PT X a (tTru X.K ta) := pt_truth ha he
def tVal (te : TE) : TE := te
end
section
variable {P : Program} {w : World} {K : PySem.W.Frag} {mg : Str → Option Value} {base : Heap} {T : List NTab}
/-- a def that calls itself: below n first -/
theorem rec_R {f : Addr} {fd : FuncData} {ps : List Str} {c : Nat} {R : Nat → List Sl → Sl → Prop} (hl : ∀ n ss s, R n ss s → ss.length = ps.length)
    (h : ∀ n, FnOk P w K mg base CX0 (n + c) f fd ps (spR K T fun ss s => ∃ m, m < n ∧ R m ss s) → FnOk P w K mg base CX0 (n + c + 1) f fd ps (spR K T (R n))) : ∀ n, FnOk P w K mg base CX0 (n + c + 1) f fd ps (spR K T (R n)) := by
  intro n
  induction n using Nat.strongRecOn with
  | _ n ih =>
    refine h n ⟨fun vs H Q E ⟨ss, s, ⟨m, _, r⟩, p, _⟩ => by rw [Paired.len p]; exact hl m ss s r, fun A outer s H args us vs Q E hr e0 hb hv ⟨ss, r, ⟨m, lt, hR⟩, p, tb, q⟩ => ?_⟩
    exact (ih m lt).run A outer s H args us vs Q E (hr.mono (by omega)) e0 hb hv ⟨ss, r, hR, p, tb, q⟩
variable {δ : AS} {te : TE} {k : Kon}
theorem sx_augI {i : Nat} {f : Int → Int → Int} {x y : Int} (hx : δ[i]? = some (some (.sh (.int x)))) (h : Ev K T te δ (.sh (.int y))) (q : k.nx (δ.set i (some (.sh (.int (f x y)))))) : Sx K T (tAug i te (ipI f)) δ k := fun H0 H σ D r o => by
  obtain ⟨v, h1, h2⟩ := r.ok i _ hx
  refine ⟨v, h1, ?_⟩
  refine h H0 H σ r _ fun u H1 g1 t1 o1 => ⟨x, y, h2, o1, o.nx H1 _ _ ((r.grow g1 t1).set (s := .sh (.int (f x y))) rfl (fun z => nomatch z) (by simp [setOk, Sl.cont])) q⟩
end
section
variable {P : Program} {w : World} {K : PySem.W.Frag} {mg : Str → Option Value} {base : Heap} {T : List NTab}
theorem rec_Sp {f : Addr} {fd : FuncData} {ps : List Str} {c : Nat} {sp : Nat → Sp} (hl : ∀ n vs H Q E, sp n vs H Q E → vs.length = ps.length)
    (h : ∀ n, FnOk P w K mg base CX0 (n + c) f fd ps (fun vs H Q E => ∃ m, m < n ∧ sp m vs H Q E) → FnOk P w K mg base CX0 (n + c + 1) f fd ps (sp n)) : ∀ n, FnOk P w K mg base CX0 (n + c + 1) f fd ps (sp n) := by
  intro n
  induction n using Nat.strongRecOn with
  | _ n ih =>
    refine h n ⟨fun vs H Q E ⟨m, _, r⟩ => hl m vs H Q E r, fun A outer s H args us vs Q E hr e0 hb hv ⟨m, lt, hR⟩ => ?_⟩
    exact (ih m lt).run A outer s H args us vs Q E (hr.mono (by omega)) e0 hb hv hR
/-- the heap without a -/
def hide (a : Addr) (H : Hp) : Hp := fun b => if b = a then none else H b
theorem hide_same {a : Addr} {H : Hp} : hide a H a = none := if_pos rfl
theorem hide_ne {a b : Addr} {H : Hp} (h : b ≠ a) : hide a H b = H b := if_neg h
theorem Gr.hide {a : Addr} {H : Hp} : Gr (hide a H) H := by
  refine ⟨fun b o e n => ?_, fun b e => ?_⟩
  · by_cases hb : b = a
    · rw [hb, hide_same] at e; cases e
    · rw [hide_ne hb] at e; exact e
  · by_cases hb : b = a
    · rw [hb, hide_same]
    · rw [hide_ne hb]; exact e
end
/-! the rules, the written part by its name -/
section
variable {X : Cx} (K : PySem.W.Frag)
theorem kIx (hK : X.K = K := by rfl) : IxR X (rIx K) := hK ▸ ix_seq
theorem kEq (hu : X.A.units + 64 < cLine) (hK : X.K = K := by rfl) : OpR X (compareOp .Eq) (rEqA K) := hK ▸ op_eqA hu
theorem kNe (hu : X.A.units + 64 < cLine) (hK : X.K = K := by rfl) : OpR X (compareOp .NotEq) (rNeA K) := hK ▸ op_neA hu
theorem kAdd (hK : X.K = K := by rfl) : OpR X (binaryOp .Add) (rAddA K) := hK ▸ op_addA
theorem kSl (hK : X.K = K := by rfl) : SlR X (rSlAA K) := hK ▸ sl_any
theorem kIn (hK : X.K = K := by rfl) : OpR X (compareOp .In) (rIn K false) := hK ▸ op_in_seq
theorem kNotIn (hK : X.K = K := by rfl) : OpR X (compareOp .NotIn) (rIn K true) := hK ▸ op_notIn_seq
theorem kLt (hu : X.A.units < cLine) (hK : X.K = K := by rfl) : OpR X (compareOp .Lt) (rLtT K) := hK ▸ op_ltT hu
theorem kLen (hK : X.K = K := by rfl) : CallR X (.builtin "len") (rLenQ K) := hK ▸ call_lenQ
theorem kList (hK : X.K = K := by rfl) : CallR X (.type "list") (rListQ K) := hK ▸ call_listQ
theorem kTuple (hK : X.K = K := by rfl) : CallR X (.type "tuple") (rTupQ K) := hK ▸ call_tupQ
theorem kIsi (hK : X.K = K := by rfl) : CallR X (.builtin "isinstance") (rIsi K) := hK ▸ call_isi
theorem kAny (hc : X.calm = true := by rfl) (hK : X.K = K := by rfl) : CallR X (.builtin "any") (rAny K) := hK ▸ cr_any hc
variable {a b e o : Expr} {rest es : List Expr} {ta tb te to : TE} {t : TA} {pos : Pos}
theorem kTru (ha : PE X a ta) (he : ∀ whole, isTrue a X.env whole = (do let v ← whole; standAt a.pos; holding [v] (truthy v))) (hK : X.K = K := by rfl) : PT X a (tTru K ta) := hK ▸ pt_truth ha he
theorem kNot (ha : PE X a ta) (hK : X.K = K := by rfl) : PE X (.UnaryOp .Not a pos) (tNotT K ta) := hK ▸ pe_notT ha
theorem kAnd (ha : PE X a ta) (hb : PE X (.BoolOp .And (b :: rest) pos) tb) (hK : X.K = K := by rfl) : PE X (.BoolOp .And (a :: b :: rest) pos) (tAndT K ta tb) := hK ▸ pe_andT ha hb
theorem kOr (ha : PE X a ta) (hb : PE X (.BoolOp .Or (b :: rest) pos) tb) (hK : X.K = K := by rfl) : PE X (.BoolOp .Or (a :: b :: rest) pos) (tOrT K ta tb) := hK ▸ pe_orT ha hb
theorem kFld {f : Str} (he : PE X e te) (hb : attributeBase e f X.env (eval e X.env) = eval e X.env) (hK : X.K = K := by rfl) : PE X (.Attribute e f pos) (tFld K te f) := hK ▸ pe_fld he hb
variable {tg l : Expr}
theorem kiTup (h : PE X l te) (hK : X.K = K := by rfl) : PI X tg l (iTup K te) := hK ▸ pi_tup h
theorem kiList (h : PE X l te) (hK : X.K = K := by rfl) : PI X tg l (iList K te) := hK ▸ pi_list h
theorem kgTup {es : List Expr} {k : Nat} {t : TGs} {n : Nat} (hc : X.calm = true) (h : PGs X es t) (hn : (assignEach es X.env).length = n := by rfl) (hst : (assignEach es X.env).findIdx? (·.1) = none := by rfl) (hK : X.K = K := by rfl) : PG X (.Tuple es k pos) (gTup K n t) := hK ▸ pg_tup hc h hn hst
end
end G3
end

section
set_option Elab.async false
set_option linter.all false
namespace G3
open PySem L2

/-! ### symbols, terms, literals, clauses -/
structure Sy where
  a : Int
  b : Int
  c : Int
  deriving DecidableEq
inductive Tm where
  | v (n : Int)
  | ap (s : Sy) (l : List Tm)
structure Lit where
  p : Bool
  l : Tm
  r : Tm
abbrev Cl := List Lit
abbrev Sub := List (Int × Tm)
abbrev Wts := List (List Int × Int)

def Sy.key (s : Sy) : List Int := [s.a, s.b, s.c]
def Sy.d (s : Sy) : Dat := .tup [.int s.a, .int s.b, .int s.c]
mutual
def Tm.d : Tm → Dat
  | .v n => .int n
  | .ap s l => .tup [s.d, .tup (tmsD l)]
def tmsD : List Tm → List Dat
  | [] => []
  | t :: r => t.d :: tmsD r
end
theorem tmsD_map : ∀ l : List Tm, tmsD l = l.map Tm.d
  | [] => rfl
  | t :: r => by rw [tmsD, tmsD_map r]; rfl
theorem d_ap (s : Sy) (l : List Tm) : (Tm.ap s l).d = .tup [s.d, .tup (l.map Tm.d)] := by rw [Tm.d, tmsD_map]
theorem d_v (n : Int) : (Tm.v n).d = .int n := by rw [Tm.d]
def Lit.d (x : Lit) : Dat := .tup [.bl x.p, x.l.d, x.r.d]
def Cl.d (c : Cl) : Dat := .tup (c.map Lit.d)
def Sub.d (σ : Sub) : List (Int × Dat) := σ.map fun p => (p.1, p.2.d)

mutual
def Tm.depth : Tm → Nat
  | .v _ => 0
  | .ap _ l => depthL l + 1
def depthL : List Tm → Nat
  | [] => 0
  | t :: r => max t.depth (depthL r)
end
theorem depth_mem {t : Tm} : ∀ {l : List Tm}, t ∈ l → t.depth ≤ depthL l
  | [], h => by simp at h
  | u :: r, h => by
    rw [depthL]
    rcases List.mem_cons.mp h with rfl | h
    · omega
    · have := depth_mem h
      omega
theorem depthL_le {n : Nat} : ∀ {l : List Tm}, (∀ t ∈ l, t.depth ≤ n) → depthL l ≤ n
  | [], _ => Nat.zero_le _
  | u :: r, h => by
    rw [depthL]
    have h1 := h u List.mem_cons_self
    have h2 := depthL_le (l := r) fun t ht => h t (List.mem_cons_of_mem _ ht)
    omega
theorem depth_arg {s : Sy} {l : List Tm} {t : Tm} (h : t ∈ l) : t.depth < (Tm.ap s l).depth := by
  have := depth_mem h
  rw [Tm.depth]; omega
mutual
def Tm.size : Tm → Nat
  | .v _ => 1
  | .ap _ l => sizeL l + 1
def sizeL : List Tm → Nat
  | [] => 0
  | t :: r => t.size + sizeL r
end
theorem size_pos (t : Tm) : 0 < t.size := by cases t <;> simp [Tm.size]
theorem size_mem {t : Tm} : ∀ {l : List Tm}, t ∈ l → t.size ≤ sizeL l
  | [], h => by simp at h
  | u :: r, h => by
    rw [sizeL]
    rcases List.mem_cons.mp h with rfl | h
    · omega
    · have := size_mem h
      omega
theorem size_arg {s : Sy} {l : List Tm} {t : Tm} (h : t ∈ l) : t.size < (Tm.ap s l).size := by
  have := size_mem h
  rw [Tm.size]; omega
/-- induction on terms -/
theorem Tm.ind {p : Tm → Prop} (hv : ∀ n, p (.v n)) (ha : ∀ s l, (∀ t ∈ l, p t) → p (.ap s l)) : ∀ t, p t := by
  intro t
  generalize hn : t.size = n
  induction n using Nat.strongRecOn generalizing t with
  | _ n ih =>
    cases t with
    | v m => exact hv m
    | ap s l => exact ha s l fun u hu => ih u.size (by rw [← hn]; exact size_arg hu) u rfl

/-! data of terms is plain, of bounded depth; terms are told apart by their data -/
theorem sy_plain (s : Sy) : s.d.plain = true := by simp [Sy.d, Dat.plain, plainAll]
theorem plainAll_iff : ∀ {l : List Dat}, plainAll l = true ↔ ∀ d ∈ l, d.plain = true
  | [] => by simp [plainAll]
  | d :: r => by simp [plainAll, plainAll_iff (l := r)]
theorem depAll_le {n : Nat} : ∀ {l : List Dat}, (∀ d ∈ l, d.dep ≤ n) → depAll l ≤ n
  | [], _ => by simp [depAll]
  | d :: r, h => by
    have h1 := h d List.mem_cons_self
    have h2 := depAll_le (l := r) fun t ht => h t (List.mem_cons_of_mem _ ht)
    simp only [depAll]; omega
theorem depAll_mem {d : Dat} : ∀ {l : List Dat}, d ∈ l → d.dep ≤ depAll l
  | [], h => by simp at h
  | u :: r, h => by
    rw [depAll]
    rcases List.mem_cons.mp h with rfl | h
    · omega
    · have := depAll_mem h
      omega
theorem tm_plain : ∀ t : Tm, t.d.plain = true := by
  refine Tm.ind (fun n => by simp [d_v, Dat.plain]) fun s l ih => ?_
  rw [d_ap]
  have : plainAll (l.map Tm.d) = true := plainAll_iff.mpr fun d hd => by
    obtain ⟨t, ht, rfl⟩ := List.mem_map.mp hd
    exact ih t ht
  simp [Dat.plain, plainAll, sy_plain, this]
theorem tm_dep : ∀ t : Tm, t.d.dep ≤ 2 * t.depth + 1 := by
  refine Tm.ind (fun n => by simp [d_v, Dat.dep]) fun s l ih => ?_
  rw [d_ap, Tm.depth]
  have h1 : depAll (l.map Tm.d) ≤ 2 * depthL l + 1 := depAll_le fun d hd => by
    obtain ⟨t, ht, rfl⟩ := List.mem_map.mp hd
    have := ih t ht
    have := depth_mem ht
    omega
  have h2 : s.d.dep = 1 := by simp [Sy.d, Dat.dep, depAll]
  simp only [Dat.dep, depAll, h2]
  omega
theorem sy_inj {s u : Sy} (h : s.d = u.d) : s = u := by
  cases s; cases u
  simp only [Sy.d, Dat.tup.injEq, List.cons.injEq, Dat.int.injEq, and_true] at h
  obtain ⟨h1, h2, h3⟩ := h
  rw [h1, h2, h3]
theorem map_inj_of {α β : Type} {f : α → β} : ∀ {l m : List α}, (∀ x ∈ l, ∀ y, f x = f y → x = y) → l.map f = m.map f → l = m
  | [], [], _, _ => rfl
  | [], _ :: _, _, h => by simp at h
  | _ :: _, [], _, h => by simp at h
  | x :: l, y :: m, hf, h => by
    simp only [List.map_cons, List.cons.injEq] at h
    rw [hf x List.mem_cons_self y h.1, map_inj_of (fun z hz => hf z (List.mem_cons_of_mem _ hz)) h.2]
theorem tm_inj : ∀ {t u : Tm}, t.d = u.d → t = u := by
  intro t
  refine Tm.ind (p := fun t => ∀ u : Tm, t.d = u.d → t = u) (fun n u h => ?_) (fun s l ih u h => ?_) t _
  · cases u with
    | v m => rw [d_v, d_v] at h; cases h; rfl
    | ap s l => rw [d_v, d_ap] at h; cases h
  · cases u with
    | v m => rw [d_v, d_ap] at h; cases h
    | ap s' l' =>
      rw [d_ap, d_ap] at h
      simp only [Dat.tup.injEq, List.cons.injEq, and_true] at h
      rw [sy_inj h.1, map_inj_of (fun x hx y => ih x hx y) h.2]
theorem tm_inj_iff {t u : Tm} : t.d = u.d ↔ t = u := ⟨tm_inj, fun h => by rw [h]⟩
theorem tms_inj_iff {l m : List Tm} : l.map Tm.d = m.map Tm.d ↔ l = m := ⟨map_inj_of fun _ _ _ => tm_inj, fun h => by rw [h]⟩

/-! ### the mirror: what the defs reckon -/
noncomputable section
open scoped Classical
def Tm.isV : Tm → Bool
  | .v _ => true
  | .ap _ _ => false
mutual
def occ (x : Int) : Tm → Nat
  | .v n => if n = x then 1 else 0
  | .ap _ l => occL x l
def occL (x : Int) : List Tm → Nat
  | [] => 0
  | t :: r => occ x t + occL x r
end
mutual
def coll (acc : List Int) : Tm → List Int
  | .v n => if n ∈ acc then acc else acc ++ [n]
  | .ap _ l => collL acc l
def collL (acc : List Int) : List Tm → List Int
  | [] => acc
  | t :: r => collL (coll acc t) r
end
def vars (t : Tm) : List Int := coll [] t
def Tm.isAtom : Tm → Bool
  | .v _ => false
  | .ap s _ => decide (s.a = 0 ∨ s.a = 1 ∨ s.a = 4 ∨ s.a = 5)
def sw (W : Wts) (s : Sy) : Int := ((W.find? fun p => decide (p.1 = s.key)).map (·.2)).getD 1
mutual
def wt (W : Wts) : Tm → Int
  | .v _ => 1
  | .ap s l => sw W s + wtL W l
def wtL (W : Wts) : List Tm → Int
  | [] => 0
  | t :: r => wt W t + wtL W r
end
def hd : Tm → Tm
  | .v n => .v n
  | .ap s l => .ap s l.dropLast
def hav (s t : Tm) : Bool := (vars t).all fun x => decide (¬ occ x t > occ x s)
theorem sizeL_append : ∀ l m : List Tm, sizeL (l ++ m) = sizeL l + sizeL m
  | [], m => by simp [sizeL]
  | t :: r, m => by simp [sizeL, sizeL_append r m]; omega
theorem size_drop {l : List Tm} (h : l ≠ []) : sizeL l.dropLast + (l.getLast h).size = sizeL l := by
  have e := List.dropLast_concat_getLast h
  have := congrArg sizeL e
  rw [sizeL_append] at this
  simpa [sizeL] using this
def gr (W : Wts) : Tm → Tm → Bool
  | .v _, _ => false
  | .ap s l, t => hav (.ap s l) t && (if wt W (.ap s l) ≠ wt W t then decide (wt W (.ap s l) > wt W t) else
    match t with
    | .v _ => false
    | .ap s' l' => if h : l = [] then decide (l' = []) && HT.lexLt s'.key s.key else if h' : l' = [] then true else
      if Tm.ap s l.dropLast ≠ .ap s' l'.dropLast then gr W (.ap s l.dropLast) (.ap s' l'.dropLast) else gr W (l.getLast h) (l'.getLast h'))
termination_by s => s.size
decreasing_by
  · have := size_drop h
    have := size_pos (l.getLast h)
    simp only [Tm.size]; omega
  · exact size_arg (List.getLast_mem h)
/-- substitution -/
def look (σ : Sub) (x : Int) : Option Tm := getI σ x
mutual
def put (σ : Sub) : Tm → Tm
  | .v n => (look σ n).getD (.v n)
  | .ap s l => .ap s (putL σ l)
def putL (σ : Sub) : List Tm → List Tm
  | [] => []
  | t :: r => put σ t :: putL σ r
end
theorem putL_map (σ : Sub) : ∀ l, putL σ l = l.map (put σ)
  | [] => rfl
  | t :: r => by rw [putL, putL_map σ r]; rfl
theorem put_ap (σ : Sub) (s : Sy) (l : List Tm) : put σ (.ap s l) = .ap s (l.map (put σ)) := by rw [put, putL_map]
def putLit (σ : Sub) (x : Lit) : Lit := ⟨x.p, put σ x.l, put σ x.r⟩
def putCl (σ : Sub) (c : Cl) : Cl := c.map (putLit σ)
mutual
def shift (m : Int) : Tm → Tm
  | .v n => .v (n + m)
  | .ap s l => .ap s (shiftL m l)
def shiftL (m : Int) : List Tm → List Tm
  | [] => []
  | t :: r => shift m t :: shiftL m r
end
theorem shiftL_map (m : Int) : ∀ l, shiftL m l = l.map (shift m)
  | [] => rfl
  | t :: r => by rw [shiftL, shiftL_map m r]; rfl
theorem shift_ap (m : Int) (s : Sy) (l : List Tm) : shift m (.ap s l) = .ap s (l.map (shift m)) := by rw [shift, shiftL_map]
def shiftLit (m : Int) (x : Lit) : Lit := ⟨x.p, shift m x.l, shift m x.r⟩
def shiftCl (m : Int) (c : Cl) : Cl := c.map (shiftLit m)
def Lit.side (x : Lit) : Nat → Tm
  | 0 => x.l
  | _ => x.r
def Lit.with (x : Lit) (k : Nat) (t : Tm) : Lit := if k = 0 then ⟨x.p, t, x.r⟩ else ⟨x.p, x.l, t⟩
def sameSides (x y : Lit) : Bool := decide ((x.l = y.l ∧ x.r = y.r) ∨ (x.l = y.r ∧ x.r = y.l))
def same (x y : Lit) : Bool := decide (x.p = y.p) && sameSides x y
def clVars (c : Cl) : List Int := c.foldl (fun acc x => coll (coll acc x.l) x.r) []
/-- the multiset order: the loops of is_more -/
def idxOf (l : List Tm) (t : Tm) : Option Nat := l.findIdx? fun u => decide (u = t)
def moreStep (p : List Tm × List Tm) (t : Tm) : List Tm × List Tm := match idxOf p.1 t with
  | none => (p.1, p.2 ++ [t])
  | some k => (p.1.eraseIdx k, p.2)
def isMore (big : Tm → Tm → Bool) (xs ys : List Tm) : Bool :=
  let p := xs.foldl moreStep (ys, [])
  !p.2.isEmpty && p.1.all fun e => p.2.any fun o => big o e
def sidesOf (x : Lit) : List Tm := if x.p then [x.l, x.r] else [x.l, x.l, x.r, x.r]
def litGr (W : Wts) (x y : Lit) : Bool := isMore (gr W) (sidesOf x) (sidesOf y)
def greatest (W : Wts) (c : Cl) (y : Lit) : Bool := c.all fun x => !litGr W x y
def aloneAt (c : Cl) (k : Nat) (y : Lit) : Bool := (List.range c.length).all fun j => decide (j = k) || !(match c[j]? with | some x => same x y | none => false)
end
end G3
end

section
set_option Elab.async false
set_option linter.all false
set_option maxRecDepth 100000
namespace G3
open PySem PySem.Spec PyProof.Rows L2 LamX NdefX
/-! ### the text -/
abbrev s_is_variable : Stmt := topS 1
theorem sc_is_variable : FnScope ["term"] ["term"] (defScope s_is_variable) := ⟨rfl, rfl, rfl, by decide +kernel, rfl, by decide +kernel, by decide +kernel⟩
abbrev s_occurrences : Stmt := topS 2
theorem sc_occurrences : FnScope ["term", "variable", "total", "part"] ["term", "variable"] (defScope s_occurrences) := ⟨rfl, rfl, rfl, by decide +kernel, rfl, by decide +kernel, by decide +kernel⟩
abbrev s_collect : Stmt := topS 3
theorem sc_collect : FnScope ["term", "found", "part"] ["term", "found"] (defScope s_collect) := ⟨rfl, rfl, rfl, by decide +kernel, rfl, by decide +kernel, by decide +kernel⟩
abbrev s_variables : Stmt := topS 4
theorem sc_variables : FnScope ["term", "found"] ["term"] (defScope s_variables) := ⟨rfl, rfl, rfl, by decide +kernel, rfl, by decide +kernel, by decide +kernel⟩
abbrev s_is_atom : Stmt := topS 5
theorem sc_is_atom : FnScope ["term"] ["term"] (defScope s_is_atom) := ⟨rfl, rfl, rfl, by decide +kernel, rfl, by decide +kernel, by decide +kernel⟩
abbrev s_symbol_weight : Stmt := topS 7
theorem sc_symbol_weight : FnScope ["weights", "symbol"] ["weights", "symbol"] (defScope s_symbol_weight) := ⟨rfl, rfl, rfl, by decide +kernel, rfl, by decide +kernel, by decide +kernel⟩
abbrev s_term_weight : Stmt := topS 8
theorem sc_term_weight : FnScope ["weights", "term", "total", "part"] ["weights", "term"] (defScope s_term_weight) := ⟨rfl, rfl, rfl, by decide +kernel, rfl, by decide +kernel, by decide +kernel⟩
abbrev s_comes_before : Stmt := topS 10
theorem sc_comes_before : FnScope ["first", "second"] ["first", "second"] (defScope s_comes_before) := ⟨rfl, rfl, rfl, by decide +kernel, rfl, by decide +kernel, by decide +kernel⟩
abbrev s_head : Stmt := topS 12
theorem sc_head : FnScope ["term"] ["term"] (defScope s_head) := ⟨rfl, rfl, rfl, by decide +kernel, rfl, by decide +kernel, by decide +kernel⟩
abbrev s_has_all_variables : Stmt := topS 13
theorem sc_has_all_variables : FnScope ["first", "second", "variable"] ["first", "second"] (defScope s_has_all_variables) := ⟨rfl, rfl, rfl, by decide +kernel, rfl, by decide +kernel, by decide +kernel⟩
abbrev s_greater : Stmt := topS 14
theorem sc_greater : FnScope ["weights", "first", "second", "ours", "theirs"] ["weights", "first", "second"] (defScope s_greater) := ⟨rfl, rfl, rfl, by decide +kernel, rfl, by decide +kernel, by decide +kernel⟩
abbrev s_greater_of_equal_weight : Stmt := topS 15
theorem sc_greater_of_equal_weight : FnScope ["weights", "first", "second", "one", "other"] ["weights", "first", "second"] (defScope s_greater_of_equal_weight) := ⟨rfl, rfl, rfl, by decide +kernel, rfl, by decide +kernel, by decide +kernel⟩
abbrev s_compare : Stmt := topS 16
theorem sc_compare : FnScope ["weights", "first", "second"] ["weights", "first", "second"] (defScope s_compare) := ⟨rfl, rfl, rfl, by decide +kernel, rfl, by decide +kernel, by decide +kernel⟩
abbrev s_put : Stmt := topS 18
theorem sc_put : FnScope ["term", "substitution", "part"] ["term", "substitution"] (defScope s_put) := ⟨rfl, rfl, rfl, by decide +kernel, rfl, by decide +kernel, by decide +kernel⟩
abbrev s_put_literal : Stmt := topS 19
theorem sc_put_literal : FnScope ["literal", "substitution"] ["literal", "substitution"] (defScope s_put_literal) := ⟨rfl, rfl, rfl, by decide +kernel, rfl, by decide +kernel, by decide +kernel⟩
abbrev s_put_clause : Stmt := topS 20
theorem sc_put_clause : FnScope ["clause", "substitution", "literal"] ["clause", "substitution"] (defScope s_put_clause) := ⟨rfl, rfl, rfl, by decide +kernel, rfl, by decide +kernel, by decide +kernel⟩
abbrev s_shifted : Stmt := topS 21
theorem sc_shifted : FnScope ["term", "amount", "part"] ["term", "amount"] (defScope s_shifted) := ⟨rfl, rfl, rfl, by decide +kernel, rfl, by decide +kernel, by decide +kernel⟩
abbrev s_shifted_clause : Stmt := topS 22
theorem sc_shifted_clause : FnScope ["clause", "amount", "one"] ["clause", "amount"] (defScope s_shifted_clause) := ⟨rfl, rfl, rfl, by decide +kernel, rfl, by decide +kernel, by decide +kernel⟩
abbrev s_side : Stmt := topS 24
theorem sc_side : FnScope ["literal", "k"] ["literal", "k"] (defScope s_side) := ⟨rfl, rfl, rfl, by decide +kernel, rfl, by decide +kernel, by decide +kernel⟩
abbrev s_with_side : Stmt := topS 25
theorem sc_with_side : FnScope ["literal", "k", "term"] ["literal", "k", "term"] (defScope s_with_side) := ⟨rfl, rfl, rfl, by decide +kernel, rfl, by decide +kernel, by decide +kernel⟩
abbrev s_same_sides : Stmt := topS 26
theorem sc_same_sides : FnScope ["first", "second"] ["first", "second"] (defScope s_same_sides) := ⟨rfl, rfl, rfl, by decide +kernel, rfl, by decide +kernel, by decide +kernel⟩
abbrev s_same : Stmt := topS 27
theorem sc_same : FnScope ["first", "second"] ["first", "second"] (defScope s_same) := ⟨rfl, rfl, rfl, by decide +kernel, rfl, by decide +kernel, by decide +kernel⟩
abbrev s_clause_variables : Stmt := topS 28
theorem sc_clause_variables : FnScope ["clause", "found", "literal"] ["clause"] (defScope s_clause_variables) := ⟨rfl, rfl, rfl, by decide +kernel, rfl, by decide +kernel, by decide +kernel⟩
abbrev s_index_of : Stmt := topS 30
theorem sc_index_of : FnScope ["listed", "one", "equal", "k", "element"] ["listed", "one", "equal"] (defScope s_index_of) := ⟨rfl, rfl, rfl, by decide +kernel, rfl, by decide +kernel, by decide +kernel⟩
abbrev s_is_more : Stmt := topS 31
theorem sc_is_more : FnScope ["first", "second", "equal", "bigger", "rest", "left", "one", "k", "element"] ["first", "second", "equal", "bigger"] (defScope s_is_more) := ⟨rfl, rfl, rfl, by decide +kernel, rfl, by decide +kernel, by decide +kernel⟩
abbrev s_equal_terms : Stmt := topS 32
theorem sc_equal_terms : FnScope ["first", "second"] ["first", "second"] (defScope s_equal_terms) := ⟨rfl, rfl, rfl, by decide +kernel, rfl, by decide +kernel, by decide +kernel⟩
abbrev s_sides_of : Stmt := topS 33
theorem sc_sides_of : FnScope ["literal"] ["literal"] (defScope s_sides_of) := ⟨rfl, rfl, rfl, by decide +kernel, rfl, by decide +kernel, by decide +kernel⟩
abbrev s_literal_greater : Stmt := topS 34
theorem sc_literal_greater : FnScope ["weights", "first", "second"] ["weights", "first", "second"] (defScope s_literal_greater) := ⟨rfl, rfl, rfl, by decide +kernel, rfl, by decide +kernel, by decide +kernel⟩
abbrev s_is_greatest : Stmt := topS 35
theorem sc_is_greatest : FnScope ["weights", "clause", "k", "literal"] ["weights", "clause", "k"] (defScope s_is_greatest) := ⟨rfl, rfl, rfl, by decide +kernel, rfl, by decide +kernel, by decide +kernel⟩
abbrev s_is_greatest_alone : Stmt := topS 36
theorem sc_is_greatest_alone : FnScope ["weights", "clause", "k", "j", "literal"] ["weights", "clause", "k"] (defScope s_is_greatest_alone) := ⟨rfl, rfl, rfl, by decide +kernel, rfl, by decide +kernel, by decide +kernel⟩
abbrev s_may_act : Stmt := topS 38
theorem sc_may_act : FnScope ["weights", "clause", "selected", "k", "substitution"] ["weights", "clause", "selected", "k", "substitution"] (defScope s_may_act) := ⟨rfl, rfl, rfl, by decide +kernel, rfl, by decide +kernel, by decide +kernel⟩
abbrev s_may_give : Stmt := topS 39
theorem sc_may_give : FnScope ["weights", "clause", "selected", "k", "substitution"] ["weights", "clause", "selected", "k", "substitution"] (defScope s_may_give) := ⟨rfl, rfl, rfl, by decide +kernel, rfl, by decide +kernel, by decide +kernel⟩
abbrev s_may_lead : Stmt := topS 40
theorem sc_may_lead : FnScope ["weights", "literal", "side_index", "substitution", "ours", "theirs"] ["weights", "literal", "side_index", "substitution"] (defScope s_may_lead) := ⟨rfl, rfl, rfl, by decide +kernel, rfl, by decide +kernel, by decide +kernel⟩
abbrev s_Conclusion___init__ : Stmt := inClass (topS 42) 0
theorem sc_Conclusion___init__ : FnScope ["self", "kind", "clause", "literal", "side", "place", "other_literal", "other_side", "first", "second"] ["self", "kind", "clause", "literal", "side", "place", "other_literal", "other_side", "first", "second"] (defScope s_Conclusion___init__) := ⟨rfl, rfl, rfl, by decide +kernel, rfl, by decide +kernel, by decide +kernel⟩
abbrev s_numbering : Stmt := topS 43
theorem sc_numbering : FnScope ["clause", "first", "second", "order", "told", "key", "k", "variable"] ["clause", "first", "second"] (defScope s_numbering) := ⟨rfl, rfl, rfl, by decide +kernel, rfl, by decide +kernel, by decide +kernel⟩
abbrev s_renamed : Stmt := topS 44
theorem sc_renamed : FnScope ["told", "new", "key"] ["told", "new"] (defScope s_renamed) := ⟨rfl, rfl, rfl, by decide +kernel, rfl, by decide +kernel, by decide +kernel⟩
abbrev s_conclude : Stmt := topS 45
theorem sc_conclude : FnScope ["kind", "clause", "literal", "side", "place", "other_literal", "other_side", "first", "second", "new"] ["kind", "clause", "literal", "side", "place", "other_literal", "other_side", "first", "second"] (defScope s_conclude) := ⟨rfl, rfl, rfl, by decide +kernel, rfl, by decide +kernel, by decide +kernel⟩
abbrev s_became : Stmt := topS 46
theorem sc_became : FnScope ["clause", "substitution", "amount", "key"] ["clause", "substitution", "amount"] (defScope s_became) := ⟨rfl, rfl, rfl, by decide +kernel, rfl, by decide +kernel, by decide +kernel⟩
abbrev s_places : Stmt := topS 48
theorem sc_places : FnScope ["term", "found", "k", "part", "place", "inner"] ["term"] (defScope s_places) := ⟨rfl, rfl, rfl, by decide +kernel, rfl, by decide +kernel, by decide +kernel⟩
abbrev s_at : Stmt := topS 49
theorem sc_at : FnScope ["term", "place", "here", "step"] ["term", "place"] (defScope s_at) := ⟨rfl, rfl, rfl, by decide +kernel, rfl, by decide +kernel, by decide +kernel⟩
abbrev s_put_inside : Stmt := topS 50
theorem sc_put_inside : FnScope ["term", "place", "new", "step", "parts"] ["term", "place", "new"] (defScope s_put_inside) := ⟨rfl, rfl, rfl, by decide +kernel, rfl, by decide +kernel, by decide +kernel⟩
abbrev s_put_at : Stmt := topS 51
theorem sc_put_at : FnScope ["term", "place", "new"] ["term", "place", "new"] (defScope s_put_at) := ⟨rfl, rfl, rfl, by decide +kernel, rfl, by decide +kernel, by decide +kernel⟩
abbrev s_bind : Stmt := topS 53
theorem sc_bind : FnScope ["found", "variable", "term", "step", "new", "key", "old"] ["found", "variable", "term"] (defScope s_bind) := ⟨rfl, rfl, rfl, by decide +kernel, rfl, by decide +kernel, by decide +kernel⟩
abbrev s_unify : Stmt := topS 54
theorem sc_unify : FnScope ["pairs", "waiting", "found", "first", "second", "step", "one", "other"] ["pairs"] (defScope s_unify) := ⟨rfl, rfl, rfl, by decide +kernel, rfl, by decide +kernel, by decide +kernel⟩
abbrev s_spots : Stmt := topS 56
theorem sc_spots : FnScope ["c", "found", "k", "literal", "s", "place", "term"] ["c"] (defScope s_spots) := ⟨rfl, rfl, rfl, by decide +kernel, rfl, by decide +kernel, by decide +kernel⟩
abbrev s_leads : Stmt := topS 57
theorem sc_leads : FnScope ["d", "found", "k", "literal", "s"] ["d"] (defScope s_leads) := ⟨rfl, rfl, rfl, by decide +kernel, rfl, by decide +kernel, by decide +kernel⟩
abbrev s_Superposer___init__ : Stmt := inClass (topS 58) 0
theorem sc_Superposer___init__ : FnScope ["self", "weights", "c", "selected_c", "d", "selected_d"] ["self", "weights", "c", "selected_c", "d", "selected_d"] (defScope s_Superposer___init__) := ⟨rfl, rfl, rfl, by decide +kernel, rfl, by decide +kernel, by decide +kernel⟩
abbrev s_Superposer_allowed : Stmt := inClass (topS 58) 1
theorem sc_Superposer_allowed : FnScope ["self", "k", "s", "j", "t", "found", "weights"] ["self", "k", "s", "j", "t", "found"] (defScope s_Superposer_allowed) := ⟨rfl, rfl, rfl, by decide +kernel, rfl, by decide +kernel, by decide +kernel⟩
abbrev s_Superposer_conclusion : Stmt := inClass (topS 58) 2
theorem sc_Superposer_conclusion : FnScope ["self", "spot", "lead", "k", "s", "place", "term", "j", "t", "left", "found", "right", "literal", "whole", "first", "second"] ["self", "spot", "lead"] (defScope s_Superposer_conclusion) := ⟨rfl, rfl, rfl, by decide +kernel, rfl, by decide +kernel, by decide +kernel⟩
abbrev s_superpositions : Stmt := topS 59
theorem sc_superpositions : FnScope ["weights", "c", "selected_c", "d", "selected_d", "superposer", "sides", "found", "spot", "lead", "one"] ["weights", "c", "selected_c", "d", "selected_d"] (defScope s_superpositions) := ⟨rfl, rfl, rfl, by decide +kernel, rfl, by decide +kernel, by decide +kernel⟩
abbrev s_factoring : Stmt := topS 61
theorem sc_factoring : FnScope ["weights", "c", "k", "s", "j", "t", "one", "other", "found", "literal", "whole"] ["weights", "c", "k", "s", "j", "t"] (defScope s_factoring) := ⟨rfl, rfl, rfl, by decide +kernel, rfl, by decide +kernel, by decide +kernel⟩
abbrev s_pairs_of_sides : Stmt := topS 62
theorem sc_pairs_of_sides : FnScope ["c", "positive", "k", "literal", "s", "j", "t"] ["c"] (defScope s_pairs_of_sides) := ⟨rfl, rfl, rfl, by decide +kernel, rfl, by decide +kernel, by decide +kernel⟩
abbrev s_factorings : Stmt := topS 63
theorem sc_factorings : FnScope ["weights", "c", "selected", "found", "k", "s", "j", "t", "one"] ["weights", "c", "selected"] (defScope s_factorings) := ⟨rfl, rfl, rfl, by decide +kernel, rfl, by decide +kernel, by decide +kernel⟩
abbrev s_resolution : Stmt := topS 65
theorem sc_resolution : FnScope ["weights", "c", "selected", "k", "found", "rest"] ["weights", "c", "selected", "k"] (defScope s_resolution) := ⟨rfl, rfl, rfl, by decide +kernel, rfl, by decide +kernel, by decide +kernel⟩
abbrev s_resolutions : Stmt := topS 66
theorem sc_resolutions : FnScope ["weights", "c", "selected", "found", "k", "literal", "one"] ["weights", "c", "selected"] (defScope s_resolutions) := ⟨rfl, rfl, rfl, by decide +kernel, rfl, by decide +kernel, by decide +kernel⟩
abbrev s__law_cell : Stmt := topS 68
theorem sc__law_cell : FnScope ["_law_script", "_law_k", "_law_cell_here", "_law_low", "_law_mid", "_law_high"] ["_law_script", "_law_k"] (defScope s__law_cell) := ⟨rfl, rfl, rfl, by decide +kernel, rfl, by decide +kernel, by decide +kernel⟩
abbrev s__law_weights : Stmt := topS 69
theorem sc__law_weights : FnScope ["_law_row", "_law_symbols", "_law_weights_here", "_law_symbol_here"] ["_law_row"] (defScope s__law_weights) := ⟨rfl, rfl, rfl, by decide +kernel, rfl, by decide +kernel, by decide +kernel⟩
abbrev s__law_symbol : Stmt := topS 70
theorem sc__law_symbol : FnScope ["_law_n", "_law_symbols"] ["_law_n"] (defScope s__law_symbol) := ⟨rfl, rfl, rfl, by decide +kernel, rfl, by decide +kernel, by decide +kernel⟩
abbrev s__law_term : Stmt := topS 71
theorem sc__law_term : FnScope ["_law_row", "_law_deep", "_law_kind", "_law_many", "_law_symbol_here", "_law_parts", "_law_k", "_law_found"] ["_law_row", "_law_deep"] (defScope s__law_term) := ⟨rfl, rfl, rfl, by decide +kernel, rfl, by decide +kernel, by decide +kernel⟩
abbrev s__law_atom : Stmt := topS 72
theorem sc__law_atom : FnScope ["_law_row", "_law_deep", "_law_symbols", "_law_symbol_here", "_law_many", "_law_parts", "_law_k", "_law_found"] ["_law_row", "_law_deep"] (defScope s__law_atom) := ⟨rfl, rfl, rfl, by decide +kernel, rfl, by decide +kernel, by decide +kernel⟩
abbrev s__law_literal : Stmt := topS 73
theorem sc__law_literal : FnScope ["_law_row", "_law_deep", "_law_positive", "_law_kind", "_law_found", "_law_left", "_law_right"] ["_law_row", "_law_deep"] (defScope s__law_literal) := ⟨rfl, rfl, rfl, by decide +kernel, rfl, by decide +kernel, by decide +kernel⟩
abbrev s__law_clause : Stmt := topS 74
theorem sc__law_clause : FnScope ["_law_row", "_law_most", "_law_deep", "_law_many", "_law_literals", "_law_k", "_law_found"] ["_law_row", "_law_most", "_law_deep"] (defScope s__law_clause) := ⟨rfl, rfl, rfl, by decide +kernel, rfl, by decide +kernel, by decide +kernel⟩
abbrev s__law_is_variable : Stmt := topS 76
theorem sc__law_is_variable : FnScope ["_law_term_here"] ["_law_term_here"] (defScope s__law_is_variable) := ⟨rfl, rfl, rfl, by decide +kernel, rfl, by decide +kernel, by decide +kernel⟩
abbrev s__law_positive_clause : Stmt := topS 83
theorem sc__law_positive_clause : FnScope ["_law_row", "_law_most", "_law_deep", "_law_clause_here", "_law_one"] ["_law_row", "_law_most", "_law_deep"] (defScope s__law_positive_clause) := ⟨rfl, rfl, rfl, by decide +kernel, rfl, by decide +kernel, by decide +kernel⟩
abbrev s__law_selected : Stmt := topS 84
theorem sc__law_selected : FnScope ["_law_clause_here", "_law_row", "_law_negative", "_law_k"] ["_law_clause_here", "_law_row"] (defScope s__law_selected) := ⟨rfl, rfl, rfl, by decide +kernel, rfl, by decide +kernel, by decide +kernel⟩
abbrev s__law_ground : Stmt := topS 88
theorem sc__law_ground : FnScope ["_law_row", "_law_deep", "_law_many", "_law_symbol_here", "_law_parts", "_law_k", "_law_found"] ["_law_row", "_law_deep"] (defScope s__law_ground) := ⟨rfl, rfl, rfl, by decide +kernel, rfl, by decide +kernel, by decide +kernel⟩
abbrev s__law_ground_substitution : Stmt := topS 89
theorem sc__law_ground_substitution : FnScope ["_law_row", "_law_many", "_law_deep", "_law_told", "_law_variable", "_law_found"] ["_law_row", "_law_many", "_law_deep"] (defScope s__law_ground_substitution) := ⟨rfl, rfl, rfl, by decide +kernel, rfl, by decide +kernel, by decide +kernel⟩
abbrev s__law_put : Stmt := topS 90
theorem sc__law_put : FnScope ["_law_term_here", "_law_told", "_law_pair", "_law_part"] ["_law_term_here", "_law_told"] (defScope s__law_put) := ⟨rfl, rfl, rfl, by decide +kernel, rfl, by decide +kernel, by decide +kernel⟩
abbrev s__law_put_clause : Stmt := topS 91
theorem sc__law_put_clause : FnScope ["_law_clause_here", "_law_told", "_law_one"] ["_law_clause_here", "_law_told"] (defScope s__law_put_clause) := ⟨rfl, rfl, rfl, by decide +kernel, rfl, by decide +kernel, by decide +kernel⟩
abbrev s__law_places : Stmt := topS 92
theorem sc__law_places : FnScope ["_law_term_here", "_law_found", "_law_k", "_law_pair"] ["_law_term_here"] (defScope s__law_places) := ⟨rfl, rfl, rfl, by decide +kernel, rfl, by decide +kernel, by decide +kernel⟩
abbrev s__law_is_atom : Stmt := topS 93
theorem sc__law_is_atom : FnScope ["_law_term_here"] ["_law_term_here"] (defScope s__law_is_atom) := ⟨rfl, rfl, rfl, by decide +kernel, rfl, by decide +kernel, by decide +kernel⟩
abbrev s__law_match : Stmt := topS 94
theorem sc__law_match : FnScope ["_law_pattern", "_law_term_here", "_law_told", "_law_pair", "_law_k"] ["_law_pattern", "_law_term_here", "_law_told"] (defScope s__law_match) := ⟨rfl, rfl, rfl, by decide +kernel, rfl, by decide +kernel, by decide +kernel⟩
abbrev s__law_is_instance : Stmt := topS 95
theorem sc__law_is_instance : FnScope ["_law_clause_here", "_law_instance", "_law_told", "_law_k", "_law_s"] ["_law_clause_here", "_law_instance"] (defScope s__law_is_instance) := ⟨rfl, rfl, rfl, by decide +kernel, rfl, by decide +kernel, by decide +kernel⟩
abbrev s__law_is_above : Stmt := topS 96
theorem sc__law_is_above : FnScope ["_law_c", "_law_one", "_law_pair"] ["_law_c", "_law_one"] (defScope s__law_is_above) := ⟨rfl, rfl, rfl, by decide +kernel, rfl, by decide +kernel, by decide +kernel⟩
abbrev s__law_kinds_agree : Stmt := topS 97
theorem sc__law_kinds_agree : FnScope ["_law_c", "_law_one", "_law_left", "_law_right"] ["_law_c", "_law_one"] (defScope s__law_kinds_agree) := ⟨rfl, rfl, rfl, by decide +kernel, rfl, by decide +kernel, by decide +kernel⟩
abbrev s__law_spot : Stmt := topS 98
theorem sc__law_spot : FnScope ["_law_one"] ["_law_one"] (defScope s__law_spot) := ⟨rfl, rfl, rfl, by decide +kernel, rfl, by decide +kernel, by decide +kernel⟩
abbrev s__law_covered : Stmt := topS 99
theorem sc__law_covered : FnScope ["_law_c", "_law_lower", "_law_upper", "_law_one", "_law_found", "_law_other", "_law_clause_here"] ["_law_c", "_law_lower", "_law_upper"] (defScope s__law_covered) := ⟨rfl, rfl, rfl, by decide +kernel, rfl, by decide +kernel, by decide +kernel⟩
abbrev s_law : Stmt := topS 101
theorem sc_law : FnScope ["_law_script", "_law_weights_here", "_law_c", "_law_d", "_law_chosen", "_law_ours", "_law_theirs", "_law_lower", "_law_upper", "_law_kept", "_law_one", "_law_left"] ["_law_script"] (defScope s_law) := ⟨rfl, rfl, rfl, by decide +kernel, rfl, by decide +kernel, by decide +kernel⟩

structure Txt (K : PySem.W.Frag) (mg : Str → Option Value) where
  f_is_variable : FnAt K mg "is_variable" s_is_variable
  f_occurrences : FnAt K mg "occurrences" s_occurrences
  f_collect : FnAt K mg "collect" s_collect
  f_variables : FnAt K mg "variables" s_variables
  f_is_atom : FnAt K mg "is_atom" s_is_atom
  f_symbol_weight : FnAt K mg "symbol_weight" s_symbol_weight
  f_term_weight : FnAt K mg "term_weight" s_term_weight
  f_comes_before : FnAt K mg "comes_before" s_comes_before
  f_head : FnAt K mg "head" s_head
  f_has_all_variables : FnAt K mg "has_all_variables" s_has_all_variables
  f_greater : FnAt K mg "greater" s_greater
  f_greater_of_equal_weight : FnAt K mg "greater_of_equal_weight" s_greater_of_equal_weight
  f_compare : FnAt K mg "compare" s_compare
  f_put : FnAt K mg "put" s_put
  f_put_literal : FnAt K mg "put_literal" s_put_literal
  f_put_clause : FnAt K mg "put_clause" s_put_clause
  f_shifted : FnAt K mg "shifted" s_shifted
  f_shifted_clause : FnAt K mg "shifted_clause" s_shifted_clause
  f_side : FnAt K mg "side" s_side
  f_with_side : FnAt K mg "with_side" s_with_side
  f_same_sides : FnAt K mg "same_sides" s_same_sides
  f_same : FnAt K mg "same" s_same
  f_clause_variables : FnAt K mg "clause_variables" s_clause_variables
  f_index_of : FnAt K mg "index_of" s_index_of
  f_is_more : FnAt K mg "is_more" s_is_more
  f_equal_terms : FnAt K mg "equal_terms" s_equal_terms
  f_sides_of : FnAt K mg "sides_of" s_sides_of
  f_literal_greater : FnAt K mg "literal_greater" s_literal_greater
  f_is_greatest : FnAt K mg "is_greatest" s_is_greatest
  f_is_greatest_alone : FnAt K mg "is_greatest_alone" s_is_greatest_alone
  f_may_act : FnAt K mg "may_act" s_may_act
  f_may_give : FnAt K mg "may_give" s_may_give
  f_may_lead : FnAt K mg "may_lead" s_may_lead
  f_numbering : FnAt K mg "numbering" s_numbering
  f_renamed : FnAt K mg "renamed" s_renamed
  f_conclude : FnAt K mg "conclude" s_conclude
  f_became : FnAt K mg "became" s_became
  f_places : FnAt K mg "places" s_places
  f_at : FnAt K mg "at" s_at
  f_put_inside : FnAt K mg "put_inside" s_put_inside
  f_put_at : FnAt K mg "put_at" s_put_at
  f_bind : FnAt K mg "bind" s_bind
  f_unify : FnAt K mg "unify" s_unify
  f_spots : FnAt K mg "spots" s_spots
  f_leads : FnAt K mg "leads" s_leads
  f_superpositions : FnAt K mg "superpositions" s_superpositions
  f_factoring : FnAt K mg "factoring" s_factoring
  f_pairs_of_sides : FnAt K mg "pairs_of_sides" s_pairs_of_sides
  f_factorings : FnAt K mg "factorings" s_factorings
  f_resolution : FnAt K mg "resolution" s_resolution
  f_resolutions : FnAt K mg "resolutions" s_resolutions
  f__law_cell : FnAt K mg "_law_cell" s__law_cell
  f__law_weights : FnAt K mg "_law_weights" s__law_weights
  f__law_symbol : FnAt K mg "_law_symbol" s__law_symbol
  f__law_term : FnAt K mg "_law_term" s__law_term
  f__law_atom : FnAt K mg "_law_atom" s__law_atom
  f__law_literal : FnAt K mg "_law_literal" s__law_literal
  f__law_clause : FnAt K mg "_law_clause" s__law_clause
  f__law_is_variable : FnAt K mg "_law_is_variable" s__law_is_variable
  f__law_positive_clause : FnAt K mg "_law_positive_clause" s__law_positive_clause
  f__law_selected : FnAt K mg "_law_selected" s__law_selected
  f__law_ground : FnAt K mg "_law_ground" s__law_ground
  f__law_ground_substitution : FnAt K mg "_law_ground_substitution" s__law_ground_substitution
  f__law_put : FnAt K mg "_law_put" s__law_put
  f__law_put_clause : FnAt K mg "_law_put_clause" s__law_put_clause
  f__law_places : FnAt K mg "_law_places" s__law_places
  f__law_is_atom : FnAt K mg "_law_is_atom" s__law_is_atom
  f__law_match : FnAt K mg "_law_match" s__law_match
  f__law_is_instance : FnAt K mg "_law_is_instance" s__law_is_instance
  f__law_is_above : FnAt K mg "_law_is_above" s__law_is_above
  f__law_kinds_agree : FnAt K mg "_law_kinds_agree" s__law_kinds_agree
  f__law_spot : FnAt K mg "_law_spot" s__law_spot
  f__law_covered : FnAt K mg "_law_covered" s__law_covered
  f_law : FnAt K mg "law" s_law
  m_isinstance : mg "isinstance" = none
  m_int : mg "int" = none
  m_list : mg "list" = none
  m_tuple : mg "tuple" = none
  m_len : mg "len" = none
  m_any : mg "any" = none
  m_max : mg "max" = none
  m_range : mg "range" = none
  m_enumerate : mg "enumerate" = none
  m_zip : mg "zip" = none
section
variable {K : PySem.W.Frag} {mg : Str → Option Value}
theorem b_is_variable (E : Txt K mg) : Binds K E.f_is_variable.fd ["term"] [] := E.f_is_variable.F.binds (ps := ["term"]) fun _ _ _ _ _ _ us hl => match us, hl with | [_], _ => rfl
theorem b_occurrences (E : Txt K mg) : Binds K E.f_occurrences.fd ["term", "variable"] [] := E.f_occurrences.F.binds (ps := ["term", "variable"]) fun _ _ _ _ _ _ us hl => match us, hl with | [_, _], _ => rfl
theorem b_collect (E : Txt K mg) : Binds K E.f_collect.fd ["term", "found"] [] := E.f_collect.F.binds (ps := ["term", "found"]) fun _ _ _ _ _ _ us hl => match us, hl with | [_, _], _ => rfl
theorem b_variables (E : Txt K mg) : Binds K E.f_variables.fd ["term"] [] := E.f_variables.F.binds (ps := ["term"]) fun _ _ _ _ _ _ us hl => match us, hl with | [_], _ => rfl
theorem b_is_atom (E : Txt K mg) : Binds K E.f_is_atom.fd ["term"] [] := E.f_is_atom.F.binds (ps := ["term"]) fun _ _ _ _ _ _ us hl => match us, hl with | [_], _ => rfl
theorem b_symbol_weight (E : Txt K mg) : Binds K E.f_symbol_weight.fd ["weights", "symbol"] [] := E.f_symbol_weight.F.binds (ps := ["weights", "symbol"]) fun _ _ _ _ _ _ us hl => match us, hl with | [_, _], _ => rfl
theorem b_term_weight (E : Txt K mg) : Binds K E.f_term_weight.fd ["weights", "term"] [] := E.f_term_weight.F.binds (ps := ["weights", "term"]) fun _ _ _ _ _ _ us hl => match us, hl with | [_, _], _ => rfl
theorem b_comes_before (E : Txt K mg) : Binds K E.f_comes_before.fd ["first", "second"] [] := E.f_comes_before.F.binds (ps := ["first", "second"]) fun _ _ _ _ _ _ us hl => match us, hl with | [_, _], _ => rfl
theorem b_head (E : Txt K mg) : Binds K E.f_head.fd ["term"] [] := E.f_head.F.binds (ps := ["term"]) fun _ _ _ _ _ _ us hl => match us, hl with | [_], _ => rfl
theorem b_has_all_variables (E : Txt K mg) : Binds K E.f_has_all_variables.fd ["first", "second"] [] := E.f_has_all_variables.F.binds (ps := ["first", "second"]) fun _ _ _ _ _ _ us hl => match us, hl with | [_, _], _ => rfl
theorem b_greater (E : Txt K mg) : Binds K E.f_greater.fd ["weights", "first", "second"] [] := E.f_greater.F.binds (ps := ["weights", "first", "second"]) fun _ _ _ _ _ _ us hl => match us, hl with | [_, _, _], _ => rfl
theorem b_greater_of_equal_weight (E : Txt K mg) : Binds K E.f_greater_of_equal_weight.fd ["weights", "first", "second"] [] := E.f_greater_of_equal_weight.F.binds (ps := ["weights", "first", "second"]) fun _ _ _ _ _ _ us hl => match us, hl with | [_, _, _], _ => rfl
theorem b_compare (E : Txt K mg) : Binds K E.f_compare.fd ["weights", "first", "second"] [] := E.f_compare.F.binds (ps := ["weights", "first", "second"]) fun _ _ _ _ _ _ us hl => match us, hl with | [_, _, _], _ => rfl
theorem b_put (E : Txt K mg) : Binds K E.f_put.fd ["term", "substitution"] [] := E.f_put.F.binds (ps := ["term", "substitution"]) fun _ _ _ _ _ _ us hl => match us, hl with | [_, _], _ => rfl
theorem b_put_literal (E : Txt K mg) : Binds K E.f_put_literal.fd ["literal", "substitution"] [] := E.f_put_literal.F.binds (ps := ["literal", "substitution"]) fun _ _ _ _ _ _ us hl => match us, hl with | [_, _], _ => rfl
theorem b_put_clause (E : Txt K mg) : Binds K E.f_put_clause.fd ["clause", "substitution"] [] := E.f_put_clause.F.binds (ps := ["clause", "substitution"]) fun _ _ _ _ _ _ us hl => match us, hl with | [_, _], _ => rfl
theorem b_shifted (E : Txt K mg) : Binds K E.f_shifted.fd ["term", "amount"] [] := E.f_shifted.F.binds (ps := ["term", "amount"]) fun _ _ _ _ _ _ us hl => match us, hl with | [_, _], _ => rfl
theorem b_shifted_clause (E : Txt K mg) : Binds K E.f_shifted_clause.fd ["clause", "amount"] [] := E.f_shifted_clause.F.binds (ps := ["clause", "amount"]) fun _ _ _ _ _ _ us hl => match us, hl with | [_, _], _ => rfl
theorem b_side (E : Txt K mg) : Binds K E.f_side.fd ["literal", "k"] [] := E.f_side.F.binds (ps := ["literal", "k"]) fun _ _ _ _ _ _ us hl => match us, hl with | [_, _], _ => rfl
theorem b_with_side (E : Txt K mg) : Binds K E.f_with_side.fd ["literal", "k", "term"] [] := E.f_with_side.F.binds (ps := ["literal", "k", "term"]) fun _ _ _ _ _ _ us hl => match us, hl with | [_, _, _], _ => rfl
theorem b_same_sides (E : Txt K mg) : Binds K E.f_same_sides.fd ["first", "second"] [] := E.f_same_sides.F.binds (ps := ["first", "second"]) fun _ _ _ _ _ _ us hl => match us, hl with | [_, _], _ => rfl
theorem b_same (E : Txt K mg) : Binds K E.f_same.fd ["first", "second"] [] := E.f_same.F.binds (ps := ["first", "second"]) fun _ _ _ _ _ _ us hl => match us, hl with | [_, _], _ => rfl
theorem b_clause_variables (E : Txt K mg) : Binds K E.f_clause_variables.fd ["clause"] [] := E.f_clause_variables.F.binds (ps := ["clause"]) fun _ _ _ _ _ _ us hl => match us, hl with | [_], _ => rfl
theorem b_index_of (E : Txt K mg) : Binds K E.f_index_of.fd ["listed", "one", "equal"] [] := E.f_index_of.F.binds (ps := ["listed", "one", "equal"]) fun _ _ _ _ _ _ us hl => match us, hl with | [_, _, _], _ => rfl
theorem b_is_more (E : Txt K mg) : Binds K E.f_is_more.fd ["first", "second", "equal", "bigger"] [] := E.f_is_more.F.binds (ps := ["first", "second", "equal", "bigger"]) fun _ _ _ _ _ _ us hl => match us, hl with | [_, _, _, _], _ => rfl
theorem b_equal_terms (E : Txt K mg) : Binds K E.f_equal_terms.fd ["first", "second"] [] := E.f_equal_terms.F.binds (ps := ["first", "second"]) fun _ _ _ _ _ _ us hl => match us, hl with | [_, _], _ => rfl
theorem b_sides_of (E : Txt K mg) : Binds K E.f_sides_of.fd ["literal"] [] := E.f_sides_of.F.binds (ps := ["literal"]) fun _ _ _ _ _ _ us hl => match us, hl with | [_], _ => rfl
theorem b_literal_greater (E : Txt K mg) : Binds K E.f_literal_greater.fd ["weights", "first", "second"] [] := E.f_literal_greater.F.binds (ps := ["weights", "first", "second"]) fun _ _ _ _ _ _ us hl => match us, hl with | [_, _, _], _ => rfl
theorem b_is_greatest (E : Txt K mg) : Binds K E.f_is_greatest.fd ["weights", "clause", "k"] [] := E.f_is_greatest.F.binds (ps := ["weights", "clause", "k"]) fun _ _ _ _ _ _ us hl => match us, hl with | [_, _, _], _ => rfl
theorem b_is_greatest_alone (E : Txt K mg) : Binds K E.f_is_greatest_alone.fd ["weights", "clause", "k"] [] := E.f_is_greatest_alone.F.binds (ps := ["weights", "clause", "k"]) fun _ _ _ _ _ _ us hl => match us, hl with | [_, _, _], _ => rfl
theorem b_may_act (E : Txt K mg) : Binds K E.f_may_act.fd ["weights", "clause", "selected", "k", "substitution"] [] := E.f_may_act.F.binds (ps := ["weights", "clause", "selected", "k", "substitution"]) fun _ _ _ _ _ _ us hl => match us, hl with | [_, _, _, _, _], _ => rfl
theorem b_may_give (E : Txt K mg) : Binds K E.f_may_give.fd ["weights", "clause", "selected", "k", "substitution"] [] := E.f_may_give.F.binds (ps := ["weights", "clause", "selected", "k", "substitution"]) fun _ _ _ _ _ _ us hl => match us, hl with | [_, _, _, _, _], _ => rfl
theorem b_may_lead (E : Txt K mg) : Binds K E.f_may_lead.fd ["weights", "literal", "side_index", "substitution"] [] := E.f_may_lead.F.binds (ps := ["weights", "literal", "side_index", "substitution"]) fun _ _ _ _ _ _ us hl => match us, hl with | [_, _, _, _], _ => rfl
theorem b_numbering (E : Txt K mg) : Binds K E.f_numbering.fd ["clause", "first", "second"] [] := E.f_numbering.F.binds (ps := ["clause", "first", "second"]) fun _ _ _ _ _ _ us hl => match us, hl with | [_, _, _], _ => rfl
theorem b_renamed (E : Txt K mg) : Binds K E.f_renamed.fd ["told", "new"] [] := E.f_renamed.F.binds (ps := ["told", "new"]) fun _ _ _ _ _ _ us hl => match us, hl with | [_, _], _ => rfl
theorem b_conclude (E : Txt K mg) : Binds K E.f_conclude.fd ["kind", "clause", "literal", "side", "place", "other_literal", "other_side", "first", "second"] [] := E.f_conclude.F.binds (ps := ["kind", "clause", "literal", "side", "place", "other_literal", "other_side", "first", "second"]) fun _ _ _ _ _ _ us hl => match us, hl with | [_, _, _, _, _, _, _, _, _], _ => rfl
theorem b_became (E : Txt K mg) : Binds K E.f_became.fd ["clause", "substitution", "amount"] [] := E.f_became.F.binds (ps := ["clause", "substitution", "amount"]) fun _ _ _ _ _ _ us hl => match us, hl with | [_, _, _], _ => rfl
theorem b_places (E : Txt K mg) : Binds K E.f_places.fd ["term"] [] := E.f_places.F.binds (ps := ["term"]) fun _ _ _ _ _ _ us hl => match us, hl with | [_], _ => rfl
theorem b_at (E : Txt K mg) : Binds K E.f_at.fd ["term", "place"] [] := E.f_at.F.binds (ps := ["term", "place"]) fun _ _ _ _ _ _ us hl => match us, hl with | [_, _], _ => rfl
theorem b_put_inside (E : Txt K mg) : Binds K E.f_put_inside.fd ["term", "place", "new"] [] := E.f_put_inside.F.binds (ps := ["term", "place", "new"]) fun _ _ _ _ _ _ us hl => match us, hl with | [_, _, _], _ => rfl
theorem b_put_at (E : Txt K mg) : Binds K E.f_put_at.fd ["term", "place", "new"] [] := E.f_put_at.F.binds (ps := ["term", "place", "new"]) fun _ _ _ _ _ _ us hl => match us, hl with | [_, _, _], _ => rfl
theorem b_bind (E : Txt K mg) : Binds K E.f_bind.fd ["found", "variable", "term"] [] := E.f_bind.F.binds (ps := ["found", "variable", "term"]) fun _ _ _ _ _ _ us hl => match us, hl with | [_, _, _], _ => rfl
theorem b_unify (E : Txt K mg) : Binds K E.f_unify.fd ["pairs"] [] := E.f_unify.F.binds (ps := ["pairs"]) fun _ _ _ _ _ _ us hl => match us, hl with | [_], _ => rfl
theorem b_spots (E : Txt K mg) : Binds K E.f_spots.fd ["c"] [] := E.f_spots.F.binds (ps := ["c"]) fun _ _ _ _ _ _ us hl => match us, hl with | [_], _ => rfl
theorem b_leads (E : Txt K mg) : Binds K E.f_leads.fd ["d"] [] := E.f_leads.F.binds (ps := ["d"]) fun _ _ _ _ _ _ us hl => match us, hl with | [_], _ => rfl
theorem b_superpositions (E : Txt K mg) : Binds K E.f_superpositions.fd ["weights", "c", "selected_c", "d", "selected_d"] [] := E.f_superpositions.F.binds (ps := ["weights", "c", "selected_c", "d", "selected_d"]) fun _ _ _ _ _ _ us hl => match us, hl with | [_, _, _, _, _], _ => rfl
theorem b_factoring (E : Txt K mg) : Binds K E.f_factoring.fd ["weights", "c", "k", "s", "j", "t"] [] := E.f_factoring.F.binds (ps := ["weights", "c", "k", "s", "j", "t"]) fun _ _ _ _ _ _ us hl => match us, hl with | [_, _, _, _, _, _], _ => rfl
theorem b_pairs_of_sides (E : Txt K mg) : Binds K E.f_pairs_of_sides.fd ["c"] [] := E.f_pairs_of_sides.F.binds (ps := ["c"]) fun _ _ _ _ _ _ us hl => match us, hl with | [_], _ => rfl
theorem b_factorings (E : Txt K mg) : Binds K E.f_factorings.fd ["weights", "c", "selected"] [] := E.f_factorings.F.binds (ps := ["weights", "c", "selected"]) fun _ _ _ _ _ _ us hl => match us, hl with | [_, _, _], _ => rfl
theorem b_resolution (E : Txt K mg) : Binds K E.f_resolution.fd ["weights", "c", "selected", "k"] [] := E.f_resolution.F.binds (ps := ["weights", "c", "selected", "k"]) fun _ _ _ _ _ _ us hl => match us, hl with | [_, _, _, _], _ => rfl
theorem b_resolutions (E : Txt K mg) : Binds K E.f_resolutions.fd ["weights", "c", "selected"] [] := E.f_resolutions.F.binds (ps := ["weights", "c", "selected"]) fun _ _ _ _ _ _ us hl => match us, hl with | [_, _, _], _ => rfl
theorem b__law_cell (E : Txt K mg) : Binds K E.f__law_cell.fd ["_law_script", "_law_k"] [] := E.f__law_cell.F.binds (ps := ["_law_script", "_law_k"]) fun _ _ _ _ _ _ us hl => match us, hl with | [_, _], _ => rfl
theorem b__law_weights (E : Txt K mg) : Binds K E.f__law_weights.fd ["_law_row"] [] := E.f__law_weights.F.binds (ps := ["_law_row"]) fun _ _ _ _ _ _ us hl => match us, hl with | [_], _ => rfl
theorem b__law_symbol (E : Txt K mg) : Binds K E.f__law_symbol.fd ["_law_n"] [] := E.f__law_symbol.F.binds (ps := ["_law_n"]) fun _ _ _ _ _ _ us hl => match us, hl with | [_], _ => rfl
theorem b__law_term (E : Txt K mg) : Binds K E.f__law_term.fd ["_law_row", "_law_deep"] [] := E.f__law_term.F.binds (ps := ["_law_row", "_law_deep"]) fun _ _ _ _ _ _ us hl => match us, hl with | [_, _], _ => rfl
theorem b__law_atom (E : Txt K mg) : Binds K E.f__law_atom.fd ["_law_row", "_law_deep"] [] := E.f__law_atom.F.binds (ps := ["_law_row", "_law_deep"]) fun _ _ _ _ _ _ us hl => match us, hl with | [_, _], _ => rfl
theorem b__law_literal (E : Txt K mg) : Binds K E.f__law_literal.fd ["_law_row", "_law_deep"] [] := E.f__law_literal.F.binds (ps := ["_law_row", "_law_deep"]) fun _ _ _ _ _ _ us hl => match us, hl with | [_, _], _ => rfl
theorem b__law_clause (E : Txt K mg) : Binds K E.f__law_clause.fd ["_law_row", "_law_most", "_law_deep"] [] := E.f__law_clause.F.binds (ps := ["_law_row", "_law_most", "_law_deep"]) fun _ _ _ _ _ _ us hl => match us, hl with | [_, _, _], _ => rfl
theorem b__law_is_variable (E : Txt K mg) : Binds K E.f__law_is_variable.fd ["_law_term_here"] [] := E.f__law_is_variable.F.binds (ps := ["_law_term_here"]) fun _ _ _ _ _ _ us hl => match us, hl with | [_], _ => rfl
theorem b__law_positive_clause (E : Txt K mg) : Binds K E.f__law_positive_clause.fd ["_law_row", "_law_most", "_law_deep"] [] := E.f__law_positive_clause.F.binds (ps := ["_law_row", "_law_most", "_law_deep"]) fun _ _ _ _ _ _ us hl => match us, hl with | [_, _, _], _ => rfl
theorem b__law_selected (E : Txt K mg) : Binds K E.f__law_selected.fd ["_law_clause_here", "_law_row"] [] := E.f__law_selected.F.binds (ps := ["_law_clause_here", "_law_row"]) fun _ _ _ _ _ _ us hl => match us, hl with | [_, _], _ => rfl
theorem b__law_ground (E : Txt K mg) : Binds K E.f__law_ground.fd ["_law_row", "_law_deep"] [] := E.f__law_ground.F.binds (ps := ["_law_row", "_law_deep"]) fun _ _ _ _ _ _ us hl => match us, hl with | [_, _], _ => rfl
theorem b__law_ground_substitution (E : Txt K mg) : Binds K E.f__law_ground_substitution.fd ["_law_row", "_law_many", "_law_deep"] [] := E.f__law_ground_substitution.F.binds (ps := ["_law_row", "_law_many", "_law_deep"]) fun _ _ _ _ _ _ us hl => match us, hl with | [_, _, _], _ => rfl
theorem b__law_put (E : Txt K mg) : Binds K E.f__law_put.fd ["_law_term_here", "_law_told"] [] := E.f__law_put.F.binds (ps := ["_law_term_here", "_law_told"]) fun _ _ _ _ _ _ us hl => match us, hl with | [_, _], _ => rfl
theorem b__law_put_clause (E : Txt K mg) : Binds K E.f__law_put_clause.fd ["_law_clause_here", "_law_told"] [] := E.f__law_put_clause.F.binds (ps := ["_law_clause_here", "_law_told"]) fun _ _ _ _ _ _ us hl => match us, hl with | [_, _], _ => rfl
theorem b__law_places (E : Txt K mg) : Binds K E.f__law_places.fd ["_law_term_here"] [] := E.f__law_places.F.binds (ps := ["_law_term_here"]) fun _ _ _ _ _ _ us hl => match us, hl with | [_], _ => rfl
theorem b__law_is_atom (E : Txt K mg) : Binds K E.f__law_is_atom.fd ["_law_term_here"] [] := E.f__law_is_atom.F.binds (ps := ["_law_term_here"]) fun _ _ _ _ _ _ us hl => match us, hl with | [_], _ => rfl
theorem b__law_match (E : Txt K mg) : Binds K E.f__law_match.fd ["_law_pattern", "_law_term_here", "_law_told"] [] := E.f__law_match.F.binds (ps := ["_law_pattern", "_law_term_here", "_law_told"]) fun _ _ _ _ _ _ us hl => match us, hl with | [_, _, _], _ => rfl
theorem b__law_is_instance (E : Txt K mg) : Binds K E.f__law_is_instance.fd ["_law_clause_here", "_law_instance"] [] := E.f__law_is_instance.F.binds (ps := ["_law_clause_here", "_law_instance"]) fun _ _ _ _ _ _ us hl => match us, hl with | [_, _], _ => rfl
theorem b__law_is_above (E : Txt K mg) : Binds K E.f__law_is_above.fd ["_law_c", "_law_one"] [] := E.f__law_is_above.F.binds (ps := ["_law_c", "_law_one"]) fun _ _ _ _ _ _ us hl => match us, hl with | [_, _], _ => rfl
theorem b__law_kinds_agree (E : Txt K mg) : Binds K E.f__law_kinds_agree.fd ["_law_c", "_law_one"] [] := E.f__law_kinds_agree.F.binds (ps := ["_law_c", "_law_one"]) fun _ _ _ _ _ _ us hl => match us, hl with | [_, _], _ => rfl
theorem b__law_spot (E : Txt K mg) : Binds K E.f__law_spot.fd ["_law_one"] [] := E.f__law_spot.F.binds (ps := ["_law_one"]) fun _ _ _ _ _ _ us hl => match us, hl with | [_], _ => rfl
theorem b__law_covered (E : Txt K mg) : Binds K E.f__law_covered.fd ["_law_c", "_law_lower", "_law_upper"] [] := E.f__law_covered.F.binds (ps := ["_law_c", "_law_lower", "_law_upper"]) fun _ _ _ _ _ _ us hl => match us, hl with | [_, _, _], _ => rfl
theorem b_law (E : Txt K mg) : Binds K E.f_law.fd ["_law_script"] [] := E.f_law.F.binds (ps := ["_law_script"]) fun _ _ _ _ _ _ us hl => match us, hl with | [_], _ => rfl

end
end G3
end

section
set_option Elab.async false
set_option linter.all false
set_option maxRecDepth 100000
namespace G3
open PySem PySem.Spec PyProof.Rows L2 LamX NdefX
section
variable {K : PySem.W.Frag} {T : List NTab} {H0 H H' : Hp} {σ : L2.St} {δ : AS} {te ta tb tc : TE} {tt tu : TT} {d e : Dat} {s : Sl} {b c : Bool} {k : Kon}
theorem wval (key : List Int) : ∀ W : Wts, valV (W.map fun p => ((p.1.map Sum.inl : List Key), V.int p.2)) (key.map Sum.inl) = ((W.find? fun p => decide (p.1 = key)).map (·.2)).map V.int
  | [] => rfl
  | p :: r => by
    by_cases h : p.1 = key
    · rw [List.map_cons, valV_pos (by rw [h])]
      simp [List.find?_cons, h]
    · have n : ¬ (p.1.map Sum.inl : List Key) = key.map Sum.inl := fun z => h (map_inj_of (fun x _ y => Sum.inl.inj) z)
      rw [List.map_cons, valV_neg n, wval key r]
      simp [List.find?_cons, h]
theorem sy_vals {s : Sy} {v : V} (h : Rp H s.d v) : ∃ b, v = .ref b ∧ H b = some (.tup ((s.key.map Sum.inl : List Key).map kV)) := by
  obtain ⟨a, xs, rfl, h2, h3⟩ := h
  obtain ⟨x1, r1, rfl, e1, x2, r2, rfl, e2, x3, r3, rfl, e3, e4⟩ := h3
  refine ⟨a, rfl, ?_⟩
  rw [h2, show x1 = V.int s.a from e1, show x2 = V.int s.b from e2, show x3 = V.int s.c from e3, show r3 = [] from e4]
  rfl
/-- weights.get(symbol, 1) -/
theorem ev_wget {W : Wts} {s : Sy} {td ty tx : TE} {n : Int} (hd : Ev K T td δ (.sh (.wts W))) (hx : Ev K T ty δ (.sh s.d)) (hy : Ev K T tx δ (.sh (.int n))) : Ev K T (tDGet2 td ty tx) δ (.sh (.int (((W.find? fun p => decide (p.1 = s.key)).map (·.2)).getD n))) := fun H0 H σ r Q q =>
  hd H0 H σ r _ fun v H1 g1 t1 o1 => by
    obtain ⟨a, rfl, h1⟩ := o1
    refine ⟨a, rfl, .inr ⟨_, .inl h1⟩, ?_⟩
    refine hx H0 H1 σ (r.grow g1 t1) _ fun w' H2 g2 t2 o2 => ?_
    refine hy H0 H2 σ (r.grow (g1.trans g2) t2) _ fun z H3 g3 t3 o3 => ?_
    have h3 := (g2.trans g3).stab.w _ _ h1
    obtain ⟨b, rfl, hb⟩ := sy_vals (Rp.mono g3.stab _ o2)
    refine ⟨_, .inr ⟨_, _, b, .inl h3, rfl, hb, rfl⟩, ?_⟩
    rw [wval, show z = V.int n from o3]
    have e : ∀ o : Option Int, (o.map V.int).getD (V.int n) = V.int (o.getD n) := fun o => by cases o <;> rfl
    rw [e]
    exact q _ H3 ((g1.trans g2).trans g3) t3 rfl
/-- first < second, symbols -/
theorem ev_ltT {s u : Sy} (ha : Ev K T ta δ (.sh s.d)) (hb : Ev K T tb δ (.sh u.d)) : Ev K T (tOp (rLtT K) ta tb) δ (.sh (.bl (HT.lexLt s.key u.key))) :=
  ev_op ha hb fun H0 H1 H2 x y g1 g2 t2 o1 o2 _ Q q => by
    obtain ⟨a, rfl, h1⟩ := sy_vals o1
    obtain ⟨b, rfl, h2⟩ := sy_vals o2
    exact ⟨a, b, s.key, u.key, rfl, rfl, SqT.of h1, SqT.of h2, q _ H2 (Gr.refl _) t2 rfl⟩

/-! ### collect -/
def spCol (K : PySem.W.Frag) (T : List NTab) (C : Tm → Prop) : Sp := fun vs H Q _ => ∃ t v a ns, C t ∧ vs = [v, V.ref a] ∧ Rp H t.d v ∧ H a = some (.lst (ns.map V.int)) ∧ (coll ns t).length ≤ 100000 ∧ TabsN T H ∧
  ∀ H', Gr (hide a H) H' → TabsN T H' → H' a = some (.lst ((coll ns t).map V.int)) → Q .non H'
theorem col_write (r : Rel K T H0 H σ δ) {i : Nat} {a : Addr} {s s' : Sl} {ns ms : List Int} {H' : Hp} (hi : δ[i]? = some (some s)) (ho : s.owned = true) (hv : σ[i]? = some (some (.ref a))) (h : H a = some (.lst (ns.map V.int))) (g : Gr (hide a H) H') (t : TabsN T H') (h' : H' a = some (.lst (ms.map V.int)))
    (new : ∀ Hx, Hx a = some (.lst (ms.map V.int)) → SlOk K H0 Hx s' (.ref a)) (hc : noScr δ = true) : Rel K T H0 H' σ (δ.set i (some s')) := by
  have r1 : Rel K T H0 (upd H a (.lst (ms.map V.int))) σ (δ.set i (some s')) := r.write hi ho hv h (.inl ⟨_, rfl⟩) (new _ upd_same) hc
  refine r1.grow ⟨fun b o e n => ?_, fun b e => ?_⟩ t
  · by_cases hb : b = a
    · rw [hb, upd_same] at e; cases e; rw [hb]; exact h'
    · rw [upd_ne hb] at e
      exact g.e b o (by rw [hide_ne hb]; exact e) n
  · by_cases hb : b = a
    · rw [hb, h'] at e; cases e
    · rw [upd_ne hb]
      have := g.n b e
      rw [hide_ne hb] at this
      exact this
theorem sx_collect {i : Nat} {ns : List Int} {t : Tm} {C : Tm → Prop} {E : XK} (hi : δ[i]? = some (some (.own (ns.map Dat.int)))) (h : Ev K T te δ (.sh t.d)) (c : C t) (hl : (coll ns t).length ≤ 100000) (q : k.nx (δ.set i (some (.own ((coll ns t).map Dat.int))))) (hc : noScr δ = true := by rfl) :
    Sx K T (tDrop (tCall (spCol K T C) [] E (tCons te (tCons (tVar i) tNil)))) δ k := fun H0 H σ D r o => by
  refine h H0 H σ r _ fun v H1 g1 t1 o1 => ?_
  have r1 := r.grow g1 t1
  obtain ⟨u, h1, a, xs, rfl, h2, h3, h4⟩ := r1.ok i _ hi
  refine ⟨_, h1, t, v, a, ns, c, rfl, o1, by rw [h2, h3.ints_eq], hl, t1, fun H' g tb e => ?_⟩
  exact o.nx H' σ _ (col_write (s' := .own ((coll ns t).map Dat.int)) r1 hi rfl h1 (by rw [h2, h3.ints_eq]) g tb e (fun Hx ex => ⟨a, _, rfl, ex, Rps.ints _, h4⟩) hc) q
theorem sx_collectAt {i : Nat} {b : Addr} {ns : List Int} {t : Tm} {C : Tm → Prop} {E : XK} (hi : δ[i]? = some (some (.at b (ns.map Dat.int)))) (h : Ev K T te δ (.sh t.d)) (c : C t) (hl : (coll ns t).length ≤ 100000) (q : k.nx (δ.set i (some (.at b ((coll ns t).map Dat.int))))) (hc : noScr δ = true := by rfl) :
    Sx K T (tDrop (tCall (fun vs H Q E => spCol K T C vs H Q E) [] E (tCons te (tCons (tVar i) tNil)))) δ k := fun H0 H σ D r o => by
  refine h H0 H σ r _ fun v H1 g1 t1 o1 => ?_
  have r1 := r.grow g1 t1
  obtain ⟨u, h1, a, xs, rfl, h2, h3, h4, h5⟩ := r1.ok i _ hi
  refine ⟨_, h1, t, v, a, ns, c, rfl, o1, by rw [h2, h3.ints_eq], hl, t1, fun H' g tb e => ?_⟩
  exact o.nx H' σ _ (col_write (s' := .at b ((coll ns t).map Dat.int)) r1 hi rfl h1 (by rw [h2, h3.ints_eq]) g tb e (fun Hx ex => ⟨a, _, rfl, ex, Rps.ints _, h4, h5⟩) hc) q
theorem coll_le : ∀ (t : Tm) (acc : List Int), acc.length ≤ (coll acc t).length := by
  refine Tm.ind (fun n acc => ?_) fun s l ih acc => ?_
  · simp only [coll]
    split
    · exact Nat.le_refl _
    · simp
  · have : ∀ (l : List Tm) (acc : List Int), (∀ t ∈ l, ∀ acc : List Int, acc.length ≤ (coll acc t).length) → acc.length ≤ (collL acc l).length := by
      intro l
      induction l with
      | nil => intro acc _; simp [collL]
      | cons t r ih2 =>
        intro acc h
        have h1 := ih2 (coll acc t) fun u hu => h u (List.mem_cons_of_mem _ hu)
        have h2 := h t List.mem_cons_self acc
        simp only [collL]; omega
    simp only [coll]; exact this l acc ih
theorem collL_le (l : List Tm) (acc : List Int) : acc.length ≤ (collL acc l).length := by
  induction l generalizing acc with
  | nil => simp [collL]
  | cons t r ih =>
    have h1 := ih (coll acc t)
    have h2 := coll_le t acc
    simp only [collL]; omega
theorem collL_app : ∀ (l m : List Tm) (acc : List Int), collL acc (l ++ m) = collL (collL acc l) m
  | [], _, _ => rfl
  | t :: r, m, acc => by simp only [List.cons_append, collL]; exact collL_app r m _
theorem collL_take_le (l : List Tm) (i : Nat) (acc : List Int) : (collL acc (l.take i)).length ≤ (collL acc l).length := by
  have e := collL_app (l.take i) (l.drop i) acc
  rw [List.take_append_drop] at e
  rw [e]
  exact collL_le _ _
theorem collL_take : ∀ (l : List Tm) (acc : List Int) (i : Nat) (t : Tm), l[i]? = some t → collL acc (l.take (i + 1)) = coll (collL acc (l.take i)) t
  | [], _, _, _, h => by simp at h
  | u :: r, acc, 0, t, h => by
    simp only [List.getElem?_cons_zero, Option.some.injEq] at h
    subst h
    simp [collL]
  | u :: r, acc, i + 1, t, h => by
    have := collL_take r (coll acc u) i t (by simpa using h)
    simp only [List.take_succ_cons, collL]
    exact this
/-- what coll holds -/
theorem mem_coll : ∀ (t : Tm) (acc : List Int) (x : Int), x ∈ coll acc t ↔ x ∈ acc ∨ occ x t ≠ 0 := by
  refine Tm.ind (fun n acc x => ?_) fun s l ih acc x => ?_
  · simp only [coll, occ]
    by_cases h : n ∈ acc
    · rw [if_pos h]
      constructor
      · exact .inl
      · rintro (h' | h')
        · exact h'
        · by_cases e : n = x
          · rw [← e]; exact h
          · rw [if_neg e] at h'; exact absurd rfl h'
    · rw [if_neg h, List.mem_append, List.mem_singleton]
      by_cases e : n = x
      · rw [if_pos e]
        simp [e]
      · rw [if_neg e]
        simp [Ne.symm e]
  · have : ∀ (l : List Tm) (acc : List Int), (∀ t ∈ l, ∀ (acc : List Int) (x : Int), x ∈ coll acc t ↔ x ∈ acc ∨ occ x t ≠ 0) → ∀ x, x ∈ collL acc l ↔ x ∈ acc ∨ occL x l ≠ 0 := by
      intro l
      induction l with
      | nil => intro acc _ x; simp [collL, occL]
      | cons t r ih2 =>
        intro acc h x
        rw [collL, ih2 (coll acc t) (fun u hu => h u (List.mem_cons_of_mem _ hu)) x, h t List.mem_cons_self acc x, occL]
        constructor
        · rintro ((h1 | h1) | h1)
          · exact .inl h1
          · exact .inr (by omega)
          · exact .inr (by omega)
        · rintro (h1 | h1)
          · exact .inl (.inl h1)
          · by_cases h2 : occ x t = 0
            · exact .inr (by omega)
            · exact .inl (.inr h2)
    simp only [coll, occ]
    exact this l acc ih x
theorem nodup_snoc {l : List Int} {n : Int} (h : l.Nodup) (hn : n ∉ l) : (l ++ [n]).Nodup := by
  rw [List.nodup_append]
  refine ⟨h, by simp, fun a ha b hb e => ?_⟩
  rw [List.mem_singleton] at hb
  rw [e, hb] at ha
  exact hn ha
theorem nodup_coll : ∀ (t : Tm) (acc : List Int), acc.Nodup → (coll acc t).Nodup := by
  refine Tm.ind (fun n acc h => ?_) fun s l ih acc h => ?_
  · simp only [coll]
    split
    · exact h
    · rename_i hn; exact nodup_snoc h hn
  · have : ∀ (l : List Tm) (acc : List Int), (∀ t ∈ l, ∀ acc : List Int, acc.Nodup → (coll acc t).Nodup) → acc.Nodup → (collL acc l).Nodup := by
      intro l
      induction l with
      | nil => intro acc _ h; simpa [collL] using h
      | cons t r ih2 =>
        intro acc h hn
        rw [collL]
        exact ih2 _ (fun u hu => h u (List.mem_cons_of_mem _ hu)) (h t List.mem_cons_self acc hn)
    simp only [coll]
    exact this l acc ih h
/-- pigeons -/
theorem nodup_len {α : Type} [DecidableEq α] : ∀ (l D : List α), l.Nodup → (∀ x ∈ l, x ∈ D) → l.length ≤ D.length
  | [], _, _, _ => Nat.zero_le _
  | x :: l, D, h, hD => by
    obtain ⟨h1, h2⟩ := List.nodup_cons.mp h
    have hx := hD x List.mem_cons_self
    have := nodup_len l (D.erase x) h2 fun y hy => (List.mem_erase_of_ne (fun e => h1 (by rw [← e]; exact hy))).mpr (hD y (List.mem_cons_of_mem _ hy))
    rw [List.length_erase_of_mem hx] at this
    have hp : 0 < D.length := List.length_pos_of_mem hx
    rw [List.length_cons]; omega
mutual
/-- at most two arguments, everywhere -/
def Tm.thin : Tm → Prop
  | .v _ => True
  | .ap _ l => l.length ≤ 2 ∧ thinL l
def thinL : List Tm → Prop
  | [] => True
  | t :: r => t.thin ∧ thinL r
end
theorem thinL_iff : ∀ {l : List Tm}, thinL l ↔ ∀ t ∈ l, t.thin
  | [] => by simp [thinL]
  | t :: r => by simp [thinL, thinL_iff (l := r)]
theorem thin_ap {s : Sy} {l : List Tm} : (Tm.ap s l).thin ↔ l.length ≤ 2 ∧ ∀ t ∈ l, t.thin := by rw [Tm.thin, thinL_iff]
/-- a term of bounded depth whose variables are small -/
structure Tok (n : Nat) (t : Tm) : Prop where
  dep : t.depth ≤ n
  ar : t.thin
  vb : ∀ x, occ x t ≠ 0 → 0 ≤ x ∧ x < 1000
theorem small_len {l : List Int} (h : l.Nodup) (hb : ∀ x ∈ l, 0 ≤ x ∧ x < 1000) : l.length ≤ 1000 := by
  have := nodup_len l ((List.range 1000).map fun (i : Nat) => (i : Int)) h fun x hx => by
    obtain ⟨h1, h2⟩ := hb x hx
    exact List.mem_map.mpr ⟨x.toNat, List.mem_range.mpr (by omega), by omega⟩
  simpa using this
theorem Tok.vars {n : Nat} {t : Tm} (h : Tok n t) : (vars t).length ≤ 1000 := small_len (nodup_coll t [] List.nodup_nil) fun x hx => h.vb x (by simpa using (mem_coll t [] x).mp hx)
theorem occ_mem {x : Int} {t : Tm} : ∀ {l : List Tm}, t ∈ l → occ x t ≤ occL x l
  | [], h => by simp at h
  | u :: r, h => by
    rw [occL]
    rcases List.mem_cons.mp h with rfl | h
    · omega
    · have := occ_mem (x := x) h
      omega
theorem Tok.arg {n : Nat} {s : Sy} {l : List Tm} {t : Tm} (h : Tok (n + 1) (.ap s l)) (ht : t ∈ l) : Tok n t :=
  ⟨by have := depth_arg (s := s) ht; have := h.dep; omega, (thin_ap.mp h.ar).2 t ht, fun x hx => h.vb x (by have := occ_mem (x := x) ht; rw [occ]; omega)⟩
theorem Tok.mono {n m : Nat} {t : Tm} (h : Tok n t) (l : n ≤ m) : Tok m t := ⟨Nat.le_trans h.dep l, h.ar, h.vb⟩
/-- membership of an int in a list of ints -/
theorem inV_ints (x : Int) : ∀ ns : List Int, inV (.int x) (ns.map V.int) = decide (x ∈ ns)
  | [] => rfl
  | n :: ns => by
    have h := inV_ints x ns
    unfold inV at h ⊢
    rw [List.map_cons, List.any_cons, h]
    by_cases e : n = x
    · subst e
      simp [eqV]
    · have : eqV (V.int n) (V.int x) = false := by
        have : eqV (V.int n) (V.int x) = (n == x) := rfl
        rw [this]; exact beq_eq_false_iff_ne.mpr e
      rw [this]
      simp [List.mem_cons, Ne.symm e]
theorem flat_ints : ∀ ns : List Int, (ns.map V.int).all flatV = true
  | [] => rfl
  | n :: ns => by rw [List.map_cons, List.all_cons, flat_ints ns]; rfl
theorem ev_notInL {x : Int} {ns : List Int} (ha : Ev K T ta δ (.sh (.int x))) (hb : Ev K T tb δ (.lst (ns.map Dat.int))) : Ev K T (tOp (rIn K true) ta tb) δ (.sh (.bl (!decide (x ∈ ns)))) :=
  ev_op ha hb fun H0 H1 H2 u v g1 g2 t2 o1 o2 _ Q q => by
    obtain ⟨a, xs, rfl, h2, h3⟩ := o2
    rw [show u = V.int x from o1]
    refine ⟨a, xs, rfl, .inl (SqL.of h2), rfl, by rw [h3.ints_eq]; exact flat_ints ns, q _ H2 (Gr.refl _) t2 ?_⟩
    rw [h3.ints_eq, inV_ints]; rfl
theorem ev_inT {x : Int} {ns : List Int} (ha : Ev K T ta δ (.sh (.int x))) (hb : Ev K T tb δ (.sh (.tup (ns.map Dat.int)))) : Ev K T (tOp (rIn K false) ta tb) δ (.sh (.bl (decide (x ∈ ns)))) :=
  ev_op ha hb fun H0 H1 H2 u v g1 g2 t2 o1 o2 _ Q q => by
    obtain ⟨a, xs, rfl, h2, h3⟩ := o2
    rw [show u = V.int x from o1]
    refine ⟨a, xs, rfl, .inr (SqT.of h2), rfl, by rw [h3.ints_eq]; exact flat_ints ns, q _ H2 (Gr.refl _) t2 ?_⟩
    rw [h3.ints_eq, inV_ints]; rfl
theorem ev_lcF {α : Type} {wi : TI} {g : TG} {vs : List Nat} (l : List α) (enc f : α → Dat) (p : α → Bool) (hi : EvI K T wi δ (l.map enc)) (hl : l.length ≤ 100000)
    (hs : ∀ u ∈ l, ∃ δ2 is, Tgt K T g (enc u) (wipeA δ vs) δ2 is ∧ (∀ i ∈ is, i ∈ vs) ∧ EvT K T tt δ2 (p u) ∧ (p u = true → Ev K T te δ2 (.sh (f u)))) : Ev K T (tLc wi g tt te vs) δ (.own ((l.filter p).map f)) := by
  have h := ev_lc (K := K) (T := T) (te := te) (tt := tt) (vs := vs) (g := g) (fun i _ => (l[i]?).bind fun u => if p u then some (f u) else none) hi (by rw [List.length_map]; exact hl) fun i d e => by
    obtain ⟨u, hu, rfl⟩ : ∃ u, l[i]? = some u ∧ enc u = d := by simpa using e
    obtain ⟨δ2, is, h1, h2, h3, h4⟩ := hs u (List.mem_of_getElem? hu)
    exact ⟨δ2, is, p u, h1, h2, h3, fun z => ⟨_, by rw [hu]; show (if p u = true then _ else _) = _; rw [if_pos z], h4 z⟩, fun z => by rw [hu]; show (if p u = true then _ else _) = _; rw [z]; rfl⟩
  refine h.of_eq ?_
  congr 1
  have e : ((l.map enc).mapIdx fun i _ => (l[i]?).bind fun u => if p u then some (f u) else none) = l.map fun u => if p u then some (f u) else none := by
    apply List.ext_getElem?
    intro i
    rw [List.getElem?_mapIdx, List.getElem?_map, List.getElem?_map]
    cases l[i]? <;> rfl
  rw [e, List.filterMap_map]
  exact filterMap_if p f l
theorem ev_lcM {α : Type} {wi : TI} {g : TG} {vs : List Nat} (l : List α) (enc f : α → Dat) (hi : EvI K T wi δ (l.map enc)) (hl : l.length ≤ 100000)
    (hs : ∀ u ∈ l, ∃ δ2 is, Tgt K T g (enc u) (wipeA δ vs) δ2 is ∧ (∀ i ∈ is, i ∈ vs) ∧ Ev K T te δ2 (.sh (f u))) : Ev K T (tLc wi g tYes te vs) δ (.own (l.map f)) := by
  have h := ev_lcF (K := K) (T := T) (te := te) (tt := tYes) (vs := vs) (g := g) l enc f (fun _ => true) hi hl fun u hu => by
    obtain ⟨δ2, is, h1, h2, h3⟩ := hs u hu
    exact ⟨δ2, is, h1, h2, et_yes, fun _ => h3⟩
  rw [List.filter_eq_self.mpr fun _ _ => rfl] at h
  exact h
theorem getI_sub (σ : Sub) (n : Int) : getI σ.d n = (look σ n).map Tm.d := by
  unfold look getI Sub.d
  rw [List.find?_map]
  rw [Option.map_map, Option.map_map]
  congr 1
def Lok (n : Nat) (x : Lit) : Prop := Tok n x.l ∧ Tok n x.r
def Cok (n : Nat) (c : Cl) : Prop := c.length ≤ 100 ∧ ∀ x ∈ c, Lok n x
theorem Cok.at {n : Nat} {c : Cl} {i : Nat} {x : Lit} (h : Cok n c) (e : c[i]? = some x) : Lok n x := h.2 x (List.mem_of_getElem? e)
end
end G3
end

section
set_option Elab.async false
set_option linter.all false
set_option maxRecDepth 100000
set_option maxHeartbeats 1000000
/-! enumerate over a tuple -/
namespace PySem
theorem meets_enumerate_newTup (l : Addr) (items : Array Value) (n : Nat) (dct : Option Addr) (sl : Array (Option Value)) :
    Meets (Builtin.«enumerate.__new__» ⟨[.type "enumerate", .ref l], []⟩) (fun _ R s => s.heap.get? l = some { cls := .type "tuple", dict := dct, data := .seq items n, slots := sl } ∧
      R (.ok (.ret (.ref (s.heap.push { cls := .type "tuple_iterator", data := .fields #[.ref l, .int 0 0] }).objs.size)))
        { s with heap := (s.heap.push { cls := .type "tuple_iterator", data := .fields #[.ref l, .int 0 0] }).push { cls := .type "enumerate", data := .fields #[.none, .bool false, .ref s.heap.objs.size, rawInt 0, .none, .none] } }) :=
  .of_wp fun prog w A R s h => by
    obtain ⟨hp, g, d, tk, os⟩ := s; obtain ⟨hl, h⟩ := h
    have hsub := sub_enumerate
    have hL : Heap.IsTuple (Shared.heap ⟨hp, g, d, tk, os⟩) l items := ⟨_, hl, rfl, n, rfl⟩
    wp_walk using AutoSeq1.wpAny_loadPart' hl
    refine wpAny_stack_any fun st => wpAny_pure ?_
    split
    · rename_i c _ _ _ _ _
      cases (c == Value.type "enumerate")
      · wp_walk using AutoSeq1.wpAny_loadPart' hl, wpAny_pyIter_tuple hL
        exact ⟨_, rfl, h⟩
      · wp_walk using AutoSeq1.wpAny_loadPart' hl, wpAny_pyIter_tuple hL
        exact ⟨_, rfl, h⟩
    · wp_walk using AutoSeq1.wpAny_loadPart' hl, wpAny_pyIter_tuple hL
      exact ⟨_, rfl, h⟩
section
variable {prog : Program} {w : World} {A : Around} {E : Value → Shared → Prop} {s : Shared}
theorem call_enumerate_tup {l : Addr} {items : Array Value} {Q : Value → Shared → Prop} (hL : s.heap.IsTuple l items) (hplain : ∃ o, s.heap.get? l = some o ∧ o.cls = .type "tuple")
    (h : ∀ h', IsEnum h' (s.heap.objs.size + 1) s.heap.objs.size 0 .none → h'.IsTupleIter s.heap.objs.size l 0 → h'.objs.size = s.heap.objs.size + 2 →
      (∀ b o, s.heap.get? b = some o → h'.get? b = some o) → Q (.ref (s.heap.objs.size + 1)) { s with heap := h' }) :
    wpAny (model prog w) A (call (.type "enumerate") [.ref l]) Q E s := by
  obtain ⟨⟨c, dct, dt, sl⟩, hl, hc, n, hd⟩ := hL
  replace hc : c = .type "tuple" := hc
  replace hd : dt = .seq items n := hd
  subst hc hd
  refine callType_new F.called_enumerate (by decide) (F.typeCall_enumerate_1 _) (F.newCall_enumerate_1 _) (fun obj => F.args_object_init_2 obj _) F.entry_enumerate_new
    (meets_enumerate_newTup l items n dct sl) ⟨hl, ?_⟩
  have hz : (s.heap.push { cls := .type "tuple_iterator", data := .fields #[.ref l, .int 0 0] }).objs.size = s.heap.objs.size + 1 := Heap.size_push ..
  show _ ∧ _
  rw [hz]
  have he : IsEnum ((s.heap.push { cls := .type "tuple_iterator", data := .fields #[.ref l, .int 0 0] }).push
      { cls := .type "enumerate", data := .fields #[.none, .bool false, .ref s.heap.objs.size, rawInt 0, .none, .none] }) (s.heap.objs.size + 1) s.heap.objs.size 0 .none := by
    have := Heap.get?_push_size (s.heap.push { cls := .type "tuple_iterator", data := .fields #[.ref l, .int 0 0] })
      (o := { cls := .type "enumerate", data := .fields #[.none, .bool false, .ref s.heap.objs.size, rawInt 0, .none, .none] }) rfl
    rw [hz] at this; exact this
  refine ⟨⟨_, he, rfl⟩, h _ he ⟨_, Heap.get?_push_of_some _ (Heap.get?_push_size _ rfl), rfl, rfl⟩ (by rw [Heap.size_push, hz]) fun b o x => Heap.get?_push_of_some _ (Heap.get?_push_of_some _ x)⟩
theorem Draws.tup {prog : Program} {w : World} {A : Around} (hh : A.handled = none) (it l : Addr) (hne : l ≠ it) (items : Array Value) :
    Draws prog w A it [it, l] items.size (fun i v => items[i]? = some v) (fun i h => h.IsTupleIter it l i ∧ h.IsTuple l items) where
  live := fun _ _ st => let ⟨o, ho, _⟩ := st.1; ⟨o, ho⟩
  frame := fun _ _ _ st hk => ⟨st.1.at fun o e => hk it (by simp) o e, let ⟨o, e, r⟩ := st.2; ⟨o, hk l (by simp) o e, r⟩⟩
  item := fun i s Q E hi st hQ => by
    refine RZ.nextOf_tuple_item st.1 st.2 (x := items[i]) (by simp [hi]) fun h' hit' hs' => ?_
    exact hQ _ h' s.toks (by simp [hi]) ⟨hit', let ⟨o, e, r⟩ := st.2; ⟨o, (hs'.2 l hne).trans e, r⟩⟩ hs'
  done := fun s Q E st hE => RZ.nextOf_tuple_end hh st.1 st.2 (by simp) hE
end
end PySem
namespace L2
open PySem PySem.Spec PyProof.Rows
/-- the tuple at a, each item in a new pair -/
def IteT (K : PySem.W.Frag) (a : Addr) : It :=
  ⟨fun i H => ∃ (xs : List V) (x : V), SqT K H a xs ∧ xs[i]? = some x, fun i H v H' => ∃ T x, v = .ref T ∧ H T = none ∧ H' = upd H T (.tup [.int (i : Nat), x]) ∧ ∀ xs, SqT K H a xs → xs[i]? = some x, fun i H => ∃ xs : List V, SqT K H a xs ∧ xs.length ≤ i⟩
theorem turn_enumT {P : Program} {w : World} {K : PySem.W.Frag} {elts : List Expr} {kk : Nat} {tpos : Pos} (a e it : Addr) :
    Turn P w K (.Tuple elts kk tpos) (IteT K a) [e, it] e (fun i h => (∃ old, IsEnum h e it ((i : Nat) : Int) old) ∧ h.IsTupleIter it a i ∧ e ≠ it ∧ a ≠ it ∧ e ≠ a) where
  mem := by simp
  obj := fun i h st b hb => by
    obtain ⟨⟨old, he⟩, ⟨o, ho, hc, hd⟩, _⟩ := st
    have e' : b = e ∨ b = it := by simpa using hb
    rcases e' with z | z
    · rw [z]; exact ⟨_, he, fun v q => nomatch q⟩
    · rw [z]; exact ⟨o, ho, fun v q => by rw [hd] at q; cases q⟩
  keep := fun i h h' st k => let ⟨⟨old, he⟩, hi, hne⟩ := st; ⟨⟨old, k e (by simp) _ he⟩, hi.at fun o q => k it (by simp) o q, hne⟩
  item := by
    intro X hP hw hK hc i pins s σ H E I hf st hg
    subst hP hw hK
    obtain ⟨⟨old, he⟩, hit, hne, hna, hea⟩ := st
    obtain ⟨xs, x, hq, hx⟩ := hg
    obtain ⟨its, rv, p, hz⟩ := I.tuple hq
    obtain ⟨u, hu, ru⟩ := rv.get hx
    have hel : e < s.heap.objs.size := Heap.lt_size he
    have hil : it < s.heap.objs.size := by obtain ⟨_, q, _⟩ := hit; exact Heap.lt_size q
    have D := Draws.tup (prog := X.prog) (w := X.w) (A := X.A.in1) (I.ok.hd hc) it a hna its.toArray
    have hin : i < its.toArray.size := by
      obtain ⟨h1, _⟩ := List.getElem?_eq_some_iff.mp hu
      simpa using h1
    refine wpAny_pyNext_enum_itemD D he ⟨hit, p⟩ hin hne (by simp [hne, hea]) fun x' h' tk hP ho hit' hT hsz hk => ?_
    have ex : x' = u := by
      have hu' : its.toArray[i]? = some u := by simpa using hu
      rw [hu'] at hP
      exact (Option.some.inj hP).symm
    subst ex
    refine ⟨_, rfl, wpAny_letOwnedTupleGo_enum (s := { s with heap := h', toks := tk + 1 }) ho fun h'' he' sb => ?_⟩
    have hT2 : h''.get? s.heap.objs.size = some { cls := .type "tuple", data := .seq #[.int i tk, x'] } := (sb.2 _ (Nat.ne_of_gt hel)).trans hT
    have new : ObjOk X.prog X.w (upd H s.heap.objs.size (.tup [.int (i : Nat), x])) h'' s.heap.objs.size (.tup [.int (i : Nat), x]) :=
      ⟨by show 2 ≤ sizeLine; decide, [.int i tk, x'], .cons ⟨_, rfl⟩ (.cons ru .nil), ⟨_, hT2, rfl, _, rfl⟩⟩
    have I1 : Inv X pins σ (upd H s.heap.objs.size (.tup [.int (i : Nat), x])) { s with heap := h'', toks := tk + 1 } :=
      I.turnedNew (ch := [e, it]) (fun b ob hb q => (sb.2 b (fun z => hb (by simp [z]))).trans (hk b ob (fun z => hb (by simp [z])) (fun z => hb (by simp [z])) q)) hf (Nat.le_refl _) new
    refine ⟨.ref s.heap.objs.size, _, I1, rfl, ⟨_, x, rfl, I.hok.fresh (Nat.le_refl _), rfl, fun ys hy => by rw [I.tuple_inj hy hq]; exact hx⟩, ⟨⟨x', ?_⟩, hit'.1.at fun o q => (sb.2 it (Ne.symm hne)).trans q, hne, hna, hea⟩, fun b hb => ?_⟩
    · have e1 : ((i + 1 : Nat) : Int) = (i : Int) + 1 := by omega
      rw [e1]; exact he'
    · have hb' : b < s.heap.objs.size := by
        have e' : b = e ∨ b = it := by simpa using hb
        rcases e' with z | z
        · rw [z]; exact hel
        · rw [z]; exact hil
      rw [upd_ne (Nat.ne_of_lt hb')]
      exact (hf b hb).1
  done := by
    intro X hP hw hK hc i pins s σ H E I hf st hg
    subst hP hw hK
    obtain ⟨⟨old, he⟩, hit, hne, hna, hea⟩ := st
    obtain ⟨xs, hq, hx⟩ := hg
    obtain ⟨its, rv, p, hz⟩ := I.tuple hq
    obtain ⟨f0, f1, f2, f3, f4, f5⟩ := hf it (by simp)
    have hl := rv.length
    have hT : s.TypeIs (.ref e) "enumerate" := ⟨_, he, rfl⟩
    unfold pyNext
    refine wpAny_bind (wpAny_attempt (wpAny_callSpecial?_slot (name := Str.ofString "__next__") hT F.slot_enumerate_next
      (wpAny_call_entry F.slot_enumerate_next hT F.entry_enumerate_next ?_ (F.args_enumerate_next_1 _))))
    show wpAny _ _ (field (.ref e) 2 >>= _) _ _ _
    refine wpAny_bind (wpAny_field he rfl (x := .ref it) rfl ?_)
    refine wpAny_bind (RZ.nextOf_tuple_end (A := X.A.in1) (I.ok.hd hc) hit p (by simp; omega) fun h' x he' hx' => ?_)
    obtain ⟨o, ho, hc'⟩ := hx'
    refine wpAny_bind (wpAny_isInstance (T := "StopIteration") (b := true) ⟨o, ho, hc'⟩ isSubtype_stop ?_)
    exact wpAny_pure ⟨rfl, I.turned (t' := s.toks) (fun b o hb q => he' b o hb q) f0 f1 f3 f4 f5⟩
  self := fun A i s Q E st h => let ⟨⟨_, he⟩, _⟩ := st; wpAny_pyIter_enum he h
def iEnumT (K : PySem.W.Frag) (ta : TA) : TI := fun σ H R => ta σ H fun vs H1 => ∃ a xs, vs = [.ref a] ∧ SqT K H1 a xs ∧ R (IteT K a) H1
theorem pi_enumT {X : Cx} {e : Expr} {ta : TA} {p pos tpos : Pos} {elts : List Expr} {kk : Nat} (hg : Gl X "enumerate") (hm : X.mg "enumerate" = none) (ha : PA X [e] ta) (hs : starEach [e] X.env = [(false, eval e X.env)] := by rfl) :
    PI X (.Tuple elts kk tpos) (.Call (.Name "enumerate" p) [e] [] pos) (iEnumT X.K ta) := by
  refine ⟨fun pins s σ H R I h => ?_⟩
  refine Call_ (ld_blt I hg hm boot_enumerate (PyProof.Rows.callWith_type1 (thn (ha.run pos pins s σ H _ I h) fun us s1 ⟨vs, H1, I1, r1, q1⟩ => ?_) hs rfl))
  obtain ⟨a, xs, ex, hq, q⟩ := q1
  subst ex
  cases r1 with
  | cons r rr =>
    cases rr
    cases r
    obtain ⟨its, rv, p', hz⟩ := I1.tuple hq
    have hal : a < s1.heap.objs.size := by obtain ⟨o, q, _⟩ := id p'; exact Heap.lt_size q
    refine call_enumerate_tup p' (by obtain ⟨o, q, c, _⟩ := id p'; exact ⟨o, q, c⟩) fun h' he hit hsz hk => wpAny_pyIter_enum he ?_
    have I2 : Inv X pins σ H1 { s1 with heap := h' } := I1.kept (t' := s1.toks) hk
    refine ⟨s1.heap.objs.size + 1, [s1.heap.objs.size + 1, s1.heap.objs.size], _, _, H1, rfl, I2, turn_enumT a (s1.heap.objs.size + 1) s1.heap.objs.size, ⟨⟨.none, he⟩, hit, Nat.succ_ne_self _, Nat.ne_of_lt hal, Nat.ne_of_gt (Nat.lt_succ_of_lt hal)⟩, fun b hb => ?_, q⟩
    have e' : b = s1.heap.objs.size + 1 ∨ b = s1.heap.objs.size := by simpa using hb
    have hle : s1.heap.objs.size ≤ b := by
      rcases e' with z | z
      · rw [z]; exact Nat.le_add_right _ _
      · rw [z]; exact Nat.le_refl _
    exact I1.fpOk hle (I1.hok.fresh hle)
theorem walk_enumT {K : PySem.W.Frag} {a : Addr} {xs : List V} : Walk (IteT K a) xs.length (fun H => SqT K H a xs) (YPair (fun i => some (.int (i : Nat))) (fun i => xs[i]?)) := by
  refine ⟨fun i _ hi q => ⟨xs, xs[i], q, by simp [hi]⟩, fun _ q => ⟨xs, q, Nat.le_refl _⟩, fun i H v H' _ q y => ?_⟩
  obtain ⟨T, x, h1, h2, h3, h4⟩ := y
  exact ⟨T, .int (i : Nat), x, h1, h2, h3, rfl, h4 xs q⟩
end L2
end

section
set_option Elab.async false
set_option linter.all false
set_option maxRecDepth 100000
set_option maxHeartbeats 400000
/-! max(a list of ints, default = an int) -/
namespace PySem
/-- v is the greatest of the first j numbers -/
def TopAt (f : Nat → Int) (P : Nat → Value → Prop) (j : Nat) (v : Value) : Prop := ∃ i, i < j ∧ P i v ∧ ∀ q, q < j → f q ≤ f i
theorem TopAt.new {f : Nat → Int} {P : Nat → Value → Prop} {j : Nat} {v : Value} {i : Nat} (h : P j v) (hq : ∀ q, q < j → f q ≤ f i) (l : f i < f j) : TopAt f P (j + 1) v :=
  ⟨j, Nat.lt_succ_self j, h, fun q z => by
    rcases Nat.lt_or_ge q j with z' | z'
    · have := hq q z'; omega
    · rw [show q = j by omega]; exact Int.le_refl _⟩
/-- what S holds when j numbers have been seen -/
def Seen (f : Nat → Int) (P : Nat → Value → Prop) (j : Nat) (ws : Array Value) : Prop := (j = 0 ∧ ws = #[]) ∨ ∃ v, TopAt f P j v ∧ ws = #[v, v]
abbrev maxA (I S : Addr) (d : Value) : Args := ⟨[.ref I, .none, .ref S], [(Str.ofString "default", d)]⟩
section
variable {prog : Program} {w : World} {A : Around} {fp wr : List Addr} {St : Nat → Heap → Prop} {d : Value} {I : Addr} {n : Nat} {R : Result → Shared → Prop} {P : Nat → Value → Prop} {f : Nat → Int}
/-- max's loop with a default: one induction over what is left, from nothing seen or from a greatest one -/
theorem maxD_walk (W : Walks prog w A.in1 I fp wr n P St) (cmp : CmpOf prog w A.in1 .Gt P fun i j => decide (f i > f j)) {S : Addr} (free : S ∉ fp) : ∀ (m j : Nat) (s : Shared) (ws : Array Value) (c : Nat),
    j + m = n → St j s.heap → s.heap.get? S = some { cls := .type "list", data := .seq ws c } → Seen f P j ws →
    (∀ (v : Value) (h' : Heap) (tk : Nat), (n = 0 ∧ v = d) ∨ TopAt f P n v → (∀ b o, b ∉ wr → b ≠ S → s.heap.get? b = some o → h'.get? b = some o) → R (.ok (.ret v)) { s with heap := h', toks := tk }) →
    codeAny (model prog w) A (.builtin "max.loop" (maxA I S d)) R s := by
  have nw : S ∉ wr := fun z => free (W.sub _ z)
  have nm : (toString "max" ++ toString ".loop" : String) = "max.loop" := by decide
  intro m
  induction m with
  | zero =>
    intro j s ws c hj st g seen k
    rw [Nat.add_zero] at hj
    subst hj
    refine codeAny_builtin F.entry_max_loop ?_
    rw [Around.under_plainId F.plain_max_loop _]
    show wpAny _ A.in1 (seqItems? (.ref S) >>= _) _ _ s
    rcases seen with ⟨z, rfl⟩ | ⟨v, top, rfl⟩ <;> refine wpAny_bind (wpAny_seqItems g rfl (wpAny_bind (wpAny_tryCatch (W.done s _ _ st fun h' tk kept => ?_))))
    · exact wpAny_bind (wpAny_rule (wpAny_pure (k d h' tk (.inl ⟨z, rfl⟩) fun b o n1 _ e => kept b o n1 e)))
    · have g' := kept S _ nw g
      show wpAny _ A.in1 (updateSeq S (fun _ => #[]) >>= _) _ _ _
      refine wpAny_bind ?_
      refine wpAny_updateSeq g' rfl ?_
      exact wpAny_bind (wpAny_letGo (wpAny_pure (k v _ tk (.inr top) fun b o n1 n2 e => (Heap.get?_update_other _ _ n2.symm).trans (kept b o n1 e))))
  | succ m ih =>
    intro j s ws c hj st g seen k
    have lt : j < n := by omega
    -- a heap h2 which is h' but for S, and there v stands twice
    have next : ∀ {h' h2 : Heap} {tk : Nat} {v : Value} {c' : Nat}, (∀ b o, b ∉ wr → s.heap.get? b = some o → h'.get? b = some o) → St (j + 1) h' → (∀ b, b ≠ S → h2.get? b = h'.get? b) → h2.get? S = some { cls := .type "list", data := .seq #[v, v] c' } → TopAt f P (j + 1) v →
        codeAny (model prog w) A (.builtin "max.loop" (maxA I S d)) R { s with heap := h2, toks := tk } := fun {h' h2 tk v c'} kept st' oth g2 top =>
      ih (j + 1) _ #[v, v] c' (by omega) (W.frame _ _ _ st' fun b nb o e => (oth b fun z => free (z ▸ nb)).trans e) g2 (.inr ⟨v, top, rfl⟩)
        fun u h3 tk3 t3 kept3 => k u h3 tk3 t3 fun b o n1 n2 e => kept3 b o n1 n2 ((oth b n2).trans (kept b o n1 e))
    refine codeAny_builtin F.entry_max_loop ?_
    rw [Around.under_plainId F.plain_max_loop _]
    show wpAny _ A.in1 (seqItems? (.ref S) >>= _) _ _ s
    rcases seen with ⟨z, rfl⟩ | ⟨b, ⟨i, li, pb, hq⟩, rfl⟩ <;> refine wpAny_bind (wpAny_seqItems g rfl (wpAny_bind (wpAny_tryCatch (W.item j s _ _ lt st fun v h' tk pv st' kept => ?_)))) <;> have g' := kept S _ nw g
    · show wpAny _ A.in1 (updateSeq S (fun _ => #[v, v]) >>= _) _ _ _
      refine wpAny_bind ?_
      refine wpAny_updateSeq g' rfl ?_
      rw [nm]
      exact wpAny_pure ⟨plainId_quiet F.plain_max_loop _, next kept st' (fun a na => Heap.get?_update_other _ _ na.symm) (Heap.get?_update_self _ g' rfl) ⟨j, Nat.lt_succ_self j, pv, fun q hq => by rw [show q = j by omega]; exact Int.le_refl _⟩⟩
    · show wpAny _ A.in1 (tryCatch (holding [v, v] (richCompare .Gt v b >>= _)) _ >>= _) _ _ _
      refine wpAny_bind (wpAny_tryCatch (wpAny_holding (wpAny_bind (cmp j i v b _ _ _ pv pb ?_))))
      refine wpAny_bind (wpAny_holding (wpAny_truthy_bool ?_))
      refine wpAny_bind (wpAny_letGo (wpAny_pure ?_))
      by_cases more : f j > f i
      · rw [if_pos (decide_eq_true more)]
        show wpAny _ A.in1 (updateSeq S (fun _ => #[v, v]) >>= _) _ _ _
        refine wpAny_bind ?_
        refine wpAny_updateSeq g' rfl ?_
        refine wpAny_bind (wpAny_letGo ?_)
        rw [nm]
        exact wpAny_pure ⟨plainId_quiet F.plain_max_loop _, next kept st' (fun a na => Heap.get?_update_other _ _ na.symm) (Heap.get?_update_self _ g' rfl) (TopAt.new pv hq more)⟩
      · rw [if_neg fun z => more (of_decide_eq_true z)]
        refine wpAny_bind (wpAny_letGo ?_)
        rw [nm]
        refine wpAny_pure ⟨plainId_quiet F.plain_max_loop _, ih (j + 1) _ #[b, b] c (by omega) st' g' (.inr ⟨b, ⟨i, by omega, pb, fun q hq' => ?_⟩, rfl⟩) fun u h2 tk2 t2 kept2 => k u h2 tk2 t2 fun a o n1 n2 e => kept2 a o n1 n2 (kept a o n1 e)⟩
        rcases Nat.lt_or_ge q j with z | z
        · exact hq q z
        · rw [show q = j by omega]; omega
end
section
variable {prog : Program} {w : World} {A : Around} {E : Value → Shared → Prop} {s : Shared}
theorem F.args_maxD (a v : Value) : argsOk "max" ⟨[a], [(Str.ofString "default", v)]⟩ := by unfold argsOk; kernel_rfl
/-- max(x, default=d), x any walk of numbers -/
theorem call_maxD {x d : Value} {Q : Value → Shared → Prop}
    (h : wpAny (model prog w) A.in1 (pyIter x) (fun it s₂ => ∃ I fp wr n P St f, it = .ref I ∧ Walks prog w A.in1 I fp wr n P St ∧ St 0 s₂.heap ∧ (∀ b ∈ fp, b < s₂.heap.objs.size) ∧ CmpOf prog w A.in1 .Gt P (fun i j => decide (f i > f j)) ∧
      ∀ v h' tk, (n = 0 ∧ v = d) ∨ TopAt f P n v → (∀ b o, b ∉ wr → s₂.heap.get? b = some o → h'.get? b = some o) → Q v { s₂ with heap := h', toks := tk }) E s) :
    wpAny (model prog w) A (call (.builtin "max") [x] [(Str.ofString "default", d)]) Q E s := by
  refine PyProof.Rows.kmk_tree F.kind_max F.plain_max F.entry_max (F.args_maxD _ _) (wpAny_bind (wpAny_of_eq (show Builtin.Builtins.bindParams "max" ["key", "default"] 0 ⟨[], [(Str.ofString "default", d)]⟩ = pure [none, some d] from rfl) (wpAny_bind (wpAny_pure (wpAny_bind (wpAny_mono h (fun it s₂ h₂ => ?_) fun _ _ e => e))))))
  obtain ⟨I, fp, wr, n, P, St, f, rfl, W, st, below, cmp, q⟩ := h₂
  have free : s₂.heap.objs.size ∉ fp := fun z => Nat.lt_irrefl _ (below _ z)
  refine wpAny_bind (wpAny_newObj_type ?_)
  rw [show (toString "max" ++ toString ".loop" : String) = "max.loop" from by decide]
  exact wpAny_pure ⟨plainId_quiet F.plain_max_loop _, maxD_walk W cmp free n 0 _ #[] _ (Nat.zero_add n) (W.frame _ _ _ st fun b _ o e => Heap.get?_push_of_some _ e) (Heap.get?_push_size _ rfl) (.inl ⟨rfl, rfl⟩) fun v h' tk hv kept =>
    q v h' tk hv fun b o n1 e => kept b o n1 (Nat.ne_of_lt (Heap.lt_size e)) (Heap.get?_push_of_some _ e)⟩
end
end PySem
namespace L2
open PySem PySem.Spec PyProof.Rows
theorem maxD_raw {prog : Program} {w : World} {A : Around} {E : Value → Shared → Prop} {s : Shared} {l : Addr} {its : List Value} {ns : List Int} {d : Value} {Q : Value → Shared → Prop} (hh : A.handled = none) (hl : s.heap.IsList l its.toArray) (hi : IntsAre its ns)
    (h : ∀ h' tk M t', (∀ b o, s.heap.get? b = some o → h'.get? b = some o) → M ∈ ns → (∀ a, a ∈ ns → a ≤ M) → Q (.int M t') { s with heap := h', toks := tk })
    (h0 : ns = [] → ∀ h' tk, (∀ b o, s.heap.get? b = some o → h'.get? b = some o) → Q d { s with heap := h', toks := tk }) : wpAny (model prog w) A (call (.builtin "max") [.ref l] [(Str.ofString "default", d)]) Q E s := by
  obtain ⟨xs, e⟩ := hi.allInts.items
  have hn : numsOf (intItems xs).toList = ns := by rw [← e]; exact hi.numsOf
  rw [nums_intItems] at hn
  subst hn
  rw [e] at hl
  refine PySem.call_maxD (iter_intList hl fun s₂ e st hfp hlI => ?_)
  subst e
  refine ⟨_, _, _, _, _, _, numAt xs, rfl, Walks.list (A := A.in1) hh _ l hlI (intItems xs), st, hfp, CmpOf.ints_gt (numAt xs) (fun _ _ => intItems_at), fun v h' tk hv hk => ?_⟩
  have sz : (intItems xs).size = xs.size := by simp [intItems]
  rcases hv with ⟨z, rfl⟩ | ⟨i, li, hv, top⟩
  · refine h0 ?_ h' tk (old_kept hk)
    rw [sz] at z
    rw [Array.eq_empty_of_size_eq_zero z]
    rfl
  · rw [sz] at li top
    obtain ⟨t, rfl⟩ := intItems_at hv
    refine h h' tk _ t (old_kept hk) ?_ fun a ha => ?_
    · rw [numAt_eq]; exact PySem.getD_mem (by rw [List.length_map, Array.length_toList]; exact li)
    · obtain ⟨j, hj, rfl⟩ := mem_getD ha
      rw [List.length_map, Array.length_toList] at hj
      rw [← numAt_eq]; exact top j hj
/-- max(xs, default=d) -/
def rMaxD (K : PySem.W.Frag) : List V → List V → Hp → VK → Prop := fun vs zs H Q => ∃ (a : Addr) (ns : List Int) (d : Int), vs = [V.ref a] ∧ zs = [V.int d] ∧ SqL K H a (ns.map V.int) ∧ ∀ m, ((m ∈ ns ∧ ∀ y ∈ ns, y ≤ m) ∨ (ns = [] ∧ m = d)) → Q (.int m) H
theorem cr_maxD {X : Cx} (hc : X.calm = true) : CallRK X (.builtin "max") [Str.ofString "default"] (rMaxD X.K) := by
  intro pins s σ H xs zs us ws Q I r1 r2 h
  obtain ⟨a, ns, d, rfl, rfl, hs, q⟩ := h
  obtain ⟨its, rv, hl, _⟩ := I.list hs
  rw [Vals.ref1 r1]
  cases r2 with
  | cons r rr =>
    cases rr
    obtain ⟨t, rfl⟩ := r
    exact maxD_raw (I.ok.hd hc) hl.isList rv.ints (fun h' tk m t' hk h1 h2 => ⟨.int _, H, I.kept hk, ⟨_, rfl⟩, q m (.inl ⟨h1, h2⟩)⟩) fun e h' tk hk => ⟨.int d, H, I.kept hk, ⟨_, rfl⟩, q d (.inr ⟨e, rfl⟩)⟩
end L2
end

section
set_option Elab.async false
set_option linter.all false
set_option maxRecDepth 100000
set_option maxHeartbeats 1000000
/-! dicts that are walked, dict comprehensions, max -/
namespace G3
open PySem PySem.Spec PyProof.Rows L2 LamX NdefX
section
variable {K : PySem.W.Frag} {T : List NTab} {H0 H H' : Hp} {σ : L2.St} {δ : AS} {te ta tb tc tk tv : TE} {tt tu : TT} {d e : Dat} {s : Sl} {b c : Bool} {k : Kon}
/-- enumerate over a tuple -/
theorem ei_enumT {ds : List Dat} (h : Ev K T te δ (.sh (.tup ds))) : EvI K T (iEnumT K (tCons te tNil)) δ (enu ds) := fun H0 H σ r R q =>
  h H0 H σ r _ fun v H1 g1 t1 o1 => by
    obtain ⟨a, xs, rfl, h2, h3⟩ := o1
    have w := walk_enumT (K := K) (a := a) (xs := xs)
    rw [h3.length, ← enu_len ds] at w
    refine ⟨a, xs, rfl, SqT.of h2, q _ H1 none _ _ g1 t1 w (fun _ z => nomatch z) fun Hx st _ => ⟨SqT.of (st.t _ _ h2), fun i x Hx' _ tx y => ?_⟩⟩
    obtain ⟨p, u, w', rfl, np, rfl, e1, e2⟩ := y
    cases e1
    obtain ⟨d, e3, hd⟩ := h3.get e2
    have g : Gr Hx (upd Hx p (.tup [.int (i : Nat), w'])) := .new np
    exact ⟨g, TabsN.new tx np, _, enu_at e3, p, _, rfl, upd_same, _, _, rfl, rfl, _, _, rfl, Rp.mono g.stab _ (Rp.mono st _ hd), rfl⟩
theorem kiEnumT {X : Cx} (K : PySem.W.Frag) {e : Expr} {ta : TA} {p pos tpos : Pos} {elts : List Expr} {kk : Nat} (hg : Gl X "enumerate") (hm : X.mg "enumerate" = none) (ha : PA X [e] ta) (hs : starEach [e] X.env = [(false, eval e X.env)] := by rfl) (hK : X.K = K := by rfl) :
    PI X (.Tuple elts kk tpos) (.Call (.Name "enumerate" p) [e] [] pos) (iEnumT K ta) := hK ▸ pi_enumT hg hm ha hs
theorem kiEnum {X : Cx} (K : PySem.W.Frag) {e : Expr} {ta : TA} {p pos tpos : Pos} {elts : List Expr} {kk : Nat} (hg : Gl X "enumerate") (hm : X.mg "enumerate" = none) (ha : PA X [e] ta) (hs : starEach [e] X.env = [(false, eval e X.env)] := by rfl) (hK : X.K = K := by rfl) :
    PI X (.Tuple elts kk tpos) (.Call (.Name "enumerate" p) [e] [] pos) (iEnum K ta) := hK ▸ pi_enum hg hm ha hs
theorem kiZip {X : Cx} (K : PySem.W.Frag) {e e2 : Expr} {ta : TA} {p pos tpos : Pos} {elts : List Expr} {kk : Nat} (hg : Gl X "zip") (hm : X.mg "zip" = none) (ha : PA X [e, e2] ta)
    (hs : starEach [e, e2] X.env = (false, eval e X.env) :: starEach [e2] X.env := by rfl) (hpl : (backTo pos (starEach [e2] X.env)).any (·.1) = false := by rfl) (hK : X.K = K := by rfl) :
    PI X (.Tuple elts kk tpos) (.Call (.Name "zip" p) [e, e2] [] pos) (RZ.iZipA K ta) := hK ▸ RZ.pi_zipA hg hm ha hs hpl
/-- max(xs, default=d) -/
theorem kMaxD {X : Cx} (K : PySem.W.Frag) (hc : X.calm = true := by rfl) (hK : X.K = K := by rfl) : CallRK X (.builtin "max") [Str.ofString "default"] (rMaxD K) := hK ▸ cr_maxD hc
theorem ev_maxD {ns : List Int} {d m : Int} {ta tk : TA} (ha : EvA K T ta δ [.own (ns.map Dat.int)]) (hk : EvA K T tk δ [.sh (.int d)]) (hm : ∀ m', ((m' ∈ ns ∧ ∀ y ∈ ns, y ≤ m') ∨ (ns = [] ∧ m' = d)) → m' = m) : Ev K T (tCKw (rMaxD K) ta tk) δ (.sh (.int m)) := fun H0 H σ r Q q =>
  ha H0 H σ r _ fun vs H1 g1 t1 o1 => hk H0 H1 σ (r.grow g1 t1) _ fun zs H2 g2 t2 o2 => by
    obtain ⟨v, rfl, a, xs, rfl, h2, h3, _⟩ := paired1 o1
    obtain ⟨z, rfl, hz⟩ := paired1 o2
    refine ⟨a, ns, d, rfl, by rw [show z = V.int d from hz], SqL.of (by rw [g2.lst h2, h3.ints_eq]), fun m' hm' => ?_⟩
    rw [hm m' hm']
    exact q _ H2 (g1.trans g2) t2 rfl

/-! ### a dict that is walked is locked meanwhile -/
def noDcx : AS → Bool
  | [] => true
  | none :: r => noDcx r
  | some (.dcx _) :: _ => false
  | some _ :: r => noDcx r
theorem noDcx_at : ∀ {δ : AS} {i : Nat} {ns : List (Int × Dat)}, noDcx δ = true → δ[i]? = some (some (.dcx ns)) → False
  | [], _, _, _, e => by simp at e
  | none :: r, 0, _, _, e => by simp at e
  | none :: r, i + 1, _, h, e => noDcx_at (δ := r) (i := i) h (by simpa using e)
  | some s :: r, 0, _, h, e => by
    simp only [List.length_cons, Nat.zero_lt_succ, getElem?_pos, List.getElem_cons_zero, Option.some.injEq] at e
    rw [e] at h
    cases h
  | some s :: r, i + 1, _, h, e => by
    cases s <;> first | (exact noDcx_at (δ := r) (i := i) h (by simpa using e)) | (cases h)
theorem stab_frz {a : Addr} {od : Obj} {u o : HO} (h : H a = some u) (h1 : ∀ xs, u ≠ .tup xs) (h2 : ∀ xs, u ≠ .dT xs) (h3 : ∀ C dx gs, u ≠ .ins C dx gs) (h4 : ∀ ψ, u ≠ .ext ψ) (h5 : ∀ o y, u ≠ .frz o (.own y)) : Stab H (upd H a o) := stab_lst h h1 h2 h3 h4 h5
theorem Rel.lock {i : Nat} {kvs : List (Int × Dat)} {a : Addr} {ys : List (Key × V)} (od : Obj) (r : Rel K T H0 H σ δ) (hi : δ[i]? = some (some (.dcx kvs))) (hv : σ[i]? = some (some (.ref a))) (ha : H a = some (.dK ys)) (hk : Rpk H kvs ys) (hn : noDcx (δ.set i none) = true) :
    ∃ Hb, Rel K T Hb (upd H a (.frz od (.dK ys))) σ (δ.set i (some (.dct kvs))) ∧ Hb a = some (.frz od (.dK ys)) ∧ (∀ Hx, Gr Hb Hx → Stab H Hx) ∧ (∀ b, b ≠ a → ∀ o, H0 b = some o → (∀ ps, o ≠ .tbl ps) → Hb b = some o) ∧ ∀ b, b ≠ a → Hb b = none → H0 b = none := by
  obtain ⟨Hb, rb, gb, kb⟩ := r.rebase
  have st : Stab H (upd H a (.frz od (.dK ys))) := stab_lst ha (fun _ z => nomatch z) (fun _ z => nomatch z) fun _ _ _ z => nomatch z
  have no : ¬ Owned δ σ a := not_owned_slot r hi rfl rfl hv
  refine ⟨upd Hb a (.frz od (.dK ys)), ⟨⟨fun b o e n => ?_, fun b e => ?_⟩, TabsN.lstUpd r.tabs ha (fun _ z => nomatch z) (fun _ z => nomatch z), by simpa using r.len, fun j sj e => ?_, fun j l b sj sl ej oj el cl vj vl => ?_⟩, upd_same, fun Hx gx => ?_, fun b nb o e n => ?_, fun b nb e => ?_⟩
  · by_cases hb : b = a
    · rw [hb, upd_same] at e ⊢; exact e
    · rw [upd_ne hb] at e ⊢; exact rb.ext.e b o e n
  · by_cases hb : b = a
    · rw [hb, upd_same] at e; cases e
    · rw [upd_ne hb] at e ⊢; exact rb.ext.n b e
  · rcases set_at e with ⟨rfl, e2⟩ | ⟨ne, e2⟩
    · cases e2
      exact ⟨_, hv, a, ys, rfl, .inr ⟨od, upd_same⟩, Rpk.mono st hk⟩
    · obtain ⟨v, h1, h2⟩ := rb.ok j sj e2
      refine ⟨v, h1, ?_⟩
      have apart : sj.owned = true → v ≠ .ref a := fun o z => by
        rw [z] at h1
        exact ne ((r.ap j i a sj _ e2 o hi rfl h1 hv).symm)
      have nd : ∀ {b : Addr} {xs : List V}, H b = some (.lst xs) → b ≠ a := fun h z => by rw [z, ha] at h; cases h
      cases sj with
      | sh d => exact Rp.mono st d h2
      | lst ds => obtain ⟨b, xs, rfl, k1, k2⟩ := h2; exact ⟨b, xs, rfl, by rw [upd_ne (nd k1)]; exact k1, Rps.mono st _ k2⟩
      | own ds => obtain ⟨b, xs, rfl, k1, k2, k3⟩ := h2; exact ⟨b, xs, rfl, by rw [upd_ne (nd k1)]; exact k1, Rps.mono st _ k2, by rw [upd_ne (nd k1)]; exact k3⟩
      | «at» p ds => obtain ⟨b, xs, rfl, k1, k2, k3, k4⟩ := h2; exact ⟨b, xs, rfl, by rw [upd_ne (nd k1)]; exact k1, Rps.mono st _ k2, by rw [upd_ne (nd k1)]; exact k3, k4⟩
      | dct ds =>
        obtain ⟨b, xs, rfl, k1, k2⟩ := h2
        refine ⟨b, xs, rfl, ?_, Rpk.mono st k2⟩
        by_cases hb : b = a
        · subst hb
          rcases k1 with k1 | ⟨o, k1⟩
          · rw [ha] at k1; cases k1
            exact .inr ⟨od, upd_same⟩
          · rw [ha] at k1; cases k1
        · rcases k1 with k1 | ⟨o, k1⟩
          · exact .inl (by rw [upd_ne hb]; exact k1)
          · exact .inr ⟨o, by rw [upd_ne hb]; exact k1⟩
      | dcx ds => exact (noDcx_at (i := j) hn (by rw [List.getElem?_set_ne ne]; exact e2)).elim
      | ownD ds =>
        obtain ⟨b, xs, rfl, k1, k2, k3⟩ := h2
        have hb : b ≠ a := fun z => apart rfl (by rw [z])
        exact ⟨b, xs, rfl, by rw [upd_ne hb]; exact k1, Rpk.mono st k2, by rw [upd_ne hb]; exact k3⟩
      | scr ns =>
        obtain ⟨b, rfl, k1⟩ := h2
        refine ⟨b, rfl, ?_⟩
        rcases k1 with (k1 | ⟨o, k1⟩) | k1
        · exact .inl (.inl (by rw [upd_ne (nd k1)]; exact k1))
        · exact .inl (.inr ⟨o, by rw [upd_ne (fun z => by rw [z, ha] at k1; cases k1)]; exact k1⟩)
        · exact .inr k1
      | raw u => exact h2
      | fn u => exact ⟨h2.2 _ _ _ st h2.1, h2.2⟩
  · have f : ∀ (x : Nat) (sx : Sl), (δ.set i (some (.dct kvs)))[x]? = some (some sx) → ∃ sy, δ[x]? = some (some sy) ∧ (sx.owned = true → sy.owned = true) ∧ (sx.cont = true → sy.cont = true) := fun x sx ex => by
      rcases set_at ex with ⟨rfl, z⟩ | ⟨_, z⟩
      · cases z; exact ⟨_, hi, (fun z => by cases z), fun _ => rfl⟩
      · exact ⟨sx, z, id, id⟩
    obtain ⟨sy, h1, h2, _⟩ := f j sj ej
    obtain ⟨sz, h3, _, h4⟩ := f l sl el
    exact r.ap j l b sy sz h1 (h2 oj) h3 (h4 cl) vj vl
  · have keep : ∀ b u, H b = some u → (∀ xs, u ≠ .lst xs) → (∀ xs, u ≠ .dK xs) → upd Hb a (.frz od (.dK ys)) b = some u := fun b u h n1 n2 => by
      rw [upd_ne (fun z => by rw [z, ha] at h; exact n2 _ (Option.some.inj h).symm)]
      refine kb b u h fun ⟨j, sj, k1, k2, k3⟩ => ?_
      obtain ⟨v, k4, k5⟩ := r.ok j sj k1
      rw [k3] at k4; cases k4
      cases sj with
      | own ds => obtain ⟨b, xs, e, k6, _⟩ := k5; cases e; rw [h] at k6; exact n1 _ (Option.some.inj k6)
      | «at» _ ds => obtain ⟨b, xs, e, k6, _⟩ := k5; cases e; rw [h] at k6; exact n1 _ (Option.some.inj k6)
      | ownD ds => obtain ⟨b, xs, e, k6, _⟩ := k5; cases e; rw [h] at k6; exact n2 _ (Option.some.inj k6)
      | _ => cases k2
    exact ⟨fun b xs h => gx.stab.t b xs (keep b _ h (fun _ z => nomatch z) fun _ z => nomatch z), fun b xs h => gx.stab.w b xs (keep b _ h (fun _ z => nomatch z) fun _ z => nomatch z), fun b C dx gs h => gx.stab.i b C dx gs (keep b _ h (fun _ z => nomatch z) fun _ z => nomatch z), fun b ψ h => gx.stab.x b ψ (keep b _ h (fun _ z => nomatch z) fun _ z => nomatch z), fun b o y h => gx.stab.c b o y (keep b _ h (fun _ z => nomatch z) fun _ z => nomatch z)⟩
  · rw [upd_ne nb]; exact gb.e b o e n
  · rw [upd_ne nb] at e; exact gb.n b e
theorem Rel.unlock {Hb : Hp} {a : Addr} {od : Obj} {ys : List (Key × V)} (r : Rel K T Hb H' σ δ) (hb : Hb a = some (.frz od (.dK ys))) (h0 : ∀ o, H0 a = some o → (∀ ps, o ≠ .tbl ps) → o = .dK ys)
    (he : ∀ b, b ≠ a → ∀ o, H0 b = some o → (∀ ps, o ≠ .tbl ps) → Hb b = some o) (hn : ∀ b, b ≠ a → Hb b = none → H0 b = none) : Rel K T H0 (upd H' a (.dK ys)) σ δ := by
  have hf : H' a = some (.frz od (.dK ys)) := r.ext.frz hb
  have st : Stab H' (upd H' a (.dK ys)) := stab_lst hf (fun _ z => nomatch z) (fun _ z => nomatch z) fun _ _ _ z => nomatch z
  have nl : ∀ {b : Addr} {xs : List V}, H' b = some (.lst xs) → b ≠ a := fun h z => by rw [z, hf] at h; cases h
  have nk : ∀ {b : Addr} {xs : List (Key × V)}, H' b = some (.dK xs) → b ≠ a := fun h z => by rw [z, hf] at h; cases h
  refine ⟨⟨fun b o e n => ?_, fun b e => ?_⟩, TabsN.lstUpd r.tabs hf (fun _ z => nomatch z) (fun _ z => nomatch z), r.len, fun j s e => ?_, r.ap⟩
  · by_cases h : b = a
    · subst h; rw [upd_same, h0 o e n]
    · rw [upd_ne h]; exact r.ext.e b o (he b h o e n) n
  · by_cases h : b = a
    · rw [h, upd_same] at e; cases e
    · rw [upd_ne h] at e; exact hn b h (r.ext.n b e)
  · obtain ⟨v, h1, h2⟩ := r.ok j s e
    refine ⟨v, h1, ?_⟩
    cases s with
    | sh d => exact Rp.mono st d h2
    | lst ds => obtain ⟨b, xs, rfl, k1, k2⟩ := h2; exact ⟨b, xs, rfl, by rw [upd_ne (nl k1)]; exact k1, Rps.mono st _ k2⟩
    | own ds => obtain ⟨b, xs, rfl, k1, k2, k3⟩ := h2; exact ⟨b, xs, rfl, by rw [upd_ne (nl k1)]; exact k1, Rps.mono st _ k2, hn b (nl k1) k3⟩
    | «at» p ds => obtain ⟨b, xs, rfl, k1, k2, k3, k4⟩ := h2; exact ⟨b, xs, rfl, by rw [upd_ne (nl k1)]; exact k1, Rps.mono st _ k2, hn b (nl k1) k3, k4⟩
    | dct ds =>
      obtain ⟨b, xs, rfl, k1, k2⟩ := h2
      refine ⟨b, xs, rfl, ?_, Rpk.mono st k2⟩
      by_cases h : b = a
      · subst h
        rcases k1 with k1 | ⟨o, k1⟩
        · rw [hf] at k1; cases k1
        · rw [hf] at k1; cases k1
          exact .inl upd_same
      · rcases k1 with k1 | ⟨o, k1⟩
        · exact .inl (by rw [upd_ne h]; exact k1)
        · exact .inr ⟨o, by rw [upd_ne h]; exact k1⟩
    | dcx ds => obtain ⟨b, xs, rfl, k1, k2⟩ := h2; exact ⟨b, xs, rfl, by rw [upd_ne (nk k1)]; exact k1, Rpk.mono st k2⟩
    | ownD ds => obtain ⟨b, xs, rfl, k1, k2, k3⟩ := h2; exact ⟨b, xs, rfl, by rw [upd_ne (nk k1)]; exact k1, Rpk.mono st k2, hn b (nk k1) k3⟩
    | scr ns =>
      obtain ⟨b, rfl, k1⟩ := h2
      refine ⟨b, rfl, ?_⟩
      rcases k1 with (k1 | ⟨o, k1⟩) | k1
      · exact .inl (.inl (by rw [upd_ne (nl k1)]; exact k1))
      · exact .inl (.inr ⟨o, by rw [upd_ne (fun z => by rw [z, hf] at k1; cases k1)]; exact k1⟩)
      · exact .inr k1
    | raw u => exact h2
    | fn u => exact ⟨h2.2 _ _ _ st h2.1, h2.2⟩
theorem lock0 {a : Addr} {ys : List (Key × V)} (r : Gr H0 H) (ha : H a = some (.dK ys)) : ∀ o, H0 a = some o → (∀ ps, o ≠ .tbl ps) → o = .dK ys := fun o e n => by
  have := r.e a o e n
  rw [ha] at this
  exact (Option.some.inj this).symm
/-- for .. in d.items() -/
theorem sx_forItems {i : Nat} {kvs : List (Int × Dat)} {g : TG} {tb : TS} (hi : δ[i]? = some (some (.dcx kvs))) (hn : noDcx (δ.set i none) = true) (Iv : Nat → AS → Prop) (h0 : Iv 0 (δ.set i (some (.dct kvs))))
    (hs : ∀ j p δ', kvs[j]? = some p → Iv j δ' → ∃ δ2 is, Tgt K T g (.tup [.int p.1, p.2]) δ' δ2 is ∧ Sx K T tb δ2 ⟨Iv (j + 1), fun _ => False, fun _ => False, Iv (j + 1)⟩) (hd : ∀ δ', Iv kvs.length δ' → k.nx δ') : Sx K T (tLock (tFor (iItems (tVar i)) g tb)) δ k := fun H0 H σ D r o => by
  obtain ⟨v, hv, a, ys, rfl, ha, hk⟩ := r.ok i _ hi
  refine ⟨a, .dK ys, ha, True.intro, fun od => ?_⟩
  obtain ⟨Hb, rb, hba, hst, e1, e2⟩ := r.lock od hi hv ha hk hn
  refine ⟨.ref a, hv, a, od, ys, rfl, upd_same, ?_⟩
  have w := walk_items (d := a) (o := od) (kvs := ys)
  rw [hk.length] at w
  refine for_it w (fun j σ' Hx => ∃ δ', Rel K T Hb Hx σ' δ' ∧ Iv j δ') ⟨_, rb, h0⟩ (fun j σ' Hx _ ⟨δ', rx, _⟩ => rx.ext.frz hba) (fun j x σ' Hx Hx' hlt ⟨δ', rx, iv⟩ y => ?_) fun σ' Hx ⟨δ', rx, iv⟩ => ?_
  · obtain ⟨p, u, w', rfl, np, rfl, h1, h2⟩ := y
    have h1 : ys[j]?.map (fun kv => kV kv.1) = some u := h1
    have h2 : ys[j]?.map Prod.snd = some w' := h2
    cases hy : ys[j]? with
    | none => rw [hy] at h1; cases h1
    | some kv =>
      rw [hy] at h1 h2
      cases h1; cases h2
      obtain ⟨pr, h3, h4, h5⟩ := hk.at (k := kv.1) (x := kv.2) hy
      have gx : Gr Hx (upd Hx p (.tup [kV kv.1, kv.2])) := .new np
      obtain ⟨δ2, is, tg, sb⟩ := hs j pr δ' h3 iv
      refine tg Hb _ σ' _ (rx.grow gx (TabsN.new rx.tabs np)) ⟨p, _, rfl, upd_same, _, _, rfl, by rw [h4]; rfl, _, _, rfl, Rp.mono gx.stab _ (Rp.mono (hst Hx rx.ext) _ h5), rfl⟩ _ fun σ2 r2 _ => ?_
      exact sb Hb _ σ2 _ r2 ⟨fun H σ δ r q => ⟨δ, r, q⟩, fun _ _ _ _ _ _ z => z.elim, fun _ _ _ _ z => z.elim, fun H σ δ r q => ⟨δ, r, q⟩⟩
  · exact ⟨rx.ext.frz hba, o.nx _ _ _ (rx.unlock hba (lock0 r.ext ha) e1 e2) (hd δ' iv)⟩
/-- for k in d -/
theorem sx_forKeys {i : Nat} {kvs : List (Int × Dat)} {g : TG} {tb : TS} (hi : δ[i]? = some (some (.dcx kvs))) (hn : noDcx (δ.set i none) = true) (Iv : Nat → AS → Prop) (h0 : Iv 0 (δ.set i (some (.dct kvs))))
    (hs : ∀ j p δ', kvs[j]? = some p → Iv j δ' → ∃ δ2 is, Tgt K T g (.int p.1) δ' δ2 is ∧ Sx K T tb δ2 ⟨Iv (j + 1), fun _ => False, fun _ => False, Iv (j + 1)⟩) (hd : ∀ δ', Iv kvs.length δ' → k.nx δ') : Sx K T (tLock (tFor (iKeys (tVar i)) g tb)) δ k := fun H0 H σ D r o => by
  obtain ⟨v, hv, a, ys, rfl, ha, hk⟩ := r.ok i _ hi
  refine ⟨a, .dK ys, ha, True.intro, fun od => ?_⟩
  obtain ⟨Hb, rb, hba, hst, e1, e2⟩ := r.lock od hi hv ha hk hn
  refine ⟨.ref a, hv, a, od, rfl, .inl ⟨ys, upd_same, ?_⟩⟩
  have w := walk_keys (d := a) (o := od) (kvs := ys)
  rw [hk.length] at w
  refine for_it w (fun j σ' Hx => ∃ δ', Rel K T Hb Hx σ' δ' ∧ Iv j δ') ⟨_, rb, h0⟩ (fun j σ' Hx _ ⟨δ', rx, _⟩ => rx.ext.frz hba) (fun j x σ' Hx Hx' hlt ⟨δ', rx, iv⟩ y => ?_) fun σ' Hx ⟨δ', rx, iv⟩ => ?_
  · obtain ⟨rfl, kk, w', hy, rfl⟩ := y
    obtain ⟨pr, h3, h4, h5⟩ := hk.at hy
    obtain ⟨δ2, is, tg, sb⟩ := hs j pr δ' h3 iv
    refine tg Hb _ σ' _ rx (by rw [h4]; rfl) _ fun σ2 r2 _ => ?_
    exact sb Hb _ σ2 _ r2 ⟨fun H σ δ r q => ⟨δ, r, q⟩, fun _ _ _ _ _ _ z => z.elim, fun _ _ _ _ z => z.elim, fun H σ δ r q => ⟨δ, r, q⟩⟩
  · exact ⟨rx.ext.frz hba, o.nx _ _ _ (rx.unlock hba (lock0 r.ext ha) e1 e2) (hd δ' iv)⟩

/-! ### dict comprehensions -/
def putAll (l : List (Int × Dat)) : List (Int × Dat) := l.foldl (fun acc p => putI acc p.1 p.2) []
theorem putAll_snoc (l : List (Int × Dat)) (p : Int × Dat) : putAll (l ++ [p]) = putI (putAll l) p.1 p.2 := by
  unfold putAll; rw [List.foldl_append]; rfl
theorem putI_len (l : List (Int × Dat)) (x : Int) (d : Dat) : (putI l x d).length ≤ l.length + 1 := by
  unfold putI; split <;> simp
theorem putAll_len (l : List (Int × Dat)) : (putAll l).length ≤ l.length := by
  have : ∀ (l acc : List (Int × Dat)), (l.foldl (fun acc p => putI acc p.1 p.2) acc).length ≤ acc.length + l.length := by
    intro l
    induction l with
    | nil => intro acc; simp
    | cons p r ih =>
      intro acc
      have h1 := ih (putI acc p.1 p.2)
      have h2 := putI_len acc p.1 p.2
      simp only [List.foldl_cons, List.length_cons]; omega
  simpa [putAll] using this l []
theorem putI_new {α : Type} {l : List (Int × α)} {x : Int} {d : α} (h : x ∉ l.map (·.1)) : putI l x d = l ++ [(x, d)] := by
  unfold putI
  rw [if_neg]
  simp only [List.any_eq_true, decide_eq_true_eq, not_exists, not_and]
  exact fun p hp e => h (List.mem_map.mpr ⟨p, hp, e⟩)
theorem putAll_nodup (l : List (Int × Dat)) (h : (l.map (·.1)).Nodup) : putAll l = l := by
  have : ∀ (l acc : List (Int × Dat)), ((acc ++ l).map (·.1)).Nodup → l.foldl (fun acc p => putI acc p.1 p.2) acc = acc ++ l := by
    intro l
    induction l with
    | nil => intro acc _; simp
    | cons p r ih =>
      intro acc h
      have hn : p.1 ∉ acc.map (·.1) := fun z => by
        rw [List.map_append, List.nodup_append] at h
        exact h.2.2 _ z p.1 (by simp) rfl
      rw [List.foldl_cons, putI_new hn, ih]
      · simp
      · simpa using h
  simpa [putAll] using this l [] (by simpa using h)
/-- the loop of a dict comprehension -/
theorem dc_it {α : Type} {J : It} {n : Nat} {G : Hp → Prop} {Y : Nat → Hp → V → Hp → Prop} {g : TG} {vs : List Nat} {H1 : Hp} {Q : VK} (w : Walk J n G Y) (f : Nat → Int × Dat) (hl : n ≤ 100000) (r1 : Rel K T H0 H1 σ δ)
    (hg : ∀ Hx, Gr H1 Hx → G Hx) (hs : ∀ i x Hx Hx', i < n → Gr H1 Hx → TabsN T Hx → Y i Hx x Hx' → Gr Hx Hx' ∧ TabsN T Hx' ∧ ∃ d, Rp Hx' d x ∧ ∃ δ2 is, Tgt K T g d (wipeA δ vs) δ2 is ∧ (∀ i ∈ is, i ∈ vs) ∧ Ev K T tk δ2 (.sh (.int (f i).1)) ∧ Ev K T tv δ2 (.sh (f i).2))
    (q : ∀ v H', Gr H1 H' → TabsN T H' → SlOk K H1 H' (.ownD (putAll ((List.range n).map f))) v → Q v H') : ∀ D, H1 D = none → ∃ W : Nat → Nat → Hp → Prop, (∃ m, W 0 m (upd H1 D (.dK []))) ∧ ∀ i m H, W i m H →
  (J.stop i H ∧ Q (.ref D) H) ∨ (J.go i H ∧ ∃ Nx : Hp → Prop, (∀ H', Nx H' → ∃ m', m' < m ∧ W (i + 1) m' H') ∧ ∀ x H', J.yld i H x H' → g x (wipe σ vs) H' fun σ2 H2 => wipe σ2 vs = wipe σ vs ∧ tYes σ2 H2 fun b H3 =>
    if b = true then tk σ2 H3 fun y H4 => tv σ2 H4 fun z H5 => ∃ kvs k, y = kV k ∧ H5 D = some (.dK kvs) ∧ kvs.length < sizeLine ∧ Nx (upd H5 D (.dK (putK kvs k z))) else Nx H3) := fun D nD => by
  have gD : Gr H1 (upd H1 D (.dK [])) := .new nD
  let Pv : Nat → Hp → Prop := fun i Hx => Gr H1 Hx ∧ TabsN T Hx ∧ ∃ ys, Hx D = some (.dK ys) ∧ Rpk Hx (putAll ((List.range i).map f)) ys
  refine ⟨fun i m Hx => m = n - i ∧ i ≤ n ∧ Pv i Hx, ⟨n, by simp, Nat.zero_le _, gD, TabsN.new r1.tabs nD, [], upd_same, rfl⟩, ?_⟩
  rintro i m Hx ⟨rfl, hi, gx, tx, ys, hD, hys⟩
  by_cases hlt : i < n
  · refine .inr ⟨w.goes i Hx hlt (hg Hx gx), Pv (i + 1), fun H' p' => ⟨n - (i + 1), by omega, rfl, hlt, p'⟩, fun x Hx' y => ?_⟩
    obtain ⟨g2, t2, d, hd, δ2, is, tg, his, hk, hv⟩ := hs i x Hx Hx' hlt gx tx (w.yields i Hx x Hx' hlt (hg Hx gx) y)
    have rw1 : Rel K T H0 Hx' (wipe σ vs) (wipeA δ vs) := (r1.grow (gx.trans g2) t2).wipe vs
    refine tg H0 Hx' _ x rw1 hd _ fun σ2 r2 wp => ⟨by rw [wp vs his]; exact wipe_wipe σ vs vs fun _ h => h, ?_⟩
    refine hk H0 Hx' σ2 r2 _ fun y H4 g4 t4 o4 => ?_
    refine hv H0 H4 σ2 (r2.grow g4 t4) _ fun z H5 g5 t5 o5 => ?_
    have hD5 : H5 D = some (.dK ys) := g5.dk (g4.dk (g2.dk hD))
    have G5 := ((gx.trans g2).trans g4).trans g5
    have st : Stab H5 (upd H5 D (.dK (putK ys (Sum.inl (f i).1) z))) := (show Wr (.dK ys) from .inr ⟨_, rfl⟩).stab hD5
    have hlen : ys.length ≤ 100000 := by
      rw [hys.length]
      refine Nat.le_trans (putAll_len _) ?_
      rw [List.length_map, List.length_range]; omega
    refine ⟨ys, Sum.inl (f i).1, o4, hD5, szl hlen, ⟨fun b u e n => ?_, fun b e => ?_⟩, TabsN.lstUpd t5 hD5 (fun _ z => nomatch z) (fun _ z => nomatch z), _, upd_same, ?_⟩
    · rw [upd_ne (fun z => by rw [z, nD] at e; cases e)]
      exact G5.e b u e n
    · by_cases hb : b = D
      · rw [hb]; exact nD
      · rw [upd_ne hb] at e; exact G5.n b e
    · rw [List.range_succ, List.map_append, List.map_singleton, putAll_snoc]
      exact Rpk.put (Rp.mono st _ o5) (Rpk.mono st (Rpk.mono g5.stab (Rpk.mono g4.stab (Rpk.mono g2.stab hys))))
  · have e : i = n := by omega
    subst e
    exact .inl ⟨w.stops Hx (hg Hx gx), q _ Hx gx tx ⟨D, ys, rfl, hD, hys, nD⟩⟩
/-- {k: v for .. in ..} -/
theorem ev_dc {wi : TI} {g : TG} {vs : List Nat} {items : List Dat} (f : Nat → Int × Dat) (hi : EvI K T wi δ items) (hl : items.length ≤ 100000)
    (hs : ∀ i d, items[i]? = some d → ∃ δ2 is, Tgt K T g d (wipeA δ vs) δ2 is ∧ (∀ i ∈ is, i ∈ vs) ∧ Ev K T tk δ2 (.sh (.int (f i).1)) ∧ Ev K T tv δ2 (.sh (f i).2)) :
    Ev K T (tDc wi g tYes tk tv vs) δ (.ownD (putAll ((List.range items.length).map f))) := fun H0 H σ r Q q => by
  refine hi H0 H σ r _ fun J H1 A G Y g1 t1 w hA hG => ?_
  have r1 := r.grow g1 t1
  have keepA : ∀ Hx, Gr H1 Hx → G Hx ∧ ∀ i x Hx', i < items.length → TabsN T Hx → Y i Hx x Hx' → Gr Hx Hx' ∧ TabsN T Hx' ∧ ∃ d, items[i]? = some d ∧ Rp Hx' d x := fun Hx gx =>
    hG Hx gx.stab fun a ea => by
      obtain ⟨⟨u, hu, nu⟩, _⟩ := hA a ea
      rw [hu]
      exact gx.e a u hu nu
  refine dc_it (α := Nat) w f hl r1 (fun Hx gx => (keepA Hx gx).1) (fun i x Hx Hx' hlt gx tx y => ?_) fun v H' g2 t2 o2 => q v H' (g1.trans g2) t2 (o2.base g1.n)
  obtain ⟨g2, t2, d, e, hd⟩ := (keepA Hx gx).2 i x Hx' hlt tx y
  obtain ⟨δ2, is, h1, h2, h3, h4⟩ := hs i d e
  exact ⟨g2, t2, d, hd, δ2, is, h1, h2, h3, h4⟩
/-- {k: v for k in d}, d locked meanwhile -/
theorem ev_dcKeys {i : Nat} {kvs : List (Int × Dat)} {g : TG} {vs : List Nat} (f : Nat → Int × Dat) (hi : δ[i]? = some (some (.dcx kvs))) (hn : noDcx (δ.set i none) = true) (hl : kvs.length ≤ 100000)
    (hs : ∀ j p, kvs[j]? = some p → ∃ δ2 is, Tgt K T g (.int p.1) (wipeA (δ.set i (some (.dct kvs))) vs) δ2 is ∧ (∀ i ∈ is, i ∈ vs) ∧ Ev K T tk δ2 (.sh (.int (f j).1)) ∧ Ev K T tv δ2 (.sh (f j).2)) :
    Ev K T (tLockE (tDc (iKeys (tVar i)) g tYes tk tv vs)) δ (.ownD (putAll ((List.range kvs.length).map f))) := fun H0 H σ r Q q => by
  obtain ⟨v, hv, a, ys, rfl, ha, hk⟩ := r.ok i _ hi
  refine ⟨a, .dK ys, ha, True.intro, fun od => ?_⟩
  obtain ⟨Hb, rb, hba, hst, e1, e2⟩ := r.lock od hi hv ha hk hn
  refine ⟨.ref a, hv, a, od, rfl, .inl ⟨ys, upd_same, ?_⟩⟩
  have w := walk_keys (d := a) (o := od) (kvs := ys)
  have st1 : Stab H (upd H a (.frz od (.dK ys))) := stab_lst ha (fun _ z => nomatch z) (fun _ z => nomatch z) fun _ _ _ z => nomatch z
  rw [hk.length] at w
  refine dc_it (α := Nat) (Q := fun v H' => H' a = some (.frz od (.dK ys)) ∧ Q v (upd H' a (.dK ys))) (g := g) (vs := vs) (tk := tk) (tv := tv) w f hl rb (fun Hx gx => gx.frz upd_same) (fun j x Hx Hx' hlt gx tx y => ?_) fun v H' g2 t2 o2 => ?_
  · obtain ⟨rfl, kk, w', hy, rfl⟩ := y
    obtain ⟨pr, h3, h4, h5⟩ := hk.at hy
    obtain ⟨δ2, is, tg, k2, k3, k4⟩ := hs j pr h3
    exact ⟨Gr.refl _, tx, .int pr.1, by rw [h4]; rfl, δ2, is, tg, k2, k3, k4⟩
  · have hf : H' a = some (.frz od (.dK ys)) := g2.frz upd_same
    have st : Stab H' (upd H' a (.dK ys)) := stab_lst hf (fun _ z => nomatch z) (fun _ z => nomatch z) fun _ _ _ z => nomatch z
    obtain ⟨D, zs, rfl, h1, h2, h3⟩ := o2
    have nD : D ≠ a := fun z => by rw [z, upd_same] at h3; cases h3
    refine ⟨hf, q _ _ ⟨fun b u e n => ?_, fun b e => ?_⟩ (TabsN.lstUpd t2 hf (fun _ z => nomatch z) (fun _ z => nomatch z)) ⟨D, zs, rfl, by rw [upd_ne nD]; exact h1, Rpk.mono st h2, ?_⟩⟩
    · by_cases hb : b = a
      · rw [hb, ha] at e; cases e; rw [hb, upd_same]
      · rw [upd_ne hb]; exact g2.e b u (by rw [upd_ne hb]; exact e) n
    · by_cases hb : b = a
      · rw [hb, upd_same] at e; cases e
      · rw [upd_ne hb] at e
        have := g2.n b e
        rw [upd_ne hb] at this
        exact this
    · rw [upd_ne nD] at h3; exact h3
end
end G3
end

section
set_option Elab.async false
set_option linter.all false
set_option maxRecDepth 100000
set_option maxHeartbeats 2000000
/-! a list comprehension of four clauses -/
namespace L2
open PySem PySem.Spec PyProof.Rows
def turnOf (target : Expr) (ifs : List Expr) (p : Pos) (T : Sem PUnit) (comp : Expr) (i : Nat) (it acc : Value) (env : Env) : Sem Fin := do
  standAt p
  match ← pyNext it with
  | none => pure (.done .next)
  | some v =>
    letOwnedTupleGo target it v
    assign target env v
    let mut ok := true
    for c in ifs do
      if ok then ok ← isTrue c env (eval c env)
    if ok then T
    again (.compLoop comp i it acc env)
def tLastT (elt : Expr) (acc : Value) (env : Env) : Sem PUnit := do let _ ← call (.builtin "list.append") [acc, ← eval elt env]
def tMidT (comp : Expr) (k : Nat) (iter : Expr) (acc : Value) (env : Env) : Sem PUnit := do
  let x ← eval iter env
  standAt iter.pos
  let x ← foldedSetIterable iter env x
  let _ ← runOwn (.compStart comp k (← holding [x] (pyIter x)) acc env) env
section
variable {prog : Program} {w : World} {A : Around} {R : Result → Shared → Prop} {s : Shared}
theorem compLoop_gen {elt target : Expr} {gs : List Comprehension} {scope : Scope} {pos : Pos} {ifs : List Expr} {p : Pos} {T : Sem PUnit} {i : Nat} {it acc : Value} {env : Env} (ht : compTurn (.ListComp elt gs scope pos) i it acc env = turnOf target ifs p T (.ListComp elt gs scope pos) i it acc env) (I : Nat → Shared → Prop)
    (turn : ∀ n s, I n s → wpAny (model prog w) A (pyNext it) (fun r s₁ => match r with
      | none => R (.ok .next) s₁
      | some v => wpAny (model prog w) A (letOwnedTupleGo target it v) (fun _ s₁' => wpAny (model prog w) A (assign target env v) (fun _ s₂ =>
          wpAny (model prog w) A (forIn ifs true fun c r => if r = true then do let ok ← isTrue c env (eval c env); pure (ForInStep.yield ok) else pure (ForInStep.yield r)) (fun ok s₃ =>
            if ok = true then wpAny (model prog w) A T (fun _ s₅ => ∃ m, m < n ∧ I m s₅) (notedBy (model prog w) A env fun e s' => R (.error e) s') s₃
            else ∃ m, m < n ∧ I m s₃) (notedBy (model prog w) A env fun e s' => R (.error e) s') s₂) (notedBy (model prog w) A env fun e s' => R (.error e) s') s₁') (notedBy (model prog w) A env fun e s' => R (.error e) s') s₁) (notedBy (model prog w) A env fun e s' => R (.error e) s') s)
    (n : Nat) (h : I n s) : codeAny (model prog w) A (.compLoop (.ListComp elt gs scope pos) i it acc env) R s := by
  refine codeAny_loop rfl I (fun n s hI => ?_) n h
  show wpAny _ A ((compTurn (.ListComp elt gs scope pos) i it acc env).onRaise (fun x => do noteFrame x env; theTreesLotGoes x)) _ _ s
  refine wpAny_noted ?_
  rw [ht]
  unfold turnOf
  refine wpAny_bind (wpAny_standAt (wpAny_bind (wpAny_mono (turn n s hI) (fun r s₁ h₁ => ?_) fun _ _ h' => h')))
  cases r with
  | none => exact wpAny_pure h₁
  | some v =>
    refine wpAny_bind (wpAny_mono h₁ (fun _ s₁' h₁' => ?_) fun _ _ h' => h')
    refine wpAny_bind (wpAny_mono h₁' (fun _ s₂ h₂ => wpAny_bind (wpAny_mono h₂ (fun ok s₃ h₃ => ?_) fun _ _ h' => h')) fun _ _ h' => h')
    cases ok with
    | false => exact wpAny_pure ⟨rfl, h₃⟩
    | true => exact wpAny_bind (wpAny_mono h₃ (fun _ s₅ h₅ => wpAny_pure ⟨rfl, h₅⟩) fun _ _ h' => h')
theorem compStart_any {elt : Expr} {gs : List Comprehension} {scope : Scope} {pos : Pos} {i : Nat} {it acc : Value} {env : Env} (hc : (gs[i]?).elim false (·.is_async != 0) = false) (h0 : codeAny (model prog w) A (.compLoop (.ListComp elt gs scope pos) i it acc env) R s)
    (h : wpAny (model prog w) A (pyIter it) (fun it' s' => codeAny (model prog w) A (.compLoop (.ListComp elt gs scope pos) i it' acc env) R s') (notedBy (model prog w) A env fun x s' => R (.error x) s') s) :
    codeAny (model prog w) A (.compStart (.ListComp elt gs scope pos) i it acc env) R s := by
  refine codeAny_of_tree ?_
  show wpAny _ _ ((compStart (.ListComp elt gs scope pos) i it acc env).onRaise (fun x => do noteFrame x env; standAt theWindowsPlace)) _ _ s
  refine wpAny_notedAt ?_
  unfold compStart
  rw [if_neg (by rw [show clausesOf (.ListComp elt gs scope pos) = gs from rfl, hc]; exact Bool.false_ne_true)]
  refine wpAny_bind (wpAny_askSetting (wpAny_ite ?_))
  split
  · first
      | exact wpAny_bind (wpAny_pure (wpAny_pure (And.intro rfl h0)))
      | exact wpAny_pure (And.intro rfl h0)
  · refine wpAny_bind (wpAny_rule ?_)
    cases hz : (clausesOf (.ListComp elt gs scope pos))[i]? with
    | none => exact wpAny_bind (wpAny_mono h (fun it' s' h' => wpAny_pure (And.intro rfl h')) fun _ _ x => x)
    | some g => exact wpAny_bind (wpAny_standAt (wpAny_bind (wpAny_mono h (fun it' s' h' => wpAny_pure (And.intro rfl h')) fun _ _ x => x)))
end

abbrev TB := St → Hp → (Hp → Prop) → Prop
section
variable {X : Cx}
/-- what stands behind a clause's tests -/
def Body (X : Cx) (T : Sem PUnit) (ws : List Nat) (t : TB) : Prop := ∀ (pins : List (Addr × Obj)) (s : Shared) (σ : St) (H : Hp) (Nx : Hp → Prop), Inv X pins σ H s → t σ H Nx →
  wpAny (model X.prog X.w) X.A T (fun _ s' => ∃ H', Inv X pins (wipe σ ws) H' s' ∧ Nx H') (fun _ _ => False) s
/-- a clause within: its source, its loop -/
def Inner (X : Cx) (comp : Expr) (i : Nat) (iter : Expr) (acc : Value) (ws : List Nat) (t : TB) : Prop := ∀ (pins : List (Addr × Obj)) (s : Shared) (σ : St) (H : Hp) (Nx : Hp → Prop), Inv X pins σ H s → t σ H Nx →
  wpAny (model X.prog X.w) X.A (eval iter X.env) (fun x s1 => wpAny (model X.prog X.w) X.A (pyIter x) (fun it s2 => codeAny (model X.prog X.w) X.A (.compStart comp i it acc X.env) (fun r s' => match r with
    | .ok _ => ∃ H', Inv X pins (wipe σ ws) H' s' ∧ Nx H'
    | .error _ => False) s2) (fun _ _ => False) s1) (fun _ _ => False) s
def tbLast (te : TE) (D : Addr) : TB := fun σ H Nx => te σ H fun y H7 => ∃ acc, H7 D = some (.lst acc) ∧ acc.length < sizeLine ∧ Nx (upd H7 D (.lst (acc ++ [y])))
theorem body_last {elt : Expr} {te : TE} {D : Addr} (hx : X.xe = fun _ _ => False) (he : PE X elt te) : Body X (tLastT elt (.ref D) X.env) [] (tbLast te D) := fun pins s σ H Nx I h => by
  have h0 := he.run pins s σ H _ I h
  rw [hx] at h0
  refine wpAny_bind (wpAny_mono h0 (fun x s4 ⟨yv, H4, I4, r4, acc, hD, hz, nx⟩ => ?_) fun _ _ z => z.elim)
  exact wpAny_bind (app_ok (X := X) I4 hD hz r4 fun s5 I5 => wpAny_pure ⟨_, I5, nx⟩)
theorem body_mid {comp iter : Expr} {i : Nat} {acc : Value} {ws : List Nat} {t : TB} (hs : ∀ x, foldedSetIterable iter X.env x = pure x) (h : Inner X comp i iter acc ws t) : Body X (tMidT comp i iter acc X.env) ws t := fun pins s σ H Nx I ht => by
  refine wpAny_bind (wpAny_mono (h pins s σ H Nx I ht) (fun x s₄ h₄ => ?_) fun _ _ z => z)
  refine wpAny_bind (wpAny_standAt (wpAny_bind (wpAny_of_eq (hs x) (wpAny_bind (wpAny_holding (wpAny_mono h₄ (fun it1 s₅ h₅ => ?_) fun _ _ z => z))))))
  refine wpAny_bind (wpAny_runOwn ?_)
  rw [Around.mark_none]
  refine codeAny_mono h₅ fun r s' hr => ?_
  cases r with
  | ok f => exact wpAny_pure hr
  | error e => exact hr.elim
/-- the reading of a clause: us, its own and the inner clauses' names -/
def tbLoop (wi : TI) (g : TG) (tt : TT) (tb : TB) (us : List Nat) : TB := fun σ H Nx => wi σ H fun J H1 => ∃ W : Nat → Nat → Hp → Prop, (∃ m, W 0 m H1) ∧ ∀ j k H, W j k H →
  (J.stop j H ∧ Nx H) ∨ (J.go j H ∧ ∃ Nx1 : Hp → Prop, (∀ H', Nx1 H' → ∃ k', k' < k ∧ W (j + 1) k' H') ∧ ∀ x H', J.yld j H x H' → g x (wipe σ us) H' fun σ3 H5 => wipe σ3 us = wipe σ us ∧ tt σ3 H5 fun b H6 => if b = true then tb σ3 H6 Nx1 else Nx1 H6)
theorem inner_of {elt tg iter : Expr} {gs : List Comprehension} {scope : Scope} {pos : Pos} {ifs : List Expr} {p : Pos} {T : Sem PUnit} {i : Nat} {acc : Value} {us ws : List Nat} {wi : TI} {g : TG} {tt : TT} {tb : TB} (hx : X.xe = fun _ _ => False) (hc : X.calm = true) (ht : ∀ it, compTurn (.ListComp elt gs scope pos) i it acc X.env = turnOf tg ifs p T (.ListComp elt gs scope pos) i it acc X.env) (hcl : (gs[i]?).elim false (·.is_async != 0) = false)
    (hi : PI X tg iter wi) (hg : PG X tg g) (hts : PTs X ifs tt) (hb : Body X T ws tb) (hw : ∀ v ∈ ws, v ∈ us) : Inner X (.ListComp elt gs scope pos) i iter acc us (tbLoop wi g tt tb us) := fun pins s σ H Nx I h => by
  have h0 := hi.run pins s σ H _ I h
  rw [hx] at h0
  refine wpAny_mono h0 (fun x s1 h1 => wpAny_mono h1 (fun itv s2 h2 => ?_) fun _ _ z => z) fun _ _ z => z
  obtain ⟨it1, fp1, tn1, J1, H11, e1, I11, T1, st11, f11, W1, ⟨m1, w1⟩, turn1⟩ := h2
  subst e1
  have stat1 : ∀ {H' : Hp}, (∀ b ∈ fp1, H' b = none) → ∀ b ∈ fp1, FpOk X pins H' b := fun hn b hb => ⟨hn b hb, (f11 b hb).2⟩
  have loop1 : codeAny (model X.prog X.w) X.A (.compLoop (.ListComp elt gs scope pos) i (.ref it1) acc X.env) (fun r s' => match r with
      | .ok _ => ∃ H', Inv X pins (wipe σ us) H' s' ∧ Nx H'
      | .error _ => False) s2 := by
    refine compLoop_gen (ht _) (fun k s' => ∃ j H', Inv X pins (wipe σ us) H' s' ∧ tn1 j s'.heap ∧ (∀ b ∈ fp1, H' b = none) ∧ W1 j k H') ?_ m1 ⟨0, H11, I11.weak (wipe_length _ _) (fun j v e => (wipe_some e).1), st11, fun b hb => (f11 b hb).1, w1⟩
    rintro k s12 ⟨j, H12, I12, st12, n12, w12⟩
    rcases turn1 j k H12 w12 with ⟨stop1, nx1⟩ | ⟨go1, Nx1, hNx1, step1⟩
    · refine thnF (T1.done X rfl rfl rfl hc j _ s12 (wipe σ us) H12 (fun _ _ => False) I12 (stat1 n12) st12 stop1) fun r s13 ⟨hr, I13⟩ => ?_
      subst hr
      exact ⟨H12, I13, nx1⟩
    · refine thnF (T1.item X rfl rfl rfl hc j _ s12 (wipe σ us) H12 (fun _ _ => False) I12 (stat1 n12) st12 go1) fun r s13 ⟨u1, hr, h13⟩ => ?_
      subst hr
      refine thnF h13 fun _ s14 ⟨x1, H14, I14, r14, y14, st14, n14⟩ => ?_
      have I14' := I14.pinned (stat1 n14) (T1.obj _ _ st14)
      have a1 := hg.run _ s14 (wipe σ us) H14 x1 u1 _ I14' r14 (step1 x1 H14 y14)
      rw [hx] at a1
      refine thnF a1 fun _ s15 ⟨σ15, H15, I15, hw15, q15⟩ => ?_
      have a2 := hts.run _ s15 σ15 H15 _ I15 q15
      rw [hx] at a2
      refine thnF a2 fun b1 s16 ⟨H16, I16, q16⟩ => ?_
      have fin1 : ∀ {σ' : St} {s' : Shared} {H' : Hp}, Inv X (pins ++ pinsAt fp1 s14.heap) σ' H' s' → (wipe σ us).length = σ'.length → (∀ (l : Nat) v, (wipe σ us)[l]? = some (some v) → σ'[l]? = some (some v)) → Nx1 H' → ∃ m, m < k ∧ ∃ j H', Inv X pins (wipe σ us) H' s' ∧ tn1 j s'.heap ∧ (∀ b ∈ fp1, H' b = none) ∧ W1 j m H' := fun {σ' s' H'} I' hl hk nx => by
        obtain ⟨m', hm, w'⟩ := hNx1 H' nx
        have pin' : ∀ b ∈ fp1, ∀ o, s14.heap.get? b = some o → s'.heap.get? b = some o ∧ H' b = none := fun b hb o e =>
          let z := I'.pin (b, o) (List.mem_append_right _ (List.mem_append_right _ (mem_pinsAt hb e)))
          ⟨z.1, z.2.1⟩
        refine ⟨m', hm, j + 1, H', I'.unpinned.weak hl hk, T1.keep _ _ _ st14 fun b hb o e => (pin' b hb o e).1, fun b hb => ?_, w'⟩
        obtain ⟨o, e, _⟩ := T1.obj _ _ st14 b hb
        exact (pin' b hb o e).2
      cases b1 with
      | false =>
        simp only [Bool.false_eq_true, if_false] at q16 ⊢
        exact fin1 I16 (by rw [← hw15, wipe_length]) (fun l v e => by rw [← hw15] at e; exact (wipe_some e).1) q16
      | true =>
        simp only [if_true] at q16 ⊢
        refine thnF (hb _ s16 σ15 H16 Nx1 I16 q16) fun _ s17 ⟨H17, I17, nx⟩ => ?_
        refine fin1 I17 (by rw [← hw15, wipe_length, wipe_length]) (fun l v e => ?_) nx
        rw [← hw15] at e
        obtain ⟨e1, e2⟩ := wipe_some e
        rw [wipe_out fun z => e2 (hw l z)]
        exact e1
  exact compStart_any hcl loop1 (T1.self X.A 0 _ _ _ st11 loop1)
/-- the whole: clause 0 about a body -/
def tLcB (wi : TI) (g : TG) (tt : TT) (tb : Addr → TB) (vs : List Nat) : TE := fun σ H Q => wi σ H fun J H1 => ∀ D, H1 D = none → ∃ W : Nat → Nat → Hp → Prop, (∃ m, W 0 m (upd H1 D (.lst []))) ∧ ∀ i m H, W i m H →
  (J.stop i H ∧ Q (.ref D) H) ∨ (J.go i H ∧ ∃ Nx : Hp → Prop, (∀ H', Nx H' → ∃ m', m' < m ∧ W (i + 1) m' H') ∧ ∀ x H', J.yld i H x H' → g x (wipe σ vs) H' fun σ2 H2 => wipe σ2 vs = wipe σ vs ∧ tt σ2 H2 fun b H3 =>
    if b = true then tb D σ2 H3 Nx else Nx H3)
theorem lcB_core {pins : List (Addr × Obj)} {s : Shared} {σ : St} {H : Hp} {Q : VK} {elt tg iter : Expr} {ifs : List Expr} {gs : List Comprehension} {scope : Scope} {own : List (Str × Nat)} {ws : List Nat} {pos pos' : Pos} {wi : TI} {g : TG} {tt : TT} {tb : Addr → TB} {T : Addr → Env → Sem PUnit} {use : Option (Value → Sem Unit)} {Qf : Value → Shared → Prop}
    (hc : X.calm = true) (hN : X.N.Nodup) (I : Inv X pins σ H s) (hi : PI X tg iter wi) (ok : BlkOk X.N X.env.scope scope own) (hv : ∀ i ∈ ws, i ∈ own.map (·.2))
    (hg : ∀ (s : Shared) (H : Hp) (C : Addr) (cl : List (Str × Addr)) (fp : List Addr), PG (X.blk s H scope (compEnvC scope cl C X.env) fp) tg g) (ht : ∀ (s : Shared) (H : Hp) (C : Addr) (cl : List (Str × Addr)) (fp : List Addr), PTs (X.blk s H scope (compEnvC scope cl C X.env) fp) ifs tt)
    (he : ∀ (D : Addr) (s : Shared) (H : Hp) (C : Addr) (cl : List (Str × Addr)) (fp : List Addr), Body (X.blk s H scope (compEnvC scope cl C X.env) fp) (T D (compEnvC scope cl C X.env)) ws (tb D)) (hs : ∀ x, foldedSetIterable iter X.env x = pure x)
    (hT : ∀ it D env, compTurn (.ListComp elt (⟨tg, iter, ifs, 0⟩ :: gs) scope pos) 0 it (.ref D) env = turnOf tg ifs iter.pos (T D env) (.ListComp elt (⟨tg, iter, ifs, 0⟩ :: gs) scope pos) 0 it (.ref D) env)
    (h : tLcB wi g tt tb (own.map (·.2)) σ H Q)
    (hRR : ∀ D C s' m H', Inv X pins σ H' s' → Q (.ref D) H' → s'.heap.Ns C m → FpOk X pins H' C → compPost (model X.prog X.w) X.A X.xe use Qf (.ref D) C (.ok .next) s') :
    wpAny (model X.prog X.w) X.A (comprehension (.ListComp elt (⟨tg, iter, ifs, 0⟩ :: gs) scope pos) scope X.env pos' (newList []) false (eval iter X.env) use) Qf X.xe s := by
  have hfree : ∀ y ∈ scope.names, y.2 = .free → ∃ c, X.env.cells.lookup y.1 = some c := fun y hy e => by
    rcases ok.free y hy e with k | k
    · exact I.ok.has _ (.inl k)
    · exact I.ok.has _ (.inr k)
  refine wpAny_comprehension_free (use := use) rfl hs (closure_ok hfree) ok.kind (fun y hy e => by rw [ok.uniq y hy, e])
    (thn (hi.run pins s σ H _ I h) fun xv s1 hx => thn hx fun itv s2 h2 => ?_)
  obtain ⟨it, fp, tn, J, H2, e, I2, T0, st2, f2, q⟩ := h2
  subst e
  refine wpAny_newObj_type (newEnv_comp ?_) (by show 0 ≤ sizeLine; decide)
  generalize hD : s2.heap.objs.size = D
  have hDn : H2 D = none := I2.hok.fresh (Nat.le_of_eq hD)
  obtain ⟨W, ⟨m0, w0⟩, turn⟩ := q D hDn
  generalize hs3 : ({ s2 with heap := s2.heap.push { cls := .type "list", data := .seq ([] : List Value).toArray } } : Shared) = s3
  have I3 : Inv X pins σ (upd H2 D (.lst [])) s3 := by
    rw [← hs3]
    refine I2.laid (t' := s2.toks) (fun b o e => Heap.get?_push_of_some _ e) (Nat.le_of_eq hD) ⟨Nat.zero_le _, [], 0, .nil, ?_⟩
    rw [← hD]
    exact Heap.get?_push_size _ rfl
  have h3 : s3.heap = s2.heap.push { cls := .type "list", data := .seq ([] : List Value).toArray } := by rw [← hs3]
  have sz : ∀ b ∈ fp, b < s2.heap.objs.size := fun b hb => by
    obtain ⟨o, e, _⟩ := T0.obj _ _ st2 b hb
    exact Heap.lt_size e
  have f3 : ∀ b ∈ fp, FpOk X pins (upd H2 D (.lst [])) b ∧ b < s3.heap.objs.size := fun b hb => by
    have hlt := sz b hb
    refine ⟨⟨?_, (f2 b hb).2⟩, by rw [h3, Heap.size_push]; exact Nat.lt_succ_of_lt hlt⟩
    rw [upd_ne (by rw [← hD]; exact Nat.ne_of_lt hlt)]
    exact (f2 b hb).1
  have st3 : tn 0 s3.heap := T0.keep _ _ _ st2 fun b _ o e => by rw [h3]; exact Heap.get?_push_of_some _ e
  have I4 := block_start I3 ok hN f3
  have pg := hg s3 (upd H2 D (.lst [])) s3.heap.objs.size (cellsFrom (s3.heap.objs.size + 1) scope.names (cloFrom X.env.cells scope.names [])) fp
  have pt := ht s3 (upd H2 D (.lst [])) s3.heap.objs.size (cellsFrom (s3.heap.objs.size + 1) scope.names (cloFrom X.env.cells scope.names [])) fp
  have pe := he D s3 (upd H2 D (.lst [])) s3.heap.objs.size (cellsFrom (s3.heap.objs.size + 1) scope.names (cloFrom X.env.cells scope.names [])) fp
  show codeAny _ _ (.compStart (.ListComp elt (⟨tg, iter, ifs, 0⟩ :: gs) scope pos) 0 (.ref it) (.ref D) (compEnvC scope (cellsFrom (s3.heap.objs.size + 1) scope.names (cloFrom X.env.cells scope.names [])) s3.heap.objs.size X.env)) (compPost (model X.prog X.w) X.A X.xe use Qf (.ref D) s3.heap.objs.size) { s3 with heap := pushCells (s3.heap.push { cls := .type "dict", data := .dict #[] }) scope.names }
  have nfp : ∀ b ∈ fp, (upd H2 D (.lst [])) b = none := fun b hb => (f3 b hb).1.1
  generalize hce : compEnvC scope (cellsFrom (s3.heap.objs.size + 1) scope.names (cloFrom X.env.cells scope.names [])) s3.heap.objs.size X.env = ce at I4 pg pt pe ⊢
  have cL : ce.locals = s3.heap.objs.size := by subst hce; rfl
  generalize hH3 : upd H2 D (.lst []) = H3 at I3 I4 pg pt pe w0 nfp f3
  generalize hs4 : ({ s3 with heap := pushCells (s3.heap.push { cls := .type "dict", data := .dict #[] }) scope.names } : Shared) = s4 at I4 ⊢
  have st4 : tn 0 s4.heap := T0.keep _ _ _ st3 fun b _ o e => by rw [← hs4]; exact pushCells_keeps _ _ _ _ (Heap.get?_push_of_some _ e)
  have stat : ∀ {σ' : St} {H' : Hp} {s' : Shared}, Inv (X.blk s3 H3 scope ce fp) [] σ' H' s' → (∀ b ∈ fp, H' b = none) → ∀ b ∈ fp, FpOk (X.blk s3 H3 scope ce fp) [] H' b := fun {σ' H' s'} I' hn b hb =>
    ⟨hn b hb, (I'.ok.exf b hb).1, I'.ok.exfs b hb, .inl hb, fun x c e => (I'.ok.exf b hb).2 x c e, fun p hp => absurd (show p ∈ ([] : List (Addr × Obj)) ++ [] from hp) (by simp)⟩
  have loop : codeAny (model X.prog X.w) X.A (.compLoop (.ListComp elt (⟨tg, iter, ifs, 0⟩ :: gs) scope pos) 0 (.ref it) (.ref D) ce) (compPost (model X.prog X.w) X.A X.xe use Qf (.ref D) s3.heap.objs.size) s4 := by
    refine compLoop_gen (hT _ _ _) (fun n s' => ∃ i H', Inv (X.blk s3 H3 scope ce fp) [] (wipe σ (own.map (·.2))) H' s' ∧ tn i s'.heap ∧ (∀ b ∈ fp, H' b = none) ∧ W i n H') ?_ m0 ⟨0, H3, I4, st4, nfp, w0⟩
    rintro n s5 ⟨i, H5, I5, st5, n5, w5⟩
    rcases turn i n H5 w5 with ⟨stop, qq⟩ | ⟨go, Nx, hNx, step⟩
    · have td := T0.done (X.blk s3 H3 scope ce fp) rfl rfl rfl hc i [] s5 _ H5 (fun _ _ => False) I5 (stat I5 n5) st5 stop
      refine thnF td fun r s6 ⟨hr, I6⟩ => ?_
      subst hr
      have I7 : Inv X pins σ H5 s6 := I3.call' (ch := fp) I6.os I6.base I6.hok I6.bare fun b hb => ⟨(f3 b hb).1.2.2.2.1, (f3 b hb).1.2.1, (f3 b hb).1.2.2.2.2.1, (f3 b hb).1.2.2.2.2.2⟩
      have nC : H5 s3.heap.objs.size = none := by
        have z : H5 ce.locals = none := I6.free
        rw [cL] at z
        exact z
      obtain ⟨m, hn, _⟩ := I6.loc
      have hn : s6.heap.Ns ce.locals m := hn
      rw [cL] at hn
      exact hRR D s3.heap.objs.size s6 m H5 I7 qq hn (I3.fpOk (Nat.le_refl _) nC)
    · have ti := T0.item (X.blk s3 H3 scope ce fp) rfl rfl rfl hc i [] s5 _ H5 (fun _ _ => False) I5 (stat I5 n5) st5 go
      refine thnF ti fun r s6 ⟨u, hr, h6⟩ => ?_
      subst hr
      refine thnF h6 fun _ s7 ⟨x, H7, I7, r7, y7, st7, n7⟩ => ?_
      have I7' := I7.pinned (stat I7 n7) (T0.obj _ _ st7)
      refine thnF (pg.run _ s7 _ H7 x u _ I7' r7 (step x H7 y7)) fun _ s8 ⟨σ8, H8, I8, hw8, q8⟩ => ?_
      refine thnF (pt.run _ s8 σ8 H8 _ I8 q8) fun b s9 ⟨H9, I9, q9⟩ => ?_
      have fin : ∀ {σ9 : St} {s' : Shared} {H' : Hp}, Inv (X.blk s3 H3 scope ce fp) ([] ++ pinsAt fp s7.heap) σ9 H' s' → (wipe σ (own.map (·.2))).length = σ9.length → (∀ (j : Nat) v, (wipe σ (own.map (·.2)))[j]? = some (some v) → σ9[j]? = some (some v)) → Nx H' →
          ∃ m, m < n ∧ ∃ i H', Inv (X.blk s3 H3 scope ce fp) [] (wipe σ (own.map (·.2))) H' s' ∧ tn i s'.heap ∧ (∀ b ∈ fp, H' b = none) ∧ W i m H' := fun {σ9 s' H'} I' hl hk nx => by
        obtain ⟨m', hm, w'⟩ := hNx H' nx
        have pin' : ∀ b ∈ fp, ∀ o, s7.heap.get? b = some o → s'.heap.get? b = some o ∧ H' b = none := fun b hb o e =>
          let z := I'.pin (b, o) (List.mem_append_right _ (List.mem_append_right _ (mem_pinsAt hb e)))
          ⟨z.1, z.2.1⟩
        refine ⟨m', hm, i + 1, H', (I'.unpinned (pins := [])).weak hl hk, T0.keep _ _ _ st7 fun b hb o e => (pin' b hb o e).1, fun b hb => ?_, w'⟩
        obtain ⟨o, e, _⟩ := T0.obj _ _ st7 b hb
        exact (pin' b hb o e).2
      have hl8 : (wipe σ (own.map (·.2))).length = σ8.length := by rw [← hw8, wipe_length]
      have hk8 : ∀ (j : Nat) v, (wipe σ (own.map (·.2)))[j]? = some (some v) → σ8[j]? = some (some v) := fun j v e => by
        rw [← hw8] at e
        exact (wipe_some e).1
      have hk9 : ∀ (j : Nat) v, (wipe σ (own.map (·.2)))[j]? = some (some v) → (wipe σ8 ws)[j]? = some (some v) := fun j v e => by
        rw [← hw8] at e
        obtain ⟨e1, e2⟩ := wipe_some e
        rw [wipe_out fun z => e2 (hv j z)]
        exact e1
      cases b with
      | false =>
        simp only [Bool.false_eq_true, if_false] at q9 ⊢
        exact fin I9 hl8 hk8 q9
      | true =>
        simp only [if_true] at q9 ⊢
        have hbb := pe _ s9 σ8 H9 Nx I9 q9
        subst hce
        exact thnF hbb fun _ s10 ⟨H10, I10, nx⟩ => fin I10 (hl8.trans (wipe_length σ8 ws).symm) hk9 nx
  exact codeAny_compStart_list loop (T0.self X.A 0 _ _ _ st4 loop)
theorem pe_lcB {elt tg iter : Expr} {ifs : List Expr} {gs : List Comprehension} {scope : Scope} {own : List (Str × Nat)} {ws : List Nat} {pos : Pos} {wi : TI} {g : TG} {tt : TT} {tb : Addr → TB} {T : Addr → Env → Sem PUnit}
    (hc : X.calm = true) (hN : X.N.Nodup) (hi : PI X tg iter wi) (ok : BlkOk X.N X.env.scope scope own) (hv : ∀ i ∈ ws, i ∈ own.map (·.2))
    (hg : ∀ (s : Shared) (H : Hp) (C : Addr) (cl : List (Str × Addr)) (fp : List Addr), PG (X.blk s H scope (compEnvC scope cl C X.env) fp) tg g) (ht : ∀ (s : Shared) (H : Hp) (C : Addr) (cl : List (Str × Addr)) (fp : List Addr), PTs (X.blk s H scope (compEnvC scope cl C X.env) fp) ifs tt)
    (he : ∀ (D : Addr) (s : Shared) (H : Hp) (C : Addr) (cl : List (Str × Addr)) (fp : List Addr), Body (X.blk s H scope (compEnvC scope cl C X.env) fp) (T D (compEnvC scope cl C X.env)) ws (tb D))
    (hT : ∀ it D env, compTurn (.ListComp elt (⟨tg, iter, ifs, 0⟩ :: gs) scope pos) 0 it (.ref D) env = turnOf tg ifs iter.pos (T D env) (.ListComp elt (⟨tg, iter, ifs, 0⟩ :: gs) scope pos) 0 it (.ref D) env)
    (hev : ∀ (env : Env), eval (.ListComp elt (⟨tg, iter, ifs, 0⟩ :: gs) scope pos) env = comprehension (.ListComp elt (⟨tg, iter, ifs, 0⟩ :: gs) scope pos) scope env (firstIterPos (⟨tg, iter, ifs, 0⟩ :: gs) pos) (newList []) false (eval iter env) none := by intro _; rfl)
    (hs : ∀ x, foldedSetIterable iter X.env x = pure x := by intro _; rfl) :
    PE X (.ListComp elt (⟨tg, iter, ifs, 0⟩ :: gs) scope pos) (tLcB wi g tt tb (own.map (·.2))) := by
  refine ⟨fun pins s σ H Q I h => ?_⟩
  rw [hev]
  refine lcB_core hc hN I hi ok hv hg ht he hs hT h fun D C s' m H' I' q hn f => ⟨m, hn, fun h'' sb => ?_⟩
  obtain ⟨f0, f1, f2, f3, f4, f5⟩ := f
  exact ⟨.ref D, H', I'.turned (t' := s'.toks) (fun b o hb e => (sb.2 b hb).trans e) f0 f1 f3 f4 f5, rfl, q⟩
end
section
variable {elt t0 t1 t2 t3 i0 i1 i2 i3 : Expr} {f0 f1 f2 f3 : List Expr} {scope : Scope} {pos : Pos} {it acc : Value} {env : Env}
theorem turn4_0 : compTurn (.ListComp elt [⟨t0, i0, f0, 0⟩, ⟨t1, i1, f1, 0⟩, ⟨t2, i2, f2, 0⟩, ⟨t3, i3, f3, 0⟩] scope pos) 0 it acc env = turnOf t0 f0 i0.pos (tMidT (.ListComp elt [⟨t0, i0, f0, 0⟩, ⟨t1, i1, f1, 0⟩, ⟨t2, i2, f2, 0⟩, ⟨t3, i3, f3, 0⟩] scope pos) 1 i1 acc env) (.ListComp elt [⟨t0, i0, f0, 0⟩, ⟨t1, i1, f1, 0⟩, ⟨t2, i2, f2, 0⟩, ⟨t3, i3, f3, 0⟩] scope pos) 0 it acc env := by
  unfold turnOf tMidT
  simp only [bind_assoc, pure_bind]
  rfl
theorem turn4_1 : compTurn (.ListComp elt [⟨t0, i0, f0, 0⟩, ⟨t1, i1, f1, 0⟩, ⟨t2, i2, f2, 0⟩, ⟨t3, i3, f3, 0⟩] scope pos) 1 it acc env = turnOf t1 f1 i1.pos (tMidT (.ListComp elt [⟨t0, i0, f0, 0⟩, ⟨t1, i1, f1, 0⟩, ⟨t2, i2, f2, 0⟩, ⟨t3, i3, f3, 0⟩] scope pos) 2 i2 acc env) (.ListComp elt [⟨t0, i0, f0, 0⟩, ⟨t1, i1, f1, 0⟩, ⟨t2, i2, f2, 0⟩, ⟨t3, i3, f3, 0⟩] scope pos) 1 it acc env := by
  unfold turnOf tMidT
  simp only [bind_assoc, pure_bind]
  rfl
theorem turn4_2 : compTurn (.ListComp elt [⟨t0, i0, f0, 0⟩, ⟨t1, i1, f1, 0⟩, ⟨t2, i2, f2, 0⟩, ⟨t3, i3, f3, 0⟩] scope pos) 2 it acc env = turnOf t2 f2 i2.pos (tMidT (.ListComp elt [⟨t0, i0, f0, 0⟩, ⟨t1, i1, f1, 0⟩, ⟨t2, i2, f2, 0⟩, ⟨t3, i3, f3, 0⟩] scope pos) 3 i3 acc env) (.ListComp elt [⟨t0, i0, f0, 0⟩, ⟨t1, i1, f1, 0⟩, ⟨t2, i2, f2, 0⟩, ⟨t3, i3, f3, 0⟩] scope pos) 2 it acc env := by
  unfold turnOf tMidT
  simp only [bind_assoc, pure_bind]
  rfl
theorem turn4_3 : compTurn (.ListComp elt [⟨t0, i0, f0, 0⟩, ⟨t1, i1, f1, 0⟩, ⟨t2, i2, f2, 0⟩, ⟨t3, i3, f3, 0⟩] scope pos) 3 it acc env = turnOf t3 f3 i3.pos (tLastT elt acc env) (.ListComp elt [⟨t0, i0, f0, 0⟩, ⟨t1, i1, f1, 0⟩, ⟨t2, i2, f2, 0⟩, ⟨t3, i3, f3, 0⟩] scope pos) 3 it acc env := rfl
end
end L2
end

section
set_option Elab.async false
set_option linter.all false
set_option maxRecDepth 100000
set_option maxHeartbeats 1000000
/-! comprehensions of many clauses, on data -/
namespace L2
open PySem PySem.Spec PyProof.Rows
theorem loopB_it {J : It} {n : Nat} {G : Hp → Prop} {Y : Nat → Hp → V → Hp → Prop} (w : Walk J n G Y) {g : TG} {tt : TT} {tb : TB} {vs : List Nat} {σ : St} {H1 : Hp} {Qd : Hp → Prop} (Pv : Nat → Hp → Prop) (h0 : Pv 0 H1) (hG : ∀ i H, i ≤ n → Pv i H → G H)
    (hs : ∀ i x H H', i < n → Pv i H → Y i H x H' → g x (wipe σ vs) H' fun σ2 H2 => wipe σ2 vs = wipe σ vs ∧ tt σ2 H2 fun b H3 =>
      if b = true then tb σ2 H3 (Pv (i + 1)) else Pv (i + 1) H3) (hd : ∀ H, Pv n H → Qd H) :
    ∃ W : Nat → Nat → Hp → Prop, (∃ m, W 0 m H1) ∧ ∀ i m H, W i m H →
      (J.stop i H ∧ Qd H) ∨ (J.go i H ∧ ∃ Nx : Hp → Prop, (∀ H', Nx H' → ∃ m', m' < m ∧ W (i + 1) m' H') ∧ ∀ x H', J.yld i H x H' → g x (wipe σ vs) H' fun σ2 H2 => wipe σ2 vs = wipe σ vs ∧ tt σ2 H2 fun b H3 =>
        if b = true then tb σ2 H3 Nx else Nx H3) := by
  refine ⟨fun i m H => m = n - i ∧ i ≤ n ∧ Pv i H, ⟨n, by simp, Nat.zero_le _, h0⟩, ?_⟩
  rintro i m H ⟨rfl, hi, p⟩
  have q := hG i H hi p
  by_cases hlt : i < n
  · refine .inr ⟨w.goes i H hlt q, Pv (i + 1), fun H' p' => ⟨n - (i + 1), by omega, rfl, hlt, p'⟩, fun x H' y => hs i x H H' hlt p (w.yields i H x H' hlt q y)⟩
  · have e : i = n := by omega
    subst e
    exact .inl ⟨w.stops H q, hd H p⟩
end L2
namespace G3
open PySem PySem.Spec PyProof.Rows L2 LamX NdefX
def contIn (δ : AS) (U : List Nat) : Bool := (List.range δ.length).all fun i => match δ[i]? with
  | some (some s) => !s.cont || U.contains i
  | _ => true
theorem contIn_at {δ : AS} {U : List Nat} (h : contIn δ U = true) {i : Nat} {s : Sl} (e : δ[i]? = some (some s)) (c : s.cont = true) : i ∈ U := by
  have hi : i < δ.length := by
    by_cases hl : i < δ.length
    · exact hl
    · rw [List.getElem?_eq_none (by simpa using hl)] at e; cases e
  have := List.all_eq_true.mp h i (List.mem_range.mpr hi)
  rw [e] at this
  simpa [c] using this
section
variable {K : PySem.W.Frag} {T : List NTab} {H0 H H' : Hp} {σ : L2.St} {δ : AS} {te ta tb tc : TE} {tt tu : TT} {d e : Dat} {s : Sl} {b c : Bool} {k : Kon}
/-- a list that no slot holds has grown -/
theorem Rel.grewBy {D : Addr} {U : List Nat} {xs ys : List V} (r : Rel K T H0 H σ δ) (n0 : H0 D = none) (hU : ∀ i ∈ U, σ[i]? ≠ some (some (.ref D))) (hD : H D = some (.lst xs)) (g : Gr (hide D H) H') (t : TabsN T H') (hD' : H' D = some (.lst ys)) (hc : noScr δ = true) (hn : contIn δ U = true) :
    Rel K T H0 H' σ δ := by
  have r1 : Rel K T H0 (upd H D (.lst ys)) σ δ := by
    refine ⟨⟨fun b w e n => ?_, fun b e => ?_⟩, TabsN.lstUpd r.tabs hD (fun _ z => nomatch z) (fun _ z => nomatch z), r.len, fun j sj e => ?_, r.ap⟩
    · rw [upd_ne (fun z => by rw [z, n0] at e; cases e)]
      exact r.ext.e b w e n
    · by_cases hb : b = D
      · rw [hb, upd_same] at e; cases e
      · rw [upd_ne hb] at e; exact r.ext.n b e
    · obtain ⟨v, h1, h2⟩ := r.ok j sj e
      refine ⟨v, h1, h2.wr hD (.inl ⟨_, rfl⟩) (fun c z => ?_) (fun _ _ _ _ => True.intro) fun ns z => ?_⟩
      · rw [z] at h1
        exact hU j (contIn_at hn e c) h1
      · rw [z] at e
        exact (noScr_at hc e).elim
  refine r1.grow ⟨fun b o e n => ?_, fun b e => ?_⟩ t
  · by_cases hb : b = D
    · rw [hb, upd_same] at e; cases e; rw [hb]; exact hD'
    · rw [upd_ne hb] at e
      exact g.e b o (by rw [hide_ne hb]; exact e) n
  · by_cases hb : b = D
    · rw [hb, hD'] at e; cases e
    · rw [upd_ne hb]
      have := g.n b e
      rw [hide_ne hb] at this
      exact this
theorem hide_stab {D : Addr} {xs : List V} (hD : H D = some (.lst xs)) (g : Gr (hide D H) H') : Stab H H' := by
  have ne : ∀ {b : Addr} {u : HO}, H b = some u → (∀ xs, u ≠ .lst xs) → hide D H b = some u := fun {b u} e n => by
    rw [hide_ne fun z => by rw [z, hD] at e; exact n xs (Option.some.inj e).symm]
    exact e
  exact ⟨fun a xs h => g.e a _ (ne h fun _ z => nomatch z) (fun _ z => nomatch z), fun a xs h => g.e a _ (ne h fun _ z => nomatch z) (fun _ z => nomatch z), fun a C dx gs h => g.e a _ (ne h fun _ z => nomatch z) (fun _ z => nomatch z), fun a ψ h => g.e a _ (ne h fun _ z => nomatch z) (fun _ z => nomatch z), fun a o y h => g.e a _ (ne h fun _ z => nomatch z) (fun _ z => nomatch z)⟩
theorem Gr.hideT {D : Addr} {H1 H2 H3 : Hp} (a : Gr (G3.hide D H1) H2) (b : Gr (G3.hide D H2) H3) : Gr (G3.hide D H1) H3 := by
  refine ⟨fun c o e n => ?_, fun c e => ?_⟩
  · have hc : c ≠ D := fun z => by rw [z, hide_same] at e; cases e
    exact b.e c o (by rw [hide_ne hc]; exact a.e c o e n) n
  · by_cases hc : c = D
    · rw [hc, hide_same]
    · refine a.n c ?_
      have := b.n c e
      rw [hide_ne hc] at this
      exact this
/-- the body of a clause appends out to D -/
def EvB (K : PySem.W.Frag) (T : List NTab) (t : TB) (D : Addr) (U : List Nat) (δ : AS) (out : List Dat) : Prop := ∀ H0 H σ acc, Rel K T H0 H σ δ → H0 D = none → (∀ i ∈ U, σ[i]? ≠ some (some (.ref D))) → H D = some (.lst acc) → acc.length + out.length ≤ 100000 →
  ∀ Nx : Hp → Prop, (∀ H' ys, Gr (hide D H) H' → TabsN T H' → H' D = some (.lst (acc ++ ys)) → Rps H' out ys → Nx H') → t σ H Nx
/-- the source of an inner clause -/
def EvIB (K : PySem.W.Frag) (T : List NTab) (D : Addr) (U : List Nat) (wi : TI) (δ : AS) (items : List Dat) : Prop := ∀ H0 H σ acc, Rel K T H0 H σ δ → (∀ i ∈ U, σ[i]? ≠ some (some (.ref D))) → H D = some (.lst acc) → ∀ R : It → Hp → Prop,
  (∀ (J : It) (H' : Hp) (A : Option Addr) (G : Hp → Prop) (Y : Nat → Hp → V → Hp → Prop), Gr H H' → TabsN T H' → Walk J items.length G Y → (∀ a, A = some a → (∃ u, H' a = some u ∧ ∀ ps, u ≠ .tbl ps) ∧ a ≠ D) →
    (∀ Hx, Stab H' Hx → (∀ a, A = some a → Hx a = H' a) → G Hx ∧ ∀ i x Hx', i < items.length → TabsN T Hx → Y i Hx x Hx' → Gr Hx Hx' ∧ TabsN T Hx' ∧ ∃ d, items[i]? = some d ∧ Rp Hx' d x) → R J H') → wi σ H R
theorem eib_tup {D : Addr} {U : List Nat} {ds : List Dat} (h : Ev K T te δ (.sh (.tup ds))) : EvIB K T D U (iTup K te) δ ds := fun H0 H σ acc r _ _ R q =>
  h H0 H σ r _ fun v H1 g1 t1 o1 => by
    obtain ⟨a, xs, rfl, h2, h3⟩ := o1
    refine ⟨a, rfl, ⟨xs, SqT.of h2⟩, ?_⟩
    have w := walk_tup (K := K) (a := a) (xs := xs)
    rw [h3.length] at w
    refine q _ H1 none _ _ g1 t1 w (fun _ z => nomatch z) fun Hx st _ => ⟨SqT.of (st.t _ _ h2), fun i x Hx' _ tx y => ?_⟩
    obtain ⟨rfl, e⟩ := y
    obtain ⟨d, e2, hd⟩ := h3.get e
    exact ⟨Gr.refl _, tx, d, e2, Rp.mono st d hd⟩
theorem eib_var {D : Addr} {U : List Nat} {i : Nat} {ds : List Dat} (h : δ[i]? = some (some (.lst ds))) (hi : i ∈ U) : EvIB K T D U (iList K (tVar i)) δ ds := fun H0 H σ acc r hU _ R q => by
  obtain ⟨v, h1, a, xs, rfl, h2, h3⟩ := r.ok i _ h
  obtain ⟨w, p⟩ := list_walk (K := K) (T := T) h2 h3
  exact ⟨_, h1, a, rfl, ⟨xs, SqL.of h2⟩, q _ H (some a) _ _ (Gr.refl H) r.tabs w (fun b z => by cases z; exact ⟨⟨_, h2, fun _ z => nomatch z⟩, fun z => hU i hi (by rw [h1, z])⟩) p⟩
theorem eb_last {D : Addr} {U : List Nat} (h : Ev K T te δ (.sh d)) : EvB K T (tbLast te D) D U δ [d] := fun H0 H σ acc r n0 hU hD hl Nx q => by
  refine h H0 H σ r _ fun y H' g tb hy => ?_
  have hD' : H' D = some (.lst acc) := g.lst hD
  have st : Stab H' (upd H' D (.lst (acc ++ [y]))) := (show Wr (.lst acc) from .inl ⟨_, rfl⟩).stab hD'
  refine ⟨acc, hD', szl (by simp at hl; omega), q _ [y] ⟨fun b u e n => ?_, fun b e => ?_⟩ (TabsN.lstUpd tb hD' (fun _ z => nomatch z) (fun _ z => nomatch z)) upd_same (Rps.one (Rp.mono st _ hy))⟩
  · have hb : b ≠ D := fun z => by rw [z, hide_same] at e; cases e
    rw [upd_ne hb]
    rw [hide_ne hb] at e
    exact g.e b u e n
  · by_cases hb : b = D
    · rw [hb, hide_same]
    · rw [upd_ne hb] at e
      rw [hide_ne hb]
      exact g.n b e
theorem flat_take {α β : Type} (f : Nat → α → List β) (l : List α) (i : Nat) (d : α) (e : l[i]? = some d) : ((l.take (i + 1)).mapIdx f).flatten = ((l.take i).mapIdx f).flatten ++ f i d := by
  rw [List.take_succ, e]
  have hlen : (l.take i).length = i := by
    have : i < l.length := (List.getElem?_eq_some_iff.mp e).1
    rw [List.length_take]; omega
  simp [List.mapIdx_append, hlen]
theorem flat_take_len {α β : Type} (f : Nat → α → List β) (l : List α) (i : Nat) : (((l.take i).mapIdx f).flatten).length ≤ ((l.mapIdx f).flatten).length := by
  have e : l = l.take i ++ l.drop i := (List.take_append_drop i l).symm
  have : (l.mapIdx f).flatten = ((l.take i).mapIdx f).flatten ++ ((l.drop i).mapIdx fun j => f (j + (l.take i).length)).flatten := by
    conv => lhs; rw [e]
    rw [List.mapIdx_append, List.flatten_append]
  rw [this, List.length_append]
  omega
theorem eb_loop {D : Addr} {U : List Nat} {wi : TI} {g : TG} {tb : TB} {vs : List Nat} {items : List Dat} (f : Nat → Dat → List Dat) (hi : EvIB K T D U wi δ items) (hv : ∀ i ∈ U, i ∉ vs)
    (hs : ∀ i d, items[i]? = some d → ∃ δ2 is b, Tgt K T g d (wipeA δ vs) δ2 is ∧ (∀ i ∈ is, i ∈ vs) ∧ EvT K T tt δ2 b ∧ (b = true → EvB K T tb D U δ2 (f i d)) ∧ (b = false → f i d = [])) (hc : noScr δ = true := by rfl) (hn : contIn δ U = true := by rfl) :
    EvB K T (tbLoop wi g tt tb vs) D U δ ((items.mapIdx f).flatten) := fun H0 H σ acc r n0 hU hD hl Nx q => by
  refine hi H0 H σ acc r hU hD _ fun J H1 A G Y g1 t1 w hA hG => ?_
  have r1 := r.grow g1 t1
  have hD1 : H1 D = some (.lst acc) := g1.lst hD
  have keepA : ∀ Hx, Gr (hide D H1) Hx → G Hx ∧ ∀ i x Hx', i < items.length → TabsN T Hx → Y i Hx x Hx' → Gr Hx Hx' ∧ TabsN T Hx' ∧ ∃ d, items[i]? = some d ∧ Rp Hx' d x := fun Hx gx =>
    hG Hx (hide_stab hD1 gx) fun a ea => by
      obtain ⟨⟨u, hu, nu⟩, na⟩ := hA a ea
      rw [hu]
      exact gx.e a u (by rw [hide_ne na]; exact hu) nu
  refine loopB_it w (fun i Hx => Gr (hide D H1) Hx ∧ TabsN T Hx ∧ ∃ ys, Hx D = some (.lst (acc ++ ys)) ∧ Rps Hx (((items.take i).mapIdx f).flatten) ys) ⟨Gr.hide, t1, [], by rw [List.append_nil]; exact hD1, rfl⟩ (fun i Hx _ ⟨gx, _, _⟩ => (keepA Hx gx).1) (fun i x Hx Hx' hlt ⟨gx, tx, ys, hDx, hys⟩ y => ?_) fun Hx ⟨gx, tx, ys, hDx, hys⟩ => ?_
  · obtain ⟨g2, t2, d, e, hd⟩ := (keepA Hx gx).2 i x Hx' hlt tx y
    obtain ⟨δ2, is, b, tg, his, hb, hy, hnn⟩ := hs i d e
    have hD2 : Hx' D = some (.lst (acc ++ ys)) := g2.lst hDx
    have gh : Gr (hide D Hx) Hx' := ⟨fun b o e n => by
        have hb : b ≠ D := fun z => by rw [z, hide_same] at e; cases e
        rw [hide_ne hb] at e
        exact g2.e b o e n, fun b e => by
        by_cases hb : b = D
        · rw [hb, hide_same]
        · rw [hide_ne hb]; exact g2.n b e⟩
    have rx : Rel K T H0 Hx' σ δ := r1.grewBy n0 hU hD1 (gx.hideT gh) t2 hD2 hc hn
    have rw1 : Rel K T H0 Hx' (wipe σ vs) (wipeA δ vs) := rx.wipe vs
    have tk := flat_take f items i d e
    refine tg H0 Hx' _ x rw1 hd _ fun σ2 r2 wp => ?_
    have wpe : wipe σ2 vs = wipe σ vs := by rw [wp vs his]; exact wipe_wipe σ vs vs fun _ h => h
    refine ⟨wpe, ?_⟩
    have hU2 : ∀ i ∈ U, σ2[i]? ≠ some (some (.ref D)) := fun i hiU z => by
      have h1 : (wipe σ2 vs)[i]? = σ2[i]? := wipe_out (hv i hiU)
      have h2 : (wipe σ vs)[i]? = σ[i]? := wipe_out (hv i hiU)
      rw [← h1, wpe, h2] at z
      exact hU i hiU z
    refine hb H0 Hx' σ2 r2 _ fun H3 g3 t3 => ?_
    have hD3 : H3 D = some (.lst (acc ++ ys)) := g3.lst hD2
    have gh3 : Gr (hide D Hx') H3 := ⟨fun b o e n => by
        have hb : b ≠ D := fun z => by rw [z, hide_same] at e; cases e
        rw [hide_ne hb] at e
        exact g3.e b o e n, fun b e => by
        by_cases hb : b = D
        · rw [hb, hide_same]
        · rw [hide_ne hb]; exact g3.n b e⟩
    cases b with
    | false =>
      refine ⟨(gx.hideT gh).hideT gh3, t3, ys, hD3, ?_⟩
      rw [tk, hnn rfl, List.append_nil]
      exact Rps.mono g3.stab _ (Rps.mono g2.stab _ hys)
    | true =>
      have hlen : (acc ++ ys).length + (f i d).length ≤ 100000 := by
        have h1 := hys.length
        have h2 := flat_take_len f items (i + 1)
        rw [tk, List.length_append] at h2
        rw [List.length_append, h1]
        omega
      refine hy rfl H0 H3 σ2 (acc ++ ys) (r2.grow g3 t3) n0 hU2 hD3 hlen _ fun H4 zs g4 t4 hD4 hzs => ?_
      refine ⟨((gx.hideT gh).hideT gh3).hideT g4, t4, ys ++ zs, by rw [hD4, List.append_assoc], ?_⟩
      rw [tk]
      exact Rps.app (Rps.mono (hide_stab hD3 g4) _ (Rps.mono g3.stab _ (Rps.mono g2.stab _ hys))) hzs
  · have gx' : Gr (hide D H) Hx := ⟨fun b o e n => by
        have hb : b ≠ D := fun z => by rw [z, hide_same] at e; cases e
        rw [hide_ne hb] at e
        by_cases hn' : ∃ ps, o = .tbl ps
        · obtain ⟨ps, rfl⟩ := hn'; exact absurd rfl (n ps)
        · exact gx.e b o (by rw [hide_ne hb]; exact g1.e b o e n) n, fun b e => by
        by_cases hb : b = D
        · rw [hb, hide_same]
        · have := gx.n b e
          rw [hide_ne hb] at this ⊢
          exact g1.n b this⟩
    refine q Hx ys gx' tx hDx ?_
    rw [List.take_length] at hys
    exact hys
theorem ev_lcB {wi : TI} {g : TG} {tb : Addr → TB} {vs : List Nat} {items : List Dat} (U : List Nat) (f : Nat → Dat → List Dat) (hi : EvI K T wi δ items) (hl : ((items.mapIdx f).flatten).length ≤ 100000) (hv : ∀ i ∈ U, i ∉ vs)
    (hs : ∀ D i d, items[i]? = some d → ∃ δ2 is b, Tgt K T g d (wipeA δ vs) δ2 is ∧ (∀ i ∈ is, i ∈ vs) ∧ EvT K T tt δ2 b ∧ (b = true → EvB K T (tb D) D U δ2 (f i d)) ∧ (b = false → f i d = [])) (hc : noScr δ = true := by rfl) (hn : contIn δ U = true := by rfl) (hU' : ∀ i ∈ U, ∃ s, δ[i]? = some (some s) ∧ s.cont = true) :
    Ev K T (tLcB wi g tt tb vs) δ (.own ((items.mapIdx f).flatten)) := fun H0 H σ r Q q => by
  refine hi H0 H σ r _ fun J H1 A G Y g1 t1 w hA hG => ?_
  intro D nD
  have r0 := r.grow g1 t1
  have n0 : H0 D = none := r0.ext.n D nD
  have hU : ∀ i ∈ U, σ[i]? ≠ some (some (.ref D)) := fun i hi z => by
    obtain ⟨s, h1, h2⟩ := hU' i hi
    obtain ⟨v, h3, h4⟩ := r0.ok i s h1
    rw [z] at h3; cases h3
    exact h4.there h2 nD
  have gD : Gr H1 (upd H1 D (.lst [])) := .new nD
  have gen : ∀ Hx, Gr (hide D (upd H1 D (.lst []))) Hx → Gr H1 Hx := fun Hx gx => ⟨fun b o e n => gx.e b o (by
      have hb : b ≠ D := fun z => by rw [z, nD] at e; cases e
      rw [hide_ne hb, upd_ne hb]; exact e) n, fun b e => by
      by_cases hb : b = D
      · rw [hb]; exact nD
      · have := gx.n b e
        rw [hide_ne hb, upd_ne hb] at this
        exact this⟩
  have keepA : ∀ Hx, Gr H1 Hx → G Hx ∧ ∀ i x Hx', i < items.length → TabsN T Hx → Y i Hx x Hx' → Gr Hx Hx' ∧ TabsN T Hx' ∧ ∃ d, items[i]? = some d ∧ Rp Hx' d x := fun Hx gx =>
    hG Hx gx.stab fun a ea => by
      obtain ⟨⟨u, hu, nu⟩, _⟩ := hA a ea
      rw [hu]
      exact gx.e a u hu nu
  have hD1 : (upd H1 D (.lst [])) D = some (.lst []) := upd_same
  refine loopB_it w (fun i Hx => Gr (hide D (upd H1 D (.lst []))) Hx ∧ TabsN T Hx ∧ ∃ ys, Hx D = some (.lst ys) ∧ Rps Hx (((items.take i).mapIdx f).flatten) ys) ⟨Gr.hide, TabsN.new t1 nD, [], hD1, rfl⟩ (fun i Hx _ ⟨gx, _, _⟩ => (keepA Hx (gen Hx gx)).1) (fun i x Hx Hx' hlt ⟨gx, tx, ys, hDx, hys⟩ y => ?_) fun Hx ⟨gx, tx, ys, hDx, hys⟩ => ?_
  · obtain ⟨g2, t2, d, e, hd⟩ := (keepA Hx (gen Hx gx)).2 i x Hx' hlt tx y
    obtain ⟨δ2, is, b, tg, his, hb, hy, hnn⟩ := hs D i d e
    have hD2 : Hx' D = some (.lst ys) := g2.lst hDx
    have hh : ∀ {H1 H2 : Hp}, Gr H1 H2 → Gr (hide D H1) H2 := fun {H1 H2} g => Gr.hide.trans g
    have rx : Rel K T H0 Hx' σ δ := (r0.grow gD (TabsN.new t1 nD)).grewBy n0 hU hD1 (gx.hideT (hh g2)) t2 hD2 hc hn
    have rw1 : Rel K T H0 Hx' (wipe σ vs) (wipeA δ vs) := rx.wipe vs
    have tk := flat_take f items i d e
    refine tg H0 Hx' _ x rw1 hd _ fun σ2 r2 wp => ?_
    have wpe : wipe σ2 vs = wipe σ vs := by rw [wp vs his]; exact wipe_wipe σ vs vs fun _ h => h
    refine ⟨wpe, ?_⟩
    have hU2 : ∀ i ∈ U, σ2[i]? ≠ some (some (.ref D)) := fun i hiU z => by
      have h1 : (wipe σ2 vs)[i]? = σ2[i]? := wipe_out (hv i hiU)
      have h2 : (wipe σ vs)[i]? = σ[i]? := wipe_out (hv i hiU)
      rw [← h1, wpe, h2] at z
      exact hU i hiU z
    refine hb H0 Hx' σ2 r2 _ fun H3 g3 t3 => ?_
    have hD3 : H3 D = some (.lst ys) := g3.lst hD2
    cases b with
    | false =>
      refine ⟨(gx.hideT (hh g2)).hideT (hh g3), t3, ys, hD3, ?_⟩
      rw [tk, hnn rfl, List.append_nil]
      exact Rps.mono g3.stab _ (Rps.mono g2.stab _ hys)
    | true =>
      have hlen : ys.length + (f i d).length ≤ 100000 := by
        have h1 := hys.length
        have h2 := flat_take_len f items (i + 1)
        rw [tk, List.length_append] at h2
        rw [h1]
        omega
      refine hy rfl H0 H3 σ2 ys (r2.grow g3 t3) n0 hU2 hD3 hlen _ fun H4 zs g4 t4 hD4 hzs => ?_
      refine ⟨((gx.hideT (hh g2)).hideT (hh g3)).hideT g4, t4, ys ++ zs, hD4, ?_⟩
      rw [tk]
      exact Rps.app (Rps.mono (hide_stab hD3 g4) _ (Rps.mono g3.stab _ (Rps.mono g2.stab _ hys))) hzs
  · refine q _ Hx (g1.trans (gen Hx gx)) tx ⟨D, ys, rfl, hDx, ?_, g1.n _ nD⟩
    rw [List.take_length] at hys
    exact hys
end
end G3
end

section
set_option Elab.async false
set_option linter.all false
set_option maxRecDepth 100000
set_option maxHeartbeats 1000000
/-! a lambda of captured names, handed to a def -/
namespace G3
open PySem PySem.Spec PyProof.Rows L2 LamX NdefX
structure LF where
  qual : Str
  params : Arguments
  body : Expr
  scope : Scope
  cl : List (Str × Addr)
  c : Addr
abbrev LF.nf (F : LF) : NF := ⟨"<lambda>", F.qual, F.params, [], F.scope, F.cl, F.c⟩
/-- the object at f is the lambda F -/
def LamO (f : Addr) (F : LF) : HO := .ext fun h => ∃ pm ctv : Value, h.get? f = some (PySem.W.kla_obj "<lambda>" F.qual F.params F.body F.scope F.cl pm F.c ctv)
/-- the very object o stands at c -/
def CelO (c : Addr) (o : Obj) : HO := .frz o (.own c)
section
variable {P : Program} {w : World} {K : PySem.W.Frag} {mg : Str → Option Value} {base : Heap} {T : List NTab} {A : Around} {outer : List Env} {s s' : Shared} {H H' : Hp} {c f : Addr} {o : Obj}
theorem lamO_at {F : LF} {h : Heap} (hok : HOk P w H h) (e : H f = some (LamO f F)) : ∃ pm ctv : Value, h.get? f = some (PySem.W.kla_obj "<lambda>" F.qual F.params F.body F.scope F.cl pm F.c ctv) := by
  obtain ⟨z, _, _⟩ := hok f _ e
  exact z
theorem celO_at {h : Heap} (hok : HOk P w H h) (e : H c = some (CelO c o)) : h.get? c = some o := (hok c _ e).1
theorem tabs_hide (t : TabsN T H) (e : H c = some (CelO c o)) : TabsN T (hide c H) := fun p hp => by
  obtain ⟨ps, h1, h2, h3⟩ := t p hp
  have n1 : p.1 ≠ c := fun z => by rw [z, e] at h1; cases h1
  refine ⟨ps, by rw [hide_ne n1]; exact h1, h2, fun pos cv hc => ?_⟩
  obtain ⟨k, e1, e2⟩ := h3 pos cv hc
  have n2 : k ≠ c := fun z => by rw [z, e] at e2; cases e2
  exact ⟨k, e1, by rw [hide_ne n2]; exact e2⟩
theorem hok_hide {h : Heap} (hok : HOk P w H h) (e : H c = some (CelO c o)) : HOk P w (hide c H) h := fun b u q => by
  have hb : b ≠ c := fun z => by rw [z, hide_same] at q; cases q
  rw [hide_ne hb] at q
  refine (hok b u q).stay (fun _ _ _ z => z) (fun d z => ?_) fun d xs z => ?_
  · rw [hide_ne fun k => by rw [k, e] at z; cases z]; exact z
  · rw [hide_ne fun k => by rw [k, e] at z; cases z]; exact z
theorem hok_track {h : Heap} (hok : HOk P w H h) (n : H c = none) (e : h.get? c = some o) : HOk P w (upd H c (CelO c o)) h := fun b u q => by
  by_cases hb : b = c
  · rw [hb, upd_same] at q; cases q; rw [hb]; exact ⟨e, o, e⟩
  · rw [upd_ne hb] at q
    refine (hok b u q).stay (fun _ _ _ z => z) (fun d z => ?_) fun d xs z => ?_
    · rw [upd_ne fun k => by rw [k, n] at z; cases z]; exact z
    · rw [upd_ne fun k => by rw [k, n] at z; cases z]; exact z
/-- ahead of the call the cell is tracked -/
theorem env_track (e0 : Env0 P w K mg base A outer s H) (n : H c = none) (e : s.heap.get? c = some o) (nb : base.get? c = none) (nf : c ∉ frs outer) : Env0 P w K mg base A outer s (upd H c (CelO c o)) :=
  ⟨e0.frames, e0.mod, fun b u q => ⟨(e0.bs b u q).1, by rw [upd_ne (fun z => by rw [z, nb] at q; cases q)]; exact (e0.bs b u q).2⟩, e0.bsz, e0.funs, fun b hb => by rw [upd_ne (fun z : b = c => nf (by rw [← z]; exact hb))]; exact e0.frf b hb, hok_track e0.hok n e, e0.bare⟩
theorem env_hide (e0 : Env0 P w K mg base A outer s H) (e : H c = some (CelO c o)) : Env0 P w K mg base A outer s (hide c H) :=
  ⟨e0.frames, e0.mod, fun b u q => ⟨(e0.bs b u q).1, Gr.hide.n b (e0.bs b u q).2⟩, e0.bsz, e0.funs, fun b hb => Gr.hide.n b (e0.frf b hb), hok_hide e0.hok e, e0.bare⟩
theorem ce_untrack {Q : VK} {u : Value} (n : H c = none) (e : s.heap.get? c = some o) (nf : c ∉ frs outer) (h : CE outer P w (upd H c (CelO c o)) s (fun v H' => Q v (hide c H')) u s') : CE outer P w H s Q u s' := by
  obtain ⟨v, H', os, bare, un, hok, r, q⟩ := h
  have e' : H' c = some (CelO c o) := un.frzs c o _ upd_same
  have ne : ∀ {b : Addr} {u : HO}, H b = some u → b ≠ c := fun q z => by rw [z, n] at q; cases q
  have nu : ∀ {b : Addr}, b ≠ c → H b = none → upd H c (CelO c o) b = none := fun z q => by rw [upd_ne z]; exact q
  refine ⟨v, hide c H', os, bare, ⟨fun b ob q1 q2 q3 q4 => ?_, fun b ob q1 q2 q3 q4 => ?_, fun b ob q1 q2 q4 => ?_, un.there, fun b xs q => ?_, fun b ob u q => ?_, fun b ps q => ?_⟩, hok_hide hok e', r, q⟩
  · by_cases hb : b = c
    · rw [hb] at q1 ⊢
      rw [e] at q1; cases q1
      exact celO_at hok e'
    · exact un.keep b ob q1 (nu hb q2) q3 q4
  · exact un.slot b ob q1 (nu (fun z : b = c => nf (by rw [← z]; exact q3)) q2) q3 q4
  · by_cases hb : b = c
    · rw [hb]; exact hide_same
    · rw [hide_ne hb]; exact un.free b ob q1 (nu hb q2) q4
  · have hb := ne q
    rw [hide_ne hb]; exact un.tups b xs (by rw [upd_ne hb]; exact q)
  · have hb := ne q
    rw [hide_ne hb]; exact un.frzs b ob u (by rw [upd_ne hb]; exact q)
  · have hb := ne q
    rw [hide_ne hb]; exact un.tbls b ps (by rw [upd_ne hb]; exact q)
theorem ce_retrack {Q : VK} {u : Value} (e : H c = some (CelO c o)) (eh : s.heap.get? c = some o) (nf : c ∉ frs outer) (h : CE outer P w (hide c H) s (fun v H' => H' c = none → Q v (upd H' c (CelO c o))) u s') : CE outer P w H s Q u s' := by
  obtain ⟨v, H', os, bare, un, hok, r, q⟩ := h
  have e' : H' c = none := un.free c o eh hide_same (by simp)
  have k' : s'.heap.get? c = some o := un.keep c o eh hide_same nf (by simp)
  have ne : ∀ {b : Addr} {u : HO}, H b = some u → (u ≠ CelO c o) → b ≠ c := fun q d z => by rw [z, e] at q; exact d (Option.some.inj q).symm
  refine ⟨v, upd H' c (CelO c o), os, bare, ⟨fun b ob q1 q2 q3 q4 => un.keep b ob q1 (Gr.hide.n b q2) q3 q4, fun b ob q1 q2 q3 q4 => un.slot b ob q1 (Gr.hide.n b q2) q3 q4, fun b ob q1 q2 q4 => ?_, un.there, fun b xs q => ?_, fun b ob u q => ?_, fun b ps q => ?_⟩, hok_track hok e' k', r, q e'⟩
  · have hb : b ≠ c := fun z => by rw [z, e] at q2; cases q2
    rw [upd_ne hb]; exact un.free b ob q1 (Gr.hide.n b q2) q4
  · have hb := ne q (fun z => by cases z)
    rw [upd_ne hb]; exact un.tups b xs (by rw [hide_ne hb]; exact q)
  · by_cases hb : b = c
    · rw [hb, e] at q; rw [hb, upd_same]; exact q
    · rw [upd_ne hb]; exact un.frzs b ob u (by rw [hide_ne hb]; exact q)
  · have hb := ne q (fun z => by cases z)
    rw [upd_ne hb]; exact un.tbls b ps (by rw [hide_ne hb]; exact q)
/-- the lambda's body is run -/
theorem lam_run {CX : CXT} {N ps fr : List Str} {F : LF} {k : Nat} {us : List Value} {vs : List V} {ws : List (Option V)} {Q : VK} {E : XK} (S : NScope N ps fr F.scope)
    (hb : ∀ (pm ctv : Value) (us : List Value), us.length = ps.length → bindArgs (PySem.W.kla_fn "<lambda>" F.qual F.params F.body F.scope F.cl pm (.ref F.c) ctv) ⟨us, []⟩ = pure (ps.zip us))
    (hr : Room (k + 1) A) (e0 : Env0 P w K mg base A outer s H) (hf : H f = some (LamO f F)) (hc : H F.c = some (CodeO F.c F.qual)) (C : CellsAt F.cl fr ws s.heap H) (r : Vals vs us) (hl : vs.length = ps.length)
    (hbody : Room k (A.deeper (envF F.nf f s.heap.objs.size)) → ∃ te, PE (ncx CX P w K mg base N F.nf f A outer s H E) F.body te ∧ te (startF N vs ws) H Q) :
    codeAny (model P w) A (.call (.ref f) ⟨us, []⟩) (CR CX outer P w H s Q E) s := by
  have lim : s.heap.NoLimit := e0.mod.nolimit.keeps fun b o e => (e0.bs b o e).1
  obtain ⟨pm, ctv, ho⟩ := lamO_at e0.hok hf
  refine PySem.W.kla_callFunE hr.depth ho rfl S.co S.gen rfl (codeO_at e0.hok hc) ?_
  rw [hb pm ctv us (by rw [← r.length]; exact hl)]
  refine wpAny_pure (wpAny_newFunctionEnv S.nocell (fun ⟨n, _⟩ hy => S.par n (List.of_mem_zip hy).1) (fun h₁ hns hsb => ⟨lim.fresh _ hsb, ?_⟩) S.kind)
  show codeAny _ _ (.expr F.body (envF F.nf f s.heap.objs.size)) _ _
  have kp : ∀ b o, s.heap.get? b = some o → h₁.get? b = some o := fun b o e => hsb.extBut b o (Nat.ne_of_lt (Heap.lt_size e)) (Heap.get?_push_of_some _ e)
  obtain ⟨te, ht, hq⟩ := hbody (hr.deeper _)
  have I : Inv (ncx CX P w K mg base N F.nf f A outer s H E) [] (startF N vs ws) H { s with heap := h₁, toks := s.toks + (ps.zip us).length } := inv_startN (F := F.nf) S hr.hd e0 hl r C hns kp
  refine PySem.W.kla_codeExpr (wpAny_mono (ht.run [] _ (startF N vs ws) H _ I hq) (fun u s' hs => ?_) fun e s' hs => hs)
  obtain ⟨v, H', J, rv, q⟩ := hs
  exact ⟨v, H', J.os, J.bare, J.base, J.hok, rv, q⟩
end
/-! ### the making -/
section
variable {X : Cx} {pins : List (Addr × Obj)} {σ : L2.St} {H : Hp} {s : Shared}
theorem inv_lam {F : LF} {t' : Nat} {pm ctv : Value} (I : Inv X pins σ H s) :
    Inv X pins σ (upd H s.heap.objs.size (LamO s.heap.objs.size F)) { s with heap := s.heap.push (PySem.W.kla_obj "<lambda>" F.qual F.params F.body F.scope F.cl pm F.c ctv), toks := t' } := by
  refine I.laid (a := s.heap.objs.size) (fun b u e => Heap.get?_push_of_some _ e) (Nat.le_refl _) ?_
  have e : (s.heap.push (PySem.W.kla_obj "<lambda>" F.qual F.params F.body F.scope F.cl pm F.c ctv)).get? s.heap.objs.size = some (PySem.W.kla_obj "<lambda>" F.qual F.params F.body F.scope F.cl pm F.c ctv) := Heap.get?_push_size _ rfl
  exact ⟨⟨pm, ctv, e⟩, ⟨_, e⟩, fun h1 h2 ⟨p, t, z⟩ st => ⟨p, t, st _ z⟩⟩
theorem lam_make {T : List NTab} {nm : Nat → Nat → Str} {c P : Addr} {params : Arguments} {body : Expr} {scope : Scope} {pos : Pos} {E : Value → Shared → Prop} {Q : Value → Shared → Prop} (I : Inv X pins σ H s) (TB : TabB X.base X.mg c P) (hcode : X.env.code = .ref c)
    (hm : (P, nm) ∈ T) (hn : nm pos.line pos.col = X.env.qual ++ "<lambda>") (hu : ∀ p ∈ T, p.1 = P → p.2 = nm) (hT : TabsN T H) (hdef : defaultsOf params X.env = ([], [])) (hfree : ∀ y ∈ scope.names, y.2 = .free → ∃ c, X.env.cells.lookup y.1 = some c)
    (h : ∀ (f c' : Addr) (H1 : Hp) (s' : Shared), Inv X pins σ H1 s' → Gr H H1 → TabsN T H1 → H1 f = some (LamO f ⟨X.env.qual ++ "<lambda>", params, body, scope, cloFrom X.env.cells scope.names [], c'⟩) → H1 c' = some (CodeO c' (X.env.qual ++ "<lambda>")) → Q (.ref f) s') :
    wpAny (model X.prog X.w) X.A (eval (.Lambda params body scope pos) X.env) Q E s := by
  obtain ⟨ps, hP, ht, ha⟩ := (show TabN H P nm from hT _ hm)
  refine PySem.W.kla_eval hdef ?_
  have bP : s.heap.BuiltinsAt X.mg P := TB.bm.keeps I.bk
  have hP' : s.heap.get? P = some { cls := .none, data := .fields ps } := I.hok P _ hP
  cases hc : codeAmong pos ps.toList with
  | none =>
    refine PySem.W.kla_makeFunction (mg := X.mg) (c := c) (P := P) (ps := ps) (closure_ok hfree) I.ok.glob (I.mod.glob.keeps I.bk) hcode (TB.code.keeps I.bk) hP' ht hc TB.gP bP fun c' ctv h' tk hx hge hlt hrec htb => ?_
    obtain ⟨c2, oc, vs, t, e2, hoc, hd, hv⟩ := hrec
    cases e2
    have nC : H c' = none := I.hok.fresh hge
    have I1 := inv_table (t' := tk) (more := #[rawInt pos.line, rawInt pos.col, .ref c']) (h' := h') I hP (fun b o hb e => hx b o hb e) htb hge ⟨oc, vs, t, hoc, hd, hv⟩
    have hE : ExtN H (upd (upd H P (.tbl (ps ++ #[rawInt pos.line, rawInt pos.col, .ref c']))) c' (CodeO c' (X.env.qual ++ "<lambda>"))) := fun b o e n => by
      rw [upd_ne (ne_of_none e nC), upd_ne (fun z => n ps (Option.some.inj (e.symm.trans (by rw [z]; exact hP))))]
      exact e
    have eL : (ps ++ #[rawInt pos.line, rawInt pos.col, .ref c']).toList = ps.toList ++ [rawInt pos.line, rawInt pos.col, .ref c'] := by simp
    have T1 : TabsN T (upd (upd H P (.tbl (ps ++ #[rawInt pos.line, rawInt pos.col, .ref c']))) c' (CodeO c' (X.env.qual ++ "<lambda>"))) := fun p hp => by
      by_cases hb : p.1 = P
      · rw [hu p hp hb, hb]
        refine ⟨_, by rw [upd_ne (ne_of_none hP nC), upd_same], by rw [eL]; exact PySem.TriplesOk_snoc _ _ _ _ ht, fun p' cv hcv => ?_⟩
        rw [eL] at hcv
        rcases among_app2 _ ht hcv with z | ⟨z, z1, z2⟩
        · obtain ⟨c0, e1, e2⟩ := ha p' cv z
          exact ⟨c0, e1, hE _ _ e2 codeO_ne⟩
        · refine ⟨c', z, ?_⟩
          rw [← z1, ← z2, hn]
          exact upd_same
      · obtain ⟨ps', a1, a2, a3⟩ := hT p hp
        refine ⟨ps', by rw [upd_ne (ne_of_none a1 nC), upd_ne hb]; exact a1, a2, fun p' cv hcv => ?_⟩
        obtain ⟨c0, e1, e2⟩ := a3 p' cv hcv
        exact ⟨c0, e1, hE _ _ e2 codeO_ne⟩
    have nF := I1.hok.fresh (Nat.le_refl _)
    have I2 := inv_lam (F := ⟨X.env.qual ++ "<lambda>", params, body, scope, cloFrom X.env.cells scope.names [], c'⟩) (t' := tk) (pm := (X.mg "__name__").getD .none) (ctv := ctv) I1
    refine h h'.objs.size c' _ _ I2 ⟨fun b o e n => ?_, fun b e => upd_none (upd_none (upd_none e))⟩ (T1.ext fun b o e => ?_) upd_same ?_
    · have e1 := hE b o e n
      exact (upd_ne (ne_of_none e1 nF)).trans e1
    · exact (upd_ne (ne_of_none e nF)).trans e
    · exact (upd_ne (Nat.ne_of_lt hlt)).trans upd_same
  | some cv =>
    obtain ⟨c', e, hco⟩ := ha pos cv hc
    subst e
    rw [hn] at hco
    refine PySem.W.kla_makeFunctionHit (mg := X.mg) (c := c) (P := P) (ps := ps) (closure_ok hfree) I.ok.glob (I.mod.glob.keeps I.bk) hcode (TB.code.keeps I.bk) hP' ht hc bP fun ctv h' tk hx hsz => ?_
    have I1 : Inv X pins σ H { s with heap := h', toks := tk } := I.kept hx
    have nF : H h'.objs.size = none := I1.hok.fresh (Nat.le_refl _)
    have I2 := inv_lam (F := ⟨X.env.qual ++ "<lambda>", params, body, scope, cloFrom X.env.cells scope.names [], c'⟩) (t' := tk) (pm := (X.mg "__name__").getD .none) (ctv := ctv) I1
    exact h h'.objs.size c' _ _ I2 (Gr.new nF) (TabsN.new hT nF) upd_same ((upd_ne (ne_of_none hco nF)).trans hco)
def tLamE (T : List NTab) (F : Addr → LF) : TE := fun _ H Q => TabsN T H ∧ ∀ (f c' : Addr) (H1 : Hp), Gr H H1 → TabsN T H1 → H1 f = some (LamO f (F c')) → H1 c' = some (CodeO c' (F c').qual) → Q (.ref f) H1
theorem pe_lamE {T : List NTab} {nm : Nat → Nat → Str} {c P : Addr} {params : Arguments} {body : Expr} {scope : Scope} {pos : Pos} (TB : TabB X.base X.mg c P) (hcode : X.env.code = .ref c)
    (hm : (P, nm) ∈ T) (hn : nm pos.line pos.col = X.env.qual ++ "<lambda>") (hu : ∀ p ∈ T, p.1 = P → p.2 = nm) (hdef : defaultsOf params X.env = ([], [])) (hfree : ∀ y ∈ scope.names, y.2 = .free → X.env.scope.names.lookup y.1 = some .cell ∨ X.env.scope.names.lookup y.1 = some .free) :
    PE X (.Lambda params body scope pos) (tLamE T fun c' => ⟨X.env.qual ++ "<lambda>", params, body, scope, cloFrom X.env.cells scope.names [], c'⟩) := by
  refine ⟨fun pins s σ H Q I h => ?_⟩
  have hfr : ∀ y ∈ scope.names, y.2 = .free → ∃ c, X.env.cells.lookup y.1 = some c := fun y hy e => (hfree y hy e).elim (fun z => I.ok.has _ (.inl z)) fun z => I.ok.has _ (.inr z)
  exact lam_make I TB hcode hm hn hu h.1 hdef hfr fun f c' H1 s' I1 g t1 hf hc => ⟨.ref f, H1, I1, rfl, h.2 f c' H1 g t1 hf hc⟩
/-! ### a call that takes the cell along -/
def tCallC (j : Nat) (c : Addr) (sp : Sp) (t : TA) : TE := fun σ H Q => ∃ v, σ[j]? = some (some v) ∧ t σ H fun vs H1 => ∀ (o : Obj) (u : Value), H1 c = none → RelV v u → o.data = .cell (some u) → sp vs (upd H1 c (CelO c o)) (fun v H' => Q v (hide c H')) (fun _ _ _ => False)
theorem pe_callC {k j : Nat} {f c : Addr} {fd : FuncData} {ps : List Str} {sp : Sp} {x y : Str} {e : Expr} {es : List Expr} {p pos : Pos} {t : TA} (F : FnOk X.prog X.w X.K X.mg X.base CX0 k f fd ps sp) (hr : Room k X.A) (hg : Gl X x) (hm : X.mg x = some (.ref f)) (hk : PySem.W.keepIn X.K (.ref f) = true) (hb : Binds X.K fd ps [])
    (hN : X.N[j]? = some y) (hcell : X.env.scope.names.lookup y = some .cell) (hy : X.env.cells.lookup y = some c) (hfn : X.fn y = true) (ha : PA X (e :: es) t)
    (hdb : (x == ("__debug__" : Str)) = false := by decide) (he : starEach (e :: es) X.env = (false, eval e X.env) :: starEach es X.env := by rfl) (hpl : (backTo pos (starEach es X.env)).any (·.1) = false := by rfl) :
    PE X (.Call (.Name x p) (e :: es) [] pos) (tCallC j c sp t) := by
  refine ⟨fun pins s σ H Q I h => ?_⟩
  obtain ⟨v, hv, h⟩ := h
  refine wpAny_Call_Name_kw (ld_glob I hg hm ?_ hdb)
  refine PySem.W.callWith_K (h₀ := X.base) I.ok.mod.kin hk (thn (ha.run pos pins s σ H _ I h) fun us s1 ⟨vs, H1, I1, r, q⟩ => ⟨I1.kIn, ?_⟩) he hpl
  obtain ⟨m, hn, hl⟩ := I1.loc
  obtain ⟨u, ru, l⟩ := hl j y v hN hv (.inr (.inl hcell))
  have hc : s1.heap.IsCell c (some u) := by
    rcases l with ⟨z, _⟩ | ⟨_, a', ha', hcl⟩
    · have z' : X.env.scope.names.lookup y = some .local := z
      rw [hcell] at z'; cases z'
    · rw [hy] at ha'; cases ha'; exact hcl
  obtain ⟨o, ho, hd⟩ := hc
  have n0 := I1.freeC y c hy
  have ge := I1.ok.cab y c hfn hy
  have nb : X.base.get? c = none := Heap.get?_none_of_le (Nat.le_trans I1.ok.bsz ge)
  have nf : c ∉ frs X.stack := fun z => by
    rcases List.mem_cons.mp (I1.stkSub c z) with e | e
    · exact I1.cne y c hy e
    · obtain ⟨_, o', ho', _⟩ := I1.ok.funs.mem e
      exact Nat.lt_irrefl _ (Nat.lt_of_lt_of_le (Heap.lt_size ho') ge)
  have e0 := env_track I1.env0 n0 ho nb nf
  have hsp := q o u n0 ru hd
  have hlen : us.length = ps.length := by rw [← r.length]; exact F.len _ _ _ _ hsp
  refine wpAny_call (codeAny_mono (F.run X.A X.stack s1 (upd H1 c (CelO c o)) ⟨us, []⟩ us vs _ _ hr e0 (by simpa using hb s1 us I1.kIn (by simpa using hlen)) r hsp) fun r s' hq => ?_)
  cases r with
  | error e => exact (show False from hq).elim
  | ok fl =>
    cases fl with
    | ret u => exact I1.after (ce_untrack n0 ho nf hq)
    | next => exact False.elim hq
    | brk => exact False.elim hq
    | cont => exact False.elim hq
end
/-! ### calls of a name that holds a function by its promise -/
structure VRun (P : Program) (w : World) (K : PySem.W.Frag) (mg : Str → Option Value) (base : Heap) (T : List NTab) (k : Nat) (φ : Hp → V → Prop) (R : List Sl → Sl → Prop) : Prop where
  fn : ∀ H h v, HOk P w H h → φ H v → ∃ f, v = .ref f ∧ PySem.W.FnAt f h
  run : ∀ (A : Around) (outer : List Env) (s : Shared) (H : Hp) (f : Addr) (us : List Value) (vs : List V) (Q : VK), Room k A → Env0 P w K mg base A outer s H → φ H (.ref f) → Vals vs us → spR K T R vs H Q (fun _ _ _ => False) →
    codeAny (model P w) A (.call (.ref f) ⟨us, []⟩) (CR CX0 outer P w H s Q (fun _ _ _ => False)) s
def tCallV (i : Nat) (φ : Hp → V → Prop) (sp : Sp) (t : TA) : TE := fun σ H Q => ∃ v, σ[i]? = some (some v) ∧ φ H v ∧ t σ H fun vs H1 => φ H1 v ∧ sp vs H1 Q (fun _ _ _ => False)
section
variable {X : Cx} {T : List NTab} {φ : Hp → V → Prop} {R : List Sl → Sl → Prop} {k i : Nat} {x : Str} {e : Expr} {es : List Expr} {p pos : Pos} {t : TA}
theorem pe_callV (F : VRun X.prog X.w X.K X.mg X.base T k φ R) (hr : Room k X.A) (hN : X.N[i]? = some x) (hv : Vis X.env.scope x) (ha : PA X (e :: es) t)
    (hdb : (x == ("__debug__" : Str)) = false := by decide) (hcd : (x == ("__classdict__" : Str)) = false := by decide)
    (he : starEach (e :: es) X.env = (false, eval e X.env) :: starEach es X.env := by rfl) (hpl : (backTo pos (starEach es X.env)).any (·.1) = false := by rfl) : PE X (.Call (.Name x p) (e :: es) [] pos) (tCallV i φ (spR X.K T R) t) := by
  refine ⟨fun pins s σ H Q I h => ?_⟩
  obtain ⟨v, hs, hφ, ht⟩ := h
  obtain ⟨f, rfl, hf⟩ := F.fn H s.heap v I.hok hφ
  refine wpAny_Call_Name_kw (thn ((pe_var (pos := p) hN hv hdb hcd).run pins s σ H (fun v H1 => v = .ref f ∧ H1 = H) I ⟨.ref f, hs, rfl, rfl⟩) fun u s1 ⟨v, H1, I1, r1, q1⟩ => ?_)
  obtain ⟨ev, eH⟩ := q1
  subst ev
  rw [eH] at I1
  obtain rfl : u = Value.ref f := r1
  have hf1 : PySem.W.FnAt f s1.heap := by
    obtain ⟨f', e', h'⟩ := F.fn H s1.heap _ I1.hok hφ
    cases e'; exact h'
  refine PySem.W.callWith_F (first := []) hf1 (thn (ha.run pos pins s1 σ H _ I1 ht) fun us s2 ⟨vs, H2, I2, r, h1, q⟩ => ⟨?_, ?_⟩) he hpl
  · obtain ⟨f', e', h'⟩ := F.fn H2 s2.heap _ I2.hok h1
    cases e'; exact h'
  · show wpAny _ _ (call (.ref f) us) _ _ _
    refine wpAny_call (codeAny_mono (F.run X.A X.stack s2 H2 f us vs Q hr I2.env0 h1 r q) fun r s' hq => ?_)
    cases r with
    | error e => exact (show False from hq).elim
    | ok fl =>
      cases fl with
      | ret u => exact I2.after hq
      | next => exact False.elim hq
      | brk => exact False.elim hq
      | cont => exact False.elim hq
end
theorem kCallV {X : Cx} {T : List NTab} {φ : Hp → V → Prop} {R : List Sl → Sl → Prop} {k i : Nat} {x : Str} {e : Expr} {es : List Expr} {p pos : Pos} {t : TA} (K : PySem.W.Frag) (F : VRun X.prog X.w K X.mg X.base T k φ R) (hr : Room k X.A) (hN : X.N[i]? = some x) (hv : Vis X.env.scope x) (ha : PA X (e :: es) t) (hK : X.K = K := by rfl)
    (hdb : (x == ("__debug__" : Str)) = false := by decide) (hcd : (x == ("__classdict__" : Str)) = false := by decide)
    (he : starEach (e :: es) X.env = (false, eval e X.env) :: starEach es X.env := by rfl) (hpl : (backTo pos (starEach es X.env)).any (·.1) = false := by rfl) : PE X (.Call (.Name x p) (e :: es) [] pos) (tCallV i φ (spR K T R) t) := by
  subst hK
  exact pe_callV F hr hN hv ha hdb hcd he hpl
section
variable {K : PySem.W.Frag} {T : List NTab} {H0 H H' : Hp} {σ : L2.St} {δ : AS} {te ta tb tc : TE} {d e : Dat} {s : Sl} {b : Bool} {i : Nat}
theorem ev_fn {φ : Hp → V → Prop} (h : δ[i]? = some (some (.fn φ))) : Ev K T (tVar i) δ (.fn φ) := ev_var h rfl
theorem ev_callV {φ : Hp → V → Prop} {R : List Sl → Sl → Prop} {t : TA} {ss : List Sl} (hi : δ[i]? = some (some (.fn φ))) (h : EvA K T t δ ss) (r : R ss s) (a : ss.all Sl.isArg = true := by rfl) : Ev K T (tCallV i φ (spR K T R) t) δ s := fun H0 H σ rl Q q => by
  obtain ⟨v, h1, h2, h3⟩ := rl.ok i _ hi
  refine ⟨v, h1, h2, h H0 H σ rl _ fun vs H1 g1 t1 o1 => ⟨h3 _ _ _ g1.stab h2, ss, s, r, args_here o1 a, t1, fun v H2 g2 t2 o2 => q v H2 (g1.trans g2) t2 (o2.base g1.n)⟩⟩
end
end G3
end

section
set_option Elab.async false
set_option linter.all false
set_option maxRecDepth 100000
set_option maxHeartbeats 2000000
/-! list(zip(a, b)) of two tuples -/
namespace RZ
open PySem
open PySem.Sem (wp)
/-- the zip object, its last pair not let go -/
def ZipN (h : Heap) (z TI TO : Addr) : Prop := ∃ (f0 f1 : Value), h.get? z = some { cls := .type "zip", dict := none, data := .fields #[f0, f1, .bool false, .ref TI, .ref TO], slots := #[] } ∧
  ((f0 = .none ∧ f1 = .bool false) ∨ ∃ (a : Addr) (o : Obj), f0 = rawInt a ∧ h.get? a = some o)
section
variable {prog : Program} {w : World} {A : Around} {E : Value → Shared → Prop} {s : Shared}
theorem wpAny_loadIfAlive {a : Addr} {Q : Option Obj → Shared → Prop} (h : Q (s.heap.get? a) s) : wpAny (model prog w) A (loadIfAlive a) Q E s := fun _ _ _ => h
theorem pyNext_zipN_item {z TI TO i1 i2 l1 l2 : Addr} {k1 k2 : Nat} {xs ys : Array Value} {x y : Value} {f1 : Value} {m : Addr} {om : Obj} {Q : Option Value → Shared → Prop} (D : ZipApart z TI TO i1 i2 l1 l2)
    (hz : s.heap.get? z = some { cls := .type "zip", dict := none, data := .fields #[rawInt m, f1, .bool false, .ref TI, .ref TO], slots := #[] }) (hm : s.heap.get? m = some om) (hTI : IsPair s.heap TI (.ref i1) (.ref i2))
    (h1 : s.heap.IsTupleIter i1 l1 k1) (h2 : s.heap.IsTupleIter i2 l2 k2) (hl1 : s.heap.IsTuple l1 xs) (hl2 : s.heap.IsTuple l2 ys) (hx : xs[k1]? = some x) (hy : ys[k2]? = some y)
    (hQ : ∀ h', (∃ f1', h'.get? z = some { cls := .type "zip", dict := none, data := .fields #[rawInt m, f1', .bool false, .ref TI, .ref TO], slots := #[] }) → h'.IsTupleIter i1 l1 (k1 + 1) → h'.IsTupleIter i2 l2 (k2 + 1) → IsPair h' s.heap.objs.size x y → h'.objs.size = s.heap.objs.size + 1 →
      (∀ c o, c ≠ z → c ≠ i1 → c ≠ i2 → s.heap.get? c = some o → h'.get? c = some o) → Q (some (.ref s.heap.objs.size)) { s with heap := h' }) :
    wpAny (model prog w) A (pyNext (.ref z)) Q E s := by
  have hT : s.TypeIs (.ref z) "zip" := ⟨_, hz, rfl⟩
  unfold pyNext
  refine wpAny_bind (wpAny_attempt (wpAny_callSpecial?_slot (name := Str.ofString "__next__") hT F.slot_zip_next
    (wpAny_call_entry F.slot_zip_next hT F.entry_zip_next ?_ (F.args_zip_next_1 _))))
  show wpAny _ _ (field (.ref z) 2 >>= _) _ _ _
  refine wpAny_bind (wpAny_field hz rfl (x := .bool false) rfl ?_)
  show wpAny _ _ (field (.ref z) 3 >>= _) _ _ _
  refine wpAny_bind (wpAny_field hz rfl (x := .ref TI) rfl ?_)
  refine wpAny_bind (wpAny_seqItems hTI rfl ?_)
  show wpAny _ _ (Builtin.SmallTypes.ownedTupleIsFree (.ref z) >>= _) _ _ _
  have free : ∀ (A' : Around) (E' : Value → Shared → Prop), wpAny (model prog w) A' (Builtin.SmallTypes.ownedTupleIsFree (.ref z)) (fun b s' => ∃ h₀, b = false ∧ s' = { s with heap := h₀ } ∧ (∃ f1', h₀.get? z = some { cls := .type "zip", dict := none, data := .fields #[rawInt m, f1', .bool false, .ref TI, .ref TO], slots := #[] }) ∧ Heap.SameBut z s.heap h₀) E' s := fun A' E' => by
    unfold Builtin.SmallTypes.ownedTupleIsFree
    refine wpAny_bind (wpAny_field hz rfl (x := rawInt m) rfl ?_)
    show wpAny _ _ (loadIfAlive ((m : Int).toNat) >>= _) _ _ _
    refine wpAny_bind (wpAny_loadIfAlive ?_)
    rw [show ((m : Int).toNat) = m from Int.toNat_natCast m, hm]
    show wpAny _ _ (field (.ref z) 1 >>= _) _ _ _
    refine wpAny_bind (wpAny_field hz rfl (x := f1) rfl ?_)
    by_cases hf : (f1 != Value.bool true) = true
    · rw [if_pos hf]
      refine wpAny_bind (wpAny_setField_rec hz (by simp) fun h₁ hz₁ hs₁ => wpAny_pure ⟨h₁, rfl, rfl, ⟨_, hz₁⟩, hs₁⟩)
    · rw [if_neg hf]
      exact wpAny_bind (wpAny_pure (wpAny_pure ⟨s.heap, rfl, rfl, ⟨_, hz⟩, Heap.SameBut.refl _ _⟩))
  refine wpAny_bind (wpAny_mono (free _ _) (fun b s' ⟨h₀, hb, hs, ⟨f1', hz0⟩, sb⟩ => ?_) fun _ _ e => e)
  subst hb hs
  simp only [Bool.false_eq_true, if_false]
  rw [← Array.forIn_toList]
  simp only [List.forIn_cons, List.forIn_nil]
  refine wpAny_bind (wpAny_bind (wpAny_bind (wpAny_holding ?_)))
  show wpAny _ _ (Builtin.SmallTypes.nextOf (.ref i1) >>= _) _ _ _
  refine wpAny_bind (nextOf_tuple_item (h1.extBut sb.extBut D.i1z) (hl1.extBut sb.extBut D.l1z) hx fun h₂ h1₂ hs₂ => wpAny_pure (wpAny_pure ?_))
  refine wpAny_bind (wpAny_bind (wpAny_holding ?_))
  show wpAny _ _ (Builtin.SmallTypes.nextOf (.ref i2) >>= _) _ _ _
  refine wpAny_bind (nextOf_tuple_item ((h2.extBut sb.extBut D.i2z).extBut hs₂.extBut D.i12.symm) ((hl2.extBut sb.extBut D.l2z).extBut hs₂.extBut D.l2i1) hy fun h₃ h2₃ hs₃ => wpAny_pure (wpAny_pure (wpAny_pure ?_)))
  show wpAny _ _ (newTuple [x, y] >>= _) _ _ _
  refine wpAny_bind (wpAny_newTuple ?_)
  have hsz : h₃.objs.size = s.heap.objs.size := by rw [hs₃.1, hs₂.1, sb.1]
  have h1₃ : h₃.IsTupleIter i1 l1 (k1 + 1) := h1₂.extBut hs₃.extBut D.i12
  have hz₃ : h₃.get? z = some { cls := .type "zip", dict := none, data := .fields #[rawInt m, f1', .bool false, .ref TI, .ref TO], slots := #[] } := hs₃.extBut _ _ D.i2z.symm (hs₂.extBut _ _ D.i1z.symm hz0)
  refine wpAny_pure ⟨_, rfl, wpAny_pure ?_⟩
  show Q (some (.ref h₃.objs.size)) _
  have hT3 : IsPair (h₃.push { cls := .type "tuple", data := .seq #[x, y] }) h₃.objs.size x y := Heap.get?_push_size _ rfl
  have hz8 : (h₃.push { cls := .type "tuple", data := .seq #[x, y] }).objs.size = h₃.objs.size + 1 := Heap.size_push ..
  rw [hsz] at hT3 hz8 ⊢
  exact hQ _ ⟨f1', Heap.get?_push_of_some _ hz₃⟩ (h1₃.at fun o e => Heap.get?_push_of_some _ e) (h2₃.at fun o e => Heap.get?_push_of_some _ e) hT3 hz8 fun c o c1 c2 c3 e => Heap.get?_push_of_some _ (hs₃.extBut _ _ c3 (hs₂.extBut _ _ c2 (sb.extBut _ _ c1 e)))
theorem pyNext_zipN_end {z TI TO i1 i2 l1 l2 : Addr} {k1 k2 : Nat} {xs ys : Array Value} {f1 : Value} {m : Addr} {om : Obj} {Q : Option Value → Shared → Prop} (hh : A.handled = none) (D : ZipApart z TI TO i1 i2 l1 l2)
    (hz : s.heap.get? z = some { cls := .type "zip", dict := none, data := .fields #[rawInt m, f1, .bool false, .ref TI, .ref TO], slots := #[] }) (hm : s.heap.get? m = some om) (hTI : IsPair s.heap TI (.ref i1) (.ref i2))
    (h1 : s.heap.IsTupleIter i1 l1 k1) (hl1 : s.heap.IsTuple l1 xs) (hx : xs[k1]? = none)
    (hQ : ∀ h', (∀ c o, c ≠ z → c ≠ i1 → c ≠ i2 → s.heap.get? c = some o → h'.get? c = some o) → Q none { s with heap := h' }) :
    wpAny (model prog w) A (pyNext (.ref z)) Q E s := by
  have hT : s.TypeIs (.ref z) "zip" := ⟨_, hz, rfl⟩
  unfold pyNext
  refine wpAny_bind (wpAny_attempt (wpAny_callSpecial?_slot (name := Str.ofString "__next__") hT F.slot_zip_next
    (wpAny_call_entry F.slot_zip_next hT F.entry_zip_next ?_ (F.args_zip_next_1 _))))
  show wpAny _ _ (field (.ref z) 2 >>= _) _ _ _
  refine wpAny_bind (wpAny_field hz rfl (x := .bool false) rfl ?_)
  show wpAny _ _ (field (.ref z) 3 >>= _) _ _ _
  refine wpAny_bind (wpAny_field hz rfl (x := .ref TI) rfl ?_)
  refine wpAny_bind (wpAny_seqItems hTI rfl ?_)
  show wpAny _ _ (Builtin.SmallTypes.ownedTupleIsFree (.ref z) >>= _) _ _ _
  have free : ∀ (A' : Around) (E' : Value → Shared → Prop), wpAny (model prog w) A' (Builtin.SmallTypes.ownedTupleIsFree (.ref z)) (fun b s' => ∃ h₀, b = false ∧ s' = { s with heap := h₀ } ∧ Heap.SameBut z s.heap h₀) E' s := fun A' E' => by
    unfold Builtin.SmallTypes.ownedTupleIsFree
    refine wpAny_bind (wpAny_field hz rfl (x := rawInt m) rfl ?_)
    show wpAny _ _ (loadIfAlive ((m : Int).toNat) >>= _) _ _ _
    refine wpAny_bind (wpAny_loadIfAlive ?_)
    rw [show ((m : Int).toNat) = m from Int.toNat_natCast m, hm]
    show wpAny _ _ (field (.ref z) 1 >>= _) _ _ _
    refine wpAny_bind (wpAny_field hz rfl (x := f1) rfl ?_)
    by_cases hf : (f1 != Value.bool true) = true
    · rw [if_pos hf]
      refine wpAny_bind (wpAny_setField_rec hz (by simp) fun h₁ hz₁ hs₁ => wpAny_pure ⟨h₁, rfl, rfl, hs₁⟩)
    · rw [if_neg hf]
      exact wpAny_bind (wpAny_pure (wpAny_pure ⟨s.heap, rfl, rfl, Heap.SameBut.refl _ _⟩))
  refine wpAny_bind (wpAny_mono (free _ _) (fun b s' ⟨h₀, hb, hs, sb⟩ => ?_) fun _ _ e => e)
  subst hb hs
  simp only [Bool.false_eq_true, if_false]
  rw [← Array.forIn_toList]
  simp only [List.forIn_cons, List.forIn_nil]
  refine wpAny_bind (wpAny_bind (wpAny_bind (wpAny_holding ?_)))
  show wpAny _ _ (Builtin.SmallTypes.nextOf (.ref i1) >>= _) _ _ _
  refine wpAny_bind (nextOf_tuple_end hh (h1.extBut sb.extBut D.i1z) (hl1.extBut sb.extBut D.l1z) hx fun h₂ e hs₂ he => ?_)
  obtain ⟨oe, hoe, hce⟩ := he
  refine wpAny_bind (wpAny_isInstance (T := "StopIteration") (b := true) ⟨oe, hoe, hce⟩ isSubtype_stop ?_)
  exact wpAny_pure (hQ _ fun c o c1 c2 c3 e => hs₂ _ _ c2 (sb.extBut _ _ c1 e))
end
end RZ
namespace PySem
namespace F
theorem zip_no_len : typeLookup (.type "zip") "__len__" = pure none := by rw [typeLookup_type, builtinLookup_eq_fast]; kernel_rfl
theorem zip_no_hint : typeLookup (.type "zip") "__length_hint__" = pure none := by rw [typeLookup_type, builtinLookup_eq_fast]; kernel_rfl
end F
end PySem
namespace L2
open PySem PySem.Spec PyProof.Rows RZ
/-- the pairs that were drawn -/
def PAt (H : Hp) (xs ys acc : List V) : Prop := ∀ (j : Nat) (x y : V), j < acc.length → xs[j]? = some x → ys[j]? = some y → ∃ T, acc[j]? = some (.ref T) ∧ H T = some (.tup [x, y])
/-- the heap has grown -/
def Grw (H H' : Hp) : Prop := (∀ b u, H b = some u → H' b = some u) ∧ ∀ b, H' b = none → H b = none
theorem Grw.new {H : Hp} {p : Addr} {o : HO} (h : H p = none) : Grw H (upd H p o) := by
  refine ⟨fun b u e => ?_, fun b e => ?_⟩
  · rw [upd_ne (ne_of_none e h)]; exact e
  · by_cases hb : b = p
    · rw [hb]; exact h
    · rw [upd_ne hb] at e; exact e
section
variable {X : Cx} {pins : List (Addr × Obj)} {σ : St}
theorem ext_zip {A' : Around} (hd : A'.handled = none) {H0 : Hp} {S z TI TO i1 i2 a b : Addr} {xs ys : List V} {R : Result → Shared → Prop} (D : ZipApart z TI TO i1 i2 a b) (hl : xs.length = ys.length) (hz : xs.length ≤ 100000) (n0 : H0 S = none)
    (ha : SqT X.K H0 a xs) (hb : SqT X.K H0 b ys)
    (hR : ∀ s' H' acc, Inv X pins σ H' s' → (∀ b u, H0 b = some u → H' b = some u) → (∀ b, H' b = none → H0 b = none) → H' S = some (.lst acc) → acc.length = xs.length → PAt H' xs ys acc → R (.ok (.ret .none)) s') :
    ∀ (k i : Nat) (s : Shared) (H : Hp) (acc : List V), xs.length - i = k → i ≤ xs.length → Inv X pins σ H s → (∀ b u, H0 b = some u → H b = some u) → (∀ b, H b = none → H0 b = none) → H S = some (.lst acc) → acc.length = i → PAt H xs ys acc →
      (∀ c ∈ [z, TI, TO, i1, i2], FpOk X pins H c) → IsPair s.heap TI (.ref i1) (.ref i2) → s.heap.IsTupleIter i1 a i → s.heap.IsTupleIter i2 b i →
      (∃ u v, IsPair s.heap TO u v) → (IsZip s.heap z TI TO .none ∨ ∃ (f1 : Value) (m : Addr) (om : Obj), s.heap.get? z = some { cls := .type "zip", dict := none, data := .fields #[rawInt m, f1, .bool false, .ref TI, .ref TO], slots := #[] } ∧ s.heap.get? m = some om ∧ m ≠ S ∧ m ∉ [z, TI, TO, i1, i2]) →
      codeAny (model X.prog X.w) A' (.builtin "list.extend.loop" ⟨[.ref S, .ref z, .none], []⟩) R s := by
  have hd1 : A'.in1.handled = none := hd
  intro k
  induction k with
  | zero =>
    intro i s H acc hk hi I g1 g2 hS hacc hP hf hTI h1 h2 hTO0 mode
    have hin : i = xs.length := by omega
    subst hin
    have ha' : SqT X.K H a xs := by
      rcases ha with (h | ⟨o, h⟩) | h
      · exact .inl (.inl (g1 _ _ h))
      · exact .inl (.inr ⟨o, g1 _ _ h⟩)
      · exact .inr h
    have hb' : SqT X.K H b ys := by
      rcases hb with (h | ⟨o, h⟩) | h
      · exact .inl (.inl (g1 _ _ h))
      · exact .inl (.inr ⟨o, g1 _ _ h⟩)
      · exact .inr h
    obtain ⟨its, rv, p, _⟩ := I.tuple ha'
    obtain ⟨its2, rv2, p2, _⟩ := I.tuple hb'
    have l1 := rv.length
    refine codeAny_builtin PySem.F.entry_extend_loop ?_
    rw [Around.under_plainId PySem.F.plain_extend_loop _]
    show wpAny _ A'.in1 (pyNext (.ref z) >>= _) _ _ s
    have fin : ∀ h', (∀ c o, c ∉ [z, TI, TO, i1, i2] → s.heap.get? c = some o → h'.get? c = some o) → R (.ok (.ret .none)) { s with heap := h' } := fun h' hk =>
      hR _ H acc (I.turnedL (t' := s.toks) hk hf) g1 g2 hS hacc hP
    obtain ⟨u, v, hTO⟩ := hTO0
    rcases mode with hz0 | ⟨f1, m, om, hz0, hm, _, _⟩
    · exact wpAny_bind (pyNext_zipT_end hd1 D hz0 hTI hTO h1 h2 p p2 (.inl (by simp; omega)) fun h' hk => wpAny_pure (fin h' fun c o hc q => hk c o (fun e => hc (by simp [e])) (fun e => hc (by simp [e])) (fun e => hc (by simp [e])) (fun e => hc (by simp [e])) q))
    · exact wpAny_bind (pyNext_zipN_end (ys := #[]) (k2 := 0) hd1 D hz0 hm hTI h1 p (by simp; omega) fun h' hk => wpAny_pure (fin h' fun c o hc q => hk c o (fun e => hc (by simp [e])) (fun e => hc (by simp [e])) (fun e => hc (by simp [e])) q))
  | succ k ih =>
    intro i s H acc hk hi I g1 g2 hS hacc hP hf hTI h1 h2 hTO0 mode
    have hlt : i < xs.length := by omega
    have hlt2 : i < ys.length := by omega
    have ha' : SqT X.K H a xs := by
      rcases ha with (h | ⟨o, h⟩) | h
      · exact .inl (.inl (g1 _ _ h))
      · exact .inl (.inr ⟨o, g1 _ _ h⟩)
      · exact .inr h
    have hb' : SqT X.K H b ys := by
      rcases hb with (h | ⟨o, h⟩) | h
      · exact .inl (.inl (g1 _ _ h))
      · exact .inl (.inr ⟨o, g1 _ _ h⟩)
      · exact .inr h
    obtain ⟨its, rv, p, _⟩ := I.tuple ha'
    obtain ⟨its2, rv2, p2, _⟩ := I.tuple hb'
    have hx : xs[i]? = some xs[i] := by simp [hlt]
    have hy : ys[i]? = some ys[i] := by simp [hlt2]
    obtain ⟨u, hu, ru⟩ := rv.get hx
    obtain ⟨u2, hu2, ru2⟩ := rv2.get hy
    have hu' : its.toArray[i]? = some u := by simpa using hu
    have hu2' : its2.toArray[i]? = some u2 := by simpa using hu2
    have sz0 := I.hok S _ hS
    have hSl : S < s.heap.objs.size := sz0.lt
    refine codeAny_builtin PySem.F.entry_extend_loop ?_
    rw [Around.under_plainId PySem.F.plain_extend_loop _]
    show wpAny _ A'.in1 (pyNext (.ref z) >>= _) _ _ s
    have nT : H s.heap.objs.size = none := I.hok.fresh (Nat.le_refl _)
    have step : ∀ h', (∀ c o, c ∉ [z, TI, TO, i1, i2] → s.heap.get? c = some o → h'.get? c = some o) → IsPair h' s.heap.objs.size u u2 → IsPair h' TI (.ref i1) (.ref i2) → h'.IsTupleIter i1 a (i + 1) → h'.IsTupleIter i2 b (i + 1) →
        (∃ (f1 : Value) (m : Addr) (om : Obj), h'.get? z = some { cls := .type "zip", dict := none, data := .fields #[rawInt m, f1, .bool false, .ref TI, .ref TO], slots := #[] } ∧ h'.get? m = some om ∧ m ≠ S ∧ m ∉ [z, TI, TO, i1, i2]) → (∃ u v, IsPair h' TO u v) →
        wpAny (model X.prog X.w) A'.in1 (updateSeq S (·.push (.ref s.heap.objs.size)) >>= fun _ => again (.builtin "list.extend.loop" ⟨[.ref S, .ref z, .none], []⟩))
          (fun fin s' => match fin with | .done f => R (.ok f) s' | .again c' => c'.quiet = true ∧ codeAny (model X.prog X.w) A' c' R s') (fun e s' => R (.error e) s') { s with heap := h' } := fun h' kk hT hTI' h1' h2' hm' hTO' => by
      have new : ObjOk X.prog X.w (upd H s.heap.objs.size (.tup [xs[i], ys[i]])) h' s.heap.objs.size (.tup [xs[i], ys[i]]) := ⟨by show 2 ≤ sizeLine; decide, [u, u2], .cons ru (.cons ru2 .nil), ⟨_, hT, rfl, _, rfl⟩⟩
      have I1 : Inv X pins σ (upd H s.heap.objs.size (.tup [xs[i], ys[i]])) { s with heap := h' } := I.turnedNew (t' := s.toks) (ch := [z, TI, TO, i1, i2]) kk hf (Nat.le_refl _) new
      have gT : Grw H (upd H s.heap.objs.size (.tup [xs[i], ys[i]])) := .new nT
      generalize hH1 : upd H s.heap.objs.size (.tup [xs[i], ys[i]]) = H1 at I1 gT
      have hS1 : H1 S = some (.lst acc) := gT.1 _ _ hS
      have hTt : H1 s.heap.objs.size = some (.tup [xs[i], ys[i]]) := by rw [← hH1]; exact upd_same
      obtain ⟨hz', itsS, nS, riS, eS⟩ := I1.hok S _ hS1
      have lS := riS.length
      refine wpAny_bind ?_
      refine wpAny_updateSeq eS rfl (wpAny_pure ⟨plainId_quiet PySem.F.plain_extend_loop _, ?_⟩) (by rw [List.size_toArray]; omega) (by rw [Array.size_push, List.size_toArray]; omega)
      have e2 := Heap.get?_update_self (Obj.mapSeq (·.push (Value.ref s.heap.objs.size))) eS rfl
      have oth : ∀ c o, c ≠ S → h'.get? c = some o → (h'.update S (Obj.mapSeq (·.push (Value.ref s.heap.objs.size)))).get? c = some o := fun c o hc e => (Heap.get?_update_other _ _ (Ne.symm hc)).trans e
      have hsl : (acc ++ [V.ref s.heap.objs.size]).length ≤ sizeLine := by
        have : (100000 : Nat) ≤ sizeLine := by decide
        rw [List.length_append]
        show acc.length + 1 ≤ sizeLine
        omega
      have I2 : Inv X pins σ (upd H1 S (.lst (acc ++ [.ref s.heap.objs.size]))) { s with heap := h'.update S (Obj.mapSeq (·.push (Value.ref s.heap.objs.size))) } := by
        refine I1.write (t' := s.toks) (by rw [hS1]; trivial) (.inl rfl) (fun c o hc e => oth c o hc e) ⟨_, e2⟩ ⟨hsl, itsS ++ [.ref s.heap.objs.size], nS + 1, riS.append (.cons (show RelV (V.ref s.heap.objs.size) (Value.ref s.heap.objs.size) from rfl) .nil), ?_⟩
        rw [e2]
        simp [Obj.mapSeq]
      have nzS : ∀ c ∈ [z, TI, TO, i1, i2], c ≠ S := fun c hc e => by
        have := (hf c hc).1
        rw [e, hS] at this; cases this
      have nS' : ∀ c u, H0 c = some u → c ≠ S := fun c u e z => by rw [z, n0] at e; cases e
      have nST : s.heap.objs.size ≠ S := Nat.ne_of_gt hSl
      obtain ⟨f1, m, om, hz2, hm2, hm3, hm4⟩ := hm'
      obtain ⟨tu, tv, hTO2⟩ := hTO'
      refine ih (i + 1) _ _ (acc ++ [.ref s.heap.objs.size]) (by omega) hlt I2 (fun c u e => ?_) (fun c e => ?_) upd_same (by rw [List.length_append, hacc]; rfl) (fun j x y hj ex ey => ?_) (fun c hc => ?_) ?_ ?_ ?_ ⟨tu, tv, oth _ _ (nzS TO (by simp)) hTO2⟩ (.inr ⟨f1, m, om, oth _ _ (nzS z (by simp)) hz2, oth _ _ hm3 hm2, hm3, hm4⟩)
      · rw [upd_ne (nS' c u e)]
        exact gT.1 _ _ (g1 _ _ e)
      · by_cases hc : c = S
        · rw [hc]; exact n0
        · rw [upd_ne hc] at e
          exact g2 _ (gT.2 _ e)
      · rw [List.length_append] at hj
        have hj : j < acc.length + 1 := hj
        by_cases hji : j < acc.length
        · obtain ⟨T, t1, t2⟩ := hP j x y hji ex ey
          refine ⟨T, by rw [List.getElem?_append_left hji]; exact t1, ?_⟩
          rw [upd_ne (fun z => by rw [z, hS] at t2; cases t2)]
          exact gT.1 _ _ t2
        · have hj' : j = i := by omega
          subst hj'
          rw [hx] at ex; cases ex
          rw [hy] at ey; cases ey
          refine ⟨s.heap.objs.size, by rw [List.getElem?_append_right (by omega), hacc]; simp, ?_⟩
          rw [upd_ne nST]
          exact hTt
      · have q := hf c hc
        have hlt' : H1 c = none := by
          have hcl : c < s.heap.objs.size := by
            have hcs : ∃ o, s.heap.get? c = some o := by
              have e' : c = z ∨ c = TI ∨ c = TO ∨ c = i1 ∨ c = i2 := by simpa using hc
              obtain ⟨o1, e1, _⟩ := h1
              obtain ⟨o2, e2', _⟩ := h2
              rcases e' with q | q | q | q | q
              · rw [q]; rcases mode with hz0 | ⟨_, _, _, hz0, _⟩
                · exact ⟨_, hz0⟩
                · exact ⟨_, hz0⟩
              · rw [q]; exact ⟨_, hTI⟩
              · obtain ⟨_, _, q2⟩ := hTO0; rw [q]; exact ⟨_, q2⟩
              · rw [q]; exact ⟨_, e1⟩
              · rw [q]; exact ⟨_, e2'⟩
            obtain ⟨o, ho⟩ := hcs
            exact Heap.lt_size ho
          rw [← hH1, upd_ne (Nat.ne_of_lt hcl)]
          exact q.1
        exact ⟨by rw [upd_ne (nzS c hc)]; exact hlt', q.2⟩
      · exact oth _ _ (nzS TI (by simp)) hTI'
      · exact h1'.at fun o e => oth _ _ (nzS i1 (by simp)) e
      · exact h2'.at fun o e => oth _ _ (nzS i2 (by simp)) e
    have nT5 : s.heap.objs.size ∉ [z, TI, TO, i1, i2] := fun hc => by
      have e' : s.heap.objs.size = z ∨ s.heap.objs.size = TI ∨ s.heap.objs.size = TO ∨ s.heap.objs.size = i1 ∨ s.heap.objs.size = i2 := by simpa using hc
      have ir : ∀ {c : Addr} {o : Obj}, s.heap.objs.size = c → s.heap.get? c = some o → False := fun {c o} e h => by
        have := Heap.lt_size h
        rw [e] at this
        exact Nat.lt_irrefl _ this
      obtain ⟨_, e1, _⟩ := id h1
      obtain ⟨_, e2, _⟩ := id h2
      obtain ⟨_, _, e3⟩ := hTO0
      rcases e' with q | q | q | q | q
      · rcases mode with hz0 | ⟨_, _, _, hz0, _⟩
        · exact ir q hz0
        · exact ir q hz0
      · exact ir q hTI
      · exact ir q e3
      · exact ir q e1
      · exact ir q e2
    obtain ⟨uu, vv, hTO⟩ := hTO0
    rcases mode with hz0 | ⟨f1, m, om, hz0, hm, hmn, hmf⟩
    · exact wpAny_bind (pyNext_zipT_item D hz0 hTI hTO h1 h2 p p2 hu' hu2' fun h' z' TO' h1' h2' hT hsz hk => step h' (fun c o hc q => hk c o (fun e => hc (by simp [e])) (fun e => hc (by simp [e])) (fun e => hc (by simp [e])) (fun e => hc (by simp [e])) q) hT
        (hk _ _ D.TIz D.TITO D.TIi1 D.TIi2 hTI) h1' h2' ⟨_, _, _, z', hT, Nat.ne_of_gt hSl, nT5⟩ ⟨_, _, TO'⟩)
    · refine wpAny_bind (pyNext_zipN_item D hz0 hm hTI h1 h2 p p2 hu' hu2' fun h' z' h1' h2' hT hsz hk => ?_)
      obtain ⟨f1', z'⟩ := z'
      have nm : ∀ c ∈ [z, TI, TO, i1, i2], m ≠ c := fun c hc e => hmf (by rw [e]; exact hc)
      exact step h' (fun c o hc q => hk c o (fun e => hc (by simp [e])) (fun e => hc (by simp [e])) (fun e => hc (by simp [e])) q) hT
        (hk _ _ D.TIz D.TIi1 D.TIi2 hTI) h1' h2' ⟨f1', m, om, z', hk _ _ (nm z (by simp)) (nm i1 (by simp)) (nm i2 (by simp)) hm, hmn, hmf⟩ ⟨_, _, hk _ _ D.TOz D.TOi1 D.TOi2 hTO⟩
def tListZip (K : PySem.W.Frag) (ta : TA) : TE := fun σ H Q => ta σ H fun vs H1 => ∃ a b xs ys, vs = [V.ref a, V.ref b] ∧ SqT K H1 a xs ∧ SqT K H1 b ys ∧ xs.length = ys.length ∧ xs.length ≤ 100000 ∧
  ∀ (L : Addr) (H' : Hp) (acc : List V), (∀ b u, H1 b = some u → H' b = some u) → (∀ b, H' b = none → H1 b = none) → H1 L = none → H' L = some (.lst acc) → acc.length = xs.length → PAt H' xs ys acc → Q (.ref L) H'
theorem call_list_zip {H1 : Hp} {s1 : Shared} {z TI TO i1 i2 a b : Addr} {xs ys : List V} {Q : Value → Shared → Prop} {E : Value → Shared → Prop} (hc : X.calm = true) (I1 : Inv X pins σ H1 s1) (D : ZipApart z TI TO i1 i2 a b) (hl : xs.length = ys.length) (hz : xs.length ≤ 100000)
    (ha : SqT X.K H1 a xs) (hb : SqT X.K H1 b ys) (hf : ∀ c ∈ [z, TI, TO, i1, i2], FpOk X pins H1 c) (hz0 : IsZip s1.heap z TI TO .none) (hTI : IsPair s1.heap TI (.ref i1) (.ref i2)) (hTO : ∃ u v, IsPair s1.heap TO u v) (h1 : s1.heap.IsTupleIter i1 a 0) (h2 : s1.heap.IsTupleIter i2 b 0)
    (hQ : ∀ (L : Addr) (H' : Hp) (acc : List V) (s' : Shared), Inv X pins σ H' s' → (∀ b u, H1 b = some u → H' b = some u) → (∀ b, H' b = none → H1 b = none) → H1 L = none → H' L = some (.lst acc) → acc.length = xs.length → PAt H' xs ys acc → Q (.ref L) s') :
    wpAny (model X.prog X.w) X.A (call (.type "list") [.ref z]) Q E s1 := by
  refine callType_codes (Q₁ := fun obj s₁ => obj = .ref s1.heap.objs.size ∧ s₁ = { s1 with heap := s1.heap.push { cls := .type "list", data := .seq #[] } }) PySem.F.called_list (PySem.F.typeCall_list_1 _) PySem.F.entry_list_init
    (code_list_new _ ⟨rfl, rfl⟩) fun obj s₁ h₁ => ?_
  obtain ⟨rfl, rfl⟩ := h₁
  have nS : H1 s1.heap.objs.size = none := I1.hok.fresh (Nat.le_refl _)
  have hS : (s1.heap.push { cls := .type "list", data := .seq #[] }).get? s1.heap.objs.size = some { cls := .type "list", data := .seq #[] } := Heap.get?_push_size _ rfl
  have zlt : z < s1.heap.objs.size := Heap.lt_size hz0
  have hSz : s1.heap.objs.size ≠ z := Nat.ne_of_gt zlt
  refine ⟨⟨_, hS, rfl⟩, PySem.F.args_list_init_2 _ _, ?_⟩
  show wpAny _ _ (do let old ← Builtin.List.listItems (.ref s1.heap.objs.size); Builtin.List.listUpdate (.ref s1.heap.objs.size) (fun _ => #[]); letGo old.toList.reverse; Builtin.List.listExtendWith (.ref s1.heap.objs.size) (.ref z) .none) _ _ _
  refine wpAny_bind ?_
  unfold Builtin.List.listItems
  refine wpAny_bind (wpAny_seqItems hS rfl (wpAny_pure ?_))
  show wpAny _ _ (updateSeq s1.heap.objs.size (fun _ => #[]) >>= fun _ => letGo (#[] : Array Value).toList.reverse >>= fun _ => Builtin.List.listExtendWith (.ref s1.heap.objs.size) (.ref z) .none) _ _ _
  refine wpAny_bind (wpAny_updateSeq hS rfl ?_)
  have hS₂ := Heap.get?_update_self (Obj.mapSeq (fun _ => (#[] : Array Value))) hS rfl
  have oth2 : ∀ b o, b ≠ s1.heap.objs.size → s1.heap.get? b = some o → ((s1.heap.push { cls := .type "list", data := .seq #[] }).update s1.heap.objs.size (Obj.mapSeq (fun _ => (#[] : Array Value)))).get? b = some o :=
    fun b o hb e => (Heap.get?_update_other _ _ (Ne.symm hb)).trans (Heap.get?_push_of_some _ e)
  refine wpAny_bind (wpAny_letGo ?_)
  have hz2 := oth2 z _ hSz.symm hz0
  unfold Builtin.List.listExtendWith
  refine wpAny_bind (wpAny_typeOf ⟨_, hz2, rfl⟩ ?_)
  have q1 : Builtin.List.listSameRef (.ref s1.heap.objs.size) (.ref z) = false := by simp [Builtin.List.listSameRef, hSz]
  have q2 : (Value.type "zip" == Value.type "list") = false := by decide
  have q3 : (Value.type "zip" == Value.type "tuple") = false := by decide
  simp only [q1, q2, q3, Bool.or_false, Bool.false_eq_true, if_false]
  refine wpAny_bind (wpAny_pyIter_zip hz2 ?_)
  refine wpAny_bind (wpAny_holding ?_)
  unfold Builtin.List.listLengthHint
  refine wpAny_bind (wpAny_specialOf ⟨_, hz2, rfl⟩ PySem.F.zip_no_len ?_)
  show wpAny _ _ (specialOf (Value.ref z) (Str.ofString "__length_hint__") >>= _) _ _ _
  refine wpAny_bind (wpAny_specialOf ⟨_, hz2, rfl⟩ PySem.F.zip_no_hint ?_)
  refine wpAny_pure ?_
  show wpAny _ _ (rule "list.extend.makes-room" >>= fun _ => Builtin.List.listTouch (.ref s1.heap.objs.size) >>= fun _ =>
    again (.builtin "list.extend.loop" ⟨[.ref s1.heap.objs.size, .ref z, .none], []⟩)) _ _ _
  refine wpAny_bind (wpAny_rule ?_)
  refine wpAny_bind ?_
  show wpAny _ _ (updateSeq s1.heap.objs.size (·.push .none) >>= fun _ => updateSeq s1.heap.objs.size (·.pop)) _ _ _
  refine wpAny_bind (wpAny_updateSeq hS₂ rfl ?_)
  have hS₃ := Heap.get?_update_self (Obj.mapSeq (·.push Value.none)) hS₂ rfl
  refine wpAny_updateSeq (hz := by seq_fits) hS₃ rfl ?_
  have hS₄ := Heap.get?_update_self (Obj.mapSeq (·.pop)) hS₃ rfl
  have oth : ∀ b o, s1.heap.get? b = some o → ((((s1.heap.push { cls := .type "list", data := .seq #[] }).update s1.heap.objs.size (Obj.mapSeq (fun _ => (#[] : Array Value)))).update s1.heap.objs.size (Obj.mapSeq (·.push Value.none))).update s1.heap.objs.size (Obj.mapSeq (·.pop))).get? b = some o :=
    fun b o e => by
      have hb : b ≠ s1.heap.objs.size := fun z => by
        have := Heap.lt_size e
        rw [z] at this
        exact Nat.lt_irrefl _ this
      exact (Heap.get?_update_other _ _ (Ne.symm hb)).trans ((Heap.get?_update_other _ _ (Ne.symm hb)).trans (oth2 b o hb e))
  refine wpAny_pure ⟨plainId_quiet PySem.F.plain_extend_loop _, ?_⟩
  have I3 : Inv X pins σ (upd H1 s1.heap.objs.size (.lst [])) { s1 with heap := (((s1.heap.push { cls := .type "list", data := .seq #[] }).update s1.heap.objs.size (Obj.mapSeq (fun _ => (#[] : Array Value)))).update s1.heap.objs.size (Obj.mapSeq (·.push Value.none))).update s1.heap.objs.size (Obj.mapSeq (·.pop)) } := by
    refine I1.laid (t' := s1.toks) oth (Nat.le_refl _) ⟨Nat.zero_le _, [], _, .nil, hS₄⟩
  have gD : Grw H1 (upd H1 s1.heap.objs.size (.lst [])) := .new nS
  have ne5 : ∀ c ∈ [z, TI, TO, i1, i2], c ≠ s1.heap.objs.size := fun c hc e => by
    have e' : c = z ∨ c = TI ∨ c = TO ∨ c = i1 ∨ c = i2 := by simpa using hc
    have ir : ∀ {o : Obj}, s1.heap.get? c = some o → False := fun {o} h => by
      have := Heap.lt_size h
      rw [e] at this
      exact Nat.lt_irrefl _ this
    obtain ⟨_, k1, _⟩ := id h1
    obtain ⟨_, k2, _⟩ := id h2
    obtain ⟨_, _, k3⟩ := hTO
    rcases e' with q | q | q | q | q
    · exact ir (q ▸ hz0)
    · exact ir (q ▸ hTI)
    · exact ir (q ▸ k3)
    · exact ir (q ▸ k1)
    · exact ir (q ▸ k2)
  obtain ⟨tu, tv, hTO⟩ := hTO
  have up : ∀ {c l : Addr} {j : Nat}, s1.heap.IsTupleIter c l j → ((((s1.heap.push { cls := .type "list", data := .seq #[] }).update s1.heap.objs.size (Obj.mapSeq (fun _ => (#[] : Array Value)))).update s1.heap.objs.size (Obj.mapSeq (·.push Value.none))).update s1.heap.objs.size (Obj.mapSeq (·.pop))).IsTupleIter c l j := fun h => h.at fun o e => oth _ o e
  refine ext_zip (X := X) (pins := pins) (σ := σ) (A' := X.A.in1) (I1.ok.hd hc) (H0 := H1) D hl hz nS ha hb (fun s' H' acc I' g1 g2 hS' hacc hP => ?_) xs.length 0 _ _ [] (by omega) (Nat.zero_le _) I3 gD.1 gD.2 upd_same rfl (fun j x y h => absurd h (Nat.not_lt_zero j))
    (fun c hc => ⟨by rw [upd_ne (ne5 c hc)]; exact (hf c hc).1, (hf c hc).2⟩) (oth _ _ hTI) (up h1) (up h2) ⟨tu, tv, oth _ _ hTO⟩ (.inl (oth _ _ hz0))
  exact ⟨rfl, hQ _ H' acc s' I' g1 g2 nS hS' hacc hP⟩
theorem pe_listZip {e e2 : Expr} {ta : TA} {p p2 pos pos2 : Pos} (hc : X.calm = true) (hg : Gl X "list") (hm : X.mg "list" = none) (hg2 : Gl X "zip") (hm2 : X.mg "zip" = none) (ha : PA X [e, e2] ta)
    (hs : starEach [e, e2] X.env = (false, eval e X.env) :: starEach [e2] X.env := by rfl) (hpl : (backTo pos2 (starEach [e2] X.env)).any (·.1) = false := by rfl)
    (hs1 : starEach [.Call (.Name "zip" p2) [e, e2] [] pos2] X.env = [(false, eval (.Call (.Name "zip" p2) [e, e2] [] pos2) X.env)] := by rfl) :
    PE X (.Call (.Name "list" p) [.Call (.Name "zip" p2) [e, e2] [] pos2] [] pos) (tListZip X.K ta) := by
  refine ⟨fun pins s σ H Q I h => ?_⟩
  refine wpAny_Call_Name_kw (ld_blt I hg hm boot_list ?_)
  refine PyProof.Rows.callWith_type1 ?_ hs1 rfl
  show wpAny _ _ (spliced ((false, eval (.Call (.Name "zip" p2) [e, e2] [] pos2) X.env) :: backTo pos (starEach [] X.env))) _ _ s
  refine Calls.spliced_cons ?_
  refine Call_ (ld_blt I hg2 hm2 PyProof.Rows.boot_zip (PyProof.Rows.callWith_type1 (thn (ha.run pos2 pins s σ H _ I h) fun us s1 ⟨vs, H1, I1, r1, q1⟩ => ?_) hs hpl))
  obtain ⟨a, b, xs, ys, ex, hqx, hqy, hl, hz, q⟩ := q1
  subst ex
  cases r1 with
  | cons r rr =>
    cases rr with
    | cons r' rr =>
      cases rr
      cases r
      cases r'
      have fresh5 : ∀ c, c ∈ [s1.heap.objs.size + 4, s1.heap.objs.size + 2, s1.heap.objs.size + 3, s1.heap.objs.size, s1.heap.objs.size + 1] → FpOk X pins H1 c := fun c hcm => by
        have e' : c = s1.heap.objs.size + 4 ∨ c = s1.heap.objs.size + 2 ∨ c = s1.heap.objs.size + 3 ∨ c = s1.heap.objs.size ∨ c = s1.heap.objs.size + 1 := by simpa using hcm
        have hle : s1.heap.objs.size ≤ c := by
          rcases e' with z | z | z | z | z
          · rw [z]; exact Nat.le_add_right _ _
          · rw [z]; exact Nat.le_add_right _ _
          · rw [z]; exact Nat.le_add_right _ _
          · rw [z]; exact Nat.le_refl _
          · rw [z]; exact Nat.le_add_right _ _
        exact I1.fpOk hle (I1.hok.fresh hle)
      obtain ⟨its, rv, p1, _⟩ := I1.tuple hqx
      obtain ⟨its2, rv2, p2, _⟩ := I1.tuple hqy
      obtain ⟨o1, ho1, _⟩ := id p1
      obtain ⟨o2, ho2, _⟩ := id p2
      refine call_zipT (show s1.heap.IsTuple a its.toArray from p1) (show s1.heap.IsTuple b its2.toArray from p2) fun h' hz' hTI hTO h1 h2 hsz hk => ?_
      have I2 : Inv X pins σ H1 { s1 with heap := h' } := I1.kept (t' := s1.toks) hk
      refine Calls.spliced_nil ?_
      exact call_list_zip hc I2 (PySem.W.ktu_apart s1.heap.objs.size a b (Heap.lt_size ho1) (Heap.lt_size ho2)) hl hz hqx hqy fresh5 hz' hTI ⟨_, _, hTO⟩ h1 h2 fun L H' acc s' I' g1 g2 nL hL hacc hP => ⟨.ref L, H', I', rfl, q L H' acc g1 g2 nL hL hacc hP⟩
end
end L2
end

section
set_option Elab.async false
set_option linter.all false
set_option maxRecDepth 100000
set_option maxHeartbeats 1000000
namespace G3
open PySem PySem.Spec PyProof.Rows L2 LamX NdefX
noncomputable section
open scoped Classical
section
variable {P : Program} {w : World} {K : PySem.W.Frag} {mg : Str → Option Value} {base : Heap} {T : List NTab} (E : Txt K mg)
def R_is_variable : List Sl → Sl → Prop := fun ss s => ∃ t : Tm, ss = [.sh t.d] ∧ s = .sh (.bl t.isV)
theorem ok_is_variable : Ok P w base T 1 E.f_is_variable ["term"] R_is_variable := by
  refine fn_R E.f_is_variable.F sc_is_variable (fun ss s ⟨t, e, _⟩ => by rw [e]; rfl) fun cdv A outer s H _ hr => ⟨_, (pss_one (ps_ret (pe_callB (kIsi K) (by rfl) E.m_isinstance (by decide +kernel) (pa_cons (pv 0) (pa_cons (pe_bltn (v := .ty "int") (u := .type "int") (by rfl) E.m_int (by decide +kernel) rfl) pa_nil))))), ?_⟩
  rintro ss r ⟨t, rfl, rfl⟩
  refine sx_ret (ev_CB (ea_cons (ev_var rfl rfl) (ea_cons ev_raw ea_nil)) ?_) rfl
  cases t with
  | v n => rw [d_v]; exact cb_isInt
  | ap s l => rw [d_ap]; exact cb_isTup

theorem occL_take (x : Int) : ∀ (l : List Tm) (i : Nat) (t : Tm), l[i]? = some t → occL x (l.take (i + 1)) = occL x (l.take i) + occ x t
  | [], _, _, h => by simp at h
  | u :: r, 0, t, h => by
    simp only [List.getElem?_cons_zero, Option.some.injEq] at h
    subst h
    simp [occL]
  | u :: r, i + 1, t, h => by
    have := occL_take x r i t (by simpa using h)
    simp only [List.take_succ_cons, occL]
    omega
theorem at_map {α β : Type} {f : α → β} {l : List α} {i : Nat} {d : β} (h : (l.map f)[i]? = some d) : ∃ u, l[i]? = some u ∧ f u = d := by simpa using h
def R_occurrences (n : Nat) : List Sl → Sl → Prop := fun ss s => ∃ (t : Tm) (x : Int), t.depth = n ∧ ss = [.sh t.d, .sh (.int x)] ∧ s = .sh (.int (occ x t))
theorem ok_occurrences : ∀ n, Ok P w base T (n + 1 + 1) E.f_occurrences ["term", "variable"] (R_occurrences n) := by
  refine rec_R (fun n ss s ⟨t, x, _, e, _⟩ => by rw [e]; rfl) fun n G_occurrences => ?_
  have G_is_variable := ok_is_variable (P := P) (w := w) (base := base) (T := T) E
  refine fn_R E.f_occurrences.F sc_occurrences (fun ss s ⟨t, x, _, e, _⟩ => by rw [e]; rfl) fun cdv A outer s H _ hr => ⟨_, (pss_cons (ps_if (kTru K (pe_call G_is_variable (hr.mono (by omega)) (by rfl) E.f_is_variable.g E.f_is_variable.F.kp (b_is_variable E) .nil pass0 (pa_cons (pv 0) pa_nil)) (fun _ => rfl))
      (pss_one (ps_ret (pe_ifExp (pt_cmpR (kEq K hr.units) (pv 0) (pv 1) (nomark _)) pe_int pe_int)))
      pss_nil)
    (pss_cons (ps_set (i := 2) sc_occurrences.nd rfl (by first | exact Or.inl rfl | exact Or.inr rfl) pe_int)
    (pss_cons (ps_for PassesOwn.never rfl (kiTup K (pe_ix (kIx K) (pv 0) pe_int (fun _ _ => rfl))) (pg_name (i := 3) sc_occurrences.nd rfl (by first | exact Or.inl rfl | exact Or.inr rfl))
      (pss_one (ps_aug (i := 2) sc_occurrences.nd rfl (by first | exact Or.inl rfl | exact Or.inr rfl) (pe_call G_occurrences (hr.mono (by omega)) (by rfl) E.f_occurrences.g E.f_occurrences.F.kp (b_occurrences E) .nil pass0 (pa_cons (pv 3) (pa_cons (pv 1) pa_nil))) ip_add)))
    (pss_one (ps_ret (pv 2)))))), ?_⟩
  rintro ss r ⟨t, x, hd, rfl, rfl⟩
  show Sx K T _ [some (.sh t.d), some (.sh (.int x)), none, none] _
  refine sx_seq (sx_if (et_tru (ev_call (ea_cons (ev_var rfl rfl) ea_nil) ⟨t, rfl, rfl⟩) rfl) (fun h => ?_) fun h => sx_next ?_)
  · cases t with
    | ap s l => cases h
    | v m =>
      rw [d_v]
      refine sx_ret (s := .sh (.int (occ x (.v m)))) (ev_if (et_test (ev_eqI (ev_var rfl rfl) (ev_var rfl rfl))) (fun h => ev_int.of_eq ?_) fun h => ev_int.of_eq ?_) rfl
      · rw [occ, if_pos (of_decide_eq_true h)]; rfl
      · rw [occ, if_neg (of_decide_eq_false h)]; rfl
  · cases t with
    | v m => cases h
    | ap s l =>
      rw [d_ap]
      refine sx_seq (sx_set ev_int ?_)
      refine sx_seq (sx_for (ei_tup (ev_ixT (ev_var rfl rfl) ev_int rfl)) (fun i δ => ∃ o, δ = [some (.sh (.tup [s.d, .tup (l.map Tm.d)])), some (.sh (.int x)), some (.sh (.int (occL x (l.take i)))), o]) ⟨_, rfl⟩ ?_ ?_)
      · rintro i d δ' hi ⟨o, rfl⟩
        obtain ⟨u, hu, rfl⟩ := at_map hi
        refine ⟨_, _, tg_name, sx_augI rfl (ev_call (ea_cons (ev_var rfl rfl) (ea_cons (ev_var rfl rfl) ea_nil)) ⟨u.depth, ?_, u, x, rfl, rfl, rfl⟩) ?_⟩
        · rw [← hd]; exact depth_arg (List.mem_of_getElem? hu)
        · exact ⟨some (.sh u.d), by rw [occL_take x l i u hu]; rfl⟩
      · rintro δ' ⟨o, rfl⟩
        refine sx_ret (ev_var rfl rfl) ?_
        show Sl.sh _ = _
        rw [List.length_map, List.take_length]
        rfl

theorem ok_collect : ∀ n, FnOk P w K mg base CX0 (n + 1 + 1) E.f_collect.f E.f_collect.fd ["term", "found"] (spCol K T fun t => t.depth = n) := by
  refine rec_Sp (fun n vs H Q E' ⟨t, v, a, ns, _, e, _⟩ => by rw [e]; rfl) fun n IH => ?_
  have G_collect : FnOk P w K mg base CX0 (n + 1) E.f_collect.f E.f_collect.fd ["term", "found"] (spCol K T fun t => t.depth < n) :=
    IH.imp fun vs H Q E' ⟨t, v, a, ns, c, r⟩ => ⟨t.depth, c, t, v, a, ns, rfl, r⟩
  have G_is_variable := ok_is_variable (P := P) (w := w) (base := base) (T := T) E
  refine E.f_collect.F.ok sc_collect (fun vs H Q E' ⟨t, v, a, ns, _, e, _⟩ => by rw [e]; rfl) fun cdv A outer s H vs Q E' hr ⟨t, v, a, ns, hd, e, hv, ha, hz, tb, q⟩ => ⟨_, (pss_one (ps_if (kTru K (pe_call G_is_variable (hr.mono (by omega)) (by rfl) E.f_is_variable.g E.f_is_variable.F.kp (b_is_variable E) .nil pass0 (pa_cons (pv 0) pa_nil)) (fun _ => rfl))
      (pss_one (ps_if (pt_cmpR (kNotIn K) (pv 0) (pv 1) (by with_unfolding_all rfl))
        (pss_one (ps_expr (pe_bm PySem.F.plainAttrs_list PySem.F.slot_list_append PySem.F.type_list_append mt_append (pv 1) (pa_cons (pv 0) pa_nil))))
        pss_nil))
      (pss_one (ps_for PassesOwn.never rfl (kiTup K (pe_ix (kIx K) (pv 0) pe_int (fun _ _ => rfl))) (pg_name (i := 2) sc_collect.nd rfl (by first | exact Or.inl rfl | exact Or.inr rfl))
        (pss_one (ps_expr (pe_call G_collect (hr.mono (by omega)) (by rfl) E.f_collect.g E.f_collect.F.kp (b_collect E) .nil pass0 (pa_cons (pv 2) (pa_cons (pv 1) pa_nil))))))))), ?_⟩
  subst e
  have rel : Rel K T (hide a H) H [some v, some (.ref a), none] [some (.sh t.d), some (.at a (ns.map Dat.int)), none] := by
    refine ⟨Gr.hide, tb, rfl, fun i s e => ?_, fun i j b si sj ei oi ej cj _ _ => ?_⟩
    · match i, e with
      | 0, e => cases e; exact ⟨v, rfl, hv⟩
      | 1, e => cases e; exact ⟨_, rfl, a, _, rfl, ha, Rps.ints ns, hide_same, rfl⟩
      | 2, e => cases e
      | i + 3, e => simp at e
    · match i, j, ei, ej with
      | 1, 1, _, _ => rfl
      | 0, _, ei, _ => cases ei; cases oi
      | 2, _, ei, _ => cases ei
      | i + 3, _, ei, _ => simp at ei
      | 1, 0, _, ej => cases ej; cases cj
      | 1, 2, _, ej => cases ej
      | 1, j + 3, _, ej => simp at ej
  have body : ∀ {t' : TS}, Sx K T t' [some (.sh t.d), some (.at a (ns.map Dat.int)), none] ⟨fun δ => δ[1]? = some (some (.at a ((coll ns t).map Dat.int))), fun _ => False, fun _ => False, fun _ => False⟩ → t' { nx := fun _ H' => Q .non H', rt := Q } [some v, some (.ref a), none] H := fun {t'} h =>
    h (hide a H) H _ _ rel ⟨fun H' σ δ r e => by
      obtain ⟨u, h1, b, xs, rfl, h2, h3, _, rfl⟩ := r.ok 1 _ e
      exact q H' r.ext r.tabs (by rw [h2, h3.ints_eq]), fun _ _ _ _ _ _ z => z.elim, fun _ _ _ _ z => z.elim, fun _ _ _ _ z => z.elim⟩
  refine body ?_
  clear body rel
  refine sx_if (et_tru (ev_call (ea_cons (ev_var rfl rfl) ea_nil) ⟨t, rfl, rfl⟩) rfl) (fun h => ?_) fun h => ?_
  · cases t with
    | ap s l => cases h
    | v m =>
      rw [d_v]
      refine sx_if (et_test (ev_notInL (ev_var rfl rfl) (ev_at rfl))) (fun h => ?_) fun h => sx_next ?_
      · refine sx_appendAt rfl (ev_var rfl rfl) (by rw [List.length_map]; exact Nat.le_trans (coll_le _ ns) hz) ?_
        have h' : ¬ m ∈ ns := by simpa using h
        show some (some (Sl.at a _)) = _
        rw [coll, if_neg h', List.map_append]
        rfl
      · have h' : m ∈ ns := by simpa using h
        show some (some (Sl.at a _)) = _
        rw [coll, if_pos h']
  · cases t with
    | v m => cases h
    | ap s l =>
      rw [d_ap]
      refine sx_for (ei_tup (ev_ixT (ev_var rfl rfl) ev_int rfl)) (fun i δ => ∃ o, δ = [some (.sh (.tup [s.d, .tup (l.map Tm.d)])), some (.at a ((collL ns (l.take i)).map Dat.int)), o]) ⟨_, rfl⟩ ?_ ?_
      · rintro i d δ' hi ⟨o, rfl⟩
        obtain ⟨u, hu, rfl⟩ := at_map hi
        refine ⟨_, _, tg_name, sx_collectAt rfl (ev_var rfl rfl) ?_ ?_ ?_⟩
        · show u.depth < n
          rw [← hd]; exact depth_arg (List.mem_of_getElem? hu)
        · rw [← collL_take l ns i u hu]
          exact Nat.le_trans (collL_take_le l _ ns) (by simpa [coll] using hz)
        · exact ⟨some (.sh u.d), by rw [collL_take l ns i u hu]; rfl⟩
      · rintro δ' ⟨o, rfl⟩
        show some (some (Sl.at a _)) = _
        rw [List.length_map, List.take_length]
        rfl
end
end
end G3
end

section
set_option Elab.async false
set_option linter.all false
set_option maxRecDepth 100000
set_option maxHeartbeats 1000000
namespace G3
open PySem PySem.Spec PyProof.Rows L2 LamX NdefX
noncomputable section
open scoped Classical
mutual
/-- how deep greater goes -/
def rk : Tm → Nat
  | .v _ => 0
  | .ap _ l => l.length + rkL l
def rkL : List Tm → Nat
  | [] => 0
  | t :: r => max (rk t) (rkL r)
end
theorem rkL_mem {t : Tm} : ∀ {l : List Tm}, t ∈ l → rk t ≤ rkL l
  | [], h => by simp at h
  | u :: r, h => by
    rw [rkL]
    rcases List.mem_cons.mp h with rfl | h
    · omega
    · have := rkL_mem h
      omega
theorem rkL_le {n : Nat} : ∀ {l : List Tm}, (∀ t ∈ l, rk t ≤ n) → rkL l ≤ n
  | [], _ => Nat.zero_le _
  | u :: r, h => by
    rw [rkL]
    have h1 := h u List.mem_cons_self
    have h2 := rkL_le (l := r) fun t ht => h t (List.mem_cons_of_mem _ ht)
    omega
theorem rk_head {s : Sy} {l : List Tm} (h : l ≠ []) : rk (.ap s l.dropLast) < rk (.ap s l) := by
  rw [rk, rk, List.length_dropLast]
  have h1 : rkL l.dropLast ≤ rkL l := rkL_le fun t ht => rkL_mem (List.dropLast_subset l ht)
  have h2 : 0 < l.length := List.length_pos_iff.mpr h
  omega
theorem rk_last {s : Sy} {l : List Tm} (h : l ≠ []) : rk (l.getLast h) < rk (.ap s l) := by
  have h1 := rkL_mem (List.getLast_mem h)
  have h2 : 0 < l.length := List.length_pos_iff.mpr h
  rw [rk]; omega
theorem Tok.head {n : Nat} {s : Sy} {l : List Tm} (h : Tok n (.ap s l)) : Tok n (.ap s l.dropLast) := by
  refine ⟨?_, thin_ap.mpr ⟨by have := (thin_ap.mp h.ar).1; rw [List.length_dropLast]; omega, fun t ht => (thin_ap.mp h.ar).2 t (List.dropLast_subset l ht)⟩, fun x hx => h.vb x ?_⟩
  · have := h.dep
    rw [Tm.depth] at this ⊢
    have h2 : depthL l.dropLast ≤ depthL l := depthL_le fun t ht => depth_mem (List.dropLast_subset l ht)
    omega
  · have : ∀ l : List Tm, occL x l.dropLast ≤ occL x l := by
      intro l
      induction l with
      | nil => simp [occL]
      | cons t r ih =>
        cases r with
        | nil => simp [occL]
        | cons u r => simp only [List.dropLast_cons_cons, occL] at ih ⊢; omega
    have := this l
    simp only [occ] at hx ⊢
    omega
theorem Tok.arg' {n : Nat} {s : Sy} {l : List Tm} {t : Tm} (h : Tok n (.ap s l)) (ht : t ∈ l) : Tok n t :=
  ⟨by have := depth_arg (s := s) ht; have := h.dep; omega, (thin_ap.mp h.ar).2 t ht, fun x hx => h.vb x (by have := occ_mem (x := x) ht; rw [occ]; omega)⟩
theorem rk_le : ∀ t : Tm, t.thin → rk t ≤ 2 * t.depth := by
  refine Tm.ind (fun n _ => by simp [rk]) fun s l ih h => ?_
  rw [rk, Tm.depth]
  obtain ⟨h1, h2⟩ := thin_ap.mp h
  have : rkL l ≤ 2 * depthL l := rkL_le fun t ht => Nat.le_trans (ih t ht (h2 t ht)) (by have := depth_mem ht; omega)
  omega
theorem Tok.rk {n : Nat} {t : Tm} (h : Tok n t) : rk t ≤ 2 * n := Nat.le_trans (rk_le t h.ar) (by have := h.dep; omega)
def gew (W : Wts) (s : Sy) (l : List Tm) (s' : Sy) (l' : List Tm) : Bool := if h : l = [] then decide (l' = []) && HT.lexLt s'.key s.key else if h' : l' = [] then true else
      if Tm.ap s l.dropLast ≠ .ap s' l'.dropLast then gr W (.ap s l.dropLast) (.ap s' l'.dropLast) else gr W (l.getLast h) (l'.getLast h')
theorem gr_v (W : Wts) (n : Int) (t : Tm) : gr W (.v n) t = false := by rw [gr]
theorem gr_ap (W : Wts) (s : Sy) (l : List Tm) (t : Tm) : gr W (.ap s l) t = (hav (.ap s l) t && (if wt W (.ap s l) ≠ wt W t then decide (wt W (.ap s l) > wt W t) else match t with
    | .v _ => false
    | .ap s' l' => gew W s l s' l')) := by
  rw [gr.eq_def]
  cases t with
  | v n => rfl
  | ap s' l' => rfl
theorem wtL_take (W : Wts) : ∀ (l : List Tm) (i : Nat) (t : Tm), l[i]? = some t → wtL W (l.take (i + 1)) = wtL W (l.take i) + wt W t
  | [], _, _, h => by simp at h
  | u :: r, 0, t, h => by
    simp only [List.getElem?_cons_zero, Option.some.injEq] at h
    subst h
    simp [wtL]
  | u :: r, i + 1, t, h => by
    have := wtL_take W r i t (by simpa using h)
    simp only [List.take_succ_cons, wtL]
    omega
theorem cut_init {α : Type} (xs : List α) : cut xs none (some (-1)) = xs.dropLast := by
  unfold cut
  rw [HT.sIx_none, List.dropLast_eq_take]
  show List.take (HT.sIx xs.length xs.length (some (-1)) - 0) (List.drop 0 xs) = _
  have : HT.sIx xs.length xs.length (some (-1)) = xs.length - 1 := by
    unfold HT.sIx
    first | (simp; omega) | (split <;> simp_all <;> omega)
  rw [this]
  simp
theorem atI_m1 {α : Type} {xs : List α} (h : xs ≠ []) : atI xs (-1) = some (xs.getLast h) := by
  have e := List.dropLast_concat_getLast h
  have := atI_last xs.dropLast (xs.getLast h)
  rw [e] at this
  exact this
section
variable {P : Program} {w : World} {K : PySem.W.Frag} {mg : Str → Option Value} {base : Heap} {T : List NTab} (E : Txt K mg)
def R_variables (n : Nat) : List Sl → Sl → Prop := fun ss s => ∃ t : Tm, Tok n t ∧ ss = [.sh t.d] ∧ s = .own ((vars t).map Dat.int)
theorem G_col (n : Nat) : FnOk P w K mg base CX0 (n + 2) E.f_collect.f E.f_collect.fd ["term", "found"] (spCol K T fun t => t.depth ≤ n) :=
  ⟨fun vs H Q E' ⟨t, v, a, ns, _, e, _⟩ => by rw [e]; rfl, fun A outer s H args us vs Q E' hr e0 hb hv ⟨t, v, a, ns, c, r⟩ => (ok_collect (P := P) (w := w) (base := base) (T := T) E t.depth).run A outer s H args us vs Q E' (hr.mono (by omega)) e0 hb hv ⟨t, v, a, ns, rfl, r⟩⟩
theorem ok_variables (n : Nat) : Ok P w base T (n + 3) E.f_variables ["term"] (R_variables n) := by
  have G_collect := G_col (P := P) (w := w) (base := base) (T := T) E n
  refine fn_R E.f_variables.F sc_variables (fun ss s ⟨t, _, e, _⟩ => by rw [e]; rfl) fun cdv A outer s H _ hr => ⟨_, (pss_cons (ps_set (i := 1) sc_variables.nd rfl (by first | exact Or.inl rfl | exact Or.inr rfl) (pe_lst pa_nil))
    (pss_cons (ps_expr (pe_call G_collect (hr.mono (by omega)) (by rfl) E.f_collect.g E.f_collect.F.kp (b_collect E) .nil pass0 (pa_cons (pv 0) (pa_cons (pv 1) pa_nil))))
    (pss_one (ps_ret (pv 1))))), ?_⟩
  rintro ss r ⟨t, ht, rfl, rfl⟩
  show Sx K T _ [some (.sh t.d), none] _
  refine sx_seq (sx_set (ev_lst (ds := []) ea_nil) ?_)
  refine sx_seq (sx_collect (ns := []) (t := t) rfl (ev_var rfl rfl) ht.dep (Nat.le_trans ht.vars (by decide)) ?_)
  exact sx_retOwn rfl rfl
theorem G_occ (n : Nat) : Ok P w base T (n + 2) E.f_occurrences ["term", "variable"] (fun ss s => ∃ (t : Tm) (x : Int), t.depth ≤ n ∧ ss = [.sh t.d, .sh (.int x)] ∧ s = .sh (.int (occ x t))) :=
  ⟨fun vs H Q E' ⟨ss, s, ⟨t, x, _, e, _⟩, p, _⟩ => by rw [Paired.len p, e]; rfl, fun A outer s H args us vs Q E' hr e0 hb hv ⟨ss, r, ⟨t, x, h, hR⟩, p, tb, q⟩ => (ok_occurrences (P := P) (w := w) (base := base) (T := T) E t.depth).run A outer s H args us vs Q E' (hr.mono (by omega)) e0 hb hv ⟨ss, r, ⟨t, x, rfl, hR⟩, p, tb, q⟩⟩
def R_is_atom : List Sl → Sl → Prop := fun ss s => ∃ t : Tm, ss = [.sh t.d] ∧ s = .sh (.bl t.isAtom)
theorem ok_is_atom : Ok P w base T 2 E.f_is_atom ["term"] R_is_atom := by
  have G_is_variable := ok_is_variable (P := P) (w := w) (base := base) (T := T) E
  refine fn_R E.f_is_atom.F sc_is_atom (fun ss s ⟨t, e, _⟩ => by rw [e]; rfl) fun cdv A outer s H _ hr => ⟨_, (pss_one (ps_ret (kAnd K (kNot K (pe_call G_is_variable (hr.mono (by omega)) (by rfl) E.f_is_variable.g E.f_is_variable.F.kp (b_is_variable E) .nil pass0 (pa_cons (pv 0) pa_nil))) (pe_one (pe_cmpR (kIn K) (pe_ix (kIx K) (pe_ix (kIx K) (pv 0) pe_int (fun _ _ => rfl)) pe_int (fun _ _ => rfl)) (pe_tup (pa_cons pe_int (pa_cons pe_int (pa_cons pe_int (pa_cons pe_int pa_nil))))) (by with_unfolding_all rfl)))))), ?_⟩
  rintro ss r ⟨t, rfl, rfl⟩
  show Sx K T _ [some (.sh t.d)] _
  refine sx_ret (ev_andT (b := !t.isV) (ev_notT (ev_call (ea_cons (ev_var rfl rfl) ea_nil) ⟨t, rfl, rfl⟩) rfl) rfl (fun h => ?_) fun h => ?_) rfl
  · cases t with
    | v n => cases h
    | ap s l =>
      refine (ev_inT (x := s.a) (ns := [0, 1, 4, 5]) (ev_ixT (ds := [.int s.a, .int s.b, .int s.c]) (ev_ixT (ds := [s.d, .tup (l.map Tm.d)]) ((ev_var rfl rfl).of_eq (by rw [d_ap])) ev_int rfl) ev_int rfl) (ev_tup (ds := [.int 0, .int 1, .int 4, .int 5]) (ea_cons ev_int (ea_cons ev_int (ea_cons ev_int (ea_cons ev_int ea_nil)))))).of_eq ?_
      rw [Tm.isAtom]
      simp
  · cases t with
    | v n => rfl
    | ap s l => cases h
def R_symbol_weight : List Sl → Sl → Prop := fun ss s => ∃ (W : Wts) (y : Sy), ss = [.sh (.wts W), .sh y.d] ∧ s = .sh (.int (sw W y))
theorem ok_symbol_weight : Ok P w base T 1 E.f_symbol_weight ["weights", "symbol"] R_symbol_weight := by
  refine fn_R E.f_symbol_weight.F sc_symbol_weight (fun ss s ⟨W, y, e, _⟩ => by rw [e]; rfl) fun cdv A outer s H _ hr => ⟨_, (pss_one (ps_ret (pe_dget2 (hu_of hr) (pv 0) (pv 1) pe_int ⟨rfl, rfl, rfl, rfl⟩))), ?_⟩
  rintro ss r ⟨W, y, rfl, rfl⟩
  exact sx_ret (ev_wget (ev_var rfl rfl) (ev_var rfl rfl) ev_int) rfl
def R_term_weight (n : Nat) : List Sl → Sl → Prop := fun ss s => ∃ (W : Wts) (t : Tm), t.depth = n ∧ ss = [.sh (.wts W), .sh t.d] ∧ s = .sh (.int (wt W t))
theorem ok_term_weight : ∀ n, Ok P w base T (n + 1 + 1) E.f_term_weight ["weights", "term"] (R_term_weight n) := by
  refine rec_R (fun n ss s ⟨W, t, _, e, _⟩ => by rw [e]; rfl) fun n G_term_weight => ?_
  have G_is_variable := ok_is_variable (P := P) (w := w) (base := base) (T := T) E
  have G_symbol_weight := ok_symbol_weight (P := P) (w := w) (base := base) (T := T) E
  refine fn_R E.f_term_weight.F sc_term_weight (fun ss s ⟨W, t, _, e, _⟩ => by rw [e]; rfl) fun cdv A outer s H _ hr => ⟨_, (pss_cons (ps_if (kTru K (pe_call G_is_variable (hr.mono (by omega)) (by rfl) E.f_is_variable.g E.f_is_variable.F.kp (b_is_variable E) .nil pass0 (pa_cons (pv 1) pa_nil)) (fun _ => rfl))
      (pss_one (ps_ret pe_int))
      pss_nil)
    (pss_cons (ps_set (i := 2) sc_term_weight.nd rfl (by first | exact Or.inl rfl | exact Or.inr rfl) (pe_call G_symbol_weight (hr.mono (by omega)) (by rfl) E.f_symbol_weight.g E.f_symbol_weight.F.kp (b_symbol_weight E) .nil pass0 (pa_cons (pv 0) (pa_cons (pe_ix (kIx K) (pv 1) pe_int (fun _ _ => rfl)) pa_nil))))
    (pss_cons (ps_for PassesOwn.never rfl (kiTup K (pe_ix (kIx K) (pv 1) pe_int (fun _ _ => rfl))) (pg_name (i := 3) sc_term_weight.nd rfl (by first | exact Or.inl rfl | exact Or.inr rfl))
      (pss_one (ps_set (i := 2) sc_term_weight.nd rfl (by first | exact Or.inl rfl | exact Or.inr rfl) (pe_op (kAdd K) (pv 2) (pe_call G_term_weight (hr.mono (by omega)) (by rfl) E.f_term_weight.g E.f_term_weight.F.kp (b_term_weight E) .nil pass0 (pa_cons (pv 0) (pa_cons (pv 3) pa_nil)))))))
    (pss_one (ps_ret (pv 2)))))), ?_⟩
  rintro ss r ⟨W, t, hd, rfl, rfl⟩
  show Sx K T _ [some (.sh (.wts W)), some (.sh t.d), none, none] _
  refine sx_seq (sx_if (et_tru (ev_call (ea_cons (ev_var rfl rfl) ea_nil) ⟨t, rfl, rfl⟩) rfl) (fun h => ?_) fun h => sx_next ?_)
  · cases t with
    | ap s l => cases h
    | v m => exact sx_ret ev_int (by show Sl.sh _ = Sl.sh _; rw [wt])
  · cases t with
    | v m => cases h
    | ap s l =>
      rw [d_ap]
      refine sx_seq (sx_set (ev_call (ea_cons (ev_var rfl rfl) (ea_cons (ev_ixT (ev_var rfl rfl) ev_int rfl) ea_nil)) ⟨W, s, rfl, rfl⟩) ?_)
      refine sx_seq (sx_for (ei_tup (ev_ixT (ev_var rfl rfl) ev_int rfl)) (fun i δ => ∃ o, δ = [some (.sh (.wts W)), some (.sh (.tup [s.d, .tup (l.map Tm.d)])), some (.sh (.int (sw W s + wtL W (l.take i)))), o]) ⟨none, by simp [wtL]⟩ ?_ ?_)
      · rintro i d δ' hi ⟨o, rfl⟩
        obtain ⟨u, hu, rfl⟩ := at_map hi
        refine ⟨_, _, tg_name, sx_set (ev_add (ev_var rfl rfl) (ev_call (ea_cons (ev_var rfl rfl) (ea_cons (ev_var rfl rfl) ea_nil)) ⟨u.depth, ?_, W, u, rfl, rfl, rfl⟩)) ?_⟩
        · rw [← hd]; exact depth_arg (List.mem_of_getElem? hu)
        · exact ⟨some (.sh u.d), by rw [wtL_take W l i u hu, ← Int.add_assoc]; rfl⟩
      · rintro δ' ⟨o, rfl⟩
        refine sx_ret (ev_var rfl rfl) ?_
        show Sl.sh _ = _
        rw [List.length_map, List.take_length, wt]
theorem G_wt (n : Nat) : Ok P w base T (n + 2) E.f_term_weight ["weights", "term"] (fun ss s => ∃ (W : Wts) (t : Tm), t.depth ≤ n ∧ ss = [.sh (.wts W), .sh t.d] ∧ s = .sh (.int (wt W t))) :=
  ⟨fun vs H Q E' ⟨ss, s, ⟨t, x, _, e, _⟩, p, _⟩ => by rw [Paired.len p, e]; rfl, fun A outer s H args us vs Q E' hr e0 hb hv ⟨ss, r, ⟨W, t, h, hR⟩, p, tb, q⟩ => (ok_term_weight (P := P) (w := w) (base := base) (T := T) E t.depth).run A outer s H args us vs Q E' (hr.mono (by omega)) e0 hb hv ⟨ss, r, ⟨W, t, rfl, hR⟩, p, tb, q⟩⟩
def R_comes_before : List Sl → Sl → Prop := fun ss s => ∃ (x y : Sy), ss = [.sh x.d, .sh y.d] ∧ s = .sh (.bl (HT.lexLt x.key y.key))
theorem ok_comes_before : Ok P w base T 1 E.f_comes_before ["first", "second"] R_comes_before := by
  refine fn_R E.f_comes_before.F sc_comes_before (fun ss s ⟨W, y, e, _⟩ => by rw [e]; rfl) fun cdv A outer s H _ hr => ⟨_, (pss_one (ps_ret (pe_cmpR (kLt K (Nat.lt_of_succ_lt (hu_of hr))) (pv 0) (pv 1) (nomark _)))), ?_⟩
  rintro ss r ⟨x, y, rfl, rfl⟩
  exact sx_ret (ev_ltT (ev_var rfl rfl) (ev_var rfl rfl)) rfl
def R_head : List Sl → Sl → Prop := fun ss s => ∃ (y : Sy) (l : List Tm), ss = [.sh (Tm.ap y l).d] ∧ s = .sh (Tm.ap y l.dropLast).d
theorem ok_head : Ok P w base T 1 E.f_head ["term"] R_head := by
  refine fn_R E.f_head.F sc_head (fun ss s ⟨W, y, e, _⟩ => by rw [e]; rfl) fun cdv A outer s H _ hr => ⟨_, (pss_one (ps_ret (pe_tup (pa_cons (pe_ix (kIx K) (pv 0) pe_int (fun _ _ => rfl)) (pa_cons (pe_slice (kSl K) (pe_ix (kIx K) (pv 0) pe_int (fun _ _ => rfl)) po_none (po_some (pe_un un_neg pe_int))) pa_nil))))), ?_⟩
  rintro ss r ⟨y, l, rfl, rfl⟩
  rw [d_ap, d_ap, List.map_dropLast]
  refine sx_ret ((ev_tup (ds := [y.d, .tup (cut (l.map Tm.d) none (some (-1)))]) (ea_cons (ev_ixT (ev_var rfl rfl) ev_int rfl) (ea_cons (ev_slT (ev_ixT (ev_var rfl rfl) ev_int rfl) eo_none (eo_some (ev_neg ev_int))) ea_nil))).of_eq ?_) rfl
  rw [cut_init]
def R_hav (n : Nat) : List Sl → Sl → Prop := fun ss s => ∃ (a b : Tm), Tok n a ∧ Tok n b ∧ ss = [.sh a.d, .sh b.d] ∧ s = .sh (.bl (hav a b))
theorem ok_has_all_variables (n : Nat) : Ok P w base T (n + 4) E.f_has_all_variables ["first", "second"] (R_hav n) := by
  have G_variables := ok_variables (P := P) (w := w) (base := base) (T := T) E n
  have G_occurrences := G_occ (P := P) (w := w) (base := base) (T := T) E n
  refine fn_R E.f_has_all_variables.F sc_has_all_variables (fun ss s ⟨W, y, _, _, e, _⟩ => by rw [e]; rfl) fun cdv A outer s H _ hr => ⟨_, (pss_cons (ps_for PassesOwn.never rfl (kiList K (pe_call G_variables (hr.mono (by omega)) (by rfl) E.f_variables.g E.f_variables.F.kp (b_variables E) .nil pass0 (pa_cons (pv 1) pa_nil))) (pg_name (i := 2) sc_has_all_variables.nd rfl (by first | exact Or.inl rfl | exact Or.inr rfl))
      (pss_one (ps_if (pt_cmpR op_gt (pe_call G_occurrences (hr.mono (by omega)) (by rfl) E.f_occurrences.g E.f_occurrences.F.kp (b_occurrences E) .nil pass0 (pa_cons (pv 1) (pa_cons (pv 2) pa_nil))) (pe_call G_occurrences (hr.mono (by omega)) (by rfl) E.f_occurrences.g E.f_occurrences.F.kp (b_occurrences E) .nil pass0 (pa_cons (pv 0) (pa_cons (pv 2) pa_nil))) (nomark _))
        (pss_one (ps_ret pe_bl))
        pss_nil)))
    (pss_one (ps_ret pe_bl))), ?_⟩
  rintro ss r ⟨a, b, ha, hb, rfl, rfl⟩
  show Sx K T _ [some (.sh a.d), some (.sh b.d), none] _
  refine sx_seq (sx_for (ei_new (ev_call (ea_cons (ev_var rfl rfl) ea_nil) ⟨b, hb, rfl, rfl⟩)) (fun i δ => (∃ o, δ = [some (.sh a.d), some (.sh b.d), o]) ∧ ((vars b).take i).all (fun x => decide (¬ occ x b > occ x a)) = true) ⟨⟨none, rfl⟩, rfl⟩ ?_ ?_)
  · rintro i d δ' hi ⟨⟨o, rfl⟩, hall⟩
    obtain ⟨x, hx, rfl⟩ := at_map hi
    refine ⟨_, _, tg_name, sx_if (et_test (ev_gt (ev_call (ea_cons (ev_var rfl rfl) (ea_cons (ev_var rfl rfl) ea_nil)) ⟨b, x, hb.dep, rfl, rfl⟩) (ev_call (ea_cons (ev_var rfl rfl) (ea_cons (ev_var rfl rfl) ea_nil)) ⟨a, x, ha.dep, rfl, rfl⟩))) (fun h => sx_ret ev_bl ?_) fun h => sx_next ⟨⟨some (.sh (.int x)), rfl⟩, ?_⟩⟩
    · have h : (occ x a : Int) < (occ x b : Int) := of_decide_eq_true h
      show Sl.sh (.bl false) = Sl.sh (.bl (hav a b))
      rw [show hav a b = false from ?_]
      unfold hav
      rw [List.all_eq_false]
      exact ⟨x, List.mem_of_getElem? hx, by simp; omega⟩
    · have h : ¬ (occ x a : Int) < (occ x b : Int) := of_decide_eq_false h
      rw [List.take_succ, hx, List.all_append, hall]
      simp
      omega
  · rintro δ' ⟨⟨o, rfl⟩, hall⟩
    refine sx_ret ev_bl ?_
    show Sl.sh (.bl true) = Sl.sh (.bl (hav a b))
    rw [List.length_map, List.take_length] at hall
    unfold hav
    rw [hall]
end
end
end G3
end

section
set_option Elab.async false
set_option linter.all false
set_option maxRecDepth 100000
set_option maxHeartbeats 1000000
namespace G3
open PySem PySem.Spec PyProof.Rows L2 LamX NdefX
noncomputable section
open scoped Classical
theorem not_dec_t {p : Prop} [Decidable p] (h : (!decide p) = true) : ¬ p := fun z => by rw [decide_eq_true z] at h; cases h
theorem not_dec_f {p : Prop} [Decidable p] (h : (!decide p) = false) : p := Classical.byContradiction fun z => by rw [decide_eq_false z] at h; cases h
section
variable {P : Program} {w : World} {K : PySem.W.Frag} {mg : Str → Option Value} {base : Heap} {T : List NTab}
theorem below_R {f : Addr} {fd : FuncData} {ps : List Str} {k n : Nat} {R : Nat → List Sl → Sl → Prop} (hl : ∀ n ss s, R n ss s → ss.length = ps.length)
    (h : ∀ m, m < n → FnOk P w K mg base CX0 k f fd ps (spR K T (R m))) : FnOk P w K mg base CX0 k f fd ps (spR K T fun ss s => ∃ m, m < n ∧ R m ss s) :=
  ⟨fun vs H Q E ⟨ss, s, ⟨m, _, r⟩, p, _⟩ => by rw [Paired.len p]; exact hl m ss s r, fun A outer s H args us vs Q E hr e0 hb hv ⟨ss, r, ⟨m, lt, hR⟩, p, tb, q⟩ => (h m lt).run A outer s H args us vs Q E hr e0 hb hv ⟨ss, r, hR, p, tb, q⟩⟩
end
section
variable {P : Program} {w : World} {K : PySem.W.Frag} {mg : Str → Option Value} {base : Heap} {T : List NTab} (E : Txt K mg)
def R_greater (D m : Nat) : List Sl → Sl → Prop := fun ss r => ∃ (W : Wts) (s t : Tm), Tok D s ∧ Tok D t ∧ rk s = m ∧ ss = [.sh (.wts W), .sh s.d, .sh t.d] ∧ r = .sh (.bl (gr W s t))
def R_gew (D m : Nat) : List Sl → Sl → Prop := fun ss r => ∃ (W : Wts) (s : Sy) (l : List Tm) (s' : Sy) (l' : List Tm), Tok D (.ap s l) ∧ Tok D (.ap s' l') ∧ rk (.ap s l) = m ∧ ss = [.sh (.wts W), .sh (Tm.ap s l).d, .sh (Tm.ap s' l').d] ∧ r = .sh (.bl (gew W s l s' l'))
theorem isEmpty_dec {α β : Type} {f : α → β} (l : List α) : (!(!(l.map f).isEmpty)) = decide (l = []) := by
  cases l <;> simp
theorem tok_eqD {D : Nat} {s t : Tm} (hD : D ≤ 29) (hs : Tok D s) : s.d.dep ≤ 60 := by
  have := tm_dep s
  have := hs.dep
  omega
theorem ok_gew {D m : Nat} (hD : D ≤ 29) (G_greater : Ok P w base T (2 * m + D + 4) E.f_greater ["weights", "first", "second"] (fun ss s => ∃ j, j < m ∧ R_greater D j ss s)) : Ok P w base T (2 * m + D + 5) E.f_greater_of_equal_weight ["weights", "first", "second"] (R_gew D m) := by
  have G_comes_before := ok_comes_before (P := P) (w := w) (base := base) (T := T) E
  have G_head := ok_head (P := P) (w := w) (base := base) (T := T) E
  refine fn_R E.f_greater_of_equal_weight.F sc_greater_of_equal_weight (fun ss s ⟨_, _, _, _, _, _, _, _, e, _⟩ => by rw [e]; rfl) fun cdv A outer s H _ hr => ⟨_, (pss_cons (ps_if (pt_not (kTru K (pe_ix (kIx K) (pv 1) pe_int (fun _ _ => rfl)) (fun _ => rfl)))
      (pss_one (ps_ret (kAnd K (kNot K (pe_ix (kIx K) (pv 2) pe_int (fun _ _ => rfl))) (pe_one (pe_call G_comes_before (hr.mono (by omega)) (by rfl) E.f_comes_before.g E.f_comes_before.F.kp (b_comes_before E) .nil pass0 (pa_cons (pe_ix (kIx K) (pv 2) pe_int (fun _ _ => rfl)) (pa_cons (pe_ix (kIx K) (pv 1) pe_int (fun _ _ => rfl)) pa_nil)))))))
      pss_nil)
    (pss_cons (ps_if (pt_not (kTru K (pe_ix (kIx K) (pv 2) pe_int (fun _ _ => rfl)) (fun _ => rfl)))
      (pss_one (ps_ret pe_bl))
      pss_nil)
    (pss_cons (ps_set (i := 3) sc_greater_of_equal_weight.nd rfl (by first | exact Or.inl rfl | exact Or.inr rfl) (pe_call G_head (hr.mono (by omega)) (by rfl) E.f_head.g E.f_head.F.kp (b_head E) .nil pass0 (pa_cons (pv 1) pa_nil)))
    (pss_cons (ps_set (i := 4) sc_greater_of_equal_weight.nd rfl (by first | exact Or.inl rfl | exact Or.inr rfl) (pe_call G_head (hr.mono (by omega)) (by rfl) E.f_head.g E.f_head.F.kp (b_head E) .nil pass0 (pa_cons (pv 2) pa_nil)))
    (pss_cons (ps_if (pt_cmpR (kNe K hr.units) (pv 3) (pv 4) (nomark _))
      (pss_one (ps_ret (pe_call G_greater (hr.mono (by omega)) (by rfl) E.f_greater.g E.f_greater.F.kp (b_greater E) .nil pass0 (pa_cons (pv 0) (pa_cons (pv 3) (pa_cons (pv 4) pa_nil))))))
      pss_nil)
    (pss_one (ps_ret (pe_call G_greater (hr.mono (by omega)) (by rfl) E.f_greater.g E.f_greater.F.kp (b_greater E) .nil pass0 (pa_cons (pv 0) (pa_cons (pe_ix (kIx K) (pe_ix (kIx K) (pv 1) pe_int (fun _ _ => rfl)) (pe_un un_neg pe_int) (fun _ _ => rfl)) (pa_cons (pe_ix (kIx K) (pe_ix (kIx K) (pv 2) pe_int (fun _ _ => rfl)) (pe_un un_neg pe_int) (fun _ _ => rfl)) pa_nil))))))))))), ?_⟩
  rintro ss r ⟨W, s, l, s', l', h1, h2, hm, rfl, rfl⟩
  show Sx K T _ [some (.sh (.wts W)), some (.sh (Tm.ap s l).d), some (.sh (Tm.ap s' l').d), none, none] _
  have e1 : Ev K T (tVar 1) [some (.sh (.wts W)), some (.sh (Tm.ap s l).d), some (.sh (Tm.ap s' l').d), none, none] (.sh (.tup [s.d, .tup (l.map Tm.d)])) := (ev_var rfl rfl).of_eq (by rw [d_ap])
  have e2 : Ev K T (tVar 2) [some (.sh (.wts W)), some (.sh (Tm.ap s l).d), some (.sh (Tm.ap s' l').d), none, none] (.sh (.tup [s'.d, .tup (l'.map Tm.d)])) := (ev_var rfl rfl).of_eq (by rw [d_ap])
  have n1 : ∀ l : List Tm, (!(!(l.map Tm.d).isEmpty)) = decide (l = []) := isEmpty_dec
  refine sx_seq (sx_if ((et_not (et_tru (ev_ixT e1 ev_int rfl) rfl)).of_eq (n1 l)) (fun h => ?_) fun h => sx_next ?_)
  · have h : l = [] := of_decide_eq_true h
    refine sx_ret (ev_andB (b := decide (l' = [])) (c := HT.lexLt s'.key s.key) ((ev_notT (ev_ixT e2 ev_int rfl) rfl).of_eq (by rw [n1 l'])) fun _ => ev_call (ea_cons (ev_ixT e2 ev_int rfl) (ea_cons (ev_ixT e1 ev_int rfl) ea_nil)) ⟨s', s, rfl, rfl⟩) ?_
    show Sl.sh _ = Sl.sh (.bl (gew W s l s' l'))
    unfold gew
    rw [dif_pos h]
  · have h : ¬ l = [] := of_decide_eq_false h
    refine sx_seq (sx_if ((et_not (et_tru (ev_ixT e2 ev_int rfl) rfl)).of_eq (n1 l')) (fun h' => ?_) fun h' => sx_next ?_)
    · have h' : l' = [] := of_decide_eq_true h'
      refine sx_ret ev_bl ?_
      show Sl.sh _ = Sl.sh (.bl (gew W s l s' l'))
      unfold gew
      rw [dif_neg h, dif_pos h']
    · have h' : ¬ l' = [] := of_decide_eq_false h'
      refine sx_seq (sx_set (ev_call (ea_cons (ev_var rfl rfl) ea_nil) ⟨s, l, rfl, rfl⟩) ?_)
      refine sx_seq (sx_set (ev_call (ea_cons (ev_var rfl rfl) ea_nil) ⟨s', l', rfl, rfl⟩) ?_)
      refine sx_seq (sx_if (et_test (ev_neD (b := decide (Tm.ap s l.dropLast = .ap s' l'.dropLast)) (ev_var rfl rfl) (ev_var rfl rfl) (tm_plain _) (tm_plain _) (tok_eqD (t := .v 0) hD h1.head) (tok_eqD (t := .v 0) hD h2.head) (by rw [decide_eq_true_iff, tm_inj_iff]))) (fun hh => ?_) fun hh => sx_next ?_)
      · have hh : Tm.ap s l.dropLast ≠ .ap s' l'.dropLast := not_dec_t hh
        refine sx_ret (ev_call (ea_cons (ev_var rfl rfl) (ea_cons (ev_var rfl rfl) (ea_cons (ev_var rfl rfl) ea_nil))) ⟨rk (.ap s l.dropLast), by rw [← hm]; exact rk_head h, W, .ap s l.dropLast, .ap s' l'.dropLast, h1.head, h2.head, rfl, rfl, rfl⟩) ?_
        show Sl.sh _ = Sl.sh (.bl (gew W s l s' l'))
        unfold gew
        rw [dif_neg h, dif_neg h', if_pos hh]
      · have hh : ¬ Tm.ap s l.dropLast ≠ .ap s' l'.dropLast := fun z => z (not_dec_f hh)
        have g1 : atI (l.map Tm.d) (-1) = some (l.getLast h).d := by rw [atI_m1 (by simpa using h), List.getLast_map]
        have g2 : atI (l'.map Tm.d) (-1) = some (l'.getLast h').d := by rw [atI_m1 (by simpa using h'), List.getLast_map]
        refine sx_ret (ev_call (ea_cons (ev_var rfl rfl) (ea_cons (ev_ixT (ev_ixT (ds := [s.d, .tup (l.map Tm.d)]) ((ev_var rfl rfl).of_eq (by rw [d_ap])) ev_int rfl) (ev_neg ev_int) g1) (ea_cons (ev_ixT (ev_ixT (ds := [s'.d, .tup (l'.map Tm.d)]) ((ev_var rfl rfl).of_eq (by rw [d_ap])) ev_int rfl) (ev_neg ev_int) g2) ea_nil)))
          ⟨rk (l.getLast h), by rw [← hm]; exact rk_last h, W, l.getLast h, l'.getLast h', h1.arg' (List.getLast_mem h), h2.arg' (List.getLast_mem h'), rfl, rfl, rfl⟩) ?_
        show Sl.sh _ = Sl.sh (.bl (gew W s l s' l'))
        unfold gew
        rw [dif_neg h, dif_neg h', if_neg hh]
theorem ok_greater {D : Nat} (hD : D ≤ 29) : ∀ m, Ok P w base T (2 * m + D + 6) E.f_greater ["weights", "first", "second"] (R_greater D m) := by
  intro m
  induction m using Nat.strongRecOn with
  | _ m ih =>
    have G_greater_of_equal_weight := ok_gew (P := P) (w := w) (base := base) (T := T) E hD (below_R (fun n ss s ⟨_, _, _, _, _, _, e, _⟩ => by rw [e]; rfl) fun j hj => (ih j hj).mono (show 2 * j + D + 6 ≤ 2 * m + D + 4 by omega))
    have G_is_variable := ok_is_variable (P := P) (w := w) (base := base) (T := T) E
    have G_has_all_variables := ok_has_all_variables (P := P) (w := w) (base := base) (T := T) E D
    have G_term_weight := G_wt (P := P) (w := w) (base := base) (T := T) E D
    refine fn_R E.f_greater.F sc_greater (fun ss s ⟨_, _, _, _, _, _, e, _⟩ => by rw [e]; rfl) fun cdv A outer s H _ hr => ⟨_, (pss_cons (ps_if ((pw_or (kTru K (pe_call G_is_variable (hr.mono (by omega)) (by rfl) E.f_is_variable.g E.f_is_variable.F.kp (b_is_variable E) .nil pass0 (pa_cons (pv 1) pa_nil)) (fun _ => rfl)) (pw_or1 (pt_not (kTru K (pe_call G_has_all_variables (hr.mono (by omega)) (by rfl) E.f_has_all_variables.g E.f_has_all_variables.F.kp (b_has_all_variables E) .nil pass0 (pa_cons (pv 1) (pa_cons (pv 2) pa_nil))) (fun _ => rfl))))).pt)
      (pss_one (ps_ret pe_bl))
      pss_nil)
    (pss_cons (ps_set (i := 3) sc_greater.nd rfl (by first | exact Or.inl rfl | exact Or.inr rfl) (pe_call G_term_weight (hr.mono (by omega)) (by rfl) E.f_term_weight.g E.f_term_weight.F.kp (b_term_weight E) .nil pass0 (pa_cons (pv 0) (pa_cons (pv 1) pa_nil))))
    (pss_cons (ps_set (i := 4) sc_greater.nd rfl (by first | exact Or.inl rfl | exact Or.inr rfl) (pe_call G_term_weight (hr.mono (by omega)) (by rfl) E.f_term_weight.g E.f_term_weight.F.kp (b_term_weight E) .nil pass0 (pa_cons (pv 0) (pa_cons (pv 2) pa_nil))))
    (pss_cons (ps_if (pt_cmpR (kNe K hr.units) (pv 3) (pv 4) (nomark _))
      (pss_one (ps_ret (pe_cmpR op_gt (pv 3) (pv 4) (nomark _))))
      pss_nil)
    (pss_cons (ps_if (kTru K (pe_call G_is_variable (hr.mono (by omega)) (by rfl) E.f_is_variable.g E.f_is_variable.F.kp (b_is_variable E) .nil pass0 (pa_cons (pv 2) pa_nil)) (fun _ => rfl))
      (pss_one (ps_ret pe_bl))
      pss_nil)
    (pss_one (ps_ret (pe_call G_greater_of_equal_weight (hr.mono (by omega)) (by rfl) E.f_greater_of_equal_weight.g E.f_greater_of_equal_weight.F.kp (b_greater_of_equal_weight E) .nil pass0 (pa_cons (pv 0) (pa_cons (pv 1) (pa_cons (pv 2) pa_nil))))))))))), ?_⟩
    rintro ss r ⟨W, s, t, h1, h2, hm, rfl, rfl⟩
    show Sx K T _ [some (.sh (.wts W)), some (.sh s.d), some (.sh t.d), none, none] _
    refine sx_seq (sx_if (b := s.isV || !hav s t) (et_or (et_tru (ev_call (ea_cons (ev_var rfl rfl) ea_nil) ⟨s, rfl, rfl⟩) rfl) fun _ => et_not (et_tru (ev_call (ea_cons (ev_var rfl rfl) (ea_cons (ev_var rfl rfl) ea_nil)) ⟨s, t, h1, h2, rfl, rfl⟩) rfl)) (fun h => ?_) fun h => sx_next ?_)
    · refine sx_ret ev_bl ?_
      show Sl.sh (.bl false) = Sl.sh (.bl (gr W s t))
      cases s with
      | v n => rw [gr_v]
      | ap s l =>
        have h : hav (.ap s l) t = false := by simpa [Tm.isV] using h
        rw [gr_ap, h]; rfl
    · cases s with
      | v n => simp [Tm.isV] at h
      | ap s l =>
        have h : hav (.ap s l) t = true := by simpa [Tm.isV] using h
        refine sx_seq (sx_set (ev_call (ea_cons (ev_var rfl rfl) (ea_cons (ev_var rfl rfl) ea_nil)) ⟨W, .ap s l, h1.dep, rfl, rfl⟩) ?_)
        refine sx_seq (sx_set (ev_call (ea_cons (ev_var rfl rfl) (ea_cons (ev_var rfl rfl) ea_nil)) ⟨W, t, h2.dep, rfl, rfl⟩) ?_)
        refine sx_seq (sx_if (et_test (ev_neI (ev_var rfl rfl) (ev_var rfl rfl))) (fun hw => ?_) fun hw => sx_next ?_)
        · have hw : wt W (.ap s l) ≠ wt W t := by simpa using hw
          refine sx_ret (ev_gt (ev_var rfl rfl) (ev_var rfl rfl)) ?_
          show Sl.sh _ = Sl.sh (.bl (gr W (.ap s l) t))
          rw [gr_ap, h, if_pos hw]; rfl
        · have hw : ¬ wt W (.ap s l) ≠ wt W t := by simpa using hw
          refine sx_seq (sx_if (et_tru (ev_call (ea_cons (ev_var rfl rfl) ea_nil) ⟨t, rfl, rfl⟩) rfl) (fun ht => ?_) fun ht => sx_next ?_)
          · refine sx_ret ev_bl ?_
            show Sl.sh (.bl false) = Sl.sh (.bl (gr W (.ap s l) t))
            cases t with
            | ap s' l' => cases ht
            | v n => rw [gr_ap, h, if_neg hw]; rfl
          · cases t with
            | v n => cases ht
            | ap s' l' =>
              refine sx_ret (ev_call (ea_cons (ev_var rfl rfl) (ea_cons (ev_var rfl rfl) (ea_cons (ev_var rfl rfl) ea_nil))) ⟨W, s, l, s', l', h1, h2, hm, rfl, rfl⟩) ?_
              show Sl.sh _ = Sl.sh (.bl (gr W (.ap s l) (.ap s' l')))
              rw [gr_ap, h, if_neg hw]; rfl
theorem G_gr {D : Nat} (hD : D ≤ 29) : Ok P w base T (5 * D + 6) E.f_greater ["weights", "first", "second"] (fun ss r => ∃ (W : Wts) (s t : Tm), Tok D s ∧ Tok D t ∧ ss = [.sh (.wts W), .sh s.d, .sh t.d] ∧ r = .sh (.bl (gr W s t))) := by
  refine FnOk.toR (below_R (n := 2 * D + 1) (R := R_greater D) (fun n ss s ⟨_, _, _, _, _, _, e, _⟩ => by rw [e]; rfl) fun j hj => (ok_greater (P := P) (w := w) (base := base) (T := T) E hD j).mono (show 2 * j + D + 6 ≤ 5 * D + 6 by omega)) fun ss r ⟨W, s, t, h1, h2, h4⟩ => ⟨rk s, by have := h1.rk; omega, W, s, t, h1, h2, rfl, h4⟩
def cmpD (W : Wts) (s t : Tm) : Dat := if s = t then .str (Str.ofString "same") else if gr W s t = true then .str (Str.ofString "greater") else if gr W t s = true then .str (Str.ofString "less") else .non
def R_compare (D : Nat) : List Sl → Sl → Prop := fun ss r => ∃ (W : Wts) (s t : Tm), Tok D s ∧ Tok D t ∧ ss = [.sh (.wts W), .sh s.d, .sh t.d] ∧ r = .sh (cmpD W s t)
theorem ok_compare {D : Nat} (hD : D ≤ 29) : Ok P w base T (5 * D + 7) E.f_compare ["weights", "first", "second"] (R_compare D) := by
  have G_greater := G_gr (P := P) (w := w) (base := base) (T := T) E hD
  refine fn_R E.f_compare.F sc_compare (fun ss s ⟨_, _, _, _, _, e, _⟩ => by rw [e]; rfl) fun cdv A outer s H _ hr => ⟨_, (pss_cons (ps_if (pt_cmpR (kEq K hr.units) (pv 1) (pv 2) (nomark _))
      (pss_one (ps_ret pe_str))
      pss_nil)
    (pss_cons (ps_if (kTru K (pe_call G_greater (hr.mono (by omega)) (by rfl) E.f_greater.g E.f_greater.F.kp (b_greater E) .nil pass0 (pa_cons (pv 0) (pa_cons (pv 1) (pa_cons (pv 2) pa_nil)))) (fun _ => rfl))
      (pss_one (ps_ret pe_str))
      pss_nil)
    (pss_cons (ps_if (kTru K (pe_call G_greater (hr.mono (by omega)) (by rfl) E.f_greater.g E.f_greater.F.kp (b_greater E) .nil pass0 (pa_cons (pv 0) (pa_cons (pv 2) (pa_cons (pv 1) pa_nil)))) (fun _ => rfl))
      (pss_one (ps_ret pe_str))
      pss_nil)
    (pss_one (ps_ret pe_non))))), ?_⟩
  rintro ss r ⟨W, s, t, h1, h2, rfl, rfl⟩
  show Sx K T _ [some (.sh (.wts W)), some (.sh s.d), some (.sh t.d)] _
  unfold cmpD
  refine sx_seq (sx_if (et_test (ev_eqD (b := decide (s = t)) (ev_var rfl rfl) (ev_var rfl rfl) (tm_plain _) (tm_plain _) (tok_eqD (t := .v 0) hD h1) (tok_eqD (t := .v 0) hD h2) (by rw [decide_eq_true_iff, tm_inj_iff]))) (fun h => ?_) fun h => sx_next ?_)
  · rw [if_pos (of_decide_eq_true h)]
    exact sx_ret ev_str rfl
  · rw [if_neg (of_decide_eq_false h)]
    refine sx_seq (sx_if (et_tru (ev_call (ea_cons (ev_var rfl rfl) (ea_cons (ev_var rfl rfl) (ea_cons (ev_var rfl rfl) ea_nil))) ⟨W, s, t, h1, h2, rfl, rfl⟩) rfl) (fun h => ?_) fun h => sx_next ?_)
    · rw [if_pos h]
      exact sx_ret ev_str rfl
    · rw [if_neg (by rw [h]; exact Bool.false_ne_true)]
      refine sx_seq (sx_if (et_tru (ev_call (ea_cons (ev_var rfl rfl) (ea_cons (ev_var rfl rfl) (ea_cons (ev_var rfl rfl) ea_nil))) ⟨W, t, s, h2, h1, rfl, rfl⟩) rfl) (fun h => ?_) fun h => sx_next ?_)
      · rw [if_pos h]
        exact sx_ret ev_str rfl
      · rw [if_neg (by rw [h]; exact Bool.false_ne_true)]
        exact sx_ret ev_non rfl
end
end
end G3
end

section
set_option Elab.async false
set_option linter.all false
set_option maxRecDepth 100000
set_option maxHeartbeats 1000000
namespace G3
open PySem PySem.Spec PyProof.Rows L2 LamX NdefX
noncomputable section
open scoped Classical
theorem depthL_map {f : Tm → Tm} {l : List Tm} : ∀ t ∈ l, t.depth ≤ depthL l := fun t h => depth_mem h
def clv (acc : List Int) (x : Lit) : List Int := coll (coll acc x.l) x.r
def clvs (acc : List Int) (c : Cl) : List Int := c.foldl clv acc
theorem clVars_eq (c : Cl) : clVars c = clvs [] c := rfl
theorem clvs_take : ∀ (c : Cl) (acc : List Int) (i : Nat) (x : Lit), c[i]? = some x → clvs acc (c.take (i + 1)) = clv (clvs acc (c.take i)) x := by
  intro c acc i x h
  unfold clvs
  rw [List.take_succ, h, List.foldl_append]
  rfl
theorem clvs_mem : ∀ (c : Cl) (acc : List Int) (z : Int), z ∈ clvs acc c ↔ z ∈ acc ∨ ∃ x ∈ c, occ z x.l ≠ 0 ∨ occ z x.r ≠ 0
  | [], acc, z => by simp [clvs]
  | y :: c, acc, z => by
    have h := clvs_mem c (clv acc y) z
    have e : clvs acc (y :: c) = clvs (clv acc y) c := rfl
    rw [e, h]
    unfold clv
    rw [mem_coll, mem_coll]
    constructor
    · rintro (((h | h) | h) | ⟨x, hx, h⟩)
      · exact .inl h
      · exact .inr ⟨y, List.mem_cons_self, .inl h⟩
      · exact .inr ⟨y, List.mem_cons_self, .inr h⟩
      · exact .inr ⟨x, List.mem_cons_of_mem _ hx, h⟩
    · rintro (h1 | ⟨x, hx, h1⟩)
      · exact .inl (.inl (.inl h1))
      · rcases List.mem_cons.mp hx with e | hx
        · subst e
          rcases h1 with h1 | h1
          · exact .inl (.inl (.inr h1))
          · exact .inl (.inr h1)
        · exact .inr ⟨x, hx, h1⟩
theorem clvs_nodup : ∀ (c : Cl) (acc : List Int), acc.Nodup → (clvs acc c).Nodup
  | [], acc, h => h
  | y :: c, acc, h => clvs_nodup c (clv acc y) (nodup_coll _ _ (nodup_coll _ _ h))
theorem Cok.vars {n : Nat} {c : Cl} (h : Cok n c) {m : Nat} : (clvs [] (c.take m)).length ≤ 1000 := by
  refine small_len (clvs_nodup _ _ List.nodup_nil) fun z hz => ?_
  rcases (clvs_mem (c.take m) [] z).mp hz with h1 | ⟨x, hx, h1⟩
  · cases h1
  · have := h.2 x (List.mem_of_mem_take hx)
    rcases h1 with h1 | h1
    · exact this.1.vb z h1
    · exact this.2.vb z h1
section
variable {P : Program} {w : World} {K : PySem.W.Frag} {mg : Str → Option Value} {base : Heap} {T : List NTab} (E : Txt K mg)
def R_put (n : Nat) : List Sl → Sl → Prop := fun ss r => ∃ (t : Tm) (τ : Sub), t.depth = n ∧ t.thin ∧ ss = [.sh t.d, .dct τ.d] ∧ r = .sh (put τ t).d
theorem ok_put : ∀ n, Ok P w base T (n + 1 + 1) E.f_put ["term", "substitution"] (R_put n) := by
  refine rec_R (fun n ss s ⟨t, x, _, _, e, _⟩ => by rw [e]; rfl) fun n G_put => ?_
  have G_is_variable := ok_is_variable (P := P) (w := w) (base := base) (T := T) E
  refine fn_R E.f_put.F sc_put (fun ss s ⟨t, x, _, _, e, _⟩ => by rw [e]; rfl) fun cdv A outer s H _ hr => ⟨_, (pss_cons (ps_if (kTru K (pe_call G_is_variable (hr.mono (by omega)) (by rfl) E.f_is_variable.g E.f_is_variable.F.kp (b_is_variable E) .nil pass0 (pa_cons (pv 0) pa_nil)) (fun _ => rfl))
      (pss_one (ps_ret (pe_dget2 (hu_of hr) (pv 1) (pv 0) (pv 0) ⟨rfl, rfl, rfl, rfl⟩)))
      pss_nil)
    (pss_one (ps_ret (pe_tup (pa_cons (pe_ix (kIx K) (pv 0) pe_int (fun _ _ => rfl)) (pa_cons (pe_callTy (kTuple K) (by rfl) E.m_tuple (by decide +kernel) (pa_cons (pe_lc (own := [("part", 2)]) (by rfl) sc_put.nd (kiTup K (pe_ix (kIx K) (pv 0) pe_int (fun _ _ => rfl))) (blkOk_by (own := [("part", 2)]) (N := ["term", "substitution", "part"]) (sc := (defScope s_put)) (by decide +kernel)) (fun _ _ _ _ _ => (pg_name (i := 2) sc_put.nd rfl (by first | exact Or.inl rfl | exact Or.inr rfl))) (fun _ _ _ _ _ => pts_nil) (fun _ _ _ _ _ => (pe_call G_put (hr.mono (by omega)) (by rfl) E.f_put.g E.f_put.F.kp (b_put E) .nil pass0 (pa_cons (pv 2) (pa_cons (pv 1) pa_nil))))) pa_nil)) pa_nil)))))), ?_⟩
  rintro ss r ⟨t, τ, hd, ha, rfl, rfl⟩
  show Sx K T _ [some (.sh t.d), some (.dct τ.d), none] _
  refine sx_seq (sx_if (et_tru (ev_call (ea_cons (ev_var rfl rfl) ea_nil) ⟨t, rfl, rfl⟩) rfl) (fun h => ?_) fun h => sx_next ?_)
  · cases t with
    | ap s l => cases h
    | v m =>
      refine sx_ret ((ev_dget2 (x := m) (d := (Tm.v m).d) (ev_var rfl rfl) ((ev_var rfl rfl).of_eq (by rw [d_v])) (ev_var rfl rfl)).of_eq ?_) rfl
      rw [getI_sub, put]
      cases look τ m <;> rfl
  · cases t with
    | v m => cases h
    | ap s l =>
      obtain ⟨h1, h2⟩ := thin_ap.mp ha
      have e0 : Ev K T (tVar 0) [some (.sh (Tm.ap s l).d), some (.dct τ.d), none] (.sh (.tup [s.d, .tup (l.map Tm.d)])) := (ev_var rfl rfl).of_eq (by rw [d_ap])
      refine sx_ret ((ev_tup (ds := [s.d, .tup (l.map fun t => (put τ t).d)]) (ea_cons (ev_ixT e0 ev_int rfl) (ea_cons (ev_CB (ea_cons (ev_lcM l Tm.d (fun t => (put τ t).d) (ei_tup (ev_ixT e0 ev_int rfl)) (by omega) fun u hu => ?_) ea_nil) cb_tupO) ea_nil))).of_eq ?_) rfl
      · refine ⟨_, _, tg_name, by decide, ev_call (ea_cons (ev_var rfl rfl) (ea_cons (ev_var rfl rfl) ea_nil)) ⟨u.depth, ?_, u, τ, rfl, h2 u hu, rfl, rfl⟩⟩
        rw [← hd]; exact depth_arg hu
      · rw [put_ap, d_ap, List.map_map]; rfl
theorem G_pt (n : Nat) : Ok P w base T (n + 2) E.f_put ["term", "substitution"] (fun ss r => ∃ (t : Tm) (τ : Sub), t.depth ≤ n ∧ t.thin ∧ ss = [.sh t.d, .dct τ.d] ∧ r = .sh (put τ t).d) :=
  FnOk.toR (below_R (n := n + 1) (R := R_put) (fun n ss s ⟨t, x, _, _, e, _⟩ => by rw [e]; rfl) fun j hj => (ok_put (P := P) (w := w) (base := base) (T := T) E j).mono (show j + 1 + 1 ≤ n + 2 by omega)) fun ss r ⟨t, τ, h1, h2⟩ => ⟨t.depth, by omega, t, τ, rfl, h2⟩
/-- a literal's sides are thin and of bounded depth -/
def Ltn (n : Nat) (x : Lit) : Prop := (x.l.depth ≤ n ∧ x.l.thin) ∧ x.r.depth ≤ n ∧ x.r.thin
theorem Lok.tn {n : Nat} {x : Lit} (h : Lok n x) : Ltn n x := ⟨⟨h.1.dep, h.1.ar⟩, h.2.dep, h.2.ar⟩
def R_put_literal (n : Nat) : List Sl → Sl → Prop := fun ss r => ∃ (x : Lit) (τ : Sub), Ltn n x ∧ ss = [.sh x.d, .dct τ.d] ∧ r = .sh (putLit τ x).d
theorem ok_put_literal (n : Nat) : Ok P w base T (n + 3) E.f_put_literal ["literal", "substitution"] (R_put_literal n) := by
  have G_put := G_pt (P := P) (w := w) (base := base) (T := T) E n
  refine fn_R E.f_put_literal.F sc_put_literal (fun ss s ⟨_, _, _, e, _⟩ => by rw [e]; rfl) fun cdv A outer s H _ hr => ⟨_, (pss_one (ps_ret (pe_tup (pa_cons (pe_ix (kIx K) (pv 0) pe_int (fun _ _ => rfl)) (pa_cons (pe_call G_put (hr.mono (by omega)) (by rfl) E.f_put.g E.f_put.F.kp (b_put E) .nil pass0 (pa_cons (pe_ix (kIx K) (pv 0) pe_int (fun _ _ => rfl)) (pa_cons (pv 1) pa_nil))) (pa_cons (pe_call G_put (hr.mono (by omega)) (by rfl) E.f_put.g E.f_put.F.kp (b_put E) .nil pass0 (pa_cons (pe_ix (kIx K) (pv 0) pe_int (fun _ _ => rfl)) (pa_cons (pv 1) pa_nil))) pa_nil)))))), ?_⟩
  rintro ss r ⟨x, τ, ⟨⟨a1, a2⟩, b1, b2⟩, rfl, rfl⟩
  show Sx K T _ [some (.sh (.tup [.bl x.p, x.l.d, x.r.d])), some (.dct τ.d)] _
  exact sx_ret (ev_tup (ds := [.bl x.p, (put τ x.l).d, (put τ x.r).d]) (ea_cons (ev_ixT (ev_var rfl rfl) ev_int rfl) (ea_cons (ev_call (ea_cons (ev_ixT (ev_var rfl rfl) ev_int rfl) (ea_cons (ev_var rfl rfl) ea_nil)) ⟨x.l, τ, a1, a2, rfl, rfl⟩)
    (ea_cons (ev_call (ea_cons (ev_ixT (ev_var rfl rfl) ev_int rfl) (ea_cons (ev_var rfl rfl) ea_nil)) ⟨x.r, τ, b1, b2, rfl, rfl⟩) ea_nil)))) rfl
def R_put_clause (n : Nat) : List Sl → Sl → Prop := fun ss r => ∃ (c : Cl) (τ : Sub), c.length ≤ 100 ∧ (∀ x ∈ c, Ltn n x) ∧ ss = [.sh c.d, .dct τ.d] ∧ r = .sh (putCl τ c).d
theorem ok_put_clause (n : Nat) : Ok P w base T (n + 4) E.f_put_clause ["clause", "substitution"] (R_put_clause n) := by
  have G_put_literal := ok_put_literal (P := P) (w := w) (base := base) (T := T) E n
  refine fn_R E.f_put_clause.F sc_put_clause (fun ss s ⟨_, _, _, _, e, _⟩ => by rw [e]; rfl) fun cdv A outer s H _ hr => ⟨_, (pss_one (ps_ret (pe_callTy (kTuple K) (by rfl) E.m_tuple (by decide +kernel) (pa_cons (pe_lc (own := [("literal", 2)]) (by rfl) sc_put_clause.nd (kiTup K (pv 0)) (blkOk_by (own := [("literal", 2)]) (N := ["clause", "substitution", "literal"]) (sc := (defScope s_put_clause)) (by decide +kernel)) (fun _ _ _ _ _ => (pg_name (i := 2) sc_put_clause.nd rfl (by first | exact Or.inl rfl | exact Or.inr rfl))) (fun _ _ _ _ _ => pts_nil) (fun _ _ _ _ _ => (pe_call G_put_literal (hr.mono (by omega)) (by rfl) E.f_put_literal.g E.f_put_literal.F.kp (b_put_literal E) .nil pass0 (pa_cons (pv 2) (pa_cons (pv 1) pa_nil))))) pa_nil)))), ?_⟩
  rintro ss r ⟨c, τ, hl, hc, rfl, rfl⟩
  show Sx K T _ [some (.sh (.tup (c.map Lit.d))), some (.dct τ.d), none] _
  refine sx_ret ((ev_CB (ea_cons (ev_lcM c Lit.d (fun x => (putLit τ x).d) (ei_tup (ev_var rfl rfl)) (by omega) fun u hu => ?_) ea_nil) cb_tupO).of_eq ?_) rfl
  · exact ⟨_, _, tg_name, by decide, ev_call (ea_cons (ev_var rfl rfl) (ea_cons (ev_var rfl rfl) ea_nil)) ⟨u, τ, hc u hu, rfl, rfl⟩⟩
  · unfold Cl.d putCl; rw [List.map_map]; rfl
def R_shifted (n : Nat) : List Sl → Sl → Prop := fun ss r => ∃ (t : Tm) (m : Int), t.depth = n ∧ t.thin ∧ ss = [.sh t.d, .sh (.int m)] ∧ r = .sh (shift m t).d
theorem ok_shifted : ∀ n, Ok P w base T (n + 1 + 1) E.f_shifted ["term", "amount"] (R_shifted n) := by
  refine rec_R (fun n ss s ⟨t, x, _, _, e, _⟩ => by rw [e]; rfl) fun n G_shifted => ?_
  have G_is_variable := ok_is_variable (P := P) (w := w) (base := base) (T := T) E
  refine fn_R E.f_shifted.F sc_shifted (fun ss s ⟨t, x, _, _, e, _⟩ => by rw [e]; rfl) fun cdv A outer s H _ hr => ⟨_, (pss_cons (ps_if (kTru K (pe_call G_is_variable (hr.mono (by omega)) (by rfl) E.f_is_variable.g E.f_is_variable.F.kp (b_is_variable E) .nil pass0 (pa_cons (pv 0) pa_nil)) (fun _ => rfl))
      (pss_one (ps_ret (pe_op (kAdd K) (pv 0) (pv 1))))
      pss_nil)
    (pss_one (ps_ret (pe_tup (pa_cons (pe_ix (kIx K) (pv 0) pe_int (fun _ _ => rfl)) (pa_cons (pe_callTy (kTuple K) (by rfl) E.m_tuple (by decide +kernel) (pa_cons (pe_lc (own := [("part", 2)]) (by rfl) sc_shifted.nd (kiTup K (pe_ix (kIx K) (pv 0) pe_int (fun _ _ => rfl))) (blkOk_by (own := [("part", 2)]) (N := ["term", "amount", "part"]) (sc := (defScope s_shifted)) (by decide +kernel)) (fun _ _ _ _ _ => (pg_name (i := 2) sc_shifted.nd rfl (by first | exact Or.inl rfl | exact Or.inr rfl))) (fun _ _ _ _ _ => pts_nil) (fun _ _ _ _ _ => (pe_call G_shifted (hr.mono (by omega)) (by rfl) E.f_shifted.g E.f_shifted.F.kp (b_shifted E) .nil pass0 (pa_cons (pv 2) (pa_cons (pv 1) pa_nil))))) pa_nil)) pa_nil)))))), ?_⟩
  rintro ss r ⟨t, m, hd, ha, rfl, rfl⟩
  show Sx K T _ [some (.sh t.d), some (.sh (.int m)), none] _
  refine sx_seq (sx_if (et_tru (ev_call (ea_cons (ev_var rfl rfl) ea_nil) ⟨t, rfl, rfl⟩) rfl) (fun h => ?_) fun h => sx_next ?_)
  · cases t with
    | ap s l => cases h
    | v k =>
      refine sx_ret ((ev_add (i := k) ((ev_var rfl rfl).of_eq (by rw [d_v])) (ev_var rfl rfl)).of_eq ?_) rfl
      rw [shift, d_v]
  · cases t with
    | v m => cases h
    | ap s l =>
      obtain ⟨h1, h2⟩ := thin_ap.mp ha
      have e0 : Ev K T (tVar 0) [some (.sh (Tm.ap s l).d), some (.sh (.int m)), none] (.sh (.tup [s.d, .tup (l.map Tm.d)])) := (ev_var rfl rfl).of_eq (by rw [d_ap])
      refine sx_ret ((ev_tup (ds := [s.d, .tup (l.map fun t => (shift m t).d)]) (ea_cons (ev_ixT e0 ev_int rfl) (ea_cons (ev_CB (ea_cons (ev_lcM l Tm.d (fun t => (shift m t).d) (ei_tup (ev_ixT e0 ev_int rfl)) (by omega) fun u hu => ?_) ea_nil) cb_tupO) ea_nil))).of_eq ?_) rfl
      · refine ⟨_, _, tg_name, by decide, ev_call (ea_cons (ev_var rfl rfl) (ea_cons (ev_var rfl rfl) ea_nil)) ⟨u.depth, ?_, u, m, rfl, h2 u hu, rfl, rfl⟩⟩
        rw [← hd]; exact depth_arg hu
      · rw [shift_ap, d_ap, List.map_map]; rfl
theorem G_sf (n : Nat) : Ok P w base T (n + 2) E.f_shifted ["term", "amount"] (fun ss r => ∃ (t : Tm) (m : Int), t.depth ≤ n ∧ t.thin ∧ ss = [.sh t.d, .sh (.int m)] ∧ r = .sh (shift m t).d) :=
  FnOk.toR (below_R (n := n + 1) (R := R_shifted) (fun n ss s ⟨t, x, _, _, e, _⟩ => by rw [e]; rfl) fun j hj => (ok_shifted (P := P) (w := w) (base := base) (T := T) E j).mono (show j + 1 + 1 ≤ n + 2 by omega)) fun ss r ⟨t, τ, h1, h2⟩ => ⟨t.depth, by omega, t, τ, rfl, h2⟩
def R_shifted_clause (n : Nat) : List Sl → Sl → Prop := fun ss r => ∃ (c : Cl) (m : Int), c.length ≤ 100 ∧ (∀ x ∈ c, Ltn n x) ∧ ss = [.sh c.d, .sh (.int m)] ∧ r = .sh (shiftCl m c).d
theorem ok_shifted_clause (n : Nat) : Ok P w base T (n + 3) E.f_shifted_clause ["clause", "amount"] (R_shifted_clause n) := by
  have G_shifted := G_sf (P := P) (w := w) (base := base) (T := T) E n
  refine fn_R E.f_shifted_clause.F sc_shifted_clause (fun ss s ⟨_, _, _, _, e, _⟩ => by rw [e]; rfl) fun cdv A outer s H _ hr => ⟨_, (pss_one (ps_ret (pe_callTy (kTuple K) (by rfl) E.m_tuple (by decide +kernel) (pa_cons (pe_lc (own := [("one", 2)]) (by rfl) sc_shifted_clause.nd (kiTup K (pv 0)) (blkOk_by (own := [("one", 2)]) (N := ["clause", "amount", "one"]) (sc := (defScope s_shifted_clause)) (by decide +kernel)) (fun _ _ _ _ _ => (pg_name (i := 2) sc_shifted_clause.nd rfl (by first | exact Or.inl rfl | exact Or.inr rfl))) (fun _ _ _ _ _ => pts_nil) (fun _ _ _ _ _ => (pe_tup (pa_cons (pe_ix (kIx K) (pv 2) pe_int (fun _ _ => rfl)) (pa_cons (pe_call G_shifted (hr.mono (by omega)) (by rfl) E.f_shifted.g E.f_shifted.F.kp (b_shifted E) .nil pass0 (pa_cons (pe_ix (kIx K) (pv 2) pe_int (fun _ _ => rfl)) (pa_cons (pv 1) pa_nil))) (pa_cons (pe_call G_shifted (hr.mono (by omega)) (by rfl) E.f_shifted.g E.f_shifted.F.kp (b_shifted E) .nil pass0 (pa_cons (pe_ix (kIx K) (pv 2) pe_int (fun _ _ => rfl)) (pa_cons (pv 1) pa_nil))) pa_nil)))))) pa_nil)))), ?_⟩
  rintro ss r ⟨c, m, hl, hc, rfl, rfl⟩
  show Sx K T _ [some (.sh (.tup (c.map Lit.d))), some (.sh (.int m)), none] _
  refine sx_ret ((ev_CB (ea_cons (ev_lcM c Lit.d (fun x => (shiftLit m x).d) (ei_tup (ev_var rfl rfl)) (by omega) fun x hx => ?_) ea_nil) cb_tupO).of_eq ?_) rfl
  · obtain ⟨⟨a1, a2⟩, b1, b2⟩ := hc x hx
    refine ⟨_, _, tg_name, by decide, ?_⟩
    show Ev K T _ [some (.sh (.tup (c.map Lit.d))), some (.sh (.int m)), some (.sh (.tup [.bl x.p, x.l.d, x.r.d]))] _
    exact ev_tup (ds := [.bl x.p, (shift m x.l).d, (shift m x.r).d]) (ea_cons (ev_ixT (ev_var rfl rfl) ev_int rfl) (ea_cons (ev_call (ea_cons (ev_ixT (ev_var rfl rfl) ev_int rfl) (ea_cons (ev_var rfl rfl) ea_nil)) ⟨x.l, m, a1, a2, rfl, rfl⟩)
      (ea_cons (ev_call (ea_cons (ev_ixT (ev_var rfl rfl) ev_int rfl) (ea_cons (ev_var rfl rfl) ea_nil)) ⟨x.r, m, b1, b2, rfl, rfl⟩) ea_nil)))
  · unfold Cl.d shiftCl; rw [List.map_map]; rfl
def R_side : List Sl → Sl → Prop := fun ss r => ∃ (x : Lit) (k : Nat), k ≤ 1 ∧ ss = [.sh x.d, .sh (.int k)] ∧ r = .sh (x.side k).d
theorem ok_side : Ok P w base T 1 E.f_side ["literal", "k"] R_side := by
  refine fn_R E.f_side.F sc_side (fun ss s ⟨_, _, _, e, _⟩ => by rw [e]; rfl) fun cdv A outer s H _ hr => ⟨_, (pss_one (ps_ret (pe_ix (kIx K) (pv 0) (pe_op (kAdd K) pe_int (pv 1)) (fun _ _ => rfl)))), ?_⟩
  rintro ss r ⟨x, k, hk, rfl, rfl⟩
  show Sx K T _ [some (.sh (.tup [.bl x.p, x.l.d, x.r.d])), some (.sh (.int k))] _
  refine sx_ret (ev_ixT (ev_var rfl rfl) (ev_add ev_int (ev_var rfl rfl)) ?_) rfl
  rcases Nat.le_one_iff_eq_zero_or_eq_one.mp hk with rfl | rfl <;> rfl
def R_with_side : List Sl → Sl → Prop := fun ss r => ∃ (x : Lit) (k : Nat) (t : Tm), ss = [.sh x.d, .sh (.int k), .sh t.d] ∧ r = .sh (x.with k t).d
theorem ok_with_side : Ok P w base T 1 E.f_with_side ["literal", "k", "term"] R_with_side := by
  refine fn_R E.f_with_side.F sc_with_side (fun ss s ⟨_, _, _, e, _⟩ => by rw [e]; rfl) fun cdv A outer s H _ hr => ⟨_, (pss_cons (ps_if (pt_cmpR (kEq K hr.units) (pv 1) pe_int (nomark _))
      (pss_one (ps_ret (pe_tup (pa_cons (pe_ix (kIx K) (pv 0) pe_int (fun _ _ => rfl)) (pa_cons (pv 2) (pa_cons (pe_ix (kIx K) (pv 0) pe_int (fun _ _ => rfl)) pa_nil))))))
      pss_nil)
    (pss_one (ps_ret (pe_tup (pa_cons (pe_ix (kIx K) (pv 0) pe_int (fun _ _ => rfl)) (pa_cons (pe_ix (kIx K) (pv 0) pe_int (fun _ _ => rfl)) (pa_cons (pv 2) pa_nil))))))), ?_⟩
  rintro ss r ⟨x, k, t, rfl, rfl⟩
  show Sx K T _ [some (.sh (.tup [.bl x.p, x.l.d, x.r.d])), some (.sh (.int k)), some (.sh t.d)] _
  refine sx_seq (sx_if (et_test (ev_eqI (ev_var rfl rfl) ev_int)) (fun h => ?_) fun h => sx_next ?_)
  · have h : (k : Int) = 0 := of_decide_eq_true h
    refine sx_ret (ev_tup (ds := [.bl x.p, t.d, x.r.d]) (ea_cons (ev_ixT (ev_var rfl rfl) ev_int rfl) (ea_cons (ev_var rfl rfl) (ea_cons (ev_ixT (ev_var rfl rfl) ev_int rfl) ea_nil)))) ?_
    show Sl.sh _ = Sl.sh (x.with k t).d
    unfold Lit.with
    rw [if_pos (by omega)]; rfl
  · have h : ¬ (k : Int) = 0 := of_decide_eq_false h
    refine sx_ret (ev_tup (ds := [.bl x.p, x.l.d, t.d]) (ea_cons (ev_ixT (ev_var rfl rfl) ev_int rfl) (ea_cons (ev_ixT (ev_var rfl rfl) ev_int rfl) (ea_cons (ev_var rfl rfl) ea_nil)))) ?_
    show Sl.sh _ = Sl.sh (x.with k t).d
    unfold Lit.with
    rw [if_neg (by omega)]; rfl
/-- both sides shallow enough to be compared -/
def Lsm (x : Lit) : Prop := x.l.depth ≤ 29 ∧ x.r.depth ≤ 29
theorem Lok.sm {n : Nat} {x : Lit} (h : Lok n x) (hn : n ≤ 29) : Lsm x := ⟨Nat.le_trans h.1.dep hn, Nat.le_trans h.2.dep hn⟩
theorem ev_eqTm {ta tb : TE} {δ : AS} {s t : Tm} (ha : Ev K T ta δ (.sh s.d)) (hb : Ev K T tb δ (.sh t.d)) (h1 : s.depth ≤ 29) (h2 : t.depth ≤ 29) : Ev K T (tOp (rEqA K) ta tb) δ (.sh (.bl (decide (s = t)))) :=
  ev_eqD ha hb (tm_plain _) (tm_plain _) (by have := tm_dep s; omega) (by have := tm_dep t; omega) (by rw [decide_eq_true_iff, tm_inj_iff])
def R_same_sides : List Sl → Sl → Prop := fun ss r => ∃ (x y : Lit), Lsm x ∧ Lsm y ∧ ss = [.sh x.d, .sh y.d] ∧ r = .sh (.bl (sameSides x y))
theorem ok_same_sides : Ok P w base T 1 E.f_same_sides ["first", "second"] R_same_sides := by
  refine fn_R E.f_same_sides.F sc_same_sides (fun ss s ⟨_, _, _, _, e, _⟩ => by rw [e]; rfl) fun cdv A outer s H _ hr => ⟨_, (pss_cons (ps_if ((pw_and (pt_cmpR (kEq K hr.units) (pe_ix (kIx K) (pv 0) pe_int (fun _ _ => rfl)) (pe_ix (kIx K) (pv 1) pe_int (fun _ _ => rfl)) (nomark _)) (pw_and1 (pt_cmpR (kEq K hr.units) (pe_ix (kIx K) (pv 0) pe_int (fun _ _ => rfl)) (pe_ix (kIx K) (pv 1) pe_int (fun _ _ => rfl)) (nomark _)))).pt)
      (pss_one (ps_ret pe_bl))
      pss_nil)
    (pss_one (ps_ret (kAnd K (pe_cmpR (kEq K hr.units) (pe_ix (kIx K) (pv 0) pe_int (fun _ _ => rfl)) (pe_ix (kIx K) (pv 1) pe_int (fun _ _ => rfl)) (nomark _)) (pe_one (pe_cmpR (kEq K hr.units) (pe_ix (kIx K) (pv 0) pe_int (fun _ _ => rfl)) (pe_ix (kIx K) (pv 1) pe_int (fun _ _ => rfl)) (nomark _))))))), ?_⟩
  rintro ss r ⟨x, y, ⟨x1, x2⟩, ⟨y1, y2⟩, rfl, rfl⟩
  show Sx K T _ [some (.sh (.tup [.bl x.p, x.l.d, x.r.d])), some (.sh (.tup [.bl y.p, y.l.d, y.r.d]))] _
  refine sx_seq (sx_if (et_and (et_test (ev_eqTm (ev_ixT (ev_var rfl rfl) ev_int rfl) (ev_ixT (ev_var rfl rfl) ev_int rfl) x1 y1)) fun _ => et_test (ev_eqTm (ev_ixT (ev_var rfl rfl) ev_int rfl) (ev_ixT (ev_var rfl rfl) ev_int rfl) x2 y2)) (fun h => ?_) fun h => sx_next ?_)
  · refine sx_ret ev_bl ?_
    show Sl.sh (.bl true) = Sl.sh (.bl (sameSides x y))
    unfold sameSides
    simp only [Bool.and_eq_true, decide_eq_true_eq] at h
    rw [decide_eq_true (.inl h)]
  · refine sx_ret (ev_andB (ev_eqTm (ev_ixT (ev_var rfl rfl) ev_int rfl) (ev_ixT (ev_var rfl rfl) ev_int rfl) x1 y2) fun _ => ev_eqTm (ev_ixT (ev_var rfl rfl) ev_int rfl) (ev_ixT (ev_var rfl rfl) ev_int rfl) x2 y1) ?_
    show Sl.sh (.bl _) = Sl.sh (.bl (sameSides x y))
    unfold sameSides
    simp only [Bool.and_eq_false_iff, decide_eq_false_iff_not] at h
    congr 2
    rw [← Bool.decide_and]
    have : ¬ (x.l = y.l ∧ x.r = y.r) := fun z => h.elim (fun q => q z.1) fun q => q z.2
    exact decide_eq_decide.mpr ⟨.inr, fun z => z.resolve_left this⟩
def R_same : List Sl → Sl → Prop := fun ss r => ∃ (x y : Lit), Lsm x ∧ Lsm y ∧ ss = [.sh x.d, .sh y.d] ∧ r = .sh (.bl (same x y))
theorem ok_same : Ok P w base T 2 E.f_same ["first", "second"] R_same := by
  have G_same_sides := ok_same_sides (P := P) (w := w) (base := base) (T := T) E
  refine fn_R E.f_same.F sc_same (fun ss s ⟨_, _, _, _, e, _⟩ => by rw [e]; rfl) fun cdv A outer s H _ hr => ⟨_, (pss_one (ps_ret (kAnd K (pe_cmpR (kEq K hr.units) (pe_ix (kIx K) (pv 0) pe_int (fun _ _ => rfl)) (pe_ix (kIx K) (pv 1) pe_int (fun _ _ => rfl)) (nomark _)) (pe_one (pe_call G_same_sides (hr.mono (by omega)) (by rfl) E.f_same_sides.g E.f_same_sides.F.kp (b_same_sides E) .nil pass0 (pa_cons (pv 0) (pa_cons (pv 1) pa_nil))))))), ?_⟩
  rintro ss r ⟨x, y, hx, hy, rfl, rfl⟩
  show Sx K T _ [some (.sh (.tup [.bl x.p, x.l.d, x.r.d])), some (.sh (.tup [.bl y.p, y.l.d, y.r.d]))] _
  exact sx_ret (ev_andB (ev_eqB (ev_ixT (ev_var rfl rfl) ev_int rfl) (ev_ixT (ev_var rfl rfl) ev_int rfl)) fun _ => ev_call (ea_cons (ev_var rfl rfl) (ea_cons (ev_var rfl rfl) ea_nil)) ⟨x, y, hx, hy, rfl, rfl⟩) rfl
def R_clause_variables (n : Nat) : List Sl → Sl → Prop := fun ss r => ∃ c : Cl, Cok n c ∧ ss = [.sh c.d] ∧ r = .own ((clVars c).map Dat.int)
theorem ok_clause_variables (n : Nat) : Ok P w base T (n + 3) E.f_clause_variables ["clause"] (R_clause_variables n) := by
  have G_collect := G_col (P := P) (w := w) (base := base) (T := T) E n
  refine fn_R E.f_clause_variables.F sc_clause_variables (fun ss s ⟨_, _, e, _⟩ => by rw [e]; rfl) fun cdv A outer s H _ hr => ⟨_, (pss_cons (ps_set (i := 1) sc_clause_variables.nd rfl (by first | exact Or.inl rfl | exact Or.inr rfl) (pe_lst pa_nil))
    (pss_cons (ps_for PassesOwn.never rfl (kiTup K (pv 0)) (pg_name (i := 2) sc_clause_variables.nd rfl (by first | exact Or.inl rfl | exact Or.inr rfl))
      (pss_cons (ps_expr (pe_call G_collect (hr.mono (by omega)) (by rfl) E.f_collect.g E.f_collect.F.kp (b_collect E) .nil pass0 (pa_cons (pe_ix (kIx K) (pv 2) pe_int (fun _ _ => rfl)) (pa_cons (pv 1) pa_nil))))
      (pss_one (ps_expr (pe_call G_collect (hr.mono (by omega)) (by rfl) E.f_collect.g E.f_collect.F.kp (b_collect E) .nil pass0 (pa_cons (pe_ix (kIx K) (pv 2) pe_int (fun _ _ => rfl)) (pa_cons (pv 1) pa_nil)))))))
    (pss_one (ps_ret (pv 1))))), ?_⟩
  rintro ss r ⟨c, hc, rfl, rfl⟩
  show Sx K T _ [some (.sh (.tup (c.map Lit.d))), none, none] _
  refine sx_seq (sx_set (ev_lst (ds := []) ea_nil) ?_)
  refine sx_seq (sx_for (ei_tup (ev_var rfl rfl)) (fun i δ => ∃ o, δ = [some (.sh (.tup (c.map Lit.d))), some (.own ((clvs [] (c.take i)).map Dat.int)), o]) ⟨none, rfl⟩ ?_ ?_)
  · rintro i d δ' hi ⟨o, rfl⟩
    obtain ⟨x, hx, rfl⟩ := at_map hi
    have hok := hc.at hx
    have hlen := hc.vars (m := i + 1)
    rw [clvs_take c [] i x hx] at hlen
    refine ⟨_, _, tg_name, ?_⟩
    show Sx K T _ [some (.sh (.tup (c.map Lit.d))), some (.own ((clvs [] (c.take i)).map Dat.int)), some (.sh (.tup [.bl x.p, x.l.d, x.r.d]))] _
    refine sx_seq (sx_collect (t := x.l) rfl (ev_ixT (ev_var rfl rfl) ev_int rfl) hok.1.dep ?_ ?_)
    · exact Nat.le_trans (coll_le x.r _) (Nat.le_trans hlen (by decide))
    · refine sx_collect (t := x.r) rfl (ev_ixT (ev_var rfl rfl) ev_int rfl) hok.2.dep (Nat.le_trans hlen (by decide)) ?_
      exact ⟨some (.sh (.tup [.bl x.p, x.l.d, x.r.d])), by rw [clvs_take c [] i x hx]; rfl⟩
  · rintro δ' ⟨o, rfl⟩
    refine sx_retOwn (ds := (clvs [] c).map Dat.int) ?_ rfl
    rw [List.length_map, List.take_length]
    rfl
end
end
end G3
end

section
set_option Elab.async false
set_option linter.all false
set_option maxRecDepth 100000
set_option maxHeartbeats 1000000
namespace G3
open PySem PySem.Spec PyProof.Rows L2 LamX NdefX
noncomputable section
open scoped Classical
section
variable {K : PySem.W.Frag} {T : List NTab} {δ : AS} {s : Sl}
theorem ev_callL {R : List Sl → Sl → Prop} {ta : TA} {ss : List Sl} {E : XK} {i : Nat} {f : Addr} (hi : δ[i]? = some (some (.raw (.ref f)))) (h : EvA K T ta δ ss) (r : R ss s) (a : ss.all Sl.isArg = true := by rfl) : Ev K T (tCallL i f (spR K T R) [] E ta) δ s := fun H0 H σ rl Q q => by
  obtain ⟨v, h1, rfl⟩ := rl.ok i _ hi
  exact ⟨h1, h H0 H σ rl _ fun vs H1 g1 t1 o1 => ⟨ss, s, r, by rw [List.append_nil]; exact args_here o1 a, t1, fun v H2 g2 t2 o2 => q v H2 (g1.trans g2) t2 (o2.base g1.n)⟩⟩
end
theorem idxOf_take : ∀ (l : List Tm) (t : Tm) (i : Nat) (u : Tm), l[i]? = some u → idxOf (l.take i) t = none → idxOf (l.take (i + 1)) t = if u = t then some i else none := by
  intro l t i u h e
  unfold idxOf at e ⊢
  have hl : (l.take i).length = i := by
    have := (List.getElem?_eq_some_iff.mp h).1
    rw [List.length_take]; omega
  rw [List.take_succ, h, List.findIdx?_append, e, hl]
  by_cases hu : u = t <;> simp [hu]
theorem idxOf_pre : ∀ (l : List Tm) (t : Tm) (n k : Nat), idxOf (l.take n) t = some k → idxOf l t = some k := by
  intro l t n k h
  unfold idxOf at h ⊢
  conv => lhs; rw [← List.take_append_drop n l]
  rw [List.findIdx?_append, h]
  rfl
theorem idxOf_lt {l : List Tm} {t : Tm} {k : Nat} (h : idxOf l t = some k) : k < l.length := by
  unfold idxOf at h
  exact (List.findIdx?_eq_some_iff_getElem.mp h).1
def idxD : Option Nat → Dat
  | none => .non
  | some k => .int (k : Nat)
section
variable {P : Program} {w : World} {K : PySem.W.Frag} {mg : Str → Option Value} {base : Heap} {T : List NTab} (E : Txt K mg)
def R_equal_terms : List Sl → Sl → Prop := fun ss r => ∃ (s t : Tm), s.depth ≤ 29 ∧ t.depth ≤ 29 ∧ ss = [.sh s.d, .sh t.d] ∧ r = .sh (.bl (decide (s = t)))
theorem ok_equal_terms : Ok P w base T 1 E.f_equal_terms ["first", "second"] R_equal_terms := by
  refine fn_R E.f_equal_terms.F sc_equal_terms (fun ss s ⟨_, _, _, _, e, _⟩ => by rw [e]; rfl) fun cdv A outer s H _ hr => ⟨_, (pss_one (ps_ret (pe_cmpR (kEq K hr.units) (pv 0) (pv 1) (nomark _)))), ?_⟩
  rintro ss r ⟨s, t, h1, h2, rfl, rfl⟩
  show Sx K T _ [some (.sh s.d), some (.sh t.d)] _
  exact sx_ret (ev_eqTm (ev_var rfl rfl) (ev_var rfl rfl) h1 h2) rfl
def R_index_of : List Sl → Sl → Prop := fun ss r => ∃ (l : List Tm) (t : Tm), (∀ u ∈ l, u.depth ≤ 29) ∧ l.length ≤ 1000 ∧ t.depth ≤ 29 ∧ ss = [.lst (l.map Tm.d), .sh t.d, .raw (.ref E.f_equal_terms.f)] ∧ r = .sh (idxD (idxOf l t))
theorem ok_index_of : Ok P w base T 2 E.f_index_of ["listed", "one", "equal"] (R_index_of E) := by
  have G_equal_terms := ok_equal_terms (P := P) (w := w) (base := base) (T := T) E
  refine fn_R E.f_index_of.F sc_index_of (fun ss s ⟨_, _, _, _, _, e, _⟩ => by rw [e]; rfl) fun cdv A outer s H _ hr => ⟨_, (pss_cons (ps_for PassesOwn.never rfl (kiEnum K (by rfl) E.m_enumerate (pa_cons (pv 0) pa_nil)) (kgTup K (n := 2) rfl (pgs_cons (pg_name (i := 3) sc_index_of.nd rfl (by first | exact Or.inl rfl | exact Or.inr rfl)) (pgs_cons (pg_name (i := 4) sc_index_of.nd rfl (by first | exact Or.inl rfl | exact Or.inr rfl)) pgs_nil)))
      (pss_one (ps_if (kTru K (pe_callL (i := 2) G_equal_terms (hr.mono (by omega)) rfl (by first | exact Or.inl rfl | exact Or.inr (Or.inl rfl) | exact Or.inr (Or.inr rfl)) E.f_equal_terms.F.kp (b_equal_terms E) .nil pass0 (pa_cons (pv 4) (pa_cons (pv 1) pa_nil))) (fun _ => rfl))
        (pss_one (ps_ret (pv 3)))
        pss_nil)))
    (pss_one (ps_ret pe_non))), ?_⟩
  rintro ss r ⟨l, t, h1, hl, h2, rfl, rfl⟩
  show Sx K T _ [some (.lst (l.map Tm.d)), some (.sh t.d), some (.raw (.ref E.f_equal_terms.f)), none, none] _
  refine sx_seq (sx_for (ei_enumVar rfl) (fun i δ => (∃ o p, δ = [some (.lst (l.map Tm.d)), some (.sh t.d), some (.raw (.ref E.f_equal_terms.f)), o, p]) ∧ idxOf (l.take i) t = none) ⟨⟨none, none, rfl⟩, rfl⟩ ?_ ?_)
  · rintro i d δ' hi ⟨⟨o, p, rfl⟩, hn⟩
    obtain ⟨u, hu, rfl⟩ : ∃ u, l[i]? = some u ∧ d = .tup [.int (i : Nat), u.d] := by
      unfold enu at hi
      rw [List.getElem?_mapIdx, List.getElem?_map] at hi
      cases hl' : l[i]? with
      | none => rw [hl'] at hi; cases hi
      | some u => rw [hl'] at hi; cases hi; exact ⟨u, rfl, rfl⟩
    have hud := h1 u (List.mem_of_getElem? hu)
    refine ⟨_, _, tg_tup (tg_cons tg_name (tg_cons tg_name tg_nil)), ?_⟩
    show Sx K T _ [some (.lst (l.map Tm.d)), some (.sh t.d), some (.raw (.ref E.f_equal_terms.f)), some (.sh (.int (i : Nat))), some (.sh u.d)] _
    have hs := idxOf_take l t i u hu hn
    refine sx_if (et_tru (ev_callL rfl (ea_cons (ev_var rfl rfl) (ea_cons (ev_var rfl rfl) ea_nil)) ⟨u, t, hud, h2, rfl, rfl⟩) rfl) (fun h => ?_) fun h => sx_next ?_
    · rw [if_pos (of_decide_eq_true h)] at hs
      refine sx_ret (ev_var rfl rfl) ?_
      show Sl.sh (.int (i : Nat)) = Sl.sh (idxD (idxOf l t))
      rw [idxOf_pre l t _ i hs]
      rfl
    · rw [if_neg (of_decide_eq_false h)] at hs
      exact ⟨⟨_, _, rfl⟩, hs⟩
  · rintro δ' ⟨⟨o, p, rfl⟩, hn⟩
    rw [enu_len, List.length_map, List.take_length] at hn
    refine sx_ret ev_non ?_
    show Sl.sh .non = Sl.sh (idxD (idxOf l t))
    rw [hn]
    rfl
def R_big (W : Wts) (D : Nat) : List Sl → Sl → Prop := fun ss r => ∃ (s t : Tm), Tok D s ∧ Tok D t ∧ ss = [.sh s.d, .sh t.d] ∧ r = .sh (.bl (gr W s t))
def R_is_more (W : Wts) (D : Nat) (φ : Hp → V → Prop) : List Sl → Sl → Prop := fun ss r => ∃ (l m : List Tm), (∀ u ∈ l, Tok D u) ∧ l.length ≤ 10 ∧ (∀ u ∈ m, Tok D u) ∧ m.length ≤ 10 ∧ ss = [.lst (l.map Tm.d), .lst (m.map Tm.d), .raw (.ref E.f_equal_terms.f), .fn φ] ∧ r = .sh (.bl (isMore (gr W) l m))
/-- what the loop of is_more keeps -/
theorem moreStep_ok {l m : List Tm} {t : Tm} : ∀ u, (u ∈ (moreStep (l, m) t).1 → u ∈ l) ∧ (u ∈ (moreStep (l, m) t).2 → u ∈ m ∨ u = t) := by
  intro u
  unfold moreStep
  cases h : idxOf l t with
  | none => simp
  | some k => exact ⟨fun z => (List.mem_of_mem_eraseIdx z), fun z => .inl z⟩
theorem moreStep_len {l m : List Tm} {t : Tm} : (moreStep (l, m) t).1.length ≤ l.length ∧ (moreStep (l, m) t).2.length ≤ m.length + 1 := by
  unfold moreStep
  cases h : idxOf l t with
  | none => simp
  | some k =>
    refine ⟨?_, by simp⟩
    show (l.eraseIdx k).length ≤ _
    rw [List.length_eraseIdx]
    split <;> omega
theorem cut_to {α : Type} (l : List α) (k : Nat) (h : k ≤ l.length) : cut l none (some (k : Int)) = l.take k := by
  unfold cut
  rw [HT.sIx_none, HT.sIx_nat, Nat.min_eq_left h]
  simp
theorem cut_from {α : Type} (l : List α) (k : Nat) (h : k ≤ l.length) : cut l (some (k : Int)) none = l.drop k := by
  unfold cut
  rw [HT.sIx_none, HT.sIx_nat, Nat.min_eq_left h]
  rw [List.take_of_length_le]
  simp
theorem cut_erase {α : Type} (l : List α) (k : Nat) (h : k < l.length) : cut l none (some (k : Int)) ++ cut l (some ((k : Int) + 1)) none = l.eraseIdx k := by
  rw [cut_to l k (by omega), show ((k : Int) + 1) = ((k + 1 : Nat) : Int) by omega, cut_from l (k + 1) (by omega), List.eraseIdx_eq_take_drop_succ]
theorem more_at (l m : List Tm) (W : Wts) : isMore (gr W) l m = (let p := l.foldl moreStep (m, []); !p.2.isEmpty && p.1.all fun e => p.2.any fun o => gr W o e) := rfl
theorem fold_take (l : List Tm) (p : List Tm × List Tm) (i : Nat) (u : Tm) (h : l[i]? = some u) : (l.take (i + 1)).foldl moreStep p = moreStep ((l.take i).foldl moreStep p) u := by
  rw [List.take_succ, h, List.foldl_append]
  rfl
theorem ok_is_more {W : Wts} {D kb : Nat} {φ : Hp → V → Prop} (hD : D ≤ 29) (hk : 2 ≤ kb) (VR : VRun P w K mg base T kb φ (R_big W D)) : Ok P w base T (kb + 1) E.f_is_more ["first", "second", "equal", "bigger"] (R_is_more E W D φ) := by
  have G_index_of := ok_index_of (P := P) (w := w) (base := base) (T := T) E
  refine fn_R E.f_is_more.F sc_is_more (fun ss s ⟨_, _, _, _, _, _, e, _⟩ => by rw [e]; rfl) fun cdv A outer s H _ hr => ⟨_, (pss_cons (ps_set (i := 4) sc_is_more.nd rfl (by first | exact Or.inl rfl | exact Or.inr rfl) (pe_callTy (kList K) (by rfl) E.m_list (by decide +kernel) (pa_cons (pv 1) pa_nil)))
    (pss_cons (ps_set (i := 5) sc_is_more.nd rfl (by first | exact Or.inl rfl | exact Or.inr rfl) (pe_lst pa_nil))
    (pss_cons (ps_for PassesOwn.never rfl (kiList K (pv 0)) (pg_name (i := 6) sc_is_more.nd rfl (by first | exact Or.inl rfl | exact Or.inr rfl))
      (pss_cons (ps_set (i := 7) sc_is_more.nd rfl (by first | exact Or.inl rfl | exact Or.inr rfl) (pe_call G_index_of (hr.mono (by omega)) (by rfl) E.f_index_of.g E.f_index_of.F.kp (b_index_of E) .nil pass0 (pa_cons (pv 4) (pa_cons (pv 6) (pa_cons (pv 2) pa_nil)))))
      (pss_one (ps_if (pt_cmpR op_isNN (pv 7) pe_non (nomark _))
        (pss_one (ps_expr (pe_bm PySem.F.plainAttrs_list PySem.F.slot_list_append PySem.F.type_list_append mt_append (pv 5) (pa_cons (pv 6) pa_nil))))
        (pss_one (ps_set (i := 4) sc_is_more.nd rfl (by first | exact Or.inl rfl | exact Or.inr rfl) (pe_op (kAdd K) (pe_slice (kSl K) (pv 4) po_none (po_some (pv 7))) (pe_slice (kSl K) (pv 4) (po_some (pe_op (kAdd K) (pv 7) pe_int)) po_none))))))))
    (pss_cons (ps_if (pt_not (kTru K (pv 5) (fun _ => rfl)))
      (pss_one (ps_ret pe_bl))
      pss_nil)
    (pss_cons (ps_for PassesOwn.never rfl (kiList K (pv 4)) (pg_name (i := 8) sc_is_more.nd rfl (by first | exact Or.inl rfl | exact Or.inr rfl))
      (pss_one (ps_if (pt_not (kTru K (pe_lc (own := [("one", 6)]) (by rfl) sc_is_more.nd (kiList K (pv 5)) (blkOk_by (own := [("one", 6)]) (N := ["first", "second", "equal", "bigger", "rest", "left", "one", "k", "element"]) (sc := (defScope s_is_more)) (by decide +kernel)) (fun _ _ _ _ _ => (pg_name (i := 6) sc_is_more.nd rfl (by first | exact Or.inl rfl | exact Or.inr rfl))) (fun _ _ _ _ _ => (pts_one (kTru K (kCallV (i := 3) K VR (hr.mono (by omega)) rfl (by first | exact Or.inl rfl | exact Or.inr (Or.inl rfl) | exact Or.inr (Or.inr rfl)) (pa_cons (pv 6) (pa_cons (pv 8) pa_nil))) (fun _ => rfl)))) (fun _ _ _ _ _ => (pv 6))) (fun _ => rfl)))
        (pss_one (ps_ret pe_bl))
        pss_nil)))
    (pss_one (ps_ret pe_bl))))))), ?_⟩
  rintro ss r ⟨l, m, h1, hl, h2, hm, rfl, rfl⟩
  show Sx K T _ [some (.lst (l.map Tm.d)), some (.lst (m.map Tm.d)), some (.raw (.ref E.f_equal_terms.f)), some (.fn φ), none, none, none, none, none] _
  refine sx_seq (sx_set (ev_CB (ea_cons (ev_var rfl rfl) ea_nil) cb_listL) ?_)
  refine sx_seq (sx_set (ev_lst (ds := []) ea_nil) ?_)
  have inv : ∀ i, i ≤ l.length → (∀ u ∈ ((l.take i).foldl moreStep (m, [])).1, Tok D u) ∧ (∀ u ∈ ((l.take i).foldl moreStep (m, [])).2, Tok D u) ∧ ((l.take i).foldl moreStep (m, [])).1.length ≤ 10 ∧ ((l.take i).foldl moreStep (m, [])).2.length ≤ i := by
    intro i
    induction i with
    | zero => intro _; exact ⟨h2, (fun u z => by cases z), hm, Nat.le_refl _⟩
    | succ i ih =>
      intro hi
      obtain ⟨a, b, c, d⟩ := ih (by omega)
      have hu : l[i]? = some l[i] := by simp [show i < l.length by omega]
      rw [fold_take l _ i _ hu]
      generalize (l.take i).foldl moreStep (m, []) = p at a b c d ⊢
      obtain ⟨p1, p2⟩ := p
      dsimp only at a b c d
      have q1 := moreStep_ok (l := p1) (m := p2) (t := l[i])
      have q2 := moreStep_len (l := p1) (m := p2) (t := l[i])
      exact ⟨fun u z => a u ((q1 u).1 z), fun u z => ((q1 u).2 z).elim (b u) fun e => e ▸ h1 _ (List.getElem_mem _), Nat.le_trans q2.1 c, by have := q2.2; omega⟩
  refine sx_seq (sx_for (ei_var rfl) (fun i δ => ∃ o p, δ = [some (.lst (l.map Tm.d)), some (.lst (m.map Tm.d)), some (.raw (.ref E.f_equal_terms.f)), some (.fn φ), some (.own (((l.take i).foldl moreStep (m, [])).1.map Tm.d)), some (.own (((l.take i).foldl moreStep (m, [])).2.map Tm.d)), o, p, none]) ⟨none, none, rfl⟩ ?_ ?_)
  · rintro i d δ' hi ⟨o, p, rfl⟩
    obtain ⟨u, hu, rfl⟩ := at_map hi
    have hu0 := h1 u (List.mem_of_getElem? hu)
    have hlt : i < l.length := (List.getElem?_eq_some_iff.mp hu).1
    obtain ⟨a1, b1, c1, d1⟩ := inv i (by omega)
    have hf := fold_take l (m, []) i u hu
    generalize hp : (l.take i).foldl moreStep (m, []) = p' at a1 b1 c1 d1 hf ⊢
    obtain ⟨p1, p2⟩ := p'
    dsimp only at a1 b1 c1 d1
    refine ⟨_, _, tg_name, ?_⟩
    show Sx K T _ [some (.lst (l.map Tm.d)), some (.lst (m.map Tm.d)), some (.raw (.ref E.f_equal_terms.f)), some (.fn φ), some (.own (p1.map Tm.d)), some (.own (p2.map Tm.d)), some (.sh u.d), p, none] _
    refine sx_seq (sx_set (ev_call (ea_cons (ev_own rfl) (ea_cons (ev_var rfl rfl) (ea_cons (ev_var rfl rfl) ea_nil))) ⟨p1, u, fun v hv => Nat.le_trans (a1 v hv).dep hD, by omega, Nat.le_trans hu0.dep hD, rfl, rfl⟩) ?_)
    show Sx K T _ [some (.lst (l.map Tm.d)), some (.lst (m.map Tm.d)), some (.raw (.ref E.f_equal_terms.f)), some (.fn φ), some (.own (p1.map Tm.d)), some (.own (p2.map Tm.d)), some (.sh u.d), some (.sh (idxD (idxOf p1 u))), none] _
    cases hx : idxOf p1 u with
    | none =>
      refine sx_if (b := true) (et_test (ev_isN (ev_var rfl rfl) rfl)) (fun _ => ?_) fun h => nomatch h
      refine sx_append rfl (ev_var rfl rfl) (by rw [List.length_map]; omega) ?_
      have e : moreStep (p1, p2) u = (p1, p2 ++ [u]) := by
        unfold moreStep
        dsimp only
        rw [hx]
      refine ⟨some (.sh u.d), some (.sh .non), ?_⟩
      rw [hf, e]
      simp only [List.map_append, List.map_cons, List.map_nil]
      rfl
    | some k =>
      refine sx_if (b := false) (et_test (ev_isN (ev_var rfl rfl) rfl)) (fun h => nomatch h) fun _ => ?_
      have hk := idxOf_lt hx
      refine sx_set (ev_catL ((ev_slL (ev_own rfl) eo_none (eo_some (ev_var rfl rfl))).shared) ((ev_slL (ev_own rfl) (eo_some (ev_add (ev_var rfl rfl) ev_int)) eo_none).shared) ?_) ?_
      · have q1 := cut_erase (p1.map Tm.d) k (by rw [List.length_map]; exact hk)
        have q2 := congrArg List.length q1
        rw [List.length_append, List.length_eraseIdx, List.length_map] at q2
        rw [q2]
        split <;> omega
      · have e : moreStep (p1, p2) u = (p1.eraseIdx k, p2) := by
          unfold moreStep
          dsimp only
          rw [hx]
        have e2 : cut (p1.map Tm.d) none (some (k : Int)) ++ cut (p1.map Tm.d) (some ((k : Int) + 1)) none = (p1.eraseIdx k).map Tm.d := by
          rw [cut_erase (p1.map Tm.d) k (by rw [List.length_map]; exact hk), List.eraseIdx_eq_take_drop_succ, List.eraseIdx_eq_take_drop_succ, List.map_append, List.map_take, List.map_drop]
        refine ⟨some (.sh u.d), some (.sh (.int (k : Nat))), ?_⟩
        rw [hf, e, ← e2]
        rfl
  · rintro δ' ⟨o, p, rfl⟩
    obtain ⟨a1, b1, c1, d1⟩ := inv l.length (Nat.le_refl _)
    rw [List.length_map, more_at]
    rw [List.take_length] at a1 b1 c1 d1 ⊢
    generalize l.foldl moreStep (m, []) = p' at a1 b1 c1 d1 ⊢
    obtain ⟨p1, p2⟩ := p'
    dsimp only at a1 b1 c1 d1
    show Sx K T _ [some (.lst (l.map Tm.d)), some (.lst (m.map Tm.d)), some (.raw (.ref E.f_equal_terms.f)), some (.fn φ), some (.own (p1.map Tm.d)), some (.own (p2.map Tm.d)), o, p, none] _
    refine sx_seq (sx_if ((et_not (et_tru (ev_own rfl) rfl)).of_eq (isEmpty_dec p2)) (fun h => ?_) fun h => sx_next ?_)
    · have h := of_decide_eq_true h
      refine sx_ret ev_bl ?_
      show Sl.sh (.bl false) = Sl.sh (.bl _)
      subst h
      rfl
    · have h := of_decide_eq_false h
      refine sx_freeze (i := 4) (ds := p1.map Tm.d) rfl ?_
      refine sx_freeze (i := 5) (ds := p2.map Tm.d) rfl ?_
      refine sx_seq (sx_for (ei_var rfl) (fun i δ => (∃ q, δ = [some (.lst (l.map Tm.d)), some (.lst (m.map Tm.d)), some (.raw (.ref E.f_equal_terms.f)), some (.fn φ), some (.lst (p1.map Tm.d)), some (.lst (p2.map Tm.d)), o, p, q]) ∧ ∀ e ∈ p1.take i, p2.any (fun o => gr W o e) = true) ⟨⟨none, rfl⟩, by simp⟩ ?_ ?_)
      · rintro i d δ' hi ⟨⟨q, rfl⟩, hq⟩
        obtain ⟨e, he, rfl⟩ := at_map hi
        have he0 := a1 e (List.mem_of_getElem? he)
        refine ⟨_, _, tg_name, ?_⟩
        show Sx K T _ [some (.lst (l.map Tm.d)), some (.lst (m.map Tm.d)), some (.raw (.ref E.f_equal_terms.f)), some (.fn φ), some (.lst (p1.map Tm.d)), some (.lst (p2.map Tm.d)), o, p, some (.sh e.d)] _
        have hfil := ev_lcF (K := K) (T := T) (δ := [some (.lst (l.map Tm.d)), some (.lst (m.map Tm.d)), some (.raw (.ref E.f_equal_terms.f)), some (.fn φ), some (.lst (p1.map Tm.d)), some (.lst (p2.map Tm.d)), o, p, some (.sh e.d)]) (te := tVar 6) (tt := tTru K (tCallV 3 φ (spR K T (R_big W D)) (tCons (tVar 6) (tCons (tVar 8) tNil)))) (vs := [6]) (g := gName 6) p2 Tm.d Tm.d (fun u => gr W u e) (ei_var (i := 5) rfl) (by omega) fun u hu => ⟨_, _, tg_name, by simp, et_tru (ev_callV rfl (ea_cons (ev_var rfl rfl) (ea_cons (ev_var rfl rfl) ea_nil)) ⟨u, e, b1 u hu, he0, rfl, rfl⟩) rfl, fun _ => ev_var rfl rfl⟩
        refine sx_if ((et_not (et_tru hfil rfl)).of_eq (isEmpty_dec _)) (fun h => ?_) fun h => sx_next ?_
        · have h := of_decide_eq_true h
          refine sx_ret ev_bl ?_
          show Sl.sh (.bl false) = Sl.sh (.bl (!p2.isEmpty && p1.all fun e => p2.any fun o => gr W o e))
          have hno : p2.any (fun o => gr W o e) = false := by
            rw [List.any_eq_false]
            intro o ho
            exact (List.filter_eq_nil_iff.mp h) o ho
          have : (p1.all fun e => p2.any fun o => gr W o e) = false := by
            rw [List.all_eq_false]
            exact ⟨e, List.mem_of_getElem? he, by rw [hno]; exact Bool.false_ne_true⟩
          rw [this, Bool.and_false]
        · have h := of_decide_eq_false h
          refine ⟨⟨_, rfl⟩, fun e' he' => ?_⟩
          rw [List.take_succ, he] at he'
          rcases List.mem_append.mp he' with z | z
          · exact hq e' z
          · simp only [Option.toList_some, List.mem_singleton] at z
            subst z
            cases hx : p2.any (fun o => gr W o e') with
            | true => rfl
            | false =>
              refine absurd (List.filter_eq_nil_iff.mpr fun u hu => ?_) h
              exact (List.any_eq_false.mp hx) u hu
      · rintro δ' ⟨⟨q, rfl⟩, hq⟩
        refine sx_ret ev_bl ?_
        rw [List.length_map, List.take_length] at hq
        show Sl.sh (.bl true) = Sl.sh (.bl (!p2.isEmpty && p1.all fun e => p2.any fun o => gr W o e))
        rw [List.all_eq_true.mpr hq, Bool.and_true]
        cases p2 with
        | nil => exact absurd rfl h
        | cons a b => rfl
def R_sides_of : List Sl → Sl → Prop := fun ss r => ∃ (x : Lit), ss = [.sh x.d] ∧ r = .own ((sidesOf x).map Tm.d)
theorem ok_sides_of : Ok P w base T 1 E.f_sides_of ["literal"] R_sides_of := by
  refine fn_R E.f_sides_of.F sc_sides_of (fun ss s ⟨_, e, _⟩ => by rw [e]; rfl) fun cdv A outer s H _ hr => ⟨_, (pss_cons (ps_if (kTru K (pe_ix (kIx K) (pv 0) pe_int (fun _ _ => rfl)) (fun _ => rfl))
      (pss_one (ps_ret (pe_lst (pa_cons (pe_ix (kIx K) (pv 0) pe_int (fun _ _ => rfl)) (pa_cons (pe_ix (kIx K) (pv 0) pe_int (fun _ _ => rfl)) pa_nil)))))
      pss_nil)
    (pss_one (ps_ret (pe_lst (pa_cons (pe_ix (kIx K) (pv 0) pe_int (fun _ _ => rfl)) (pa_cons (pe_ix (kIx K) (pv 0) pe_int (fun _ _ => rfl)) (pa_cons (pe_ix (kIx K) (pv 0) pe_int (fun _ _ => rfl)) (pa_cons (pe_ix (kIx K) (pv 0) pe_int (fun _ _ => rfl)) pa_nil)))))))), ?_⟩
  rintro ss r ⟨x, rfl, rfl⟩
  show Sx K T _ [some (.sh (.tup [.bl x.p, x.l.d, x.r.d]))] _
  refine sx_seq (sx_if (et_tru (ev_ixT (ev_var rfl rfl) ev_int rfl) rfl) (fun h => ?_) fun h => sx_next ?_)
  · refine sx_ret (ev_lst (ds := [x.l.d, x.r.d]) (ea_cons (ev_ixT (ev_var rfl rfl) ev_int rfl) (ea_cons (ev_ixT (ev_var rfl rfl) ev_int rfl) ea_nil))) ?_
    show Sl.own _ = Sl.own ((sidesOf x).map Tm.d)
    unfold sidesOf
    rw [if_pos h]; rfl
  · refine sx_ret (ev_lst (ds := [x.l.d, x.l.d, x.r.d, x.r.d]) (ea_cons (ev_ixT (ev_var rfl rfl) ev_int rfl) (ea_cons (ev_ixT (ev_var rfl rfl) ev_int rfl) (ea_cons (ev_ixT (ev_var rfl rfl) ev_int rfl) (ea_cons (ev_ixT (ev_var rfl rfl) ev_int rfl) ea_nil))))) ?_
    show Sl.own _ = Sl.own ((sidesOf x).map Tm.d)
    unfold sidesOf
    rw [if_neg (by rw [h]; exact Bool.false_ne_true)]; rfl
end
end
end G3
end

section
set_option Elab.async false
set_option linter.all false
set_option maxRecDepth 100000
set_option maxHeartbeats 1000000
namespace G3
open PySem PySem.Spec PyProof.Rows L2 LamX NdefX
noncomputable section
open scoped Classical
def lamQ : Str := "literal_greater.<locals>.<lambda>"
def lamE : Expr := match defBody s_literal_greater with
  | [.Return (some (.Call _ [_, _, _, l] _ _)) _] => l
  | _ => .Constant .none 0 ⟨0, 0, 0, 0⟩
def lamArgs : Arguments := match lamE with
  | .Lambda a _ _ _ => a
  | _ => ⟨[], [], none, [], [], none, []⟩
def lamBody : Expr := match lamE with
  | .Lambda _ b _ _ => b
  | _ => .Constant .none 0 ⟨0, 0, 0, 0⟩
def lamScope : Scope := match lamE with
  | .Lambda _ _ s _ => s
  | _ => defScope s_literal_greater
abbrev lamF (cw c' : Addr) : LF := ⟨lamQ, lamArgs, lamBody, lamScope, [("weights", cw)], c'⟩
theorem lam_sc : NScope ["one", "other", "weights"] ["one", "other"] ["weights"] lamScope := nscope_by (by decide +kernel)
/-- the lambda is this value, its cell holds the weights -/
def LamV (W : Wts) (cw : Addr) : Hp → V → Prop := fun H v => ∃ (f c' : Addr) (o : Obj) (wv : V) (u : Value), v = .ref f ∧ H f = some (LamO f (lamF cw c')) ∧ H c' = some (CodeO c' lamQ) ∧ H cw = some (CelO cw o) ∧ o.data = .cell (some u) ∧ RelV wv u ∧ Rp H (.wts W) wv
def LamU (cw : Addr) : Hp → V → Prop := fun H v => ∃ (f c' : Addr), v = .ref f ∧ H f = some (LamO f (lamF cw c')) ∧ H c' = some (CodeO c' lamQ)
theorem LamV.st {W : Wts} {cw : Addr} : ∀ H1 H2 v, Stab H1 H2 → LamV W cw H1 v → LamV W cw H2 v := fun H1 H2 v st ⟨f, c', o, wv, u, h1, h2, h3, h4, h5, h6, h7⟩ =>
  ⟨f, c', o, wv, u, h1, st.x _ _ h2, st.x _ _ h3, st.c _ _ _ h4, h5, h6, Rp.mono st _ h7⟩
theorem LamU.st {cw : Addr} : ∀ H1 H2 v, Stab H1 H2 → LamU cw H1 v → LamU cw H2 v := fun H1 H2 v st ⟨f, c', h1, h2, h3⟩ => ⟨f, c', h1, st.x _ _ h2, st.x _ _ h3⟩
/-- what data leans on, no more -/
def Sta0 (H H' : Hp) : Prop := ∀ b u, H b = some u → ((∃ xs, u = .tup xs) ∨ (∃ xs, u = .dT xs) ∨ ∃ C dx gs, u = .ins C dx gs) → H' b = some u
mutual
theorem Rp.mono0 {H H' : Hp} (e : Sta0 H H') : ∀ (d : Dat) {v : V}, Rp H d v → Rp H' d v
  | .non, _, h => h
  | .bl _, _, h => h
  | .int _, _, h => h
  | .str _, _, h => h
  | .tup ds, _, h => by
    obtain ⟨a, xs, h1, h2, h3⟩ := h
    exact ⟨a, xs, h1, e _ _ h2 (.inl ⟨_, rfl⟩), Rps.mono0 e ds h3⟩
  | .wts kvs, _, h => by
    obtain ⟨a, h1, h2⟩ := h
    exact ⟨a, h1, e _ _ h2 (.inr (.inl ⟨_, rfl⟩))⟩
  | .obj C fs, _, h => by
    obtain ⟨a, dx, gs, h1, h2, h3⟩ := h
    exact ⟨a, dx, gs, h1, e _ _ h2 (.inr (.inr ⟨_, _, _, rfl⟩)), Rpf.mono0 e fs h3⟩
theorem Rps.mono0 {H H' : Hp} (e : Sta0 H H') : ∀ (ds : List Dat) {xs : List V}, Rps H ds xs → Rps H' ds xs
  | [], _, h => h
  | d :: ds, _, h => by
    obtain ⟨x, r, h1, h2, h3⟩ := h
    exact ⟨x, r, h1, Rp.mono0 e d h2, Rps.mono0 e ds h3⟩
theorem Rpf.mono0 {H H' : Hp} (e : Sta0 H H') : ∀ (fs : List (Str × Dat)) {gs : List (Str × V)}, Rpf H fs gs → Rpf H' fs gs
  | [], _, h => h
  | p :: fs, _, h => by
    obtain ⟨⟨x, h1, h2⟩, h3⟩ := h
    exact ⟨⟨x, h1, Rp.mono0 e p.2 h2⟩, Rpf.mono0 e fs h3⟩
end
section
variable {K : PySem.W.Frag} {T : List NTab} {H : Hp}
theorem Rel.shared : ∀ {ds : List Dat} {vs : List V}, Rps H ds vs → TabsN T H → Rel K T H H (vs.map some) (ds.map fun d => some (.sh d)) := fun {ds vs} h t => by
  refine ⟨Gr.refl H, t, by rw [List.length_map, List.length_map, h.length], fun i s e => ?_, fun i j a si sj ei oi => ?_⟩
  · rw [List.getElem?_map] at e
    cases hd : ds[i]? with
    | none => rw [hd] at e; cases e
    | some d =>
      rw [hd] at e; cases e
      obtain ⟨v, h1, h2⟩ := h.at hd
      exact ⟨v, by rw [List.getElem?_map, h1]; rfl, h2⟩
  · rw [List.getElem?_map] at ei
    cases hd : ds[i]? with
    | none => rw [hd] at ei; cases ei
    | some d => rw [hd] at ei; cases ei; cases oi
variable {δ : AS} {b : Bool}
theorem ev_lamE {F : Addr → LF} {φ : Hp → V → Prop} (h : ∀ H f c', H f = some (LamO f (F c')) → H c' = some (CodeO c' (F c').qual) → φ H (.ref f)) (st : ∀ H1 H2 v, Stab H1 H2 → φ H1 v → φ H2 v) : Ev K T (tLamE T F) δ (.fn φ) := fun H0 H σ r Q q =>
  ⟨r.tabs, fun f c' H1 g t1 e1 e2 => q _ H1 g t1 ⟨h _ _ _ e1 e2, st⟩⟩
theorem ev_callC {R : List Sl → Sl → Prop} {j : Nat} {c : Addr} {t : TA} {ss ss' : List Sl} {dw : Dat} (hj : δ[j]? = some (some (.sh dw))) (h : EvA K T t δ ss) (r : R ss' (.sh (.bl b)))
    (up : ∀ H0 H vs o u wv, Paired (SlOk K H0 H) ss vs → H c = none → RelV wv u → o.data = .cell (some u) → Rp H dw wv → Paired (SlOk K (upd H c (CelO c o)) (upd H c (CelO c o))) ss' vs) : Ev K T (tCallC j c (spR K T R) t) δ (.sh (.bl b)) := fun H0 H σ rl Q q => by
  obtain ⟨wv, h1, h2⟩ := rl.ok j _ hj
  refine ⟨wv, h1, h H0 H σ rl _ fun vs H1 g1 t1 o1 o u n0 ru hd => ⟨ss', _, r, up H H1 vs o u wv o1 n0 ru hd (Rp.mono g1.stab _ h2), TabsN.new t1 n0, fun v H' g t' ok => ?_⟩⟩
  have hc : H' c = some (CelO c o) := g.e c _ upd_same (fun _ z => nomatch z)
  refine q v (hide c H') ⟨fun b u e n => ?_, fun b e => ?_⟩ (tabs_hide t' hc) ok
  · have e1 := g1.e b u e n
    have hb : b ≠ c := fun z => by rw [z, n0] at e1; cases e1
    rw [hide_ne hb]
    exact g.e b u (by rw [upd_ne hb]; exact e1) n
  · by_cases hb : b = c
    · rw [hb]; exact g1.n c n0
    · rw [hide_ne hb] at e
      have := g.n b e
      rw [upd_ne hb] at this
      exact g1.n b this
end
section
variable {P : Program} {w : World} {K : PySem.W.Frag} {mg : Str → Option Value} {base : Heap} {T : List NTab}
theorem lam_vrun (E : Txt K mg) {W : Wts} {D : Nat} (hD : D ≤ 29) (cw : Addr) : VRun P w K mg base T (5 * D + 7) (LamV W cw) (R_big W D) := by
  have G_greater := G_gr (P := P) (w := w) (base := base) (T := T) E hD
  refine ⟨fun H h v hok ⟨f, c', o, wv, u, h1, h2, h3, h4, h5, h6, h7⟩ => ?_, fun A outer s H f us vs Q hr e0 hφ r hsp => ?_⟩
  · obtain ⟨pm, ctv, ho⟩ := lamO_at hok h2
    exact ⟨f, h1, _, _, _, _, ho⟩
  · obtain ⟨f', c', o, wv, u, h1, h2, h3, h4, h5, h6, h7⟩ := hφ
    cases h1
    obtain ⟨ss, s', ⟨a, b, ha, hb, rfl, rfl⟩, p, tb, q⟩ := hsp
    obtain ⟨v1, v2, rfl, o1, o2⟩ := paired2 p
    have ho := celO_at e0.hok h4
    have nf : cw ∉ frs outer := fun z => by have := e0.frf cw z; rw [h4] at this; cases this
    have ne : ∀ {b : Addr} {u : HO}, H b = some u → u ≠ CelO cw o → hide cw H b = some u := fun {b u} e d => by rw [hide_ne fun z => by rw [z, h4] at e; exact d (Option.some.inj e).symm]; exact e
    have sub : ∀ d v, Rp H d v → Rp (hide cw H) d v := fun d v hd => Rp.mono0 (fun b u e hu => ne e fun z => by rw [z] at hu; rcases hu with ⟨_, z⟩ | ⟨_, z⟩ | ⟨_, _, _, z⟩ <;> cases z) d hd
    refine codeAny_mono (lam_run (CX := CX0) (F := lamF cw c') (N := ["one", "other", "weights"]) (ps := ["one", "other"]) (fr := ["weights"]) (ws := [some wv]) (k := 5 * D + 6) (E := fun _ _ _ => False) (Q := fun v H' => H' cw = none → Q v (upd H' cw (CelO cw o))) lam_sc (fun pm ctv us hl => match us, hl with | [_, _], _ => rfl) hr (env_hide e0 h4) (ne h2 fun z => by cases z) (ne h3 fun z => by cases z) ?_ r rfl fun hr' => ?_) fun r s' hq => ?_
    · refine ⟨rfl, fun y c e => ?_, fun x y c e1 e2 => ?_, fun i y e => ?_⟩
      · have hc : y = "weights" ∧ c = cw := by
          have e : List.lookup y [("weights", cw)] = some c := e
          rw [List.lookup_cons] at e
          split at e
          · rename_i z; cases e; exact ⟨by simpa using z, rfl⟩
          · cases e
        rw [hc.2]
        exact ⟨hide_same, _, o, ho, h5⟩
      · have hc : ∀ y c, List.lookup y [((Str.ofString "weights" : Str), cw)] = some c → y = "weights" := fun y c e => by
          rw [List.lookup_cons] at e
          split at e
          · rename_i z; simpa using z
          · cases e
        rw [hc x c e1, hc y c e2]
      · cases i with
        | zero =>
          cases e
          refine ⟨cw, by show List.lookup _ [(_, cw)] = some cw; simp [List.lookup], fun v ev => ?_⟩
          cases ev
          exact ⟨u, h6, o, ho, h5⟩
        | succ i => simp at e
    · refine ⟨_, pe_call G_greater (hr'.mono (by omega)) (by rfl) E.f_greater.g E.f_greater.F.kp (b_greater E) .nil pass0 (pa_cons (pv 2) (pa_cons (pv 0) (pa_cons (pv 1) pa_nil))), ?_⟩
      have rl : Rel K T (hide cw H) (hide cw H) [some v1, some v2, some wv] [some (.sh a.d), some (.sh b.d), some (.sh (.wts W))] := Rel.shared (ds := [a.d, b.d, .wts W]) (vs := [v1, v2, wv]) ⟨v1, _, rfl, sub _ _ o1, v2, _, rfl, sub _ _ o2, wv, _, rfl, sub _ _ h7, rfl⟩ (tabs_hide tb h4)
      have hev : Ev K T (tCall (spR K T fun ss r => ∃ (W : Wts) (s t : Tm), Tok D s ∧ Tok D t ∧ ss = [.sh (.wts W), .sh s.d, .sh t.d] ∧ r = .sh (.bl (gr W s t))) [] (fun _ _ _ => False) (tCons (tVar 2) (tCons (tVar 0) (tCons (tVar 1) tNil)))) [some (.sh a.d), some (.sh b.d), some (.sh (.wts W))] (.sh (.bl (gr W a b))) :=
        ev_call (ea_cons (ev_var rfl rfl) (ea_cons (ev_var rfl rfl) (ea_cons (ev_var rfl rfl) ea_nil))) ⟨W, a, b, ha, hb, rfl, rfl⟩
      refine hev _ _ _ rl _ fun v H' g t' ok n' => ?_
      refine q v _ ⟨fun b u e n => ?_, fun b e => ?_⟩ (TabsN.new t' n') ok
      · by_cases hb : b = cw
        · rw [hb] at e ⊢; rw [h4] at e; cases e; exact upd_same
        · rw [upd_ne hb]
          exact g.e b u (by rw [hide_ne hb]; exact e) n
      · have hb : b ≠ cw := fun z => by rw [z, upd_same] at e; cases e
        rw [upd_ne hb] at e
        have := g.n b e
        rw [hide_ne hb] at this
        exact this
    · cases r with
      | error e => exact hq.elim
      | ok fl =>
        cases fl with
        | ret u => exact ce_retrack h4 ho nf hq
        | next => exact hq
        | brk => exact hq
        | cont => exact hq
/-- literal_greater: its code object, the table of it -/
structure LamAt (E : Txt K mg) (base : Heap) (T : List NTab) where
  c : Addr
  tb : Addr
  ex : ∃ (oc : Value) (od : Option Addr) (kV doc pm : Value) (an : Option Addr) (ct : Value) (osl : Array (Option Value)),
    E.f_literal_greater.fd = PySem.W.fnOf "literal_greater" "literal_greater" (defArgs s_literal_greater) (defBody s_literal_greater) (defScope s_literal_greater) .none kV doc pm an (.ref c) ct ∧ K.lookup E.f_literal_greater.f = some ⟨oc, od, .func E.f_literal_greater.fd, osl⟩ ∧ PySem.W.codeIn K (.ref c) "literal_greater" = true
  hm : (tb, fun _ _ => lamQ) ∈ T
  hu : ∀ p ∈ T, p.1 = tb → p.2 = fun _ _ => lamQ
  TB : TabB base mg c tb
def R_literal_greater (D : Nat) : List Sl → Sl → Prop := fun ss r => ∃ (W : Wts) (x y : Lit), Lok D x ∧ Lok D y ∧ ss = [.sh (.wts W), .sh x.d, .sh y.d] ∧ r = .sh (.bl (litGr W x y))
theorem sidesOf_ok {D : Nat} {x : Lit} (h : Lok D x) : (∀ u ∈ sidesOf x, Tok D u) ∧ (sidesOf x).length ≤ 10 := by
  unfold sidesOf
  split
  · refine ⟨fun u hu => ?_, by simp⟩
    simp only [List.mem_cons, List.not_mem_nil, or_false] at hu
    rcases hu with rfl | rfl
    · exact h.1
    · exact h.2
  · refine ⟨fun u hu => ?_, by simp⟩
    simp only [List.mem_cons, List.not_mem_nil, or_false] at hu
    rcases hu with rfl | rfl | rfl | rfl
    · exact h.1
    · exact h.1
    · exact h.2
    · exact h.2
theorem ok_literal_greater (E : Txt K mg) (L : LamAt E base T) {D : Nat} (hD : D ≤ 29) : Ok P w base T (5 * D + 9) E.f_literal_greater ["weights", "first", "second"] (R_literal_greater D) := by
  have G_sides_of := ok_sides_of (P := P) (w := w) (base := base) (T := T) E
  obtain ⟨oc, od, kV, doc, pm, an, ct, osl, e, lk, hcd⟩ := L.ex
  have lk' := lk
  rw [e] at lk'
  have F : FnOk P w K mg base CX0 (5 * D + 9) E.f_literal_greater.f (PySem.W.fnOf "literal_greater" "literal_greater" (defArgs s_literal_greater) (defBody s_literal_greater) (defScope s_literal_greater) .none kV doc pm an (.ref L.c) ct) ["weights", "first", "second"] (spR K T (R_literal_greater D)) := by
    refine fn_of lk' hcd sc_literal_greater (fun vs H Q E ⟨ss, s, ⟨_, _, _, _, _, e, _⟩, p, _⟩ => by rw [Paired.len p, e]; rfl) fun A outer s H vs Q _ hr ⟨ss, r, ⟨W, x, y, hx, hy, e1, e2⟩, p, tb, q⟩ => ?_
    have VR := lam_vrun (P := P) (w := w) (base := base) (T := T) E (W := W) hD (s.heap.objs.size + 1)
    have G_is_more := ok_is_more (P := P) (w := w) (base := base) (T := T) E hD (by omega) VR
    refine ⟨_, (pss_one (ps_ret (pe_callC (j := 0) (c := s.heap.objs.size + 1) G_is_more (hr.mono (by omega)) (by rfl) E.f_is_more.g E.f_is_more.F.kp (b_is_more E) rfl rfl rfl rfl
      (pa_cons (pe_call G_sides_of (hr.mono (by omega)) (by rfl) E.f_sides_of.g E.f_sides_of.F.kp (b_sides_of E) .nil pass0 (pa_cons (pv 1) pa_nil))
        (pa_cons (pe_call G_sides_of (hr.mono (by omega)) (by rfl) E.f_sides_of.g E.f_sides_of.F.kp (b_sides_of E) .nil pass0 (pa_cons (pv 2) pa_nil))
          (pa_cons (pe_glob (v := .ref E.f_equal_terms.f) (by rfl) E.f_equal_terms.g rfl) (pa_cons (pe_lamE L.TB rfl L.hm rfl L.hu rfl (ndef_free (sc := defScope s_literal_greater) (nsc := lamScope) (fr := ["weights"]) (by decide +kernel))) pa_nil))))))).nox, ?_⟩
    subst e1 e2
    refine (show Sx K T _ (startA 3 [.sh (.wts W), .sh x.d, .sh y.d]) (fnK (.sh (.bl (litGr W x y)))) from ?_) H H _ _ (Rel.start p tb) (fnK_ok q)
    show Sx K T _ [some (.sh (.wts W)), some (.sh x.d), some (.sh y.d)] _
    have hx' := sidesOf_ok hx
    have hy' := sidesOf_ok hy
    refine sx_ret (ev_callC (ss := [.own ((sidesOf x).map Tm.d), .own ((sidesOf y).map Tm.d), .raw (.ref E.f_equal_terms.f), .fn (LamU (s.heap.objs.size + 1))]) (ss' := [.lst ((sidesOf x).map Tm.d), .lst ((sidesOf y).map Tm.d), .raw (.ref E.f_equal_terms.f), .fn (LamV W (s.heap.objs.size + 1))]) rfl
      (ea_cons (ev_call (ea_cons (ev_var rfl rfl) ea_nil) ⟨x, rfl, rfl⟩) (ea_cons (ev_call (ea_cons (ev_var rfl rfl) ea_nil) ⟨y, rfl, rfl⟩) (ea_cons ev_raw (ea_cons (ev_lamE (fun H f c' h1 h2 => ⟨f, c', rfl, h1, h2⟩) LamU.st) ea_nil)))) ⟨sidesOf x, sidesOf y, hx'.1, hx'.2, hy'.1, hy'.2, rfl, rfl⟩ ?_) rfl
    intro H0 H vs o u wv p' n0 ru hd hw
    have g := Gr.new (o := CelO (s.heap.objs.size + 1) o) n0
    cases p' with
    | cons a1 p' =>
      cases p' with
      | cons a2 p' =>
        cases p' with
        | cons a3 p' =>
          cases p' with
          | cons a4 p' =>
            cases p'
            obtain ⟨b1, x1, rfl, k1, k2, k3⟩ := a1
            obtain ⟨b2, x2, rfl, m1, m2, m3⟩ := a2
            obtain ⟨⟨f, c', rfl, f1, f2⟩, _⟩ := a4
            refine .cons ⟨b1, x1, rfl, g.lst k1, Rps.mono g.stab _ k2⟩ (.cons ⟨b2, x2, rfl, g.lst m1, Rps.mono g.stab _ m2⟩ (.cons a3 (.cons ⟨⟨f, c', o, wv, u, rfl, g.stab.x _ _ f1, g.stab.x _ _ f2, upd_same, hd, ru, Rp.mono g.stab _ hw⟩, LamV.st⟩ .nil)))
  rw [← e] at F
  exact F
end
end
end G3
end

section
set_option Elab.async false
set_option linter.all false
set_option maxRecDepth 100000
set_option maxHeartbeats 1000000
namespace G3
open PySem PySem.Spec PyProof.Rows L2 LamX NdefX
noncomputable section
open scoped Classical
theorem atI_n {α : Type} {xs : List α} {k : Nat} {x : α} (h : xs[k]? = some x) : atI xs (k : Int) = some x := atI_nat h
theorem map_at {α β : Type} {f : α → β} {l : List α} {i : Nat} {u : α} (h : l[i]? = some u) : (l.map f)[i]? = some (f u) := by simp [h]
section
variable {K : PySem.W.Frag} {T : List NTab} {δ : AS} {ta tb te : TE} {d : Dat} {c : Bool}
theorem enu_in {α : Type} {f : α → Dat} {l : List α} {i : Nat} {d : Dat} (h : (enu (l.map f))[i]? = some d) : ∃ u, l[i]? = some u ∧ d = .tup [.int (i : Nat), f u] := by
  unfold enu at h
  rw [List.getElem?_mapIdx, List.getElem?_map] at h
  cases hl : l[i]? with
  | none => rw [hl] at h; cases h
  | some u => rw [hl] at h; cases h; exact ⟨u, rfl, rfl⟩
/-- x not in ('a', 'b') -/
theorem ev_notInS {x y : Str} (ha : Ev K T ta δ (.sh d)) (hd : d = .non ∨ ∃ s, d = .str s) (hb : Ev K T tb δ (.sh (.tup [.str x, .str y]))) (hc : c = !(decide (d = .str x) || decide (d = .str y))) : Ev K T (tOp (rIn K true) ta tb) δ (.sh (.bl c)) :=
  ev_op ha hb fun H0 H1 H2 u v g1 g2 t2 o1 o2 _ Q q => by
    obtain ⟨a, xs, rfl, h2, v1, r1, rfl, e1, v2, r2, rfl, e2, e3⟩ := o2
    cases (show v1 = V.str x from e1)
    cases (show v2 = V.str y from e2)
    cases (show r2 = [] from e3)
    subst hc
    rcases hd with rfl | ⟨s, rfl⟩
    · cases (show u = V.non from o1)
      exact ⟨a, _, rfl, .inr (SqT.of h2), rfl, rfl, q _ H2 (Gr.refl _) t2 (by show V.bl _ = V.bl _; simp [inV, eqV])⟩
    · cases (show u = V.str s from o1)
      exact ⟨a, _, rfl, .inr (SqT.of h2), rfl, rfl, q _ H2 (Gr.refl _) t2 (by
        show V.bl _ = V.bl _
        have e : ∀ a b : Str, (a == b) = decide (b = a) := fun a b => by
          by_cases h : a = b
          · subst h; simp
          · rw [decide_eq_false fun z => h z.symm]; exact beq_eq_false_iff_ne.mpr h
        simp [inV, eqV, e])⟩
end
section
variable {P : Program} {w : World} {K : PySem.W.Frag} {mg : Str → Option Value} {base : Heap} {T : List NTab} (E : Txt K mg) (L : LamAt E base T)
include L
def R_is_greatest (D : Nat) : List Sl → Sl → Prop := fun ss r => ∃ (W : Wts) (c : Cl) (k : Nat) (y : Lit), Cok D c ∧ c[k]? = some y ∧ ss = [.sh (.wts W), .sh c.d, .sh (.int k)] ∧ r = .sh (.bl (greatest W c y))
theorem ok_is_greatest {D : Nat} (hD : D ≤ 29) : Ok P w base T (5 * D + 10) E.f_is_greatest ["weights", "clause", "k"] (R_is_greatest D) := by
  have G_literal_greater := ok_literal_greater (P := P) (w := w) (base := base) (T := T) E L hD
  refine fn_R E.f_is_greatest.F sc_is_greatest (fun ss s ⟨_, _, _, _, _, _, e, _⟩ => by rw [e]; rfl) fun cdv A outer s H _ hr => ⟨_, (pss_cons (ps_for PassesOwn.never rfl (kiTup K (pv 1)) (pg_name (i := 3) sc_is_greatest.nd rfl (by first | exact Or.inl rfl | exact Or.inr rfl))
      (pss_one (ps_if (kTru K (pe_call G_literal_greater (hr.mono (by omega)) (by rfl) E.f_literal_greater.g E.f_literal_greater.F.kp (b_literal_greater E) .nil pass0 (pa_cons (pv 0) (pa_cons (pv 3) (pa_cons (pe_ix (kIx K) (pv 1) (pv 2) (fun _ _ => rfl)) pa_nil)))) (fun _ => rfl))
        (pss_one (ps_ret pe_bl))
        pss_nil)))
    (pss_one (ps_ret pe_bl))), ?_⟩
  rintro ss r ⟨W, c, k, y, hc, hk, rfl, rfl⟩
  show Sx K T _ [some (.sh (.wts W)), some (.sh (.tup (c.map Lit.d))), some (.sh (.int k)), none] _
  refine sx_seq (sx_for (ei_tup (ev_var rfl rfl)) (fun i δ => (∃ o, δ = [some (.sh (.wts W)), some (.sh (.tup (c.map Lit.d))), some (.sh (.int k)), o]) ∧ ∀ x ∈ c.take i, litGr W x y = false) ⟨⟨none, rfl⟩, by simp⟩ ?_ ?_)
  · rintro i d δ' hi ⟨⟨o, rfl⟩, hq⟩
    obtain ⟨x, hx, rfl⟩ := at_map hi
    refine ⟨_, _, tg_name, ?_⟩
    show Sx K T _ [some (.sh (.wts W)), some (.sh (.tup (c.map Lit.d))), some (.sh (.int k)), some (.sh x.d)] _
    refine sx_if (et_tru (ev_call (ea_cons (ev_var rfl rfl) (ea_cons (ev_var rfl rfl) (ea_cons (ev_ixT (ev_var rfl rfl) (ev_var rfl rfl) (atI_n (map_at hk))) ea_nil))) ⟨W, x, y, hc.at hx, hc.at hk, rfl, rfl⟩) rfl) (fun h => ?_) fun h => sx_next ?_
    · refine sx_ret ev_bl ?_
      show Sl.sh (.bl false) = Sl.sh (.bl (greatest W c y))
      have : greatest W c y = false := by
        unfold greatest
        rw [List.all_eq_false]
        exact ⟨x, List.mem_of_getElem? hx, by rw [h]; exact Bool.false_ne_true⟩
      rw [this]
    · refine ⟨⟨_, rfl⟩, fun z hz => ?_⟩
      rw [List.take_succ, hx] at hz
      rcases List.mem_append.mp hz with z1 | z1
      · exact hq z z1
      · simp only [Option.toList_some, List.mem_singleton] at z1
        rw [z1]; exact h
  · rintro δ' ⟨⟨o, rfl⟩, hq⟩
    rw [List.length_map, List.take_length] at hq
    refine sx_ret ev_bl ?_
    show Sl.sh (.bl true) = Sl.sh (.bl (greatest W c y))
    have : greatest W c y = true := by
      unfold greatest
      rw [List.all_eq_true]
      exact fun x hx => by rw [hq x hx]; rfl
    rw [this]
def R_is_greatest_alone (D : Nat) : List Sl → Sl → Prop := fun ss r => ∃ (W : Wts) (c : Cl) (k : Nat) (y : Lit), Cok D c ∧ c[k]? = some y ∧ ss = [.sh (.wts W), .sh c.d, .sh (.int k)] ∧ r = .sh (.bl (aloneAt c k y && greatest W c y))
theorem ok_is_greatest_alone {D : Nat} (hD : D ≤ 29) : Ok P w base T (5 * D + 11) E.f_is_greatest_alone ["weights", "clause", "k"] (R_is_greatest_alone D) := by
  have G_is_greatest := ok_is_greatest (P := P) (w := w) (base := base) (T := T) E L hD
  have G_same := ok_same (P := P) (w := w) (base := base) (T := T) E
  refine fn_R E.f_is_greatest_alone.F sc_is_greatest_alone (fun ss s ⟨_, _, _, _, _, _, e, _⟩ => by rw [e]; rfl) fun cdv A outer s H _ hr => ⟨_, (pss_cons (ps_for PassesOwn.never rfl (kiEnumT K (by rfl) E.m_enumerate (pa_cons (pv 1) pa_nil)) (kgTup K (n := 2) rfl (pgs_cons (pg_name (i := 3) sc_is_greatest_alone.nd rfl (by first | exact Or.inl rfl | exact Or.inr rfl)) (pgs_cons (pg_name (i := 4) sc_is_greatest_alone.nd rfl (by first | exact Or.inl rfl | exact Or.inr rfl)) pgs_nil)))
      (pss_one (ps_if ((pw_and (pt_cmpR (kNe K hr.units) (pv 3) (pv 2) (nomark _)) (pw_and1 (kTru K (pe_call G_same (hr.mono (by omega)) (by rfl) E.f_same.g E.f_same.F.kp (b_same E) .nil pass0 (pa_cons (pv 4) (pa_cons (pe_ix (kIx K) (pv 1) (pv 2) (fun _ _ => rfl)) pa_nil))) (fun _ => rfl)))).pt)
        (pss_one (ps_ret pe_bl))
        pss_nil)))
    (pss_one (ps_ret (pe_call G_is_greatest (hr.mono (by omega)) (by rfl) E.f_is_greatest.g E.f_is_greatest.F.kp (b_is_greatest E) .nil pass0 (pa_cons (pv 0) (pa_cons (pv 1) (pa_cons (pv 2) pa_nil))))))), ?_⟩
  rintro ss r ⟨W, c, k, y, hc, hk, rfl, rfl⟩
  show Sx K T _ [some (.sh (.wts W)), some (.sh (.tup (c.map Lit.d))), some (.sh (.int k)), none, none] _
  refine sx_seq (sx_for (ei_enumT (ev_var rfl rfl)) (fun i δ => (∃ o p, δ = [some (.sh (.wts W)), some (.sh (.tup (c.map Lit.d))), some (.sh (.int k)), o, p]) ∧ ∀ j x, j < i → c[j]? = some x → j ≠ k → same x y = false) ⟨⟨none, none, rfl⟩, fun j x z => absurd z (Nat.not_lt_zero j)⟩ ?_ ?_)
  · rintro i d δ' hi ⟨⟨o, p, rfl⟩, hq⟩
    obtain ⟨x, hx, rfl⟩ := enu_in hi
    refine ⟨_, _, tg_tup (tg_cons tg_name (tg_cons tg_name tg_nil)), ?_⟩
    show Sx K T _ [some (.sh (.wts W)), some (.sh (.tup (c.map Lit.d))), some (.sh (.int k)), some (.sh (.int (i : Nat))), some (.sh x.d)] _
    refine sx_if (et_and (b := !decide ((i : Int) = k)) (c := same x y) (et_test (ev_neI (ev_var rfl rfl) (ev_var rfl rfl))) fun _ => et_tru (ev_call (ea_cons (ev_var rfl rfl) (ea_cons (ev_ixT (ev_var rfl rfl) (ev_var rfl rfl) (atI_n (map_at hk))) ea_nil)) ⟨x, y, (hc.at hx).sm hD, (hc.at hk).sm hD, rfl, rfl⟩) rfl) (fun h => ?_) fun h => sx_next ?_
    · simp only [Bool.and_eq_true] at h
      have hik : i ≠ k := fun z => not_dec_t h.1 (by rw [z])
      refine sx_ret ev_bl ?_
      have : aloneAt c k y = false := by
        unfold aloneAt
        rw [List.all_eq_false]
        refine ⟨i, List.mem_range.mpr (List.getElem?_eq_some_iff.mp hx).1, ?_⟩
        simp [hik, hx, h.2]
      show Sl.sh (.bl false) = Sl.sh (.bl _)
      rw [this, Bool.false_and]
    · refine ⟨⟨_, _, rfl⟩, fun j z hj hz hjk => ?_⟩
      by_cases hji : j = i
      · subst hji
        rw [hx] at hz; cases hz
        have h1 : (!decide ((j : Int) = k)) = true := by
          rw [decide_eq_false (by omega)]; rfl
        rw [h1, Bool.true_and] at h
        exact h
      · exact hq j z (by omega) hz hjk
  · rintro δ' ⟨⟨o, p, rfl⟩, hq⟩
    rw [enu_len, List.length_map] at hq
    refine sx_ret (ev_call (ea_cons (ev_var rfl rfl) (ea_cons (ev_var rfl rfl) (ea_cons (ev_var rfl rfl) ea_nil))) ⟨W, c, k, y, hc, hk, rfl, rfl⟩) ?_
    have : aloneAt c k y = true := by
      unfold aloneAt
      rw [List.all_eq_true]
      intro j hj
      have hj := List.mem_range.mp hj
      have hx : c[j]? = some c[j] := by simp [hj]
      by_cases hjk : j = k
      · simp [hjk]
      · have := hq j _ hj hx hjk
        simp [hx, this]
    show Sl.sh (.bl _) = Sl.sh (.bl _)
    rw [this, Bool.true_and]
/-- what may act, give, lead -/
def selD : Option Nat → Dat
  | none => .non
  | some j => .int (j : Nat)
def mayAct (W : Wts) (c : Cl) (sel : Option Nat) (k : Nat) (y : Lit) (τ : Sub) : Bool := match sel with
  | some j => decide (j = k)
  | none => greatest W (putCl τ c) (putLit τ y)
def mayGive (W : Wts) (c : Cl) (sel : Option Nat) (k : Nat) (y : Lit) (τ : Sub) : Bool := match sel with
  | some _ => false
  | none => y.p && (aloneAt (putCl τ c) k (putLit τ y) && greatest W (putCl τ c) (putLit τ y))
def mayLead (W : Wts) (y : Lit) (s : Nat) (τ : Sub) : Bool := !(decide (put τ (y.side s) = put τ (y.side (1 - s)))) && (gr W (put τ (y.side s)) (put τ (y.side (1 - s))) || !gr W (put τ (y.side (1 - s))) (put τ (y.side s)))
def R_may_act (n D : Nat) : List Sl → Sl → Prop := fun ss r => ∃ (W : Wts) (c : Cl) (sel : Option Nat) (k : Nat) (y : Lit) (τ : Sub), c.length ≤ 100 ∧ (∀ x ∈ c, Ltn n x) ∧ Cok D (putCl τ c) ∧ c[k]? = some y ∧ ss = [.sh (.wts W), .sh c.d, .sh (selD sel), .sh (.int k), .dct τ.d] ∧ r = .sh (.bl (mayAct W c sel k y τ))
theorem ok_may_act {n D : Nat} (hD : D ≤ 29) (hn : n ≤ D) : Ok P w base T (5 * D + 12) E.f_may_act ["weights", "clause", "selected", "k", "substitution"] (R_may_act n D) := by
  have G_is_greatest := ok_is_greatest (P := P) (w := w) (base := base) (T := T) E L hD
  have G_put_clause := ok_put_clause (P := P) (w := w) (base := base) (T := T) E n
  refine fn_R E.f_may_act.F sc_may_act (fun ss s ⟨_, _, _, _, _, _, _, _, _, _, e, _⟩ => by rw [e]; rfl) fun cdv A outer s H _ hr => ⟨_, (pss_cons (ps_if (pt_cmpR op_notNN (pv 2) pe_non (nomark _))
      (pss_one (ps_ret (pe_cmpR (kEq K hr.units) (pv 2) (pv 3) (nomark _))))
      pss_nil)
    (pss_one (ps_ret (pe_call G_is_greatest (hr.mono (by omega)) (by rfl) E.f_is_greatest.g E.f_is_greatest.F.kp (b_is_greatest E) .nil pass0 (pa_cons (pv 0) (pa_cons (pe_call G_put_clause (hr.mono (by omega)) (by rfl) E.f_put_clause.g E.f_put_clause.F.kp (b_put_clause E) .nil pass0 (pa_cons (pv 1) (pa_cons (pv 4) pa_nil))) (pa_cons (pv 3) pa_nil))))))), ?_⟩
  rintro ss r ⟨W, c, sel, k, y, τ, hl, hc, hp, hk, rfl, rfl⟩
  show Sx K T _ [some (.sh (.wts W)), some (.sh c.d), some (.sh (selD sel)), some (.sh (.int k)), some (.dct τ.d)] _
  cases sel with
  | some j =>
    refine sx_seq (sx_if (b := true) (et_test (ev_notN (b := false) (ev_var rfl rfl) rfl)) (fun _ => ?_) fun h => nomatch h)
    refine sx_ret (ev_eqI (ev_var rfl rfl) (ev_var rfl rfl)) ?_
    show Sl.sh (.bl (decide ((j : Int) = k))) = Sl.sh (.bl (decide (j = k)))
    congr 2
    exact decide_eq_decide.mpr ⟨fun h => by omega, fun h => by omega⟩
  | none =>
    refine sx_seq (sx_if (b := false) (et_test (ev_notN (b := true) (ev_var rfl rfl) rfl)) (fun h => nomatch h) fun _ => sx_next ?_)
    refine sx_ret (ev_call (ea_cons (ev_var rfl rfl) (ea_cons (ev_call (ea_cons (ev_var rfl rfl) (ea_cons (ev_var rfl rfl) ea_nil)) ⟨c, τ, hl, hc, rfl, rfl⟩) (ea_cons (ev_var rfl rfl) ea_nil))) ⟨W, putCl τ c, k, putLit τ y, hp, map_at hk, rfl, rfl⟩) rfl
theorem ok_may_give {n D : Nat} (hD : D ≤ 29) (hn : n ≤ D) : Ok P w base T (5 * D + 12) E.f_may_give ["weights", "clause", "selected", "k", "substitution"] (fun ss r => ∃ (W : Wts) (c : Cl) (sel : Option Nat) (k : Nat) (y : Lit) (τ : Sub), c.length ≤ 100 ∧ (∀ x ∈ c, Ltn n x) ∧ Cok D (putCl τ c) ∧ c[k]? = some y ∧ ss = [.sh (.wts W), .sh c.d, .sh (selD sel), .sh (.int k), .dct τ.d] ∧ r = .sh (.bl (mayGive W c sel k y τ))) := by
  have G_is_greatest_alone := ok_is_greatest_alone (P := P) (w := w) (base := base) (T := T) E L hD
  have G_put_clause := ok_put_clause (P := P) (w := w) (base := base) (T := T) E n
  refine fn_R E.f_may_give.F sc_may_give (fun ss s ⟨_, _, _, _, _, _, _, _, _, _, e, _⟩ => by rw [e]; rfl) fun cdv A outer s H _ hr => ⟨_, (pss_cons (ps_if ((pw_or (pt_cmpR op_notNN (pv 2) pe_non (nomark _)) (pw_or1 (pt_not (kTru K (pe_ix (kIx K) (pe_ix (kIx K) (pv 1) (pv 3) (fun _ _ => rfl)) pe_int (fun _ _ => rfl)) (fun _ => rfl))))).pt)
      (pss_one (ps_ret pe_bl))
      pss_nil)
    (pss_one (ps_ret (pe_call G_is_greatest_alone (hr.mono (by omega)) (by rfl) E.f_is_greatest_alone.g E.f_is_greatest_alone.F.kp (b_is_greatest_alone E) .nil pass0 (pa_cons (pv 0) (pa_cons (pe_call G_put_clause (hr.mono (by omega)) (by rfl) E.f_put_clause.g E.f_put_clause.F.kp (b_put_clause E) .nil pass0 (pa_cons (pv 1) (pa_cons (pv 4) pa_nil))) (pa_cons (pv 3) pa_nil))))))), ?_⟩
  rintro ss r ⟨W, c, sel, k, y, τ, hl, hc, hp, hk, rfl, rfl⟩
  show Sx K T _ [some (.sh (.wts W)), some (.sh (.tup (c.map Lit.d))), some (.sh (selD sel)), some (.sh (.int k)), some (.dct τ.d)] _
  cases sel with
  | some j =>
    refine sx_seq (sx_if (b := true) (et_or (b := true) (c := true) (et_test (ev_notN (b := false) (ev_var rfl rfl) rfl)) fun h => nomatch h) (fun _ => ?_) fun h => nomatch h)
    exact sx_ret ev_bl rfl
  | none =>
    have ey : Ev K T (tOp (rIx K) (tOp (rIx K) (tVar 1) (tVar 3)) (tC (.int 0))) [some (.sh (.wts W)), some (.sh (.tup (c.map Lit.d))), some (.sh (selD none)), some (.sh (.int k)), some (.dct τ.d)] (.sh (.bl y.p)) :=
      ev_ixT (ds := [.bl y.p, y.l.d, y.r.d]) (ev_ixT (ev_var rfl rfl) (ev_var rfl rfl) (atI_n (map_at hk))) ev_int rfl
    refine sx_seq (sx_if (b := !y.p) (et_or (b := false) (c := !y.p) (et_test (ev_notN (b := true) (ev_var rfl rfl) rfl)) fun _ => et_not (et_tru ey rfl)) (fun h => ?_) fun h => sx_next ?_)
    · refine sx_ret ev_bl ?_
      show Sl.sh (.bl false) = Sl.sh (.bl (y.p && _))
      rw [show y.p = false by simpa using h, Bool.false_and]
    · refine sx_ret (ev_call (ea_cons (ev_var rfl rfl) (ea_cons (ev_call (ea_cons (ev_var rfl rfl) (ea_cons (ev_var rfl rfl) ea_nil)) ⟨c, τ, hl, hc, rfl, rfl⟩) (ea_cons (ev_var rfl rfl) ea_nil))) ⟨W, putCl τ c, k, putLit τ y, hp, map_at hk, rfl, rfl⟩) ?_
      show Sl.sh (.bl _) = Sl.sh (.bl (y.p && _))
      rw [show y.p = true by simpa using h, Bool.true_and]
def R_may_lead (n D : Nat) : List Sl → Sl → Prop := fun ss r => ∃ (W : Wts) (y : Lit) (s : Nat) (τ : Sub), s ≤ 1 ∧ Ltn n y ∧ Lok D (putLit τ y) ∧ ss = [.sh (.wts W), .sh y.d, .sh (.int s), .dct τ.d] ∧ r = .sh (.bl (mayLead W y s τ))
theorem ok_may_lead {n D : Nat} (hD : D ≤ 29) (hn : n ≤ D) : Ok P w base T (5 * D + 8) E.f_may_lead ["weights", "literal", "side_index", "substitution"] (R_may_lead n D) := by
  have G_put := G_pt (P := P) (w := w) (base := base) (T := T) E n
  have G_side := ok_side (P := P) (w := w) (base := base) (T := T) E
  have G_compare := ok_compare (P := P) (w := w) (base := base) (T := T) E hD
  refine fn_R E.f_may_lead.F sc_may_lead (fun ss s ⟨_, _, _, _, _, _, _, e, _⟩ => by rw [e]; rfl) fun cdv A outer s H _ hr => ⟨_, (pss_cons (ps_set (i := 4) sc_may_lead.nd rfl (by first | exact Or.inl rfl | exact Or.inr rfl) (pe_call G_put (hr.mono (by omega)) (by rfl) E.f_put.g E.f_put.F.kp (b_put E) .nil pass0 (pa_cons (pe_call G_side (hr.mono (by omega)) (by rfl) E.f_side.g E.f_side.F.kp (b_side E) .nil pass0 (pa_cons (pv 1) (pa_cons (pv 2) pa_nil))) (pa_cons (pv 3) pa_nil))))
    (pss_cons (ps_set (i := 5) sc_may_lead.nd rfl (by first | exact Or.inl rfl | exact Or.inr rfl) (pe_call G_put (hr.mono (by omega)) (by rfl) E.f_put.g E.f_put.F.kp (b_put E) .nil pass0 (pa_cons (pe_call G_side (hr.mono (by omega)) (by rfl) E.f_side.g E.f_side.F.kp (b_side E) .nil pass0 (pa_cons (pv 1) (pa_cons (pe_op op_sub pe_int (pv 2)) pa_nil))) (pa_cons (pv 3) pa_nil))))
    (pss_one (ps_ret (pe_cmpR (kNotIn K) (pe_call G_compare (hr.mono (by omega)) (by rfl) E.f_compare.g E.f_compare.F.kp (b_compare E) .nil pass0 (pa_cons (pv 0) (pa_cons (pv 4) (pa_cons (pv 5) pa_nil)))) (pe_tup (pa_cons pe_str (pa_cons pe_str pa_nil))) (by with_unfolding_all rfl)))))), ?_⟩
  rintro ss r ⟨W, y, s, τ, hs, hy, hp, rfl, rfl⟩
  have side_tn : ∀ s, s ≤ 1 → (y.side s).depth ≤ n ∧ (y.side s).thin := fun s h => by
    rcases (show s = 0 ∨ s = 1 by omega) with rfl | rfl
    · exact hy.1
    · exact hy.2
  have side_ok : ∀ s, s ≤ 1 → Tok D (put τ (y.side s)) := fun s h => by
    rcases (show s = 0 ∨ s = 1 by omega) with rfl | rfl
    · exact hp.1
    · exact hp.2
  show Sx K T _ [some (.sh (.wts W)), some (.sh y.d), some (.sh (.int s)), some (.dct τ.d), none, none] _
  refine sx_seq (sx_set (ev_call (ea_cons (ev_call (ea_cons (ev_var rfl rfl) (ea_cons (ev_var rfl rfl) ea_nil)) ⟨y, s, hs, rfl, rfl⟩) (ea_cons (ev_var rfl rfl) ea_nil)) ⟨y.side s, τ, (side_tn s hs).1, (side_tn s hs).2, rfl, rfl⟩) ?_)
  refine sx_seq (sx_set (ev_call (ea_cons (ev_call (ea_cons (ev_var rfl rfl) (ea_cons ((ev_sub ev_int (ev_var rfl rfl)).of_eq (s' := .sh (.int ((1 - s : Nat) : Int))) (by congr 2; omega)) ea_nil)) ⟨y, 1 - s, by omega, rfl, rfl⟩) (ea_cons (ev_var rfl rfl) ea_nil)) ⟨y.side (1 - s), τ, (side_tn (1 - s) (by omega)).1, (side_tn (1 - s) (by omega)).2, rfl, rfl⟩) ?_)
  show Sx K T _ [some (.sh (.wts W)), some (.sh y.d), some (.sh (.int s)), some (.dct τ.d), some (.sh (put τ (y.side s)).d), some (.sh (put τ (y.side (1 - s))).d)] _
  refine sx_ret (ev_notInS (ev_call (ea_cons (ev_var rfl rfl) (ea_cons (ev_var rfl rfl) (ea_cons (ev_var rfl rfl) ea_nil))) ⟨W, _, _, side_ok s hs, side_ok (1 - s) (by omega), rfl, rfl⟩) ?_ (ev_tup (ds := [.str "same", .str "less"]) (ea_cons ev_str (ea_cons ev_str ea_nil))) ?_) rfl
  · unfold cmpD
    split
    · exact .inr ⟨_, rfl⟩
    · split
      · exact .inr ⟨_, rfl⟩
      · split
        · exact .inr ⟨_, rfl⟩
        · exact .inl rfl
  · unfold mayLead cmpD
    generalize put τ (y.side s) = a
    generalize put τ (y.side (1 - s)) = b
    have n1 : (Str.ofString "greater" : Str) ≠ "same" := by decide
    have n2 : (Str.ofString "greater" : Str) ≠ "less" := by decide
    have n3 : (Str.ofString "less" : Str) ≠ "same" := by decide
    by_cases h1 : a = b
    · rw [if_pos h1]; simp [h1]
    · rw [if_neg h1]
      by_cases h2 : gr W a b = true
      · rw [if_pos h2]; simp [h1, h2, n1, n2]
      · rw [if_neg h2]
        by_cases h3 : gr W b a = true
        · rw [if_pos h3]; simp [h1, h2, h3, n3]
        · rw [if_neg h3]; simp [h1, h2, h3]
end
end
end G3
end

section
set_option Elab.async false
set_option linter.all false
set_option maxRecDepth 100000
set_option maxHeartbeats 1000000
namespace G3
open PySem PySem.Spec PyProof.Rows L2 LamX NdefX
noncomputable section
open scoped Classical
/-! ### places -/
mutual
def plc : Tm → List (List Nat × Tm)
  | .v n => [([], .v n)]
  | .ap s l => ([], .ap s l) :: plcL 0 l
def plcL : Nat → List Tm → List (List Nat × Tm)
  | _, [] => []
  | k, t :: r => (plc t).map (fun p => (k :: p.1, p.2)) ++ plcL (k + 1) r
end
def pcD (p : List Nat) : Dat := .tup (p.map fun k => .int (k : Nat))
def plD (p : List Nat × Tm) : Dat := .tup [pcD p.1, p.2.d]
theorem plcL_snoc : ∀ (l : List Tm) (k : Nat) (u : Tm), plcL k (l ++ [u]) = plcL k l ++ (plc u).map fun p => ((k + l.length) :: p.1, p.2)
  | [], k, u => by simp [plcL]
  | t :: r, k, u => by
    rw [List.cons_append, plcL, plcL, plcL_snoc r (k + 1) u, List.length_cons, List.append_assoc, show k + 1 + r.length = k + (r.length + 1) by omega]
theorem plcL_take (l : List Tm) (i : Nat) (u : Tm) (h : l[i]? = some u) : plcL 0 (l.take (i + 1)) = plcL 0 (l.take i) ++ (plc u).map fun p => (i :: p.1, p.2) := by
  have hl : (l.take i).length = i := by
    have := (List.getElem?_eq_some_iff.mp h).1
    rw [List.length_take]; omega
  rw [List.take_succ, h]
  show plcL 0 (l.take i ++ [u]) = _
  rw [plcL_snoc, hl, Nat.zero_add]
theorem plcL_len : ∀ (l : List Tm) (k : Nat), (∀ t ∈ l, (plc t).length ≤ t.size) → (plcL k l).length ≤ sizeL l
  | [], _, _ => by simp [plcL, sizeL]
  | t :: r, k, h => by
    have h1 := h t List.mem_cons_self
    have h2 := plcL_len r (k + 1) fun u hu => h u (List.mem_cons_of_mem _ hu)
    rw [plcL, sizeL, List.length_append, List.length_map]
    omega
theorem plc_len : ∀ t : Tm, (plc t).length ≤ t.size := by
  refine Tm.ind (fun n => by simp [plc, Tm.size]) fun s l ih => ?_
  rw [plc, Tm.size, List.length_cons]
  have := plcL_len l 0 ih
  omega
theorem mem_plcL : ∀ (l : List Tm) (k : Nat) (p : List Nat) (t : Tm), (p, t) ∈ plcL k l ↔ ∃ i q u, l[i]? = some u ∧ p = (k + i) :: q ∧ (q, t) ∈ plc u
  | [], k, p, t => by simp [plcL]
  | v :: r, k, p, t => by
    rw [plcL, List.mem_append, List.mem_map, mem_plcL r (k + 1) p t]
    constructor
    · rintro (⟨⟨q, t'⟩, h1, h2⟩ | ⟨i, q, u, h1, h2, h3⟩)
      · cases h2
        exact ⟨0, q, v, rfl, rfl, h1⟩
      · exact ⟨i + 1, q, u, h1, by rw [h2]; congr 1; omega, h3⟩
    · rintro ⟨i, q, u, h1, h2, h3⟩
      cases i with
      | zero => cases h1; exact .inl ⟨(q, t), h3, by rw [h2]; rfl⟩
      | succ i => exact .inr ⟨i, q, u, h1, by rw [h2]; congr 1; omega, h3⟩
theorem plc_short : ∀ (u : Tm) (p : List Nat) (t : Tm), (p, t) ∈ plc u → p.length < u.size := by
  refine Tm.ind (fun n p t h => ?_) fun s l ih p t h => ?_
  · simp only [plc, List.mem_singleton] at h
    cases h
    simp [Tm.size]
  · rw [plc] at h
    rcases List.mem_cons.mp h with e | h
    · cases e
      simp [Tm.size]
    · obtain ⟨i, q, u, h1, rfl, h3⟩ := (mem_plcL l 0 p t).mp h
      have hu := List.mem_of_getElem? h1
      have := ih u hu q t h3
      have := size_mem hu
      rw [Tm.size, List.length_cons]
      omega
theorem sizeL_take : ∀ (l : List Tm) (i : Nat), sizeL (l.take i) ≤ sizeL l
  | [], i => by simp
  | t :: r, 0 => by simp [sizeL]
  | t :: r, i + 1 => by
    have := sizeL_take r i
    rw [List.take_succ_cons, sizeL, sizeL]
    omega
/-! at a place -/
def atP : Tm → List Nat → Option Tm
  | t, [] => some t
  | .v _, _ :: _ => none
  | .ap _ l, k :: p => (l[k]?).bind fun u => atP u p
theorem atP_nil (t : Tm) : atP t [] = some t := by cases t <;> rfl
theorem mem_plc : ∀ (u : Tm) (p : List Nat) (t : Tm), (p, t) ∈ plc u ↔ atP u p = some t := by
  refine Tm.ind (fun n p t => ?_) fun s l ih p t => ?_
  · cases p with
    | nil => simp [plc, atP, eq_comm]
    | cons k p => simp [plc, atP]
  · rw [plc, List.mem_cons, mem_plcL]
    cases p with
    | nil =>
      rw [atP_nil]
      constructor
      · rintro (e | ⟨i, q, u, _, e, _⟩)
        · cases e; rfl
        · cases e
      · intro e; cases e; exact .inl rfl
    | cons k p =>
      rw [atP]
      constructor
      · rintro (e | ⟨i, q, u, h1, e, h3⟩)
        · cases e
        · simp only [Nat.zero_add, List.cons.injEq] at e
          rw [e.1, h1, e.2]
          exact (ih u (List.mem_of_getElem? h1) q t).mp h3
      · intro e
        cases h : l[k]? with
        | none => rw [h] at e; cases e
        | some u =>
          rw [h] at e
          exact .inr ⟨k, p, u, h, by simp, (ih u (List.mem_of_getElem? h) p t).mpr e⟩
theorem atP_snoc : ∀ (p : List Nat) (t : Tm) (k : Nat), atP t (p ++ [k]) = (atP t p).bind fun u => atP u [k]
  | [], t, k => by rw [atP_nil]; rfl
  | j :: p, .v n, k => by simp [atP]
  | j :: p, .ap s l, k => by
    rw [List.cons_append, atP, atP]
    cases h : l[j]? with
    | none => rfl
    | some u => exact atP_snoc p u k
theorem atP_take (t : Tm) (p : List Nat) (i k : Nat) (h : p[i]? = some k) : atP t (p.take (i + 1)) = (atP t (p.take i)).bind fun u => atP u [k] := by
  rw [List.take_succ, h]
  exact atP_snoc _ _ _
theorem atP_none : ∀ (q p : List Nat) (t : Tm), atP t p = none → atP t (p ++ q) = none
  | [], p, t, h => by rw [List.append_nil]; exact h
  | k :: q, p, t, h => by
    have : p ++ k :: q = (p ++ [k]) ++ q := by simp
    rw [this]
    exact atP_none q _ t (by rw [atP_snoc, h]; rfl)
def putIn : Tm → List Nat → Tm → Tm
  | _, [], new => new
  | .v n, _ :: _, _ => .v n
  | .ap s l, k :: p, new => .ap s (l.set k (match l[k]? with | some u => putIn u p new | none => .v 0))
def putAt (t : Tm) (p : List Nat) (new : Tm) : Tm := if atP t p = none then t else putIn t p new
section
variable {K : PySem.W.Frag} {T : List NTab} {H0 H H' : Hp} {σ : L2.St} {δ : AS} {te ta tb ti : TE} {d e : Dat} {s : Sl} {k : Kon}
/-- xs[j] = value, an own list -/
theorem sx_setAt {i : Nat} {ds : List Dat} {j : Nat} (hi : δ[i]? = some (some (.own ds))) (h : Ev K T te δ (.sh d)) (hj : Ev K T ti δ (.sh (.int j))) (hl : j < ds.length) (q : k.nx (δ.set i (some (.own (ds.set j d))))) (hc : noScr δ = true := by rfl) :
    Sx K T (tAsg te (gSub (tVar i) ti rSetL)) δ k := fun H0 H σ D r o => by
  refine h H0 H σ r _ fun y H1 g1 t1 o1 => ?_
  have r1 := r.grow g1 t1
  obtain ⟨v, h1, a, xs, rfl, h3, h4, h5⟩ := r1.ok i _ hi
  refine ⟨.ref a, h1, ?_⟩
  refine hj H0 H1 σ r1 _ fun z H2 g2 t2 o2 => ?_
  have r2 := r1.grow g2 t2
  have h3' := g2.lst h3
  have hlen := h4.length
  refine ⟨a, xs, j, j, rfl, (show z = V.int j from o2), h3', ?_, o.nx _ _ _ (r2.write hi rfl h1 h3' (.inl ⟨_, rfl⟩) ?_ hc) q⟩
  · unfold ixN
    simp
    omega
  · have st : Stab H2 (upd H2 a (.lst (xs.set j y))) := (show Wr (.lst xs) from .inl ⟨_, rfl⟩).stab h3'
    exact ⟨a, _, rfl, upd_same, Rps.set (Rp.mono st _ (Rp.mono g2.stab _ o1)) j (Rps.mono st _ (Rps.mono g2.stab _ h4)), h5⟩
end
section
variable {P : Program} {w : World} {K : PySem.W.Frag} {mg : Str → Option Value} {base : Heap} {T : List NTab} (E : Txt K mg)
def R_places (n : Nat) : List Sl → Sl → Prop := fun ss r => ∃ (t : Tm), t.depth = n ∧ t.size ≤ 1000 ∧ ss = [.sh t.d] ∧ r = .own ((plc t).map plD)
theorem ok_places : ∀ n, Ok P w base T (n + 1 + 1) E.f_places ["term"] (R_places n) := by
  refine rec_R (fun n ss s ⟨t, _, _, e, _⟩ => by rw [e]; rfl) fun n G_places => ?_
  have G_is_variable := ok_is_variable (P := P) (w := w) (base := base) (T := T) E
  refine fn_R E.f_places.F sc_places (fun ss s ⟨t, _, _, e, _⟩ => by rw [e]; rfl) fun cdv A outer s H _ hr => ⟨_, (pss_cons (ps_set (i := 1) sc_places.nd rfl (by first | exact Or.inl rfl | exact Or.inr rfl) (pe_lst (pa_cons (pe_tup (pa_cons (pe_tup pa_nil) (pa_cons (pv 0) pa_nil))) pa_nil)))
    (pss_cons (ps_if (pt_not (kTru K (pe_call G_is_variable (hr.mono (by omega)) (by rfl) E.f_is_variable.g E.f_is_variable.F.kp (b_is_variable E) .nil pass0 (pa_cons (pv 0) pa_nil)) (fun _ => rfl)))
      (pss_one (ps_for PassesOwn.never rfl (kiEnumT K (by rfl) E.m_enumerate (pa_cons (pe_ix (kIx K) (pv 0) pe_int (fun _ _ => rfl)) pa_nil)) (kgTup K (n := 2) rfl (pgs_cons (pg_name (i := 2) sc_places.nd rfl (by first | exact Or.inl rfl | exact Or.inr rfl)) (pgs_cons (pg_name (i := 3) sc_places.nd rfl (by first | exact Or.inl rfl | exact Or.inr rfl)) pgs_nil)))
        (pss_one (ps_for PassesOwn.never rfl (kiList K (pe_call G_places (hr.mono (by omega)) (by rfl) E.f_places.g E.f_places.F.kp (b_places E) .nil pass0 (pa_cons (pv 3) pa_nil))) (kgTup K (n := 2) rfl (pgs_cons (pg_name (i := 4) sc_places.nd rfl (by first | exact Or.inl rfl | exact Or.inr rfl)) (pgs_cons (pg_name (i := 5) sc_places.nd rfl (by first | exact Or.inl rfl | exact Or.inr rfl)) pgs_nil)))
          (pss_one (ps_expr (pe_bm PySem.F.plainAttrs_list PySem.F.slot_list_append PySem.F.type_list_append mt_append (pv 1) (pa_cons (pe_tup (pa_cons (pe_op (kAdd K) (pe_tup (pa_cons (pv 2) pa_nil)) (pv 4)) (pa_cons (pv 5) pa_nil))) pa_nil))))))))
      pss_nil)
    (pss_one (ps_ret (pv 1))))), ?_⟩
  rintro ss r ⟨t, hd, hz, rfl, rfl⟩
  show Sx K T _ [some (.sh t.d), none, none, none, none, none] _
  refine sx_seq (sx_set (ev_lst (ds := [plD ([], t)]) (ea_cons (ev_tup (ds := [.tup [], t.d]) (ea_cons (ev_tup (ds := []) ea_nil) (ea_cons (ev_var rfl rfl) ea_nil))) ea_nil)) ?_)
  refine sx_seq (sx_if (et_not (et_tru (ev_call (ea_cons (ev_var rfl rfl) ea_nil) ⟨t, rfl, rfl⟩) rfl)) (fun h => ?_) fun h => sx_next ?_)
  · cases t with
    | v m => cases h
    | ap s l =>
      have e1 : Ev K T (tOp (rIx K) (tVar 0) (tC (.int 1))) [some (.sh (Tm.ap s l).d), some (.own [plD ([], .ap s l)]), none, none, none, none] (.sh (.tup (l.map Tm.d))) := ev_ixT (ds := [s.d, .tup (l.map Tm.d)]) ((ev_var rfl rfl).of_eq (by rw [d_ap])) ev_int rfl
      have sz0 : sizeL l ≤ 1000 := by rw [Tm.size] at hz; omega
      refine sx_for (ei_enumT e1) (fun i δ => ∃ o p q r, δ = [some (.sh (Tm.ap s l).d), some (.own ((([], .ap s l) :: plcL 0 (l.take i)).map plD)), o, p, q, r]) ⟨none, none, none, none, rfl⟩ ?_ ?_
      · rintro i d δ' hi ⟨o, p, q, r, rfl⟩
        obtain ⟨u, hu, rfl⟩ := enu_in hi
        refine ⟨_, _, tg_tup (tg_cons tg_name (tg_cons tg_name tg_nil)), ?_⟩
        show Sx K T _ [some (.sh (Tm.ap s l).d), some (.own ((([], .ap s l) :: plcL 0 (l.take i)).map plD)), some (.sh (.int (i : Nat))), some (.sh u.d), q, r] _
        have hum := List.mem_of_getElem? hu
        have hlen : ∀ j, ((([], .ap s l) :: plcL 0 (l.take i) ++ ((plc u).take j).map fun p => (i :: p.1, p.2)).map plD).length ≤ 2010 := fun j => by
          have h1 := plcL_len (l.take i) 0 fun t _ => plc_len t
          have h2 := sizeL_take l i
          have h3 := plc_len u
          have h4 := size_mem hum
          simp only [List.length_map, List.length_append, List.length_cons, List.length_take]
          omega
        refine sx_for (ei_new (ev_call (ea_cons (ev_var rfl rfl) ea_nil) ⟨u.depth, by rw [← hd]; exact depth_arg hum, u, rfl, Nat.le_trans (size_mem hum) sz0, rfl, rfl⟩)) (fun j δ => ∃ q r, δ = [some (.sh (Tm.ap s l).d), some (.own ((([], .ap s l) :: plcL 0 (l.take i) ++ ((plc u).take j).map fun p => (i :: p.1, p.2)).map plD)), some (.sh (.int (i : Nat))), some (.sh u.d), q, r]) ⟨q, r, by simp⟩ ?_ ?_
        · rintro j d δ' hj ⟨q, r, rfl⟩
          obtain ⟨⟨p1, t1⟩, hp, rfl⟩ := at_map hj
          refine ⟨_, _, tg_tup (ds := [pcD p1, t1.d]) (tg_cons tg_name (tg_cons tg_name tg_nil)), ?_⟩
          show Sx K T _ [some (.sh (Tm.ap s l).d), some (.own ((([], .ap s l) :: plcL 0 (l.take i) ++ ((plc u).take j).map fun p => (i :: p.1, p.2)).map plD)), some (.sh (.int (i : Nat))), some (.sh u.d), some (.sh (pcD p1)), some (.sh t1.d)] _
          have hp1 : p1.length ≤ 1000 := by
            have h1 := plc_short u p1 t1 (List.mem_of_getElem? hp)
            have h2 := size_mem hum
            omega
          refine sx_append rfl (ev_tup (ds := [.tup ([.int (i : Nat)] ++ p1.map fun k => .int (k : Nat)), t1.d]) (ea_cons (ev_catT (ev_tup (ds := [.int (i : Nat)]) (ea_cons (ev_var rfl rfl) ea_nil)) (ev_var rfl rfl) (by simp; omega)) (ea_cons (ev_var rfl rfl) ea_nil))) (Nat.le_trans (hlen j) (by decide)) ?_
          refine ⟨some (.sh (pcD p1)), some (.sh t1.d), ?_⟩
          rw [List.take_succ, hp]
          simp
          rfl
        · rintro δ' ⟨q, r, rfl⟩
          refine ⟨some (.sh (.int (i : Nat))), some (.sh u.d), q, r, ?_⟩
          rw [List.length_map, List.take_length, plcL_take l i u hu, List.cons_append]
      · rintro δ' ⟨o, p, q, r, rfl⟩
        refine sx_retOwn ?_ rfl
        rw [enu_len, List.length_map, List.take_length, plc]
        rfl
  · cases t with
    | ap s l => cases h
    | v m => exact sx_retOwn rfl rfl
def atD : Option Tm → Dat
  | none => .non
  | some t => t.d
def R_at : List Sl → Sl → Prop := fun ss r => ∃ (t : Tm) (p : List Nat), ss = [.sh t.d, .sh (pcD p)] ∧ r = .sh (atD (atP t p))
theorem ok_at : Ok P w base T 2 E.f_at ["term", "place"] R_at := by
  have G_is_variable := ok_is_variable (P := P) (w := w) (base := base) (T := T) E
  refine fn_R E.f_at.F sc_at (fun ss s ⟨_, _, e, _⟩ => by rw [e]; rfl) fun cdv A outer s H _ hr => ⟨_, (pss_cons (ps_set (i := 2) sc_at.nd rfl (by first | exact Or.inl rfl | exact Or.inr rfl) (pv 0))
    (pss_cons (ps_for PassesOwn.never rfl (kiTup K (pv 1)) (pg_name (i := 3) sc_at.nd rfl (by first | exact Or.inl rfl | exact Or.inr rfl))
      (pss_cons (ps_if ((pw_or (kTru K (pe_call G_is_variable (hr.mono (by omega)) (by rfl) E.f_is_variable.g E.f_is_variable.F.kp (b_is_variable E) .nil pass0 (pa_cons (pv 2) pa_nil)) (fun _ => rfl)) (pw_or (pt_cmpR op_lt (pv 3) pe_int (nomark _)) (pw_or1 (pt_cmpR op_ge (pv 3) (pe_callB (kLen K) (by rfl) E.m_len PySem.boot_len (pa_cons (pe_ix (kIx K) (pv 2) pe_int (fun _ _ => rfl)) pa_nil)) (nomark _))))).pt)
        (pss_one (ps_ret pe_non))
        pss_nil)
      (pss_one (ps_set (i := 2) sc_at.nd rfl (by first | exact Or.inl rfl | exact Or.inr rfl) (pe_ix (kIx K) (pe_ix (kIx K) (pv 2) pe_int (fun _ _ => rfl)) (pv 3) (fun _ _ => rfl))))))
    (pss_one (ps_ret (pv 2))))), ?_⟩
  rintro ss r ⟨t, p, rfl, rfl⟩
  show Sx K T _ [some (.sh t.d), some (.sh (.tup (p.map fun k => .int (k : Nat)))), none, none] _
  refine sx_seq (sx_set (ev_var rfl rfl) ?_)
  refine sx_seq (sx_for (ei_tup (ev_var rfl rfl)) (fun i δ => ∃ u o, atP t (p.take i) = some u ∧ δ = [some (.sh t.d), some (.sh (.tup (p.map fun k => .int (k : Nat)))), some (.sh u.d), o]) ⟨t, none, atP_nil t, rfl⟩ ?_ ?_)
  · rintro i d δ' hi ⟨u, o, hu, rfl⟩
    obtain ⟨k, hk, rfl⟩ := at_map hi
    have ht := atP_take t p i k hk
    rw [hu] at ht
    have ht : atP t (p.take (i + 1)) = atP u [k] := ht
    have fail : atP u [k] = none → atP t p = none := fun z => by
      have := atP_none (p.drop (i + 1)) (p.take (i + 1)) t (by rw [ht, z])
      rw [List.take_append_drop] at this
      exact this
    refine ⟨_, _, tg_name, ?_⟩
    show Sx K T _ [some (.sh t.d), some (.sh (.tup (p.map fun k => .int (k : Nat)))), some (.sh u.d), some (.sh (.int (k : Nat)))] _
    cases u with
    | v n =>
      refine sx_seq (sx_if (b := true) (et_or (b := true) (c := true) (et_tru (ev_call (ea_cons (ev_var rfl rfl) ea_nil) ⟨.v n, rfl, rfl⟩) rfl) fun h => nomatch h) (fun _ => ?_) fun h => nomatch h)
      refine sx_ret ev_non ?_
      show Sl.sh .non = Sl.sh (atD (atP t p))
      rw [fail rfl]
      rfl
    | ap s l =>
      have e1 : Ev K T (tOp (rIx K) (tVar 2) (tC (.int 1))) [some (.sh t.d), some (.sh (.tup (p.map fun k => .int (k : Nat)))), some (.sh (Tm.ap s l).d), some (.sh (.int (k : Nat)))] (.sh (.tup (l.map Tm.d))) := ev_ixT (ds := [s.d, .tup (l.map Tm.d)]) ((ev_var rfl rfl).of_eq (by rw [d_ap])) ev_int rfl
      have e2 := ev_ge (K := K) (T := T) (ta := tVar 3) (δ := [some (.sh t.d), some (.sh (.tup (p.map fun k => .int (k : Nat)))), some (.sh (Tm.ap s l).d), some (.sh (.int (k : Nat)))]) (ev_var rfl rfl) (ev_CB (ea_cons e1 ea_nil) cb_lenT)
      have e3 := ev_lt (K := K) (T := T) (ta := tVar 3) (δ := [some (.sh t.d), some (.sh (.tup (p.map fun k => .int (k : Nat)))), some (.sh (Tm.ap s l).d), some (.sh (.int (k : Nat)))]) (ev_var rfl rfl) (ev_int (i := 0))
      have at1 : atP (.ap s l) [k] = l[k]? := by
        rw [atP]
        cases l[k]? with
        | none => rfl
        | some u => exact atP_nil u
      refine sx_seq (sx_if (et_or (b := false) (et_tru (ev_call (ea_cons (ev_var rfl rfl) ea_nil) ⟨.ap s l, rfl, rfl⟩) rfl) fun _ => et_or (et_test e3) fun _ => et_test e2) (fun h => ?_) fun h => sx_next ?_)
      · have hlen : l.length ≤ k := by
          simp only [Bool.or_eq_true, decide_eq_true_eq, List.length_map] at h
          rcases h with h | h | h
          · cases h
          · omega
          · omega
        refine sx_ret ev_non ?_
        show Sl.sh .non = Sl.sh (atD (atP t p))
        rw [fail (by rw [at1]; exact List.getElem?_eq_none hlen)]
        rfl
      · have hlen : k < l.length := by
          simp only [Bool.or_eq_false_iff, decide_eq_false_iff_not, List.length_map] at h
          omega
        have hv : l[k]? = some l[k] := by simp [hlen]
        refine sx_set (ev_ixT e1 (ev_var rfl rfl) (atI_n (map_at hv))) ?_
        exact ⟨l[k], some (.sh (.int (k : Nat))), by rw [ht, at1, hv], rfl⟩
  · rintro δ' ⟨u, o, hu, rfl⟩
    rw [List.length_map, List.take_length] at hu
    refine sx_ret (ev_var rfl rfl) ?_
    show Sl.sh u.d = Sl.sh (atD (atP t p))
    rw [hu]
    rfl
def R_put_inside (n : Nat) : List Sl → Sl → Prop := fun ss r => ∃ (t : Tm) (p : List Nat) (new : Tm), p.length = n ∧ atP t p ≠ none ∧ ss = [.sh t.d, .sh (pcD p), .sh new.d] ∧ r = .sh (putIn t p new).d
theorem ok_put_inside : ∀ n, Ok P w base T (n + 1 + 1) E.f_put_inside ["term", "place", "new"] (R_put_inside n) := by
  refine rec_R (fun n ss s ⟨_, _, _, _, _, e, _⟩ => by rw [e]; rfl) fun n G_put_inside => ?_
  refine fn_R E.f_put_inside.F sc_put_inside (fun ss s ⟨_, _, _, _, _, e, _⟩ => by rw [e]; rfl) fun cdv A outer s H _ hr => ⟨_, (pss_cons (ps_if (pt_not (kTru K (pv 1) (fun _ => rfl)))
      (pss_one (ps_ret (pv 2)))
      pss_nil)
    (pss_cons (ps_set (i := 3) sc_put_inside.nd rfl (by first | exact Or.inl rfl | exact Or.inr rfl) (pe_ix (kIx K) (pv 1) pe_int (fun _ _ => rfl)))
    (pss_cons (ps_set (i := 4) sc_put_inside.nd rfl (by first | exact Or.inl rfl | exact Or.inr rfl) (pe_callTy (kList K) (by rfl) E.m_list (by decide +kernel) (pa_cons (pe_ix (kIx K) (pv 0) pe_int (fun _ _ => rfl)) pa_nil)))
    (pss_cons (ps_asg (pe_call G_put_inside (hr.mono (by omega)) (by rfl) E.f_put_inside.g E.f_put_inside.F.kp (b_put_inside E) .nil pass0 (pa_cons (pe_ix (kIx K) (pv 4) (pv 3) (fun _ _ => rfl)) (pa_cons (pe_slice (kSl K) (pv 1) (po_some pe_int) po_none) (pa_cons (pv 2) pa_nil)))) (pg_sub (pv 4) (pv 3) set_list))
    (pss_one (ps_ret (pe_tup (pa_cons (pe_ix (kIx K) (pv 0) pe_int (fun _ _ => rfl)) (pa_cons (pe_callTy (kTuple K) (by rfl) E.m_tuple (by decide +kernel) (pa_cons (pv 4) pa_nil)) pa_nil))))))))), ?_⟩
  rintro ss r ⟨t, p, new, hn, hp, rfl, rfl⟩
  show Sx K T _ [some (.sh t.d), some (.sh (.tup (p.map fun k => .int (k : Nat)))), some (.sh new.d), none, none] _
  cases p with
  | nil =>
    refine sx_seq (sx_if (b := true) ((et_not (b := false) (et_tru (ev_var rfl rfl) rfl))) (fun _ => ?_) fun h => nomatch h)
    exact sx_ret (ev_var rfl rfl) (by cases t <;> rfl)
  | cons k p =>
    refine sx_seq (sx_if (b := false) ((et_not (b := true) (et_tru (ev_var rfl rfl) rfl))) (fun h => nomatch h) fun _ => sx_next ?_)
    refine sx_seq (sx_set (ev_ixT (ds := .int (k : Nat) :: p.map fun k => .int (k : Nat)) (ev_var rfl rfl) ev_int (atI_n (k := 0) rfl)) ?_)
    cases t with
    | v m => exact absurd rfl hp
    | ap s l =>
      cases hu : l[k]? with
      | none => rw [atP, hu] at hp; exact absurd rfl hp
      | some u =>
        have hlt : k < l.length := (List.getElem?_eq_some_iff.mp hu).1
        rw [atP, hu] at hp
        have hp : atP u p ≠ none := hp
        have e1 : ∀ a b c, Ev K T (tOp (rIx K) (tVar 0) (tC (.int 1))) [some (.sh (Tm.ap s l).d), a, b, c, none] (.sh (.tup (l.map Tm.d))) := fun a b c => ev_ixT (ds := [s.d, .tup (l.map Tm.d)]) ((ev_var rfl rfl).of_eq (by rw [d_ap])) ev_int rfl
        refine sx_seq (sx_set (ev_CB (ea_cons (e1 _ _ _) ea_nil) cb_listT) ?_)
        show Sx K T _ [some (.sh (Tm.ap s l).d), some (.sh (.tup (.int (k : Nat) :: p.map fun k => .int (k : Nat)))), some (.sh new.d), some (.sh (.int (k : Nat))), some (.own (l.map Tm.d))] _
        have e2 : Ev K T (tSl (rSlAA K) (tVar 1) (tPart (tC (.int 1))) tNoPart) [some (.sh (Tm.ap s l).d), some (.sh (.tup (.int (k : Nat) :: p.map fun k => .int (k : Nat)))), some (.sh new.d), some (.sh (.int (k : Nat))), some (.own (l.map Tm.d))] (.sh (pcD p)) := (ev_slT (ev_var rfl rfl) (eo_some ev_int) eo_none).of_eq (by
          rw [show (1 : Int) = ((1 : Nat) : Int) from rfl, cut_from _ 1 (by simp)]
          rfl)
        refine sx_seq (sx_setAt rfl (ev_call (ea_cons (ev_ixL (ev_own rfl) (ev_var rfl rfl) (atI_n (map_at hu))) (ea_cons e2 (ea_cons (ev_var rfl rfl) ea_nil))) ⟨p.length, by rw [← hn]; simp, u, p, new, rfl, hp, rfl, rfl⟩) (ev_var rfl rfl) (by rw [List.length_map]; exact hlt) ?_)
        have e3 : Ev K T (tOp (rIx K) (tVar 0) (tC (.int 0))) [some (.sh (Tm.ap s l).d), some (.sh (.tup (.int (k : Nat) :: p.map fun k => .int (k : Nat)))), some (.sh new.d), some (.sh (.int (k : Nat))), some (.own ((l.map Tm.d).set k (putIn u p new).d))] (.sh s.d) := ev_ixT (ds := [s.d, .tup (l.map Tm.d)]) ((ev_var rfl rfl).of_eq (by rw [d_ap])) ev_int rfl
        refine sx_ret (ev_tup (ds := [s.d, .tup ((l.map Tm.d).set k (putIn u p new).d)]) (ea_cons e3 (ea_cons (ev_CB (ea_cons (ev_own rfl) ea_nil) cb_tup) ea_nil))) ?_
        show Sl.sh _ = Sl.sh (putIn (.ap s l) (k :: p) new).d
        rw [putIn, hu, d_ap, List.map_set]
def R_put_at : List Sl → Sl → Prop := fun ss r => ∃ (t : Tm) (p : List Nat) (new : Tm), p.length ≤ 30 ∧ ss = [.sh t.d, .sh (pcD p), .sh new.d] ∧ r = .sh (putAt t p new).d
theorem ok_put_at : Ok P w base T 34 E.f_put_at ["term", "place", "new"] R_put_at := by
  have G_at := ok_at (P := P) (w := w) (base := base) (T := T) E
  refine fn_R E.f_put_at.F sc_put_at (fun ss s ⟨_, _, _, _, e, _⟩ => by rw [e]; rfl) fun cdv A outer s H _ hr => ?_
  have G_put_inside : Ok P w base T 33 E.f_put_inside ["term", "place", "new"] (fun ss r => ∃ n, n < 31 ∧ R_put_inside n ss r) := below_R (fun n ss s ⟨_, _, _, _, _, e, _⟩ => by rw [e]; rfl) fun m hm => (ok_put_inside (P := P) (w := w) (base := base) (T := T) E m).mono (by omega)
  refine ⟨_, (pss_cons (ps_if (pt_cmpR op_isNN (pe_call G_at (hr.mono (by omega)) (by rfl) E.f_at.g E.f_at.F.kp (b_at E) .nil pass0 (pa_cons (pv 0) (pa_cons (pv 1) pa_nil))) pe_non (nomark _))
      (pss_one (ps_ret (pv 0)))
      pss_nil)
    (pss_one (ps_ret (pe_call G_put_inside (hr.mono (by omega)) (by rfl) E.f_put_inside.g E.f_put_inside.F.kp (b_put_inside E) .nil pass0 (pa_cons (pv 0) (pa_cons (pv 1) (pa_cons (pv 2) pa_nil))))))), ?_⟩
  rintro ss r ⟨t, p, new, hn, rfl, rfl⟩
  show Sx K T _ [some (.sh t.d), some (.sh (pcD p)), some (.sh new.d)] _
  have hnon : ∀ o : Option Tm, (Sl.sh (atD o)).non = some (decide (o = none)) := fun o => by
    cases o with
    | none => rfl
    | some t => cases t <;> simp [atD, d_v, d_ap, Sl.non]
  refine sx_seq (sx_if (et_test (ev_isN (ev_call (ea_cons (ev_var rfl rfl) (ea_cons (ev_var rfl rfl) ea_nil)) ⟨t, p, rfl, rfl⟩) (hnon _))) (fun h => ?_) fun h => sx_next ?_)
  · have h := of_decide_eq_true h
    refine sx_ret (ev_var rfl rfl) ?_
    show Sl.sh t.d = Sl.sh (putAt t p new).d
    unfold putAt
    rw [if_pos h]
  · have h := of_decide_eq_false h
    refine sx_ret (ev_call (ea_cons (ev_var rfl rfl) (ea_cons (ev_var rfl rfl) (ea_cons (ev_var rfl rfl) ea_nil))) ⟨p.length, by omega, t, p, new, rfl, h, rfl, rfl⟩) ?_
    show Sl.sh _ = Sl.sh (putAt t p new).d
    unfold putAt
    rw [if_neg h]
end
end
end G3
end

section
set_option Elab.async false
set_option linter.all false
set_option maxRecDepth 100000
set_option maxHeartbeats 1000000
namespace G3
open PySem PySem.Spec PyProof.Rows L2 LamX NdefX
noncomputable section
open scoped Classical
theorem kListZip {X : Cx} (K : PySem.W.Frag) {e e2 : Expr} {ta : TA} {p p2 pos pos2 : Pos} (hg : Gl X "list") (hm : X.mg "list" = none) (hg2 : Gl X "zip") (hm2 : X.mg "zip" = none) (ha : PA X [e, e2] ta) (hc : X.calm = true := by rfl)
    (hs : starEach [e, e2] X.env = (false, eval e X.env) :: starEach [e2] X.env := by rfl) (hpl : (backTo pos2 (starEach [e2] X.env)).any (·.1) = false := by rfl)
    (hs1 : starEach [.Call (.Name "zip" p2) [e, e2] [] pos2] X.env = [(false, eval (.Call (.Name "zip" p2) [e, e2] [] pos2) X.env)] := by rfl) (hK : X.K = K := by rfl) :
    PE X (.Call (.Name "list" p) [.Call (.Name "zip" p2) [e, e2] [] pos2] [] pos) (tListZip K ta) := hK ▸ pe_listZip hc hg hm hg2 hm2 ha hs hpl hs1
section
variable {K : PySem.W.Frag} {T : List NTab} {H0 H H' : Hp} {σ : L2.St} {δ : AS} {te : TE} {d e : Dat} {s : Sl} {k : Kon}
theorem rps_pairs {H : Hp} : ∀ {ds es : List Dat} {xs ys acc : List V}, Rps H ds xs → Rps H es ys → ds.length = es.length → acc.length = xs.length → PAt H xs ys acc → Rps H (zipD ds es) acc
  | [], [], _, _, _, h1, h2, _, hl, _ => by
    rw [show _ = [] from h1] at hl
    exact List.eq_nil_of_length_eq_zero hl
  | [], _ :: _, _, _, _, _, _, h, _, _ => by simp at h
  | _ :: _, [], _, _, _, _, _, h, _, _ => by simp at h
  | d :: ds, e :: es, xs, ys, acc, h1, h2, h, hl, hp => by
    obtain ⟨x, xr, rfl, x1, x2⟩ := h1
    obtain ⟨y, yr, rfl, y1, y2⟩ := h2
    cases acc with
    | nil => simp at hl
    | cons v acc =>
      obtain ⟨T, t1, t2⟩ := hp 0 x y (by simp) rfl rfl
      simp only [List.getElem?_cons_zero, Option.some.injEq] at t1
      subst t1
      refine ⟨_, acc, rfl, ⟨T, _, rfl, t2, x, _, rfl, x1, y, _, rfl, y1, rfl⟩, rps_pairs x2 y2 (by simpa using h) (by simpa using hl) fun j a b hj ha hb => ?_⟩
      obtain ⟨U, u1, u2⟩ := hp (j + 1) a b (by simpa using hj) ha hb
      exact ⟨U, by simpa using u1, u2⟩
theorem ev_listZip {ta : TA} {ds es : List Dat} (h : EvA K T ta δ [.sh (.tup ds), .sh (.tup es)]) (hl : ds.length = es.length) (hz : ds.length ≤ 100000) : Ev K T (tListZip K ta) δ (.own (zipD ds es)) := fun H0 H σ r Q q =>
  h H0 H σ r _ fun vs H1 g1 t1 o1 => by
    obtain ⟨v, u, rfl, ⟨a, xs, rfl, a1, a2⟩, b, ys, rfl, b1, b2⟩ := paired2 o1
    refine ⟨a, b, xs, ys, rfl, SqT.of a1, SqT.of b1, by rw [a2.length, b2.length, hl], by rw [a2.length]; exact hz, fun L H' acc g n nL hL hacc hP => ?_⟩
    have g' : Gr H1 H' := ⟨fun b o e _ => g b o e, n⟩
    exact q _ H' (g1.trans g') (t1.ext g) ⟨L, acc, rfl, hL, rps_pairs (Rps.mono g'.stab _ a2) (Rps.mono g'.stab _ b2) hl hacc hP, g1.n L nL⟩
/-- target = xs.pop() -/
theorem sx_pop {i : Nat} {ds : List Dat} {g : TG} {δ' : AS} {is : List Nat} (hi : δ[i]? = some (some (.own (ds ++ [d])))) (t : Tgt K T g d (δ.set i (some (.own ds))) δ' is) (q : k.nx δ') (hc : noScr δ = true := by rfl) : Sx K T (tAsg (tBM0 K "list" rPop (tVar i)) g) δ k := fun H0 H σ D r o => by
  obtain ⟨v, h1, a, xs, rfl, h3, h4, h5⟩ := r.ok i _ hi
  have hlen := h4.length
  rw [List.length_append, List.length_singleton] at hlen
  have hx : xs[xs.length - 1]? = some (xs[xs.length - 1]'(by omega)) := by simp
  obtain ⟨d', hd', rd⟩ := h4.get hx
  rw [hlen, show ds.length + 1 - 1 = ds.length by omega, List.getElem?_append_right (Nat.le_refl _)] at hd'
  simp only [Nat.sub_self, List.getElem?_cons_zero, Option.some.injEq] at hd'
  subst hd'
  have st : Stab H (upd H a (.lst xs.dropLast)) := (show Wr (.lst xs) from .inl ⟨_, rfl⟩).stab h3
  have hdl := Rps.dropLast h4
  rw [List.dropLast_concat] at hdl
  refine ⟨.ref a, h1, .inl ⟨rfl, xs, .inl (.inl h3)⟩, a, xs, _, rfl, rfl, h3, hx, ?_⟩
  have r2 : Rel K T H0 (upd H a (.lst xs.dropLast)) σ (δ.set i (some (.own ds))) := r.write hi rfl h1 h3 (.inl ⟨_, rfl⟩) ⟨a, _, rfl, upd_same, Rps.mono st _ hdl, h5⟩ hc
  exact t H0 _ σ _ r2 (Rp.mono st _ rd) _ fun σ' r' _ => o.nx _ σ' δ' r' q
/-- x, y = (a, b) -/
theorem sx_par {i j : Nat} {ta : TA} (h : EvA K T ta δ [.sh d, .sh e]) (q : k.nx ((δ.set i (some (.sh d))).set j (some (.sh e)))) : Sx K T (tPar i j ta) δ k := fun H0 H σ D r o =>
  h H0 H σ r _ fun vs H1 g1 t1 o1 => by
    obtain ⟨v, w, rfl, h1, h2⟩ := paired2 o1
    refine ⟨v, w, rfl, ?_⟩
    have r1 := (r.grow g1 t1).set (i := i) (s := .sh d) h1 (fun z => nomatch z) (by simp [setOk, Sl.cont])
    exact o.nx _ _ _ (r1.set (i := j) (s := .sh e) h2 (fun z => nomatch z) (by simp [setOk, Sl.cont])) q
end
/-! ### bind -/
def bindS (σ : Sub) (x : Int) (t : Tm) : Sub := putI (σ.map fun p => (p.1, put [(x, t)] p.2)) x t
theorem putI_map {α β : Type} (f : α → β) (l : List (Int × α)) (x : Int) (d : α) : (putI l x d).map (fun p => (p.1, f p.2)) = putI (l.map fun p => (p.1, f p.2)) x (f d) := by
  unfold putI
  rw [List.any_map]
  have e : ((fun p : Int × β => decide (p.1 = x)) ∘ fun p : Int × α => (p.1, f p.2)) = fun p => decide (p.1 = x) := rfl
  rw [e]
  split
  · rw [List.map_map, List.map_map]
    refine List.map_congr_left fun p _ => ?_
    simp only [Function.comp]
    split <;> rfl
  · simp
theorem Sub.d_put (σ : Sub) (x : Int) (t : Tm) : Sub.d (putI σ x t) = putI (Sub.d σ) x t.d := putI_map Tm.d σ x t
theorem take_nd {α : Type} {l : List (Int × α)} (h : (l.map (·.1)).Nodup) {j : Nat} {p : Int × α} (e : l[j]? = some p) : p.1 ∉ (l.take j).map (·.1) := by
  have hj := (List.getElem?_eq_some_iff.mp e).1
  intro hm
  have e1 : l.map (·.1) = (l.take j).map (·.1) ++ (l.drop j).map (·.1) := by rw [← List.map_append, List.take_append_drop]
  rw [e1, List.nodup_append] at h
  have hd : p.1 ∈ (l.drop j).map (·.1) := List.mem_map.mpr ⟨p, by
    rw [List.mem_iff_getElem?]
    exact ⟨0, by rw [List.getElem?_drop]; exact e⟩, rfl⟩
  exact h.2.2 _ hm _ hd rfl
section
variable {P : Program} {w : World} {K : PySem.W.Frag} {mg : Str → Option Value} {base : Heap} {T : List NTab} (E : Txt K mg)
def R_bind (n : Nat) : List Sl → Sl → Prop := fun ss r => ∃ (σ : Sub) (x : Int) (t : Tm), (σ.map (·.1)).Nodup ∧ σ.length ≤ 1000 ∧ (∀ p ∈ σ, p.2.depth ≤ n ∧ p.2.thin) ∧ ss = [.dcx σ.d, .sh (.int x), .sh t.d] ∧ r = .ownD (bindS σ x t).d
theorem ok_bind (n : Nat) : Ok P w base T (n + 3) E.f_bind ["found", "variable", "term"] (R_bind n) := by
  have G_put := G_pt (P := P) (w := w) (base := base) (T := T) E n
  refine fn_R E.f_bind.F sc_bind (fun ss s ⟨_, _, _, _, _, _, e, _⟩ => by rw [e]; rfl) fun cdv A outer s H _ hr => ⟨_, (pss_cons (ps_set (i := 3) sc_bind.nd rfl (by first | exact Or.inl rfl | exact Or.inr rfl) (pe_disp (pps_cons (pv 1) (pv 2) pps_nil) (by rfl) (by rfl) (fun z => by cases z) (by decide)))
    (pss_cons (ps_set (i := 4) sc_bind.nd rfl (by first | exact Or.inl rfl | exact Or.inr rfl) pe_dnewK)
    (pss_cons (ps_lock (ps_for PassesOwn.never rfl (pi_items (pv 0)) (kgTup K (n := 2) rfl (pgs_cons (pg_name (i := 5) sc_bind.nd rfl (by first | exact Or.inl rfl | exact Or.inr rfl)) (pgs_cons (pg_name (i := 6) sc_bind.nd rfl (by first | exact Or.inl rfl | exact Or.inr rfl)) pgs_nil)))
      (pss_one (ps_dput (hu_of hr) (pv 4) (pv 5) (pe_call G_put (hr.mono (by omega)) (by rfl) E.f_put.g E.f_put.F.kp (b_put E) .nil pass0 (pa_cons (pv 6) (pa_cons (pv 3) pa_nil))) rfl))))
    (pss_cons (ps_dput (hu_of hr) (pv 4) (pv 1) (pv 2) rfl)
    (pss_one (ps_ret (pv 4))))))), ?_⟩
  rintro ss r ⟨σ, x, t, nd, hz, hd, rfl, rfl⟩
  show Sx K T _ [some (.dcx σ.d), some (.sh (.int x)), some (.sh t.d), none, none, none, none] _
  refine sx_seq (sx_set (ev_disp1 (ev_var rfl rfl) (ev_var rfl rfl)) ?_)
  refine sx_seq (sx_set ev_dnew ?_)
  refine sx_seq (sx_forItems (i := 0) rfl rfl (fun j δ => ∃ o p, noScr [o, p] = true ∧ δ = [some (.dct σ.d), some (.sh (.int x)), some (.sh t.d), some (.ownD [(x, t.d)]), some (.ownD (Sub.d ((σ.take j).map fun p => (p.1, put [(x, t)] p.2)))), o, p]) ⟨none, none, rfl, rfl⟩ ?_ ?_)
  · rintro j d δ' hj ⟨o, p, _, rfl⟩
    obtain ⟨⟨y, u⟩, hu, rfl⟩ := at_map hj
    have hum := hd _ (List.mem_of_getElem? hu)
    refine ⟨_, _, tg_tup (ds := [.int y, u.d]) (tg_cons tg_name (tg_cons tg_name tg_nil)), ?_⟩
    show Sx K T _ [some (.dct σ.d), some (.sh (.int x)), some (.sh t.d), some (.ownD (Sub.d [(x, t)])), some (.ownD (Sub.d ((σ.take j).map fun p => (p.1, put [(x, t)] p.2)))), some (.sh (.int y)), some (.sh u.d)] _
    refine sx_dput rfl (ev_call (ea_cons (ev_var rfl rfl) (ea_cons (ev_ownD rfl) ea_nil)) ⟨u, [(x, t)], hum.1, hum.2, rfl, rfl⟩) (ev_var rfl rfl) ?_ ?_
    · unfold Sub.d
      rw [List.length_map, List.length_map, List.length_take]
      omega
    · refine ⟨some (.sh (.int y)), some (.sh u.d), rfl, ?_⟩
      have e : (σ.take (j + 1)).map (fun p => (p.1, put [(x, t)] p.2)) = putI ((σ.take j).map fun p => (p.1, put [(x, t)] p.2)) y (put [(x, t)] u) := by
        rw [putI_new, List.take_succ, hu, List.map_append]
        · rfl
        · rw [List.map_map]
          exact take_nd nd hu
      rw [e, Sub.d_put]
      rfl
  · rintro δ' ⟨o, p, hop, rfl⟩
    have hl : (Sub.d σ).length = σ.length := by unfold Sub.d; rw [List.length_map]
    rw [hl, List.take_length]
    show Sx K T _ [some (.dct σ.d), some (.sh (.int x)), some (.sh t.d), some (.ownD [(x, t.d)]), some (.ownD (Sub.d (σ.map fun p => (p.1, put [(x, t)] p.2)))), o, p] _
    refine sx_seq (sx_dput rfl (ev_var rfl rfl) (ev_var rfl rfl) (by unfold Sub.d; rw [List.length_map, List.length_map]; omega) ?_ hop)
    refine sx_retOwnD (ds := (bindS σ x t).d) ?_ rfl
    unfold bindS
    rw [Sub.d_put]
    rfl
end
end
end G3
end

section
set_option Elab.async false
set_option linter.all false
set_option maxRecDepth 100000
set_option maxHeartbeats 1000000
/-! unify: what it does, in plain Lean -/
namespace G3
open PySem L2
noncomputable section
open scoped Classical
def uSwap (p : Tm × Tm) : Tm × Tm := if p.2.isV && !p.1.isV then (p.2, p.1) else p
def put1 (x : Int) (b : Tm) (q : Tm × Tm) : Tm × Tm := (put [(x, b)] q.1, put [(x, b)] q.2)
def uni : Nat → List (Tm × Tm) → Sub → Option (Option Sub)
  | _, [], σ => some (some σ)
  | 0, _ :: _, _ => none
  | n + 1, p :: st, σ => if p.1 = p.2 then uni n st σ else
    match uSwap p with
    | (.v x, b) => if occ x b > 0 then some none else uni n (st.map (put1 x b)) (bindS σ x b)
    | (.ap s l, .ap s' l') => if s ≠ s' ∨ l.length ≠ l'.length then some none else uni n ((l.zip l').reverse ++ st) σ
    | (.ap _ _, .v _) => some none
/-! ### occurrences -/
theorem occL_zero {x : Int} : ∀ {l : List Tm}, occL x l = 0 ↔ ∀ t ∈ l, occ x t = 0
  | [] => by simp [occL]
  | t :: r => by
    rw [occL]
    have := occL_zero (x := x) (l := r)
    constructor
    · intro h u hu
      rcases List.mem_cons.mp hu with rfl | hu
      · omega
      · exact this.mp (by omega) u hu
    · intro h
      have h1 := h t List.mem_cons_self
      have h2 := this.mpr fun u hu => h u (List.mem_cons_of_mem _ hu)
      omega
theorem occ_ap_zero {x : Int} {s : Sy} {l : List Tm} : occ x (.ap s l) = 0 ↔ ∀ t ∈ l, occ x t = 0 := by rw [occ]; exact occL_zero
theorem look_one {x y : Int} {b : Tm} : look [(x, b)] y = if x = y then some b else none := by
  unfold look
  by_cases h : x = y
  · rw [if_pos h, getI_pos (p := (x, b)) h]
  · rw [if_neg h, getI_neg (p := (x, b)) h]; rfl
theorem put_v (σ : Sub) (x : Int) : put σ (.v x) = (look σ x).getD (.v x) := by rw [put]
theorem put_one_v {x y : Int} {b : Tm} : put [(x, b)] (.v y) = if x = y then b else .v y := by
  rw [put_v, look_one]
  split <;> rfl
theorem occ_v {x y : Int} : occ x (.v y) = if y = x then 1 else 0 := by rw [occ]
theorem occ_put {x z : Int} {b : Tm} : ∀ t : Tm, occ z (put [(x, b)] t) ≠ 0 → (occ z t ≠ 0 ∧ z ≠ x) ∨ occ z b ≠ 0 := by
  refine Tm.ind (fun n h => ?_) fun s l ih h => ?_
  · rw [put_one_v] at h
    by_cases hx : x = n
    · rw [if_pos hx] at h; exact .inr h
    · rw [if_neg hx] at h
      refine .inl ⟨h, fun e => ?_⟩
      rw [occ_v] at h
      split at h
      · rename_i q; exact hx (e.symm.trans q.symm)
      · exact h rfl
  · rw [put_ap] at h
    have : ¬ ∀ t ∈ l.map (put [(x, b)]), occ z t = 0 := fun q => h (occ_ap_zero.mpr q)
    simp only [List.mem_map, forall_exists_index, and_imp, forall_apply_eq_imp_iff₂, Classical.not_forall] at this
    obtain ⟨t, ht, hz⟩ := this
    rcases ih t ht hz with ⟨h1, h2⟩ | h1
    · exact .inl ⟨fun q => h1 (occ_ap_zero.mp q t ht), h2⟩
    · exact .inr h1
theorem put_none {x : Int} {b : Tm} : ∀ t : Tm, occ x t = 0 → put [(x, b)] t = t := by
  refine Tm.ind (fun n h => ?_) fun s l ih h => ?_
  · rw [put_one_v, if_neg]
    intro e
    rw [occ_v, if_pos e.symm] at h
    cases h
  · rw [put_ap]
    congr 1
    exact (List.map_congr_left fun t ht => ih t ht (occ_ap_zero.mp h t ht)).trans (List.map_id _)
theorem thin_put {x : Int} {b : Tm} (hb : b.thin) : ∀ t : Tm, t.thin → (put [(x, b)] t).thin := by
  refine Tm.ind (fun n h => ?_) fun s l ih h => ?_
  · rw [put_one_v]
    split
    · exact hb
    · exact h
  · rw [put_ap, thin_ap]
    obtain ⟨h1, h2⟩ := thin_ap.mp h
    refine ⟨by rw [List.length_map]; exact h1, fun u hu => ?_⟩
    obtain ⟨t, ht, rfl⟩ := List.mem_map.mp hu
    exact ih t ht (h2 t ht)
/-! ### closed lists of terms -/
def cnt (L : List Tm) (n : Nat) : Nat := (L.filter fun t => decide (t.size ≤ n)).length
theorem filter_le {α : Type} {p q : α → Bool} : ∀ (l : List α), (∀ x ∈ l, p x = true → q x = true) → (l.filter p).length ≤ (l.filter q).length
  | [], _ => Nat.le_refl _
  | x :: r, h => by
    have ih := filter_le (p := p) (q := q) r fun y hy => h y (List.mem_cons_of_mem _ hy)
    rw [List.filter_cons, List.filter_cons]
    by_cases hp : p x = true
    · rw [if_pos hp, if_pos (h x List.mem_cons_self hp)]
      simp only [List.length_cons]; omega
    · rw [if_neg hp]
      split
      · simp only [List.length_cons]; omega
      · exact ih
theorem filter_lt {α : Type} {p q : α → Bool} : ∀ (l : List α), (∀ x ∈ l, p x = true → q x = true) → (∃ x ∈ l, q x = true ∧ p x = false) → (l.filter p).length < (l.filter q).length
  | [], _, ⟨x, hx, _⟩ => by cases hx
  | y :: r, h, ⟨x, hx, h1, h2⟩ => by
    have le := filter_le (p := p) (q := q) r fun y hy => h y (List.mem_cons_of_mem _ hy)
    rw [List.filter_cons, List.filter_cons]
    rcases List.mem_cons.mp hx with e | hx
    · subst e
      rw [if_neg (by rw [h2]; exact Bool.false_ne_true), if_pos h1]
      simp only [List.length_cons]; omega
    · have ih := filter_lt (p := p) (q := q) r (fun y hy => h y (List.mem_cons_of_mem _ hy)) ⟨x, hx, h1, h2⟩
      by_cases hp : p y = true
      · rw [if_pos hp, if_pos (h y List.mem_cons_self hp)]
        simp only [List.length_cons]; omega
      · rw [if_neg hp]
        split
        · simp only [List.length_cons]; omega
        · exact ih
def Clo (L : List Tm) : Prop := ∀ s l, Tm.ap s l ∈ L → ∀ u ∈ l, u ∈ L
theorem clo_dep {L : List Tm} (cl : Clo L) : ∀ t : Tm, t ∈ L → t.depth ≤ cnt L t.size := by
  refine Tm.ind (fun n _ => Nat.zero_le _) fun s l ih h => ?_
  have h1 : depthL l ≤ cnt L ((Tm.ap s l).size - 1) := depthL_le fun u hu => by
    refine Nat.le_trans (ih u hu (cl s l h u hu)) (filter_le _ fun x _ hx => ?_)
    have := size_arg (s := s) hu
    have hx := of_decide_eq_true hx
    exact decide_eq_true (by omega)
  have h2 : cnt L ((Tm.ap s l).size - 1) < cnt L (Tm.ap s l).size := by
    have hp := size_pos (Tm.ap s l)
    refine filter_lt _ (fun x _ hx => ?_) ⟨_, h, decide_eq_true (Nat.le_refl _), decide_eq_false (by omega)⟩
    have hx := of_decide_eq_true hx
    exact decide_eq_true (by omega)
  rw [Tm.depth]
  omega
theorem clo_len {L : List Tm} (cl : Clo L) {t : Tm} (h : t ∈ L) : t.depth ≤ L.length := Nat.le_trans (clo_dep cl t h) (List.length_filter_le _ _)
theorem clo_put {L : List Tm} (cl : Clo L) {x : Int} {b : Tm} (hb : b ∈ L) (ho : occ x b = 0) : Clo (L.map (put [(x, b)])) := by
  intro s l h u hu
  obtain ⟨t, ht, e⟩ := List.mem_map.mp h
  cases t with
  | v n =>
    rw [put_one_v] at e
    split at e
    · subst e
      have := cl s l hb u hu
      refine List.mem_map.mpr ⟨u, this, put_none u ?_⟩
      exact occ_ap_zero.mp ho u hu
    · cases e
  | ap s' l' =>
    rw [put_ap] at e
    cases e
    obtain ⟨v, hv, rfl⟩ := List.mem_map.mp hu
    exact List.mem_map.mpr ⟨v, cl _ _ ht v hv, rfl⟩
mutual
def subs : Tm → List Tm
  | .v n => [.v n]
  | .ap s l => .ap s l :: subsL l
def subsL : List Tm → List Tm
  | [] => []
  | t :: r => subs t ++ subsL r
end
theorem subs_self (t : Tm) : t ∈ subs t := by cases t <;> simp [subs]
theorem mem_subsL {u : Tm} : ∀ {l : List Tm}, u ∈ subsL l ↔ ∃ t ∈ l, u ∈ subs t
  | [] => by simp [subsL]
  | t :: r => by rw [subsL, List.mem_append, mem_subsL (l := r)]; simp
theorem subs_clo : ∀ t : Tm, Clo (subs t) := by
  refine Tm.ind (fun n s l h => by simp [subs] at h) fun s l ih s' l' h u hu => ?_
  rw [subs] at h ⊢
  rcases List.mem_cons.mp h with e | h
  · cases e
    exact List.mem_cons_of_mem _ (mem_subsL.mpr ⟨u, hu, subs_self u⟩)
  · obtain ⟨t, ht, h'⟩ := mem_subsL.mp h
    exact List.mem_cons_of_mem _ (mem_subsL.mpr ⟨t, ht, ih t ht s' l' h' u hu⟩)
theorem subsL_len : ∀ l : List Tm, (∀ t ∈ l, (subs t).length = t.size) → (subsL l).length = sizeL l
  | [], _ => rfl
  | t :: r, h => by rw [subsL, sizeL, List.length_append, h t List.mem_cons_self, subsL_len r fun u hu => h u (List.mem_cons_of_mem _ hu)]
theorem subs_len : ∀ t : Tm, (subs t).length = t.size := by
  refine Tm.ind (fun n => by simp [subs, Tm.size]) fun s l ih => ?_
  rw [subs, Tm.size, List.length_cons, subsL_len l ih]
theorem subs_dep : ∀ t u : Tm, u ∈ subs t → u.depth ≤ t.depth := by
  refine Tm.ind (fun n u h => by simp [subs] at h; subst h; exact Nat.le_refl _) fun s l ih u h => ?_
  rw [subs] at h
  rcases List.mem_cons.mp h with e | h
  · rw [e]; exact Nat.le_refl _
  · obtain ⟨t, ht, h'⟩ := mem_subsL.mp h
    have := ih t ht u h'
    have := depth_arg (s := s) ht
    omega
theorem subs_occ {x : Int} : ∀ t u : Tm, u ∈ subs t → occ x u ≠ 0 → occ x t ≠ 0 := by
  refine Tm.ind (fun n u h => by simp [subs] at h; subst h; exact id) fun s l ih u h ho => ?_
  rw [subs] at h
  rcases List.mem_cons.mp h with e | h
  · rw [← e]; exact ho
  · obtain ⟨t, ht, h'⟩ := mem_subsL.mp h
    exact fun z => ih t ht u h' ho (occ_ap_zero.mp z t ht)
theorem subs_thin : ∀ t u : Tm, u ∈ subs t → t.thin → u.thin := by
  refine Tm.ind (fun n u h => by simp [subs] at h; subst h; exact id) fun s l ih u h ho => ?_
  rw [subs] at h
  rcases List.mem_cons.mp h with e | h
  · rw [e]; exact ho
  · obtain ⟨t, ht, h'⟩ := mem_subsL.mp h
    exact ih t ht u h' ((thin_ap.mp ho).2 t ht)
theorem mem_collL {x : Int} : ∀ {l : List Tm} {acc : List Int}, x ∈ collL acc l ↔ x ∈ acc ∨ ∃ t ∈ l, occ x t ≠ 0
  | [], acc => by simp [collL]
  | t :: r, acc => by
    rw [collL, mem_collL (l := r), mem_coll]
    constructor
    · rintro ((h | h) | ⟨u, hu, h⟩)
      · exact .inl h
      · exact .inr ⟨t, List.mem_cons_self, h⟩
      · exact .inr ⟨u, List.mem_cons_of_mem _ hu, h⟩
    · rintro (h | ⟨u, hu, h⟩)
      · exact .inl (.inl h)
      · rcases List.mem_cons.mp hu with e | hu
        · rw [← e]; exact .inl (.inr h)
        · exact .inr ⟨u, hu, h⟩
theorem nodup_collL : ∀ {l : List Tm} {acc : List Int}, acc.Nodup → (collL acc l).Nodup
  | [], acc, h => h
  | t :: r, acc, h => by rw [collL]; exact nodup_collL (nodup_coll t acc h)
/-! ### what the loop keeps -/
structure UInv (L : List Tm) (M : Nat) (st : List (Tm × Tm)) (σ : Sub) : Prop where
  cl : Clo L
  ar : ∀ t ∈ L, t.thin
  vb : ∀ t ∈ L, ∀ x, occ x t ≠ 0 → 0 ≤ x ∧ x < 1000
  dp : ∀ t ∈ L, t.depth ≤ 14
  lim : L.length ≤ 14 ∨ ∀ t ∈ L, ∀ x, occ x t = 0
  sm : ∀ p ∈ st, p.1 ∈ L ∧ p.2 ∈ L
  sg : ∀ p ∈ σ, p.2 ∈ L
  nd : (σ.map (·.1)).Nodup
  kv : ∀ p ∈ σ, (0 ≤ p.1 ∧ p.1 < 1000) ∧ ∀ t ∈ L, occ p.1 t = 0
  ht : ∀ i p, st.reverse[i]? = some p → i + p.1.depth ≤ M
  mb : M + 15 * (collL [] L).length ≤ 1000
theorem UInv.pop {L : List Tm} {M : Nat} {p : Tm × Tm} {st : List (Tm × Tm)} {σ : Sub} (h : UInv L M (p :: st) σ) : UInv L M st σ :=
  ⟨h.cl, h.ar, h.vb, h.dp, h.lim, fun q hq => h.sm q (List.mem_cons_of_mem _ hq), h.sg, h.nd, h.kv, fun i q e => h.ht i q (by
    rw [List.reverse_cons, List.getElem?_append_left (List.getElem?_eq_some_iff.mp e).1]; exact e), h.mb⟩
theorem UInv.split {L : List Tm} {M : Nat} {s s' : Sy} {l l' : List Tm} {st : List (Tm × Tm)} {σ : Sub} (h : UInv L M ((.ap s l, .ap s' l') :: st) σ) : UInv L M ((l.zip l').reverse ++ st) σ := by
  have hp := h.sm _ List.mem_cons_self
  have hd : st.length + (Tm.ap s l).depth ≤ M := h.ht st.length (.ap s l, .ap s' l') (by rw [List.reverse_cons, List.getElem?_append_right (by simp)]; simp)
  have hthin := (thin_ap.mp (h.ar _ hp.1)).1
  refine ⟨h.cl, h.ar, h.vb, h.dp, h.lim, fun q hq => ?_, h.sg, h.nd, h.kv, fun i q e => ?_, h.mb⟩
  · rcases List.mem_append.mp hq with hq | hq
    · have := List.of_mem_zip (List.mem_reverse.mp hq)
      exact ⟨h.cl _ _ hp.1 _ this.1, h.cl _ _ hp.2 _ this.2⟩
    · exact h.sm q (List.mem_cons_of_mem _ hq)
  · rw [List.reverse_append, List.reverse_reverse] at e
    by_cases hi : i < st.length
    · rw [List.getElem?_append_left (by simpa using hi)] at e
      exact h.pop.ht i q e
    · rw [List.getElem?_append_right (by simpa using hi), List.length_reverse] at e
      have hj : i - st.length < (l.zip l').length := (List.getElem?_eq_some_iff.mp e).1
      rw [List.length_zip] at hj
      have hm := List.of_mem_zip (List.mem_of_getElem? e)
      have := depth_arg (s := s) hm.1
      omega
theorem UInv.bind {L : List Tm} {M : Nat} {p : Tm × Tm} {x : Int} {b : Tm} {st : List (Tm × Tm)} {σ : Sub} (h : UInv L M (p :: st) σ) (hx : Tm.v x ∈ L) (hb : b ∈ L) (ho : occ x b = 0) : UInv (L.map (put [(x, b)])) (M + 15) (st.map (put1 x b)) (bindS σ x b) := by
  have hxx : occ x (.v x) ≠ 0 := by rw [occ_v, if_pos rfl]; exact Nat.one_ne_zero
  have lim : L.length ≤ 14 := h.lim.resolve_right fun z => hxx (z _ hx x)
  have ci := clo_put h.cl hb ho
  have hxk : x ∉ (σ.map fun p => (p.1, put [(x, b)] p.2)).map (·.1) := by
    rw [List.map_map]
    intro z
    obtain ⟨q, hq, e⟩ := List.mem_map.mp z
    have := (h.kv q hq).2 _ hx
    have e : q.1 = x := e
    rw [e] at this
    exact hxx this
  have e0 : bindS σ x b = (σ.map fun p => (p.1, put [(x, b)] p.2)) ++ [(x, b)] := putI_new hxk
  have occ' : ∀ u ∈ L.map (put [(x, b)]), ∀ z, occ z u ≠ 0 → (∃ t ∈ L, occ z t ≠ 0) ∧ z ≠ x := fun u hu z hz => by
    obtain ⟨t, ht, rfl⟩ := List.mem_map.mp hu
    rcases occ_put t hz with ⟨h1, h2⟩ | h1
    · exact ⟨⟨t, ht, h1⟩, h2⟩
    · exact ⟨⟨b, hb, h1⟩, fun e => h1 (by rw [e]; exact ho)⟩
  refine ⟨ci, fun u hu => ?_, fun u hu z hz => ?_, fun u hu => ?_, .inl (by rw [List.length_map]; exact lim), fun q hq => ?_, fun q hq => ?_, ?_, fun q hq => ?_, fun i q e => ?_, ?_⟩
  · obtain ⟨t, ht, rfl⟩ := List.mem_map.mp hu
    exact thin_put (h.ar b hb) t (h.ar t ht)
  · obtain ⟨⟨t, ht, h1⟩, _⟩ := occ' u hu z hz
    exact h.vb t ht z h1
  · have := clo_len ci hu
    rw [List.length_map] at this
    omega
  · obtain ⟨q', hq', rfl⟩ := List.mem_map.mp hq
    have := h.sm q' (List.mem_cons_of_mem _ hq')
    exact ⟨List.mem_map.mpr ⟨_, this.1, rfl⟩, List.mem_map.mpr ⟨_, this.2, rfl⟩⟩
  · rw [e0] at hq
    rcases List.mem_append.mp hq with hq | hq
    · obtain ⟨q', hq', rfl⟩ := List.mem_map.mp hq
      exact List.mem_map.mpr ⟨_, h.sg q' hq', rfl⟩
    · rw [List.mem_singleton] at hq
      rw [hq]
      exact List.mem_map.mpr ⟨b, hb, put_none b ho⟩
  · rw [e0, List.map_append, List.map_map]
    refine List.nodup_append.mpr ⟨h.nd, by simp, fun a ha c hc e => ?_⟩
    have hc : c = x := by simpa using hc
    rw [List.map_map] at hxk
    exact hxk (by rw [← hc, ← e]; exact ha)
  · rw [e0] at hq
    rcases List.mem_append.mp hq with hq | hq
    · obtain ⟨q', hq', rfl⟩ := List.mem_map.mp hq
      refine ⟨(h.kv q' hq').1, fun u hu => ?_⟩
      refine Classical.byContradiction fun z => ?_
      obtain ⟨⟨t, ht, h1⟩, _⟩ := occ' u hu _ z
      exact h1 ((h.kv q' hq').2 t ht)
    · rw [List.mem_singleton] at hq
      rw [hq]
      refine ⟨h.vb _ hx x hxx, fun u hu => ?_⟩
      refine Classical.byContradiction fun z => ?_
      exact (occ' u hu _ z).2 rfl
  · rw [← List.map_reverse, List.getElem?_map] at e
    cases hq : st.reverse[i]? with
    | none => rw [hq] at e; cases e
    | some q' =>
      rw [hq] at e; cases e
      have h1 := h.pop.ht i q' hq
      have hm := h.sm q' (List.mem_cons_of_mem _ (List.mem_reverse.mp (List.mem_of_getElem? hq)))
      have h2 : (put [(x, b)] q'.1).depth ≤ 14 := by
        have := clo_len ci (List.mem_map.mpr ⟨_, hm.1, rfl⟩)
        rw [List.length_map] at this
        omega
      show i + (put [(x, b)] q'.1).depth ≤ M + 15
      omega
  · have hlt : (collL [] (L.map (put [(x, b)]))).length + 1 ≤ (collL [] L).length := by
      have hn : x ∉ collL [] (L.map (put [(x, b)])) := fun z => by
        rcases mem_collL.mp z with z | ⟨u, hu, z⟩
        · cases z
        · exact (occ' u hu x z).2 rfl
      have := nodup_len (x :: collL [] (L.map (put [(x, b)]))) (collL [] L) (List.nodup_cons.mpr ⟨hn, nodup_collL List.nodup_nil⟩) fun z hz => by
        rcases List.mem_cons.mp hz with e | hz
        · rw [e]; exact mem_collL.mpr (.inr ⟨_, hx, hxx⟩)
        · rcases mem_collL.mp hz with z | ⟨u, hu, z⟩
          · cases z
          · obtain ⟨h1, _⟩ := occ' u hu _ z
            exact mem_collL.mpr (.inr h1)
      simpa using this
    have := h.mb
    omega
/-- one turn -/
theorem uSwap_cases (p : Tm × Tm) : (∃ x b, uSwap p = (.v x, b) ∧ ((p.1 = .v x ∧ p.2 = b) ∨ (p.2 = .v x ∧ p.1 = b))) ∨ ∃ s l s' l', p = (.ap s l, .ap s' l') ∧ uSwap p = p := by
  obtain ⟨a, b⟩ := p
  cases a with
  | v x => exact .inl ⟨x, b, by simp [uSwap, Tm.isV], .inl ⟨rfl, rfl⟩⟩
  | ap s l =>
    cases b with
    | v y => exact .inl ⟨y, .ap s l, by simp [uSwap, Tm.isV], .inr ⟨rfl, rfl⟩⟩
    | ap s' l' => exact .inr ⟨s, l, s', l', rfl, by simp [uSwap, Tm.isV]⟩
def szs (st : List (Tm × Tm)) : Nat := (st.map fun p => p.1.size).sum
theorem szs_zip : ∀ (l l' : List Tm), szs (l.zip l') ≤ sizeL l
  | [], l' => by simp [szs]
  | t :: r, [] => by simp [szs]
  | t :: r, u :: r' => by
    have := szs_zip r r'
    unfold szs at this ⊢
    rw [List.zip_cons_cons, List.map_cons, List.sum_cons, sizeL]
    show t.size + _ ≤ t.size + _
    omega
theorem uni_ends : ∀ (v S : Nat) (L : List Tm) (M : Nat) (st : List (Tm × Tm)) (σ : Sub), UInv L M st σ → (collL [] L).length ≤ v → szs st ≤ S → ∃ m r, uni m st σ = some r := by
  intro v
  induction v using Nat.strongRecOn with
  | _ v ihv =>
    intro S
    induction S using Nat.strongRecOn with
    | _ S ihS =>
      intro L M st σ h hv hS
      cases st with
      | nil => exact ⟨0, some σ, rfl⟩
      | cons p st =>
        have hsz : szs (p :: st) = p.1.size + szs st := by simp [szs]
        have hpos := size_pos p.1
        by_cases he : p.1 = p.2
        · obtain ⟨m, r, e⟩ := ihS (szs st) (by omega) L M st σ h.pop hv (Nat.le_refl _)
          exact ⟨m + 1, r, by rw [uni, if_pos he]; exact e⟩
        · have hm := h.sm p List.mem_cons_self
          rcases uSwap_cases p with ⟨x, b, hsw, hor⟩ | ⟨s, l, s', l', rfl, hsw⟩
          · have hxb : Tm.v x ∈ L ∧ b ∈ L := by
              rcases hor with ⟨e1, e2⟩ | ⟨e1, e2⟩
              · exact ⟨e1 ▸ hm.1, e2 ▸ hm.2⟩
              · exact ⟨e1 ▸ hm.2, e2 ▸ hm.1⟩
            by_cases ho : occ x b > 0
            · exact ⟨1, none, by rw [uni, if_neg he, hsw]; show (if occ x b > 0 then _ else _) = _; rw [if_pos ho]⟩
            · have hb := h.bind hxb.1 hxb.2 (by omega)
              have := h.mb
              have h2 := hb.mb
              have hlt : (collL [] (L.map (put [(x, b)]))).length < v := by
                have hn : x ∉ collL [] (L.map (put [(x, b)])) := fun z => by
                  rcases mem_collL.mp z with z | ⟨u, hu, z⟩
                  · cases z
                  · obtain ⟨t, ht, rfl⟩ := List.mem_map.mp hu
                    rcases occ_put t z with ⟨_, h2⟩ | h1
                    · exact h2 rfl
                    · exact h1 (by omega)
                have := nodup_len (x :: collL [] (L.map (put [(x, b)]))) (collL [] L) (List.nodup_cons.mpr ⟨hn, nodup_collL List.nodup_nil⟩) fun z hz => by
                  rcases List.mem_cons.mp hz with e | hz
                  · rw [e]; exact mem_collL.mpr (.inr ⟨_, hxb.1, by rw [occ_v, if_pos rfl]; exact Nat.one_ne_zero⟩)
                  · rcases mem_collL.mp hz with z | ⟨u, hu, z⟩
                    · cases z
                    · obtain ⟨t, ht, rfl⟩ := List.mem_map.mp hu
                      rcases occ_put t z with ⟨h1, _⟩ | h1
                      · exact mem_collL.mpr (.inr ⟨t, ht, h1⟩)
                      · exact mem_collL.mpr (.inr ⟨b, hxb.2, h1⟩)
                simp only [List.length_cons] at this
                omega
              obtain ⟨m, r, e⟩ := ihv _ hlt (szs (st.map (put1 x b))) _ _ _ _ hb (Nat.le_refl _) (Nat.le_refl _)
              exact ⟨m + 1, r, by rw [uni, if_neg he, hsw]; show (if occ x b > 0 then _ else _) = _; rw [if_neg ho]; exact e⟩
          · by_cases hc : s ≠ s' ∨ l.length ≠ l'.length
            · exact ⟨1, none, by rw [uni, if_neg he, hsw]; show (if _ then _ else _) = _; rw [if_pos hc]⟩
            · have hz : szs ((l.zip l').reverse ++ st) < S := by
                have h1 := szs_zip l l'
                have h2 : szs ((l.zip l').reverse ++ st) = szs (l.zip l') + szs st := by
                  unfold szs
                  rw [List.map_append, List.sum_append, List.map_reverse, List.sum_reverse]
                have h3 : (Tm.ap s l).size = sizeL l + 1 := by rw [Tm.size]
                have hsz' : szs ((Tm.ap s l, Tm.ap s' l') :: st) = (Tm.ap s l).size + szs st := hsz
                omega
              obtain ⟨m, r, e⟩ := ihS _ hz L M _ σ h.split hv (Nat.le_refl _)
              exact ⟨m + 1, r, by rw [uni, if_neg he, hsw]; show (if _ then _ else _) = _; rw [if_neg hc]; exact e⟩
end
end G3
end

section
set_option Elab.async false
set_option linter.all false
set_option maxRecDepth 100000
set_option maxHeartbeats 1000000
namespace G3
open PySem PySem.Spec PyProof.Rows L2 LamX NdefX
noncomputable section
open scoped Classical
def prD (p : Tm × Tm) : Dat := .tup [p.1.d, p.2.d]
theorem zipD_map : ∀ l l' : List Tm, zipD (l.map Tm.d) (l'.map Tm.d) = (l.zip l').map prD
  | [], l' => by simp [zipD]
  | t :: r, [] => by simp [zipD]
  | t :: r, u :: r' => by
    rw [List.map_cons, List.map_cons, zipD, zipD_map r r', List.zip_cons_cons, List.map_cons]
    rfl
def uniS : Option Sub → Sl
  | none => .sh .non
  | some τ => .ownD τ.d
section
variable {P : Program} {w : World} {K : PySem.W.Frag} {mg : Str → Option Value} {base : Heap} {T : List NTab} (E : Txt K mg)
def R_unify : List Sl → Sl → Prop := fun ss r => ∃ (ps : List (Tm × Tm)) (m : Nat) (L : List Tm) (M : Nat) (res : Option Sub), uni m ps.reverse [] = some res ∧ UInv L M ps.reverse [] ∧ ss = [.lst (ps.map prD)] ∧ r = uniS res
theorem st_len {L : List Tm} {M : Nat} {st : List (Tm × Tm)} {σ : Sub} (h : UInv L M st σ) : st.length ≤ 1001 := by
  cases st with
  | nil => simp
  | cons p st =>
    have h1 := h.ht st.length p (by rw [List.reverse_cons, List.getElem?_append_right (by simp)]; simp)
    have := h.mb
    simp only [List.length_cons]
    omega
theorem ok_unify : Ok P w base T 18 E.f_unify ["pairs"] R_unify := by
  have G_is_variable := ok_is_variable (P := P) (w := w) (base := base) (T := T) E
  have G_occurrences := G_occ (P := P) (w := w) (base := base) (T := T) E 14
  have G_put := G_pt (P := P) (w := w) (base := base) (T := T) E 14
  have G_bind := ok_bind (P := P) (w := w) (base := base) (T := T) E 14
  refine fn_R E.f_unify.F sc_unify (fun ss s ⟨_, _, _, _, _, _, _, e, _⟩ => by rw [e]; rfl) fun cdv A outer s H _ hr => ⟨_, (pss_cons (ps_set (i := 1) sc_unify.nd rfl (by first | exact Or.inl rfl | exact Or.inr rfl) (pe_callTy (kList K) (by rfl) E.m_list (by decide +kernel) (pa_cons (pv 0) pa_nil)))
    (pss_cons (ps_set (i := 2) sc_unify.nd rfl (by first | exact Or.inl rfl | exact Or.inr rfl) pe_dnewK)
    (pss_cons (ps_while PassesOwn.never (kTru K (pv 1) (fun _ => rfl))
      (pss_cons (ps_asg (pe_bm0 PySem.F.plainAttrs_list PySem.F.slot_list_pop PySem.F.type_list_pop mt_pop (pv 1)) (kgTup K (n := 2) rfl (pgs_cons (pg_name (i := 3) sc_unify.nd rfl (by first | exact Or.inl rfl | exact Or.inr rfl)) (pgs_cons (pg_name (i := 4) sc_unify.nd rfl (by first | exact Or.inl rfl | exact Or.inr rfl)) pgs_nil))))
      (pss_cons (ps_if (pt_cmpR (kEq K hr.units) (pv 3) (pv 4) (nomark _))
        (pss_one ps_continue)
        pss_nil)
      (pss_cons (ps_if ((pw_and (kTru K (pe_call G_is_variable (hr.mono (by omega)) (by rfl) E.f_is_variable.g E.f_is_variable.F.kp (b_is_variable E) .nil pass0 (pa_cons (pv 4) pa_nil)) (fun _ => rfl)) (pw_and1 (pt_not (kTru K (pe_call G_is_variable (hr.mono (by omega)) (by rfl) E.f_is_variable.g E.f_is_variable.F.kp (b_is_variable E) .nil pass0 (pa_cons (pv 3) pa_nil)) (fun _ => rfl))))).pt)
        (pss_one (ps_par (i := 3) (j := 4) rfl sc_unify.nd rfl rfl (by decide) rfl rfl (pa_cons (pv 4) (pa_cons (pv 3) pa_nil)) rfl))
        pss_nil)
      (pss_one (ps_if (kTru K (pe_call G_is_variable (hr.mono (by omega)) (by rfl) E.f_is_variable.g E.f_is_variable.F.kp (b_is_variable E) .nil pass0 (pa_cons (pv 3) pa_nil)) (fun _ => rfl))
        (pss_cons (ps_if (pt_cmpR op_gt (pe_call G_occurrences (hr.mono (by omega)) (by rfl) E.f_occurrences.g E.f_occurrences.F.kp (b_occurrences E) .nil pass0 (pa_cons (pv 4) (pa_cons (pv 3) pa_nil))) pe_int (nomark _))
          (pss_one (ps_ret pe_non))
          pss_nil)
        (pss_cons (ps_set (i := 5) sc_unify.nd rfl (by first | exact Or.inl rfl | exact Or.inr rfl) (pe_disp (pps_cons (pv 3) (pv 4) pps_nil) (by rfl) (by rfl) (fun z => by cases z) (by decide)))
        (pss_cons (ps_setLc (i := 1) (own := [("one", 6), ("other", 7)]) (by rfl) sc_unify.nd rfl rfl (sw_true rfl rfl rfl (by decide +kernel)) (kiList K (pv 1)) (blkOk_by (own := [("one", 6), ("other", 7)]) (N := ["pairs", "waiting", "found", "first", "second", "step", "one", "other"]) (sc := (defScope s_unify)) (by decide +kernel)) (fun _ _ _ _ _ => (kgTup K (n := 2) rfl (pgs_cons (pg_name (i := 6) sc_unify.nd rfl (by first | exact Or.inl rfl | exact Or.inr rfl)) (pgs_cons (pg_name (i := 7) sc_unify.nd rfl (by first | exact Or.inl rfl | exact Or.inr rfl)) pgs_nil)))) (fun _ _ _ _ _ => pts_nil) (fun _ _ _ _ _ => (pe_tup (pa_cons (pe_call G_put (hr.mono (by omega)) (by rfl) E.f_put.g E.f_put.F.kp (b_put E) .nil pass0 (pa_cons (pv 6) (pa_cons (pv 5) pa_nil))) (pa_cons (pe_call G_put (hr.mono (by omega)) (by rfl) E.f_put.g E.f_put.F.kp (b_put E) .nil pass0 (pa_cons (pv 7) (pa_cons (pv 5) pa_nil))) pa_nil)))))
        (pss_one (ps_set (i := 2) sc_unify.nd rfl (by first | exact Or.inl rfl | exact Or.inr rfl) (pe_call G_bind (hr.mono (by omega)) (by rfl) E.f_bind.g E.f_bind.F.kp (b_bind E) .nil pass0 (pa_cons (pv 2) (pa_cons (pv 3) (pa_cons (pv 4) pa_nil)))))))))
        (pss_one (ps_if ((pw_or (pt_cmpR (kNe K hr.units) (pe_ix (kIx K) (pv 3) pe_int (fun _ _ => rfl)) (pe_ix (kIx K) (pv 4) pe_int (fun _ _ => rfl)) (nomark _)) (pw_or1 (pt_cmpR (kNe K hr.units) (pe_callB (kLen K) (by rfl) E.m_len PySem.boot_len (pa_cons (pe_ix (kIx K) (pv 3) pe_int (fun _ _ => rfl)) pa_nil)) (pe_callB (kLen K) (by rfl) E.m_len PySem.boot_len (pa_cons (pe_ix (kIx K) (pv 4) pe_int (fun _ _ => rfl)) pa_nil)) (nomark _)))).pt)
          (pss_one (ps_ret pe_non))
          (pss_one (ps_set (i := 1) sc_unify.nd rfl (by first | exact Or.inl rfl | exact Or.inr rfl) (pe_op (kAdd K) (pv 1) (kListZip K (by rfl) E.m_list (by rfl) E.m_zip (pa_cons (pe_ix (kIx K) (pv 3) pe_int (fun _ _ => rfl)) (pa_cons (pe_ix (kIx K) (pv 4) pe_int (fun _ _ => rfl)) pa_nil))))))))))))))
    (pss_one (ps_ret (pv 2)))))), ?_⟩
  rintro ss r ⟨ps, m, L, M, res, hm, hU, rfl, rfl⟩
  show Sx K T _ [some (.lst (ps.map prD)), none, none, none, none, none, none, none] _
  refine sx_seq (sx_set (ev_CB (ea_cons (ev_var rfl rfl) ea_nil) cb_listL) ?_)
  refine sx_seq (sx_set ev_dnew ?_)
  refine sx_seq (sx_while (fun n δ => ∃ st σ L M o3 o4 o5, uni n st σ = some res ∧ UInv L M st σ ∧ noScr [o3, o4, o5, none, none] = true ∧ noScr [o5, none, none] = true ∧ δ = [some (.lst (ps.map prD)), some (.own (st.reverse.map prD)), some (.ownD (Sub.d σ)), o3, o4, o5, none, none]) m ⟨ps.reverse, [], L, M, none, none, none, hm, hU, rfl, rfl, by rw [List.reverse_reverse]; rfl⟩ ?_)
  rintro n δ' ⟨st, σ, L, M, o3, o4, o5, hn, hU, hsc, hsc5, rfl⟩
  cases st with
  | nil =>
    refine ⟨false, et_tru (ev_own rfl) rfl, (fun z => nomatch z), fun _ => ?_⟩
    have : res = some σ := by cases n <;> exact (Option.some.inj hn).symm
    subst this
    exact sx_retOwnD (ds := Sub.d σ) rfl rfl
  | cons p st =>
    refine ⟨true, et_tru (ev_own rfl) (by simp [Sl.tru]), fun _ => ?_, (fun z => nomatch z)⟩
    cases n with
    | zero => cases hn
    | succ n =>
      obtain ⟨a, b⟩ := p
      have hlen := st_len hU
      rw [List.length_cons] at hlen
      have hm := hU.sm _ List.mem_cons_self
      have da : a.depth ≤ 14 := hU.dp a hm.1
      have db : b.depth ≤ 14 := hU.dp b hm.2
      have erev : (List.map prD ((a, b) :: st).reverse) = st.reverse.map prD ++ [prD (a, b)] := by rw [List.reverse_cons, List.map_append]; rfl
      rw [erev]
      refine sx_seq (sx_pop (i := 1) (ds := st.reverse.map prD) (d := prD (a, b)) rfl (tg_tup (ds := [a.d, b.d]) (tg_cons tg_name (tg_cons tg_name tg_nil))) ?_ hsc)
      show Sx K T _ [some (.lst (ps.map prD)), some (.own (st.reverse.map prD)), some (.ownD (Sub.d σ)), some (.sh a.d), some (.sh b.d), o5, none, none] _
      have go : ∀ {n' : Nat} {st' : List (Tm × Tm)} {σ' : Sub} {L' : List Tm} {M' : Nat} (c d : Tm) (o : Option Sl), uni n' st' σ' = some res → UInv L' M' st' σ' → noScr [o, none, none] = true → ∃ st σ L M o3 o4 o5, uni n' st σ = some res ∧ UInv L M st σ ∧ noScr [o3, o4, o5, none, none] = true ∧ noScr [o5, none, none] = true ∧
          [some (.lst (ps.map prD)), some (.own (st'.reverse.map prD)), some (.ownD (Sub.d σ')), some (.sh c.d), some (.sh d.d), o, none, none] = [some (.lst (ps.map prD)), some (.own (st.reverse.map prD)), some (.ownD (Sub.d σ)), o3, o4, o5, none, none] := fun {n' st' σ' L' M'} c d o h1 h2 h3 => ⟨st', σ', L', M', _, _, o, h1, h2, h3, h3, rfl⟩
      refine sx_seq (sx_if (et_test (ev_eqTm (ev_var rfl rfl) (ev_var rfl rfl) (by omega) (by omega))) (fun h => ?_) fun h => sx_next ?_)
      · have h := of_decide_eq_true h
        refine sx_cont ⟨n, Nat.lt_succ_self n, go a b o5 ?_ hU.pop hsc5⟩
        rw [uni, if_pos h] at hn
        exact hn
      · have hne : ¬ a = b := of_decide_eq_false h
        rw [uni, if_neg hne] at hn
        have hsw := uSwap_cases (a, b)
        have main : (∃ x bb, uSwap (a, b) = (.v x, bb) ∧ (((a = .v x ∧ b = bb) ∧ (b.isV && !a.isV) = false) ∨ ((b = .v x ∧ a = bb) ∧ (b.isV && !a.isV) = true))) ∨ ∃ s l s' l', a = .ap s l ∧ b = .ap s' l' ∧ uSwap (a, b) = (a, b) := by
          cases a with
          | v x => exact .inl ⟨x, b, by simp [uSwap, Tm.isV], .inl ⟨⟨rfl, rfl⟩, by simp [Tm.isV]⟩⟩
          | ap s l =>
            cases b with
            | v y => exact .inl ⟨y, .ap s l, by simp [uSwap, Tm.isV], .inr ⟨⟨rfl, rfl⟩, by simp [Tm.isV]⟩⟩
            | ap s' l' => exact .inr ⟨s, l, s', l', rfl, rfl, by simp [uSwap, Tm.isV]⟩
        have test : EvT K T (tAnd (tTru K (tCall (spR K T R_is_variable) [] (fun _ _ _ => False) (tCons (tVar 4) tNil))) (tNot (tTru K (tCall (spR K T R_is_variable) [] (fun _ _ _ => False) (tCons (tVar 3) tNil))))) [some (.lst (ps.map prD)), some (.own (st.reverse.map prD)), some (.ownD (Sub.d σ)), some (.sh a.d), some (.sh b.d), o5, none, none] (b.isV && !a.isV) :=
          et_and (et_tru (ev_call (ea_cons (ev_var rfl rfl) ea_nil) ⟨b, rfl, rfl⟩) rfl) fun _ => et_not (et_tru (ev_call (ea_cons (ev_var rfl rfl) ea_nil) ⟨a, rfl, rfl⟩) rfl)
        rcases main with ⟨x, bb, hsw, hor⟩ | ⟨s, l, s', l', rfl, rfl, hsw⟩
        · have hxL : Tm.v x ∈ L := by rcases hor with ⟨⟨e, _⟩, _⟩ | ⟨⟨e, _⟩, _⟩ <;> rw [← e] <;> first | exact hm.1 | exact hm.2
          have hbL : bb ∈ L := by rcases hor with ⟨⟨_, e⟩, _⟩ | ⟨⟨_, e⟩, _⟩ <;> rw [← e] <;> first | exact hm.1 | exact hm.2
          have hn' : (if occ x bb > 0 then some none else uni n (st.map (put1 x bb)) (bindS σ x bb)) = some res := by
            rw [hsw] at hn; exact hn
          have hdb : bb.depth ≤ 14 := hU.dp bb hbL
          have htb : bb.thin := hU.ar bb hbL
          have hsg : ∀ p ∈ σ, p.2.depth ≤ 14 ∧ p.2.thin := fun p hp => ⟨hU.dp _ (hU.sg p hp), hU.ar _ (hU.sg p hp)⟩
          have hsl : σ.length ≤ 1000 := by
            have := small_len hU.nd fun y hy => by
              obtain ⟨p, hp, rfl⟩ := List.mem_map.mp hy
              exact (hU.kv p hp).1
            simpa using this
          rcases hor with ⟨⟨rfl, rfl⟩, hc⟩ | ⟨⟨rfl, rfl⟩, hc⟩
          · rw [hc] at test
            refine sx_seq (sx_if test (fun h => nomatch h) fun _ => sx_next ?_)
            show Sx K T _ [some (.lst (ps.map prD)), some (.own (st.reverse.map prD)), some (.ownD (Sub.d σ)), some (.sh (.int x)), some (.sh b.d), o5, none, none] _
            refine sx_if (b := true) (et_tru (ev_call (ea_cons (ev_var rfl rfl) ea_nil) ⟨.v x, rfl, rfl⟩) rfl) (fun _ => ?_) (fun h => nomatch h)
            have hcast : decide ((0 : Int) < ((occ x b : Nat) : Int)) = decide (occ x b > 0) := decide_eq_decide.mpr ⟨fun h => by omega, fun h => by omega⟩
            refine sx_seq (sx_if (et_test ((ev_gt (ev_call (ea_cons (ev_var rfl rfl) (ea_cons (ev_var rfl rfl) ea_nil)) ⟨b, x, hdb, rfl, rfl⟩) ev_int).of_eq (s' := .sh (.bl (decide (occ x b > 0)))) (by rw [hcast]))) (fun h => ?_) fun h => sx_next ?_)
            · rw [if_pos (of_decide_eq_true h)] at hn'
              refine sx_ret ev_non ?_
              rw [← Option.some.inj hn']
              rfl
            · have ho : occ x b = 0 := by have := of_decide_eq_false h; omega
              rw [if_neg (of_decide_eq_false h)] at hn'
              refine sx_seq (sx_set (ev_disp1 (ev_var rfl rfl) (ev_var rfl rfl)) ?_)
              show Sx K T _ [some (.lst (ps.map prD)), some (.own (st.reverse.map prD)), some (.ownD (Sub.d σ)), some (.sh (.int x)), some (.sh (b).d), some (.ownD (Sub.d [(x, b)])), none, none] _
              refine sx_freeze (i := 1) (ds := st.reverse.map prD) rfl ?_
              refine sx_seq (sx_set (ev_lcM (st.reverse) prD (fun q => prD (put1 x b q)) (ei_var rfl) (by rw [List.length_reverse]; omega) fun q hq => ?_) ?_)
              · have hq' := hU.sm q (List.mem_cons_of_mem _ (List.mem_reverse.mp hq))
                refine ⟨_, _, tg_tup (ds := [q.1.d, q.2.d]) (tg_cons tg_name (tg_cons tg_name tg_nil)), by simp, ?_⟩
                show Ev K T _ [some (.lst (ps.map prD)), some (.lst (st.reverse.map prD)), some (.ownD (Sub.d σ)), some (.sh (.int x)), some (.sh (b).d), some (.ownD (Sub.d [(x, b)])), some (.sh q.1.d), some (.sh q.2.d)] _
                exact ev_tup (ds := [(put [(x, b)] q.1).d, (put [(x, b)] q.2).d]) (ea_cons (ev_call (ea_cons (ev_var rfl rfl) (ea_cons (ev_ownD rfl) ea_nil)) ⟨q.1, [(x, b)], hU.dp _ hq'.1, hU.ar _ hq'.1, rfl, rfl⟩) (ea_cons (ev_call (ea_cons (ev_var rfl rfl) (ea_cons (ev_ownD rfl) ea_nil)) ⟨q.2, [(x, b)], hU.dp _ hq'.2, hU.ar _ hq'.2, rfl, rfl⟩) ea_nil))
              · refine sx_set (ev_call (ea_cons (ev_ownX rfl) (ea_cons (ev_var rfl rfl) (ea_cons (ev_var rfl rfl) ea_nil))) ⟨σ, x, b, hU.nd, hsl, hsg, rfl, rfl⟩) ?_
                have er : (st.map (put1 x b)).reverse.map prD = st.reverse.map fun q => prD (put1 x b q) := by rw [← List.map_reverse, List.map_map]; rfl
                have gg := go (.v x) b (some (.ownD (Sub.d [(x, b)]))) hn' (hU.bind hxL hbL ho) rfl
                rw [er] at gg
                exact ⟨n, Nat.lt_succ_self n, gg⟩
          · rw [hc] at test
            refine sx_seq (sx_if test (fun _ => sx_par (ea_cons (ev_var rfl rfl) (ea_cons (ev_var rfl rfl) ea_nil)) ?_) fun h => nomatch h)
            show Sx K T _ [some (.lst (ps.map prD)), some (.own (st.reverse.map prD)), some (.ownD (Sub.d σ)), some (.sh (.int x)), some (.sh a.d), o5, none, none] _
            refine sx_if (b := true) (et_tru (ev_call (ea_cons (ev_var rfl rfl) ea_nil) ⟨.v x, rfl, rfl⟩) rfl) (fun _ => ?_) (fun h => nomatch h)
            have hcast : decide ((0 : Int) < ((occ x a : Nat) : Int)) = decide (occ x a > 0) := decide_eq_decide.mpr ⟨fun h => by omega, fun h => by omega⟩
            refine sx_seq (sx_if (et_test ((ev_gt (ev_call (ea_cons (ev_var rfl rfl) (ea_cons (ev_var rfl rfl) ea_nil)) ⟨a, x, hdb, rfl, rfl⟩) ev_int).of_eq (s' := .sh (.bl (decide (occ x a > 0)))) (by rw [hcast]))) (fun h => ?_) fun h => sx_next ?_)
            · rw [if_pos (of_decide_eq_true h)] at hn'
              refine sx_ret ev_non ?_
              rw [← Option.some.inj hn']
              rfl
            · have ho : occ x a = 0 := by have := of_decide_eq_false h; omega
              rw [if_neg (of_decide_eq_false h)] at hn'
              refine sx_seq (sx_set (ev_disp1 (ev_var rfl rfl) (ev_var rfl rfl)) ?_)
              show Sx K T _ [some (.lst (ps.map prD)), some (.own (st.reverse.map prD)), some (.ownD (Sub.d σ)), some (.sh (.int x)), some (.sh (a).d), some (.ownD (Sub.d [(x, a)])), none, none] _
              refine sx_freeze (i := 1) (ds := st.reverse.map prD) rfl ?_
              refine sx_seq (sx_set (ev_lcM (st.reverse) prD (fun q => prD (put1 x a q)) (ei_var rfl) (by rw [List.length_reverse]; omega) fun q hq => ?_) ?_)
              · have hq' := hU.sm q (List.mem_cons_of_mem _ (List.mem_reverse.mp hq))
                refine ⟨_, _, tg_tup (ds := [q.1.d, q.2.d]) (tg_cons tg_name (tg_cons tg_name tg_nil)), by simp, ?_⟩
                show Ev K T _ [some (.lst (ps.map prD)), some (.lst (st.reverse.map prD)), some (.ownD (Sub.d σ)), some (.sh (.int x)), some (.sh (a).d), some (.ownD (Sub.d [(x, a)])), some (.sh q.1.d), some (.sh q.2.d)] _
                exact ev_tup (ds := [(put [(x, a)] q.1).d, (put [(x, a)] q.2).d]) (ea_cons (ev_call (ea_cons (ev_var rfl rfl) (ea_cons (ev_ownD rfl) ea_nil)) ⟨q.1, [(x, a)], hU.dp _ hq'.1, hU.ar _ hq'.1, rfl, rfl⟩) (ea_cons (ev_call (ea_cons (ev_var rfl rfl) (ea_cons (ev_ownD rfl) ea_nil)) ⟨q.2, [(x, a)], hU.dp _ hq'.2, hU.ar _ hq'.2, rfl, rfl⟩) ea_nil))
              · refine sx_set (ev_call (ea_cons (ev_ownX rfl) (ea_cons (ev_var rfl rfl) (ea_cons (ev_var rfl rfl) ea_nil))) ⟨σ, x, a, hU.nd, hsl, hsg, rfl, rfl⟩) ?_
                have er : (st.map (put1 x a)).reverse.map prD = st.reverse.map fun q => prD (put1 x a q) := by rw [← List.map_reverse, List.map_map]; rfl
                have gg := go (.v x) a (some (.ownD (Sub.d [(x, a)]))) hn' (hU.bind hxL hbL ho) rfl
                rw [er] at gg
                exact ⟨n, Nat.lt_succ_self n, gg⟩
        · rw [hsw] at hn
          have hn' : (if s ≠ s' ∨ l.length ≠ l'.length then some none else uni n ((l.zip l').reverse ++ st) σ) = some res := hn
          have hc : ((Tm.ap s' l').isV && !(Tm.ap s l).isV) = false := rfl
          rw [hc] at test
          refine sx_seq (sx_if test (fun h => nomatch h) fun _ => sx_next ?_)
          show Sx K T _ [some (.lst (ps.map prD)), some (.own (st.reverse.map prD)), some (.ownD (Sub.d σ)), some (.sh (Tm.ap s l).d), some (.sh (Tm.ap s' l').d), o5, none, none] _
          refine sx_if (b := false) (et_tru (ev_call (ea_cons (ev_var rfl rfl) ea_nil) ⟨.ap s l, rfl, rfl⟩) rfl) (fun h => nomatch h) fun _ => ?_
          rw [d_ap, d_ap]
          have hl2 : l.length ≤ 2 ∧ l'.length ≤ 2 := ⟨(thin_ap.mp (hU.ar _ hm.1)).1, (thin_ap.mp (hU.ar _ hm.2)).1⟩
          have hsy : ∀ u : Sy, u.d.dep ≤ 60 := fun u => by simp [Sy.d, Dat.dep, depAll]
          refine sx_if (et_or (b := !decide (s = s')) (c := !decide (l.length = l'.length)) (et_test (ev_neD (b := decide (s = s')) (ev_ixT (ev_var rfl rfl) ev_int rfl) (ev_ixT (ev_var rfl rfl) ev_int rfl) (sy_plain s) (sy_plain s') (hsy s) (hsy s') (by rw [decide_eq_true_iff]; exact ⟨fun e => by rw [e], sy_inj⟩)))
            fun _ => et_test ((ev_neI (ev_CB (ea_cons (ev_ixT (ev_var rfl rfl) ev_int rfl) ea_nil) (cb_lenT (ds := l.map Tm.d))) (ev_CB (ea_cons (ev_ixT (ev_var rfl rfl) ev_int rfl) ea_nil) (cb_lenT (ds := l'.map Tm.d)))).of_eq (by
              rw [List.length_map, List.length_map]
              congr 3
              exact decide_eq_decide.mpr ⟨fun h => by omega, fun h => by omega⟩))) (fun h => ?_) fun h => ?_
          · have hc : s ≠ s' ∨ l.length ≠ l'.length := by
              simp only [Bool.or_eq_true] at h
              rcases h with h | h
              · exact .inl (not_dec_t h)
              · exact .inr (not_dec_t h)
            rw [if_pos hc] at hn'
            refine sx_ret ev_non ?_
            rw [← Option.some.inj hn']
            rfl
          · simp only [Bool.or_eq_false_iff] at h
            have e1 : s = s' := not_dec_f h.1
            have e2 : l.length = l'.length := not_dec_f h.2
            rw [if_neg (by rintro (z | z); exact z e1; exact z e2)] at hn'
            refine sx_set (ev_catL (ev_own rfl) ((ev_listZip (ea_cons (ev_ixT (ev_var rfl rfl) ev_int rfl) (ea_cons (ev_ixT (ev_var rfl rfl) ev_int rfl) ea_nil)) (by rw [List.length_map, List.length_map, e2]) (by rw [List.length_map]; omega)).shared) ?_) ?_
            · rw [zipD_len, List.length_map, List.length_map, List.length_map, List.length_reverse]
              omega
            · have gg := go (.ap s l) (.ap s' l') o5 hn' hU.split hsc5
              have er : ((l.zip l').reverse ++ st).reverse.map prD = st.reverse.map prD ++ zipD (l.map Tm.d) (l'.map Tm.d) := by
                rw [List.reverse_append, List.reverse_reverse, List.map_append, zipD_map]
              rw [er, d_ap, d_ap] at gg
              exact ⟨n, Nat.lt_succ_self n, gg⟩
end
end
end G3
end

section
set_option Elab.async false
set_option linter.all false
set_option maxRecDepth 100000
set_option maxHeartbeats 1000000
namespace G3
open PySem PySem.Spec PyProof.Rows L2 LamX NdefX
noncomputable section
open scoped Classical
section
variable {K : PySem.W.Frag} {T : List NTab} {H0 H H' : Hp} {σ : L2.St} {δ : AS} {te tk tv : TE} {d e : Dat} {s : Sl} {k : Kon}
/-- a dict comprehension over a list, the keys apart -/
theorem ev_dcM {α : Type} {wi : TI} {g : TG} {vs : List Nat} (l : List α) (enc : α → Dat) (key : α → Int) (val : α → Dat) (hi : EvI K T wi δ (l.map enc)) (hl : l.length ≤ 100000) (nd : (l.map key).Nodup)
    (hs : ∀ u ∈ l, ∃ δ2 is, Tgt K T g (enc u) (wipeA δ vs) δ2 is ∧ (∀ i ∈ is, i ∈ vs) ∧ Ev K T tk δ2 (.sh (.int (key u))) ∧ Ev K T tv δ2 (.sh (val u))) :
    Ev K T (tDc wi g tYes tk tv vs) δ (.ownD (l.map fun u => (key u, val u))) := by
  have h := ev_dc (K := K) (T := T) (tk := tk) (tv := tv) (vs := vs) (g := g) (fun i => ((l[i]?).map fun u => (key u, val u)).getD (0, .non)) hi (by rw [List.length_map]; exact hl) fun i d e => by
    obtain ⟨u, hu, rfl⟩ := at_map e
    obtain ⟨δ2, is, h1, h2, h3, h4⟩ := hs u (List.mem_of_getElem? hu)
    refine ⟨δ2, is, h1, h2, ?_, ?_⟩
    · rw [hu]; exact h3
    · rw [hu]; exact h4
  have e : (List.range (l.map enc).length).map (fun i => ((l[i]?).map fun u => (key u, val u)).getD (0, Dat.non)) = l.map fun u => (key u, val u) := by
    apply List.ext_getElem?
    intro i
    rw [List.getElem?_map, List.getElem?_map, List.length_map]
    by_cases hi : i < l.length
    · rw [List.getElem?_range hi]; simp [hi]
    · rw [List.getElem?_eq_none (by simp; omega), List.getElem?_eq_none (by omega)]; rfl
  rw [e, putAll_nodup _ (by rw [List.map_map]; exact nd)] at h
  exact h
theorem Rel.setB {m : Nat} {v : V} (r : Rel K T H0 H σ δ) (hv : SlOk K H0 H s v) (hc : s.owned = false) (hb : ∀ a, v = V.ref a → H0 a ≠ none) : Rel K T H0 H (σ.set m (some v)) (δ.set m (some s)) := by
  have own : ∀ {p : Nat} {sp : Sl} {a : Addr}, δ[p]? = some (some sp) → sp.owned = true → σ[p]? = some (some (.ref a)) → v ≠ .ref a := fun {p sp a} e1 e2 e3 z => by
    obtain ⟨u, h1, h2⟩ := r.ok p sp e1
    rw [e3] at h1; cases h1
    exact hb a z (h2.fresh e2)
  refine ⟨r.ext, r.tabs, by simpa using r.len, fun j sj e => ?_, fun j l a sj sl ej oj el cl vj vl => ?_⟩
  · rcases set_at e with ⟨rfl, e2⟩ | ⟨ne, e2⟩
    · cases e2
      have hl : m < δ.length := by
        by_cases hl : m < δ.length
        · exact hl
        · rw [List.getElem?_eq_none (by simpa using hl)] at e; cases e
      exact ⟨v, by rw [List.getElem?_set_self (by rw [r.len]; exact hl)], hv⟩
    · obtain ⟨w', h1, h2⟩ := r.ok j sj e2
      exact ⟨w', by rw [List.getElem?_set_ne ne]; exact h1, h2⟩
  · rcases set_at ej with ⟨rfl, e2⟩ | ⟨ne, e2⟩
    · cases e2; rw [hc] at oj; cases oj
    · rw [List.getElem?_set_ne ne] at vj
      rcases set_at el with ⟨e3, e4⟩ | ⟨ne3, e3⟩
      · subst e3
        have v1 : v = .ref a := by
          rcases set_at vl with ⟨_, z⟩ | ⟨z, _⟩
          · exact (Option.some.inj z).symm
          · exact absurd rfl z
        exact (own e2 oj vj v1).elim
      · rw [List.getElem?_set_ne ne3] at vl
        exact r.ap j l a sj sl e2 oj e3 cl vj vl
theorem Rel.noOwnT (r : Rel K T H0 H σ δ) {a : Addr} {u : HO} (h : H a = some u) (n1 : ∀ xs, u ≠ .lst xs) (n2 : ∀ xs, u ≠ .dK xs) : ¬ Owned δ σ a := fun ⟨i, s, k1, k2, k3⟩ => by
  obtain ⟨v, k4, k5⟩ := r.ok i s k1
  rw [k3] at k4; cases k4
  cases s with
  | own ds => obtain ⟨b, xs, e, k6, _⟩ := k5; cases e; rw [h] at k6; exact n1 _ (Option.some.inj k6)
  | «at» _ ds => obtain ⟨b, xs, e, k6, _⟩ := k5; cases e; rw [h] at k6; exact n1 _ (Option.some.inj k6)
  | ownD ds => obtain ⟨b, xs, e, k6, _⟩ := k5; cases e; rw [h] at k6; exact n2 _ (Option.some.inj k6)
  | _ => cases k2
/-- for told in (first, second): two dicts -/
theorem sx_forDicts {tb : TS} {A B : List (Int × Dat)} {i j m : Nat} (hi : δ[i]? = some (some (.dcx A))) (hj : δ[j]? = some (some (.dcx B))) (Iv : Nat → AS → Prop) (h0 : Iv 0 ((δ.set i none).set j none))
    (hs : ∀ n δ' kvs, (n = 0 ∧ kvs = A) ∨ (n = 1 ∧ kvs = B) → Iv n δ' → Sx K T tb (δ'.set m (some (.dcx kvs))) { k with nx := Iv (n + 1), ct := Iv (n + 1), bk := k.nx }) (hd : ∀ δ', Iv 2 δ' → k.nx δ') :
    Sx K T (tFor (iTup K (tTup (tCons (tVar i) (tCons (tVar j) tNil)))) (gName m) tb) δ k := fun H0 H σ D r o => by
  obtain ⟨v1, e1, a1, y1, rfl, b1, c1⟩ := r.ok i _ hi
  obtain ⟨v2, e2, a2, y2, rfl, b2, c2⟩ := r.ok j _ hj
  refine ⟨.ref a1, e1, .ref a2, e2, by show 2 ≤ sizeLine; decide, fun p np => ?_⟩
  have gp : Gr H (upd H p (.tup [V.ref a1, V.ref a2])) := .new np
  have tp := TabsN.new (o := .tup [V.ref a1, V.ref a2]) r.tabs np
  have r1 := ((r.grow gp tp).forget (i := i)).forget (i := j)
  obtain ⟨Hb, rb, gb, kb⟩ := r1.rebase
  have ob := o.base gb
  have notO : ∀ {q : Nat} {sq : Sl} {a : Addr}, δ[q]? = some (some sq) → sq.cont = true → sq.owned = false → σ[q]? = some (some (.ref a)) → ¬ Owned ((δ.set i none).set j none) σ a := fun {q sq a} h1 h2 h3 h4 ⟨p, sp, k1, k2, k3⟩ => by
    rcases set_at k1 with ⟨_, z⟩ | ⟨_, z⟩
    · cases z
    · rcases set_at z with ⟨_, z'⟩ | ⟨_, z'⟩
      · cases z'
      · have := r.ap p q a sp sq z' k2 h1 h2 k3 h4
        subst this
        rw [h1] at z'; cases z'
        rw [h3] at k2; cases k2
  have k1 : Hb a1 = some (.dK y1) := kb a1 _ (gp.dk b1) (notO hi rfl rfl e1)
  have k2 : Hb a2 = some (.dK y2) := kb a2 _ (gp.dk b2) (notO hj rfl rfl e2)
  have kp : Hb p = some (.tup [V.ref a1, V.ref a2]) := kb p _ upd_same (r1.noOwnT upd_same (fun _ z => nomatch z) fun _ z => nomatch z)
  have w := walk_tup (K := K) (a := p) (xs := [V.ref a1, V.ref a2])
  refine ⟨p, rfl, ⟨_, SqT.of upd_same⟩, ?_⟩
  refine for_it w (fun n σ' Hx => ∃ δ', Rel K T Hb Hx σ' δ' ∧ Iv n δ') ⟨_, rb, h0⟩ (fun n σ' Hx _ ⟨δ', rx, _⟩ => SqT.of (rx.ext.stab.t _ _ kp)) (fun n x σ' Hx Hx' hlt ⟨δ', rx, iv⟩ y => ?_) fun σ' Hx ⟨δ', rx, iv⟩ => ob.nx Hx σ' δ' rx (hd δ' iv)
  obtain ⟨rfl, ex⟩ := y
  have s1 : Stab H Hb := by
    have no : ∀ b u, H b = some u → (∀ xs, u ≠ .lst xs) → (∀ xs, u ≠ .dK xs) → Hb b = some u := fun b u e n1 n2 => by
      have e' : upd H p (.tup [V.ref a1, V.ref a2]) b = some u := by rw [upd_ne (ne_of_none e np)]; exact e
      exact kb b u e' (r1.noOwnT e' n1 n2)
    exact ⟨fun b xs e => no b _ e (fun _ z => nomatch z) (fun _ z => nomatch z), fun b xs e => no b _ e (fun _ z => nomatch z) (fun _ z => nomatch z), fun b C dx gs e => no b _ e (fun _ z => nomatch z) (fun _ z => nomatch z), fun b ψ e => no b _ e (fun _ z => nomatch z) (fun _ z => nomatch z), fun b o y e => no b _ e (fun _ z => nomatch z) (fun _ z => nomatch z)⟩
  have st : Stab H Hx' := ⟨fun b xs e => rx.ext.stab.t _ _ (s1.t _ _ e), fun b xs e => rx.ext.stab.w _ _ (s1.w _ _ e), fun b C dx gs e => rx.ext.stab.i _ _ _ _ (s1.i _ _ _ _ e), fun b ψ e => rx.ext.stab.x _ _ (s1.x _ _ e), fun b o y e => rx.ext.stab.c _ _ _ (s1.c _ _ _ e)⟩
  have cst : ∀ {a : Addr} {ys : List (Key × V)} {kvs : List (Int × Dat)}, Hb a = some (.dK ys) → Rpk H kvs ys → SlOk K Hb Hx' (.dcx kvs) (.ref a) := fun {a ys kvs} h1 h2 =>
    ⟨a, ys, rfl, rx.ext.dk h1, Rpk.mono st h2⟩
  have run : ∀ (a : Addr) (ys : List (Key × V)) (kvs : List (Int × Dat)), x = .ref a → Hb a = some (.dK ys) → Rpk H kvs ys → (n = 0 ∧ kvs = A) ∨ (n = 1 ∧ kvs = B) → gName m x σ' Hx' fun σ2 H2 => tb { D with nx := fun σ' Hx => ∃ δ', Rel K T Hb Hx σ' δ' ∧ Iv (n + 1) δ', ct := fun σ' Hx => ∃ δ', Rel K T Hb Hx σ' δ' ∧ Iv (n + 1) δ', bk := D.nx } σ2 H2 := fun a ys kvs ex h1 h2 h3 => by
    subst ex
    have r2 : Rel K T Hb Hx' (σ'.set m (some (.ref a))) (δ'.set m (some (.dcx kvs))) := rx.setB (cst h1 h2) rfl fun b e => by
      have : a = b := by injection e
      rw [← this, h1]; simp
    exact hs n δ' kvs h3 iv Hb Hx' _ _ r2 ⟨fun H σ δ r q => ⟨δ, r, q⟩, ob.rt, ob.nx, fun H σ δ r q => ⟨δ, r, q⟩⟩
  match n, ex with
  | 0, ex => exact run a1 y1 A (Option.some.inj ex).symm k1 c1 (.inl ⟨rfl, rfl⟩)
  | 1, ex => exact run a2 y2 B (Option.some.inj ex).symm k2 c2 (.inr ⟨rfl, rfl⟩)
  | n + 2, ex => simp at ex
end
/-! ### became, renamed, numbering -/
def becS (τ : Sub) (a : Int) (c : Cl) : Sub := (clVars c).map fun k => (k, put τ (.v (k + a)))
def renS (ν A : Sub) : Sub := A.map fun p => (p.1, put ν p.2)
def collS (acc : List Int) (A : Sub) : List Int := A.foldl (fun acc p => coll acc p.2) acc
def numO (c : Cl) (A B : Sub) : List Int := collS (collS (clVars c) A) B
def numS (c : Cl) (A B : Sub) : Sub := (numO c A B).mapIdx fun k x => (x, .v (k : Nat))
theorem clVars_nodup (c : Cl) : (clVars c).Nodup := clvs_nodup c [] List.nodup_nil
theorem collS_take : ∀ (A : Sub) (acc : List Int) (i : Nat) (p : Int × Tm), A[i]? = some p → collS acc (A.take (i + 1)) = coll (collS acc (A.take i)) p.2 := by
  intro A acc i p h
  unfold collS
  rw [List.take_succ, h, List.foldl_append]
  rfl
theorem mem_collS {x : Int} : ∀ {A : Sub} {acc : List Int}, x ∈ collS acc A ↔ x ∈ acc ∨ ∃ p ∈ A, occ x p.2 ≠ 0
  | [], acc => by simp [collS]
  | p :: r, acc => by
    have e : collS acc (p :: r) = collS (coll acc p.2) r := rfl
    rw [e, mem_collS (A := r), mem_coll]
    constructor
    · rintro ((h | h) | ⟨u, hu, h⟩)
      · exact .inl h
      · exact .inr ⟨p, List.mem_cons_self, h⟩
      · exact .inr ⟨u, List.mem_cons_of_mem _ hu, h⟩
    · rintro (h | ⟨u, hu, h⟩)
      · exact .inl (.inl h)
      · rcases List.mem_cons.mp hu with e | hu
        · rw [← e]; exact .inl (.inr h)
        · exact .inr ⟨u, hu, h⟩
theorem nodup_collS : ∀ {A : Sub} {acc : List Int}, acc.Nodup → (collS acc A).Nodup
  | [], acc, h => h
  | p :: r, acc, h => nodup_collS (A := r) (nodup_coll p.2 acc h)
theorem getI_at {α : Type} : ∀ {l : List (Int × α)} {i : Nat} {p : Int × α}, (l.map (·.1)).Nodup → l[i]? = some p → getI l p.1 = some p.2
  | [], _, _, _, e => by simp at e
  | q :: l, 0, p, _, e => by
    simp only [List.getElem?_cons_zero, Option.some.injEq] at e
    rw [e, getI_pos rfl]
  | q :: l, i + 1, p, nd, e => by
    rw [List.map_cons, List.nodup_cons] at nd
    have e : l[i]? = some p := by simpa using e
    rw [getI_neg, getI_at nd.2 e]
    intro z
    exact nd.1 (z ▸ List.mem_map.mpr ⟨p, List.mem_of_getElem? e, rfl⟩)
/-- a substitution's terms in bounds, its keys apart -/
structure Sok (n : Nat) (A : Sub) : Prop where
  nd : (A.map (·.1)).Nodup
  tm : ∀ p ∈ A, Tok n p.2
  ln : A.length ≤ 1000
theorem clVars_ok {n : Nat} {c : Cl} (h : Cok n c) : ∀ x ∈ clVars c, 0 ≤ x ∧ x < 1000 := fun z hz => by
  rcases (clvs_mem c [] z).mp hz with h1 | ⟨x, hx, h1⟩
  · cases h1
  · have := h.2 x hx
    rcases h1 with h1 | h1
    · exact this.1.vb z h1
    · exact this.2.vb z h1
theorem collS_ok {n : Nat} {A : Sub} {acc : List Int} (h : ∀ p ∈ A, Tok n p.2) (ha : ∀ x ∈ acc, 0 ≤ x ∧ x < 1000) : ∀ x ∈ collS acc A, 0 ≤ x ∧ x < 1000 := fun x hx => by
  rcases mem_collS.mp hx with h1 | ⟨p, hp, h1⟩
  · exact ha x h1
  · exact (h p hp).vb x h1
theorem Sub.d_at {A : Sub} {i : Nat} {q : Int × Dat} (h : (Sub.d A)[i]? = some q) : ∃ p, A[i]? = some p ∧ q = (p.1, p.2.d) := by
  obtain ⟨p, h1, h2⟩ := at_map h
  exact ⟨p, h1, h2.symm⟩
theorem Sub.d_get {A : Sub} {i : Nat} {p : Int × Tm} (nd : (A.map (·.1)).Nodup) (h : A[i]? = some p) : getI (Sub.d A) p.1 = some p.2.d := by
  have := getI_at (l := Sub.d A) (i := i) (p := (p.1, p.2.d)) (by unfold Sub.d; rw [List.map_map]; exact nd) (by unfold Sub.d; rw [List.getElem?_map, h]; rfl)
  exact this
theorem Sub.d_len (A : Sub) : (Sub.d A).length = A.length := by unfold Sub.d; rw [List.length_map]
section
variable {P : Program} {w : World} {K : PySem.W.Frag} {mg : Str → Option Value} {base : Heap} {T : List NTab} (E : Txt K mg)
def R_became (n : Nat) : List Sl → Sl → Prop := fun ss r => ∃ (c : Cl) (τ : Sub) (a : Int), Cok n c ∧ ss = [.sh c.d, .dct τ.d, .sh (.int a)] ∧ r = .ownD (becS τ a c).d
theorem ok_became (n : Nat) : Ok P w base T (n + 4) E.f_became ["clause", "substitution", "amount"] (R_became n) := by
  have G_clause_variables := ok_clause_variables (P := P) (w := w) (base := base) (T := T) E n
  have G_put := G_pt (P := P) (w := w) (base := base) (T := T) E 0
  refine fn_R E.f_became.F sc_became (fun ss s ⟨_, _, _, _, e, _⟩ => by rw [e]; rfl) fun cdv A outer s H _ hr => ⟨_, (pss_one (ps_ret (pe_dc (own := [("key", 3)]) (by rfl) sc_became.nd (kiList K (pe_call G_clause_variables (hr.mono (by omega)) (by rfl) E.f_clause_variables.g E.f_clause_variables.F.kp (b_clause_variables E) .nil pass0 (pa_cons (pv 0) pa_nil))) (blkOk_by (own := [("key", 3)]) (N := ["clause", "substitution", "amount", "key"]) (sc := (defScope s_became)) (by decide +kernel)) (fun _ _ _ _ _ => (pg_name (i := 3) sc_became.nd rfl (by first | exact Or.inl rfl | exact Or.inr rfl))) (fun _ _ _ _ _ => pts_nil) (fun _ _ _ _ _ => (pv 3)) (fun _ _ _ _ _ => (pe_call G_put (hr.mono (by omega)) (by rfl) E.f_put.g E.f_put.F.kp (b_put E) .nil pass0 (pa_cons (pe_op (kAdd K) (pv 3) (pv 2)) (pa_cons (pv 1) pa_nil))))))), ?_⟩
  rintro ss r ⟨c, τ, a, hc, rfl, rfl⟩
  show Sx K T _ [some (.sh c.d), some (.dct τ.d), some (.sh (.int a)), none] _
  have hl : (clVars c).length ≤ 1000 := small_len (clVars_nodup c) (clVars_ok hc)
  refine sx_ret (ev_dcM (clVars c) Dat.int id (fun k => (put τ (.v (k + a))).d) (ei_new (ev_call (ea_cons (ev_var rfl rfl) ea_nil) ⟨c, hc, rfl, rfl⟩)) (by omega) (by rw [List.map_id]; exact clVars_nodup c) fun k _ => ⟨_, _, tg_name, by simp, ev_var rfl rfl, ?_⟩) ?_
  · show Ev K T _ [some (.sh c.d), some (.dct τ.d), some (.sh (.int a)), some (.sh (.int k))] _
    exact ev_call (ea_cons ((ev_add (ev_var rfl rfl) (ev_var rfl rfl)).of_eq (s' := .sh (Tm.v (k + a)).d) (by rw [d_v])) (ea_cons (ev_var rfl rfl) ea_nil)) ⟨.v (k + a), τ, Nat.le_refl _, True.intro, rfl, rfl⟩
  · show Sl.ownD _ = Sl.ownD (Sub.d ((clVars c).map fun k => (k, put τ (.v (k + a)))))
    unfold Sub.d
    rw [List.map_map]
    rfl
def R_renamed (n : Nat) : List Sl → Sl → Prop := fun ss r => ∃ (A ν : Sub), Sok n A ∧ ss = [.dcx A.d, .dct ν.d] ∧ r = .ownD (renS ν A).d
theorem ok_renamed (n : Nat) : Ok P w base T (n + 3) E.f_renamed ["told", "new"] (R_renamed n) := by
  have G_put := G_pt (P := P) (w := w) (base := base) (T := T) E n
  refine fn_R E.f_renamed.F sc_renamed (fun ss s ⟨_, _, _, e, _⟩ => by rw [e]; rfl) fun cdv A outer s H _ hr => ⟨_, (pss_one (ps_ret (pe_lock (pe_dc (own := [("key", 2)]) (by rfl) sc_renamed.nd (pi_keys (pv 0)) (blkOk_by (own := [("key", 2)]) (N := ["told", "new", "key"]) (sc := (defScope s_renamed)) (by decide +kernel)) (fun _ _ _ _ _ => (pg_name (i := 2) sc_renamed.nd rfl (by first | exact Or.inl rfl | exact Or.inr rfl))) (fun _ _ _ _ _ => pts_nil) (fun _ _ _ _ _ => (pv 2)) (fun _ _ _ _ _ => (pe_call G_put (hr.mono (by omega)) (by rfl) E.f_put.g E.f_put.F.kp (b_put E) .nil pass0 (pa_cons (pe_dget (hu_of hr) (pv 0) (pv 2) (fun _ _ => rfl)) (pa_cons (pv 1) pa_nil)))))))), ?_⟩
  rintro ss r ⟨A, ν, hA, rfl, rfl⟩
  show Sx K T _ [some (.dcx A.d), some (.dct ν.d), none] _
  have e : putAll ((List.range (Sub.d A).length).map fun j => ((A[j]?).map fun p => (p.1, (put ν p.2).d)).getD (0, .non)) = (renS ν A).d := by
    have e1 : (List.range (Sub.d A).length).map (fun j => ((A[j]?).map fun p => (p.1, (put ν p.2).d)).getD (0, Dat.non)) = A.map fun p => (p.1, (put ν p.2).d) := by
      apply List.ext_getElem?
      intro i
      rw [List.getElem?_map, List.getElem?_map, Sub.d_len]
      by_cases hi : i < A.length
      · rw [List.getElem?_range hi]; simp [hi]
      · rw [List.getElem?_eq_none (by simp; omega), List.getElem?_eq_none (by omega)]; rfl
    rw [e1, putAll_nodup _ (by rw [List.map_map]; exact hA.nd)]
    unfold renS Sub.d
    rw [List.map_map]
    rfl
  refine sx_ret (ev_dcKeys (i := 0) (fun j => ((A[j]?).map fun p => (p.1, (put ν p.2).d)).getD (0, .non)) rfl rfl (by rw [Sub.d_len]; have := hA.ln; omega) fun j q hq => ?_) (by rw [e])
  obtain ⟨p, hp, rfl⟩ := Sub.d_at hq
  have hpt := hA.tm p (List.mem_of_getElem? hp)
  refine ⟨_, _, tg_name, by simp, ?_, ?_⟩
  · rw [hp]; exact ev_var rfl rfl
  · rw [hp]
    show Ev K T _ [some (.dct A.d), some (.dct ν.d), some (.sh (.int p.1))] (.sh (put ν p.2).d)
    exact ev_call (ea_cons (ev_dix (ev_var rfl rfl) (ev_var rfl rfl) (Sub.d_get hA.nd hp)) (ea_cons (ev_var rfl rfl) ea_nil)) ⟨p.2, ν, hpt.dep, hpt.ar, rfl, rfl⟩
def R_numbering (n : Nat) : List Sl → Sl → Prop := fun ss r => ∃ (c : Cl) (A B : Sub), Cok n c ∧ Sok n A ∧ Sok n B ∧ ss = [.sh c.d, .dcx A.d, .dcx B.d] ∧ r = .ownD (numS c A B).d
theorem ok_numbering (n : Nat) : Ok P w base T (n + 4) E.f_numbering ["clause", "first", "second"] (R_numbering n) := by
  have G_clause_variables := ok_clause_variables (P := P) (w := w) (base := base) (T := T) E n
  have G_collect := G_col (P := P) (w := w) (base := base) (T := T) E n
  refine fn_R E.f_numbering.F sc_numbering (fun ss s ⟨_, _, _, _, _, _, e, _⟩ => by rw [e]; rfl) fun cdv A outer s H _ hr => ⟨_, (pss_cons (ps_set (i := 3) sc_numbering.nd rfl (by first | exact Or.inl rfl | exact Or.inr rfl) (pe_call G_clause_variables (hr.mono (by omega)) (by rfl) E.f_clause_variables.g E.f_clause_variables.F.kp (b_clause_variables E) .nil pass0 (pa_cons (pv 0) pa_nil)))
    (pss_cons (ps_for PassesOwn.never rfl (kiTup K (pe_tup (pa_cons (pv 1) (pa_cons (pv 2) pa_nil)))) (pg_name (i := 4) sc_numbering.nd rfl (by first | exact Or.inl rfl | exact Or.inr rfl))
      (pss_one (ps_lock (ps_for PassesOwn.never rfl (pi_keys (pv 4)) (pg_name (i := 5) sc_numbering.nd rfl (by first | exact Or.inl rfl | exact Or.inr rfl))
        (pss_one (ps_expr (pe_call G_collect (hr.mono (by omega)) (by rfl) E.f_collect.g E.f_collect.F.kp (b_collect E) .nil pass0 (pa_cons (pe_dget (hu_of hr) (pv 4) (pv 5) (fun _ _ => rfl)) (pa_cons (pv 3) pa_nil)))))))))
    (pss_one (ps_ret (pe_dc (own := [("k", 6), ("variable", 7)]) (by rfl) sc_numbering.nd (kiEnum K (by rfl) E.m_enumerate (pa_cons (pv 3) pa_nil)) (blkOk_by (own := [("k", 6), ("variable", 7)]) (N := ["clause", "first", "second", "order", "told", "key", "k", "variable"]) (sc := (defScope s_numbering)) (by decide +kernel)) (fun _ _ _ _ _ => (kgTup K (n := 2) rfl (pgs_cons (pg_name (i := 6) sc_numbering.nd rfl (by first | exact Or.inl rfl | exact Or.inr rfl)) (pgs_cons (pg_name (i := 7) sc_numbering.nd rfl (by first | exact Or.inl rfl | exact Or.inr rfl)) pgs_nil)))) (fun _ _ _ _ _ => pts_nil) (fun _ _ _ _ _ => (pv 7)) (fun _ _ _ _ _ => (pv 6))))))), ?_⟩
  rintro ss r ⟨c, A, B, hc, hA, hB, rfl, rfl⟩
  show Sx K T _ [some (.sh c.d), some (.dcx A.d), some (.dcx B.d), none, none, none, none, none] _
  refine sx_seq (sx_set (ev_call (ea_cons (ev_var rfl rfl) ea_nil) ⟨c, hc, rfl, rfl⟩) ?_)
  have sub1 : ∀ (Z : Sub) (acc : List Int) (p : Option Sl) (kk : Kon), Sok n Z → acc.Nodup → (∀ x ∈ acc, 0 ≤ x ∧ x < 1000) → noScr [p, none, none] = true → noDcx [p, none, none] = true →
      (∀ p, noScr [p, none, none] = true → noDcx [p, none, none] = true → kk.nx [some (.sh c.d), none, none, some (.own ((collS acc Z).map Dat.int)), some (.dct Z.d), p, none, none]) →
      Sx K T (tLock (tFor (iKeys (tVar 4)) (gName 5) (tDrop (tCall (spCol K T fun t => t.depth ≤ n) [] (fun _ _ _ => False) (tCons (tDGet (tVar 4) (tVar 5)) (tCons (tVar 3) tNil)))))) [some (.sh c.d), none, none, some (.own (acc.map Dat.int)), some (.dcx Z.d), p, none, none] kk := by
    intro Z acc p kk hZ nda hacc hs1 hs2 hk
    refine sx_forKeys (i := 4) rfl hs2 (fun j δ => ∃ p, noScr [p, none, none] = true ∧ noDcx [p, none, none] = true ∧ δ = [some (.sh c.d), none, none, some (.own ((collS acc (Z.take j)).map Dat.int)), some (.dct Z.d), p, none, none]) ⟨p, hs1, hs2, rfl⟩ ?_ ?_
    · rintro j q δ' hq ⟨p, h1, h2, rfl⟩
      obtain ⟨pr, hp, rfl⟩ := Sub.d_at hq
      have hpt := hZ.tm pr (List.mem_of_getElem? hp)
      refine ⟨_, _, tg_name, ?_⟩
      show Sx K T _ [some (.sh c.d), none, none, some (.own ((collS acc (Z.take j)).map Dat.int)), some (.dct Z.d), some (.sh (.int pr.1)), none, none] _
      have hlen : (coll (collS acc (Z.take j)) pr.2).length ≤ 1000 := small_len (nodup_coll _ _ (nodup_collS nda)) fun x hx => by
        rcases (mem_coll _ _ _).mp hx with h | h
        · exact collS_ok (fun q hq => hZ.tm q (List.mem_of_mem_take hq)) hacc x h
        · exact hpt.vb x h
      refine sx_collect (i := 3) (t := pr.2) rfl (ev_dix (ev_var rfl rfl) (ev_var rfl rfl) (Sub.d_get hZ.nd hp)) hpt.dep (by omega) ?_
      exact ⟨some (.sh (.int pr.1)), rfl, rfl, by rw [collS_take Z acc j pr hp]; rfl⟩
    · rintro δ' ⟨p, h1, h2, rfl⟩
      rw [Sub.d_len, List.take_length]
      exact hk p h1 h2
  have hc1 := clVars_ok hc
  have n1 := clVars_nodup c
  have hc2 := collS_ok hA.tm hc1
  have n2 : (collS (clVars c) A).Nodup := nodup_collS n1
  have hc3 : ∀ x ∈ numO c A B, 0 ≤ x ∧ x < 1000 := collS_ok hB.tm hc2
  have n3 : (numO c A B).Nodup := nodup_collS n2
  refine sx_seq (sx_forDicts (i := 1) (j := 2) rfl rfl (fun n δ => ∃ o p, noScr [p, none, none] = true ∧ noDcx [p, none, none] = true ∧ δ = [some (.sh c.d), none, none, some (.own ((match n with | 0 => clVars c | 1 => collS (clVars c) A | _ => numO c A B).map Dat.int)), o, p, none, none]) ⟨none, none, rfl, rfl, rfl⟩ ?_ ?_)
  · rintro m δ' kvs h ⟨o, p, h1, h2, rfl⟩
    rcases h with ⟨rfl, rfl⟩ | ⟨rfl, rfl⟩
    · exact sub1 A (clVars c) p _ hA n1 hc1 h1 h2 fun p q1 q2 => ⟨_, p, q1, q2, rfl⟩
    · exact sub1 B (collS (clVars c) A) p _ hB n2 hc2 h1 h2 fun p q1 q2 => ⟨_, p, q1, q2, rfl⟩
  · rintro δ' ⟨o, p, h1, h2, rfl⟩
    refine sx_freeze (i := 3) (ds := (numO c A B).map Dat.int) rfl ?_
    have hl : (numO c A B).length ≤ 1000 := small_len n3 hc3
    have he : enu ((numO c A B).map Dat.int) = ((numO c A B).mapIdx fun k x => ((k : Nat), x)).map fun q => Dat.tup [.int (q.1 : Nat), .int q.2] := by
      unfold enu
      apply List.ext_getElem?
      intro i
      simp only [List.getElem?_mapIdx, List.getElem?_map]
      cases (numO c A B)[i]? <;> rfl
    refine sx_ret (ev_dcM ((numO c A B).mapIdx fun k x => ((k : Nat), x)) (fun q => Dat.tup [.int (q.1 : Nat), .int q.2]) (fun q => q.2) (fun q => Dat.int (q.1 : Nat)) (he ▸ ei_enumVar (i := 3) rfl) (by rw [List.length_mapIdx]; omega) ?_ fun q _ => ⟨_, _, tg_tup (ds := [.int (q.1 : Nat), .int q.2]) (tg_cons tg_name (tg_cons tg_name tg_nil)), by simp, ev_var rfl rfl, ev_var rfl rfl⟩) ?_
    · have : ((numO c A B).mapIdx fun k x => ((k : Nat), x)).map (fun q => q.2) = numO c A B := by
        apply List.ext_getElem?
        intro i
        simp only [List.getElem?_mapIdx, List.getElem?_map]
        cases (numO c A B)[i]? <;> rfl
      rw [this]
      exact n3
    · show Sl.ownD _ = Sl.ownD (Sub.d (numS c A B))
      congr 1
      unfold numS Sub.d
      apply List.ext_getElem?
      intro i
      simp only [List.getElem?_mapIdx, List.getElem?_map]
      cases (numO c A B)[i]? with
      | none => rfl
      | some x => simp [d_v]
end
end
end G3
end

section
set_option Elab.async false
set_option linter.all false
set_option maxRecDepth 100000
set_option maxHeartbeats 1000000
namespace G3
open PySem PySem.Spec PyProof.Rows L2 LamX NdefX
noncomputable section
open scoped Classical
theorem putF_new {f : Str} {v : V} : ∀ {fs : List (Str × V)}, f ∉ fs.map (·.1) → putF f v fs = fs ++ [(f, v)]
  | [], _ => rfl
  | (g, x) :: r, h => by
    rw [List.map_cons, List.mem_cons, not_or] at h
    have h1 : ¬ g = f := fun e => h.1 e.symm
    show (if g = f then _ else (g, x) :: putF f v r) = _
    rw [if_neg h1, putF_new h.2]
    rfl
theorem plen {f : Str} {v : V} {n : Nat} : ∀ {fs : List (Str × V)}, fs.length < n → (putF f v fs).length < n + 1
  | [], h => by show 1 < n + 1; exact Nat.succ_lt_succ (Nat.lt_of_le_of_lt (Nat.zero_le _) h)
  | (g, x) :: r, h => by
    show (if g = f then (g, v) :: r else (g, x) :: putF f v r).length < n + 1
    cases n with
    | zero => cases h
    | succ n =>
      have h' : r.length < n := Nat.lt_of_succ_lt_succ h
      split
      · exact Nat.succ_lt_succ (Nat.lt_succ_of_lt h')
      · exact Nat.succ_lt_succ (plen (fs := r) h')
def setAll (gs : List (Str × V)) (l : List (Str × V)) : List (Str × V) := l.foldl (fun acc p => putF p.1 p.2 acc) gs
theorem setAll_new : ∀ (l gs : List (Str × V)), ((gs ++ l).map (·.1)).Nodup → setAll gs l = gs ++ l
  | [], gs, _ => by simp [setAll]
  | p :: l, gs, h => by
    have e : setAll gs (p :: l) = setAll (putF p.1 p.2 gs) l := rfl
    have hp : p.1 ∉ gs.map (·.1) := fun z => by
      rw [List.map_append, List.nodup_append] at h
      exact h.2.2 _ z p.1 (by simp) rfl
    rw [e, putF_new hp, setAll_new l _ (by rw [List.append_assoc]; exact h), List.append_assoc]
    rfl
section
variable {K : PySem.W.Frag} {mg : Str → Option Value}
def concN : List Str := ["kind", "clause", "literal", "side", "place", "other_literal", "other_side", "first", "second"]
structure ClC (K : PySem.W.Frag) (mg : Str → Option Value) where
  C : Addr
  f : Addr
  fd : FuncData
  g : mg "Conclusion" = some (.ref C)
  cl : Cls K C
  na : ∀ x ∈ concN, NoAttr K C x
  F : Fun K "__init__" "Conclusion.__init__" s_Conclusion___init__ f fd
  m : Mk K C f
theorem ClC.b (c : ClC K mg) : Binds K c.fd ["self", "kind", "clause", "literal", "side", "place", "other_literal", "other_side", "first", "second"] [] := c.F.binds (ps := ["self", "kind", "clause", "literal", "side", "place", "other_literal", "other_side", "first", "second"]) fun _ _ _ _ _ _ us hl => match us, hl with | [_, _, _, _, _, _, _, _, _, _], _ => rfl
/-- what __init__ promises -/
def spConc (C : Addr) : Sp := fun vs H Q _ => ∃ (x dx : Addr) (v1 v2 v3 v4 v5 v6 v7 v8 v9 : V), vs = [V.ref x, v1, v2, v3, v4, v5, v6, v7, v8, v9] ∧ H x = some (.ins C dx []) ∧ Q .non (upd H x (.ins C dx (concN.zip [v1, v2, v3, v4, v5, v6, v7, v8, v9])))
theorem concN_nd : concN.Nodup := by decide +kernel
variable {P : Program} {w : World} {base : Heap} {T : List NTab}
theorem ok_conc (CConclusion : ClC K mg) : FnOk P w K mg base CX0 1 CConclusion.f CConclusion.fd ["self", "kind", "clause", "literal", "side", "place", "other_literal", "other_side", "first", "second"] (spConc CConclusion.C) := by
  refine CConclusion.F.ok sc_Conclusion___init__ (fun vs H Q E ⟨_, _, _, _, _, _, _, _, _, _, _, e, _⟩ => by rw [e]; rfl) fun cdv A outer s H vs Q E hr ⟨x, dx, v1, v2, v3, v4, v5, v6, v7, v8, v9, e, hx, q⟩ => ⟨_, (pss_cons (ps_fld (pv 0) (pv 1) rfl)
    (pss_cons (ps_fld (pv 0) (pv 2) rfl)
    (pss_cons (ps_fld (pv 0) (pv 3) rfl)
    (pss_cons (ps_fld (pv 0) (pv 4) rfl)
    (pss_cons (ps_fld (pv 0) (pv 5) rfl)
    (pss_cons (ps_fld (pv 0) (pv 6) rfl)
    (pss_cons (ps_fld (pv 0) (pv 7) rfl)
    (pss_cons (ps_fld (pv 0) (pv 8) rfl)
    (pss_one (ps_fld (pv 0) (pv 9) rfl)))))))))), ?_⟩
  subst e
  have na : ∀ i (h : i < concN.length), NoAttr K CConclusion.C concN[i] := fun i h => CConclusion.na _ (List.getElem_mem h)
  have fin : ∀ vs : List V, vs.length = 9 → setAll [] (concN.zip vs) = concN.zip vs := fun vs hl => by
    have := setAll_new (concN.zip vs) [] (by
      rw [List.nil_append, List.map_fst_zip]
      · exact concN_nd
      · rw [hl]; decide)
    simpa using this
  have st : ∀ {i : Nat} {n : Str} {v : V} {gs : List (Str × V)} {Hx : Hp} {D : Ends}, NoAttr K CConclusion.C n → gs.length < 1000 → (L2.start ["self", "kind", "clause", "literal", "side", "place", "other_literal", "other_side", "first", "second"] [V.ref x, v1, v2, v3, v4, v5, v6, v7, v8, v9])[i]? = some (some v) → Hx x = some (.ins CConclusion.C dx gs) → D.nx (L2.start ["self", "kind", "clause", "literal", "side", "place", "other_literal", "other_side", "first", "second"] [V.ref x, v1, v2, v3, v4, v5, v6, v7, v8, v9]) (upd Hx x (.ins CConclusion.C dx (putF n v gs))) →
      sFld K (tVar 0) (tVar i) n D (L2.start ["self", "kind", "clause", "literal", "side", "place", "other_literal", "other_side", "first", "second"] [V.ref x, v1, v2, v3, v4, v5, v6, v7, v8, v9]) Hx := fun {i n v gs Hx D} h1 h2 h3 h4 h5 =>
    ⟨v, h3, .ref x, rfl, x, CConclusion.C, dx, gs, rfl, h4, CConclusion.cl, h1, h2, h5⟩
  refine st (i := 1) (na 0 (by decide)) (show ([] : List (Str × V)).length < 1000 from Nat.zero_lt_succ _) rfl hx ?_
  refine st (i := 2) (na 1 (by decide)) (plen (show ([] : List (Str × V)).length < 999 from Nat.zero_lt_succ _)) rfl upd_same ?_
  refine st (i := 3) (na 2 (by decide)) (plen (plen (show ([] : List (Str × V)).length < 998 from Nat.zero_lt_succ _))) rfl upd_same ?_
  refine st (i := 4) (na 3 (by decide)) (plen (plen (plen (show ([] : List (Str × V)).length < 997 from Nat.zero_lt_succ _)))) rfl upd_same ?_
  refine st (i := 5) (na 4 (by decide)) (plen (plen (plen (plen (show ([] : List (Str × V)).length < 996 from Nat.zero_lt_succ _))))) rfl upd_same ?_
  refine st (i := 6) (na 5 (by decide)) (plen (plen (plen (plen (plen (show ([] : List (Str × V)).length < 995 from Nat.zero_lt_succ _)))))) rfl upd_same ?_
  refine st (i := 7) (na 6 (by decide)) (plen (plen (plen (plen (plen (plen (show ([] : List (Str × V)).length < 994 from Nat.zero_lt_succ _))))))) rfl upd_same ?_
  refine st (i := 8) (na 7 (by decide)) (plen (plen (plen (plen (plen (plen (plen (show ([] : List (Str × V)).length < 993 from Nat.zero_lt_succ _)))))))) rfl upd_same ?_
  refine st (i := 9) (na 8 (by decide)) (plen (plen (plen (plen (plen (plen (plen (plen (show ([] : List (Str × V)).length < 992 from Nat.zero_lt_succ _))))))))) rfl upd_same ?_
  have e := fin [v1, v2, v3, v4, v5, v6, v7, v8, v9] rfl
  show Q .non _
  rw [upd_upd, upd_upd, upd_upd, upd_upd, upd_upd, upd_upd, upd_upd, upd_upd]
  have e' : (putF concN[8] v9 (putF concN[7] v8 (putF concN[6] v7 (putF concN[5] v6 (putF concN[4] v5 (putF concN[3] v4 (putF concN[2] v3 (putF concN[1] v2 (putF concN[0] v1 []))))))))) = concN.zip [v1, v2, v3, v4, v5, v6, v7, v8, v9] := e
  rw [← e'] at q
  exact q
/-- Conclusion(..): the object, by its fields that are data -/
def concD (C : Addr) (ds : List Dat) : Dat := .obj C ((concN.take 7).zip ds)
theorem zip_look {ns : List Str} {vs : List V} {i : Nat} {n : Str} {v : V} (nd : ns.Nodup) (h1 : ns[i]? = some n) (h2 : vs[i]? = some v) : (ns.zip vs).lookup n = some v := by
  induction ns generalizing vs i with
  | nil => simp at h1
  | cons m ns ih =>
    cases vs with
    | nil => simp at h2
    | cons u vs =>
      rw [List.zip_cons_cons, List.lookup_cons]
      rw [List.nodup_cons] at nd
      cases i with
      | zero =>
        simp only [List.getElem?_cons_zero, Option.some.injEq] at h1 h2
        subst h1 h2
        simp
      | succ i =>
        have h1 : ns[i]? = some n := by simpa using h1
        have hne : ¬ n = m := fun e => nd.1 (e ▸ List.mem_of_getElem? h1)
        rw [show (n == m) = false from beq_eq_false_iff_ne.mpr hne]
        exact ih nd.2 h1 (by simpa using h2)
theorem rpf_zip {H : Hp} {gs : List (Str × V)} (hm : ∀ p ∈ gs, p.1 ≠ (Str.ofString "conclusion") ∧ p.1 ≠ (Str.ofString "allowed")) : ∀ {ns : List Str} {ds : List Dat}, (∀ (i : Nat) (n : Str) (d : Dat), ns[i]? = some n → ds[i]? = some d → ∃ x, gs.lookup n = some x ∧ Rp H d x) → Rpf H (ns.zip ds) gs
  | [], _, _ => hm
  | n :: ns, [], _ => hm
  | n :: ns, d :: ds, h => ⟨h 0 n d rfl rfl, rpf_zip hm fun i m e h1 h2 => h (i + 1) m e (by simpa using h1) (by simpa using h2)⟩
theorem concN_meth : ∀ n ∈ concN, n ≠ (Str.ofString "conclusion") ∧ n ≠ (Str.ofString "allowed") := by decide +kernel
variable {δ : AS} {H : Hp}
theorem Paired.rps {F : Sl → V → Prop} {ss : List Sl} {vs : List V} (h : Paired F ss vs) : vs.length = ss.length := Paired.len h
theorem ev_conc {C : Addr} {E : XK} {ta : TA} {ds : List Dat} {s8 s9 : Sl} (hl : ds.length = 7) (h : EvA K T ta δ (ds.map Sl.sh ++ [s8, s9])) : Ev K T (tMake C (spConc C) [] E ta) δ (.sh (concD C ds)) := fun H0 H σ r Q q =>
  h H0 H σ r _ fun vs H1 g1 t1 o1 x dx nx ndx hne => by
    have hlen := Paired.len o1
    rw [List.length_append, List.length_map, hl] at hlen
    match vs, hlen with
    | [v1, v2, v3, v4, v5, v6, v7, v8, v9], _ =>
      have g2 : Gr H1 (upd H1 dx (.own x)) := .new ndx
      have t2 := TabsN.new (o := .own x) t1 ndx
      have nx2 : upd H1 dx (.own x) x = none := by rw [upd_ne hne.symm]; exact nx
      refine ⟨x, dx, v1, v2, v3, v4, v5, v6, v7, v8, v9, rfl, upd_same, rfl, ?_⟩
      rw [upd_upd]
      have g3 : Gr (upd H1 dx (.own x)) (upd (upd H1 dx (.own x)) x (.ins C dx (concN.zip [v1, v2, v3, v4, v5, v6, v7, v8, v9]))) := .new nx2
      refine q _ _ ((g1.trans g2).trans g3) (TabsN.new t2 nx2) ⟨x, dx, _, rfl, upd_same, rpf_zip (fun p hp => ?_) fun i n d h1 h2 => ?_⟩
      · exact concN_meth _ (List.of_mem_zip hp).1
      · have hi : i < 7 := by
          have := (List.getElem?_eq_some_iff.mp h2).1
          omega
        have h1' : concN[i]? = some n := by rw [List.getElem?_take_of_lt hi] at h1; exact h1
        obtain ⟨v, k1, k2⟩ := Paired.nth o1 (i := i) (s := .sh d) (by rw [List.getElem?_append_left (by rw [List.length_map]; omega), List.getElem?_map, h2]; rfl)
        exact ⟨v, zip_look concN_nd h1' k1, Rp.mono (g2.trans g3).stab _ k2⟩
end
end
end G3
end

section
set_option Elab.async false
set_option linter.all false
set_option maxRecDepth 100000
set_option maxHeartbeats 1000000
namespace G3
open PySem PySem.Spec PyProof.Rows L2 LamX NdefX
noncomputable section
open scoped Classical
/-! ### spots and leads -/
abbrev Spot := Nat × Nat × List Nat × Tm
abbrev Lead := Nat × Nat × Tm
def spD (p : Spot) : Dat := .tup [.int p.1, .int p.2.1, pcD p.2.2.1, p.2.2.2.d]
def ldD (p : Lead) : Dat := .tup [.int p.1, .int p.2.1, p.2.2.d]
def spotsS (k : Nat) (x : Lit) (s : Nat) : List Spot := ((plc (x.side s)).filter fun p => !p.2.isV).map fun p => (k, s, p.1, p.2)
def spotsK (k : Nat) (x : Lit) : List Spot := spotsS k x 0 ++ spotsS k x 1
def up2 {α : Type} : Nat → List α → List α → List α
  | 0, _, _ => []
  | 1, a, _ => a
  | _, _, b => b
def spotsL (c : Cl) : List Spot := (c.mapIdx spotsK).flatten
def leadsK (k : Nat) (x : Lit) : List Lead := if x.p then [(k, 0, x.l), (k, 1, x.r)] else []
def leadsL (c : Cl) : List Lead := (c.mapIdx leadsK).flatten
/-- sides of a clause are small -/
def Csz (c : Cl) : Prop := c.length ≤ 20 ∧ ∀ x ∈ c, (x.l.depth ≤ 29 ∧ x.l.size ≤ 200) ∧ x.r.depth ≤ 29 ∧ x.r.size ≤ 200
theorem Csz.side {c : Cl} (h : Csz c) {x : Lit} (hx : x ∈ c) {s : Nat} (hs : s ≤ 1) : (x.side s).depth ≤ 29 ∧ (x.side s).size ≤ 200 := by
  rcases (show s = 0 ∨ s = 1 by omega) with rfl | rfl
  · exact (h.2 x hx).1
  · exact (h.2 x hx).2
theorem spotsS_len (k : Nat) (x : Lit) (s : Nat) : (spotsS k x s).length ≤ (x.side s).size := by
  unfold spotsS
  rw [List.length_map]
  exact Nat.le_trans (List.length_filter_le _ _) (plc_len _)
theorem flat_len {α β : Type} (f : Nat → α → List β) (B : Nat) : ∀ (l : List α), (∀ i x, x ∈ l → (f i x).length ≤ B) → ((l.mapIdx f).flatten).length ≤ B * l.length
  | [], _ => by simp
  | x :: l, h => by
    have ih := flat_len (fun i => f (i + 1)) B l fun i y hy => h (i + 1) y (List.mem_cons_of_mem _ hy)
    have h0 := h 0 x List.mem_cons_self
    rw [List.mapIdx_cons, List.flatten_cons, List.length_append, List.length_cons, Nat.mul_succ]
    omega
section
variable {P : Program} {w : World} {K : PySem.W.Frag} {mg : Str → Option Value} {base : Heap} {T : List NTab} (E : Txt K mg)
def R_spots : List Sl → Sl → Prop := fun ss r => ∃ c : Cl, Csz c ∧ ss = [.sh c.d] ∧ r = .own ((spotsL c).map spD)
theorem G_plc : Ok P w base T 32 E.f_places ["term"] (fun ss r => ∃ (t : Tm), t.depth ≤ 29 ∧ t.size ≤ 1000 ∧ ss = [.sh t.d] ∧ r = .own ((plc t).map plD)) :=
  FnOk.toR (below_R (n := 30) (R := R_places) (fun n ss s ⟨t, _, _, e, _⟩ => by rw [e]; rfl) fun j hj => (ok_places (P := P) (w := w) (base := base) (T := T) E j).mono (show j + 1 + 1 ≤ 32 by omega)) fun ss r ⟨t, h1, h2, h3⟩ => ⟨t.depth, by omega, t, rfl, h2, h3⟩
theorem filter_take {α : Type} (p : α → Bool) (l : List α) (i : Nat) (x : α) (h : l[i]? = some x) : (l.take (i + 1)).filter p = (l.take i).filter p ++ if p x then [x] else [] := by
  rw [List.take_succ, h, List.filter_append]
  congr 1
  simp [List.filter_cons]
theorem ok_spots : Ok P w base T 33 E.f_spots ["c"] R_spots := by
  have G_places := G_plc (P := P) (w := w) (base := base) (T := T) E
  have G_side := ok_side (P := P) (w := w) (base := base) (T := T) E
  have G_is_variable := ok_is_variable (P := P) (w := w) (base := base) (T := T) E
  refine fn_R E.f_spots.F sc_spots (fun ss s ⟨_, _, e, _⟩ => by rw [e]; rfl) fun cdv A outer s H _ hr => ⟨_, (pss_cons (ps_set (i := 1) sc_spots.nd rfl (by first | exact Or.inl rfl | exact Or.inr rfl) (pe_lst pa_nil))
    (pss_cons (ps_for PassesOwn.never rfl (kiEnumT K (by rfl) E.m_enumerate (pa_cons (pv 0) pa_nil)) (kgTup K (n := 2) rfl (pgs_cons (pg_name (i := 2) sc_spots.nd rfl (by first | exact Or.inl rfl | exact Or.inr rfl)) (pgs_cons (pg_name (i := 3) sc_spots.nd rfl (by first | exact Or.inl rfl | exact Or.inr rfl)) pgs_nil)))
      (pss_one (ps_for PassesOwn.never rfl (kiTup K (pe_tup (pa_cons pe_int (pa_cons pe_int pa_nil)))) (pg_name (i := 4) sc_spots.nd rfl (by first | exact Or.inl rfl | exact Or.inr rfl))
        (pss_one (ps_for PassesOwn.never rfl (kiList K (pe_call G_places (hr.mono (by omega)) (by rfl) E.f_places.g E.f_places.F.kp (b_places E) .nil pass0 (pa_cons (pe_call G_side (hr.mono (by omega)) (by rfl) E.f_side.g E.f_side.F.kp (b_side E) .nil pass0 (pa_cons (pv 3) (pa_cons (pv 4) pa_nil))) pa_nil))) (kgTup K (n := 2) rfl (pgs_cons (pg_name (i := 5) sc_spots.nd rfl (by first | exact Or.inl rfl | exact Or.inr rfl)) (pgs_cons (pg_name (i := 6) sc_spots.nd rfl (by first | exact Or.inl rfl | exact Or.inr rfl)) pgs_nil)))
          (pss_one (ps_if (pt_not (kTru K (pe_call G_is_variable (hr.mono (by omega)) (by rfl) E.f_is_variable.g E.f_is_variable.F.kp (b_is_variable E) .nil pass0 (pa_cons (pv 6) pa_nil)) (fun _ => rfl)))
            (pss_one (ps_expr (pe_bm PySem.F.plainAttrs_list PySem.F.slot_list_append PySem.F.type_list_append mt_append (pv 1) (pa_cons (pe_tup (pa_cons (pv 2) (pa_cons (pv 4) (pa_cons (pv 5) (pa_cons (pv 6) pa_nil))))) pa_nil))))
            pss_nil)))))))
    (pss_one (ps_ret (pv 1))))), ?_⟩
  rintro ss r ⟨c, hc, rfl, rfl⟩
  show Sx K T _ [some (.sh (.tup (c.map Lit.d))), none, none, none, none, none, none] _
  refine sx_seq (sx_set (ev_lst (ds := []) ea_nil) ?_)
  have lenK : ∀ i x, x ∈ c → (spotsK i x).length ≤ 400 := fun i x hx => by
    have h1 := spotsS_len i x 0
    have h2 := spotsS_len i x 1
    have h3 := hc.side hx (s := 0) (by omega)
    have h4 := hc.side hx (s := 1) (by omega)
    unfold spotsK
    rw [List.length_append]
    omega
  refine sx_seq (sx_for (ei_enumT (ev_var rfl rfl)) (fun i δ => ∃ o1 o2 o3 o4 o5, δ = [some (.sh (.tup (c.map Lit.d))), some (.own ((((c.take i).mapIdx spotsK).flatten).map spD)), o1, o2, o3, o4, o5]) ⟨none, none, none, none, none, rfl⟩ ?_ ?_)
  · rintro i d δ' hi ⟨o1, o2, o3, o4, o5, rfl⟩
    obtain ⟨x, hx, rfl⟩ := enu_in hi
    have hxm := List.mem_of_getElem? hx
    have hl0 : (((c.take i).mapIdx spotsK).flatten).length ≤ 8000 := by
      have h1 := flat_len spotsK 400 (c.take i) fun j y hy => lenK j y (List.mem_of_mem_take hy)
      have h2 := hc.1
      rw [List.length_take] at h1
      have h3 : min i c.length ≤ 20 := by omega
      omega
    refine ⟨_, _, tg_tup (tg_cons tg_name (tg_cons tg_name tg_nil)), ?_⟩
    show Sx K T _ [some (.sh (.tup (c.map Lit.d))), some (.own ((((c.take i).mapIdx spotsK).flatten).map spD)), some (.sh (.int (i : Nat))), some (.sh x.d), o3, o4, o5] _
    refine sx_for (ei_tup (ev_tup (ds := [.int ((0 : Nat) : Int), .int ((1 : Nat) : Int)]) (ea_cons ev_int (ea_cons ev_int ea_nil)))) (fun s δ => ∃ o3 o4 o5, δ = [some (.sh (.tup (c.map Lit.d))), some (.own ((((c.take i).mapIdx spotsK).flatten ++ up2 s (spotsS i x 0) (spotsK i x)).map spD)), some (.sh (.int (i : Nat))), some (.sh x.d), o3, o4, o5]) ⟨o3, o4, o5, by simp [up2]⟩ ?_ ?_
    · rintro s d δ' hs ⟨o3, o4, o5, rfl⟩
      have hs1 : s ≤ 1 := by
        have := (List.getElem?_eq_some_iff.mp hs).1
        simp at this; omega
      have hd : d = .int (s : Nat) := by
        match s, hs with
        | 0, hs => simpa using hs.symm
        | 1, hs => simpa using hs.symm
      subst hd
      have hsz := hc.side hxm hs1
      refine ⟨_, _, tg_name, ?_⟩
      generalize hpre : ((c.take i).mapIdx spotsK).flatten ++ up2 s (spotsS i x 0) (spotsK i x) = pre
      have hprel : pre.length ≤ 9000 := by
        rw [← hpre, List.length_append]
        have h1 := spotsS_len i x 0
        have h2 := hc.side hxm (s := 0) (by omega)
        have h3 : (up2 s (spotsS i x 0) (spotsK i x)).length ≤ 200 := by
          match s, hs1 with
          | 0, _ => exact Nat.zero_le _
          | 1, _ => exact Nat.le_trans h1 h2.2
        omega
      show Sx K T _ [some (.sh (.tup (c.map Lit.d))), some (.own (pre.map spD)), some (.sh (.int (i : Nat))), some (.sh x.d), some (.sh (.int (s : Nat))), o4, o5] _
      refine sx_for (ei_new (ev_call (ea_cons (ev_call (ea_cons (ev_var rfl rfl) (ea_cons (ev_var rfl rfl) ea_nil)) ⟨x, s, hs1, rfl, rfl⟩) ea_nil) ⟨x.side s, hsz.1, by omega, rfl, rfl⟩)) (fun j δ => ∃ o4 o5, δ = [some (.sh (.tup (c.map Lit.d))), some (.own ((pre ++ (((plc (x.side s)).take j).filter fun p => !p.2.isV).map fun p => (i, s, p.1, p.2)).map spD)), some (.sh (.int (i : Nat))), some (.sh x.d), some (.sh (.int (s : Nat))), o4, o5]) ⟨o4, o5, by simp⟩ ?_ ?_
      · rintro j d δ' hj ⟨o4, o5, rfl⟩
        obtain ⟨⟨p, t⟩, hp, rfl⟩ := at_map hj
        have hft := filter_take (fun p : List Nat × Tm => !p.2.isV) _ _ _ hp
        have hlen : ((pre ++ (((plc (x.side s)).take j).filter fun p => !p.2.isV).map fun p => (i, s, p.1, p.2)).map spD).length ≤ 10000 := by
          have h1 := List.length_filter_le (fun p : List Nat × Tm => !p.2.isV) ((plc (x.side s)).take j)
          have h2 := plc_len (x.side s)
          rw [List.length_take] at h1
          simp only [List.length_map, List.length_append]
          omega
        refine ⟨_, _, tg_tup (ds := [pcD p, t.d]) (tg_cons tg_name (tg_cons tg_name tg_nil)), ?_⟩
        generalize hq : pre ++ (((plc (x.side s)).take j).filter fun p => !p.2.isV).map (fun p => (i, s, p.1, p.2)) = q at hlen ⊢
        show Sx K T _ [some (.sh (.tup (c.map Lit.d))), some (.own (q.map spD)), some (.sh (.int (i : Nat))), some (.sh x.d), some (.sh (.int (s : Nat))), some (.sh (pcD p)), some (.sh t.d)] _
        refine sx_if (et_not (et_tru (ev_call (ea_cons (ev_var rfl rfl) ea_nil) ⟨t, rfl, rfl⟩) rfl)) (fun h => ?_) fun h => sx_next ?_
        · refine sx_append rfl (ev_tup (ds := [.int (i : Nat), .int (s : Nat), pcD p, t.d]) (ea_cons (ev_var rfl rfl) (ea_cons (ev_var rfl rfl) (ea_cons (ev_var rfl rfl) (ea_cons (ev_var rfl rfl) ea_nil))))) (by omega) ?_
          have e : pre ++ (((plc (x.side s)).take (j + 1)).filter fun p => !p.2.isV).map (fun p => (i, s, p.1, p.2)) = q ++ [(i, s, p, t)] := by
            rw [hft, if_pos h, List.map_append, ← List.append_assoc, hq]
            rfl
          refine ⟨some (.sh (pcD p)), some (.sh t.d), ?_⟩
          rw [e, List.map_append]
          rfl
        · have e : pre ++ (((plc (x.side s)).take (j + 1)).filter fun p => !p.2.isV).map (fun p => (i, s, p.1, p.2)) = q := by
            rw [hft, if_neg (by rw [show (!t.isV) = false from h]; exact Bool.false_ne_true), List.append_nil, hq]
          refine ⟨some (.sh (pcD p)), some (.sh t.d), ?_⟩
          rw [e]
      · rintro δ' ⟨o4, o5, rfl⟩
        refine ⟨some (.sh (.int (s : Nat))), o4, o5, ?_⟩
        rw [List.length_map, List.take_length, ← hpre]
        match s, hs1 with
        | 0, _ => simp [spotsS, up2]
        | 1, _ => simp [spotsS, spotsK, up2]
    · rintro δ' ⟨o3, o4, o5, rfl⟩
      refine ⟨some (.sh (.int (i : Nat))), some (.sh x.d), o3, o4, o5, ?_⟩
      rw [flat_take spotsK c i x hx]
      rfl
  · rintro δ' ⟨o1, o2, o3, o4, o5, rfl⟩
    refine sx_retOwn ?_ rfl
    rw [enu_len, List.length_map, List.take_length]
    rfl
def R_leads : List Sl → Sl → Prop := fun ss r => ∃ c : Cl, c.length ≤ 100 ∧ ss = [.sh c.d] ∧ r = .own ((leadsL c).map ldD)
theorem ok_leads : Ok P w base T 2 E.f_leads ["d"] R_leads := by
  have G_side := ok_side (P := P) (w := w) (base := base) (T := T) E
  refine fn_R E.f_leads.F sc_leads (fun ss s ⟨_, _, e, _⟩ => by rw [e]; rfl) fun cdv A outer s H _ hr => ⟨_, (pss_cons (ps_set (i := 1) sc_leads.nd rfl (by first | exact Or.inl rfl | exact Or.inr rfl) (pe_lst pa_nil))
    (pss_cons (ps_for PassesOwn.never rfl (kiEnumT K (by rfl) E.m_enumerate (pa_cons (pv 0) pa_nil)) (kgTup K (n := 2) rfl (pgs_cons (pg_name (i := 2) sc_leads.nd rfl (by first | exact Or.inl rfl | exact Or.inr rfl)) (pgs_cons (pg_name (i := 3) sc_leads.nd rfl (by first | exact Or.inl rfl | exact Or.inr rfl)) pgs_nil)))
      (pss_one (ps_if (kTru K (pe_ix (kIx K) (pv 3) pe_int (fun _ _ => rfl)) (fun _ => rfl))
        (pss_one (ps_for PassesOwn.never rfl (kiTup K (pe_tup (pa_cons pe_int (pa_cons pe_int pa_nil)))) (pg_name (i := 4) sc_leads.nd rfl (by first | exact Or.inl rfl | exact Or.inr rfl))
          (pss_one (ps_expr (pe_bm PySem.F.plainAttrs_list PySem.F.slot_list_append PySem.F.type_list_append mt_append (pv 1) (pa_cons (pe_tup (pa_cons (pv 2) (pa_cons (pv 4) (pa_cons (pe_call G_side (hr.mono (by omega)) (by rfl) E.f_side.g E.f_side.F.kp (b_side E) .nil pass0 (pa_cons (pv 3) (pa_cons (pv 4) pa_nil))) pa_nil)))) pa_nil))))))
        pss_nil)))
    (pss_one (ps_ret (pv 1))))), ?_⟩
  rintro ss r ⟨c, hc, rfl, rfl⟩
  show Sx K T _ [some (.sh (.tup (c.map Lit.d))), none, none, none, none] _
  refine sx_seq (sx_set (ev_lst (ds := []) ea_nil) ?_)
  have lenK : ∀ i x, x ∈ c → (leadsK i x).length ≤ 2 := fun i x _ => by unfold leadsK; split <;> simp
  refine sx_seq (sx_for (ei_enumT (ev_var rfl rfl)) (fun i δ => ∃ o1 o2 o3, δ = [some (.sh (.tup (c.map Lit.d))), some (.own ((((c.take i).mapIdx leadsK).flatten).map ldD)), o1, o2, o3]) ⟨none, none, none, rfl⟩ ?_ ?_)
  · rintro i d δ' hi ⟨o1, o2, o3, rfl⟩
    obtain ⟨x, hx, rfl⟩ := enu_in hi
    have hl0 : (((c.take i).mapIdx leadsK).flatten).length ≤ 200 := by
      have h1 := flat_len leadsK 2 (c.take i) fun j y hy => lenK j y (List.mem_of_mem_take hy)
      rw [List.length_take] at h1
      have h3 : min i c.length ≤ 100 := by omega
      omega
    refine ⟨_, _, tg_tup (tg_cons tg_name (tg_cons tg_name tg_nil)), ?_⟩
    show Sx K T _ [some (.sh (.tup (c.map Lit.d))), some (.own ((((c.take i).mapIdx leadsK).flatten).map ldD)), some (.sh (.int (i : Nat))), some (.sh (.tup [.bl x.p, x.l.d, x.r.d])), o3] _
    have hfl := flat_take leadsK c i x hx
    refine sx_if (et_tru (ev_ixT (ev_var rfl rfl) ev_int rfl) rfl) (fun h => ?_) fun h => sx_next ?_
    · have hk : leadsK i x = [(i, 0, x.l), (i, 1, x.r)] := by unfold leadsK; rw [if_pos h]
      rw [hk] at hfl
      generalize hpre : ((c.take i).mapIdx leadsK).flatten = pre at hl0 hfl ⊢
      refine sx_for (ei_tup (ev_tup (ds := [.int ((0 : Nat) : Int), .int ((1 : Nat) : Int)]) (ea_cons ev_int (ea_cons ev_int ea_nil)))) (fun s δ => ∃ o3, δ = [some (.sh (.tup (c.map Lit.d))), some (.own ((pre ++ up2 s [(i, 0, x.l)] [(i, 0, x.l), (i, 1, x.r)]).map ldD)), some (.sh (.int (i : Nat))), some (.sh (.tup [.bl x.p, x.l.d, x.r.d])), o3]) ⟨o3, by simp [up2]⟩ ?_ ?_
      · rintro s d δ' hs ⟨o3, rfl⟩
        have hs1 : s ≤ 1 := by
          have := (List.getElem?_eq_some_iff.mp hs).1
          simp at this; omega
        have hd : d = .int (s : Nat) := by
          match s, hs with
          | 0, hs => simpa using hs.symm
          | 1, hs => simpa using hs.symm
        subst hd
        refine ⟨_, _, tg_name, ?_⟩
        have hl1 : ((pre ++ up2 s [(i, 0, x.l)] [(i, 0, x.l), (i, 1, x.r)]).map ldD).length ≤ 300 := by
          rw [List.length_map, List.length_append]
          match s, hs1 with
          | 0, _ => simp [up2]; omega
          | 1, _ => simp [up2]; omega
        generalize hq : pre ++ up2 s [(i, 0, x.l)] [(i, 0, x.l), (i, 1, x.r)] = q at hl1 ⊢
        show Sx K T _ [some (.sh (.tup (c.map Lit.d))), some (.own (q.map ldD)), some (.sh (.int (i : Nat))), some (.sh (.tup [.bl x.p, x.l.d, x.r.d])), some (.sh (.int (s : Nat)))] _
        refine sx_append rfl (ev_tup (ds := [.int (i : Nat), .int (s : Nat), (x.side s).d]) (ea_cons (ev_var rfl rfl) (ea_cons (ev_var rfl rfl) (ea_cons (ev_call (ea_cons (ev_var rfl rfl) (ea_cons (ev_var rfl rfl) ea_nil)) ⟨x, s, hs1, rfl, rfl⟩) ea_nil)))) (by omega) ?_
        have e : pre ++ up2 (s + 1) [(i, 0, x.l)] [(i, 0, x.l), (i, 1, x.r)] = q ++ [(i, s, x.side s)] := by
          rw [← hq]
          match s, hs1 with
          | 0, _ => simp [up2, Lit.side]
          | 1, _ => simp [up2, Lit.side]
        refine ⟨some (.sh (.int (s : Nat))), ?_⟩
        rw [e, List.map_append]
        rfl
      · rintro δ' ⟨o3, rfl⟩
        refine ⟨some (.sh (.int (i : Nat))), some (.sh (.tup [.bl x.p, x.l.d, x.r.d])), o3, ?_⟩
        rw [hfl]
        rfl
    · have hk : leadsK i x = [] := by unfold leadsK; rw [if_neg (by rw [h]; exact Bool.false_ne_true)]
      refine ⟨some (.sh (.int (i : Nat))), some (.sh x.d), o3, ?_⟩
      rw [hfl, hk, List.append_nil]
      rfl
  · rintro δ' ⟨o1, o2, o3, rfl⟩
    refine sx_retOwn ?_ rfl
    rw [enu_len, List.length_map, List.take_length]
    rfl
/-! ### conclude -/
structure Conc where
  kind : Str
  cl : Cl
  lit : Dat
  sd : Dat
  pl : Dat
  ol : Dat
  os : Dat
def Conc.d (C : Addr) (x : Conc) : Dat := concD C [.str x.kind, x.cl.d, x.lit, x.sd, x.pl, x.ol, x.os]
variable (CConclusion : ClC K mg)
def R_conclude (n : Nat) : List Sl → Sl → Prop := fun ss r => ∃ (kind : Str) (c : Cl) (d1 d2 d3 d4 d5 : Dat) (A B : Sub), Cok n c ∧ Sok n A ∧ Sok n B ∧ ss = [.sh (.str kind), .sh c.d, .sh d1, .sh d2, .sh d3, .sh d4, .sh d5, .dcx A.d, .dcx B.d] ∧
  r = .sh (Conc.d CConclusion.C ⟨kind, putCl (numS c A B) c, d1, d2, d3, d4, d5⟩)
theorem ok_conclude (n : Nat) : Ok P w base T (n + 5) E.f_conclude ["kind", "clause", "literal", "side", "place", "other_literal", "other_side", "first", "second"] (R_conclude CConclusion n) := by
  have G_numbering := ok_numbering (P := P) (w := w) (base := base) (T := T) E n
  have G_put_clause := ok_put_clause (P := P) (w := w) (base := base) (T := T) E n
  have G_renamed := ok_renamed (P := P) (w := w) (base := base) (T := T) E n
  have G_Conclusion := ok_conc (P := P) (w := w) (base := base) CConclusion
  refine fn_R E.f_conclude.F sc_conclude (fun ss s ⟨_, _, _, _, _, _, _, _, _, _, _, _, e, _⟩ => by rw [e]; rfl) fun cdv A outer s H _ hr => ⟨_, (pss_cons (ps_set (i := 9) sc_conclude.nd rfl (by first | exact Or.inl rfl | exact Or.inr rfl) (pe_call G_numbering (hr.mono (by omega)) (by rfl) E.f_numbering.g E.f_numbering.F.kp (b_numbering E) .nil pass0 (pa_cons (pv 1) (pa_cons (pv 7) (pa_cons (pv 8) pa_nil)))))
    (pss_cons (ps_set (i := 1) sc_conclude.nd rfl (by first | exact Or.inl rfl | exact Or.inr rfl) (pe_call G_put_clause (hr.mono (by omega)) (by rfl) E.f_put_clause.g E.f_put_clause.F.kp (b_put_clause E) .nil pass0 (pa_cons (pv 1) (pa_cons (pv 9) pa_nil))))
    (pss_one (ps_ret (pe_make CConclusion.m G_Conclusion (hr.mono (by omega)) (by rfl) CConclusion.g CConclusion.b .nil pass0 (pa_cons (pv 0) (pa_cons (pv 1) (pa_cons (pv 2) (pa_cons (pv 3) (pa_cons (pv 4) (pa_cons (pv 5) (pa_cons (pv 6) (pa_cons (pe_call G_renamed (hr.mono (by omega)) (by rfl) E.f_renamed.g E.f_renamed.F.kp (b_renamed E) .nil pass0 (pa_cons (pv 7) (pa_cons (pv 9) pa_nil))) (pa_cons (pe_call G_renamed (hr.mono (by omega)) (by rfl) E.f_renamed.g E.f_renamed.F.kp (b_renamed E) .nil pass0 (pa_cons (pv 8) (pa_cons (pv 9) pa_nil))) pa_nil)))))))))))))), ?_⟩
  rintro ss r ⟨kind, c, d1, d2, d3, d4, d5, A, B, hc, hA, hB, rfl, rfl⟩
  show Sx K T _ [some (.sh (.str kind)), some (.sh c.d), some (.sh d1), some (.sh d2), some (.sh d3), some (.sh d4), some (.sh d5), some (.dcx A.d), some (.dcx B.d), none] _
  refine sx_seq (sx_set (ev_call (ea_cons (ev_var rfl rfl) (ea_cons (ev_var rfl rfl) (ea_cons (ev_var rfl rfl) ea_nil))) ⟨c, A, B, hc, hA, hB, rfl, rfl⟩) ?_)
  refine sx_seq (sx_set (ev_call (ea_cons (ev_var rfl rfl) (ea_cons (ev_ownD rfl) ea_nil)) ⟨c, numS c A B, hc.1, fun x hx => (hc.2 x hx).tn, rfl, rfl⟩) ?_)
  exact sx_ret (ev_conc (ds := [.str kind, (putCl (numS c A B) c).d, d1, d2, d3, d4, d5]) rfl (ea_cons (ev_var rfl rfl) (ea_cons (ev_var rfl rfl) (ea_cons (ev_var rfl rfl) (ea_cons (ev_var rfl rfl) (ea_cons (ev_var rfl rfl) (ea_cons (ev_var rfl rfl) (ea_cons (ev_var rfl rfl)
    (ea_cons (ev_call (ea_cons (ev_var rfl rfl) (ea_cons (ev_ownD rfl) ea_nil)) ⟨A, numS c A B, hA, rfl, rfl⟩) (ea_cons (ev_call (ea_cons (ev_var rfl rfl) (ea_cons (ev_ownD rfl) ea_nil)) ⟨B, numS c A B, hB, rfl, rfl⟩) ea_nil)))))))))) rfl
end
end
end G3
end

section
set_option Elab.async false
set_option linter.all false
set_option maxRecDepth 100000
set_option maxHeartbeats 1000000
namespace G3
open PySem PySem.Spec PyProof.Rows L2 LamX NdefX
noncomputable section
open scoped Classical
/-! ### what is unified -/
def Gnd (t : Tm) : Prop := ∀ x, occ x t = 0
def Md (g : Prop) (t : Tm) : Prop := (g → Gnd t) ∧ (¬ g → t.size ≤ 7)
structure Cg (g : Prop) (c : Cl) : Prop where
  len : c.length ≤ 4
  ok : ∀ x ∈ c, Lok 4 x
  md : ∀ x ∈ c, Md g x.l ∧ Md g x.r
theorem Cg.cok {g : Prop} {c : Cl} (h : Cg g c) : Cok 4 c := ⟨by have := h.len; omega, h.ok⟩
theorem clo_var {L : List Tm} (cl : Clo L) {x : Int} : ∀ t : Tm, t ∈ L → occ x t ≠ 0 → Tm.v x ∈ L := by
  refine Tm.ind (fun n h ho => ?_) fun s l ih h ho => ?_
  · rw [occ_v] at ho
    split at ho
    · rename_i e; rw [← e]; exact h
    · exact absurd rfl ho
  · have : ¬ ∀ t ∈ l, occ x t = 0 := fun q => ho (occ_ap_zero.mpr q)
    simp only [Classical.not_forall] at this
    obtain ⟨t, ht, hz⟩ := this
    exact ih t ht (cl s l h t ht) hz
theorem uinv0 {g : Prop} {a b : Tm} (ha : Tok 4 a) (hb : Tok 4 b) (ma : Md g a) (mb : Md g b) : UInv (subs a ++ subs b) 5 [(a, b)] [] := by
  have cl : Clo (subs a ++ subs b) := fun s l h u hu => by
    rcases List.mem_append.mp h with h | h
    · exact List.mem_append_left _ (subs_clo a s l h u hu)
    · exact List.mem_append_right _ (subs_clo b s l h u hu)
  have lim : (subs a ++ subs b).length ≤ 14 ∨ ∀ t ∈ subs a ++ subs b, ∀ x, occ x t = 0 := by
    by_cases hg : g
    · refine .inr fun t h x => Classical.byContradiction fun z => ?_
      rcases List.mem_append.mp h with h | h
      · exact subs_occ a t h z (ma.1 hg x)
      · exact subs_occ b t h z (mb.1 hg x)
    · refine .inl ?_
      rw [List.length_append, subs_len, subs_len]
      have := ma.2 hg
      have := mb.2 hg
      omega
  refine ⟨cl, fun t h => ?_, fun t h x hx => ?_, fun t h => ?_, lim, fun p hp => ?_, fun p hp => ?_, List.nodup_nil, fun p hp => ?_, fun i p e => ?_, ?_⟩
  · rcases List.mem_append.mp h with h | h
    · exact subs_thin a t h ha.ar
    · exact subs_thin b t h hb.ar
  · rcases List.mem_append.mp h with h | h
    · exact ha.vb x (subs_occ a t h hx)
    · exact hb.vb x (subs_occ b t h hx)
  · rcases List.mem_append.mp h with h | h
    · have := subs_dep a t h
      have := ha.dep
      omega
    · have := subs_dep b t h
      have := hb.dep
      omega
  · rw [List.mem_singleton] at hp
    rw [hp]
    exact ⟨List.mem_append_left _ (subs_self a), List.mem_append_right _ (subs_self b)⟩
  · cases hp
  · cases hp
  · have : i = 0 := by
      have := (List.getElem?_eq_some_iff.mp e).1
      simpa using this
    subst this
    simp only [List.reverse_singleton, List.getElem?_cons_zero, Option.some.injEq] at e
    rw [← e]
    have := ha.dep
    show 0 + a.depth ≤ 5
    omega
  · rcases lim with h | h
    · have := nodup_len (collL [] (subs a ++ subs b)) ((subs a ++ subs b).filterMap fun t => match t with | .v x => some x | _ => none) (nodup_collL List.nodup_nil) fun x hx => by
        rcases mem_collL.mp hx with hx | ⟨t, ht, hx⟩
        · cases hx
        · exact List.mem_filterMap.mpr ⟨.v x, clo_var cl t ht hx, rfl⟩
      have h2 := List.length_filterMap_le (fun t : Tm => match t with | .v x => some x | _ => none) (subs a ++ subs b)
      omega
    · have : collL [] (subs a ++ subs b) = [] := by
        cases e : collL [] (subs a ++ subs b) with
        | nil => rfl
        | cons x r =>
          have hx : x ∈ collL [] (subs a ++ subs b) := by rw [e]; exact List.mem_cons_self
          rcases mem_collL.mp hx with hx | ⟨t, ht, hx⟩
          · cases hx
          · exact absurd (h t ht x) hx
      rw [this]
      decide
/-- the unifier that unify finds -/
def mgu (a b : Tm) : Option Sub := if h : ∃ m r, uni m [(a, b)] [] = some r then h.choose_spec.choose else none
theorem mgu_run {g : Prop} {a b : Tm} (ha : Tok 4 a) (hb : Tok 4 b) (ma : Md g a) (mb : Md g b) : ∃ m, uni m [(a, b)] [] = some (mgu a b) := by
  have h := uni_ends _ _ _ _ _ _ (uinv0 ha hb ma mb) (Nat.le_refl _) (Nat.le_refl _)
  unfold mgu
  rw [dif_pos h]
  exact ⟨h.choose, h.choose_spec.choose_spec⟩
theorem uni_tok : ∀ (m : Nat) (L : List Tm) (M : Nat) (st : List (Tm × Tm)) (σ τ : Sub), UInv L M st σ → uni m st σ = some (some τ) → ∀ p ∈ τ, Tok 14 p.2 := by
  intro m
  induction m with
  | zero =>
    intro L M st σ τ h e
    cases st with
    | nil => cases e; exact fun p hp => ⟨h.dp _ (h.sg p hp), h.ar _ (h.sg p hp), h.vb _ (h.sg p hp)⟩
    | cons _ _ => cases e
  | succ m ih =>
    intro L M st σ τ h e
    cases st with
    | nil => cases e; exact fun p hp => ⟨h.dp _ (h.sg p hp), h.ar _ (h.sg p hp), h.vb _ (h.sg p hp)⟩
    | cons p st =>
      rw [uni] at e
      by_cases he : p.1 = p.2
      · rw [if_pos he] at e
        exact ih L M st σ τ h.pop e
      · rw [if_neg he] at e
        have hm := h.sm p List.mem_cons_self
        rcases uSwap_cases p with ⟨x, b, hsw, hor⟩ | ⟨s, l, s', l', rfl, hsw⟩
        · rw [hsw] at e
          have hxb : Tm.v x ∈ L ∧ b ∈ L := by
            rcases hor with ⟨e1, e2⟩ | ⟨e1, e2⟩
            · exact ⟨e1 ▸ hm.1, e2 ▸ hm.2⟩
            · exact ⟨e1 ▸ hm.2, e2 ▸ hm.1⟩
          have e : (if occ x b > 0 then some none else uni m (st.map (put1 x b)) (bindS σ x b)) = some (some τ) := e
          by_cases ho : occ x b > 0
          · rw [if_pos ho] at e; cases e
          · rw [if_neg ho] at e
            exact ih _ _ _ _ τ (h.bind hxb.1 hxb.2 (by omega)) e
        · rw [hsw] at e
          have e : (if s ≠ s' ∨ l.length ≠ l'.length then some none else uni m ((l.zip l').reverse ++ st) σ) = some (some τ) := e
          by_cases hc : s ≠ s' ∨ l.length ≠ l'.length
          · rw [if_pos hc] at e; cases e
          · rw [if_neg hc] at e
            exact ih _ _ _ _ τ h.split e
theorem mgu_tok {g : Prop} {a b : Tm} {τ : Sub} (ha : Tok 4 a) (hb : Tok 4 b) (ma : Md g a) (mb : Md g b) (e : mgu a b = some τ) : ∀ p ∈ τ, Tok 14 p.2 := by
  obtain ⟨m, hm⟩ := mgu_run ha hb ma mb
  rw [e] at hm
  exact uni_tok m _ _ _ _ τ (uinv0 ha hb ma mb) hm
theorem look_mem {τ : Sub} {x : Int} {t : Tm} (h : look τ x = some t) : (x, t) ∈ τ := by
  unfold look getI at h
  cases e : τ.find? fun p => decide (p.1 = x) with
  | none => rw [e] at h; cases h
  | some p =>
    rw [e] at h
    cases h
    have h1 := List.find?_some e
    have h2 := List.mem_of_find?_eq_some e
    have h1 : p.1 = x := of_decide_eq_true h1
    rw [← h1]
    exact h2
theorem occ_putL {τ : Sub} {z : Int} : ∀ t : Tm, occ z (put τ t) ≠ 0 → occ z t ≠ 0 ∨ ∃ p ∈ τ, occ z p.2 ≠ 0 := by
  refine Tm.ind (fun n h => ?_) fun s l ih h => ?_
  · rw [put_v] at h
    cases e : look τ n with
    | none => rw [e] at h; exact .inl h
    | some t => rw [e] at h; exact .inr ⟨_, look_mem e, h⟩
  · rw [put_ap] at h
    have : ¬ ∀ t ∈ l.map (put τ), occ z t = 0 := fun q => h (occ_ap_zero.mpr q)
    simp only [List.mem_map, forall_exists_index, and_imp, forall_apply_eq_imp_iff₂, Classical.not_forall] at this
    obtain ⟨t, ht, hz⟩ := this
    rcases ih t ht hz with h1 | h1
    · exact .inl fun q => h1 (occ_ap_zero.mp q t ht)
    · exact .inr h1
theorem tok_put {τ : Sub} {n m : Nat} (hτ : ∀ p ∈ τ, Tok m p.2) : ∀ t : Tm, Tok n t → Tok (n + m) (put τ t) := by
  intro t h
  have dep : ∀ t : Tm, (put τ t).depth ≤ t.depth + m := by
    refine Tm.ind (fun k => ?_) fun s l ih => ?_
    · rw [put_v]
      cases e : look τ k with
      | none => exact Nat.le_add_right _ _
      | some u => have h1 : u.depth ≤ m := (hτ _ (look_mem e)).dep; show u.depth ≤ _; rw [Tm.depth]; omega
    · rw [put_ap, Tm.depth, Tm.depth]
      have : depthL (l.map (put τ)) ≤ depthL l + m := depthL_le fun u hu => by
        obtain ⟨t, ht, rfl⟩ := List.mem_map.mp hu
        have := ih t ht
        have := depth_mem ht
        omega
      omega
  have th : ∀ t : Tm, t.thin → (put τ t).thin := by
    refine Tm.ind (fun k h => ?_) fun s l ih h => ?_
    · rw [put_v]
      cases e : look τ k with
      | none => exact True.intro
      | some u => exact (hτ _ (look_mem e)).ar
    · rw [put_ap, thin_ap]
      obtain ⟨h1, h2⟩ := thin_ap.mp h
      refine ⟨by rw [List.length_map]; exact h1, fun u hu => ?_⟩
      obtain ⟨t, ht, rfl⟩ := List.mem_map.mp hu
      exact ih t ht (h2 t ht)
  refine ⟨Nat.le_trans (dep t) (by have := h.dep; omega), th t h.ar, fun x hx => ?_⟩
  rcases occ_putL t hx with h1 | ⟨p, hp, h1⟩
  · exact h.vb x h1
  · exact (hτ p hp).vb x h1
theorem cok_put {τ : Sub} {n m : Nat} {c : Cl} (hτ : ∀ p ∈ τ, Tok m p.2) (h : Cok n c) : Cok (n + m) (putCl τ c) := by
  refine ⟨by unfold putCl; rw [List.length_map]; exact h.1, fun x hx => ?_⟩
  obtain ⟨y, hy, rfl⟩ := List.mem_map.mp hx
  have := h.2 y hy
  exact ⟨tok_put hτ _ this.1, tok_put hτ _ this.2⟩
theorem Cok.mono {n m : Nat} {c : Cl} (h : Cok n c) (l : n ≤ m) : Cok m c := ⟨h.1, fun x hx => ⟨(h.2 x hx).1.mono l, (h.2 x hx).2.mono l⟩⟩
theorem tok_v {n : Nat} {x : Int} (h : 0 ≤ x ∧ x < 1000) : Tok n (.v x) := ⟨Nat.zero_le _, True.intro, fun y hy => by
  rw [occ_v] at hy
  split at hy
  · rename_i e; rw [← e]; exact h
  · exact absurd rfl hy⟩
theorem sok_bec {τ : Sub} {a : Int} {n : Nat} {c : Cl} (hτ : ∀ p ∈ τ, Tok 14 p.2) (h : Cok n c) (ha : ∀ x ∈ clVars c, 0 ≤ x + a ∧ x + a < 1000) : Sok 22 (becS τ a c) := by
  refine ⟨?_, fun p hp => ?_, ?_⟩
  · unfold becS
    rw [List.map_map]
    have : ((fun x : Int × Tm => x.1) ∘ fun k => (k, put τ (.v (k + a)))) = id := rfl
    rw [this, List.map_id]
    exact clVars_nodup c
  · obtain ⟨k, hk, rfl⟩ := List.mem_map.mp hp
    exact (tok_put (n := 0) hτ _ (tok_v (ha k hk))).mono (by omega)
  · unfold becS
    rw [List.length_map]
    exact small_len (clVars_nodup c) (clVars_ok h)
theorem sok_nil {n : Nat} : Sok n [] := ⟨List.nodup_nil, fun p hp => (by cases hp), Nat.zero_le _⟩
/-! ### resolution -/
def mkConc (kind : Str) (cl : Cl) (d1 d2 d3 d4 d5 : Dat) (A B : Sub) : Conc := ⟨kind, putCl (numS cl A B) cl, d1, d2, d3, d4, d5⟩
def resAt (W : Wts) (c : Cl) (sel : Option Nat) (k : Nat) (y : Lit) : Option Conc := match mgu y.l y.r with
  | none => none
  | some τ => if mayAct W c sel k y τ = true then some (mkConc "resolution" (putCl τ (c.eraseIdx k)) (.int k) .non .non .non .non (becS τ 0 c) []) else none
def resL (W : Wts) (c : Cl) (sel : Option Nat) : List Conc := ((c.mapIdx fun k y => if y.p then none else resAt W c sel k y).filterMap id)
def conS (C : Addr) : Option Conc → Sl
  | none => .sh .non
  | some x => .sh (x.d C)
section
variable {P : Program} {w : World} {K : PySem.W.Frag} {mg : Str → Option Value} {base : Heap} {T : List NTab} (E : Txt K mg) (L : LamAt E base T) (CConclusion : ClC K mg)
include L
def R_resolution : List Sl → Sl → Prop := fun ss r => ∃ (g : Prop) (W : Wts) (c : Cl) (sel : Option Nat) (k : Nat) (y : Lit), Cg g c ∧ c[k]? = some y ∧ ss = [.sh (.wts W), .sh c.d, .sh (selD sel), .sh (.int k)] ∧ r = conS CConclusion.C (resAt W c sel k y)
theorem ok_resolution : Ok P w base T 104 E.f_resolution ["weights", "c", "selected", "k"] (R_resolution CConclusion) := by
  have G_unify := ok_unify (P := P) (w := w) (base := base) (T := T) E
  have G_may_act := ok_may_act (P := P) (w := w) (base := base) (T := T) E L (n := 4) (D := 18) (by omega) (by omega)
  have G_put_clause := ok_put_clause (P := P) (w := w) (base := base) (T := T) E 4
  have G_became := ok_became (P := P) (w := w) (base := base) (T := T) E 4
  have G_conclude := ok_conclude (P := P) (w := w) (base := base) (T := T) E CConclusion 22
  refine fn_R E.f_resolution.F sc_resolution (fun ss s ⟨_, _, _, _, _, _, _, _, e, _⟩ => by rw [e]; rfl) fun cdv A outer s H _ hr => ⟨_, (pss_cons (ps_set (i := 4) sc_resolution.nd rfl (by first | exact Or.inl rfl | exact Or.inr rfl) (pe_call G_unify (hr.mono (by omega)) (by rfl) E.f_unify.g E.f_unify.F.kp (b_unify E) .nil pass0 (pa_cons (pe_lst (pa_cons (pe_tup (pa_cons (pe_ix (kIx K) (pe_ix (kIx K) (pv 1) (pv 3) (fun _ _ => rfl)) pe_int (fun _ _ => rfl)) (pa_cons (pe_ix (kIx K) (pe_ix (kIx K) (pv 1) (pv 3) (fun _ _ => rfl)) pe_int (fun _ _ => rfl)) pa_nil))) pa_nil)) pa_nil)))
    (pss_cons (ps_if ((pw_or (pt_cmpR op_isNN (pv 4) pe_non (nomark _)) (pw_or1 (pt_not (kTru K (pe_call G_may_act (hr.mono (by omega)) (by rfl) E.f_may_act.g E.f_may_act.F.kp (b_may_act E) .nil pass0 (pa_cons (pv 0) (pa_cons (pv 1) (pa_cons (pv 2) (pa_cons (pv 3) (pa_cons (pv 4) pa_nil)))))) (fun _ => rfl))))).pt)
      (pss_one (ps_ret pe_non))
      pss_nil)
    (pss_cons (ps_set (i := 5) sc_resolution.nd rfl (by first | exact Or.inl rfl | exact Or.inr rfl) (pe_call G_put_clause (hr.mono (by omega)) (by rfl) E.f_put_clause.g E.f_put_clause.F.kp (b_put_clause E) .nil pass0 (pa_cons (pe_op (kAdd K) (pe_slice (kSl K) (pv 1) po_none (po_some (pv 3))) (pe_slice (kSl K) (pv 1) (po_some (pe_op (kAdd K) (pv 3) pe_int)) po_none)) (pa_cons (pv 4) pa_nil))))
    (pss_one (ps_ret (pe_call G_conclude (hr.mono (by omega)) (by rfl) E.f_conclude.g E.f_conclude.F.kp (b_conclude E) .nil pass0 (pa_cons pe_str (pa_cons (pv 5) (pa_cons (pv 3) (pa_cons pe_non (pa_cons pe_non (pa_cons pe_non (pa_cons pe_non (pa_cons (pe_call G_became (hr.mono (by omega)) (by rfl) E.f_became.g E.f_became.F.kp (b_became E) .nil pass0 (pa_cons (pv 1) (pa_cons (pv 4) (pa_cons pe_int pa_nil)))) (pa_cons pe_dnewK pa_nil))))))))))))))), ?_⟩
  rintro ss r ⟨g, W, c, sel, k, y, hc, hk, rfl, rfl⟩
  show Sx K T _ [some (.sh (.wts W)), some (.sh (.tup (c.map Lit.d))), some (.sh (selD sel)), some (.sh (.int k)), none, none] _
  have hy := hc.ok y (List.mem_of_getElem? hk)
  have hmd := hc.md y (List.mem_of_getElem? hk)
  obtain ⟨m, hm⟩ := mgu_run hy.1 hy.2 hmd.1 hmd.2
  have htk := fun τ => mgu_tok (τ := τ) hy.1 hy.2 hmd.1 hmd.2
  have ey : Ev K T (tOp (rIx K) (tVar 1) (tVar 3)) [some (.sh (.wts W)), some (.sh (.tup (c.map Lit.d))), some (.sh (selD sel)), some (.sh (.int k)), none, none] (.sh (.tup [.bl y.p, y.l.d, y.r.d])) := ev_ixT (ev_var rfl rfl) (ev_var rfl rfl) (atI_n (map_at hk))
  refine sx_seq (sx_set (ev_call (ea_cons ((ev_lst (ds := [prD (y.l, y.r)]) (ea_cons (ev_tup (ds := [y.l.d, y.r.d]) (ea_cons (ev_ixT ey ev_int rfl) (ea_cons (ev_ixT ey ev_int rfl) ea_nil))) ea_nil)).shared) ea_nil) ⟨[(y.l, y.r)], m, _, _, mgu y.l y.r, hm, uinv0 hy.1 hy.2 hmd.1 hmd.2, rfl, rfl⟩) ?_ (by cases mgu y.l y.r <;> rfl))
  unfold resAt
  cases hmg : mgu y.l y.r with
  | none =>
    show Sx K T _ [some (.sh (.wts W)), some (.sh (.tup (c.map Lit.d))), some (.sh (selD sel)), some (.sh (.int k)), some (.sh .non), none] _
    refine sx_seq (sx_if (b := true) (et_or (b := true) (c := true) (et_test (ev_isN (ev_var rfl rfl) rfl)) fun h => nomatch h) (fun _ => ?_) fun h => nomatch h)
    exact sx_ret ev_non rfl
  | some τ =>
    have hτ := htk τ hmg
    have hcp : Cok 18 (putCl τ c) := cok_put hτ hc.cok
    show Sx K T _ [some (.sh (.wts W)), some (.sh (.tup (c.map Lit.d))), some (.sh (selD sel)), some (.sh (.int k)), some (.ownD (Sub.d τ)), none] _
    refine sx_seq (sx_if (b := !mayAct W c sel k y τ) (et_or (b := false) (et_test (ev_isN (ev_ownD rfl) rfl)) fun _ => et_not (et_tru (ev_call (ea_cons (ev_var rfl rfl) (ea_cons (ev_var rfl rfl) (ea_cons (ev_var rfl rfl) (ea_cons (ev_var rfl rfl) (ea_cons (ev_ownD rfl) ea_nil))))) ⟨W, c, sel, k, y, τ, by have := hc.len; omega, fun x hx => (hc.ok x hx).tn, hcp, hk, rfl, rfl⟩) rfl)) (fun h => ?_) fun h => sx_next ?_)
    · have h : ¬ mayAct W c sel k y τ = true := by simpa using h
      refine sx_ret ev_non ?_
      show Sl.sh .non = conS CConclusion.C (if mayAct W c sel k y τ = true then _ else none)
      rw [if_neg h]
      rfl
    · have h : mayAct W c sel k y τ = true := by simpa using h
      have hlt : k < c.length := (List.getElem?_eq_some_iff.mp hk).1
      have hlen := hc.len
      have hce : ∀ x ∈ c.eraseIdx k, Lok 4 x := fun x hx => hc.ok x (List.mem_of_mem_eraseIdx hx)
      have hcel : (c.eraseIdx k).length ≤ 4 := by rw [List.length_eraseIdx]; split <;> omega
      have hre : Cok 18 (putCl τ (c.eraseIdx k)) := cok_put hτ (n := 4) ⟨by omega, hce⟩
      refine sx_seq (sx_set (ev_call (ea_cons ((ev_catT (ev_slT (ev_var rfl rfl) eo_none (eo_some (ev_var rfl rfl))) (ev_slT (ev_var rfl rfl) (eo_some (ev_add (ev_var rfl rfl) ev_int)) eo_none) (by
        have q1 := congrArg List.length (cut_erase (c.map Lit.d) k (by rw [List.length_map]; exact hlt))
        rw [List.length_append, List.length_eraseIdx, List.length_map] at q1
        rw [q1]
        split <;> omega)).of_eq (s' := .sh (Cl.d (c.eraseIdx k))) (by
          rw [cut_erase (c.map Lit.d) k (by rw [List.length_map]; exact hlt), List.eraseIdx_eq_take_drop_succ]
          unfold Cl.d
          rw [List.eraseIdx_eq_take_drop_succ, List.map_append, List.map_take, List.map_drop])) (ea_cons (ev_ownD rfl) ea_nil)) ⟨c.eraseIdx k, τ, by omega, fun x hx => (hce x hx).tn, rfl, rfl⟩) ?_)
      show Sx K T _ [some (.sh (.wts W)), some (.sh (.tup (c.map Lit.d))), some (.sh (selD sel)), some (.sh (.int k)), some (.ownD (Sub.d τ)), some (.sh (putCl τ (c.eraseIdx k)).d)] _
      refine sx_ret (ev_call (ea_cons ev_str (ea_cons (ev_var rfl rfl) (ea_cons (ev_var rfl rfl) (ea_cons ev_non (ea_cons ev_non (ea_cons ev_non (ea_cons ev_non (ea_cons ((ev_call (ea_cons (ev_var rfl rfl) (ea_cons (ev_ownD rfl) (ea_cons ev_int ea_nil))) ⟨c, τ, 0, hc.cok, rfl, rfl⟩).toX) (ea_cons (ev_dnew.toX) ea_nil)))))))))
        ⟨"resolution", putCl τ (c.eraseIdx k), .int k, .non, .non, .non, .non, becS τ 0 c, [], hre.mono (by omega), sok_bec hτ hc.cok (fun x hx => by rw [Int.add_zero]; exact clVars_ok hc.cok x hx), sok_nil, rfl, rfl⟩) ?_
      show _ = conS CConclusion.C (if mayAct W c sel k y τ = true then _ else none)
      rw [if_pos h]
      rfl
end
end
end G3
end

section
set_option Elab.async false
set_option linter.all false
set_option maxRecDepth 100000
set_option maxHeartbeats 1000000
namespace G3
open PySem PySem.Spec PyProof.Rows L2 LamX NdefX
noncomputable section
open scoped Classical
theorem fm_take {α β : Type} (f : Nat → α → Option β) (l : List α) (i : Nat) (d : α) (e : l[i]? = some d) : ((l.take (i + 1)).mapIdx f).filterMap id = ((l.take i).mapIdx f).filterMap id ++ (f i d).toList := by
  rw [List.take_succ, e]
  have hlen : (l.take i).length = i := by
    have : i < l.length := (List.getElem?_eq_some_iff.mp e).1
    rw [List.length_take]; omega
  simp only [Option.toList_some, List.mapIdx_append, List.filterMap_append, hlen, List.mapIdx_singleton]
  congr 1
  cases hf : f i d <;> simp [hf]
theorem fm_len {α β : Type} (f : Nat → α → Option β) (l : List α) : ((l.mapIdx f).filterMap id).length ≤ l.length := by
  refine Nat.le_trans (List.length_filterMap_le _ _) ?_
  rw [List.length_mapIdx]; exact Nat.le_refl _
theorem flatM {α : Type} (l : List α) (enc : α → Dat) (f : α → List Dat) : ((l.map enc).mapIdx fun i _ => (l[i]?).elim [] f).flatten = l.flatMap f := by
  have : (l.map enc).mapIdx (fun i _ => (l[i]?).elim [] f) = l.map f := by
    apply List.ext_getElem?
    intro i
    simp only [List.getElem?_mapIdx, List.getElem?_map]
    cases l[i]? <;> rfl
  rw [this, List.flatMap_def]
section
variable {K : PySem.W.Frag} {T : List NTab} {δ : AS} {tt : TT}
theorem eb_loopM {α : Type} {D : Addr} {U : List Nat} {wi : TI} {g : TG} {tb : TB} {vs : List Nat} (l : List α) (enc : α → Dat) (f : α → List Dat) (hi : EvIB K T D U wi δ (l.map enc)) (hv : ∀ i ∈ U, i ∉ vs)
    (hs : ∀ u ∈ l, ∃ δ2 is b, Tgt K T g (enc u) (wipeA δ vs) δ2 is ∧ (∀ i ∈ is, i ∈ vs) ∧ EvT K T tt δ2 b ∧ (b = true → EvB K T tb D U δ2 (f u)) ∧ (b = false → f u = [])) (hc : noScr δ = true := by rfl) (hn : contIn δ U = true := by rfl) :
    EvB K T (tbLoop wi g tt tb vs) D U δ (l.flatMap f) := by
  have h := eb_loop (fun i _ => (l[i]?).elim [] f) hi hv (g := g) (tt := tt) (tb := tb) (fun i d e => by
    obtain ⟨u, hu, rfl⟩ := at_map e
    obtain ⟨δ2, is, b, h1, h2, h3, h4, h5⟩ := hs u (List.mem_of_getElem? hu)
    refine ⟨δ2, is, b, h1, h2, h3, fun z => ?_, fun z => ?_⟩
    · rw [hu]; exact h4 z
    · rw [hu]; exact h5 z) hc hn
  rw [flatM] at h
  exact h
theorem ev_lcBM {α : Type} {wi : TI} {g : TG} {tb : Addr → TB} {vs : List Nat} (U : List Nat) (l : List α) (enc : α → Dat) (f : α → List Dat) (hi : EvI K T wi δ (l.map enc)) (hl : (l.flatMap f).length ≤ 100000) (hv : ∀ i ∈ U, i ∉ vs)
    (hs : ∀ D, ∀ u ∈ l, ∃ δ2 is b, Tgt K T g (enc u) (wipeA δ vs) δ2 is ∧ (∀ i ∈ is, i ∈ vs) ∧ EvT K T tt δ2 b ∧ (b = true → EvB K T (tb D) D U δ2 (f u)) ∧ (b = false → f u = [])) (hU' : ∀ i ∈ U, ∃ s, δ[i]? = some (some s) ∧ s.cont = true) (hc : noScr δ = true := by rfl) (hn : contIn δ U = true := by rfl) :
    Ev K T (tLcB wi g tt tb vs) δ (.own (l.flatMap f)) := by
  have h := ev_lcB U (fun i _ => (l[i]?).elim [] f) hi (by rw [flatM]; exact hl) hv (g := g) (tt := tt) (tb := tb) (fun D i d e => by
    obtain ⟨u, hu, rfl⟩ := at_map e
    obtain ⟨δ2, is, b, h1, h2, h3, h4, h5⟩ := hs D u (List.mem_of_getElem? hu)
    refine ⟨δ2, is, b, h1, h2, h3, fun z => ?_, fun z => ?_⟩
    · rw [hu]; exact h4 z
    · rw [hu]; exact h5 z) hc hn hU'
  rw [flatM] at h
  exact h
end
def facAt (W : Wts) (c : Cl) (k s j t : Nat) (y z : Lit) : Option Conc := if (y.side s).isAtom ≠ (z.side t).isAtom then none else match mgu (y.side s) (z.side t) with
  | none => none
  | some τ => if mayAct W c none k y τ = true ∧ mayLead W y s τ = true then some (mkConc "factoring" (putCl τ (c.set k ⟨false, y.side (1 - s), z.side (1 - t)⟩)) (.int k) (.int s) .non (.int j) (.int t) (becS τ 0 c) []) else none
abbrev Quad := Nat × Nat × Nat × Nat
def qdD (q : Quad) : Dat := .tup [.int q.1, .int q.2.1, .int q.2.2.1, .int q.2.2.2]
def posL (c : Cl) : List Nat := ((c.mapIdx fun k x => (k, x)).filter fun q => q.2.p).map fun q => q.1
def pairsL (c : Cl) : List Quad := (posL c).flatMap fun k => [0, 1].flatMap fun s => (posL c).flatMap fun j => if j = k then [] else [0, 1].flatMap fun t => [(k, s, j, t)]
def facQ (W : Wts) (c : Cl) (q : Quad) : Option Conc := match c[q.1]?, c[q.2.2.1]? with
  | some y, some z => facAt W c q.1 q.2.1 q.2.2.1 q.2.2.2 y z
  | _, _ => none
def facL (W : Wts) (c : Cl) (sel : Option Nat) : List Conc := match sel with
  | some _ => []
  | none => ((pairsL c).mapIdx fun _ q => facQ W c q).filterMap id
section
variable {P : Program} {w : World} {K : PySem.W.Frag} {mg : Str → Option Value} {base : Heap} {T : List NTab} (E : Txt K mg) (L : LamAt E base T) (CConclusion : ClC K mg)
include L
def R_resolutions : List Sl → Sl → Prop := fun ss r => ∃ (g : Prop) (W : Wts) (c : Cl) (sel : Option Nat), Cg g c ∧ ss = [.sh (.wts W), .sh c.d, .sh (selD sel)] ∧ r = .own ((resL W c sel).map (Conc.d CConclusion.C))
theorem ok_resolutions : Ok P w base T 105 E.f_resolutions ["weights", "c", "selected"] (R_resolutions CConclusion) := by
  have G_resolution := ok_resolution (P := P) (w := w) (base := base) (T := T) E L CConclusion
  refine fn_R E.f_resolutions.F sc_resolutions (fun ss s ⟨_, _, _, _, _, e, _⟩ => by rw [e]; rfl) fun cdv A outer s H _ hr => ⟨_, (pss_cons (ps_set (i := 3) sc_resolutions.nd rfl (by first | exact Or.inl rfl | exact Or.inr rfl) (pe_lst pa_nil))
    (pss_cons (ps_for PassesOwn.never rfl (kiEnumT K (by rfl) E.m_enumerate (pa_cons (pv 1) pa_nil)) (kgTup K (n := 2) rfl (pgs_cons (pg_name (i := 4) sc_resolutions.nd rfl (by first | exact Or.inl rfl | exact Or.inr rfl)) (pgs_cons (pg_name (i := 5) sc_resolutions.nd rfl (by first | exact Or.inl rfl | exact Or.inr rfl)) pgs_nil)))
      (pss_one (ps_if (pt_not (kTru K (pe_ix (kIx K) (pv 5) pe_int (fun _ _ => rfl)) (fun _ => rfl)))
        (pss_cons (ps_set (i := 6) sc_resolutions.nd rfl (by first | exact Or.inl rfl | exact Or.inr rfl) (pe_call G_resolution (hr.mono (by omega)) (by rfl) E.f_resolution.g E.f_resolution.F.kp (b_resolution E) .nil pass0 (pa_cons (pv 0) (pa_cons (pv 1) (pa_cons (pv 2) (pa_cons (pv 4) pa_nil))))))
        (pss_one (ps_if (pt_cmpR op_notNN (pv 6) pe_non (nomark _))
          (pss_one (ps_expr (pe_bm PySem.F.plainAttrs_list PySem.F.slot_list_append PySem.F.type_list_append mt_append (pv 3) (pa_cons (pv 6) pa_nil))))
          pss_nil)))
        pss_nil)))
    (pss_one (ps_ret (pv 3))))), ?_⟩
  rintro ss r ⟨g, W, c, sel, hc, rfl, rfl⟩
  show Sx K T _ [some (.sh (.wts W)), some (.sh (.tup (c.map Lit.d))), some (.sh (selD sel)), none, none, none, none] _
  refine sx_seq (sx_set (ev_lst (ds := []) ea_nil) ?_)
  refine sx_seq (sx_for (ei_enumT (ev_var rfl rfl)) (fun i δ => ∃ o1 o2 o3, noScr [o3] = true ∧ δ = [some (.sh (.wts W)), some (.sh (.tup (c.map Lit.d))), some (.sh (selD sel)), some (.own ((((c.take i).mapIdx fun k y => if y.p then none else resAt W c sel k y).filterMap id).map (Conc.d CConclusion.C))), o1, o2, o3]) ⟨none, none, none, rfl, rfl⟩ ?_ ?_)
  · rintro i d δ' hi ⟨o1, o2, o3, hsc, rfl⟩
    obtain ⟨y, hy, rfl⟩ := enu_in hi
    have hfm := fm_take (fun k y => if y.p then none else resAt W c sel k y) c i y hy
    have hlen := fm_len (fun k y => if y.p then none else resAt W c sel k y) (c.take i)
    generalize hpre : ((c.take i).mapIdx fun k y => if y.p then none else resAt W c sel k y).filterMap id = pre at hfm hlen ⊢
    refine ⟨_, _, tg_tup (tg_cons tg_name (tg_cons tg_name tg_nil)), ?_⟩
    show Sx K T _ [some (.sh (.wts W)), some (.sh (.tup (c.map Lit.d))), some (.sh (selD sel)), some (.own (pre.map (Conc.d CConclusion.C))), some (.sh (.int (i : Nat))), some (.sh (.tup [.bl y.p, y.l.d, y.r.d])), o3] _
    refine sx_if (et_not (et_tru (ev_ixT (ev_var rfl rfl) ev_int rfl) rfl)) (fun h => ?_) fun h => sx_next ?_
    · have hp : y.p = false := by simpa using h
      refine sx_seq (sx_set (ev_call (ea_cons (ev_var rfl rfl) (ea_cons (ev_var rfl rfl) (ea_cons (ev_var rfl rfl) (ea_cons (ev_var rfl rfl) ea_nil)))) ⟨g, W, c, sel, i, y, hc, hy, rfl, rfl⟩) ?_ (by cases resAt W c sel i y <;> rfl))
      rw [if_neg (by rw [hp]; exact Bool.false_ne_true)] at hfm
      cases hres : resAt W c sel i y with
      | none =>
        rw [hres] at hfm
        refine sx_if (b := false) (et_test (ev_notN (b := true) (ev_var rfl rfl) rfl)) (fun h => nomatch h) fun _ => sx_next ?_
        refine ⟨some (.sh (.int (i : Nat))), some (.sh y.d), some (.sh .non), rfl, ?_⟩
        rw [hfm, Option.toList_none, List.append_nil]
        rfl
      | some x =>
        rw [hres] at hfm
        refine sx_if (b := true) (et_test (ev_notN (b := false) (ev_var rfl rfl) rfl)) (fun _ => ?_) fun h => nomatch h
        refine sx_append rfl (ev_var rfl rfl) (by
          rw [List.length_map]
          rw [List.length_take] at hlen
          have := hc.len
          omega) ?_
        refine ⟨some (.sh (.int (i : Nat))), some (.sh y.d), some (.sh (x.d CConclusion.C)), rfl, ?_⟩
        rw [hfm, Option.toList_some, List.map_append]
        rfl
    · have hp : y.p = true := by simpa using h
      rw [if_pos hp] at hfm
      refine ⟨some (.sh (.int (i : Nat))), some (.sh y.d), o3, hsc, ?_⟩
      rw [hfm, Option.toList_none, List.append_nil]
      rfl
  · rintro δ' ⟨o1, o2, o3, _, rfl⟩
    refine sx_retOwn ?_ rfl
    rw [enu_len, List.length_map, List.take_length]
    rfl
theorem set_cut (c : Cl) (k : Nat) (x : Lit) (h : k < c.length) : cut (c.map Lit.d) none (some (k : Int)) ++ [x.d] ++ cut (c.map Lit.d) (some ((k : Int) + 1)) none = (c.set k x).map Lit.d := by
  rw [cut_to (c.map Lit.d) k (by rw [List.length_map]; omega), show ((k : Int) + 1) = ((k + 1 : Nat) : Int) by omega, cut_from (c.map Lit.d) (k + 1) (by rw [List.length_map]; omega), List.set_eq_take_append_cons_drop, if_pos h, List.map_append, List.map_cons, List.map_take, List.map_drop]
  simp
def R_factoring : List Sl → Sl → Prop := fun ss r => ∃ (g : Prop) (W : Wts) (c : Cl) (k s j t : Nat) (y z : Lit), Cg g c ∧ c[k]? = some y ∧ c[j]? = some z ∧ s ≤ 1 ∧ t ≤ 1 ∧ ss = [.sh (.wts W), .sh c.d, .sh (.int k), .sh (.int s), .sh (.int j), .sh (.int t)] ∧ r = conS CConclusion.C (facAt W c k s j t y z)
theorem side_ok {g : Prop} {c : Cl} (hc : Cg g c) {y : Lit} (hy : y ∈ c) {s : Nat} (hs : s ≤ 1) : Tok 4 (y.side s) ∧ Md g (y.side s) := by
  rcases (show s = 0 ∨ s = 1 by omega) with rfl | rfl
  · exact ⟨(hc.ok y hy).1, (hc.md y hy).1⟩
  · exact ⟨(hc.ok y hy).2, (hc.md y hy).2⟩
theorem ok_factoring : Ok P w base T 104 E.f_factoring ["weights", "c", "k", "s", "j", "t"] (R_factoring CConclusion) := by
  have G_side := ok_side (P := P) (w := w) (base := base) (T := T) E
  have G_is_atom := ok_is_atom (P := P) (w := w) (base := base) (T := T) E
  have G_unify := ok_unify (P := P) (w := w) (base := base) (T := T) E
  have G_may_act := ok_may_act (P := P) (w := w) (base := base) (T := T) E L (n := 4) (D := 18) (by omega) (by omega)
  have G_may_lead := ok_may_lead (P := P) (w := w) (base := base) (T := T) E L (n := 4) (D := 18) (by omega) (by omega)
  have G_put_clause := ok_put_clause (P := P) (w := w) (base := base) (T := T) E 4
  have G_became := ok_became (P := P) (w := w) (base := base) (T := T) E 4
  have G_conclude := ok_conclude (P := P) (w := w) (base := base) (T := T) E CConclusion 22
  refine fn_R E.f_factoring.F sc_factoring (fun ss s ⟨_, _, _, _, _, _, _, _, _, _, _, _, _, _, e, _⟩ => by rw [e]; rfl) fun cdv A outer s H _ hr => ⟨_, (pss_cons (ps_set (i := 6) sc_factoring.nd rfl (by first | exact Or.inl rfl | exact Or.inr rfl) (pe_call G_side (hr.mono (by omega)) (by rfl) E.f_side.g E.f_side.F.kp (b_side E) .nil pass0 (pa_cons (pe_ix (kIx K) (pv 1) (pv 2) (fun _ _ => rfl)) (pa_cons (pv 3) pa_nil))))
    (pss_cons (ps_set (i := 7) sc_factoring.nd rfl (by first | exact Or.inl rfl | exact Or.inr rfl) (pe_call G_side (hr.mono (by omega)) (by rfl) E.f_side.g E.f_side.F.kp (b_side E) .nil pass0 (pa_cons (pe_ix (kIx K) (pv 1) (pv 4) (fun _ _ => rfl)) (pa_cons (pv 5) pa_nil))))
    (pss_cons (ps_if (pt_cmpR (kNe K hr.units) (pe_call G_is_atom (hr.mono (by omega)) (by rfl) E.f_is_atom.g E.f_is_atom.F.kp (b_is_atom E) .nil pass0 (pa_cons (pv 6) pa_nil)) (pe_call G_is_atom (hr.mono (by omega)) (by rfl) E.f_is_atom.g E.f_is_atom.F.kp (b_is_atom E) .nil pass0 (pa_cons (pv 7) pa_nil)) (nomark _))
      (pss_one (ps_ret pe_non))
      pss_nil)
    (pss_cons (ps_set (i := 8) sc_factoring.nd rfl (by first | exact Or.inl rfl | exact Or.inr rfl) (pe_call G_unify (hr.mono (by omega)) (by rfl) E.f_unify.g E.f_unify.F.kp (b_unify E) .nil pass0 (pa_cons (pe_lst (pa_cons (pe_tup (pa_cons (pv 6) (pa_cons (pv 7) pa_nil))) pa_nil)) pa_nil)))
    (pss_cons (ps_if ((pw_or (pt_cmpR op_isNN (pv 8) pe_non (nomark _)) (pw_or (pt_not (kTru K (pe_call G_may_act (hr.mono (by omega)) (by rfl) E.f_may_act.g E.f_may_act.F.kp (b_may_act E) .nil pass0 (pa_cons (pv 0) (pa_cons (pv 1) (pa_cons pe_non (pa_cons (pv 2) (pa_cons (pv 8) pa_nil)))))) (fun _ => rfl))) (pw_or1 (pt_not (kTru K (pe_call G_may_lead (hr.mono (by omega)) (by rfl) E.f_may_lead.g E.f_may_lead.F.kp (b_may_lead E) .nil pass0 (pa_cons (pv 0) (pa_cons (pe_ix (kIx K) (pv 1) (pv 2) (fun _ _ => rfl)) (pa_cons (pv 3) (pa_cons (pv 8) pa_nil))))) (fun _ => rfl)))))).pt)
      (pss_one (ps_ret pe_non))
      pss_nil)
    (pss_cons (ps_set (i := 9) sc_factoring.nd rfl (by first | exact Or.inl rfl | exact Or.inr rfl) (pe_tup (pa_cons pe_bl (pa_cons (pe_call G_side (hr.mono (by omega)) (by rfl) E.f_side.g E.f_side.F.kp (b_side E) .nil pass0 (pa_cons (pe_ix (kIx K) (pv 1) (pv 2) (fun _ _ => rfl)) (pa_cons (pe_op op_sub pe_int (pv 3)) pa_nil))) (pa_cons (pe_call G_side (hr.mono (by omega)) (by rfl) E.f_side.g E.f_side.F.kp (b_side E) .nil pass0 (pa_cons (pe_ix (kIx K) (pv 1) (pv 4) (fun _ _ => rfl)) (pa_cons (pe_op op_sub pe_int (pv 5)) pa_nil))) pa_nil)))))
    (pss_cons (ps_set (i := 10) sc_factoring.nd rfl (by first | exact Or.inl rfl | exact Or.inr rfl) (pe_call G_put_clause (hr.mono (by omega)) (by rfl) E.f_put_clause.g E.f_put_clause.F.kp (b_put_clause E) .nil pass0 (pa_cons (pe_op (kAdd K) (pe_op (kAdd K) (pe_slice (kSl K) (pv 1) po_none (po_some (pv 2))) (pe_tup (pa_cons (pv 9) pa_nil))) (pe_slice (kSl K) (pv 1) (po_some (pe_op (kAdd K) (pv 2) pe_int)) po_none)) (pa_cons (pv 8) pa_nil))))
    (pss_one (ps_ret (pe_call G_conclude (hr.mono (by omega)) (by rfl) E.f_conclude.g E.f_conclude.F.kp (b_conclude E) .nil pass0 (pa_cons pe_str (pa_cons (pv 10) (pa_cons (pv 2) (pa_cons (pv 3) (pa_cons pe_non (pa_cons (pv 4) (pa_cons (pv 5) (pa_cons (pe_call G_became (hr.mono (by omega)) (by rfl) E.f_became.g E.f_became.F.kp (b_became E) .nil pass0 (pa_cons (pv 1) (pa_cons (pv 8) (pa_cons pe_int pa_nil)))) (pa_cons pe_dnewK pa_nil))))))))))))))))))), ?_⟩
  rintro ss r ⟨g, W, c, k, s, j, t, y, z, hc, hk, hj, hs, ht, rfl, rfl⟩
  show Sx K T _ [some (.sh (.wts W)), some (.sh (.tup (c.map Lit.d))), some (.sh (.int k)), some (.sh (.int s)), some (.sh (.int j)), some (.sh (.int t)), none, none, none, none, none] _
  have hy := List.mem_of_getElem? hk
  have hz := List.mem_of_getElem? hj
  have ys := side_ok E L hc hy hs
  have zt := side_ok E L hc hz ht
  have ek : ∀ a b d e f, Ev K T (tOp (rIx K) (tVar 1) (tVar 2)) [some (.sh (.wts W)), some (.sh (.tup (c.map Lit.d))), some (.sh (.int k)), some (.sh (.int s)), some (.sh (.int j)), some (.sh (.int t)), a, b, d, e, f] (.sh y.d) := fun _ _ _ _ _ => ev_ixT (ev_var rfl rfl) (ev_var rfl rfl) (atI_n (map_at hk))
  have ej : ∀ a b d e f, Ev K T (tOp (rIx K) (tVar 1) (tVar 4)) [some (.sh (.wts W)), some (.sh (.tup (c.map Lit.d))), some (.sh (.int k)), some (.sh (.int s)), some (.sh (.int j)), some (.sh (.int t)), a, b, d, e, f] (.sh z.d) := fun _ _ _ _ _ => ev_ixT (ev_var rfl rfl) (ev_var rfl rfl) (atI_n (map_at hj))
  refine sx_seq (sx_set (ev_call (ea_cons (ek _ _ _ _ _) (ea_cons (ev_var rfl rfl) ea_nil)) ⟨y, s, hs, rfl, rfl⟩) ?_)
  refine sx_seq (sx_set (ev_call (ea_cons (ej _ _ _ _ _) (ea_cons (ev_var rfl rfl) ea_nil)) ⟨z, t, ht, rfl, rfl⟩) ?_)
  show Sx K T _ [some (.sh (.wts W)), some (.sh (.tup (c.map Lit.d))), some (.sh (.int k)), some (.sh (.int s)), some (.sh (.int j)), some (.sh (.int t)), some (.sh (y.side s).d), some (.sh (z.side t).d), none, none, none] _
  refine sx_seq (sx_if (et_test (ev_neB (ev_call (ea_cons (ev_var rfl rfl) ea_nil) ⟨y.side s, rfl, rfl⟩) (ev_call (ea_cons (ev_var rfl rfl) ea_nil) ⟨z.side t, rfl, rfl⟩))) (fun h => ?_) fun h => sx_next ?_)
  · refine sx_ret ev_non ?_
    show Sl.sh .non = conS CConclusion.C (facAt W c k s j t y z)
    unfold facAt
    rw [if_pos (not_dec_t h)]
    rfl
  · have hat : ¬ (y.side s).isAtom ≠ (z.side t).isAtom := fun q => q (not_dec_f h)
    unfold facAt
    rw [if_neg hat]
    obtain ⟨m, hm⟩ := mgu_run ys.1 zt.1 ys.2 zt.2
    have htk := fun τ => mgu_tok (τ := τ) ys.1 zt.1 ys.2 zt.2
    refine sx_seq (sx_set (ev_call (ea_cons ((ev_lst (ds := [prD (y.side s, z.side t)]) (ea_cons (ev_tup (ds := [(y.side s).d, (z.side t).d]) (ea_cons (ev_var rfl rfl) (ea_cons (ev_var rfl rfl) ea_nil))) ea_nil)).shared) ea_nil) ⟨[(y.side s, z.side t)], m, _, _, mgu (y.side s) (z.side t), hm, uinv0 ys.1 zt.1 ys.2 zt.2, rfl, rfl⟩) ?_ (by cases mgu (y.side s) (z.side t) <;> rfl))
    cases hmg : mgu (y.side s) (z.side t) with
    | none =>
      show Sx K T _ [some (.sh (.wts W)), some (.sh (.tup (c.map Lit.d))), some (.sh (.int k)), some (.sh (.int s)), some (.sh (.int j)), some (.sh (.int t)), some (.sh (y.side s).d), some (.sh (z.side t).d), some (.sh .non), none, none] _
      refine sx_seq (sx_if (b := true) (et_or (b := true) (c := true) (et_test (ev_isN (ev_var rfl rfl) rfl)) fun h => nomatch h) (fun _ => ?_) fun h => nomatch h)
      exact sx_ret ev_non rfl
    | some τ =>
      have hτ := htk τ hmg
      have hcp : Cok 18 (putCl τ c) := cok_put hτ hc.cok
      show Sx K T _ [some (.sh (.wts W)), some (.sh (.tup (c.map Lit.d))), some (.sh (.int k)), some (.sh (.int s)), some (.sh (.int j)), some (.sh (.int t)), some (.sh (y.side s).d), some (.sh (z.side t).d), some (.ownD (Sub.d τ)), none, none] _
      refine sx_seq (sx_if (b := !mayAct W c none k y τ || !mayLead W y s τ) (et_or (b := false) (et_test (ev_isN (ev_ownD rfl) rfl)) fun _ => et_or (et_not (et_tru (ev_call (ea_cons (ev_var rfl rfl) (ea_cons (ev_var rfl rfl) (ea_cons ev_non (ea_cons (ev_var rfl rfl) (ea_cons (ev_ownD rfl) ea_nil))))) ⟨W, c, none, k, y, τ, by have := hc.len; omega, fun x hx => (hc.ok x hx).tn, hcp, hk, rfl, rfl⟩) rfl))
        fun _ => et_not (et_tru (ev_call (ea_cons (ev_var rfl rfl) (ea_cons (ek _ _ _ _ _) (ea_cons (ev_var rfl rfl) (ea_cons (ev_ownD rfl) ea_nil)))) ⟨W, y, s, τ, hs, (hc.ok y hy).tn, hcp.2 _ (List.mem_map.mpr ⟨y, hy, rfl⟩), rfl, rfl⟩) rfl)) (fun h => ?_) fun h => sx_next ?_)
      · have h : ¬ (mayAct W c none k y τ = true ∧ mayLead W y s τ = true) := by
          rintro ⟨h1, h2⟩
          rw [h1, h2] at h
          cases h
        refine sx_ret ev_non ?_
        show Sl.sh .non = conS CConclusion.C (if mayAct W c none k y τ = true ∧ mayLead W y s τ = true then _ else none)
        rw [if_neg h]
        rfl
      · have h : mayAct W c none k y τ = true ∧ mayLead W y s τ = true := by
          simpa using h
        have hlt : k < c.length := (List.getElem?_eq_some_iff.mp hk).1
        have hlen := hc.len
        have ys' := side_ok E L hc hy (show 1 - s ≤ 1 by omega)
        have zt' := side_ok E L hc hz (show 1 - t ≤ 1 by omega)
        have cs1 : ((1 : Int) - (s : Int)) = ((1 - s : Nat) : Int) := by omega
        have ct1 : ((1 : Int) - (t : Int)) = ((1 - t : Nat) : Int) := by omega
        refine sx_seq (sx_set (ev_tup (ds := [.bl false, (y.side (1 - s)).d, (z.side (1 - t)).d]) (ea_cons ev_bl (ea_cons (ev_call (ea_cons (ek _ _ _ _ _) (ea_cons ((ev_sub ev_int (ev_var rfl rfl)).of_eq (s' := .sh (.int ((1 - s : Nat) : Int))) (by rw [cs1])) ea_nil)) ⟨y, 1 - s, by omega, rfl, rfl⟩)
          (ea_cons (ev_call (ea_cons (ej _ _ _ _ _) (ea_cons ((ev_sub ev_int (ev_var rfl rfl)).of_eq (s' := .sh (.int ((1 - t : Nat) : Int))) (by rw [ct1])) ea_nil)) ⟨z, 1 - t, by omega, rfl, rfl⟩) ea_nil)))) ?_)
        have hset : ∀ x ∈ c.set k ⟨false, y.side (1 - s), z.side (1 - t)⟩, Lok 4 x := fun x hx => by
          rcases List.mem_or_eq_of_mem_set hx with hx | rfl
          · exact hc.ok x hx
          · exact ⟨ys'.1, zt'.1⟩
        have hre : Cok 18 (putCl τ (c.set k ⟨false, y.side (1 - s), z.side (1 - t)⟩)) := cok_put hτ (n := 4) ⟨by rw [List.length_set]; omega, hset⟩
        have l1 : (cut (c.map Lit.d) none (some (k : Int))).length ≤ 4 := by rw [cut_to _ _ (by rw [List.length_map]; omega), List.length_take, List.length_map]; omega
        have l2 : (cut (c.map Lit.d) (some ((k : Int) + 1)) none).length ≤ 4 := by rw [show ((k : Int) + 1) = ((k + 1 : Nat) : Int) by omega, cut_from _ _ (by rw [List.length_map]; omega), List.length_drop, List.length_map]; omega
        show Sx K T _ [some (.sh (.wts W)), some (.sh (.tup (c.map Lit.d))), some (.sh (.int k)), some (.sh (.int s)), some (.sh (.int j)), some (.sh (.int t)), some (.sh (y.side s).d), some (.sh (z.side t).d), some (.ownD (Sub.d τ)), some (.sh (Lit.d ⟨false, y.side (1 - s), z.side (1 - t)⟩)), none] _
        refine sx_seq (sx_set (ev_call (ea_cons ((ev_catT (ev_catT (ev_slT (ev_var rfl rfl) eo_none (eo_some (ev_var rfl rfl))) (ev_tup (ds := [Lit.d ⟨false, y.side (1 - s), z.side (1 - t)⟩]) (ea_cons (ev_var rfl rfl) ea_nil)) (by simp; omega)) (ev_slT (ev_var rfl rfl) (eo_some (ev_add (ev_var rfl rfl) ev_int)) eo_none) (by simp only [List.length_append, List.length_singleton]; omega)).of_eq (s' := .sh (Cl.d (c.set k ⟨false, y.side (1 - s), z.side (1 - t)⟩))) (by
            rw [set_cut E L c k _ hlt]; rfl)) (ea_cons (ev_ownD rfl) ea_nil)) ⟨c.set k ⟨false, y.side (1 - s), z.side (1 - t)⟩, τ, by rw [List.length_set]; omega, fun x hx => (hset x hx).tn, rfl, rfl⟩) ?_)
        refine sx_ret (ev_call (ea_cons ev_str (ea_cons (ev_var rfl rfl) (ea_cons (ev_var rfl rfl) (ea_cons (ev_var rfl rfl) (ea_cons ev_non (ea_cons (ev_var rfl rfl) (ea_cons (ev_var rfl rfl) (ea_cons ((ev_call (ea_cons (ev_var rfl rfl) (ea_cons (ev_ownD rfl) (ea_cons ev_int ea_nil))) ⟨c, τ, 0, hc.cok, rfl, rfl⟩).toX) (ea_cons (ev_dnew.toX) ea_nil)))))))))
          ⟨"factoring", putCl τ (c.set k ⟨false, y.side (1 - s), z.side (1 - t)⟩), .int k, .int s, .non, .int j, .int t, becS τ 0 c, [], hre.mono (by omega), sok_bec hτ hc.cok (fun x hx => by rw [Int.add_zero]; exact clVars_ok hc.cok x hx), sok_nil, rfl, rfl⟩) ?_
        show _ = conS CConclusion.C (if mayAct W c none k y τ = true ∧ mayLead W y s τ = true then _ else none)
        rw [if_pos h]
        rfl
end
end
end G3
end

section
set_option Elab.async false
set_option linter.all false
set_option maxRecDepth 100000
set_option maxHeartbeats 1000000
namespace G3
open PySem PySem.Spec PyProof.Rows L2 LamX NdefX
noncomputable section
open scoped Classical
theorem mem_posL {c : Cl} {k : Nat} : k ∈ posL c ↔ ∃ y, c[k]? = some y ∧ y.p = true := by
  unfold posL
  simp only [List.mem_map, List.mem_filter, List.mem_mapIdx]
  constructor
  · rintro ⟨q, ⟨⟨i, hi, rfl⟩, h2⟩, rfl⟩
    exact ⟨c[i], by simp [hi], h2⟩
  · rintro ⟨y, h1, h2⟩
    have hk := (List.getElem?_eq_some_iff.mp h1).1
    have hy : c[k] = y := (List.getElem?_eq_some_iff.mp h1).2
    exact ⟨(k, y), ⟨⟨k, hk, by rw [hy]⟩, h2⟩, rfl⟩
theorem posL_len (c : Cl) : (posL c).length ≤ c.length := by
  unfold posL
  rw [List.length_map]
  refine Nat.le_trans (List.length_filter_le _ _) ?_
  rw [List.length_mapIdx]; exact Nat.le_refl _
theorem flatMap_len {α β : Type} (B : Nat) (f : α → List β) : ∀ (l : List α), (∀ x ∈ l, (f x).length ≤ B) → (l.flatMap f).length ≤ B * l.length
  | [], _ => by simp
  | x :: l, h => by
    have := flatMap_len B f l fun y hy => h y (List.mem_cons_of_mem _ hy)
    have h0 := h x List.mem_cons_self
    rw [List.flatMap_cons, List.length_append, List.length_cons, Nat.mul_succ]
    omega
theorem pairs_len (c : Cl) : (pairsL c).length ≤ 4 * c.length * c.length := by
  have hp := posL_len c
  have h1 : ∀ k s, ((posL c).flatMap fun j => if j = k then [] else [0, 1].flatMap fun t => [((k, s, j, t) : Quad)]).length ≤ 2 * c.length := fun k s => by
    refine Nat.le_trans (flatMap_len 2 _ _ fun j _ => ?_) (Nat.mul_le_mul_left 2 hp)
    split <;> simp
  unfold pairsL
  have h2 := flatMap_len (2 * c.length * 2) (fun k => [0, 1].flatMap fun s => (posL c).flatMap fun j => if j = k then [] else [0, 1].flatMap fun t => [((k, s, j, t) : Quad)]) (posL c) fun k _ => by
    have := flatMap_len (2 * c.length) (fun s => (posL c).flatMap fun j => if j = k then [] else [0, 1].flatMap fun t => [((k, s, j, t) : Quad)]) [0, 1] fun s _ => h1 k s
    simpa using this
  have h3 := Nat.mul_le_mul_left (2 * c.length * 2) hp
  have e : 2 * c.length * 2 * c.length = 4 * c.length * c.length := by rw [Nat.mul_comm (2 * c.length) 2, ← Nat.mul_assoc]
  omega
theorem flatMap_map {α β γ : Type} (f : α → List β) (g : β → γ) (l : List α) : (l.flatMap f).map g = l.flatMap fun x => (f x).map g := by
  induction l with
  | nil => rfl
  | cons x l ih => rw [List.flatMap_cons, List.map_append, ih, List.flatMap_cons]
theorem pairs_d (c : Cl) : (pairsL c).map qdD = (posL c).flatMap fun k => [0, 1].flatMap fun s => (posL c).flatMap fun j => if j = k then [] else [0, 1].flatMap fun t => [qdD (k, s, j, t)] := by
  unfold pairsL
  rw [flatMap_map]
  congr 1
  funext k
  rw [flatMap_map]
  congr 1
  funext s
  rw [flatMap_map]
  congr 1
  funext j
  split
  · rfl
  · rw [flatMap_map]; rfl
section
variable {P : Program} {w : World} {K : PySem.W.Frag} {mg : Str → Option Value} {base : Heap} {T : List NTab} (E : Txt K mg)
def R_pairs : List Sl → Sl → Prop := fun ss r => ∃ c : Cl, c.length ≤ 20 ∧ ss = [.sh c.d] ∧ r = .own ((pairsL c).map qdD)
theorem ok_pairs : Ok P w base T 1 E.f_pairs_of_sides ["c"] R_pairs := by
  refine fn_R E.f_pairs_of_sides.F sc_pairs_of_sides (fun ss s ⟨_, _, e, _⟩ => by rw [e]; rfl) fun cdv A outer s H _ hr => ⟨_, (pss_cons (ps_set (i := 1) sc_pairs_of_sides.nd rfl (by first | exact Or.inl rfl | exact Or.inr rfl) (pe_lc (own := [("k", 2), ("literal", 3)]) (by rfl) sc_pairs_of_sides.nd (kiEnumT K (by rfl) E.m_enumerate (pa_cons (pv 0) pa_nil)) (blkOk_by (own := [("k", 2), ("literal", 3)]) (N := ["c", "positive", "k", "literal", "s", "j", "t"]) (sc := (defScope s_pairs_of_sides)) (by decide +kernel)) (fun _ _ _ _ _ => (kgTup K (n := 2) rfl (pgs_cons (pg_name (i := 2) sc_pairs_of_sides.nd rfl (by first | exact Or.inl rfl | exact Or.inr rfl)) (pgs_cons (pg_name (i := 3) sc_pairs_of_sides.nd rfl (by first | exact Or.inl rfl | exact Or.inr rfl)) pgs_nil)))) (fun _ _ _ _ _ => (pts_one (kTru K (pe_ix (kIx K) (pv 3) pe_int (fun _ _ => rfl)) (fun _ => rfl)))) (fun _ _ _ _ _ => (pv 2))))
    (pss_one (ps_ret (pe_lcB (own := [("k", 2), ("s", 4), ("j", 5), ("t", 6)]) (by rfl) sc_pairs_of_sides.nd (kiList K (pv 1)) (blkOk_by (own := [("k", 2), ("s", 4), ("j", 5), ("t", 6)]) (N := ["c", "positive", "k", "literal", "s", "j", "t"]) (sc := (defScope s_pairs_of_sides)) (by decide +kernel)) (by decide) (fun _ _ _ _ _ => (pg_name (i := 2) sc_pairs_of_sides.nd rfl (by first | exact Or.inl rfl | exact Or.inr rfl))) (fun _ _ _ _ _ => pts_nil) (fun _ _ _ _ _ _ => (body_mid (fun _ => rfl) (inner_of (us := [4, 5, 6]) rfl rfl (fun _ => turn4_1) rfl (kiTup K (pe_tup (pa_cons pe_int (pa_cons pe_int pa_nil)))) (pg_name (i := 4) sc_pairs_of_sides.nd rfl (by first | exact Or.inl rfl | exact Or.inr rfl)) pts_nil (body_mid (fun _ => rfl) (inner_of (us := [5, 6]) rfl rfl (fun _ => turn4_2) rfl (kiList K (pv 1)) (pg_name (i := 5) sc_pairs_of_sides.nd rfl (by first | exact Or.inl rfl | exact Or.inr rfl)) (pts_one (pt_cmpR (kNe K hr.units) (pv 5) (pv 2) (nomark _))) (body_mid (fun _ => rfl) (inner_of (us := [6]) rfl rfl (fun _ => turn4_3) rfl (kiTup K (pe_tup (pa_cons pe_int (pa_cons pe_int pa_nil)))) (pg_name (i := 6) sc_pairs_of_sides.nd rfl (by first | exact Or.inl rfl | exact Or.inr rfl)) pts_nil (body_last rfl (pe_tup (pa_cons (pv 2) (pa_cons (pv 4) (pa_cons (pv 5) (pa_cons (pv 6) pa_nil)))))) (by decide))) (by decide))) (by decide)))) (fun _ _ _ => turn4_0))))), ?_⟩
  rintro ss r ⟨c, hc, rfl, rfl⟩
  show Sx K T _ [some (.sh (.tup (c.map Lit.d))), none, none, none, none, none, none] _
  have he : enu (c.map Lit.d) = (c.mapIdx fun k x => (k, x)).map fun q => Dat.tup [.int (q.1 : Nat), q.2.d] := by
    unfold enu
    apply List.ext_getElem?
    intro i
    simp only [List.getElem?_mapIdx, List.getElem?_map]
    cases c[i]? <;> rfl
  have hp : ((c.mapIdx fun k x => (k, x)).filter fun q => q.2.p).map (fun q => Dat.int (q.1 : Nat)) = (posL c).map fun k => Dat.int (k : Nat) := by
    unfold posL; rw [List.map_map]; rfl
  refine sx_seq (sx_set ((ev_lcF (c.mapIdx fun k x => (k, x)) (fun q => Dat.tup [.int (q.1 : Nat), q.2.d]) (fun q => Dat.int (q.1 : Nat)) (fun q => q.2.p) (he ▸ ei_enumT (ev_var (i := 0) rfl rfl)) (by rw [List.length_mapIdx]; omega) fun q _ => ⟨_, _, tg_tup (ds := [.int (q.1 : Nat), .tup [.bl q.2.p, q.2.l.d, q.2.r.d]]) (tg_cons tg_name (tg_cons tg_name tg_nil)), by simp, et_tru (ev_ixT (ev_var rfl rfl) ev_int rfl) rfl, fun _ => ev_var rfl rfl⟩).of_eq (by rw [hp])) ?_)
  refine sx_freeze (i := 1) (ds := (posL c).map fun k => Dat.int (k : Nat)) rfl ?_
  have hpl := posL_len c
  have hlen : (pairsL c).length ≤ 1600 := by
    have h1 := pairs_len c
    have h2 : 4 * c.length * c.length ≤ 4 * 20 * 20 := Nat.mul_le_mul (Nat.mul_le_mul_left 4 hc) hc
    omega
  rw [pairs_d]
  refine sx_ret (ev_lcBM [1] (posL c) (fun k => Dat.int (k : Nat)) _ (ei_var (i := 1) rfl) (by rw [← pairs_d, List.length_map]; omega) (by decide) (fun D k _ => ?_) (fun i hi => by
    have : i = 1 := by simpa using hi
    subst this
    exact ⟨_, rfl, rfl⟩)) rfl
  refine ⟨_, _, true, tg_name, by decide, et_yes, fun _ => ?_, fun z => nomatch z⟩
  show EvB K T _ D [1] [some (.sh (.tup (c.map Lit.d))), some (.lst ((posL c).map fun k => Dat.int (k : Nat))), some (.sh (.int (k : Nat))), none, none, none, none] _
  refine eb_loopM [0, 1] (fun s => Dat.int (s : Nat)) _ (eib_tup (ev_tup (ds := [.int ((0 : Nat) : Int), .int ((1 : Nat) : Int)]) (ea_cons ev_int (ea_cons ev_int ea_nil)))) (by decide) fun s _ => ⟨_, _, true, tg_name, by decide, et_yes, fun _ => ?_, fun z => nomatch z⟩
  show EvB K T _ D [1] [some (.sh (.tup (c.map Lit.d))), some (.lst ((posL c).map fun k => Dat.int (k : Nat))), some (.sh (.int (k : Nat))), none, some (.sh (.int (s : Nat))), none, none] _
  refine eb_loopM (posL c) (fun k => Dat.int (k : Nat)) _ (eib_var (i := 1) rfl (by decide)) (by decide) fun j _ => ⟨_, _, !decide ((j : Int) = k), tg_name, by decide, et_test (ev_neI (ev_var rfl rfl) (ev_var rfl rfl)), fun h => ?_, fun h => ?_⟩
  · have hjk : ¬ j = k := fun z => not_dec_t h (by rw [z])
    rw [if_neg hjk]
    show EvB K T _ D [1] [some (.sh (.tup (c.map Lit.d))), some (.lst ((posL c).map fun k => Dat.int (k : Nat))), some (.sh (.int (k : Nat))), none, some (.sh (.int (s : Nat))), some (.sh (.int (j : Nat))), none] _
    refine eb_loopM [0, 1] (fun s => Dat.int (s : Nat)) _ (eib_tup (ev_tup (ds := [.int ((0 : Nat) : Int), .int ((1 : Nat) : Int)]) (ea_cons ev_int (ea_cons ev_int ea_nil)))) (by decide) fun t _ => ⟨_, _, true, tg_name, by decide, et_yes, fun _ => ?_, fun z => nomatch z⟩
    show EvB K T _ D [1] [some (.sh (.tup (c.map Lit.d))), some (.lst ((posL c).map fun k => Dat.int (k : Nat))), some (.sh (.int (k : Nat))), none, some (.sh (.int (s : Nat))), some (.sh (.int (j : Nat))), some (.sh (.int (t : Nat)))] _
    exact eb_last (ev_tup (ds := [.int (k : Nat), .int (s : Nat), .int (j : Nat), .int (t : Nat)]) (ea_cons (ev_var rfl rfl) (ea_cons (ev_var rfl rfl) (ea_cons (ev_var rfl rfl) (ea_cons (ev_var rfl rfl) ea_nil)))))
  · have hjk : j = k := by have := not_dec_f h; omega
    rw [if_pos hjk]
theorem quad_in {c : Cl} {q : Quad} (h : q ∈ pairsL c) : ∃ y z, c[q.1]? = some y ∧ c[q.2.2.1]? = some z ∧ y.p = true ∧ z.p = true ∧ q.2.1 ≤ 1 ∧ q.2.2.2 ≤ 1 ∧ q.2.2.1 ≠ q.1 := by
  unfold pairsL at h
  simp only [List.mem_flatMap] at h
  obtain ⟨k, hk, s, hs, j, hj, h⟩ := h
  split at h
  · cases h
  · rename_i hjk
    simp only [List.mem_flatMap, List.mem_singleton] at h
    obtain ⟨t, ht, rfl⟩ := h
    obtain ⟨y, h1, h2⟩ := mem_posL.mp hk
    obtain ⟨z, h3, h4⟩ := mem_posL.mp hj
    have hs' : s = 0 ∨ s = 1 := by simpa using hs
    have ht' : t = 0 ∨ t = 1 := by simpa using ht
    exact ⟨y, z, h1, h3, h2, h4, by show s ≤ 1; omega, by show t ≤ 1; omega, hjk⟩
variable (L : LamAt E base T) (CConclusion : ClC K mg)
include L
def R_factorings : List Sl → Sl → Prop := fun ss r => ∃ (g : Prop) (W : Wts) (c : Cl) (sel : Option Nat), Cg g c ∧ ss = [.sh (.wts W), .sh c.d, .sh (selD sel)] ∧ r = .own ((facL W c sel).map (Conc.d CConclusion.C))
theorem ok_factorings : Ok P w base T 105 E.f_factorings ["weights", "c", "selected"] (R_factorings CConclusion) := by
  have G_factoring := ok_factoring (P := P) (w := w) (base := base) (T := T) E L CConclusion
  have G_pairs_of_sides := ok_pairs (P := P) (w := w) (base := base) (T := T) E
  refine fn_R E.f_factorings.F sc_factorings (fun ss s ⟨_, _, _, _, _, e, _⟩ => by rw [e]; rfl) fun cdv A outer s H _ hr => ⟨_, (pss_cons (ps_set (i := 3) sc_factorings.nd rfl (by first | exact Or.inl rfl | exact Or.inr rfl) (pe_lst pa_nil))
    (pss_cons (ps_if (pt_cmpR op_isNN (pv 2) pe_non (nomark _))
      (pss_one (ps_for PassesOwn.never rfl (kiList K (pe_call G_pairs_of_sides (hr.mono (by omega)) (by rfl) E.f_pairs_of_sides.g E.f_pairs_of_sides.F.kp (b_pairs_of_sides E) .nil pass0 (pa_cons (pv 1) pa_nil))) (kgTup K (n := 4) rfl (pgs_cons (pg_name (i := 4) sc_factorings.nd rfl (by first | exact Or.inl rfl | exact Or.inr rfl)) (pgs_cons (pg_name (i := 5) sc_factorings.nd rfl (by first | exact Or.inl rfl | exact Or.inr rfl)) (pgs_cons (pg_name (i := 6) sc_factorings.nd rfl (by first | exact Or.inl rfl | exact Or.inr rfl)) (pgs_cons (pg_name (i := 7) sc_factorings.nd rfl (by first | exact Or.inl rfl | exact Or.inr rfl)) pgs_nil)))))
        (pss_cons (ps_set (i := 8) sc_factorings.nd rfl (by first | exact Or.inl rfl | exact Or.inr rfl) (pe_call G_factoring (hr.mono (by omega)) (by rfl) E.f_factoring.g E.f_factoring.F.kp (b_factoring E) .nil pass0 (pa_cons (pv 0) (pa_cons (pv 1) (pa_cons (pv 4) (pa_cons (pv 5) (pa_cons (pv 6) (pa_cons (pv 7) pa_nil))))))))
        (pss_one (ps_if (pt_cmpR op_notNN (pv 8) pe_non (nomark _))
          (pss_one (ps_expr (pe_bm PySem.F.plainAttrs_list PySem.F.slot_list_append PySem.F.type_list_append mt_append (pv 3) (pa_cons (pv 8) pa_nil))))
          pss_nil)))))
      pss_nil)
    (pss_one (ps_ret (pv 3))))), ?_⟩
  rintro ss r ⟨g, W, c, sel, hc, rfl, rfl⟩
  show Sx K T _ [some (.sh (.wts W)), some (.sh (.tup (c.map Lit.d))), some (.sh (selD sel)), none, none, none, none, none, none] _
  refine sx_seq (sx_set (ev_lst (ds := []) ea_nil) ?_)
  cases sel with
  | some j =>
    refine sx_seq (sx_if (b := false) (et_test (ev_isN (ev_var rfl rfl) rfl)) (fun h => nomatch h) fun _ => sx_next ?_)
    exact sx_retOwn rfl rfl
  | none =>
    refine sx_seq (sx_if (b := true) (et_test (ev_isN (ev_var rfl rfl) rfl)) (fun _ => ?_) fun h => nomatch h)
    have hpl : (pairsL c).length ≤ 64 := by
      have h1 := pairs_len c
      have h2 : 4 * c.length * c.length ≤ 4 * 4 * 4 := Nat.mul_le_mul (Nat.mul_le_mul_left 4 hc.len) hc.len
      omega
    refine sx_for (ei_new (ev_call (ea_cons (ev_var rfl rfl) ea_nil) ⟨c, by have := hc.len; omega, rfl, rfl⟩)) (fun i δ => ∃ o1 o2 o3 o4 o5, noScr [o5] = true ∧ δ = [some (.sh (.wts W)), some (.sh (.tup (c.map Lit.d))), some (.sh .non), some (.own (((((pairsL c).take i).mapIdx fun _ q => facQ W c q).filterMap id).map (Conc.d CConclusion.C))), o1, o2, o3, o4, o5]) ⟨none, none, none, none, none, rfl, rfl⟩ ?_ ?_
    · rintro i d δ' hi ⟨o1, o2, o3, o4, o5, hsc, rfl⟩
      obtain ⟨⟨k, s, j, t⟩, hq, rfl⟩ := at_map hi
      obtain ⟨y, z, h1, h2, h3, h4, h5, h6, h7⟩ := quad_in (List.mem_of_getElem? hq)
      have h1 : c[k]? = some y := h1
      have h2 : c[j]? = some z := h2
      have hfm := fm_take (fun _ q => facQ W c q) (pairsL c) i _ hq
      have hlen := fm_len (fun _ q => facQ W c q) ((pairsL c).take i)
      have hfq : facQ W c (k, s, j, t) = facAt W c k s j t y z := by
        unfold facQ
        dsimp only
        rw [h1, h2]
      rw [hfq] at hfm
      generalize hpre : (((pairsL c).take i).mapIdx fun _ q => facQ W c q).filterMap id = pre at hfm hlen ⊢
      refine ⟨_, _, tg_tup (ds := [.int (k : Nat), .int (s : Nat), .int (j : Nat), .int (t : Nat)]) (tg_cons tg_name (tg_cons tg_name (tg_cons tg_name (tg_cons tg_name tg_nil)))), ?_⟩
      show Sx K T _ [some (.sh (.wts W)), some (.sh (.tup (c.map Lit.d))), some (.sh .non), some (.own (pre.map (Conc.d CConclusion.C))), some (.sh (.int (k : Nat))), some (.sh (.int (s : Nat))), some (.sh (.int (j : Nat))), some (.sh (.int (t : Nat))), o5] _
      refine sx_seq (sx_set (ev_call (ea_cons (ev_var rfl rfl) (ea_cons (ev_var rfl rfl) (ea_cons (ev_var rfl rfl) (ea_cons (ev_var rfl rfl) (ea_cons (ev_var rfl rfl) (ea_cons (ev_var rfl rfl) ea_nil)))))) ⟨g, W, c, k, s, j, t, y, z, hc, h1, h2, h5, h6, rfl, rfl⟩) ?_ (by cases facAt W c k s j t y z <;> rfl))
      cases hres : facAt W c k s j t y z with
      | none =>
        rw [hres] at hfm
        refine sx_if (b := false) (et_test (ev_notN (b := true) (ev_var rfl rfl) rfl)) (fun h => nomatch h) fun _ => sx_next ?_
        refine ⟨some (.sh (.int (k : Nat))), some (.sh (.int (s : Nat))), some (.sh (.int (j : Nat))), some (.sh (.int (t : Nat))), some (.sh .non), rfl, ?_⟩
        rw [hfm, Option.toList_none, List.append_nil]
        rfl
      | some x =>
        rw [hres] at hfm
        refine sx_if (b := true) (et_test (ev_notN (b := false) (ev_var rfl rfl) rfl)) (fun _ => ?_) fun h => nomatch h
        refine sx_append rfl (ev_var rfl rfl) (by
          rw [List.length_map]
          rw [List.length_take] at hlen
          omega) ?_
        refine ⟨some (.sh (.int (k : Nat))), some (.sh (.int (s : Nat))), some (.sh (.int (j : Nat))), some (.sh (.int (t : Nat))), some (.sh (x.d CConclusion.C)), rfl, ?_⟩
        rw [hfm, Option.toList_some, List.map_append]
        rfl
    · rintro δ' ⟨o1, o2, o3, o4, o5, _, rfl⟩
      refine sx_retOwn ?_ rfl
      rw [List.length_map, List.take_length]
      rfl
end
end
end G3
end

section
set_option Elab.async false
set_option linter.all false
set_option maxRecDepth 100000
set_option maxHeartbeats 1000000
namespace G3
open PySem PySem.Spec PyProof.Rows L2 LamX NdefX
noncomputable section
open scoped Classical
/-! ### data without objects -/
mutual
def Dat.nobj : Dat → Bool
  | .tup l => nobjAll l
  | .obj _ _ => false
  | _ => true
def nobjAll : List Dat → Bool
  | [] => true
  | d :: r => d.nobj && nobjAll r
end
theorem nobjAll_iff : ∀ {l : List Dat}, nobjAll l = true ↔ ∀ d ∈ l, d.nobj = true
  | [] => by simp [nobjAll]
  | d :: r => by simp [nobjAll, nobjAll_iff (l := r)]
mutual
theorem Rp.mono1 {H H' : Hp} (e1 : ∀ a xs, H a = some (.tup xs) → H' a = some (.tup xs)) (e2 : ∀ a xs, H a = some (.dT xs) → H' a = some (.dT xs)) : ∀ (d : Dat) {v : V}, d.nobj = true → Rp H d v → Rp H' d v
  | .non, _, _, h => h
  | .bl _, _, _, h => h
  | .int _, _, _, h => h
  | .str _, _, _, h => h
  | .tup ds, _, n, h => by
    obtain ⟨a, xs, h1, h2, h3⟩ := h
    exact ⟨a, xs, h1, e1 _ _ h2, Rps.mono1 e1 e2 ds (by simpa [Dat.nobj] using n) h3⟩
  | .wts kvs, _, _, h => by
    obtain ⟨a, h1, h2⟩ := h
    exact ⟨a, h1, e2 _ _ h2⟩
  | .obj C fs, _, n, _ => by simp [Dat.nobj] at n
theorem Rps.mono1 {H H' : Hp} (e1 : ∀ a xs, H a = some (.tup xs) → H' a = some (.tup xs)) (e2 : ∀ a xs, H a = some (.dT xs) → H' a = some (.dT xs)) : ∀ (ds : List Dat) {xs : List V}, nobjAll ds = true → Rps H ds xs → Rps H' ds xs
  | [], _, _, h => h
  | d :: ds, _, n, h => by
    obtain ⟨x, r, h1, h2, h3⟩ := h
    simp only [nobjAll, Bool.and_eq_true] at n
    exact ⟨x, r, h1, Rp.mono1 e1 e2 d n.1 h2, Rps.mono1 e1 e2 ds n.2 h3⟩
end
theorem tm_nobj : ∀ t : Tm, t.d.nobj = true := by
  refine Tm.ind (fun n => by simp [d_v, Dat.nobj]) fun s l ih => ?_
  rw [d_ap]
  have : nobjAll (l.map Tm.d) = true := nobjAll_iff.mpr fun d hd => by
    obtain ⟨t, ht, rfl⟩ := List.mem_map.mp hd
    exact ih t ht
  simp [Dat.nobj, nobjAll, Sy.d, this]
theorem cl_nobj (c : Cl) : (Cl.d c).nobj = true := by
  unfold Cl.d
  have : nobjAll (c.map Lit.d) = true := nobjAll_iff.mpr fun d hd => by
    obtain ⟨x, hx, rfl⟩ := List.mem_map.mp hd
    simp [Lit.d, Dat.nobj, nobjAll, tm_nobj]
  simpa [Dat.nobj] using this
theorem sel_nobj (s : Option Nat) : (selD s).nobj = true := by cases s <;> rfl
/-! ### the greatest variable -/
def maxI (l : List Int) : Int := l.foldl max (-1)
theorem maxI_spec : ∀ (l : List Int) (a : Int), (∀ y ∈ l, y ≤ l.foldl max a) ∧ a ≤ l.foldl max a ∧ (l.foldl max a ∈ l ∨ l.foldl max a = a)
  | [], a => ⟨fun y hy => (by cases hy), Int.le_refl _, .inr rfl⟩
  | x :: l, a => by
    obtain ⟨h1, h2, h3⟩ := maxI_spec l (max a x)
    refine ⟨fun y hy => ?_, ?_, ?_⟩
    · rcases List.mem_cons.mp hy with e | hy
      · rw [e]; exact Int.le_trans (Int.le_max_right a x) h2
      · exact h1 y hy
    · exact Int.le_trans (Int.le_max_left a x) h2
    · rcases h3 with h3 | h3
      · exact .inl (List.mem_cons_of_mem _ h3)
      · show List.foldl max (max a x) l ∈ x :: l ∨ List.foldl max (max a x) l = a
        rw [h3]
        rcases Int.le_total a x with h | h
        · rw [Int.max_eq_right h]; exact .inl List.mem_cons_self
        · rw [Int.max_eq_left h]; exact .inr rfl
def amt (c : Cl) : Int := maxI (clVars c) + 1
section
variable {K : PySem.W.Frag} {mg : Str → Option Value}
def supN : List Str := ["weights", "c", "selected_c", "d", "selected_d", "amount", "moved"]
structure ClS (K : PySem.W.Frag) (mg : Str → Option Value) where
  C : Addr
  g : mg "Superposer" = some (.ref C)
  cl : Cls K C
  na : ∀ x ∈ supN, NoAttr K C x
  f : Addr
  fd : FuncData
  F : Fun K "__init__" "Superposer.__init__" s_Superposer___init__ f fd
  m : Mk K C f
  fA : Addr
  fdA : FuncData
  FA : Fun K "allowed" "Superposer.allowed" s_Superposer_allowed fA fdA
  m_allowed : Meth K C "allowed" fA
  fC : Addr
  fdC : FuncData
  FC : Fun K "conclusion" "Superposer.conclusion" s_Superposer_conclusion fC fdC
  m_conclusion : Meth K C "conclusion" fC
theorem ClS.b (c : ClS K mg) : Binds K c.fd ["self", "weights", "c", "selected_c", "d", "selected_d"] [] := c.F.binds (ps := ["self", "weights", "c", "selected_c", "d", "selected_d"]) fun _ _ _ _ _ _ us hl => match us, hl with | [_, _, _, _, _, _], _ => rfl
theorem ClS.b_allowed (c : ClS K mg) : Binds K c.fdA ["self", "k", "s", "j", "t", "found"] [] := c.FA.binds (ps := ["self", "k", "s", "j", "t", "found"]) fun _ _ _ _ _ _ us hl => match us, hl with | [_, _, _, _, _, _], _ => rfl
theorem ClS.b_conclusion (c : ClS K mg) : Binds K c.fdC ["self", "spot", "lead"] [] := c.FC.binds (ps := ["self", "spot", "lead"]) fun _ _ _ _ _ _ us hl => match us, hl with | [_, _, _], _ => rfl
def supL (W : Wts) (c : Cl) (sc : Option Nat) (d : Cl) (sd : Option Nat) : List Dat := [.wts W, c.d, selD sc, d.d, selD sd, .int (amt c), (shiftCl (amt c) d).d]
def supD (C : Addr) (W : Wts) (c : Cl) (sc : Option Nat) (d : Cl) (sd : Option Nat) : Dat := .obj C (supN.zip (supL W c sc d sd))
theorem supN_nd : supN.Nodup := by decide +kernel
theorem supN_meth : ∀ n ∈ supN, n ≠ (Str.ofString "conclusion") ∧ n ≠ (Str.ofString "allowed") := by decide +kernel
def spSup (T : List NTab) (C : Addr) : Sp := fun vs H Q _ => ∃ (x dx : Addr) (W : Wts) (c : Cl) (sc : Option Nat) (d : Cl) (sd : Option Nat) (v1 v2 v3 v4 v5 : V), vs = [V.ref x, v1, v2, v3, v4, v5] ∧ H x = some (.ins C dx []) ∧ Rps H [.wts W, c.d, selD sc, d.d, selD sd] [v1, v2, v3, v4, v5] ∧ TabsN T H ∧ Cok 4 c ∧ Cok 4 d ∧
  ∀ H' gs, (∀ b u, b ≠ x → H b = some u → (∀ ps, u ≠ .tbl ps) → H' b = some u) → (∀ b, H' b = none → H b = none) → TabsN T H' → H' x = some (.ins C dx gs) → Rpf H' (supN.zip (supL W c sc d sd)) gs → Q .non H'
variable {P : Program} {w : World} {base : Heap} {T : List NTab}
theorem ok_supinit (E : Txt K mg) (CSuperposer : ClS K mg) : FnOk P w K mg base CX0 8 CSuperposer.f CSuperposer.fd ["self", "weights", "c", "selected_c", "d", "selected_d"] (spSup T CSuperposer.C) := by
  have G_clause_variables := ok_clause_variables (P := P) (w := w) (base := base) (T := T) E 4
  have G_shifted_clause := ok_shifted_clause (P := P) (w := w) (base := base) (T := T) E 4
  refine CSuperposer.F.ok sc_Superposer___init__ (fun vs H Q E ⟨_, _, _, _, _, _, _, _, _, _, _, _, e, _⟩ => by rw [e]; rfl) fun cdv A outer s H vs Q _ hr ⟨x, dx, W, c, sc, d, sd, v1, v2, v3, v4, v5, e, hx, hrp, tb, hc, hd, q⟩ => ⟨_, (pss_cons (ps_fld (pv 0) (pv 1) rfl)
    (pss_cons (ps_fld (pv 0) (pv 2) rfl)
    (pss_cons (ps_fld (pv 0) (pv 3) rfl)
    (pss_cons (ps_fld (pv 0) (pv 4) rfl)
    (pss_cons (ps_fld (pv 0) (pv 5) rfl)
    (pss_cons (ps_fld (pv 0) (pe_op (kAdd K) (pe_callBK (kMaxD K) (by rfl) E.m_max (by decide +kernel) (pa_cons (pe_call G_clause_variables (hr.mono (by omega)) (by rfl) E.f_clause_variables.g E.f_clause_variables.F.kp (b_clause_variables E) .nil pass0 (pa_cons (pv 2) pa_nil)) pa_nil) (pk_cons (pe_un un_neg pe_int) pk_nil)) pe_int) rfl)
    (pss_one (ps_fld (pv 0) (pe_call G_shifted_clause (hr.mono (by omega)) (by rfl) E.f_shifted_clause.g E.f_shifted_clause.F.kp (b_shifted_clause E) .nil pass0 (pa_cons (pv 4) (pa_cons (kFld K (pv 0) rfl) pa_nil))) rfl)))))))), ?_⟩
  subst e
  have na : ∀ i (h : i < supN.length), NoAttr K CSuperposer.C supN[i] := fun i h => CSuperposer.na _ (List.getElem_mem h)
  have st : ∀ {i : Nat} {n : Str} {v : V} {gs : List (Str × V)} {Hx : Hp} {D : Ends}, NoAttr K CSuperposer.C n → gs.length < 1000 → (L2.start ["self", "weights", "c", "selected_c", "d", "selected_d"] [V.ref x, v1, v2, v3, v4, v5])[i]? = some (some v) → Hx x = some (.ins CSuperposer.C dx gs) → D.nx (L2.start ["self", "weights", "c", "selected_c", "d", "selected_d"] [V.ref x, v1, v2, v3, v4, v5]) (upd Hx x (.ins CSuperposer.C dx (putF n v gs))) →
      sFld K (tVar 0) (tVar i) n D (L2.start ["self", "weights", "c", "selected_c", "d", "selected_d"] [V.ref x, v1, v2, v3, v4, v5]) Hx := fun {i n v gs Hx D} h1 h2 h3 h4 h5 =>
    ⟨v, h3, .ref x, rfl, x, CSuperposer.C, dx, gs, rfl, h4, CSuperposer.cl, h1, h2, h5⟩
  refine st (i := 1) (na 0 (by decide)) (show ([] : List (Str × V)).length < 1000 from Nat.zero_lt_succ _) rfl hx ?_
  refine st (i := 2) (na 1 (by decide)) (plen (show ([] : List (Str × V)).length < 999 from Nat.zero_lt_succ _)) rfl upd_same ?_
  refine st (i := 3) (na 2 (by decide)) (plen (plen (show ([] : List (Str × V)).length < 998 from Nat.zero_lt_succ _))) rfl upd_same ?_
  refine st (i := 4) (na 3 (by decide)) (plen (plen (plen (show ([] : List (Str × V)).length < 997 from Nat.zero_lt_succ _)))) rfl upd_same ?_
  refine st (i := 5) (na 4 (by decide)) (plen (plen (plen (plen (show ([] : List (Str × V)).length < 996 from Nat.zero_lt_succ _))))) rfl upd_same ?_
  have e5 : putF supN[4] v5 (putF supN[3] v4 (putF supN[2] v3 (putF supN[1] v2 (putF supN[0] v1 [])))) = (supN.take 5).zip [v1, v2, v3, v4, v5] := by
    have := setAll_new ((supN.take 5).zip [v1, v2, v3, v4, v5]) [] (by
      rw [List.nil_append, List.map_fst_zip]
      · decide +kernel
      · exact Nat.le_refl 5)
    exact this
  rw [upd_upd, upd_upd, upd_upd, upd_upd, show putF (Str.ofString "selected_d") v5 (putF (Str.ofString "d") v4 (putF (Str.ofString "selected_c") v3 (putF (Str.ofString "c") v2 (putF (Str.ofString "weights") v1 [])))) = (supN.take 5).zip [v1, v2, v3, v4, v5] from e5]
  -- self.amount
  have h5x : (upd H x (.ins CSuperposer.C dx ((supN.take 5).zip [v1, v2, v3, v4, v5]))) x = some (.ins CSuperposer.C dx ((supN.take 5).zip [v1, v2, v3, v4, v5])) := upd_same
  have k5 : ∀ b u, b ≠ x → H b = some u → upd H x (.ins CSuperposer.C dx ((supN.take 5).zip [v1, v2, v3, v4, v5])) b = some u := fun b u nb e => by rw [upd_ne nb]; exact e
  have n5 : ∀ b, upd H x (.ins CSuperposer.C dx ((supN.take 5).zip [v1, v2, v3, v4, v5])) b = none → H b = none := fun b e => by
    by_cases hb : b = x
    · rw [hb, upd_same] at e; cases e
    · rw [upd_ne hb] at e; exact e
  have t5 : TabsN T (upd H x (.ins CSuperposer.C dx ((supN.take 5).zip [v1, v2, v3, v4, v5]))) := TabsN.lstUpd tb hx (fun _ z => nomatch z) (fun _ z => nomatch z)
  generalize hH5 : upd H x (.ins CSuperposer.C dx ((supN.take 5).zip [v1, v2, v3, v4, v5])) = H5 at h5x k5 n5 t5
  have nob : nobjAll [.wts W, c.d, selD sc, d.d, selD sd] = true := by simp [nobjAll, Dat.nobj, cl_nobj, sel_nobj]
  have tupx : ∀ {a : Addr} {xs : List V}, H a = some (.tup xs) → a ≠ x := fun h z => by rw [z, hx] at h; cases h
  have dtx : ∀ {a : Addr} {xs : List (List Key × V)}, H a = some (.dT xs) → a ≠ x := fun h z => by rw [z, hx] at h; cases h
  have rp5 : Rps H5 [.wts W, c.d, selD sc, d.d, selD sd] [v1, v2, v3, v4, v5] := Rps.mono1 (fun a xs h => k5 a _ (tupx h) h) (fun a xs h => k5 a _ (dtx h) h) _ nob hrp
  have pr5 : ∀ (Hx : Hp) (s0 : Sl), SlOk K Hx Hx s0 (V.ref x) → Rps Hx [.wts W, c.d, selD sc, d.d, selD sd] [v1, v2, v3, v4, v5] → Paired (SlOk K Hx Hx) [s0, .sh (.wts W), .sh c.d, .sh (selD sc), .sh d.d, .sh (selD sd)] [V.ref x, v1, v2, v3, v4, v5] := fun Hx s0 h0 hr => by
    obtain ⟨_, _, e1, r1, _, _, e2, r2, _, _, e3, r3, _, _, e4, r4, _, _, e5, r5, e6⟩ := hr
    cases e1; cases e2; cases e3; cases e4; cases e5
    exact .cons h0 (.cons r1 (.cons r2 (.cons r3 (.cons r4 (.cons r5 .nil)))))
  have rel5 : Rel K T H5 H5 (L2.start ["self", "weights", "c", "selected_c", "d", "selected_d"] [V.ref x, v1, v2, v3, v4, v5]) [some (.raw (.ref x)), some (.sh (.wts W)), some (.sh c.d), some (.sh (selD sc)), some (.sh d.d), some (.sh (selD sd))] := Rel.start (pr5 H5 (.raw (.ref x)) rfl rp5) t5
  have hmx : ∀ m', ((m' ∈ clVars c ∧ ∀ y ∈ clVars c, y ≤ m') ∨ (clVars c = [] ∧ m' = -1)) → m' = maxI (clVars c) := fun m' h => by
    obtain ⟨h1, h2, h3⟩ := maxI_spec (clVars c) (-1)
    rcases h with ⟨h4, h5⟩ | ⟨h4, h5⟩
    · have a := h1 m' h4
      rcases h3 with h3 | h3
      · have := h5 _ h3
        show m' = List.foldl max (-1) (clVars c)
        omega
      · have := (clVars_ok hc m' h4).1
        show m' = List.foldl max (-1) (clVars c)
        omega
    · rw [h4, h5]; rfl
  have ev6 := ev_add (K := K) (T := T) (δ := [some (.raw (.ref x)), some (.sh (.wts W)), some (.sh c.d), some (.sh (selD sc)), some (.sh d.d), some (.sh (selD sd))])
    (ev_maxD (ta := tCons (tCall (spR K T (R_clause_variables 4)) [] E0 (tCons (tVar 2) tNil)) tNil) (tk := tCons (tUn (rU fun i => .int (-i)) (tC (.int 1))) tNil) (ea_cons (ev_call (ea_cons (ev_var rfl rfl) ea_nil) ⟨c, hc, rfl, rfl⟩) ea_nil) (ea_cons (ev_neg ev_int) ea_nil) hmx) (ev_int (i := 1))
  refine ev6 H5 H5 _ rel5 _ fun y H6 g6 t6 hy => ?_
  have hy : y = V.int (amt c) := hy
  subst hy
  have h6x : H6 x = some (.ins CSuperposer.C dx ((supN.take 5).zip [v1, v2, v3, v4, v5])) := g6.stab.i _ _ _ _ h5x
  refine ⟨.ref x, rfl, x, CSuperposer.C, dx, _, rfl, h6x, CSuperposer.cl, na 5 (by decide), by show 5 < 1000; decide, ?_⟩
  have e6 : putF supN[5] (V.int (amt c)) ((supN.take 5).zip [v1, v2, v3, v4, v5]) = (supN.take 6).zip [v1, v2, v3, v4, v5, V.int (amt c)] := by
    rw [putF_new]
    · rfl
    · show supN[5] ∉ supN.take 5
      decide +kernel
  rw [show putF (Str.ofString "amount") (V.int (amt c)) ((supN.take 5).zip [v1, v2, v3, v4, v5]) = (supN.take 6).zip [v1, v2, v3, v4, v5, V.int (amt c)] from e6]
  -- self.moved
  have h7x : (upd H6 x (.ins CSuperposer.C dx ((supN.take 6).zip [v1, v2, v3, v4, v5, V.int (amt c)]))) x = some (.ins CSuperposer.C dx ((supN.take 6).zip [v1, v2, v3, v4, v5, V.int (amt c)])) := upd_same
  have k7 : ∀ b u, b ≠ x → H6 b = some u → upd H6 x (.ins CSuperposer.C dx ((supN.take 6).zip [v1, v2, v3, v4, v5, V.int (amt c)])) b = some u := fun b u nb e => by rw [upd_ne nb]; exact e
  have n7 : ∀ b, upd H6 x (.ins CSuperposer.C dx ((supN.take 6).zip [v1, v2, v3, v4, v5, V.int (amt c)])) b = none → H6 b = none := fun b e => by
    by_cases hb : b = x
    · rw [hb, upd_same] at e; cases e
    · rw [upd_ne hb] at e; exact e
  have t7 : TabsN T (upd H6 x (.ins CSuperposer.C dx ((supN.take 6).zip [v1, v2, v3, v4, v5, V.int (amt c)]))) := TabsN.lstUpd t6 h6x (fun _ z => nomatch z) (fun _ z => nomatch z)
  generalize hH7 : upd H6 x (.ins CSuperposer.C dx ((supN.take 6).zip [v1, v2, v3, v4, v5, V.int (amt c)])) = H7 at h7x k7 n7 t7
  have t6x : ∀ {a : Addr} {xs : List V}, H6 a = some (.tup xs) → a ≠ x := fun h z => by rw [z, h6x] at h; cases h
  have d6x : ∀ {a : Addr} {xs : List (List Key × V)}, H6 a = some (.dT xs) → a ≠ x := fun h z => by rw [z, h6x] at h; cases h
  have rp7 : Rps H7 [.wts W, c.d, selD sc, d.d, selD sd] [v1, v2, v3, v4, v5] := Rps.mono1 (fun a xs h => k7 a _ (t6x (g6.stab.t _ _ h)) (g6.stab.t _ _ h)) (fun a xs h => k7 a _ (d6x (g6.stab.w _ _ h)) (g6.stab.w _ _ h)) _ nob rp5
  have s7 : SlOk K H7 H7 (.sh (.obj CSuperposer.C [(supN[5], .int (amt c))])) (V.ref x) := by
    refine ⟨x, dx, _, rfl, h7x, ⟨V.int (amt c), zip_look (i := 5) (supN_nd.sublist (List.take_sublist _ _)) rfl rfl, rfl⟩, fun p hp => ?_⟩
    exact supN_meth _ (List.mem_of_mem_take (List.of_mem_zip hp).1)
  have rel7 : Rel K T H7 H7 (L2.start ["self", "weights", "c", "selected_c", "d", "selected_d"] [V.ref x, v1, v2, v3, v4, v5]) [some (.sh (.obj CSuperposer.C [(supN[5], .int (amt c))])), some (.sh (.wts W)), some (.sh c.d), some (.sh (selD sc)), some (.sh d.d), some (.sh (selD sd))] := Rel.start (pr5 H7 _ s7 rp7) t7
  have hev : Ev K T (tFld K (tVar 0) supN[5]) [some (.sh (.obj CSuperposer.C [(supN[5], .int (amt c))])), some (.sh (.wts W)), some (.sh c.d), some (.sh (selD sc)), some (.sh d.d), some (.sh (selD sd))] (.sh (.int (amt c))) := ev_fld (ev_var rfl rfl) CSuperposer.cl (na 5 (by decide)) (by simp [List.lookup])
  have ev7 : Ev K T (tCall (spR K T (R_shifted_clause 4)) [] E0 (tCons (tVar 4) (tCons (tFld K (tVar 0) supN[5]) tNil))) [some (.sh (.obj CSuperposer.C [(supN[5], .int (amt c))])), some (.sh (.wts W)), some (.sh c.d), some (.sh (selD sc)), some (.sh d.d), some (.sh (selD sd))] (.sh (shiftCl (amt c) d).d) :=
    ev_call (ea_cons (ev_var rfl rfl) (ea_cons hev ea_nil)) ⟨d, amt c, hd.1, fun x hx => (hd.2 x hx).tn, rfl, rfl⟩
  refine ev7 H7 H7 _ rel7 _ fun z H8 g8 t8 hz => ?_
  have h8x : H8 x = some (.ins CSuperposer.C dx ((supN.take 6).zip [v1, v2, v3, v4, v5, V.int (amt c)])) := g8.stab.i _ _ _ _ h7x
  refine ⟨.ref x, rfl, x, CSuperposer.C, dx, _, rfl, h8x, CSuperposer.cl, na 6 (by decide), by show 6 < 1000; decide, ?_⟩
  have e7 : putF supN[6] z ((supN.take 6).zip [v1, v2, v3, v4, v5, V.int (amt c)]) = supN.zip [v1, v2, v3, v4, v5, V.int (amt c), z] := by
    rw [putF_new]
    · rfl
    · show supN[6] ∉ supN.take 6
      decide +kernel
  rw [show putF (Str.ofString "moved") z ((supN.take 6).zip [v1, v2, v3, v4, v5, V.int (amt c)]) = supN.zip [v1, v2, v3, v4, v5, V.int (amt c), z] from e7]
  have t8x : ∀ {a : Addr} {xs : List V}, H8 a = some (.tup xs) → a ≠ x := fun h z => by rw [z, h8x] at h; cases h
  have d8x : ∀ {a : Addr} {xs : List (List Key × V)}, H8 a = some (.dT xs) → a ≠ x := fun h z => by rw [z, h8x] at h; cases h
  have k9 : ∀ b u, b ≠ x → H8 b = some u → upd H8 x (.ins CSuperposer.C dx (supN.zip [v1, v2, v3, v4, v5, V.int (amt c), z])) b = some u := fun b u nb e => by rw [upd_ne nb]; exact e
  refine q _ _ (fun b u nb e nt => k9 b u nb (g8.e b u (k7 b u nb (g6.e b u (k5 b u nb e) nt)) nt)) (fun b e => ?_) (TabsN.lstUpd t8 h8x (fun _ z => nomatch z) (fun _ z => nomatch z)) upd_same ?_
  · by_cases hb : b = x
    · rw [hb, upd_same] at e; cases e
    · rw [upd_ne hb] at e
      exact n5 b (g6.n b (n7 b (g8.n b e)))
  · have rp9 : Rps (upd H8 x (.ins CSuperposer.C dx (supN.zip [v1, v2, v3, v4, v5, V.int (amt c), z]))) [.wts W, c.d, selD sc, d.d, selD sd, .int (amt c), (shiftCl (amt c) d).d] [v1, v2, v3, v4, v5, V.int (amt c), z] := by
      have r8 : Rps H8 [.wts W, c.d, selD sc, d.d, selD sd, .int (amt c), (shiftCl (amt c) d).d] [v1, v2, v3, v4, v5, V.int (amt c), z] := Rps.app (ds := [.wts W, c.d, selD sc, d.d, selD sd]) (xs := [v1, v2, v3, v4, v5]) (Rps.mono g8.stab _ rp7) ⟨_, _, rfl, rfl, _, _, rfl, hz, rfl⟩
      exact Rps.mono1 (fun a xs h => k9 a _ (t8x h) h) (fun a xs h => k9 a _ (d8x h) h) _ (by simp [nobjAll, Dat.nobj, cl_nobj, sel_nobj]) r8
    refine rpf_zip (fun p hp => supN_meth _ (List.of_mem_zip hp).1) fun i n dd h1 h2 => ?_
    obtain ⟨v, k1, k2⟩ := Rps.at rp9 (i := i) (d := dd) h2
    exact ⟨v, zip_look supN_nd h1 k1, k2⟩
end
end
end G3
end

section
set_option Elab.async false
set_option linter.all false
set_option maxRecDepth 100000
set_option maxHeartbeats 1000000
namespace G3
open PySem PySem.Spec PyProof.Rows L2 LamX NdefX
noncomputable section
open scoped Classical
def supOk (W : Wts) (c : Cl) (sc : Option Nat) (mv : Cl) (sd : Option Nat) (k s j t : Nat) (y z : Lit) (τ : Sub) : Bool := mayAct W c sc k y τ && (mayLead W y s τ && (mayGive W mv sd j z τ && mayLead W z t τ))
def supLit (y : Lit) (s : Nat) (p : List Nat) (z : Lit) (t : Nat) : Lit := y.with s (putAt (y.side s) p (z.side (1 - t)))
def supCl (c mv : Cl) (k s : Nat) (p : List Nat) (j t : Nat) (y z : Lit) : Cl := c.set k (supLit y s p z t) ++ mv.eraseIdx j
def supAt (W : Wts) (c : Cl) (sc : Option Nat) (d : Cl) (sd : Option Nat) (k s : Nat) (p : List Nat) (tm : Tm) (j t : Nat) (lf : Tm) (y z : Lit) : Option Conc := if tm.isAtom ≠ lf.isAtom then none else match mgu tm lf with
  | none => none
  | some τ => if supOk W c sc (shiftCl (amt c) d) sd k s j t y z τ = true then some (mkConc "superposition" (putCl τ (supCl c (shiftCl (amt c) d) k s p j t y z)) (.int k) (.int s) (pcD p) (.int j) (.int t) (becS τ 0 c) (becS τ (amt c) d)) else none
/-- the fields are there -/
theorem sup_look (C : Addr) (W : Wts) (c : Cl) (sc : Option Nat) (d : Cl) (sd : Option Nat) (i : Nat) (n : Str) (v : Dat) (h1 : supN[i]? = some n) (h2 : (supL W c sc d sd)[i]? = some v) : (supN.zip (supL W c sc d sd)).lookup n = some v := by
  have gen : ∀ (ns : List Str) (ds : List Dat) (i : Nat), ns.Nodup → ns[i]? = some n → ds[i]? = some v → (ns.zip ds).lookup n = some v := by
    intro ns
    induction ns with
    | nil => intro ds i _ h; simp at h
    | cons m ns ih =>
      intro ds i nd h1 h2
      cases ds with
      | nil => simp at h2
      | cons u ds =>
        rw [List.zip_cons_cons, List.lookup_cons]
        rw [List.nodup_cons] at nd
        cases i with
        | zero =>
          simp only [List.getElem?_cons_zero, Option.some.injEq] at h1 h2
          subst h1 h2
          simp
        | succ i =>
          have h1 : ns[i]? = some n := by simpa using h1
          have hne : ¬ n = m := fun e => nd.1 (e ▸ List.mem_of_getElem? h1)
          rw [show (n == m) = false from beq_eq_false_iff_ne.mpr hne]
          exact ih ds i nd.2 h1 (by simpa using h2)
  exact gen supN _ i supN_nd h1 h2
/-- of a place, of a thing put there -/
theorem atP_subs : ∀ (p : List Nat) (t u : Tm), atP t p = some u → u ∈ subs t
  | [], t, u, h => by rw [atP_nil] at h; cases h; exact subs_self _
  | k :: p, .v n, u, h => by cases h
  | k :: p, .ap s l, u, h => by
    rw [atP] at h
    cases hk : l[k]? with
    | none => rw [hk] at h; cases h
    | some v =>
      rw [hk] at h
      rw [subs]
      exact List.mem_cons_of_mem _ (mem_subsL.mpr ⟨v, List.mem_of_getElem? hk, atP_subs p v u h⟩)
theorem atP_len : ∀ (p : List Nat) (t u : Tm), atP t p = some u → p.length ≤ t.depth
  | [], t, u, h => Nat.zero_le _
  | k :: p, .v n, u, h => by cases h
  | k :: p, .ap s l, u, h => by
    rw [atP] at h
    cases hk : l[k]? with
    | none => rw [hk] at h; cases h
    | some v =>
      rw [hk] at h
      have h1 := atP_len p v u h
      have h2 := depth_arg (s := s) (List.mem_of_getElem? hk)
      rw [List.length_cons]
      omega
theorem subs_size : ∀ t u : Tm, u ∈ subs t → u.size ≤ t.size := by
  refine Tm.ind (fun n u h => by simp [subs] at h; subst h; exact Nat.le_refl _) fun s l ih u h => ?_
  rw [subs] at h
  rcases List.mem_cons.mp h with e | h
  · rw [e]; exact Nat.le_refl _
  · obtain ⟨t, ht, h'⟩ := mem_subsL.mp h
    have := ih t ht u h'
    have := size_arg (s := s) ht
    omega
theorem tok_sub {n : Nat} {t u : Tm} (h : Tok n t) (hu : u ∈ subs t) : Tok n u := ⟨Nat.le_trans (subs_dep t u hu) h.dep, subs_thin t u hu h.ar, fun x hx => h.vb x (subs_occ t u hu hx)⟩
theorem md_sub {g : Prop} {t u : Tm} (h : Md g t) (hu : u ∈ subs t) : Md g u := ⟨fun hg x => Classical.byContradiction fun z => subs_occ t u hu z (h.1 hg x), fun hg => Nat.le_trans (subs_size t u hu) (h.2 hg)⟩
theorem tok_putIn {n m : Nat} {new : Tm} (hn : Tok m new) : ∀ (p : List Nat) (t : Tm), Tok n t → atP t p ≠ none → Tok (n + m) (putIn t p new)
  | [], t, _, _ => by
    have : putIn t [] new = new := by cases t <;> rfl
    rw [this]
    exact hn.mono (by omega)
  | k :: p, .v x, _, h => absurd rfl h
  | k :: p, .ap s l, ht, h => by
    rw [atP] at h
    cases hk : l[k]? with
    | none => rw [hk] at h; exact absurd rfl h
    | some u =>
      rw [hk] at h
      have hu := List.mem_of_getElem? hk
      cases n with
      | zero => have := ht.dep; rw [Tm.depth] at this; omega
      | succ n =>
        have ih := tok_putIn (n := n) hn p u (ht.arg hu) h
        rw [putIn, hk]
        show Tok (n + 1 + m) (.ap s (l.set k (putIn u p new)))
        have harg : ∀ v ∈ l.set k (putIn u p new), Tok (n + m) v := fun v hv => by
          rcases List.mem_or_eq_of_mem_set hv with hv | rfl
          · exact (ht.arg hv).mono (by omega)
          · exact ih
        refine ⟨?_, thin_ap.mpr ⟨by rw [List.length_set]; exact (thin_ap.mp ht.ar).1, fun v hv => (harg v hv).ar⟩, fun x hx => ?_⟩
        · rw [Tm.depth]
          have := depthL_le (n := n + m) fun v hv => (harg v hv).dep
          omega
        · have : ¬ ∀ t ∈ l.set k (putIn u p new), occ x t = 0 := fun q => hx (occ_ap_zero.mpr q)
          simp only [Classical.not_forall] at this
          obtain ⟨v, hv, hz⟩ := this
          exact (harg v hv).vb x hz
theorem tok_putAt {n m : Nat} {t new : Tm} {p : List Nat} (ht : Tok n t) (hn : Tok m new) : Tok (n + m) (putAt t p new) := by
  unfold putAt
  split
  · exact ht.mono (by omega)
  · rename_i h; exact tok_putIn hn p t ht h
section
variable {K : PySem.W.Frag} {mg : Str → Option Value} {P : Program} {w : World} {base : Heap} {T : List NTab} (E : Txt K mg) (L : LamAt E base T) (CConclusion : ClC K mg) (CSuperposer : ClS K mg)
theorem ev_meth {C : Addr} {m : Str} {R : List Sl → Sl → Prop} {E : XK} {δ : AS} {te : TE} {ta : TA} {fs : List (Str × Dat)} {ss : List Sl} {s : Sl} (hm : m = Str.ofString "conclusion" ∨ m = Str.ofString "allowed") (ho : Ev K T te δ (.sh (.obj C fs))) (h : EvA K T ta δ ss) (r : R (.sh (.obj C fs) :: ss) s) (a : ss.all Sl.isArg = true := by rfl) :
    Ev K T (tMeth C m (spR K T R) [] E te ta) δ s := fun H0 H σ rl Q q =>
  ho H0 H σ rl _ fun x H1 g1 t1 o1 => by
    obtain ⟨p, dx, gs, rfl, h1, h2⟩ := o1
    have hno : gs.lookup m = none := by
      cases e : gs.lookup m with
      | none => rfl
      | some v =>
        have := Rpf.nometh h2 _ (PySem.mem_of_lookup e)
        rcases hm with rfl | rfl
        · exact absurd rfl this.1
        · exact absurd rfl this.2
    refine ⟨p, dx, gs, rfl, h1, hno, ?_⟩
    refine h H0 H1 σ (rl.grow g1 t1) _ fun vs H2 g2 t2 o2 => ?_
    refine ⟨.sh (.obj C fs) :: ss, s, r, ?_, t2, fun v H3 g3 t3 o3 => q v H3 ((g1.trans g2).trans g3) t3 (o3.base (g1.trans g2).n)⟩
    rw [List.append_nil]
    exact .cons ⟨p, dx, gs, rfl, g2.stab.i _ _ _ _ h1, Rpf.mono g2.stab _ h2⟩ (args_here o2 a)
include L
def R_allowed : List Sl → Sl → Prop := fun ss r => ∃ (g : Prop) (W : Wts) (c : Cl) (sc : Option Nat) (d : Cl) (sd : Option Nat) (k s j t : Nat) (y z : Lit) (τ : Sub), Cg g c ∧ Cg g (shiftCl (amt c) d) ∧ c[k]? = some y ∧ (shiftCl (amt c) d)[j]? = some z ∧ s ≤ 1 ∧ t ≤ 1 ∧ (∀ p ∈ τ, Tok 14 p.2) ∧
  ss = [.sh (supD CSuperposer.C W c sc d sd), .sh (.int k), .sh (.int s), .sh (.int j), .sh (.int t), .dct τ.d] ∧ r = .sh (.bl (supOk W c sc (shiftCl (amt c) d) sd k s j t y z τ))
theorem ok_allowed : FnOk P w K mg base CX0 103 CSuperposer.fA CSuperposer.fdA ["self", "k", "s", "j", "t", "found"] (spR K T (R_allowed CSuperposer)) := by
  have G_may_act := ok_may_act (P := P) (w := w) (base := base) (T := T) E L (n := 4) (D := 18) (by omega) (by omega)
  have G_may_lead := ok_may_lead (P := P) (w := w) (base := base) (T := T) E L (n := 4) (D := 18) (by omega) (by omega)
  have G_may_give := ok_may_give (P := P) (w := w) (base := base) (T := T) E L (n := 4) (D := 18) (by omega) (by omega)
  refine fn_R CSuperposer.FA sc_Superposer_allowed (fun ss s ⟨_, _, _, _, _, _, _, _, _, _, _, _, _, _, _, _, _, _, _, _, e, _⟩ => by rw [e]; rfl) fun cdv A outer s H _ hr => ⟨_, (pss_cons (ps_set (i := 6) sc_Superposer_allowed.nd rfl (by first | exact Or.inl rfl | exact Or.inr rfl) (kFld K (pv 0) rfl))
    (pss_cons (ps_if (pt_not (kTru K (pe_call G_may_act (hr.mono (by omega)) (by rfl) E.f_may_act.g E.f_may_act.F.kp (b_may_act E) .nil pass0 (pa_cons (pv 6) (pa_cons (kFld K (pv 0) rfl) (pa_cons (kFld K (pv 0) rfl) (pa_cons (pv 1) (pa_cons (pv 5) pa_nil)))))) (fun _ => rfl)))
      (pss_one (ps_ret pe_bl))
      pss_nil)
    (pss_cons (ps_if (pt_not (kTru K (pe_call G_may_lead (hr.mono (by omega)) (by rfl) E.f_may_lead.g E.f_may_lead.F.kp (b_may_lead E) .nil pass0 (pa_cons (pv 6) (pa_cons (pe_ix (kIx K) (kFld K (pv 0) rfl) (pv 1) (fun _ _ => rfl)) (pa_cons (pv 2) (pa_cons (pv 5) pa_nil))))) (fun _ => rfl)))
      (pss_one (ps_ret pe_bl))
      pss_nil)
    (pss_cons (ps_if (pt_not (kTru K (pe_call G_may_give (hr.mono (by omega)) (by rfl) E.f_may_give.g E.f_may_give.F.kp (b_may_give E) .nil pass0 (pa_cons (pv 6) (pa_cons (kFld K (pv 0) rfl) (pa_cons (kFld K (pv 0) rfl) (pa_cons (pv 3) (pa_cons (pv 5) pa_nil)))))) (fun _ => rfl)))
      (pss_one (ps_ret pe_bl))
      pss_nil)
    (pss_one (ps_ret (pe_call G_may_lead (hr.mono (by omega)) (by rfl) E.f_may_lead.g E.f_may_lead.F.kp (b_may_lead E) .nil pass0 (pa_cons (pv 6) (pa_cons (pe_ix (kIx K) (kFld K (pv 0) rfl) (pv 3) (fun _ _ => rfl)) (pa_cons (pv 4) (pa_cons (pv 5) pa_nil))))))))))), ?_⟩
  rintro ss r ⟨g, W, c, sc, d, sd, k, s, j, t, y, z, τ, hc, hd, hk, hj, hs, ht, hτ, rfl, rfl⟩
  have fld : ∀ (i : Nat) (n : Str) (v : Dat) (δ : AS), supN[i]? = some n → (supL W c sc d sd)[i]? = some v → δ[0]? = some (some (.sh (supD CSuperposer.C W c sc d sd))) → Ev K T (tFld K (tVar 0) n) δ (.sh v) := fun i n v δ h1 h2 h3 =>
    ev_fld (ev_var h3 rfl) CSuperposer.cl (CSuperposer.na n (List.mem_of_getElem? h1)) (sup_look CSuperposer.C W c sc d sd i n v h1 h2)
  have hcp : Cok 18 (putCl τ c) := cok_put hτ hc.cok
  have hdp : Cok 18 (putCl τ (shiftCl (amt c) d)) := cok_put hτ hd.cok
  have hy := List.mem_of_getElem? hk
  have hz := List.mem_of_getElem? hj
  have lc : c.length ≤ 100 := by have := hc.len; omega
  have ld : (shiftCl (amt c) d).length ≤ 100 := by have := hd.len; omega
  show Sx K T _ [some (.sh (supD CSuperposer.C W c sc d sd)), some (.sh (.int k)), some (.sh (.int s)), some (.sh (.int j)), some (.sh (.int t)), some (.dct τ.d), none] _
  refine sx_seq (sx_set (fld 0 _ (.wts W) _ rfl rfl rfl) ?_)
  show Sx K T _ [some (.sh (supD CSuperposer.C W c sc d sd)), some (.sh (.int k)), some (.sh (.int s)), some (.sh (.int j)), some (.sh (.int t)), some (.dct τ.d), some (.sh (.wts W))] _
  have eA := ev_call (K := K) (T := T) (δ := [some (.sh (supD CSuperposer.C W c sc d sd)), some (.sh (.int k)), some (.sh (.int s)), some (.sh (.int j)), some (.sh (.int t)), some (.dct τ.d), some (.sh (.wts W))]) (R := R_may_act 4 18) (E := E0) (ta := tCons (tVar 6) (tCons (tFld K (tVar 0) "c") (tCons (tFld K (tVar 0) "selected_c") (tCons (tVar 1) (tCons (tVar 5) tNil))))) (s := .sh (.bl (mayAct W c sc k y τ)))
    (ea_cons (ev_var rfl rfl) (ea_cons (fld 1 _ c.d _ rfl rfl rfl) (ea_cons (fld 2 _ (selD sc) _ rfl rfl rfl) (ea_cons (ev_var rfl rfl) (ea_cons (ev_var rfl rfl) ea_nil))))) ⟨W, c, sc, k, y, τ, lc, fun x hx => (hc.ok x hx).tn, hcp, hk, rfl, rfl⟩
  refine sx_seq (sx_if (et_not (et_tru eA rfl)) (fun h => ?_) fun h => sx_next ?_)
  · refine sx_ret ev_bl ?_
    show Sl.sh (.bl false) = Sl.sh (.bl (supOk W c sc (shiftCl (amt c) d) sd k s j t y z τ))
    unfold supOk
    rw [show mayAct W c sc k y τ = false by simpa using h, Bool.false_and]
  have h1 : mayAct W c sc k y τ = true := by simpa using h
  have ey : Ev K T (tOp (rIx K) (tFld K (tVar 0) "c") (tVar 1)) [some (.sh (supD CSuperposer.C W c sc d sd)), some (.sh (.int k)), some (.sh (.int s)), some (.sh (.int j)), some (.sh (.int t)), some (.dct τ.d), some (.sh (.wts W))] (.sh y.d) := ev_ixT (fld 1 _ c.d _ rfl rfl rfl) (ev_var rfl rfl) (atI_n (map_at hk))
  have ez : Ev K T (tOp (rIx K) (tFld K (tVar 0) "moved") (tVar 3)) [some (.sh (supD CSuperposer.C W c sc d sd)), some (.sh (.int k)), some (.sh (.int s)), some (.sh (.int j)), some (.sh (.int t)), some (.dct τ.d), some (.sh (.wts W))] (.sh z.d) := ev_ixT (fld 6 _ (shiftCl (amt c) d).d _ rfl rfl rfl) (ev_var rfl rfl) (atI_n (map_at hj))
  refine sx_seq (sx_if (et_not (et_tru (ev_call (s := .sh (.bl (mayLead W y s τ))) (ea_cons (ev_var rfl rfl) (ea_cons ey (ea_cons (ev_var rfl rfl) (ea_cons (ev_var rfl rfl) ea_nil)))) ⟨W, y, s, τ, hs, (hc.ok y hy).tn, hcp.2 _ (List.mem_map.mpr ⟨y, hy, rfl⟩), rfl, rfl⟩) rfl)) (fun h => ?_) fun h => sx_next ?_)
  · refine sx_ret ev_bl ?_
    show Sl.sh (.bl false) = Sl.sh (.bl (supOk W c sc (shiftCl (amt c) d) sd k s j t y z τ))
    unfold supOk
    rw [show mayLead W y s τ = false by simpa using h, Bool.false_and, Bool.and_false]
  have h2 : mayLead W y s τ = true := by simpa using h
  refine sx_seq (sx_if (et_not (et_tru (ev_call (s := .sh (.bl (mayGive W (shiftCl (amt c) d) sd j z τ))) (ea_cons (ev_var rfl rfl) (ea_cons (fld 6 _ (shiftCl (amt c) d).d _ rfl rfl rfl) (ea_cons (fld 4 _ (selD sd) _ rfl rfl rfl) (ea_cons (ev_var rfl rfl) (ea_cons (ev_var rfl rfl) ea_nil))))) ⟨W, shiftCl (amt c) d, sd, j, z, τ, ld, fun x hx => (hd.ok x hx).tn, hdp, hj, rfl, rfl⟩) rfl)) (fun h => ?_) fun h => sx_next ?_)
  · refine sx_ret ev_bl ?_
    show Sl.sh (.bl false) = Sl.sh (.bl (supOk W c sc (shiftCl (amt c) d) sd k s j t y z τ))
    unfold supOk
    rw [show mayGive W (shiftCl (amt c) d) sd j z τ = false by simpa using h, Bool.false_and, Bool.and_false, Bool.and_false]
  have h3 : mayGive W (shiftCl (amt c) d) sd j z τ = true := by simpa using h
  refine sx_ret (ev_call (s := .sh (.bl (mayLead W z t τ))) (ea_cons (ev_var rfl rfl) (ea_cons ez (ea_cons (ev_var rfl rfl) (ea_cons (ev_var rfl rfl) ea_nil)))) ⟨W, z, t, τ, ht, (hd.ok z hz).tn, hdp.2 _ (List.mem_map.mpr ⟨z, hz, rfl⟩), rfl, rfl⟩) ?_
  show Sl.sh (.bl _) = Sl.sh (.bl (supOk W c sc (shiftCl (amt c) d) sd k s j t y z τ))
  unfold supOk
  rw [h1, h2, h3]
  rfl
def R_conclusion : List Sl → Sl → Prop := fun ss r => ∃ (g : Prop) (W : Wts) (c : Cl) (sc : Option Nat) (d : Cl) (sd : Option Nat) (k s : Nat) (p : List Nat) (tm : Tm) (j t : Nat) (lf : Tm) (y z : Lit), Cg g c ∧ Cg g d ∧ Cg g (shiftCl (amt c) d) ∧ (∀ x ∈ clVars d, 0 ≤ x + amt c ∧ x + amt c < 1000) ∧
  c[k]? = some y ∧ (shiftCl (amt c) d)[j]? = some z ∧ s ≤ 1 ∧ t ≤ 1 ∧ atP (y.side s) p = some tm ∧ z.side t = lf ∧ ss = [.sh (supD CSuperposer.C W c sc d sd), .sh (spD (k, s, p, tm)), .sh (ldD (j, t, lf))] ∧ r = conS CConclusion.C (supAt W c sc d sd k s p tm j t lf y z)
theorem erase_cut (c : Cl) (k : Nat) (h : k < c.length) : cut (c.map Lit.d) none (some (k : Int)) ++ cut (c.map Lit.d) (some ((k : Int) + 1)) none = (c.eraseIdx k).map Lit.d := by
  rw [cut_erase (c.map Lit.d) k (by rw [List.length_map]; exact h), List.eraseIdx_eq_take_drop_succ, List.eraseIdx_eq_take_drop_succ, List.map_append, List.map_take, List.map_drop]
theorem ok_conclusion : FnOk P w K mg base CX0 104 CSuperposer.fC CSuperposer.fdC ["self", "spot", "lead"] (spR K T (R_conclusion CConclusion CSuperposer)) := by
  have G_is_atom := ok_is_atom (P := P) (w := w) (base := base) (T := T) E
  have G_unify := ok_unify (P := P) (w := w) (base := base) (T := T) E
  have G_allowed := ok_allowed (P := P) (w := w) (base := base) (T := T) E L CSuperposer
  have G_side := ok_side (P := P) (w := w) (base := base) (T := T) E
  have G_with_side := ok_with_side (P := P) (w := w) (base := base) (T := T) E
  have G_put_at := ok_put_at (P := P) (w := w) (base := base) (T := T) E
  have G_became := ok_became (P := P) (w := w) (base := base) (T := T) E 4
  have G_put_clause := ok_put_clause (P := P) (w := w) (base := base) (T := T) E 8
  have G_conclude := ok_conclude (P := P) (w := w) (base := base) (T := T) E CConclusion 22
  refine fn_R CSuperposer.FC sc_Superposer_conclusion (fun ss s ⟨_, _, _, _, _, _, _, _, _, _, _, _, _, _, _, _, _, _, _, _, _, _, _, _, _, e, _⟩ => by rw [e]; rfl) fun cdv A outer s H _ hr => ⟨_, (pss_cons (ps_asg (pv 1) (kgTup K (n := 4) rfl (pgs_cons (pg_name (i := 3) sc_Superposer_conclusion.nd rfl (by first | exact Or.inl rfl | exact Or.inr rfl)) (pgs_cons (pg_name (i := 4) sc_Superposer_conclusion.nd rfl (by first | exact Or.inl rfl | exact Or.inr rfl)) (pgs_cons (pg_name (i := 5) sc_Superposer_conclusion.nd rfl (by first | exact Or.inl rfl | exact Or.inr rfl)) (pgs_cons (pg_name (i := 6) sc_Superposer_conclusion.nd rfl (by first | exact Or.inl rfl | exact Or.inr rfl)) pgs_nil))))))
    (pss_cons (ps_asg (pv 2) (kgTup K (n := 3) rfl (pgs_cons (pg_name (i := 7) sc_Superposer_conclusion.nd rfl (by first | exact Or.inl rfl | exact Or.inr rfl)) (pgs_cons (pg_name (i := 8) sc_Superposer_conclusion.nd rfl (by first | exact Or.inl rfl | exact Or.inr rfl)) (pgs_cons (pg_name (i := 9) sc_Superposer_conclusion.nd rfl (by first | exact Or.inl rfl | exact Or.inr rfl)) pgs_nil)))))
    (pss_cons (ps_if (pt_cmpR (kNe K hr.units) (pe_call G_is_atom (hr.mono (by omega)) (by rfl) E.f_is_atom.g E.f_is_atom.F.kp (b_is_atom E) .nil pass0 (pa_cons (pv 6) pa_nil)) (pe_call G_is_atom (hr.mono (by omega)) (by rfl) E.f_is_atom.g E.f_is_atom.F.kp (b_is_atom E) .nil pass0 (pa_cons (pv 9) pa_nil)) (nomark _))
      (pss_one (ps_ret pe_non))
      pss_nil)
    (pss_cons (ps_set (i := 10) sc_Superposer_conclusion.nd rfl (by first | exact Or.inl rfl | exact Or.inr rfl) (pe_call G_unify (hr.mono (by omega)) (by rfl) E.f_unify.g E.f_unify.F.kp (b_unify E) .nil pass0 (pa_cons (pe_lst (pa_cons (pe_tup (pa_cons (pv 6) (pa_cons (pv 9) pa_nil))) pa_nil)) pa_nil)))
    (pss_cons (ps_if ((pw_or (pt_cmpR op_isNN (pv 10) pe_non (nomark _)) (pw_or1 (pt_not (kTru K (pe_meth (pv 0) CSuperposer.cl CSuperposer.m_allowed G_allowed (hr.mono (by omega)) CSuperposer.b_allowed .nil pass0 (pa_cons (pv 3) (pa_cons (pv 4) (pa_cons (pv 7) (pa_cons (pv 8) (pa_cons (pv 10) pa_nil)))))) (fun _ => rfl))))).pt)
      (pss_one (ps_ret pe_non))
      pss_nil)
    (pss_cons (ps_set (i := 11) sc_Superposer_conclusion.nd rfl (by first | exact Or.inl rfl | exact Or.inr rfl) (pe_call G_side (hr.mono (by omega)) (by rfl) E.f_side.g E.f_side.F.kp (b_side E) .nil pass0 (pa_cons (pe_ix (kIx K) (kFld K (pv 0) rfl) (pv 7) (fun _ _ => rfl)) (pa_cons (pe_op op_sub pe_int (pv 8)) pa_nil))))
    (pss_cons (ps_set (i := 12) sc_Superposer_conclusion.nd rfl (by first | exact Or.inl rfl | exact Or.inr rfl) (pe_call G_with_side (hr.mono (by omega)) (by rfl) E.f_with_side.g E.f_with_side.F.kp (b_with_side E) .nil pass0 (pa_cons (pe_ix (kIx K) (kFld K (pv 0) rfl) (pv 3) (fun _ _ => rfl)) (pa_cons (pv 4) (pa_cons (pe_call G_put_at (hr.mono (by omega)) (by rfl) E.f_put_at.g E.f_put_at.F.kp (b_put_at E) .nil pass0 (pa_cons (pe_call G_side (hr.mono (by omega)) (by rfl) E.f_side.g E.f_side.F.kp (b_side E) .nil pass0 (pa_cons (pe_ix (kIx K) (kFld K (pv 0) rfl) (pv 3) (fun _ _ => rfl)) (pa_cons (pv 4) pa_nil))) (pa_cons (pv 5) (pa_cons (pv 11) pa_nil)))) pa_nil)))))
    (pss_cons (ps_set (i := 13) sc_Superposer_conclusion.nd rfl (by first | exact Or.inl rfl | exact Or.inr rfl) (pe_op (kAdd K) (pe_op (kAdd K) (pe_op (kAdd K) (pe_op (kAdd K) (pe_slice (kSl K) (kFld K (pv 0) rfl) po_none (po_some (pv 3))) (pe_tup (pa_cons (pv 12) pa_nil))) (pe_slice (kSl K) (kFld K (pv 0) rfl) (po_some (pe_op (kAdd K) (pv 3) pe_int)) po_none)) (pe_slice (kSl K) (kFld K (pv 0) rfl) po_none (po_some (pv 7)))) (pe_slice (kSl K) (kFld K (pv 0) rfl) (po_some (pe_op (kAdd K) (pv 7) pe_int)) po_none)))
    (pss_cons (ps_set (i := 14) sc_Superposer_conclusion.nd rfl (by first | exact Or.inl rfl | exact Or.inr rfl) (pe_call G_became (hr.mono (by omega)) (by rfl) E.f_became.g E.f_became.F.kp (b_became E) .nil pass0 (pa_cons (kFld K (pv 0) rfl) (pa_cons (pv 10) (pa_cons pe_int pa_nil)))))
    (pss_cons (ps_set (i := 15) sc_Superposer_conclusion.nd rfl (by first | exact Or.inl rfl | exact Or.inr rfl) (pe_call G_became (hr.mono (by omega)) (by rfl) E.f_became.g E.f_became.F.kp (b_became E) .nil pass0 (pa_cons (kFld K (pv 0) rfl) (pa_cons (pv 10) (pa_cons (kFld K (pv 0) rfl) pa_nil)))))
    (pss_one (ps_ret (pe_call G_conclude (hr.mono (by omega)) (by rfl) E.f_conclude.g E.f_conclude.F.kp (b_conclude E) .nil pass0 (pa_cons pe_str (pa_cons (pe_call G_put_clause (hr.mono (by omega)) (by rfl) E.f_put_clause.g E.f_put_clause.F.kp (b_put_clause E) .nil pass0 (pa_cons (pv 13) (pa_cons (pv 10) pa_nil))) (pa_cons (pv 3) (pa_cons (pv 4) (pa_cons (pv 5) (pa_cons (pv 7) (pa_cons (pv 8) (pa_cons (pv 14) (pa_cons (pv 15) pa_nil)))))))))))))))))))))), ?_⟩
  rintro ss r ⟨g, W, c, sc, d, sd, k, s, p, tm, j, t, lf, y, z, hc, hd0, hd, hvd, hk, hj, hs, ht, hat, hlf, rfl, rfl⟩
  have hy := List.mem_of_getElem? hk
  have hz := List.mem_of_getElem? hj
  have ys := side_ok E L hc hy hs
  have zs := side_ok E L hd hz ht
  have zr := side_ok E L hd hz (show 1 - t ≤ 1 by omega)
  have hsub := atP_subs p _ _ hat
  have ttok : Tok 4 tm := tok_sub ys.1 hsub
  have tmd : Md g tm := md_sub ys.2 hsub
  have ltok : Tok 4 lf := hlf ▸ zs.1
  have lmd : Md g lf := hlf ▸ zs.2
  have plen : p.length ≤ 4 := Nat.le_trans (atP_len p _ _ hat) ys.1.dep
  have fld : ∀ (i : Nat) (n : Str) (v : Dat) (δ : AS), supN[i]? = some n → (supL W c sc d sd)[i]? = some v → δ[0]? = some (some (.sh (supD CSuperposer.C W c sc d sd))) → Ev K T (tFld K (tVar 0) n) δ (.sh v) := fun i n v δ h1 h2 h3 =>
    ev_fld (ev_var h3 rfl) CSuperposer.cl (CSuperposer.na n (List.mem_of_getElem? h1)) (sup_look CSuperposer.C W c sc d sd i n v h1 h2)
  show Sx K T _ [some (.sh (supD CSuperposer.C W c sc d sd)), some (.sh (spD (k, s, p, tm))), some (.sh (ldD (j, t, lf))), none, none, none, none, none, none, none, none, none, none, none, none, none] _
  refine sx_seq (sx_asg (ev_var (i := 1) rfl rfl) (tg_tup (ds := [.int (k : Nat), .int (s : Nat), pcD p, tm.d]) (tg_cons tg_name (tg_cons tg_name (tg_cons tg_name (tg_cons tg_name tg_nil))))) ?_)
  refine sx_seq (sx_asg (ev_var (i := 2) rfl rfl) (tg_tup (ds := [.int (j : Nat), .int (t : Nat), lf.d]) (tg_cons tg_name (tg_cons tg_name (tg_cons tg_name tg_nil)))) ?_)
  show Sx K T _ [some (.sh (supD CSuperposer.C W c sc d sd)), some (.sh (spD (k, s, p, tm))), some (.sh (ldD (j, t, lf))), some (.sh (.int (k : Nat))), some (.sh (.int (s : Nat))), some (.sh (pcD p)), some (.sh tm.d), some (.sh (.int (j : Nat))), some (.sh (.int (t : Nat))), some (.sh lf.d), none, none, none, none, none, none] _
  have ey : ∀ a b e f q r, Ev K T (tOp (rIx K) (tFld K (tVar 0) "c") (tVar 3)) [some (.sh (supD CSuperposer.C W c sc d sd)), some (.sh (spD (k, s, p, tm))), some (.sh (ldD (j, t, lf))), some (.sh (.int (k : Nat))), some (.sh (.int (s : Nat))), some (.sh (pcD p)), some (.sh tm.d), some (.sh (.int (j : Nat))), some (.sh (.int (t : Nat))), some (.sh lf.d), a, b, e, f, q, r] (.sh y.d) := fun _ _ _ _ _ _ => ev_ixT (fld 1 _ c.d _ rfl rfl rfl) (ev_var rfl rfl) (atI_n (map_at hk))
  have ez : ∀ a b e f q r, Ev K T (tOp (rIx K) (tFld K (tVar 0) "moved") (tVar 7)) [some (.sh (supD CSuperposer.C W c sc d sd)), some (.sh (spD (k, s, p, tm))), some (.sh (ldD (j, t, lf))), some (.sh (.int (k : Nat))), some (.sh (.int (s : Nat))), some (.sh (pcD p)), some (.sh tm.d), some (.sh (.int (j : Nat))), some (.sh (.int (t : Nat))), some (.sh lf.d), a, b, e, f, q, r] (.sh z.d) := fun _ _ _ _ _ _ => ev_ixT (fld 6 _ (shiftCl (amt c) d).d _ rfl rfl rfl) (ev_var rfl rfl) (atI_n (map_at hj))
  refine sx_seq (sx_if (et_test (ev_neB (ev_call (ea_cons (ev_var rfl rfl) ea_nil) ⟨tm, rfl, rfl⟩) (ev_call (ea_cons (ev_var rfl rfl) ea_nil) ⟨lf, rfl, rfl⟩))) (fun h => ?_) fun h => sx_next ?_)
  · refine sx_ret ev_non ?_
    show Sl.sh .non = conS CConclusion.C (supAt W c sc d sd k s p tm j t lf y z)
    unfold supAt
    rw [if_pos (not_dec_t h)]
    rfl
  have hat' : ¬ tm.isAtom ≠ lf.isAtom := fun q => q (not_dec_f h)
  unfold supAt
  rw [if_neg hat']
  obtain ⟨m, hm⟩ := mgu_run ttok ltok tmd lmd
  have htk := fun τ => mgu_tok (τ := τ) ttok ltok tmd lmd
  refine sx_seq (sx_set (ev_call (ea_cons ((ev_lst (ds := [prD (tm, lf)]) (ea_cons (ev_tup (ds := [tm.d, lf.d]) (ea_cons (ev_var rfl rfl) (ea_cons (ev_var rfl rfl) ea_nil))) ea_nil)).shared) ea_nil) ⟨[(tm, lf)], m, _, _, mgu tm lf, hm, uinv0 ttok ltok tmd lmd, rfl, rfl⟩) ?_ (by cases mgu tm lf <;> rfl))
  cases hmg : mgu tm lf with
  | none =>
    show Sx K T _ [some (.sh (supD CSuperposer.C W c sc d sd)), some (.sh (spD (k, s, p, tm))), some (.sh (ldD (j, t, lf))), some (.sh (.int (k : Nat))), some (.sh (.int (s : Nat))), some (.sh (pcD p)), some (.sh tm.d), some (.sh (.int (j : Nat))), some (.sh (.int (t : Nat))), some (.sh lf.d), some (.sh .non), none, none, none, none, none] _
    refine sx_seq (sx_if (b := true) (et_or (b := true) (c := true) (et_test (ev_isN (ev_var rfl rfl) rfl)) fun h => nomatch h) (fun _ => ?_) fun h => nomatch h)
    exact sx_ret ev_non rfl
  | some τ =>
    have hτ := htk τ hmg
    show Sx K T _ [some (.sh (supD CSuperposer.C W c sc d sd)), some (.sh (spD (k, s, p, tm))), some (.sh (ldD (j, t, lf))), some (.sh (.int (k : Nat))), some (.sh (.int (s : Nat))), some (.sh (pcD p)), some (.sh tm.d), some (.sh (.int (j : Nat))), some (.sh (.int (t : Nat))), some (.sh lf.d), some (.ownD (Sub.d τ)), none, none, none, none, none] _
    refine sx_seq (sx_if (b := !supOk W c sc (shiftCl (amt c) d) sd k s j t y z τ) (et_or (b := false) (et_test (ev_isN (ev_ownD rfl) rfl)) fun _ => et_not (et_tru (ev_meth (s := .sh (.bl (supOk W c sc (shiftCl (amt c) d) sd k s j t y z τ))) (.inr rfl) (ev_var rfl rfl) (ea_cons (ev_var rfl rfl) (ea_cons (ev_var rfl rfl) (ea_cons (ev_var rfl rfl) (ea_cons (ev_var rfl rfl) (ea_cons (ev_ownD rfl) ea_nil))))) ⟨g, W, c, sc, d, sd, k, s, j, t, y, z, τ, hc, hd, hk, hj, hs, ht, hτ, rfl, rfl⟩) rfl)) (fun h => ?_) fun h => sx_next ?_)
    · have h : ¬ supOk W c sc (shiftCl (amt c) d) sd k s j t y z τ = true := by simpa using h
      refine sx_ret ev_non ?_
      show Sl.sh .non = conS CConclusion.C (if supOk W c sc (shiftCl (amt c) d) sd k s j t y z τ = true then _ else none)
      rw [if_neg h]
      rfl
    · have h : supOk W c sc (shiftCl (amt c) d) sd k s j t y z τ = true := by simpa using h
      have ct1 : ((1 : Int) - (t : Int)) = ((1 - t : Nat) : Int) := by omega
      refine sx_seq (sx_set (ev_call (ea_cons (ez _ _ _ _ _ _) (ea_cons ((ev_sub ev_int (ev_var rfl rfl)).of_eq (s' := .sh (.int ((1 - t : Nat) : Int))) (by rw [ct1])) ea_nil)) ⟨z, 1 - t, by omega, rfl, rfl⟩) ?_)
      show Sx K T _ [some (.sh (supD CSuperposer.C W c sc d sd)), some (.sh (spD (k, s, p, tm))), some (.sh (ldD (j, t, lf))), some (.sh (.int (k : Nat))), some (.sh (.int (s : Nat))), some (.sh (pcD p)), some (.sh tm.d), some (.sh (.int (j : Nat))), some (.sh (.int (t : Nat))), some (.sh lf.d), some (.ownD (Sub.d τ)), some (.sh (z.side (1 - t)).d), none, none, none, none] _
      refine sx_seq (sx_set (ev_call (ea_cons (ey _ _ _ _ _ _) (ea_cons (ev_var rfl rfl) (ea_cons (ev_call (ea_cons (ev_call (ea_cons (ey _ _ _ _ _ _) (ea_cons (ev_var rfl rfl) ea_nil)) ⟨y, s, hs, rfl, rfl⟩) (ea_cons (ev_var rfl rfl) (ea_cons (ev_var rfl rfl) ea_nil))) ⟨y.side s, p, z.side (1 - t), by omega, rfl, rfl⟩) ea_nil))) ⟨y, s, putAt (y.side s) p (z.side (1 - t)), rfl, rfl⟩) ?_)
      show Sx K T _ [some (.sh (supD CSuperposer.C W c sc d sd)), some (.sh (spD (k, s, p, tm))), some (.sh (ldD (j, t, lf))), some (.sh (.int (k : Nat))), some (.sh (.int (s : Nat))), some (.sh (pcD p)), some (.sh tm.d), some (.sh (.int (j : Nat))), some (.sh (.int (t : Nat))), some (.sh lf.d), some (.ownD (Sub.d τ)), some (.sh (z.side (1 - t)).d), some (.sh (supLit y s p z t).d), none, none, none] _
      have hltk : k < c.length := (List.getElem?_eq_some_iff.mp hk).1
      have hltj : j < (shiftCl (amt c) d).length := (List.getElem?_eq_some_iff.mp hj).1
      have hlen := hc.len
      have hlen2 := hd.len
      have hlit : Lok 8 (supLit y s p z t) := by
        have hp8 : Tok 8 (putAt (y.side s) p (z.side (1 - t))) := tok_putAt (n := 4) (m := 4) ys.1 zr.1
        have h0 := hc.ok y hy
        unfold supLit Lit.with
        split
        · exact ⟨hp8, h0.2.mono (by omega)⟩
        · exact ⟨h0.1.mono (by omega), hp8⟩
      have hwh : ∀ x ∈ supCl c (shiftCl (amt c) d) k s p j t y z, Lok 8 x := fun x hx => by
        rcases List.mem_append.mp hx with hx | hx
        · rcases List.mem_or_eq_of_mem_set hx with hx | rfl
          · have := hc.ok x hx; exact ⟨this.1.mono (by omega), this.2.mono (by omega)⟩
          · exact hlit
        · have := hd.ok x (List.mem_of_mem_eraseIdx hx); exact ⟨this.1.mono (by omega), this.2.mono (by omega)⟩
      have hwl : (supCl c (shiftCl (amt c) d) k s p j t y z).length ≤ 8 := by
        unfold supCl
        rw [List.length_append, List.length_set, List.length_eraseIdx]
        split <;> omega
      have hcok : Cok 22 (putCl τ (supCl c (shiftCl (amt c) d) k s p j t y z)) := cok_put hτ (n := 8) ⟨by omega, hwh⟩
      have l1 : (cut (c.map Lit.d) none (some (k : Int))).length ≤ 4 := by rw [cut_to _ _ (by rw [List.length_map]; omega), List.length_take, List.length_map]; omega
      have l2 : (cut (c.map Lit.d) (some ((k : Int) + 1)) none).length ≤ 4 := by rw [show ((k : Int) + 1) = ((k + 1 : Nat) : Int) by omega, cut_from _ _ (by rw [List.length_map]; omega), List.length_drop, List.length_map]; omega
      have l3 : (cut ((shiftCl (amt c) d).map Lit.d) none (some (j : Int))).length ≤ 4 := by rw [cut_to _ _ (by rw [List.length_map]; omega), List.length_take, List.length_map]; omega
      have l4 : (cut ((shiftCl (amt c) d).map Lit.d) (some ((j : Int) + 1)) none).length ≤ 4 := by rw [show ((j : Int) + 1) = ((j + 1 : Nat) : Int) by omega, cut_from _ _ (by rw [List.length_map]; omega), List.length_drop, List.length_map]; omega
      have fc : ∀ a b e f q r, Ev K T (tFld K (tVar 0) "c") [some (.sh (supD CSuperposer.C W c sc d sd)), some (.sh (spD (k, s, p, tm))), some (.sh (ldD (j, t, lf))), some (.sh (.int (k : Nat))), some (.sh (.int (s : Nat))), some (.sh (pcD p)), some (.sh tm.d), some (.sh (.int (j : Nat))), some (.sh (.int (t : Nat))), some (.sh lf.d), a, b, e, f, q, r] (.sh (.tup (c.map Lit.d))) := fun _ _ _ _ _ _ => fld 1 _ c.d _ rfl rfl rfl
      have fm : ∀ a b e f q r, Ev K T (tFld K (tVar 0) "moved") [some (.sh (supD CSuperposer.C W c sc d sd)), some (.sh (spD (k, s, p, tm))), some (.sh (ldD (j, t, lf))), some (.sh (.int (k : Nat))), some (.sh (.int (s : Nat))), some (.sh (pcD p)), some (.sh tm.d), some (.sh (.int (j : Nat))), some (.sh (.int (t : Nat))), some (.sh lf.d), a, b, e, f, q, r] (.sh (.tup ((shiftCl (amt c) d).map Lit.d))) := fun _ _ _ _ _ _ => fld 6 _ (shiftCl (amt c) d).d _ rfl rfl rfl
      refine sx_seq (sx_set ((ev_catT (ev_catT (ev_catT (ev_catT (ev_slT (fc _ _ _ _ _ _) eo_none (eo_some (ev_var rfl rfl))) (ev_tup (ds := [Lit.d (supLit y s p z t)]) (ea_cons (ev_var rfl rfl) ea_nil)) (by simp only [List.length_singleton]; omega)) (ev_slT (fc _ _ _ _ _ _) (eo_some (ev_add (ev_var rfl rfl) ev_int)) eo_none) (by simp only [List.length_append, List.length_singleton]; omega))
          (ev_slT (fm _ _ _ _ _ _) eo_none (eo_some (ev_var rfl rfl))) (by simp only [List.length_append, List.length_singleton]; omega)) (ev_slT (fm _ _ _ _ _ _) (eo_some (ev_add (ev_var rfl rfl) ev_int)) eo_none) (by simp only [List.length_append, List.length_singleton]; omega)).of_eq (s' := .sh (Cl.d (supCl c (shiftCl (amt c) d) k s p j t y z))) (by
            rw [set_cut E L c k _ hltk, List.append_assoc, erase_cut E L (shiftCl (amt c) d) j hltj, ← List.map_append]
            rfl)) ?_)
      show Sx K T _ [some (.sh (supD CSuperposer.C W c sc d sd)), some (.sh (spD (k, s, p, tm))), some (.sh (ldD (j, t, lf))), some (.sh (.int (k : Nat))), some (.sh (.int (s : Nat))), some (.sh (pcD p)), some (.sh tm.d), some (.sh (.int (j : Nat))), some (.sh (.int (t : Nat))), some (.sh lf.d), some (.ownD (Sub.d τ)), some (.sh (z.side (1 - t)).d), some (.sh (supLit y s p z t).d), some (.sh (Cl.d (supCl c (shiftCl (amt c) d) k s p j t y z))), none, none] _
      refine sx_seq (sx_set (ev_call (ea_cons (fld 1 _ c.d _ rfl rfl rfl) (ea_cons (ev_ownD rfl) (ea_cons ev_int ea_nil))) ⟨c, τ, 0, hc.cok, rfl, rfl⟩) ?_)
      refine sx_seq (sx_set (ev_call (ea_cons (fld 3 _ d.d _ rfl rfl rfl) (ea_cons (ev_ownD rfl) (ea_cons (fld 5 _ (.int (amt c)) _ rfl rfl rfl) ea_nil))) ⟨d, τ, amt c, hd0.cok, rfl, rfl⟩) ?_)
      show Sx K T _ [some (.sh (supD CSuperposer.C W c sc d sd)), some (.sh (spD (k, s, p, tm))), some (.sh (ldD (j, t, lf))), some (.sh (.int (k : Nat))), some (.sh (.int (s : Nat))), some (.sh (pcD p)), some (.sh tm.d), some (.sh (.int (j : Nat))), some (.sh (.int (t : Nat))), some (.sh lf.d), some (.ownD (Sub.d τ)), some (.sh (z.side (1 - t)).d), some (.sh (supLit y s p z t).d), some (.sh (Cl.d (supCl c (shiftCl (amt c) d) k s p j t y z))), some (.ownD (becS τ 0 c).d), some (.ownD (becS τ (amt c) d).d)] _
      refine sx_ret (ev_call (ea_cons ev_str (ea_cons (ev_call (ea_cons (ev_var rfl rfl) (ea_cons (ev_ownD rfl) ea_nil)) ⟨supCl c (shiftCl (amt c) d) k s p j t y z, τ, by omega, fun x hx => (hwh x hx).tn, rfl, rfl⟩) (ea_cons (ev_var rfl rfl) (ea_cons (ev_var rfl rfl) (ea_cons (ev_var rfl rfl) (ea_cons (ev_var rfl rfl) (ea_cons (ev_var rfl rfl) (ea_cons (ev_ownX rfl) (ea_cons (ev_ownX rfl) ea_nil)))))))))
        ⟨"superposition", putCl τ (supCl c (shiftCl (amt c) d) k s p j t y z), .int k, .int s, pcD p, .int j, .int t, becS τ 0 c, becS τ (amt c) d, hcok, sok_bec hτ hc.cok (fun x hx => by rw [Int.add_zero]; exact clVars_ok hc.cok x hx), sok_bec hτ hd0.cok hvd, rfl, rfl⟩) ?_
      show _ = conS CConclusion.C (if supOk W c sc (shiftCl (amt c) d) sd k s j t y z τ = true then _ else none)
      rw [if_pos h]
      rfl
def supSpot (W : Wts) (c : Cl) (sc : Option Nat) (d : Cl) (sd : Option Nat) (q : Spot) (l : Lead) : Option Conc := match c[q.1]?, (shiftCl (amt c) d)[l.1]? with
  | some y, some z => supAt W c sc d sd q.1 q.2.1 q.2.2.1 q.2.2.2 l.1 l.2.1 l.2.2 y z
  | _, _ => none
def supsL (W : Wts) (c : Cl) (sc : Option Nat) (d : Cl) (sd : Option Nat) : List Conc := ((spotsL c).flatMap fun q => ((leadsL (shiftCl (amt c) d)).mapIdx fun _ l => supSpot W c sc d sd q l).filterMap id)
end
end
end G3
end

section
set_option Elab.async false
set_option linter.all false
set_option maxRecDepth 100000
set_option maxHeartbeats 1000000
namespace G3
open PySem PySem.Spec PyProof.Rows L2 LamX NdefX
noncomputable section
open scoped Classical
theorem mem_flatIdx {α β : Type} {f : Nat → α → List β} {l : List α} {b : β} : b ∈ (l.mapIdx f).flatten ↔ ∃ i x, l[i]? = some x ∧ b ∈ f i x := by
  rw [List.mem_flatten]
  constructor
  · rintro ⟨m, hm, hb⟩
    obtain ⟨i, hi, rfl⟩ := List.mem_mapIdx.mp hm
    exact ⟨i, l[i], by simp [hi], hb⟩
  · rintro ⟨i, x, hx, hb⟩
    have hi := (List.getElem?_eq_some_iff.mp hx).1
    have e : l[i] = x := (List.getElem?_eq_some_iff.mp hx).2
    exact ⟨f i x, List.mem_mapIdx.mpr ⟨i, hi, by rw [e]⟩, hb⟩
theorem mem_spots {c : Cl} {q : Spot} : q ∈ spotsL c ↔ ∃ y, c[q.1]? = some y ∧ q.2.1 ≤ 1 ∧ atP (y.side q.2.1) q.2.2.1 = some q.2.2.2 ∧ q.2.2.2.isV = false := by
  unfold spotsL
  rw [mem_flatIdx]
  have key : ∀ k x s, q ∈ spotsS k x s ↔ q.1 = k ∧ q.2.1 = s ∧ atP (x.side s) q.2.2.1 = some q.2.2.2 ∧ q.2.2.2.isV = false := fun k x s => by
    unfold spotsS
    simp only [List.mem_map, List.mem_filter]
    constructor
    · rintro ⟨⟨p, t⟩, ⟨h1, h2⟩, rfl⟩
      exact ⟨rfl, rfl, (mem_plc _ _ _).mp h1, by simpa using h2⟩
    · rintro ⟨h1, h2, h3, h4⟩
      exact ⟨(q.2.2.1, q.2.2.2), ⟨(mem_plc _ _ _).mpr h3, by simpa using h4⟩, by rw [← h1, ← h2]⟩
  constructor
  · rintro ⟨i, x, hx, hq⟩
    unfold spotsK at hq
    rw [List.mem_append, key, key] at hq
    rcases hq with ⟨rfl, h2, h3, h4⟩ | ⟨rfl, h2, h3, h4⟩
    · exact ⟨x, hx, by omega, by rw [h2]; exact h3, h4⟩
    · exact ⟨x, hx, by omega, by rw [h2]; exact h3, h4⟩
  · rintro ⟨y, h1, h2, h3, h4⟩
    refine ⟨q.1, y, h1, ?_⟩
    unfold spotsK
    rw [List.mem_append, key, key]
    rcases (show q.2.1 = 0 ∨ q.2.1 = 1 by omega) with e | e
    · exact .inl ⟨rfl, e, by rw [← e]; exact h3, h4⟩
    · exact .inr ⟨rfl, e, by rw [← e]; exact h3, h4⟩
theorem mem_leads {c : Cl} {l : Lead} : l ∈ leadsL c ↔ ∃ z, c[l.1]? = some z ∧ z.p = true ∧ l.2.1 ≤ 1 ∧ z.side l.2.1 = l.2.2 := by
  unfold leadsL
  rw [mem_flatIdx]
  constructor
  · rintro ⟨i, x, hx, hl⟩
    unfold leadsK at hl
    split at hl
    · rename_i hp
      simp only [List.mem_cons, List.not_mem_nil, or_false] at hl
      rcases hl with rfl | rfl
      · exact ⟨x, hx, hp, Nat.zero_le _, rfl⟩
      · exact ⟨x, hx, hp, Nat.le_refl _, rfl⟩
    · cases hl
  · rintro ⟨z, h1, h2, h3, h4⟩
    refine ⟨l.1, z, h1, ?_⟩
    unfold leadsK
    rw [if_pos h2]
    obtain ⟨j, t, lf⟩ := l
    have h3 : t ≤ 1 := h3
    have h4 : z.side t = lf := h4
    rcases (show t = 0 ∨ t = 1 by omega) with e | e
    · subst e; subst h4; simp [Lit.side]
    · subst e; subst h4; simp [Lit.side]
theorem flatMap_take {α β : Type} (f : α → List β) (l : List α) (i : Nat) (x : α) (h : l[i]? = some x) : (l.take (i + 1)).flatMap f = (l.take i).flatMap f ++ f x := by
  rw [List.take_succ, h, List.flatMap_append]
  simp
section
variable {K : PySem.W.Frag} {mg : Str → Option Value} {P : Program} {w : World} {base : Heap} {T : List NTab} (E : Txt K mg) (L : LamAt E base T) (CConclusion : ClC K mg) (CSuperposer : ClS K mg)
theorem ev_sup {C : Addr} {E : XK} {δ : AS} {ta : TA} {W : Wts} {c : Cl} {sc : Option Nat} {d : Cl} {sd : Option Nat} (h : EvA K T ta δ [.sh (.wts W), .sh c.d, .sh (selD sc), .sh d.d, .sh (selD sd)]) (hc : Cok 4 c) (hd : Cok 4 d) : Ev K T (tMake C (spSup T C) [] E ta) δ (.sh (supD C W c sc d sd)) := fun H0 H σ r Q q =>
  h H0 H σ r _ fun vs H1 g1 t1 o1 x dx nx ndx hne => by
    have hlen := Paired.len o1
    match vs, hlen, o1 with
    | [v1, v2, v3, v4, v5], _, .cons a1 (.cons a2 (.cons a3 (.cons a4 (.cons a5 .nil)))) =>
      have g2 : Gr H1 (upd H1 dx (.own x)) := .new ndx
      have t2 := TabsN.new (o := .own x) t1 ndx
      have nx2 : upd H1 dx (.own x) x = none := by rw [upd_ne hne.symm]; exact nx
      have g3 : Gr (upd H1 dx (.own x)) (upd (upd H1 dx (.own x)) x (.ins C dx [])) := .new nx2
      have g := g2.trans g3
      refine ⟨x, dx, W, c, sc, d, sd, v1, v2, v3, v4, v5, rfl, upd_same, ⟨v1, _, rfl, Rp.mono g.stab _ a1, v2, _, rfl, Rp.mono g.stab _ a2, v3, _, rfl, Rp.mono g.stab _ a3, v4, _, rfl, Rp.mono g.stab _ a4, v5, _, rfl, Rp.mono g.stab _ a5, rfl⟩, TabsN.new t2 nx2, hc, hd, fun H' gs k n t' hx hf => ⟨rfl, ?_⟩⟩
      refine q _ H' ⟨fun b u e nt => ?_, fun b e => ?_⟩ t' ⟨x, dx, gs, rfl, hx, hf⟩
      · have e1 := g1.e b u e nt
        have hb : b ≠ x := fun z => by rw [z, nx] at e1; cases e1
        exact k b u hb (g.e b u e1 nt) nt
      · exact g1.n b (g.n b (n b e))
def R_superpositions : List Sl → Sl → Prop := fun ss r => ∃ (g : Prop) (W : Wts) (c : Cl) (sc : Option Nat) (d : Cl) (sd : Option Nat), Cg g c ∧ Cg g d ∧ Cg g (shiftCl (amt c) d) ∧ (∀ x ∈ clVars d, 0 ≤ x + amt c ∧ x + amt c < 1000) ∧ Csz c ∧
  ss = [.sh (.wts W), .sh c.d, .sh (selD sc), .sh d.d, .sh (selD sd)] ∧ r = .own ((supsL W c sc d sd).map (Conc.d CConclusion.C))
include L CSuperposer in
theorem ok_superpositions : Ok P w base T 105 E.f_superpositions ["weights", "c", "selected_c", "d", "selected_d"] (R_superpositions CConclusion) := by
  have G_Superposer := ok_supinit (P := P) (w := w) (base := base) (T := T) E CSuperposer
  have G_leads := ok_leads (P := P) (w := w) (base := base) (T := T) E
  have G_spots := ok_spots (P := P) (w := w) (base := base) (T := T) E
  have G_conclusion := ok_conclusion (P := P) (w := w) (base := base) (T := T) E L CConclusion CSuperposer
  refine fn_R E.f_superpositions.F sc_superpositions (fun ss s ⟨_, _, _, _, _, _, _, _, _, _, _, e, _⟩ => by rw [e]; rfl) fun cdv A outer s H _ hr => ⟨_, (pss_cons (ps_set (i := 5) sc_superpositions.nd rfl (by first | exact Or.inl rfl | exact Or.inr rfl) (pe_make CSuperposer.m G_Superposer (hr.mono (by omega)) (by rfl) CSuperposer.g CSuperposer.b .nil pass0 (pa_cons (pv 0) (pa_cons (pv 1) (pa_cons (pv 2) (pa_cons (pv 3) (pa_cons (pv 4) pa_nil)))))))
    (pss_cons (ps_set (i := 6) sc_superpositions.nd rfl (by first | exact Or.inl rfl | exact Or.inr rfl) (pe_call G_leads (hr.mono (by omega)) (by rfl) E.f_leads.g E.f_leads.F.kp (b_leads E) .nil pass0 (pa_cons (kFld K (pv 5) rfl) pa_nil)))
    (pss_cons (ps_set (i := 7) sc_superpositions.nd rfl (by first | exact Or.inl rfl | exact Or.inr rfl) (pe_lst pa_nil))
    (pss_cons (ps_for PassesOwn.never rfl (kiList K (pe_call G_spots (hr.mono (by omega)) (by rfl) E.f_spots.g E.f_spots.F.kp (b_spots E) .nil pass0 (pa_cons (pv 1) pa_nil))) (pg_name (i := 8) sc_superpositions.nd rfl (by first | exact Or.inl rfl | exact Or.inr rfl))
      (pss_one (ps_for PassesOwn.never rfl (kiList K (pv 6)) (pg_name (i := 9) sc_superpositions.nd rfl (by first | exact Or.inl rfl | exact Or.inr rfl))
        (pss_cons (ps_set (i := 10) sc_superpositions.nd rfl (by first | exact Or.inl rfl | exact Or.inr rfl) (pe_meth (pv 5) CSuperposer.cl CSuperposer.m_conclusion G_conclusion (hr.mono (by omega)) CSuperposer.b_conclusion .nil pass0 (pa_cons (pv 8) (pa_cons (pv 9) pa_nil))))
        (pss_one (ps_if (pt_cmpR op_notNN (pv 10) pe_non (nomark _))
          (pss_one (ps_expr (pe_bm PySem.F.plainAttrs_list PySem.F.slot_list_append PySem.F.type_list_append mt_append (pv 7) (pa_cons (pv 10) pa_nil))))
          pss_nil))))))
    (pss_one (ps_ret (pv 7))))))), ?_⟩
  rintro ss r ⟨g, W, c, sc, d, sd, hc, hd0, hd, hvd, hsz, rfl, rfl⟩
  show Sx K T _ [some (.sh (.wts W)), some (.sh c.d), some (.sh (selD sc)), some (.sh d.d), some (.sh (selD sd)), none, none, none, none, none, none] _
  refine sx_seq (sx_set (ev_sup (ea_cons (ev_var rfl rfl) (ea_cons (ev_var rfl rfl) (ea_cons (ev_var rfl rfl) (ea_cons (ev_var rfl rfl) (ea_cons (ev_var rfl rfl) ea_nil))))) hc.cok hd0.cok) ?_)
  show Sx K T _ [some (.sh (.wts W)), some (.sh c.d), some (.sh (selD sc)), some (.sh d.d), some (.sh (selD sd)), some (.sh (supD CSuperposer.C W c sc d sd)), none, none, none, none, none] _
  have emv : Ev K T (tFld K (tVar 5) "moved") [some (.sh (.wts W)), some (.sh c.d), some (.sh (selD sc)), some (.sh d.d), some (.sh (selD sd)), some (.sh (supD CSuperposer.C W c sc d sd)), none, none, none, none, none] (.sh (shiftCl (amt c) d).d) :=
    ev_fld (ev_var rfl rfl) CSuperposer.cl (CSuperposer.na _ (List.mem_of_getElem? (show supN[6]? = some _ from rfl))) (sup_look CSuperposer.C W c sc d sd 6 _ _ rfl rfl)
  have hdl := hd.len
  refine sx_seq (sx_set (ev_call (ea_cons emv ea_nil) ⟨shiftCl (amt c) d, by omega, rfl, rfl⟩) ?_)
  refine sx_seq (sx_set (ev_lst (ds := []) ea_nil) ?_)
  refine sx_freeze (i := 6) (ds := (leadsL (shiftCl (amt c) d)).map ldD) rfl ?_
  generalize hmv : shiftCl (amt c) d = mv at *
  have hll : (leadsL mv).length ≤ 8 := by
    have := flat_len leadsK 2 mv fun i x _ => by unfold leadsK; split <;> simp
    show ((mv.mapIdx leadsK).flatten).length ≤ 8
    omega
  have hsl : (spotsL c).length ≤ 1600 := by
    have := flat_len spotsK 400 c fun i x hx => by
      have h1 := spotsS_len i x 0
      have h2 := spotsS_len i x 1
      have h3 := hsz.side hx (s := 0) (by omega)
      have h4 := hsz.side hx (s := 1) (by omega)
      unfold spotsK
      rw [List.length_append]
      omega
    have := hc.len
    show ((c.mapIdx spotsK).flatten).length ≤ 1600
    omega
  have hF : ∀ q, (((leadsL mv).mapIdx fun _ l => supSpot W c sc d sd q l).filterMap id).length ≤ 8 := fun q => Nat.le_trans (fm_len _ _) hll
  unfold supsL
  rw [hmv]
  refine sx_seq (sx_for (ei_new (ev_call (ea_cons (ev_var rfl rfl) ea_nil) ⟨c, hsz, rfl, rfl⟩)) (fun i δ => ∃ o1 o2 o3, noScr [o3] = true ∧ noScr [o2, o3] = true ∧ δ = [some (.sh (.wts W)), some (.sh c.d), some (.sh (selD sc)), some (.sh d.d), some (.sh (selD sd)), some (.sh (supD CSuperposer.C W c sc d sd)), some (.lst ((leadsL mv).map ldD)), some (.own ((((spotsL c).take i).flatMap fun q => ((leadsL mv).mapIdx fun _ l => supSpot W c sc d sd q l).filterMap id).map (Conc.d CConclusion.C))), o1, o2, o3]) ⟨none, none, none, rfl, rfl, rfl⟩ ?_ ?_)
  · rintro i dd δ' hi ⟨o1, o2, o3, hsc, hsc2, rfl⟩
    obtain ⟨⟨k, s, p, tm⟩, hq, rfl⟩ := at_map hi
    obtain ⟨y, hk, hs, hat, hv⟩ := mem_spots.mp (List.mem_of_getElem? hq)
    have hk : c[k]? = some y := hk
    have hs : s ≤ 1 := hs
    have hat : atP (y.side s) p = some tm := hat
    have hfm := flatMap_take (fun q => ((leadsL mv).mapIdx fun _ l => supSpot W c sc d sd q l).filterMap id) (spotsL c) i _ hq
    have hl0 := flatMap_len 8 (fun q => ((leadsL mv).mapIdx fun _ l => supSpot W c sc d sd q l).filterMap id) ((spotsL c).take i) fun q _ => hF q
    rw [List.length_take] at hl0
    generalize hpre : ((spotsL c).take i).flatMap (fun q => ((leadsL mv).mapIdx fun _ l => supSpot W c sc d sd q l).filterMap id) = pre at hfm hl0 ⊢
    have hprel : pre.length ≤ 12800 := by omega
    refine ⟨_, _, tg_name, ?_⟩
    show Sx K T _ [some (.sh (.wts W)), some (.sh c.d), some (.sh (selD sc)), some (.sh d.d), some (.sh (selD sd)), some (.sh (supD CSuperposer.C W c sc d sd)), some (.lst ((leadsL mv).map ldD)), some (.own (pre.map (Conc.d CConclusion.C))), some (.sh (spD (k, s, p, tm))), o2, o3] _
    refine sx_for (ei_var (i := 6) rfl) (fun j δ => ∃ o2 o3, noScr [o3] = true ∧ noScr [o2, o3] = true ∧ δ = [some (.sh (.wts W)), some (.sh c.d), some (.sh (selD sc)), some (.sh d.d), some (.sh (selD sd)), some (.sh (supD CSuperposer.C W c sc d sd)), some (.lst ((leadsL mv).map ldD)), some (.own ((pre ++ ((((leadsL mv).take j).mapIdx fun _ l => supSpot W c sc d sd (k, s, p, tm) l).filterMap id)).map (Conc.d CConclusion.C))), some (.sh (spD (k, s, p, tm))), o2, o3]) ⟨o2, o3, hsc, hsc2, by simp⟩ ?_ ?_
    · rintro j dd δ' hj ⟨o2, o3, hsc, hsc2, rfl⟩
      obtain ⟨⟨jj, t, lf⟩, hl, rfl⟩ := at_map hj
      obtain ⟨z, hz, hzp, ht, hlf⟩ := mem_leads.mp (List.mem_of_getElem? hl)
      have hz : mv[jj]? = some z := hz
      have ht : t ≤ 1 := ht
      have hlf : z.side t = lf := hlf
      have hfm2 := fm_take (fun _ l => supSpot W c sc d sd (k, s, p, tm) l) (leadsL mv) j _ hl
      have hl2 := fm_len (fun _ l => supSpot W c sc d sd (k, s, p, tm) l) ((leadsL mv).take j)
      rw [List.length_take] at hl2
      have hss : supSpot W c sc d sd (k, s, p, tm) (jj, t, lf) = supAt W c sc d sd k s p tm jj t lf y z := by
        unfold supSpot
        rw [hmv]
        dsimp only
        rw [hk, hz]
      rw [hss] at hfm2
      generalize hpre2 : (((leadsL mv).take j).mapIdx fun _ l => supSpot W c sc d sd (k, s, p, tm) l).filterMap id = pre2 at hfm2 hl2 ⊢
      refine ⟨_, _, tg_name, ?_⟩
      show Sx K T _ [some (.sh (.wts W)), some (.sh c.d), some (.sh (selD sc)), some (.sh d.d), some (.sh (selD sd)), some (.sh (supD CSuperposer.C W c sc d sd)), some (.lst ((leadsL mv).map ldD)), some (.own ((pre ++ pre2).map (Conc.d CConclusion.C))), some (.sh (spD (k, s, p, tm))), some (.sh (ldD (jj, t, lf))), o3] _
      refine sx_seq (sx_set (ev_meth (.inl rfl) (ev_var (i := 5) rfl rfl) (ea_cons (ev_var rfl rfl) (ea_cons (ev_var rfl rfl) ea_nil)) ⟨g, W, c, sc, d, sd, k, s, p, tm, jj, t, lf, y, z, hc, hd0, hmv.symm ▸ hd, hvd, hk, hmv.symm ▸ hz, hs, ht, hat, hlf, rfl, rfl⟩) ?_ (by cases supAt W c sc d sd k s p tm jj t lf y z <;> rfl))
      cases hres : supAt W c sc d sd k s p tm jj t lf y z with
      | none =>
        rw [hres] at hfm2
        refine sx_if (b := false) (et_test (ev_notN (b := true) (ev_var rfl rfl) rfl)) (fun h => nomatch h) fun _ => sx_next ?_
        refine ⟨some (.sh (ldD (jj, t, lf))), some (.sh .non), rfl, rfl, ?_⟩
        rw [hfm2, Option.toList_none, List.append_nil]
        rfl
      | some x =>
        rw [hres] at hfm2
        refine sx_if (b := true) (et_test (ev_notN (b := false) (ev_var rfl rfl) rfl)) (fun _ => ?_) fun h => nomatch h
        refine sx_append rfl (ev_var rfl rfl) (by
          rw [List.length_map, List.length_append]
          omega) ?_
        refine ⟨some (.sh (ldD (jj, t, lf))), some (.sh (x.d CConclusion.C)), rfl, rfl, ?_⟩
        rw [hfm2, Option.toList_some, ← List.append_assoc, List.map_append (l₁ := pre ++ pre2)]
        rfl
    · rintro δ' ⟨o2, o3, hsc, hsc2, rfl⟩
      refine ⟨some (.sh (spD (k, s, p, tm))), o2, o3, hsc, hsc2, ?_⟩
      rw [List.length_map, List.take_length, hfm]
  · rintro δ' ⟨o1, o2, o3, _, _, rfl⟩
    refine sx_retOwn ?_ rfl
    rw [List.length_map, List.take_length]
    rfl
end
end
end G3
end

section
set_option Elab.async false
set_option linter.all false
set_option maxRecDepth 100000
set_option maxHeartbeats 1000000
namespace G3
open PySem PySem.Spec PyProof.Rows L2 LamX NdefX
noncomputable section
open scoped Classical
section
variable {K : PySem.W.Frag} {T : List NTab} {δ : AS} {t u : TS} {k k2 : Kon}
theorem Sx.mono (h : Sx K T t δ k) (n : ∀ δ, k.nx δ → k2.nx δ) (r : ∀ s, k.rt s → k2.rt s) (b : ∀ δ, k.bk δ → k2.bk δ) (c : ∀ δ, k.ct δ → k2.ct δ) : Sx K T t δ k2 := fun H0 H σ D rl o =>
  h H0 H σ D rl ⟨fun H σ δ r' q => o.nx H σ δ r' (n δ q), fun H v s g t' h' q => o.rt H v s g t' h' (r s q), fun H σ δ r' q => o.bk H σ δ r' (b δ q), fun H σ δ r' q => o.ct H σ δ r' (c δ q)⟩
theorem sx_seqI (mid : AS → Prop) (h : Sx K T t δ { k with nx := mid }) (h2 : ∀ δ', mid δ' → Sx K T u δ' k) : Sx K T (tSeq t u) δ k :=
  sx_seq (h.mono (k2 := { k with nx := fun δ' => Sx K T u δ' k }) (fun δ q => h2 δ q) (fun _ q => q) (fun _ q => q) fun _ q => q)
theorem sx_forget {i : Nat} (h : Sx K T t (δ.set i none) k) : Sx K T t δ k := fun H0 H σ D r o => h H0 H σ D r.forget o
end
/-! ### the law's own defs: what they draw -/
def cellB (ns : List Int) (k : Nat) : Int := let h := (ns[k]?).getD (7 * k + 3); if h < 0 then 1 - 2 * h else h
def cellF (ns : List Int) (k : Nat) : Int :=
  if cellB ns k < 1000000000 then
    let low := (cellB ns k * 48271 + k * 69621 + 11) % 2147483647
    let mid := (low * 16807 + k * 31 + 1013) % 2147483629
    let high := (mid * 39373 + low + 77) % 2147483587
    (high * 2147483647 + mid) * 2147483647 + low
  else cellB ns k
def iterT {α : Type} (f : Int → α × Int) : Nat → Int → List α × Int
  | 0, row => ([], row)
  | k + 1, row => let p := iterT f k row; let q := f p.2; (p.1 ++ [q.1], q.2)
theorem iterT_len {α : Type} (f : Int → α × Int) : ∀ (k : Nat) (row : Int), (iterT f k row).1.length = k
  | 0, _ => rfl
  | k + 1, row => by simp [iterT, iterT_len f k row]
theorem iterT_mem {α : Type} (f : Int → α × Int) : ∀ (k : Nat) (row : Int) (x : α), x ∈ (iterT f k row).1 → ∃ r, x = (f r).1
  | 0, _, _, h => by cases h
  | k + 1, row, x, h => by
    rcases List.mem_append.mp h with h | h
    · exact iterT_mem f k row x h
    · rw [List.mem_singleton] at h; exact ⟨_, h⟩
def symL : List Sy := [⟨2, 0, 0⟩, ⟨2, 1, 0⟩, ⟨3, 0, 0⟩, ⟨2, 2, 0⟩, ⟨3, 4, 1⟩]
def lawSym (n : Int) : Sy := (symL[(n % 5).toNat]?).getD ⟨2, 0, 0⟩
def lawTerm : Nat → Int → Tm × Int
  | 0, row => if row % 5 < 2 then (.v (row / 5 % 3), row / 5 / 3) else (.ap (lawSym (row / 5 / 3 % 5)) [], row / 5 / 3 / 5)
  | n + 1, row => if row % 5 < 2 then (.v (row / 5 % 3), row / 5 / 3) else
    (.ap (lawSym (row / 5 / 3 % 5)) (iterT (lawTerm n) (row / 5 % 3).toNat (row / 5 / 3 / 5)).1, (iterT (lawTerm n) (row / 5 % 3).toNat (row / 5 / 3 / 5)).2)
def lawGround : Nat → Int → Tm × Int
  | 0, row => (.ap (lawSym (row / 3 % 5)) [], row / 3 / 5)
  | n + 1, row => (.ap (lawSym (row / 3 % 5)) (iterT (lawGround n) (row % 3).toNat (row / 3 / 5)).1, (iterT (lawGround n) (row % 3).toNat (row / 3 / 5)).2)
def atomL : List Sy := [⟨1, 0, 0⟩, ⟨1, 1, 0⟩, ⟨4, 0, 0⟩, ⟨1, 2, 0⟩, ⟨5, 2, 0⟩, ⟨0, 0, 0⟩]
def lawAtom (n : Nat) (row : Int) : Tm × Int := (.ap ((atomL[(row % 6).toNat]?).getD ⟨1, 0, 0⟩) (iterT (lawTerm n) (row / 6 % 3).toNat (row / 6 / 3)).1, (iterT (lawTerm n) (row / 6 % 3).toNat (row / 6 / 3)).2)
def lawLit (n : Nat) (row : Int) : Lit × Int := if row / 2 % 3 = 0 then (⟨decide (row % 2 = 0), (lawAtom n (row / 6)).1, .ap ⟨0, 0, 0⟩ []⟩, (lawAtom n (row / 6)).2)
  else (⟨decide (row % 2 = 0), (lawTerm n (row / 6)).1, (lawTerm n (lawTerm n (row / 6)).2).1⟩, (lawTerm n (lawTerm n (row / 6)).2).2)
def clStep (n : Nat) (p : Cl × Int) : Cl × Int :=
  let l := lawLit n p.2
  let c := p.1 ++ [l.1]
  (if l.2 / 3 % 4 = 1 then c ++ [(c[(l.2 % c.length).toNat]?).getD l.1] else c, l.2)
def clIter (n : Nat) : Nat → Int → Cl × Int
  | 0, row => ([], row)
  | k + 1, row => clStep n (clIter n k row)
def lawCl (row : Int) (most n : Nat) : Cl := (clIter n (row % ((most : Int) + 1)).toNat (row / ((most : Int) + 1))).1
section
variable {K : PySem.W.Frag} {mg : Str → Option Value} {P : Program} {w : World} {base : Heap} {T : List NTab} (E : Txt K mg)
def R_law_cell : List Sl → Sl → Prop := fun ss r => ∃ (ns : List Int) (k : Nat), k ≤ 10 ∧ ss = [.scr ns, .sh (.int k)] ∧ r = .sh (.int (cellF ns k))
theorem ok_law_cell : Ok P w base T 1 E.f__law_cell ["_law_script", "_law_k"] R_law_cell := by
  refine fn_R E.f__law_cell.F sc__law_cell (fun ss s ⟨_, _, _, e, _⟩ => by rw [e]; rfl) fun cdv A outer s H _ hr => ⟨_, (pss_cons (ps_set (i := 2) sc__law_cell.nd rfl (by first | exact Or.inl rfl | exact Or.inr rfl) (pe_op (kAdd K) (pe_op op_mul pe_int (pv 1)) pe_int))
    (pss_cons (ps_if (pt_cmpR op_lt (pv 1) (pe_callB (kLen K) (by rfl) E.m_len PySem.boot_len (pa_cons (pv 0) pa_nil)) (nomark _))
      (pss_one (ps_set (i := 2) sc__law_cell.nd rfl (by first | exact Or.inl rfl | exact Or.inr rfl) (pe_ix (kIx K) (pv 0) (pv 1) (fun _ _ => rfl))))
      pss_nil)
    (pss_cons (ps_if (pt_cmpR op_lt (pv 2) pe_int (nomark _))
      (pss_one (ps_set (i := 2) sc__law_cell.nd rfl (by first | exact Or.inl rfl | exact Or.inr rfl) (pe_op op_sub pe_int (pe_op op_mul pe_int (pv 2)))))
      pss_nil)
    (pss_cons (ps_if (pt_cmpR op_lt (pv 2) pe_int (nomark _))
      (pss_cons (ps_set (i := 3) sc__law_cell.nd rfl (by first | exact Or.inl rfl | exact Or.inr rfl) (pe_op op_mod (pe_callTy call_intQ (by rfl) E.m_int (by decide +kernel) (pa_cons (pe_op (kAdd K) (pe_op (kAdd K) (pe_op op_mul (pv 2) pe_int) (pe_op op_mul (pv 1) pe_int)) pe_int) pa_nil)) pe_int))
      (pss_cons (ps_set (i := 4) sc__law_cell.nd rfl (by first | exact Or.inl rfl | exact Or.inr rfl) (pe_op op_mod (pe_callTy call_intQ (by rfl) E.m_int (by decide +kernel) (pa_cons (pe_op (kAdd K) (pe_op (kAdd K) (pe_op op_mul (pv 3) pe_int) (pe_op op_mul (pv 1) pe_int)) pe_int) pa_nil)) pe_int))
      (pss_cons (ps_set (i := 5) sc__law_cell.nd rfl (by first | exact Or.inl rfl | exact Or.inr rfl) (pe_op op_mod (pe_callTy call_intQ (by rfl) E.m_int (by decide +kernel) (pa_cons (pe_op (kAdd K) (pe_op (kAdd K) (pe_op op_mul (pv 4) pe_int) (pv 3)) pe_int) pa_nil)) pe_int))
      (pss_one (ps_set (i := 2) sc__law_cell.nd rfl (by first | exact Or.inl rfl | exact Or.inr rfl) (pe_op (kAdd K) (pe_op op_mul (pe_op (kAdd K) (pe_op op_mul (pv 5) pe_int) (pv 4)) pe_int) (pv 3)))))))
      pss_nil)
    (pss_one (ps_ret (pv 2))))))), ?_⟩
  rintro ss r ⟨ns, k, hk, rfl, rfl⟩
  show Sx K T _ [some (.scr ns), some (.sh (.int k)), none, none, none, none] _
  have c64 : ∀ (i j : Int), (-(2 ^ 64) < j ∧ j < 2 ^ 64) → CMul i j := fun i j h => .inr h
  have c64' : ∀ (i j : Int), (-(2 ^ 64) < i ∧ i < 2 ^ 64) → CMul i j := fun i j h => .inl h
  refine sx_seq (sx_set (ev_add (ev_mul ev_int (ev_var rfl rfl) (c64' _ _ (by decide))) ev_int) ?_)
  refine sx_seqI (fun δ => δ = [some (.scr ns), some (.sh (.int k)), some (.sh (.int ((ns[k]?).getD (7 * k + 3)))), none, none, none]) (sx_if (et_test (ev_lt (ev_var rfl rfl) (ev_CB (ea_cons (ev_var rfl rfl) ea_nil) cb_lenS))) (fun h => ?_) fun h => sx_next ?_) ?_
  · have h : (k : Int) < ns.length := of_decide_eq_true h
    have hk' : ns[k]? = some (ns[k]'(by omega)) := by simp
    refine sx_set (ev_ixS (ev_var rfl rfl) (ev_var rfl rfl) (atI_n hk')) ?_
    rw [hk']
    rfl
  · have h : ¬ (k : Int) < ns.length := of_decide_eq_false h
    show [some (Sl.scr ns), some (.sh (.int k)), some (.sh (.int (7 * k + 3))), none, none, none] = _
    rw [List.getElem?_eq_none (by omega)]
    rfl
  rintro _ rfl
  refine sx_seqI (fun δ => δ = [some (.scr ns), some (.sh (.int k)), some (.sh (.int (cellB ns k))), none, none, none]) (sx_if (et_test (ev_lt (ev_var rfl rfl) ev_int)) (fun h => ?_) fun h => sx_next ?_) ?_
  · refine sx_set (ev_sub ev_int (ev_mul ev_int (ev_var rfl rfl) (c64' _ _ (by decide)))) ?_
    unfold cellB
    rw [if_pos (of_decide_eq_true h)]
    rfl
  · unfold cellB
    rw [if_neg (of_decide_eq_false h)]
  rintro _ rfl
  refine sx_seqI (fun δ => δ[2]? = some (some (.sh (.int (cellF ns k))))) (sx_if (et_test (ev_lt (ev_var rfl rfl) ev_int)) (fun h => ?_) fun h => sx_next ?_) ?_
  · refine sx_seq (sx_set (ev_mod (ev_CB (ea_cons (ev_add (ev_add (ev_mul (ev_var rfl rfl) ev_int (c64 _ _ (by decide))) (ev_mul (ev_var rfl rfl) ev_int (c64 _ _ (by decide)))) ev_int) ea_nil) cb_int) ev_int (by decide)) ?_)
    refine sx_seq (sx_set (ev_mod (ev_CB (ea_cons (ev_add (ev_add (ev_mul (ev_var rfl rfl) ev_int (c64 _ _ (by decide))) (ev_mul (ev_var rfl rfl) ev_int (c64 _ _ (by decide)))) ev_int) ea_nil) cb_int) ev_int (by decide)) ?_)
    refine sx_seq (sx_set (ev_mod (ev_CB (ea_cons (ev_add (ev_add (ev_mul (ev_var rfl rfl) ev_int (c64 _ _ (by decide))) (ev_var rfl rfl)) ev_int) ea_nil) cb_int) ev_int (by decide)) ?_)
    refine sx_set (ev_add (ev_mul (ev_add (ev_mul (ev_var rfl rfl) ev_int (c64 _ _ (by decide))) (ev_var rfl rfl)) ev_int (c64 _ _ (by decide))) (ev_var rfl rfl)) ?_
    unfold cellF
    rw [if_pos (of_decide_eq_true h)]
    rfl
  · unfold cellF
    rw [if_neg (of_decide_eq_false h)]
    rfl
  intro δ' h
  exact sx_ret (ev_var h rfl) rfl
def R_law_symbol : List Sl → Sl → Prop := fun ss r => ∃ (n : Int), ss = [.sh (.int n)] ∧ r = .sh (lawSym n).d
theorem ok_law_symbol : Ok P w base T 1 E.f__law_symbol ["_law_n"] R_law_symbol := by
  refine fn_R E.f__law_symbol.F sc__law_symbol (fun ss s ⟨_, e, _⟩ => by rw [e]; rfl) fun cdv A outer s H _ hr => ⟨_, (pss_cons (ps_set (i := 1) sc__law_symbol.nd rfl (by first | exact Or.inl rfl | exact Or.inr rfl) (pe_lst (pa_cons (pe_tup (pa_cons pe_int (pa_cons pe_int (pa_cons pe_int pa_nil)))) (pa_cons (pe_tup (pa_cons pe_int (pa_cons pe_int (pa_cons pe_int pa_nil)))) (pa_cons (pe_tup (pa_cons pe_int (pa_cons pe_int (pa_cons pe_int pa_nil)))) (pa_cons (pe_tup (pa_cons pe_int (pa_cons pe_int (pa_cons pe_int pa_nil)))) (pa_cons (pe_tup (pa_cons pe_int (pa_cons pe_int (pa_cons pe_int pa_nil)))) pa_nil)))))))
    (pss_one (ps_ret (pe_ix (kIx K) (pv 1) (pe_op op_mod (pe_callTy call_intQ (by rfl) E.m_int (by decide +kernel) (pa_cons (pv 0) pa_nil)) pe_int) (fun _ _ => rfl))))), ?_⟩
  rintro ss r ⟨n, rfl, rfl⟩
  show Sx K T _ [some (.sh (.int n)), none] _
  have sy : ∀ {δ : AS} (a b c : Int), Ev K T (tTup (tCons (tC (.int a)) (tCons (tC (.int b)) (tCons (tC (.int c)) tNil)))) δ (.sh (Sy.d ⟨a, b, c⟩)) := fun a b c => ev_tup (ds := [.int a, .int b, .int c]) (ea_cons ev_int (ea_cons ev_int (ea_cons ev_int ea_nil)))
  refine sx_seq (sx_set (ev_lst (ds := symL.map Sy.d) (ea_cons (sy _ _ _) (ea_cons (sy _ _ _) (ea_cons (sy _ _ _) (ea_cons (sy _ _ _) (ea_cons (sy _ _ _) ea_nil)))))) ?_)
  have h5 : (n % 5) = ((n % 5).toNat : Int) := by omega
  have hlt : (n % 5).toNat < symL.length := by show _ < 5; omega
  refine sx_ret (ev_ixL (ev_own rfl) (ev_mod (ev_CB (ea_cons (ev_var rfl rfl) ea_nil) cb_int) ev_int (by decide)) (d := (lawSym n).d) ?_) rfl
  rw [h5]
  refine atI_n ?_
  rw [List.getElem?_map]
  unfold lawSym
  have : symL[(n % 5).toNat]? = some symL[(n % 5).toNat] := by simp [hlt]
  rw [this]
  rfl
end
end
end G3
end

section
set_option Elab.async false
set_option linter.all false
set_option maxRecDepth 100000
set_option maxHeartbeats 1000000
namespace G3
open PySem PySem.Spec PyProof.Rows L2 LamX NdefX
noncomputable section
open scoped Classical
def trD (p : Tm × Int) : Dat := .tup [p.1.d, .int p.2]
theorem rng_at {n i : Nat} {d : Dat} (h : (rng 0 n)[i]? = some d) : i < n ∧ d = .int (i : Nat) := by
  unfold rng at h
  rw [List.getElem?_map] at h
  have hi : i < n := by
    cases e : (List.range n)[i]? with
    | none => rw [e] at h; cases h
    | some j => have := (List.getElem?_eq_some_iff.mp e).1; simpa using this
  rw [List.getElem?_range hi] at h
  exact ⟨hi, by rw [← Option.some.inj h]; simp⟩
/-- the parts: the same loop in two defs -/
theorem iterT_zero {α : Type} (f : Int → α × Int) (row : Int) : iterT f 0 row = ([], row) := rfl
section
variable {K : PySem.W.Frag} {mg : Str → Option Value} {P : Program} {w : World} {base : Heap} {T : List NTab} (E : Txt K mg)
def R_law_term (n : Nat) : List Sl → Sl → Prop := fun ss r => ∃ (row : Int), ss = [.sh (.int row), .sh (.int n)] ∧ r = .sh (trD (lawTerm n row))
theorem ok_law_term : ∀ n, Ok P w base T (n + 1 + 1) E.f__law_term ["_law_row", "_law_deep"] (R_law_term n) := by
  refine rec_R (fun n ss s ⟨_, e, _⟩ => by rw [e]; rfl) fun n G__law_term => ?_
  have G__law_symbol := ok_law_symbol (P := P) (w := w) (base := base) (T := T) E
  refine fn_R E.f__law_term.F sc__law_term (fun ss s ⟨_, e, _⟩ => by rw [e]; rfl) fun cdv A outer s H _ hr => ⟨_, (pss_cons (ps_set (i := 2) sc__law_term.nd rfl (by first | exact Or.inl rfl | exact Or.inr rfl) (pe_op op_mod (pe_callTy call_intQ (by rfl) E.m_int (by decide +kernel) (pa_cons (pv 0) pa_nil)) pe_int))
    (pss_cons (ps_set (i := 0) sc__law_term.nd rfl (by first | exact Or.inl rfl | exact Or.inr rfl) (pe_op op_fdiv (pv 0) pe_int))
    (pss_cons (ps_if (pt_cmpR op_lt (pv 2) pe_int (nomark _))
      (pss_one (ps_ret (pe_tup (pa_cons (pe_op op_mod (pe_callTy call_intQ (by rfl) E.m_int (by decide +kernel) (pa_cons (pv 0) pa_nil)) pe_int) (pa_cons (pe_op op_fdiv (pv 0) pe_int) pa_nil)))))
      pss_nil)
    (pss_cons (ps_set (i := 3) sc__law_term.nd rfl (by first | exact Or.inl rfl | exact Or.inr rfl) (pe_op op_mod (pe_callTy call_intQ (by rfl) E.m_int (by decide +kernel) (pa_cons (pv 0) pa_nil)) pe_int))
    (pss_cons (ps_set (i := 0) sc__law_term.nd rfl (by first | exact Or.inl rfl | exact Or.inr rfl) (pe_op op_fdiv (pv 0) pe_int))
    (pss_cons (ps_if (pt_cmpR (kEq K hr.units) (pv 1) pe_int (nomark _))
      (pss_one (ps_set (i := 3) sc__law_term.nd rfl (by first | exact Or.inl rfl | exact Or.inr rfl) pe_int))
      pss_nil)
    (pss_cons (ps_set (i := 4) sc__law_term.nd rfl (by first | exact Or.inl rfl | exact Or.inr rfl) (pe_call G__law_symbol (hr.mono (by omega)) (by rfl) E.f__law_symbol.g E.f__law_symbol.F.kp (b__law_symbol E) .nil pass0 (pa_cons (pe_op op_mod (pe_callTy call_intQ (by rfl) E.m_int (by decide +kernel) (pa_cons (pv 0) pa_nil)) pe_int) pa_nil)))
    (pss_cons (ps_set (i := 0) sc__law_term.nd rfl (by first | exact Or.inl rfl | exact Or.inr rfl) (pe_op op_fdiv (pv 0) pe_int))
    (pss_cons (ps_set (i := 5) sc__law_term.nd rfl (by first | exact Or.inl rfl | exact Or.inr rfl) (pe_lst pa_nil))
    (pss_cons (ps_for PassesOwn.never rfl (pi_range1 rfl E.m_range (pa_cons (pv 3) pa_nil)) (pg_name (i := 6) sc__law_term.nd rfl (by first | exact Or.inl rfl | exact Or.inr rfl))
      (pss_cons (ps_set (i := 7) sc__law_term.nd rfl (by first | exact Or.inl rfl | exact Or.inr rfl) (pe_call G__law_term (hr.mono (by omega)) (by rfl) E.f__law_term.g E.f__law_term.F.kp (b__law_term E) .nil pass0 (pa_cons (pv 0) (pa_cons (pe_op op_sub (pv 1) pe_int) pa_nil))))
      (pss_cons (ps_expr (pe_bm PySem.F.plainAttrs_list PySem.F.slot_list_append PySem.F.type_list_append mt_append (pv 5) (pa_cons (pe_ix (kIx K) (pv 7) pe_int (fun _ _ => rfl)) pa_nil)))
      (pss_one (ps_set (i := 0) sc__law_term.nd rfl (by first | exact Or.inl rfl | exact Or.inr rfl) (pe_ix (kIx K) (pv 7) pe_int (fun _ _ => rfl)))))))
    (pss_one (ps_ret (pe_tup (pa_cons (pe_tup (pa_cons (pv 4) (pa_cons (pe_callTy (kTuple K) (by rfl) E.m_tuple (by decide +kernel) (pa_cons (pv 5) pa_nil)) pa_nil))) (pa_cons (pv 0) pa_nil))))))))))))))), ?_⟩
  rintro ss r ⟨row, rfl, rfl⟩
  show Sx K T _ [some (.sh (.int row)), some (.sh (.int n)), none, none, none, none, none, none] _
  have i2 : (1 : Int) < 5 := by decide
  refine sx_seq (sx_set (ev_mod (ev_CB (ea_cons (ev_var rfl rfl) ea_nil) cb_int) ev_int (by decide)) ?_)
  refine sx_seq (sx_set (ev_fdiv (ev_var rfl rfl) ev_int ⟨by decide, by decide⟩) ?_)
  show Sx K T _ [some (.sh (.int (row / 5))), some (.sh (.int n)), some (.sh (.int (row % 5))), none, none, none, none, none] _
  refine sx_seq (sx_if (et_test (ev_lt (ev_var rfl rfl) ev_int)) (fun h => ?_) fun h => sx_next ?_)
  · refine sx_ret (ev_tup (ds := [.int (row / 5 % 3), .int (row / 5 / 3)]) (ea_cons (ev_mod (ev_CB (ea_cons (ev_var rfl rfl) ea_nil) cb_int) ev_int (by decide)) (ea_cons (ev_fdiv (ev_var rfl rfl) ev_int ⟨by decide, by decide⟩) ea_nil))) ?_
    have e : lawTerm n row = (.v (row / 5 % 3), row / 5 / 3) := by
      cases n with
      | zero => rw [lawTerm, if_pos (of_decide_eq_true h)]
      | succ n => rw [lawTerm, if_pos (of_decide_eq_true h)]
    rw [e]
    show Sl.sh _ = Sl.sh (.tup [(Tm.v (row / 5 % 3)).d, .int (row / 5 / 3)])
    rw [d_v]
  · have hk : ¬ row % 5 < 2 := of_decide_eq_false h
    refine sx_seq (sx_set (ev_mod (ev_CB (ea_cons (ev_var rfl rfl) ea_nil) cb_int) ev_int (by decide)) ?_)
    refine sx_seq (sx_set (ev_fdiv (ev_var rfl rfl) ev_int ⟨by decide, by decide⟩) ?_)
    show Sx K T _ [some (.sh (.int (row / 5 / 3))), some (.sh (.int n)), some (.sh (.int (row % 5))), some (.sh (.int (row / 5 % 3))), none, none, none, none] _
    refine sx_seqI (fun δ => δ = [some (.sh (.int (row / 5 / 3))), some (.sh (.int n)), some (.sh (.int (row % 5))), some (.sh (.int (if n = 0 then 0 else row / 5 % 3))), none, none, none, none]) (sx_if (et_test (ev_eqI (ev_var rfl rfl) ev_int)) (fun h => ?_) fun h => sx_next ?_) ?_
    · have h : (n : Int) = 0 := of_decide_eq_true h
      refine sx_set ev_int ?_
      rw [if_pos (by omega)]
      rfl
    · have h : ¬ (n : Int) = 0 := of_decide_eq_false h
      rw [if_neg (by omega)]
    rintro _ rfl
    generalize hm : (if n = 0 then 0 else row / 5 % 3) = many
    have hmb : 0 ≤ many ∧ many < 3 := by rw [← hm]; split <;> omega
    refine sx_seq (sx_set (ev_call (ea_cons (ev_mod (ev_CB (ea_cons (ev_var rfl rfl) ea_nil) cb_int) ev_int (by decide)) ea_nil) ⟨row / 5 / 3 % 5, rfl, rfl⟩) ?_)
    refine sx_seq (sx_set (ev_fdiv (ev_var rfl rfl) ev_int ⟨by decide, by decide⟩) ?_)
    refine sx_seq (sx_set (ev_lst (ds := []) ea_nil) ?_)
    show Sx K T _ [some (.sh (.int (row / 5 / 3 / 5))), some (.sh (.int n)), some (.sh (.int (row % 5))), some (.sh (.int many)), some (.sh (lawSym (row / 5 / 3 % 5)).d), some (.own []), none, none] _
    refine sx_seq (sx_for (ei_rng (n := many) (ea_cons (ev_var rfl rfl) ea_nil) (by omega) (by omega)) (fun i δ => ∃ o1 o2, noScr [o1, o2] = true ∧ δ = [some (.sh (.int (iterT (lawTerm (n - 1)) i (row / 5 / 3 / 5)).2)), some (.sh (.int n)), some (.sh (.int (row % 5))), some (.sh (.int many)), some (.sh (lawSym (row / 5 / 3 % 5)).d), some (.own ((iterT (lawTerm (n - 1)) i (row / 5 / 3 / 5)).1.map Tm.d)), o1, o2]) ⟨none, none, rfl, rfl⟩ ?_ ?_)
    · rintro i d δ' hi ⟨o1, o2, hsc, rfl⟩
      obtain ⟨hil, rfl⟩ := rng_at hi
      have hn : n ≠ 0 := fun z => by rw [if_pos z] at hm; omega
      have hlen := iterT_len (lawTerm (n - 1)) i (row / 5 / 3 / 5)
      have hst : iterT (lawTerm (n - 1)) (i + 1) (row / 5 / 3 / 5) = ((iterT (lawTerm (n - 1)) i (row / 5 / 3 / 5)).1 ++ [(lawTerm (n - 1) (iterT (lawTerm (n - 1)) i (row / 5 / 3 / 5)).2).1], (lawTerm (n - 1) (iterT (lawTerm (n - 1)) i (row / 5 / 3 / 5)).2).2) := rfl
      rw [hst]
      generalize iterT (lawTerm (n - 1)) i (row / 5 / 3 / 5) = p at hlen ⊢
      refine ⟨_, _, tg_name, ?_⟩
      show Sx K T _ [some (.sh (.int p.2)), some (.sh (.int n)), some (.sh (.int (row % 5))), some (.sh (.int many)), some (.sh (lawSym (row / 5 / 3 % 5)).d), some (.own (p.1.map Tm.d)), some (.sh (.int (i : Nat))), o2] _
      refine sx_seq (sx_set (ev_call (ea_cons (ev_var rfl rfl) (ea_cons ((ev_sub (ev_var rfl rfl) ev_int).of_eq (s' := .sh (.int ((n - 1 : Nat) : Int))) (by congr 2; omega)) ea_nil)) ⟨n - 1, by omega, p.2, rfl, rfl⟩) ?_)
      generalize lawTerm (n - 1) p.2 = q
      show Sx K T _ [some (.sh (.int p.2)), some (.sh (.int n)), some (.sh (.int (row % 5))), some (.sh (.int many)), some (.sh (lawSym (row / 5 / 3 % 5)).d), some (.own (p.1.map Tm.d)), some (.sh (.int (i : Nat))), some (.sh (.tup [q.1.d, .int q.2]))] _
      refine sx_seq (sx_append rfl (ev_ixT (ev_var rfl rfl) ev_int rfl) (by rw [List.length_map, hlen]; omega) ?_)
      refine sx_set (ev_ixT (ev_var rfl rfl) ev_int rfl) ?_
      refine ⟨some (.sh (.int (i : Nat))), some (.sh (.tup [q.1.d, .int q.2])), rfl, ?_⟩
      rw [List.map_append]
      rfl
    · rintro δ' ⟨o1, o2, _, rfl⟩
      rw [rng_len]
      have e : lawTerm n row = (.ap (lawSym (row / 5 / 3 % 5)) (iterT (lawTerm (n - 1)) many.toNat (row / 5 / 3 / 5)).1, (iterT (lawTerm (n - 1)) many.toNat (row / 5 / 3 / 5)).2) := by
        cases n with
        | zero =>
          rw [if_pos rfl] at hm
          rw [lawTerm, if_neg hk, ← hm]
          rfl
        | succ n =>
          rw [if_neg (by omega)] at hm
          rw [lawTerm, if_neg hk, ← hm]
          rfl
      rw [e]
      refine sx_ret (ev_tup (ds := [.tup [(lawSym (row / 5 / 3 % 5)).d, .tup ((iterT (lawTerm (n - 1)) many.toNat (row / 5 / 3 / 5)).1.map Tm.d)], .int (iterT (lawTerm (n - 1)) many.toNat (row / 5 / 3 / 5)).2]) (ea_cons (ev_tup (ds := [(lawSym (row / 5 / 3 % 5)).d, .tup ((iterT (lawTerm (n - 1)) many.toNat (row / 5 / 3 / 5)).1.map Tm.d)]) (ea_cons (ev_var rfl rfl) (ea_cons (ev_CB (ea_cons (ev_own rfl) ea_nil) cb_tup) ea_nil))) (ea_cons (ev_var rfl rfl) ea_nil))) ?_
      show Sl.sh _ = Sl.sh (.tup [(Tm.ap _ _).d, _])
      rw [d_ap]
def R_law_ground (n : Nat) : List Sl → Sl → Prop := fun ss r => ∃ (row : Int), ss = [.sh (.int row), .sh (.int n)] ∧ r = .sh (trD (lawGround n row))
theorem ok_law_ground : ∀ n, Ok P w base T (n + 1 + 1) E.f__law_ground ["_law_row", "_law_deep"] (R_law_ground n) := by
  refine rec_R (fun n ss s ⟨_, e, _⟩ => by rw [e]; rfl) fun n G__law_ground => ?_
  have G__law_symbol := ok_law_symbol (P := P) (w := w) (base := base) (T := T) E
  refine fn_R E.f__law_ground.F sc__law_ground (fun ss s ⟨_, e, _⟩ => by rw [e]; rfl) fun cdv A outer s H _ hr => ⟨_, (pss_cons (ps_set (i := 2) sc__law_ground.nd rfl (by first | exact Or.inl rfl | exact Or.inr rfl) (pe_op op_mod (pe_callTy call_intQ (by rfl) E.m_int (by decide +kernel) (pa_cons (pv 0) pa_nil)) pe_int))
    (pss_cons (ps_set (i := 0) sc__law_ground.nd rfl (by first | exact Or.inl rfl | exact Or.inr rfl) (pe_op op_fdiv (pv 0) pe_int))
    (pss_cons (ps_if (pt_cmpR (kEq K hr.units) (pv 1) pe_int (nomark _))
      (pss_one (ps_set (i := 2) sc__law_ground.nd rfl (by first | exact Or.inl rfl | exact Or.inr rfl) pe_int))
      pss_nil)
    (pss_cons (ps_set (i := 3) sc__law_ground.nd rfl (by first | exact Or.inl rfl | exact Or.inr rfl) (pe_call G__law_symbol (hr.mono (by omega)) (by rfl) E.f__law_symbol.g E.f__law_symbol.F.kp (b__law_symbol E) .nil pass0 (pa_cons (pe_op op_mod (pe_callTy call_intQ (by rfl) E.m_int (by decide +kernel) (pa_cons (pv 0) pa_nil)) pe_int) pa_nil)))
    (pss_cons (ps_set (i := 0) sc__law_ground.nd rfl (by first | exact Or.inl rfl | exact Or.inr rfl) (pe_op op_fdiv (pv 0) pe_int))
    (pss_cons (ps_set (i := 4) sc__law_ground.nd rfl (by first | exact Or.inl rfl | exact Or.inr rfl) (pe_lst pa_nil))
    (pss_cons (ps_for PassesOwn.never rfl (pi_range1 rfl E.m_range (pa_cons (pv 2) pa_nil)) (pg_name (i := 5) sc__law_ground.nd rfl (by first | exact Or.inl rfl | exact Or.inr rfl))
      (pss_cons (ps_set (i := 6) sc__law_ground.nd rfl (by first | exact Or.inl rfl | exact Or.inr rfl) (pe_call G__law_ground (hr.mono (by omega)) (by rfl) E.f__law_ground.g E.f__law_ground.F.kp (b__law_ground E) .nil pass0 (pa_cons (pv 0) (pa_cons (pe_op op_sub (pv 1) pe_int) pa_nil))))
      (pss_cons (ps_expr (pe_bm PySem.F.plainAttrs_list PySem.F.slot_list_append PySem.F.type_list_append mt_append (pv 4) (pa_cons (pe_ix (kIx K) (pv 6) pe_int (fun _ _ => rfl)) pa_nil)))
      (pss_one (ps_set (i := 0) sc__law_ground.nd rfl (by first | exact Or.inl rfl | exact Or.inr rfl) (pe_ix (kIx K) (pv 6) pe_int (fun _ _ => rfl)))))))
    (pss_one (ps_ret (pe_tup (pa_cons (pe_tup (pa_cons (pv 3) (pa_cons (pe_callTy (kTuple K) (by rfl) E.m_tuple (by decide +kernel) (pa_cons (pv 4) pa_nil)) pa_nil))) (pa_cons (pv 0) pa_nil)))))))))))), ?_⟩
  rintro ss r ⟨row, rfl, rfl⟩
  show Sx K T _ [some (.sh (.int row)), some (.sh (.int n)), none, none, none, none, none] _
  refine sx_seq (sx_set (ev_mod (ev_CB (ea_cons (ev_var rfl rfl) ea_nil) cb_int) ev_int (by decide)) ?_)
  refine sx_seq (sx_set (ev_fdiv (ev_var rfl rfl) ev_int ⟨by decide, by decide⟩) ?_)
  show Sx K T _ [some (.sh (.int (row / 3))), some (.sh (.int n)), some (.sh (.int (row % 3))), none, none, none, none] _
  refine sx_seqI (fun δ => δ = [some (.sh (.int (row / 3))), some (.sh (.int n)), some (.sh (.int (if n = 0 then 0 else row % 3))), none, none, none, none]) (sx_if (et_test (ev_eqI (ev_var rfl rfl) ev_int)) (fun h => ?_) fun h => sx_next ?_) ?_
  · have h : (n : Int) = 0 := of_decide_eq_true h
    refine sx_set ev_int ?_
    rw [if_pos (by omega)]
    rfl
  · have h : ¬ (n : Int) = 0 := of_decide_eq_false h
    rw [if_neg (by omega)]
  rintro _ rfl
  generalize hm : (if n = 0 then 0 else row % 3) = many
  have hmb : 0 ≤ many ∧ many < 3 := by rw [← hm]; split <;> omega
  refine sx_seq (sx_set (ev_call (ea_cons (ev_mod (ev_CB (ea_cons (ev_var rfl rfl) ea_nil) cb_int) ev_int (by decide)) ea_nil) ⟨row / 3 % 5, rfl, rfl⟩) ?_)
  refine sx_seq (sx_set (ev_fdiv (ev_var rfl rfl) ev_int ⟨by decide, by decide⟩) ?_)
  refine sx_seq (sx_set (ev_lst (ds := []) ea_nil) ?_)
  show Sx K T _ [some (.sh (.int (row / 3 / 5))), some (.sh (.int n)), some (.sh (.int many)), some (.sh (lawSym (row / 3 % 5)).d), some (.own []), none, none] _
  refine sx_seq (sx_for (ei_rng (n := many) (ea_cons (ev_var rfl rfl) ea_nil) (by omega) (by omega)) (fun i δ => ∃ o1 o2, noScr [o1, o2] = true ∧ δ = [some (.sh (.int (iterT (lawGround (n - 1)) i (row / 3 / 5)).2)), some (.sh (.int n)), some (.sh (.int many)), some (.sh (lawSym (row / 3 % 5)).d), some (.own ((iterT (lawGround (n - 1)) i (row / 3 / 5)).1.map Tm.d)), o1, o2]) ⟨none, none, rfl, rfl⟩ ?_ ?_)
  · rintro i d δ' hi ⟨o1, o2, hsc, rfl⟩
    obtain ⟨hil, rfl⟩ := rng_at hi
    have hn : n ≠ 0 := fun z => by rw [if_pos z] at hm; omega
    have hlen := iterT_len (lawGround (n - 1)) i (row / 3 / 5)
    have hst : iterT (lawGround (n - 1)) (i + 1) (row / 3 / 5) = ((iterT (lawGround (n - 1)) i (row / 3 / 5)).1 ++ [(lawGround (n - 1) (iterT (lawGround (n - 1)) i (row / 3 / 5)).2).1], (lawGround (n - 1) (iterT (lawGround (n - 1)) i (row / 3 / 5)).2).2) := rfl
    rw [hst]
    generalize iterT (lawGround (n - 1)) i (row / 3 / 5) = p at hlen ⊢
    refine ⟨_, _, tg_name, ?_⟩
    show Sx K T _ [some (.sh (.int p.2)), some (.sh (.int n)), some (.sh (.int many)), some (.sh (lawSym (row / 3 % 5)).d), some (.own (p.1.map Tm.d)), some (.sh (.int (i : Nat))), o2] _
    refine sx_seq (sx_set (ev_call (ea_cons (ev_var rfl rfl) (ea_cons ((ev_sub (ev_var rfl rfl) ev_int).of_eq (s' := .sh (.int ((n - 1 : Nat) : Int))) (by congr 2; omega)) ea_nil)) ⟨n - 1, by omega, p.2, rfl, rfl⟩) ?_)
    generalize lawGround (n - 1) p.2 = q
    show Sx K T _ [some (.sh (.int p.2)), some (.sh (.int n)), some (.sh (.int many)), some (.sh (lawSym (row / 3 % 5)).d), some (.own (p.1.map Tm.d)), some (.sh (.int (i : Nat))), some (.sh (.tup [q.1.d, .int q.2]))] _
    refine sx_seq (sx_append rfl (ev_ixT (ev_var rfl rfl) ev_int rfl) (by rw [List.length_map, hlen]; omega) ?_)
    refine sx_set (ev_ixT (ev_var rfl rfl) ev_int rfl) ?_
    refine ⟨some (.sh (.int (i : Nat))), some (.sh (.tup [q.1.d, .int q.2])), rfl, ?_⟩
    rw [List.map_append]
    rfl
  · rintro δ' ⟨o1, o2, _, rfl⟩
    rw [rng_len]
    have e : lawGround n row = (.ap (lawSym (row / 3 % 5)) (iterT (lawGround (n - 1)) many.toNat (row / 3 / 5)).1, (iterT (lawGround (n - 1)) many.toNat (row / 3 / 5)).2) := by
      cases n with
      | zero =>
        rw [if_pos rfl] at hm
        rw [lawGround, ← hm]
        rfl
      | succ n =>
        rw [if_neg (by omega)] at hm
        rw [lawGround, ← hm]
        rfl
    rw [e]
    refine sx_ret (ev_tup (ds := [.tup [(lawSym (row / 3 % 5)).d, .tup ((iterT (lawGround (n - 1)) many.toNat (row / 3 / 5)).1.map Tm.d)], .int (iterT (lawGround (n - 1)) many.toNat (row / 3 / 5)).2]) (ea_cons (ev_tup (ds := [(lawSym (row / 3 % 5)).d, .tup ((iterT (lawGround (n - 1)) many.toNat (row / 3 / 5)).1.map Tm.d)]) (ea_cons (ev_var rfl rfl) (ea_cons (ev_CB (ea_cons (ev_own rfl) ea_nil) cb_tup) ea_nil))) (ea_cons (ev_var rfl rfl) ea_nil))) ?_
    show Sl.sh _ = Sl.sh (.tup [(Tm.ap _ _).d, _])
    rw [d_ap]
def R_law_atom (n : Nat) : List Sl → Sl → Prop := fun ss r => ∃ (row : Int), ss = [.sh (.int row), .sh (.int n)] ∧ r = .sh (trD (lawAtom n row))
theorem ok_law_atom (n : Nat) : Ok P w base T (n + 3) E.f__law_atom ["_law_row", "_law_deep"] (R_law_atom n) := by
  have G__law_term := ok_law_term (P := P) (w := w) (base := base) (T := T) E n
  refine fn_R E.f__law_atom.F sc__law_atom (fun ss s ⟨_, e, _⟩ => by rw [e]; rfl) fun cdv A outer s H _ hr => ⟨_, (pss_cons (ps_set (i := 2) sc__law_atom.nd rfl (by first | exact Or.inl rfl | exact Or.inr rfl) (pe_lst (pa_cons (pe_tup (pa_cons pe_int (pa_cons pe_int (pa_cons pe_int pa_nil)))) (pa_cons (pe_tup (pa_cons pe_int (pa_cons pe_int (pa_cons pe_int pa_nil)))) (pa_cons (pe_tup (pa_cons pe_int (pa_cons pe_int (pa_cons pe_int pa_nil)))) (pa_cons (pe_tup (pa_cons pe_int (pa_cons pe_int (pa_cons pe_int pa_nil)))) (pa_cons (pe_tup (pa_cons pe_int (pa_cons pe_int (pa_cons pe_int pa_nil)))) (pa_cons (pe_tup (pa_cons pe_int (pa_cons pe_int (pa_cons pe_int pa_nil)))) pa_nil))))))))
    (pss_cons (ps_set (i := 3) sc__law_atom.nd rfl (by first | exact Or.inl rfl | exact Or.inr rfl) (pe_ix (kIx K) (pv 2) (pe_op op_mod (pe_callTy call_intQ (by rfl) E.m_int (by decide +kernel) (pa_cons (pv 0) pa_nil)) pe_int) (fun _ _ => rfl)))
    (pss_cons (ps_set (i := 0) sc__law_atom.nd rfl (by first | exact Or.inl rfl | exact Or.inr rfl) (pe_op op_fdiv (pv 0) pe_int))
    (pss_cons (ps_set (i := 4) sc__law_atom.nd rfl (by first | exact Or.inl rfl | exact Or.inr rfl) (pe_op op_mod (pe_callTy call_intQ (by rfl) E.m_int (by decide +kernel) (pa_cons (pv 0) pa_nil)) pe_int))
    (pss_cons (ps_set (i := 0) sc__law_atom.nd rfl (by first | exact Or.inl rfl | exact Or.inr rfl) (pe_op op_fdiv (pv 0) pe_int))
    (pss_cons (ps_set (i := 5) sc__law_atom.nd rfl (by first | exact Or.inl rfl | exact Or.inr rfl) (pe_lst pa_nil))
    (pss_cons (ps_for PassesOwn.never rfl (pi_range1 rfl E.m_range (pa_cons (pv 4) pa_nil)) (pg_name (i := 6) sc__law_atom.nd rfl (by first | exact Or.inl rfl | exact Or.inr rfl))
      (pss_cons (ps_set (i := 7) sc__law_atom.nd rfl (by first | exact Or.inl rfl | exact Or.inr rfl) (pe_call G__law_term (hr.mono (by omega)) (by rfl) E.f__law_term.g E.f__law_term.F.kp (b__law_term E) .nil pass0 (pa_cons (pv 0) (pa_cons (pv 1) pa_nil))))
      (pss_cons (ps_expr (pe_bm PySem.F.plainAttrs_list PySem.F.slot_list_append PySem.F.type_list_append mt_append (pv 5) (pa_cons (pe_ix (kIx K) (pv 7) pe_int (fun _ _ => rfl)) pa_nil)))
      (pss_one (ps_set (i := 0) sc__law_atom.nd rfl (by first | exact Or.inl rfl | exact Or.inr rfl) (pe_ix (kIx K) (pv 7) pe_int (fun _ _ => rfl)))))))
    (pss_one (ps_ret (pe_tup (pa_cons (pe_tup (pa_cons (pv 3) (pa_cons (pe_callTy (kTuple K) (by rfl) E.m_tuple (by decide +kernel) (pa_cons (pv 5) pa_nil)) pa_nil))) (pa_cons (pv 0) pa_nil)))))))))))), ?_⟩
  rintro ss r ⟨row, rfl, rfl⟩
  show Sx K T _ [some (.sh (.int row)), some (.sh (.int n)), none, none, none, none, none, none] _
  have sy : ∀ {δ : AS} (a b c : Int), Ev K T (tTup (tCons (tC (.int a)) (tCons (tC (.int b)) (tCons (tC (.int c)) tNil)))) δ (.sh (Sy.d ⟨a, b, c⟩)) := fun a b c => ev_tup (ds := [.int a, .int b, .int c]) (ea_cons ev_int (ea_cons ev_int (ea_cons ev_int ea_nil)))
  refine sx_seq (sx_set (ev_lst (ds := atomL.map Sy.d) (ea_cons (sy _ _ _) (ea_cons (sy _ _ _) (ea_cons (sy _ _ _) (ea_cons (sy _ _ _) (ea_cons (sy _ _ _) (ea_cons (sy _ _ _) ea_nil))))))) ?_)
  have h6 : (row % 6) = ((row % 6).toNat : Int) := by omega
  have hlt : (row % 6).toNat < atomL.length := by show _ < 6; omega
  have hat : atI (atomL.map Sy.d) (row % 6) = some (((atomL[(row % 6).toNat]?).getD ⟨1, 0, 0⟩).d) := by
    rw [h6]
    refine atI_n ?_
    rw [List.getElem?_map]
    rw [Int.toNat_natCast]
    have : atomL[(row % 6).toNat]? = some atomL[(row % 6).toNat] := by simp [hlt]
    rw [this]
    rfl
  refine sx_seq (sx_set (ev_ixL (ev_own rfl) (ev_mod (ev_CB (ea_cons (ev_var rfl rfl) ea_nil) cb_int) ev_int (by decide)) hat) ?_)
  refine sx_seq (sx_set (ev_fdiv (ev_var rfl rfl) ev_int ⟨by decide, by decide⟩) ?_)
  refine sx_seq (sx_set (ev_mod (ev_CB (ea_cons (ev_var rfl rfl) ea_nil) cb_int) ev_int (by decide)) ?_)
  refine sx_seq (sx_set (ev_fdiv (ev_var rfl rfl) ev_int ⟨by decide, by decide⟩) ?_)
  refine sx_seq (sx_set (ev_lst (ds := []) ea_nil) ?_)
  have hmb : 0 ≤ row / 6 % 3 ∧ row / 6 % 3 < 3 := by omega
  have er : lawAtom n row = (.ap ((atomL[(row % 6).toNat]?).getD ⟨1, 0, 0⟩) (iterT (lawTerm n) (row / 6 % 3).toNat (row / 6 / 3)).1, (iterT (lawTerm n) (row / 6 % 3).toNat (row / 6 / 3)).2) := rfl
  rw [er]
  generalize (atomL[(row % 6).toNat]?).getD ⟨1, 0, 0⟩ = sym
  generalize row / 6 / 3 = r0
  generalize row / 6 % 3 = many at hmb ⊢
  show Sx K T _ [some (.sh (.int r0)), some (.sh (.int n)), some (.own (atomL.map Sy.d)), some (.sh sym.d), some (.sh (.int many)), some (.own []), none, none] _
  refine sx_freeze (i := 2) (ds := atomL.map Sy.d) rfl ?_
  refine sx_seq (sx_for (ei_rng (n := many) (ea_cons (ev_var rfl rfl) ea_nil) (by omega) (by omega)) (fun i δ => ∃ o1 o2, noScr [o1, o2] = true ∧ δ = [some (.sh (.int (iterT (lawTerm n) i r0).2)), some (.sh (.int n)), some (.lst (atomL.map Sy.d)), some (.sh sym.d), some (.sh (.int many)), some (.own ((iterT (lawTerm n) i r0).1.map Tm.d)), o1, o2]) ⟨none, none, rfl, rfl⟩ ?_ ?_)
  · rintro i d δ' hi ⟨o1, o2, hsc, rfl⟩
    obtain ⟨hil, rfl⟩ := rng_at hi
    have hlen := iterT_len (lawTerm n) i r0
    have hst : iterT (lawTerm n) (i + 1) r0 = ((iterT (lawTerm n) i r0).1 ++ [(lawTerm n (iterT (lawTerm n) i r0).2).1], (lawTerm n (iterT (lawTerm n) i r0).2).2) := rfl
    rw [hst]
    generalize iterT (lawTerm n) i r0 = p at hlen ⊢
    refine ⟨_, _, tg_name, ?_⟩
    show Sx K T _ [some (.sh (.int p.2)), some (.sh (.int n)), some (.lst (atomL.map Sy.d)), some (.sh sym.d), some (.sh (.int many)), some (.own (p.1.map Tm.d)), some (.sh (.int (i : Nat))), o2] _
    refine sx_seq (sx_set (ev_call (ea_cons (ev_var rfl rfl) (ea_cons (ev_var rfl rfl) ea_nil)) ⟨p.2, rfl, rfl⟩) ?_)
    generalize lawTerm n p.2 = q
    show Sx K T _ [some (.sh (.int p.2)), some (.sh (.int n)), some (.lst (atomL.map Sy.d)), some (.sh sym.d), some (.sh (.int many)), some (.own (p.1.map Tm.d)), some (.sh (.int (i : Nat))), some (.sh (.tup [q.1.d, .int q.2]))] _
    refine sx_seq (sx_append rfl (ev_ixT (ev_var rfl rfl) ev_int rfl) (by rw [List.length_map, hlen]; omega) ?_)
    refine sx_set (ev_ixT (ev_var rfl rfl) ev_int rfl) ?_
    refine ⟨some (.sh (.int (i : Nat))), some (.sh (.tup [q.1.d, .int q.2])), rfl, ?_⟩
    rw [List.map_append]
    rfl
  · rintro δ' ⟨o1, o2, _, rfl⟩
    rw [rng_len]
    refine sx_ret (ev_tup (ds := [.tup [sym.d, .tup ((iterT (lawTerm n) many.toNat r0).1.map Tm.d)], .int (iterT (lawTerm n) many.toNat r0).2]) (ea_cons (ev_tup (ds := [sym.d, .tup ((iterT (lawTerm n) many.toNat r0).1.map Tm.d)]) (ea_cons (ev_var rfl rfl) (ea_cons (ev_CB (ea_cons (ev_own rfl) ea_nil) cb_tup) ea_nil))) (ea_cons (ev_var rfl rfl) ea_nil))) ?_
    show Sl.sh _ = Sl.sh (.tup [(Tm.ap _ _).d, _])
    rw [d_ap]
end
end
end G3
end

section
set_option Elab.async false
set_option linter.all false
set_option maxRecDepth 100000
set_option maxHeartbeats 1000000
namespace G3
open PySem PySem.Spec PyProof.Rows L2 LamX NdefX
noncomputable section
open scoped Classical
theorem clIter_len (n : Nat) : ∀ (k : Nat) (row : Int), k ≤ (clIter n k row).1.length ∧ (clIter n k row).1.length ≤ 2 * k
  | 0, _ => ⟨Nat.le_refl _, Nat.le_refl _⟩
  | k + 1, row => by
    have h := clIter_len n k row
    rw [clIter]
    unfold clStep
    dsimp only
    split <;> simp <;> omega
def lawPos (row : Int) (most n : Nat) : Cl := if row / 5 % 3 = 0 then (lawCl row most n).map fun x => ⟨true, x.l, x.r⟩ else lawCl row most n
def negL (c : Cl) : List Nat := (List.range c.length).filter fun k => !((c[k]?).map Lit.p).getD true
def lawSel (c : Cl) (row : Int) : Option Nat := if negL c = [] ∨ row % 3 = 0 then none else (negL c)[(row / 3 % (negL c).length).toNat]?
section
variable {K : PySem.W.Frag} {mg : Str → Option Value} {P : Program} {w : World} {base : Heap} {T : List NTab} (E : Txt K mg)
def ltD (p : Lit × Int) : Dat := .tup [p.1.d, .int p.2]
def R_law_literal (n : Nat) : List Sl → Sl → Prop := fun ss r => ∃ (row : Int), ss = [.sh (.int row), .sh (.int n)] ∧ r = .sh (ltD (lawLit n row))
theorem ok_law_literal (n : Nat) : Ok P w base T (n + 4) E.f__law_literal ["_law_row", "_law_deep"] (R_law_literal n) := by
  have G__law_term := ok_law_term (P := P) (w := w) (base := base) (T := T) E n
  have G__law_atom := ok_law_atom (P := P) (w := w) (base := base) (T := T) E n
  refine fn_R E.f__law_literal.F sc__law_literal (fun ss s ⟨_, e, _⟩ => by rw [e]; rfl) fun cdv A outer s H _ hr => ⟨_, (pss_cons (ps_set (i := 2) sc__law_literal.nd rfl (by first | exact Or.inl rfl | exact Or.inr rfl) (pe_cmpR (kEq K hr.units) (pe_op op_mod (pe_callTy call_intQ (by rfl) E.m_int (by decide +kernel) (pa_cons (pv 0) pa_nil)) pe_int) pe_int (nomark _)))
    (pss_cons (ps_set (i := 3) sc__law_literal.nd rfl (by first | exact Or.inl rfl | exact Or.inr rfl) (pe_op op_mod (pe_op op_fdiv (pv 0) pe_int) pe_int))
    (pss_cons (ps_set (i := 0) sc__law_literal.nd rfl (by first | exact Or.inl rfl | exact Or.inr rfl) (pe_op op_fdiv (pv 0) pe_int))
    (pss_cons (ps_if (pt_cmpR (kEq K hr.units) (pv 3) pe_int (nomark _))
      (pss_cons (ps_set (i := 4) sc__law_literal.nd rfl (by first | exact Or.inl rfl | exact Or.inr rfl) (pe_call G__law_atom (hr.mono (by omega)) (by rfl) E.f__law_atom.g E.f__law_atom.F.kp (b__law_atom E) .nil pass0 (pa_cons (pv 0) (pa_cons (pv 1) pa_nil))))
      (pss_one (ps_ret (pe_tup (pa_cons (pe_tup (pa_cons (pv 2) (pa_cons (pe_ix (kIx K) (pv 4) pe_int (fun _ _ => rfl)) (pa_cons (pe_tup (pa_cons (pe_tup (pa_cons pe_int (pa_cons pe_int (pa_cons pe_int pa_nil)))) (pa_cons (pe_tup pa_nil) pa_nil))) pa_nil)))) (pa_cons (pe_ix (kIx K) (pv 4) pe_int (fun _ _ => rfl)) pa_nil))))))
      pss_nil)
    (pss_cons (ps_set (i := 5) sc__law_literal.nd rfl (by first | exact Or.inl rfl | exact Or.inr rfl) (pe_call G__law_term (hr.mono (by omega)) (by rfl) E.f__law_term.g E.f__law_term.F.kp (b__law_term E) .nil pass0 (pa_cons (pv 0) (pa_cons (pv 1) pa_nil))))
    (pss_cons (ps_set (i := 6) sc__law_literal.nd rfl (by first | exact Or.inl rfl | exact Or.inr rfl) (pe_call G__law_term (hr.mono (by omega)) (by rfl) E.f__law_term.g E.f__law_term.F.kp (b__law_term E) .nil pass0 (pa_cons (pe_ix (kIx K) (pv 5) pe_int (fun _ _ => rfl)) (pa_cons (pv 1) pa_nil))))
    (pss_one (ps_ret (pe_tup (pa_cons (pe_tup (pa_cons (pv 2) (pa_cons (pe_ix (kIx K) (pv 5) pe_int (fun _ _ => rfl)) (pa_cons (pe_ix (kIx K) (pv 6) pe_int (fun _ _ => rfl)) pa_nil)))) (pa_cons (pe_ix (kIx K) (pv 6) pe_int (fun _ _ => rfl)) pa_nil))))))))))), ?_⟩
  rintro ss r ⟨row, rfl, rfl⟩
  show Sx K T _ [some (.sh (.int row)), some (.sh (.int n)), none, none, none, none, none] _
  refine sx_seq (sx_set (ev_eqI (ev_mod (ev_CB (ea_cons (ev_var rfl rfl) ea_nil) cb_int) ev_int (by decide)) ev_int) ?_)
  refine sx_seq (sx_set (ev_mod (ev_fdiv (ev_var rfl rfl) ev_int ⟨by decide, by decide⟩) ev_int (by decide)) ?_)
  refine sx_seq (sx_set (ev_fdiv (ev_var rfl rfl) ev_int ⟨by decide, by decide⟩) ?_)
  show Sx K T _ [some (.sh (.int (row / 6))), some (.sh (.int n)), some (.sh (.bl (decide (row % 2 = 0)))), some (.sh (.int (row / 2 % 3))), none, none, none] _
  refine sx_seq (sx_if (et_test (ev_eqI (ev_var rfl rfl) ev_int)) (fun h => ?_) fun h => sx_next ?_)
  · have h := of_decide_eq_true h
    refine sx_seq (sx_set (ev_call (ea_cons (ev_var rfl rfl) (ea_cons (ev_var rfl rfl) ea_nil)) ⟨row / 6, rfl, rfl⟩) ?_)
    have e : lawLit n row = (⟨decide (row % 2 = 0), (lawAtom n (row / 6)).1, .ap ⟨0, 0, 0⟩ []⟩, (lawAtom n (row / 6)).2) := by unfold lawLit; rw [if_pos h]
    rw [e]
    generalize lawAtom n (row / 6) = q
    show Sx K T _ [some (.sh (.int (row / 6))), some (.sh (.int n)), some (.sh (.bl (decide (row % 2 = 0)))), some (.sh (.int (row / 2 % 3))), some (.sh (.tup [q.1.d, .int q.2])), none, none] _
    refine sx_ret (ev_tup (ds := [.tup [.bl (decide (row % 2 = 0)), q.1.d, .tup [.tup [.int 0, .int 0, .int 0], .tup []]], .int q.2]) (ea_cons (ev_tup (ds := [.bl (decide (row % 2 = 0)), q.1.d, .tup [.tup [.int 0, .int 0, .int 0], .tup []]]) (ea_cons (ev_var rfl rfl) (ea_cons (ev_ixT (ev_var rfl rfl) ev_int rfl) (ea_cons (ev_tup (ds := [.tup [.int 0, .int 0, .int 0], .tup []]) (ea_cons (ev_tup (ds := [.int 0, .int 0, .int 0]) (ea_cons ev_int (ea_cons ev_int (ea_cons ev_int ea_nil)))) (ea_cons (ev_tup (ds := []) ea_nil) ea_nil))) ea_nil)))) (ea_cons (ev_ixT (ev_var rfl rfl) ev_int rfl) ea_nil))) ?_
    show Sl.sh _ = Sl.sh (.tup [.tup [.bl (decide (row % 2 = 0)), q.1.d, (Tm.ap ⟨0, 0, 0⟩ []).d], .int q.2])
    rw [d_ap]
    rfl
  · have h := of_decide_eq_false h
    refine sx_seq (sx_set (ev_call (ea_cons (ev_var rfl rfl) (ea_cons (ev_var rfl rfl) ea_nil)) ⟨row / 6, rfl, rfl⟩) ?_)
    have e : lawLit n row = (⟨decide (row % 2 = 0), (lawTerm n (row / 6)).1, (lawTerm n (lawTerm n (row / 6)).2).1⟩, (lawTerm n (lawTerm n (row / 6)).2).2) := by unfold lawLit; rw [if_neg h]
    rw [e]
    generalize lawTerm n (row / 6) = q
    show Sx K T _ [some (.sh (.int (row / 6))), some (.sh (.int n)), some (.sh (.bl (decide (row % 2 = 0)))), some (.sh (.int (row / 2 % 3))), none, some (.sh (.tup [q.1.d, .int q.2])), none] _
    refine sx_seq (sx_set (ev_call (ea_cons (ev_ixT (ev_var rfl rfl) ev_int rfl) (ea_cons (ev_var rfl rfl) ea_nil)) ⟨q.2, rfl, rfl⟩) ?_)
    generalize lawTerm n q.2 = u
    show Sx K T _ [some (.sh (.int (row / 6))), some (.sh (.int n)), some (.sh (.bl (decide (row % 2 = 0)))), some (.sh (.int (row / 2 % 3))), none, some (.sh (.tup [q.1.d, .int q.2])), some (.sh (.tup [u.1.d, .int u.2]))] _
    exact sx_ret (ev_tup (ds := [.tup [.bl (decide (row % 2 = 0)), q.1.d, u.1.d], .int u.2]) (ea_cons (ev_tup (ds := [.bl (decide (row % 2 = 0)), q.1.d, u.1.d]) (ea_cons (ev_var rfl rfl) (ea_cons (ev_ixT (ev_var rfl rfl) ev_int rfl) (ea_cons (ev_ixT (ev_var rfl rfl) ev_int rfl) ea_nil)))) (ea_cons (ev_ixT (ev_var rfl rfl) ev_int rfl) ea_nil))) rfl
def R_law_clause (n : Nat) : List Sl → Sl → Prop := fun ss r => ∃ (row : Int) (most : Nat), most ≤ 3 ∧ ss = [.sh (.int row), .sh (.int most), .sh (.int n)] ∧ r = .sh (lawCl row most n).d
theorem ok_law_clause (n : Nat) : Ok P w base T (n + 5) E.f__law_clause ["_law_row", "_law_most", "_law_deep"] (R_law_clause n) := by
  have G__law_literal := ok_law_literal (P := P) (w := w) (base := base) (T := T) E n
  refine fn_R E.f__law_clause.F sc__law_clause (fun ss s ⟨_, _, _, e, _⟩ => by rw [e]; rfl) fun cdv A outer s H _ hr => ⟨_, (pss_cons (ps_set (i := 3) sc__law_clause.nd rfl (by first | exact Or.inl rfl | exact Or.inr rfl) (pe_op op_mod (pe_callTy call_intQ (by rfl) E.m_int (by decide +kernel) (pa_cons (pv 0) pa_nil)) (pe_op (kAdd K) (pv 1) pe_int)))
    (pss_cons (ps_set (i := 0) sc__law_clause.nd rfl (by first | exact Or.inl rfl | exact Or.inr rfl) (pe_op op_fdiv (pv 0) (pe_op (kAdd K) (pv 1) pe_int)))
    (pss_cons (ps_set (i := 4) sc__law_clause.nd rfl (by first | exact Or.inl rfl | exact Or.inr rfl) (pe_lst pa_nil))
    (pss_cons (ps_for PassesOwn.never rfl (pi_range1 rfl E.m_range (pa_cons (pv 3) pa_nil)) (pg_name (i := 5) sc__law_clause.nd rfl (by first | exact Or.inl rfl | exact Or.inr rfl))
      (pss_cons (ps_set (i := 6) sc__law_clause.nd rfl (by first | exact Or.inl rfl | exact Or.inr rfl) (pe_call G__law_literal (hr.mono (by omega)) (by rfl) E.f__law_literal.g E.f__law_literal.F.kp (b__law_literal E) .nil pass0 (pa_cons (pv 0) (pa_cons (pv 2) pa_nil))))
      (pss_cons (ps_expr (pe_bm PySem.F.plainAttrs_list PySem.F.slot_list_append PySem.F.type_list_append mt_append (pv 4) (pa_cons (pe_ix (kIx K) (pv 6) pe_int (fun _ _ => rfl)) pa_nil)))
      (pss_cons (ps_set (i := 0) sc__law_clause.nd rfl (by first | exact Or.inl rfl | exact Or.inr rfl) (pe_ix (kIx K) (pv 6) pe_int (fun _ _ => rfl)))
      (pss_one (ps_if (pt_cmpR (kEq K hr.units) (pe_op op_mod (pe_op op_fdiv (pv 0) pe_int) pe_int) pe_int (nomark _))
        (pss_one (ps_expr (pe_bm PySem.F.plainAttrs_list PySem.F.slot_list_append PySem.F.type_list_append mt_append (pv 4) (pa_cons (pe_ix (kIx K) (pv 4) (pe_op op_mod (pe_callTy call_intQ (by rfl) E.m_int (by decide +kernel) (pa_cons (pv 0) pa_nil)) (pe_callB (kLen K) (by rfl) E.m_len PySem.boot_len (pa_cons (pv 4) pa_nil))) (fun _ _ => rfl)) pa_nil))))
        pss_nil))))))
    (pss_one (ps_ret (pe_callTy (kTuple K) (by rfl) E.m_tuple (by decide +kernel) (pa_cons (pv 4) pa_nil)))))))), ?_⟩
  rintro ss r ⟨row, most, hm3, rfl, rfl⟩
  show Sx K T _ [some (.sh (.int row)), some (.sh (.int most)), some (.sh (.int n)), none, none, none, none] _
  refine sx_seq (sx_set (ev_mod (ev_CB (ea_cons (ev_var rfl rfl) ea_nil) cb_int) (ev_add (ev_var rfl rfl) ev_int) (by omega)) ?_)
  refine sx_seq (sx_set (ev_fdiv (ev_var rfl rfl) (ev_add (ev_var rfl rfl) ev_int) ⟨by omega, by omega⟩) ?_)
  refine sx_seq (sx_set (ev_lst (ds := []) ea_nil) ?_)
  have er : lawCl row most n = (clIter n (row % ((most : Int) + 1)).toNat (row / ((most : Int) + 1))).1 := rfl
  have hb : 0 ≤ row % ((most : Int) + 1) ∧ row % ((most : Int) + 1) < 4 := ⟨Int.emod_nonneg _ (by omega), by have := Int.emod_lt_of_pos row (show (0 : Int) < (most : Int) + 1 by omega); omega⟩
  rw [er]
  generalize row % ((most : Int) + 1) = many at hb ⊢
  generalize row / ((most : Int) + 1) = r0
  show Sx K T _ [some (.sh (.int r0)), some (.sh (.int most)), some (.sh (.int n)), some (.sh (.int many)), some (.own []), none, none] _
  refine sx_seq (sx_for (ei_rng (n := many) (ea_cons (ev_var rfl rfl) ea_nil) (by omega) (by omega)) (fun i δ => ∃ o1 o2, noScr [o1, o2] = true ∧ δ = [some (.sh (.int (clIter n i r0).2)), some (.sh (.int most)), some (.sh (.int n)), some (.sh (.int many)), some (.own ((clIter n i r0).1.map Lit.d)), o1, o2]) ⟨none, none, rfl, rfl⟩ ?_ ?_)
  · rintro i d δ' hi ⟨o1, o2, hsc, rfl⟩
    obtain ⟨hil, rfl⟩ := rng_at hi
    have hlen := clIter_len n i r0
    have hst : clIter n (i + 1) r0 = clStep n (clIter n i r0) := rfl
    rw [hst]
    generalize clIter n i r0 = p at hlen ⊢
    refine ⟨_, _, tg_name, ?_⟩
    show Sx K T _ [some (.sh (.int p.2)), some (.sh (.int most)), some (.sh (.int n)), some (.sh (.int many)), some (.own (p.1.map Lit.d)), some (.sh (.int (i : Nat))), o2] _
    refine sx_seq (sx_set (ev_call (ea_cons (ev_var rfl rfl) (ea_cons (ev_var rfl rfl) ea_nil)) ⟨p.2, rfl, rfl⟩) ?_)
    have hcs : clStep n p = (if (lawLit n p.2).2 / 3 % 4 = 1 then (p.1 ++ [(lawLit n p.2).1]) ++ [((p.1 ++ [(lawLit n p.2).1])[((lawLit n p.2).2 % ((p.1 ++ [(lawLit n p.2).1]).length : Int)).toNat]?).getD (lawLit n p.2).1] else p.1 ++ [(lawLit n p.2).1], (lawLit n p.2).2) := rfl
    rw [hcs]
    generalize lawLit n p.2 = q
    show Sx K T _ [some (.sh (.int p.2)), some (.sh (.int most)), some (.sh (.int n)), some (.sh (.int many)), some (.own (p.1.map Lit.d)), some (.sh (.int (i : Nat))), some (.sh (.tup [q.1.d, .int q.2]))] _
    refine sx_seq (sx_append rfl (ev_ixT (ev_var rfl rfl) ev_int rfl) (by rw [List.length_map]; omega) ?_)
    refine sx_seq (sx_set (ev_ixT (ev_var rfl rfl) ev_int rfl) ?_)
    have hma : p.1.map Lit.d ++ [q.1.d] = (p.1 ++ [q.1]).map Lit.d := by rw [List.map_append]; rfl
    have hcl : (p.1 ++ [q.1]).length = p.1.length + 1 := by simp
    show Sx K T _ [some (.sh (.int q.2)), some (.sh (.int most)), some (.sh (.int n)), some (.sh (.int many)), some (.own (p.1.map Lit.d ++ [q.1.d])), some (.sh (.int (i : Nat))), some (.sh (.tup [q.1.d, .int q.2]))] _
    rw [hma]
    generalize p.1 ++ [q.1] = c at hcl ⊢
    refine sx_if (et_test (ev_eqI (ev_mod (ev_fdiv (ev_var rfl rfl) ev_int ⟨by decide, by decide⟩) ev_int (by decide)) ev_int)) (fun h => ?_) fun h => sx_next ?_
    · have h := of_decide_eq_true h
      rw [if_pos h]
      have b1 : 0 ≤ q.2 % (c.length : Int) := Int.emod_nonneg _ (by omega)
      have b2 : q.2 % (c.length : Int) < c.length := Int.emod_lt_of_pos _ (by omega)
      have hl : (q.2 % (c.length : Int)).toNat < c.length := by omega
      have hat : c[(q.2 % (c.length : Int)).toNat]? = some c[(q.2 % (c.length : Int)).toNat] := by simp [hl]
      have hix : atI (c.map Lit.d) (q.2 % ((c.map Lit.d).length : Int)) = some ((c[(q.2 % (c.length : Int)).toNat]?).getD q.1).d := by
        rw [List.length_map, show q.2 % (c.length : Int) = ((q.2 % (c.length : Int)).toNat : Int) by omega]
        refine atI_n ?_
        rw [List.getElem?_map, Int.toNat_natCast, hat]
        rfl
      refine sx_append rfl (ev_ixL (ev_own rfl) (ev_mod (ev_CB (ea_cons (ev_var rfl rfl) ea_nil) cb_int) (ev_CB (ea_cons (ev_own rfl) ea_nil) cb_lenL) (by rw [List.length_map]; omega)) hix) (by rw [List.length_map]; omega) ?_
      refine ⟨some (.sh (.int (i : Nat))), some (.sh (.tup [q.1.d, .int q.2])), rfl, ?_⟩
      rw [List.map_append]
      rfl
    · have h := of_decide_eq_false h
      rw [if_neg h]
      exact ⟨some (.sh (.int (i : Nat))), some (.sh (.tup [q.1.d, .int q.2])), rfl, rfl⟩
  · rintro δ' ⟨o1, o2, _, rfl⟩
    rw [rng_len]
    exact sx_ret (ev_CB (ea_cons (ev_own rfl) ea_nil) cb_tup) rfl
def R_law_positive_clause (n : Nat) : List Sl → Sl → Prop := fun ss r => ∃ (row : Int) (most : Nat), most ≤ 3 ∧ ss = [.sh (.int row), .sh (.int most), .sh (.int n)] ∧ r = .sh (lawPos row most n).d
theorem lawCl_len (row : Int) (most n : Nat) (h : most ≤ 3) : (lawCl row most n).length ≤ 2 * most := by
  have := (clIter_len n (row % ((most : Int) + 1)).toNat (row / ((most : Int) + 1))).2
  have h2 := Int.emod_lt_of_pos row (show (0 : Int) < (most : Int) + 1 by omega)
  have h3 := Int.emod_nonneg row (show (most : Int) + 1 ≠ 0 by omega)
  unfold lawCl
  omega
theorem ok_law_positive_clause (n : Nat) : Ok P w base T (n + 6) E.f__law_positive_clause ["_law_row", "_law_most", "_law_deep"] (R_law_positive_clause n) := by
  have G__law_clause := ok_law_clause (P := P) (w := w) (base := base) (T := T) E n
  refine fn_R E.f__law_positive_clause.F sc__law_positive_clause (fun ss s ⟨_, _, _, e, _⟩ => by rw [e]; rfl) fun cdv A outer s H _ hr => ⟨_, (pss_cons (ps_set (i := 3) sc__law_positive_clause.nd rfl (by first | exact Or.inl rfl | exact Or.inr rfl) (pe_call G__law_clause (hr.mono (by omega)) (by rfl) E.f__law_clause.g E.f__law_clause.F.kp (b__law_clause E) .nil pass0 (pa_cons (pv 0) (pa_cons (pv 1) (pa_cons (pv 2) pa_nil)))))
    (pss_cons (ps_if (pt_cmpR (kEq K hr.units) (pe_op op_mod (pe_callTy call_intQ (by rfl) E.m_int (by decide +kernel) (pa_cons (pe_op op_fdiv (pv 0) pe_int) pa_nil)) pe_int) pe_int (nomark _))
      (pss_one (ps_ret (pe_callTy (kTuple K) (by rfl) E.m_tuple (by decide +kernel) (pa_cons (pe_lc (own := [("_law_one", 4)]) (by rfl) sc__law_positive_clause.nd (kiTup K (pv 3)) (blkOk_by (own := [("_law_one", 4)]) (N := ["_law_row", "_law_most", "_law_deep", "_law_clause_here", "_law_one"]) (sc := (defScope s__law_positive_clause)) (by decide +kernel)) (fun _ _ _ _ _ => (pg_name (i := 4) sc__law_positive_clause.nd rfl (by first | exact Or.inl rfl | exact Or.inr rfl))) (fun _ _ _ _ _ => pts_nil) (fun _ _ _ _ _ => (pe_tup (pa_cons pe_bl (pa_cons (pe_ix (kIx K) (pv 4) pe_int (fun _ _ => rfl)) (pa_cons (pe_ix (kIx K) (pv 4) pe_int (fun _ _ => rfl)) pa_nil)))))) pa_nil))))
      pss_nil)
    (pss_one (ps_ret (pv 3))))), ?_⟩
  rintro ss r ⟨row, most, hm3, rfl, rfl⟩
  show Sx K T _ [some (.sh (.int row)), some (.sh (.int most)), some (.sh (.int n)), none, none] _
  refine sx_seq (sx_set (ev_call (ea_cons (ev_var rfl rfl) (ea_cons (ev_var rfl rfl) (ea_cons (ev_var rfl rfl) ea_nil))) ⟨row, most, hm3, rfl, rfl⟩) ?_)
  have hl := lawCl_len row most n hm3
  have er : lawPos row most n = if row / 5 % 3 = 0 then (lawCl row most n).map fun x => ⟨true, x.l, x.r⟩ else lawCl row most n := rfl
  rw [er]
  generalize lawCl row most n = c at hl ⊢
  show Sx K T _ [some (.sh (.int row)), some (.sh (.int most)), some (.sh (.int n)), some (.sh c.d), none] _
  refine sx_seq (sx_if (et_test (ev_eqI (ev_mod (ev_CB (ea_cons (ev_fdiv (ev_var rfl rfl) ev_int ⟨by decide, by decide⟩) ea_nil) cb_int) ev_int (by decide)) ev_int)) (fun h => ?_) fun h => sx_next ?_)
  · rw [if_pos (of_decide_eq_true h)]
    refine sx_ret (ev_CB (ea_cons (ev_lcM c Lit.d (fun x => Lit.d ⟨true, x.l, x.r⟩) (ei_tup (ev_var (s := .sh (.tup (c.map Lit.d))) rfl rfl)) (by omega) fun x _ => ⟨_, _, tg_name, by simp, ev_tup (ds := [.bl true, x.l.d, x.r.d]) (ea_cons ev_bl (ea_cons (ev_ixT (ev_var (s := .sh (.tup [.bl x.p, x.l.d, x.r.d])) rfl rfl) ev_int rfl) (ea_cons (ev_ixT (ev_var (s := .sh (.tup [.bl x.p, x.l.d, x.r.d])) rfl rfl) ev_int rfl) ea_nil)))⟩) ea_nil) cb_tupO) ?_
    show Sl.sh _ = Sl.sh (.tup (List.map Lit.d (c.map _)))
    rw [List.map_map]
    rfl
  · rw [if_neg (of_decide_eq_false h)]
    exact sx_ret (ev_var rfl rfl) rfl
def R_law_selected : List Sl → Sl → Prop := fun ss r => ∃ (c : Cl) (row : Int), c.length ≤ 10 ∧ ss = [.sh c.d, .sh (.int row)] ∧ r = .sh (selD (lawSel c row))
theorem ok_law_selected : Ok P w base T 1 E.f__law_selected ["_law_clause_here", "_law_row"] R_law_selected := by
  refine fn_R E.f__law_selected.F sc__law_selected (fun ss s ⟨_, _, _, e, _⟩ => by rw [e]; rfl) fun cdv A outer s H _ hr => ⟨_, (pss_cons (ps_setLc (i := 2) (own := [("_law_k", 3)]) (by rfl) sc__law_selected.nd rfl rfl (sw_true rfl rfl rfl (by decide +kernel)) (pi_range1 rfl E.m_range (pa_cons (pe_callB (kLen K) (by rfl) E.m_len PySem.boot_len (pa_cons (pv 0) pa_nil)) pa_nil)) (blkOk_by (own := [("_law_k", 3)]) (N := ["_law_clause_here", "_law_row", "_law_negative", "_law_k"]) (sc := (defScope s__law_selected)) (by decide +kernel)) (fun _ _ _ _ _ => (pg_name (i := 3) sc__law_selected.nd rfl (by first | exact Or.inl rfl | exact Or.inr rfl))) (fun _ _ _ _ _ => (pts_one (pt_not (kTru K (pe_ix (kIx K) (pe_ix (kIx K) (pv 0) (pv 3) (fun _ _ => rfl)) pe_int (fun _ _ => rfl)) (fun _ => rfl))))) (fun _ _ _ _ _ => (pv 3)))
    (pss_cons (ps_if ((pw_or (pt_not (kTru K (pv 2) (fun _ => rfl))) (pw_or1 (pt_cmpR (kEq K hr.units) (pe_op op_mod (pe_callTy call_intQ (by rfl) E.m_int (by decide +kernel) (pa_cons (pv 1) pa_nil)) pe_int) pe_int (nomark _)))).pt)
      (pss_one (ps_ret pe_non))
      pss_nil)
    (pss_one (ps_ret (pe_ix (kIx K) (pv 2) (pe_op op_mod (pe_op op_fdiv (pv 1) pe_int) (pe_callB (kLen K) (by rfl) E.m_len PySem.boot_len (pa_cons (pv 2) pa_nil))) (fun _ _ => rfl)))))), ?_⟩
  rintro ss r ⟨c, row, hcl, rfl, rfl⟩
  show Sx K T _ [some (.sh (.tup (c.map Lit.d))), some (.sh (.int row)), none, none] _
  have hr2 : rng 0 ((c.map Lit.d).length : Int).toNat = (List.range c.length).map fun k => Dat.int (k : Nat) := by
    unfold rng
    rw [List.length_map, Int.toNat_natCast]
    refine List.map_congr_left fun k _ => ?_
    simp
  refine sx_seq (sx_set (ev_lcF (List.range c.length) (fun k => Dat.int (k : Nat)) (fun k => Dat.int (k : Nat)) (fun k => !((c[k]?).map Lit.p).getD true) (hr2 ▸ ei_rng (ea_cons (ev_CB (ea_cons (ev_var rfl rfl) ea_nil) cb_lenT) ea_nil) (by rw [List.length_map]; omega) (by rw [List.length_map]; omega)) (by rw [List.length_range]; omega) fun k hk => ?_) ?_)
  · have hk := List.mem_range.mp hk
    have hat : c[k]? = some c[k] := by simp [hk]
    have hatI : atI (c.map Lit.d) (k : Nat) = some (.tup [.bl c[k].p, c[k].l.d, c[k].r.d]) := atI_n (by rw [List.getElem?_map, hat]; rfl)
    rw [hat]
    exact ⟨_, _, tg_name, by simp, et_not (et_tru (ev_ixT (ev_ixT (ev_var rfl rfl) (ev_var rfl rfl) hatI) ev_int rfl) rfl), fun _ => ev_var rfl rfl⟩
  have er : (List.range c.length).filter (fun k => !((c[k]?).map Lit.p).getD true) = negL c := rfl
  have es : lawSel c row = if negL c = [] ∨ row % 3 = 0 then none else (negL c)[(row / 3 % (negL c).length).toNat]? := rfl
  rw [er, es]
  have hng : (negL c).length ≤ 10 := by
    refine Nat.le_trans (List.length_filter_le _ _) ?_
    rw [List.length_range]
    exact hcl
  generalize negL c = ng at hng ⊢
  refine sx_freeze (i := 2) (ds := ng.map fun k => Dat.int (k : Nat)) rfl ?_
  show Sx K T _ [some (.sh (.tup (c.map Lit.d))), some (.sh (.int row)), some (.lst (ng.map fun k => Dat.int (k : Nat))), none] _
  refine sx_seq (sx_if (et_or (et_not (et_tru (ev_var rfl rfl) rfl)) fun _ => et_test (ev_eqI (ev_mod (ev_CB (ea_cons (ev_var rfl rfl) ea_nil) cb_int) ev_int (by decide)) ev_int)) (fun h => ?_) fun h => sx_next ?_)
  · have h2 : ng = [] ∨ row % 3 = 0 := by
      rcases Bool.or_eq_true_iff.mp h with h | h
      · left
        cases ng with
        | nil => rfl
        | cons a l => simp at h
      · exact .inr (of_decide_eq_true h)
    rw [if_pos h2]
    exact sx_ret ev_non rfl
  · obtain ⟨h1, h2⟩ := Bool.or_eq_false_iff.mp h
    have hne : ng ≠ [] := by
      rintro rfl
      simp at h1
    have h2 := of_decide_eq_false h2
    rw [if_neg fun z => z.elim hne h2]
    have hp : 0 < ng.length := by
      cases ng with
      | nil => exact absurd rfl hne
      | cons a l => simp
    have b1 : 0 ≤ row / 3 % (ng.length : Int) := Int.emod_nonneg _ (by omega)
    have b2 : row / 3 % (ng.length : Int) < ng.length := Int.emod_lt_of_pos _ (by omega)
    have hl : (row / 3 % (ng.length : Int)).toNat < ng.length := by omega
    have hat : ng[(row / 3 % (ng.length : Int)).toNat]? = some ng[(row / 3 % (ng.length : Int)).toNat] := by simp [hl]
    refine sx_ret (ev_ixL (ev_var rfl rfl) (ev_mod (ev_fdiv (ev_var rfl rfl) ev_int ⟨by decide, by decide⟩) (ev_CB (ea_cons (ev_var rfl rfl) ea_nil) cb_lenL) (by rw [List.length_map]; omega)) (d := selD (ng[(row / 3 % (ng.length : Int)).toNat]?)) ?_) rfl
    rw [List.length_map, show row / 3 % (ng.length : Int) = ((row / 3 % (ng.length : Int)).toNat : Int) by omega]
    refine atI_n ?_
    rw [List.getElem?_map, Int.toNat_natCast, hat]
    rfl
end
end
end G3
end

section
set_option Elab.async false
set_option linter.all false
set_option maxRecDepth 100000
set_option maxHeartbeats 1000000
namespace G3
open PySem PySem.Spec PyProof.Rows L2 LamX NdefX
noncomputable section
open scoped Classical
def told (σ : Sub) : List Dat := σ.map fun p => .tup [.int p.1, p.2.d]
theorem look_hit : ∀ (σ : Sub) (i : Nat) (m : Int) (p : Int × Tm), σ[i]? = some p → p.1 = m → (∀ q ∈ σ.take i, q.1 ≠ m) → look σ m = some p.2
  | [], _, _, _, h, _, _ => by simp at h
  | q :: σ, 0, m, p, h, e, _ => by
    simp only [List.getElem?_cons_zero, Option.some.injEq] at h
    subst h
    exact getI_pos e
  | q :: σ, i + 1, m, p, h, e, n => by
    have : look (q :: σ) m = look σ m := getI_neg (n q (by simp))
    rw [this]
    exact look_hit σ i m p (by simpa using h) e fun q hq => n q (by rw [List.take_succ_cons]; exact List.mem_cons_of_mem _ hq)
theorem look_miss : ∀ (σ : Sub) (m : Int), (∀ q ∈ σ, q.1 ≠ m) → look σ m = none
  | [], _, _ => rfl
  | q :: σ, m, n => by
    have : look (q :: σ) m = look σ m := getI_neg (n q (by simp))
    rw [this]
    exact look_miss σ m fun q hq => n q (List.mem_cons_of_mem _ hq)
theorem ne_take {σ : Sub} {i : Nat} {m : Int} {p : Int × Tm} (h : σ[i]? = some p) (n : ∀ q ∈ σ.take i, q.1 ≠ m) (e : ¬ p.1 = m) : ∀ q ∈ σ.take (i + 1), q.1 ≠ m := by
  intro q hq
  rw [List.take_succ, h] at hq
  rcases List.mem_append.mp hq with hq | hq
  · exact n q hq
  · simp at hq
    rw [hq]
    exact e
def lawGs (row : Int) (many n : Nat) : Sub := (iterT (lawGround n) many row).1.mapIdx fun k t => ((k : Nat), t)
def Tm.isAt : Tm → Bool
  | .v _ => false
  | .ap s _ => !decide (s.a = 2) && !decide (s.a = 3)
section
variable {K : PySem.W.Frag} {mg : Str → Option Value} {P : Program} {w : World} {base : Heap} {T : List NTab} (E : Txt K mg)
theorem ok_law_is_variable : Ok P w base T 1 E.f__law_is_variable ["_law_term_here"] R_is_variable := by
  refine fn_R E.f__law_is_variable.F sc__law_is_variable (fun ss s ⟨t, e, _⟩ => by rw [e]; rfl) fun cdv A outer s H _ hr => ⟨_, (pss_one (ps_ret (pe_callB (kIsi K) (by rfl) E.m_isinstance (by decide +kernel) (pa_cons (pv 0) (pa_cons (pe_bltn (v := .ty "int") (u := .type "int") (by rfl) E.m_int (by decide +kernel) rfl) pa_nil))))), ?_⟩
  rintro ss r ⟨t, rfl, rfl⟩
  refine sx_ret (ev_CB (ea_cons (ev_var rfl rfl) (ea_cons ev_raw ea_nil)) ?_) rfl
  cases t with
  | v n => rw [d_v]; exact cb_isInt
  | ap s l => rw [d_ap]; exact cb_isTup
def R_law_ground_substitution (n : Nat) : List Sl → Sl → Prop := fun ss r => ∃ (row : Int) (many : Nat), many ≤ 10 ∧ ss = [.sh (.int row), .sh (.int many), .sh (.int n)] ∧ r = .own (told (lawGs row many n))
theorem ok_law_ground_substitution (n : Nat) : Ok P w base T (n + 3) E.f__law_ground_substitution ["_law_row", "_law_many", "_law_deep"] (R_law_ground_substitution n) := by
  have G__law_ground := ok_law_ground (P := P) (w := w) (base := base) (T := T) E n
  refine fn_R E.f__law_ground_substitution.F sc__law_ground_substitution (fun ss s ⟨_, _, _, e, _⟩ => by rw [e]; rfl) fun cdv A outer s H _ hr => ⟨_, (pss_cons (ps_set (i := 3) sc__law_ground_substitution.nd rfl (by first | exact Or.inl rfl | exact Or.inr rfl) (pe_lst pa_nil))
    (pss_cons (ps_for PassesOwn.never rfl (pi_range1 rfl E.m_range (pa_cons (pv 1) pa_nil)) (pg_name (i := 4) sc__law_ground_substitution.nd rfl (by first | exact Or.inl rfl | exact Or.inr rfl))
      (pss_cons (ps_set (i := 5) sc__law_ground_substitution.nd rfl (by first | exact Or.inl rfl | exact Or.inr rfl) (pe_call G__law_ground (hr.mono (by omega)) (by rfl) E.f__law_ground.g E.f__law_ground.F.kp (b__law_ground E) .nil pass0 (pa_cons (pv 0) (pa_cons (pv 2) pa_nil))))
      (pss_cons (ps_expr (pe_bm PySem.F.plainAttrs_list PySem.F.slot_list_append PySem.F.type_list_append mt_append (pv 3) (pa_cons (pe_tup (pa_cons (pv 4) (pa_cons (pe_ix (kIx K) (pv 5) pe_int (fun _ _ => rfl)) pa_nil))) pa_nil)))
      (pss_one (ps_set (i := 0) sc__law_ground_substitution.nd rfl (by first | exact Or.inl rfl | exact Or.inr rfl) (pe_ix (kIx K) (pv 5) pe_int (fun _ _ => rfl)))))))
    (pss_one (ps_ret (pv 3))))), ?_⟩
  rintro ss r ⟨row, many, hm, rfl, rfl⟩
  show Sx K T _ [some (.sh (.int row)), some (.sh (.int many)), some (.sh (.int n)), none, none, none] _
  refine sx_seq (sx_set (ev_lst (ds := []) ea_nil) ?_)
  refine sx_seq (sx_for (ei_rng (n := many) (ea_cons (ev_var rfl rfl) ea_nil) (by omega) (by omega)) (fun i δ => ∃ o1 o2, noScr [o1, o2] = true ∧ δ = [some (.sh (.int (iterT (lawGround n) i row).2)), some (.sh (.int many)), some (.sh (.int n)), some (.own (told (lawGs row i n))), o1, o2]) ⟨none, none, rfl, rfl⟩ ?_ ?_)
  · rintro i d δ' hi ⟨o1, o2, hsc, rfl⟩
    obtain ⟨hil, rfl⟩ := rng_at hi
    have hil : i < many := by simpa using hil
    have hlen := iterT_len (lawGround n) i row
    have hl2 : (told (lawGs row i n)).length = i := by unfold told lawGs; rw [List.length_map, List.length_mapIdx, hlen]
    have hst : told (lawGs row (i + 1) n) = told (lawGs row i n) ++ [.tup [.int (i : Nat), (lawGround n (iterT (lawGround n) i row).2).1.d]] := by
      unfold told lawGs
      rw [iterT, List.mapIdx_append, List.map_append, hlen]
      simp
    have hs2 : (iterT (lawGround n) (i + 1) row).2 = (lawGround n (iterT (lawGround n) i row).2).2 := rfl
    rw [hst, hs2]
    generalize told (lawGs row i n) = ds at hl2 ⊢
    generalize (iterT (lawGround n) i row).2 = r0
    refine ⟨_, _, tg_name, ?_⟩
    show Sx K T _ [some (.sh (.int r0)), some (.sh (.int many)), some (.sh (.int n)), some (.own ds), some (.sh (.int (i : Nat))), o2] _
    refine sx_seq (sx_set (ev_call (ea_cons (ev_var rfl rfl) (ea_cons (ev_var rfl rfl) ea_nil)) ⟨r0, rfl, rfl⟩) ?_)
    generalize lawGround n r0 = q
    show Sx K T _ [some (.sh (.int r0)), some (.sh (.int many)), some (.sh (.int n)), some (.own ds), some (.sh (.int (i : Nat))), some (.sh (.tup [q.1.d, .int q.2]))] _
    refine sx_seq (sx_append rfl (ev_tup (ds := [.int (i : Nat), q.1.d]) (ea_cons (ev_var rfl rfl) (ea_cons (ev_ixT (ev_var rfl rfl) ev_int rfl) ea_nil))) (by omega) ?_)
    refine sx_set (ev_ixT (ev_var rfl rfl) ev_int rfl) ?_
    exact ⟨some (.sh (.int (i : Nat))), some (.sh (.tup [q.1.d, .int q.2])), rfl, rfl⟩
  · rintro δ' ⟨o1, o2, _, rfl⟩
    rw [rng_len, Int.toNat_natCast]
    exact sx_retOwn rfl rfl
def R_law_put (n : Nat) : List Sl → Sl → Prop := fun ss r => ∃ (t : Tm) (τ : Sub), t.depth = n ∧ t.thin ∧ ss = [.sh t.d, .lst (told τ)] ∧ r = .sh (put τ t).d
theorem ok_law_put : ∀ n, Ok P w base T (n + 1 + 1) E.f__law_put ["_law_term_here", "_law_told"] (R_law_put n) := by
  refine rec_R (fun n ss s ⟨t, x, _, _, e, _⟩ => by rw [e]; rfl) fun n G__law_put => ?_
  have G__law_is_variable := ok_law_is_variable (P := P) (w := w) (base := base) (T := T) E
  refine fn_R E.f__law_put.F sc__law_put (fun ss s ⟨t, x, _, _, e, _⟩ => by rw [e]; rfl) fun cdv A outer s H _ hr => ⟨_, (pss_cons (ps_if (kTru K (pe_call G__law_is_variable (hr.mono (by omega)) (by rfl) E.f__law_is_variable.g E.f__law_is_variable.F.kp (b__law_is_variable E) .nil pass0 (pa_cons (pv 0) pa_nil)) (fun _ => rfl))
      (pss_cons (ps_for PassesOwn.never rfl (kiList K (pv 1)) (pg_name (i := 2) sc__law_put.nd rfl (by first | exact Or.inl rfl | exact Or.inr rfl))
        (pss_one (ps_if (pt_cmpR (kEq K hr.units) (pe_ix (kIx K) (pv 2) pe_int (fun _ _ => rfl)) (pv 0) (nomark _))
          (pss_one (ps_ret (pe_ix (kIx K) (pv 2) pe_int (fun _ _ => rfl))))
          pss_nil)))
      (pss_one (ps_ret (pv 0))))
      pss_nil)
    (pss_one (ps_ret (pe_tup (pa_cons (pe_ix (kIx K) (pv 0) pe_int (fun _ _ => rfl)) (pa_cons (pe_callTy (kTuple K) (by rfl) E.m_tuple (by decide +kernel) (pa_cons (pe_lc (own := [("_law_part", 3)]) (by rfl) sc__law_put.nd (kiTup K (pe_ix (kIx K) (pv 0) pe_int (fun _ _ => rfl))) (blkOk_by (own := [("_law_part", 3)]) (N := ["_law_term_here", "_law_told", "_law_pair", "_law_part"]) (sc := (defScope s__law_put)) (by decide +kernel)) (fun _ _ _ _ _ => (pg_name (i := 3) sc__law_put.nd rfl (by first | exact Or.inl rfl | exact Or.inr rfl))) (fun _ _ _ _ _ => pts_nil) (fun _ _ _ _ _ => (pe_call G__law_put (hr.mono (by omega)) (by rfl) E.f__law_put.g E.f__law_put.F.kp (b__law_put E) .nil pass0 (pa_cons (pv 3) (pa_cons (pv 1) pa_nil))))) pa_nil)) pa_nil)))))), ?_⟩
  rintro ss r ⟨t, τ, hd, ha, rfl, rfl⟩
  show Sx K T _ [some (.sh t.d), some (.lst (told τ)), none, none] _
  refine sx_seq (sx_if (et_tru (ev_call (ea_cons (ev_var rfl rfl) ea_nil) ⟨t, rfl, rfl⟩) rfl) (fun h => ?_) fun h => sx_next ?_)
  · cases t with
    | ap s l => cases h
    | v m =>
      refine sx_seq (sx_for (ei_var (i := 1) rfl) (fun i δ => (∀ q ∈ τ.take i, q.1 ≠ m) ∧ ∃ o, δ = [some (.sh (Tm.v m).d), some (.lst (told τ)), o, none]) ⟨by simp, none, rfl⟩ ?_ ?_)
      · rintro i d δ' hi ⟨hne, o, rfl⟩
        obtain ⟨p, hp, rfl⟩ := at_map hi
        refine ⟨_, _, tg_name, ?_⟩
        show Sx K T _ [some (.sh (Tm.v m).d), some (.lst (told τ)), some (.sh (.tup [.int p.1, p.2.d])), none] _
        refine sx_if (et_test (ev_eqI (ev_ixT (ev_var rfl rfl) ev_int rfl) ((ev_var (s := .sh (Tm.v m).d) rfl rfl).of_eq (by rw [d_v])))) (fun h => ?_) fun h => sx_next ?_
        · refine sx_ret ((ev_ixT (ev_var rfl rfl) ev_int rfl).of_eq ?_) rfl
          rw [put, look_hit τ i m p hp (of_decide_eq_true h) hne]
          rfl
        · exact ⟨ne_take hp hne (of_decide_eq_false h), some (.sh (.tup [.int p.1, p.2.d])), rfl⟩
      · rintro δ' ⟨hne, o, rfl⟩
        rw [told, List.length_map, List.take_length] at hne
        refine sx_ret (ev_var rfl rfl) ?_
        rw [put, look_miss τ m hne]
        rfl
  · cases t with
    | v m => cases h
    | ap s l =>
      obtain ⟨h1, h2⟩ := thin_ap.mp ha
      have e0 : Ev K T (tVar 0) [some (.sh (Tm.ap s l).d), some (.lst (told τ)), none, none] (.sh (.tup [s.d, .tup (l.map Tm.d)])) := (ev_var rfl rfl).of_eq (by rw [d_ap])
      refine sx_ret ((ev_tup (ds := [s.d, .tup (l.map fun t => (put τ t).d)]) (ea_cons (ev_ixT e0 ev_int rfl) (ea_cons (ev_CB (ea_cons (ev_lcM l Tm.d (fun t => (put τ t).d) (ei_tup (ev_ixT e0 ev_int rfl)) (by omega) fun u hu => ?_) ea_nil) cb_tupO) ea_nil))).of_eq ?_) rfl
      · refine ⟨_, _, tg_name, by decide, ev_call (ea_cons (ev_var rfl rfl) (ea_cons (ev_var rfl rfl) ea_nil)) ⟨u.depth, ?_, u, τ, rfl, h2 u hu, rfl, rfl⟩⟩
        rw [← hd]; exact depth_arg hu
      · rw [put_ap, d_ap, List.map_map]; rfl
theorem G_lput (n : Nat) : Ok P w base T (n + 2) E.f__law_put ["_law_term_here", "_law_told"] (fun ss r => ∃ (t : Tm) (τ : Sub), t.depth ≤ n ∧ t.thin ∧ ss = [.sh t.d, .lst (told τ)] ∧ r = .sh (put τ t).d) :=
  FnOk.toR (below_R (n := n + 1) (R := R_law_put) (fun n ss s ⟨t, x, _, _, e, _⟩ => by rw [e]; rfl) fun j hj => (ok_law_put (P := P) (w := w) (base := base) (T := T) E j).mono (show j + 1 + 1 ≤ n + 2 by omega)) fun ss r ⟨t, τ, h1, h2⟩ => ⟨t.depth, by omega, t, τ, rfl, h2⟩
def R_law_put_clause (n : Nat) : List Sl → Sl → Prop := fun ss r => ∃ (c : Cl) (τ : Sub), c.length ≤ 100 ∧ (∀ x ∈ c, Ltn n x) ∧ ss = [.sh c.d, .lst (told τ)] ∧ r = .sh (putCl τ c).d
theorem ok_law_put_clause (n : Nat) : Ok P w base T (n + 3) E.f__law_put_clause ["_law_clause_here", "_law_told"] (R_law_put_clause n) := by
  have G__law_put := G_lput (P := P) (w := w) (base := base) (T := T) E n
  refine fn_R E.f__law_put_clause.F sc__law_put_clause (fun ss s ⟨_, _, _, _, e, _⟩ => by rw [e]; rfl) fun cdv A outer s H _ hr => ⟨_, (pss_one (ps_ret (pe_callTy (kTuple K) (by rfl) E.m_tuple (by decide +kernel) (pa_cons (pe_lc (own := [("_law_one", 2)]) (by rfl) sc__law_put_clause.nd (kiTup K (pv 0)) (blkOk_by (own := [("_law_one", 2)]) (N := ["_law_clause_here", "_law_told", "_law_one"]) (sc := (defScope s__law_put_clause)) (by decide +kernel)) (fun _ _ _ _ _ => (pg_name (i := 2) sc__law_put_clause.nd rfl (by first | exact Or.inl rfl | exact Or.inr rfl))) (fun _ _ _ _ _ => pts_nil) (fun _ _ _ _ _ => (pe_tup (pa_cons (pe_ix (kIx K) (pv 2) pe_int (fun _ _ => rfl)) (pa_cons (pe_call G__law_put (hr.mono (by omega)) (by rfl) E.f__law_put.g E.f__law_put.F.kp (b__law_put E) .nil pass0 (pa_cons (pe_ix (kIx K) (pv 2) pe_int (fun _ _ => rfl)) (pa_cons (pv 1) pa_nil))) (pa_cons (pe_call G__law_put (hr.mono (by omega)) (by rfl) E.f__law_put.g E.f__law_put.F.kp (b__law_put E) .nil pass0 (pa_cons (pe_ix (kIx K) (pv 2) pe_int (fun _ _ => rfl)) (pa_cons (pv 1) pa_nil))) pa_nil)))))) pa_nil)))), ?_⟩
  rintro ss r ⟨c, τ, hl, hc, rfl, rfl⟩
  show Sx K T _ [some (.sh (.tup (c.map Lit.d))), some (.lst (told τ)), none] _
  refine sx_ret (ev_CB (ea_cons (ev_lcM c Lit.d (fun x => Lit.d (putLit τ x)) (ei_tup (ev_var rfl rfl)) (by omega) fun x hx => ⟨_, _, tg_name, by decide, ?_⟩) ea_nil) cb_tupO) ?_
  · have hx := hc x hx
    refine ev_tup (ds := [.bl x.p, (put τ x.l).d, (put τ x.r).d]) (ea_cons (ev_ixT (ev_var (s := .sh (.tup [.bl x.p, x.l.d, x.r.d])) rfl rfl) ev_int rfl) (ea_cons (ev_call (ea_cons (ev_ixT (ev_var (s := .sh (.tup [.bl x.p, x.l.d, x.r.d])) rfl rfl) ev_int rfl) (ea_cons (ev_var rfl rfl) ea_nil)) ⟨x.l, τ, hx.1.1, hx.1.2, rfl, rfl⟩) (ea_cons (ev_call (ea_cons (ev_ixT (ev_var (s := .sh (.tup [.bl x.p, x.l.d, x.r.d])) rfl rfl) ev_int rfl) (ea_cons (ev_var rfl rfl) ea_nil)) ⟨x.r, τ, hx.2.1, hx.2.2, rfl, rfl⟩) ea_nil)))
  · show Sl.sh _ = Sl.sh (.tup (List.map Lit.d (c.map _)))
    rw [List.map_map]
    rfl
def R_law_places (n : Nat) : List Sl → Sl → Prop := fun ss r => ∃ (t : Tm), t.depth = n ∧ t.size ≤ 1000 ∧ ss = [.sh t.d] ∧ r = .own ((plc t).map plD)
theorem ok_law_places : ∀ n, Ok P w base T (n + 1 + 1) E.f__law_places ["_law_term_here"] (R_law_places n) := by
  refine rec_R (fun n ss s ⟨t, _, _, e, _⟩ => by rw [e]; rfl) fun n G__law_places => ?_
  have G__law_is_variable := ok_law_is_variable (P := P) (w := w) (base := base) (T := T) E
  refine fn_R E.f__law_places.F sc__law_places (fun ss s ⟨t, _, _, e, _⟩ => by rw [e]; rfl) fun cdv A outer s H _ hr => ⟨_, (pss_cons (ps_set (i := 1) sc__law_places.nd rfl (by first | exact Or.inl rfl | exact Or.inr rfl) (pe_lst (pa_cons (pe_tup (pa_cons (pe_tup pa_nil) (pa_cons (pv 0) pa_nil))) pa_nil)))
    (pss_cons (ps_if (pt_not (kTru K (pe_call G__law_is_variable (hr.mono (by omega)) (by rfl) E.f__law_is_variable.g E.f__law_is_variable.F.kp (b__law_is_variable E) .nil pass0 (pa_cons (pv 0) pa_nil)) (fun _ => rfl)))
      (pss_one (ps_for PassesOwn.never rfl (pi_range1 rfl E.m_range (pa_cons (pe_callB (kLen K) (by rfl) E.m_len PySem.boot_len (pa_cons (pe_ix (kIx K) (pv 0) pe_int (fun _ _ => rfl)) pa_nil)) pa_nil)) (pg_name (i := 2) sc__law_places.nd rfl (by first | exact Or.inl rfl | exact Or.inr rfl))
        (pss_one (ps_for PassesOwn.never rfl (kiList K (pe_call G__law_places (hr.mono (by omega)) (by rfl) E.f__law_places.g E.f__law_places.F.kp (b__law_places E) .nil pass0 (pa_cons (pe_ix (kIx K) (pe_ix (kIx K) (pv 0) pe_int (fun _ _ => rfl)) (pv 2) (fun _ _ => rfl)) pa_nil))) (pg_name (i := 3) sc__law_places.nd rfl (by first | exact Or.inl rfl | exact Or.inr rfl))
          (pss_one (ps_expr (pe_bm PySem.F.plainAttrs_list PySem.F.slot_list_append PySem.F.type_list_append mt_append (pv 1) (pa_cons (pe_tup (pa_cons (pe_op (kAdd K) (pe_tup (pa_cons (pv 2) pa_nil)) (pe_ix (kIx K) (pv 3) pe_int (fun _ _ => rfl))) (pa_cons (pe_ix (kIx K) (pv 3) pe_int (fun _ _ => rfl)) pa_nil))) pa_nil))))))))
      pss_nil)
    (pss_one (ps_ret (pv 1))))), ?_⟩
  rintro ss r ⟨t, hd, hz, rfl, rfl⟩
  show Sx K T _ [some (.sh t.d), none, none, none] _
  refine sx_seq (sx_set (ev_lst (ds := [plD ([], t)]) (ea_cons (ev_tup (ds := [.tup [], t.d]) (ea_cons (ev_tup (ds := []) ea_nil) (ea_cons (ev_var rfl rfl) ea_nil))) ea_nil)) ?_)
  refine sx_seq (sx_if (et_not (et_tru (ev_call (ea_cons (ev_var rfl rfl) ea_nil) ⟨t, rfl, rfl⟩) rfl)) (fun h => ?_) fun h => sx_next ?_)
  · cases t with
    | v m => cases h
    | ap s l =>
      have e1 : ∀ {δ : AS}, δ[0]? = some (some (.sh (Tm.ap s l).d)) → Ev K T (tOp (rIx K) (tVar 0) (tC (.int 1))) δ (.sh (.tup (l.map Tm.d))) := fun h => ev_ixT (ds := [s.d, .tup (l.map Tm.d)]) ((ev_var h rfl).of_eq (by rw [d_ap])) ev_int rfl
      have sz0 : sizeL l ≤ 1000 := by rw [Tm.size] at hz; omega
      have szl : ∀ l : List Tm, l.length ≤ sizeL l := fun l => by
        induction l with
        | nil => exact Nat.zero_le _
        | cons t l ih => rw [sizeL, List.length_cons]; have : 1 ≤ t.size := by cases t <;> rw [Tm.size] <;> omega
                         omega
      have sz1 := szl l
      refine sx_for (ei_rng (n := (l.map Tm.d).length) (ea_cons (ev_CB (ea_cons (e1 rfl) ea_nil) cb_lenT) ea_nil) (by rw [List.length_map]; omega) (by rw [List.length_map]; omega)) (fun i δ => ∃ q r, δ = [some (.sh (Tm.ap s l).d), some (.own ((([], .ap s l) :: plcL 0 (l.take i)).map plD)), q, r]) ⟨none, none, rfl⟩ ?_ ?_
      · rintro i d δ' hi ⟨q, r, rfl⟩
        obtain ⟨hil, rfl⟩ := rng_at hi
        have hil : i < l.length := by simpa using hil
        obtain ⟨u, hu⟩ : ∃ u, l[i]? = some u := ⟨l[i], by simp [hil]⟩
        refine ⟨_, _, tg_name, ?_⟩
        show Sx K T _ [some (.sh (Tm.ap s l).d), some (.own ((([], .ap s l) :: plcL 0 (l.take i)).map plD)), some (.sh (.int (i : Nat))), r] _
        have hum := List.mem_of_getElem? hu
        have hat : atI (l.map Tm.d) (i : Nat) = some u.d := atI_n (by rw [List.getElem?_map, hu]; rfl)
        have hlen : ∀ j, ((([], .ap s l) :: plcL 0 (l.take i) ++ ((plc u).take j).map fun p => (i :: p.1, p.2)).map plD).length ≤ 2010 := fun j => by
          have h1 := plcL_len (l.take i) 0 fun t _ => plc_len t
          have h2 := sizeL_take l i
          have h3 := plc_len u
          have h4 := size_mem hum
          simp only [List.length_map, List.length_append, List.length_cons, List.length_take]
          omega
        refine sx_for (ei_new (ev_call (ea_cons (ev_ixT (e1 rfl) (ev_var rfl rfl) hat) ea_nil) ⟨u.depth, by rw [← hd]; exact depth_arg hum, u, rfl, Nat.le_trans (size_mem hum) sz0, rfl, rfl⟩)) (fun j δ => ∃ r, δ = [some (.sh (Tm.ap s l).d), some (.own ((([], .ap s l) :: plcL 0 (l.take i) ++ ((plc u).take j).map fun p => (i :: p.1, p.2)).map plD)), some (.sh (.int (i : Nat))), r]) ⟨r, by simp⟩ ?_ ?_
        · rintro j d δ' hj ⟨r, rfl⟩
          obtain ⟨⟨p1, t1⟩, hp, rfl⟩ := at_map hj
          refine ⟨_, _, tg_name, ?_⟩
          show Sx K T _ [some (.sh (Tm.ap s l).d), some (.own ((([], .ap s l) :: plcL 0 (l.take i) ++ ((plc u).take j).map fun p => (i :: p.1, p.2)).map plD)), some (.sh (.int (i : Nat))), some (.sh (.tup [.tup (p1.map fun k => .int (k : Nat)), t1.d]))] _
          have hp1 : p1.length ≤ 1000 := by
            have h1 := plc_short u p1 t1 (List.mem_of_getElem? hp)
            have h2 := size_mem hum
            omega
          refine sx_append rfl (ev_tup (ds := [.tup ([.int (i : Nat)] ++ p1.map fun k => .int (k : Nat)), t1.d]) (ea_cons (ev_catT (ev_tup (ds := [.int (i : Nat)]) (ea_cons (ev_var rfl rfl) ea_nil)) (ev_ixT (ev_var rfl rfl) ev_int rfl) (by simp; omega)) (ea_cons (ev_ixT (ev_var rfl rfl) ev_int rfl) ea_nil))) (Nat.le_trans (hlen j) (by decide)) ?_
          refine ⟨some (.sh (.tup [.tup (p1.map fun k => .int (k : Nat)), t1.d])), ?_⟩
          rw [List.take_succ, hp]
          simp
          rfl
        · rintro δ' ⟨r, rfl⟩
          refine ⟨some (.sh (.int (i : Nat))), r, ?_⟩
          rw [List.length_map, List.take_length, plcL_take l i u hu, List.cons_append]
      · rintro δ' ⟨q, r, rfl⟩
        refine sx_retOwn ?_ rfl
        rw [rng_len, Int.toNat_natCast, List.length_map, List.take_length, plc]
        rfl
  · cases t with
    | ap s l => cases h
    | v m => exact sx_retOwn rfl rfl
def R_law_is_atom : List Sl → Sl → Prop := fun ss s => ∃ t : Tm, ss = [.sh t.d] ∧ s = .sh (.bl t.isAt)
theorem ok_law_is_atom : Ok P w base T 2 E.f__law_is_atom ["_law_term_here"] R_law_is_atom := by
  have G__law_is_variable := ok_law_is_variable (P := P) (w := w) (base := base) (T := T) E
  refine fn_R E.f__law_is_atom.F sc__law_is_atom (fun ss s ⟨t, e, _⟩ => by rw [e]; rfl) fun cdv A outer s H _ hr => ⟨_, (pss_one (ps_ret (kAnd K (kNot K (pe_call G__law_is_variable (hr.mono (by omega)) (by rfl) E.f__law_is_variable.g E.f__law_is_variable.F.kp (b__law_is_variable E) .nil pass0 (pa_cons (pv 0) pa_nil))) (kAnd K (pe_cmpR (kNe K hr.units) (pe_ix (kIx K) (pe_ix (kIx K) (pv 0) pe_int (fun _ _ => rfl)) pe_int (fun _ _ => rfl)) pe_int (nomark _)) (pe_one (pe_cmpR (kNe K hr.units) (pe_ix (kIx K) (pe_ix (kIx K) (pv 0) pe_int (fun _ _ => rfl)) pe_int (fun _ _ => rfl)) pe_int (nomark _))))))), ?_⟩
  rintro ss r ⟨t, rfl, rfl⟩
  cases t with
  | v n => exact sx_ret (ev_andB (c := false) (ev_notT (ev_call (ea_cons (ev_var rfl rfl) ea_nil) ⟨.v n, rfl, rfl⟩) rfl) fun h => nomatch h) rfl
  | ap s l =>
    have e0 : Ev K T (tVar 0) [some (.sh (Tm.ap s l).d)] (.sh (.tup [.tup [.int s.a, .int s.b, .int s.c], .tup (l.map Tm.d)])) := (ev_var rfl rfl).of_eq (by rw [d_ap]; rfl)
    exact sx_ret (ev_andB (ev_notT (ev_call (ea_cons (ev_var rfl rfl) ea_nil) ⟨.ap s l, rfl, rfl⟩) rfl) fun _ => ev_andB (ev_neI (ev_ixT (ev_ixT e0 ev_int rfl) ev_int rfl) ev_int) fun _ => ev_neI (ev_ixT (ev_ixT e0 ev_int rfl) ev_int rfl) ev_int) rfl
end
end
end G3
end

section
set_option Elab.async false
set_option linter.all false
set_option maxRecDepth 100000
set_option maxHeartbeats 1000000
namespace G3
open PySem PySem.Spec PyProof.Rows L2 LamX NdefX
noncomputable section
open scoped Classical
mutual
def mat : Tm → Tm → Sub → Option Sub
  | .v n, t, σ => match look σ n with
    | some u => if u = t then some σ else none
    | none => some (σ ++ [(n, t)])
  | .ap _ _, .v _, _ => none
  | .ap s l, .ap s' l', σ => if s = s' ∧ l.length = l'.length then matL l l' σ else none
def matL : List Tm → List Tm → Sub → Option Sub
  | [], _, σ => some σ
  | _ :: _, [], _ => none
  | p :: ps, t :: ts, σ => (mat p t σ).bind fun σ' => matL ps ts σ'
end
theorem matL_app : ∀ (a a' b b' : List Tm) (σ : Sub), a.length = a'.length → matL (a ++ b) (a' ++ b') σ = (matL a a' σ).bind fun σ' => matL b b' σ'
  | [], [], b, b', σ, _ => by simp [matL]
  | [], _ :: _, _, _, _, h => by simp at h
  | _ :: _, [], _, _, _, h => by simp at h
  | p :: a, t :: a', b, b', σ, h => by
    rw [List.cons_append, List.cons_append, matL, matL]
    cases mat p t σ with
    | none => rfl
    | some τ => exact matL_app a a' b b' τ (by simpa using h)
theorem take_at {α : Type} {l : List α} {i : Nat} {u : α} (h : l[i]? = some u) : l.take (i + 1) = l.take i ++ [u] := by rw [List.take_succ, h]; rfl
theorem matL_take {l l' : List Tm} {i : Nat} {u u' : Tm} {σ τ : Sub} (h : l[i]? = some u) (h' : l'[i]? = some u') (e : matL (l.take i) (l'.take i) σ = some τ) : matL (l.take (i + 1)) (l'.take (i + 1)) σ = mat u u' τ := by
  obtain ⟨hl, _⟩ := List.getElem?_eq_some_iff.mp h
  obtain ⟨hl', _⟩ := List.getElem?_eq_some_iff.mp h'
  rw [take_at h, take_at h', matL_app _ _ _ _ _ (by rw [List.length_take, List.length_take]; omega), e]
  show matL [u] [u'] τ = _
  rw [matL]
  cases mat u u' τ <;> rfl
theorem matL_fail {l l' : List Tm} {i : Nat} {σ : Sub} (hl : l.length = l'.length) (e : matL (l.take i) (l'.take i) σ = none) : matL l l' σ = none := by
  have h := matL_app (l.take i) (l'.take i) (l.drop i) (l'.drop i) σ (by rw [List.length_take, List.length_take]; omega)
  rw [List.take_append_drop, List.take_append_drop, e] at h
  exact h
structure Mok (σ : Sub) : Prop where
  nd : (σ.map (·.1)).Nodup
  vb : ∀ q ∈ σ, 0 ≤ q.1 ∧ q.1 < 1000
  dp : ∀ q ∈ σ, q.2.depth ≤ 28
theorem Mok.nil : Mok [] := ⟨List.nodup_nil, (fun _ h => by cases h), (fun _ h => by cases h)⟩
theorem Mok.len {σ : Sub} (h : Mok σ) : σ.length ≤ 1000 := by
  have := small_len h.nd fun x hx => by
    obtain ⟨q, hq, rfl⟩ := List.mem_map.mp hx
    exact h.vb q hq
  rwa [List.length_map] at this
theorem look_none {σ : Sub} {n : Int} : look σ n = none → ∀ q ∈ σ, q.1 ≠ n := fun h q hq e => by
  unfold look getI at h
  rw [Option.map_eq_none_iff, List.find?_eq_none] at h
  exact h q hq (by simpa using e)
theorem mat_ok : ∀ (p : Tm) (t : Tm) (σ τ : Sub), (∀ x, occ x p ≠ 0 → 0 ≤ x ∧ x < 1000) → t.depth ≤ 28 → Mok σ → mat p t σ = some τ → Mok τ := by
  refine Tm.ind (fun n t σ τ hv ht hm e => ?_) fun s l ih t σ τ hv ht hm e => ?_
  · rw [mat] at e
    cases hk : look σ n with
    | some u =>
      rw [hk] at e
      dsimp only at e
      split at e
      · exact Option.some.inj e ▸ hm
      · cases e
    | none =>
      rw [hk] at e
      obtain rfl := Option.some.inj e
      have hn := look_none hk
      refine ⟨?_, ?_, ?_⟩
      · rw [List.map_append, List.nodup_append]
        refine ⟨hm.nd, by simp, fun a ha b hb => ?_⟩
        obtain ⟨q, hq, rfl⟩ := List.mem_map.mp ha
        simp at hb
        rw [hb]
        exact hn q hq
      · intro q hq
        rcases List.mem_append.mp hq with hq | hq
        · exact hm.vb q hq
        · simp at hq
          rw [hq]
          exact hv n (by simp [occ])
      · intro q hq
        rcases List.mem_append.mp hq with hq | hq
        · exact hm.dp q hq
        · simp at hq
          rw [hq]
          exact ht
  · cases t with
    | v m => rw [mat] at e; cases e
    | ap s' l' =>
      rw [mat] at e
      split at e
      · have key : ∀ (l l' : List Tm) (σ τ : Sub), (∀ p ∈ l, ∀ (t : Tm) (σ τ : Sub), (∀ x, occ x p ≠ 0 → 0 ≤ x ∧ x < 1000) → t.depth ≤ 28 → Mok σ → mat p t σ = some τ → Mok τ) → (∀ p ∈ l, ∀ x, occ x p ≠ 0 → 0 ≤ x ∧ x < 1000) → (∀ t ∈ l', t.depth ≤ 28) → Mok σ → matL l l' σ = some τ → Mok τ := by
          intro l
          induction l with
          | nil => intro l' σ τ _ _ _ hm e; rw [matL] at e; exact Option.some.inj e ▸ hm
          | cons p l ih2 =>
            intro l' σ τ h1 h2 h3 hm e
            cases l' with
            | nil => rw [matL] at e; cases e
            | cons t l' =>
              rw [matL] at e
              cases hmt : mat p t σ with
              | none => rw [hmt] at e; cases e
              | some ρ =>
                rw [hmt] at e
                exact ih2 l' ρ τ (fun q hq => h1 q (List.mem_cons_of_mem _ hq)) (fun q hq => h2 q (List.mem_cons_of_mem _ hq)) (fun q hq => h3 q (List.mem_cons_of_mem _ hq)) (h1 p (by simp) t σ ρ (h2 p (by simp)) (h3 t (by simp)) hm hmt) e
        refine key l l' σ τ ih (fun p hp x hx => hv x (by have := occ_mem (x := x) hp; rw [occ]; omega)) (fun t ht' => ?_) hm e
        have := depth_arg (s := s') ht'
        omega
      · cases e
def mtS : Option Sub → Sl
  | none => .sh .non
  | some σ => .lst (told σ)
section
variable {K : PySem.W.Frag} {mg : Str → Option Value} {P : Program} {w : World} {base : Heap} {T : List NTab} (E : Txt K mg)
def R_law_match (n : Nat) : List Sl → Sl → Prop := fun ss r => ∃ (p t : Tm) (σ : Sub), p.depth = n ∧ p.thin ∧ (∀ x, occ x p ≠ 0 → 0 ≤ x ∧ x < 1000) ∧ t.depth ≤ 28 ∧ Mok σ ∧ ss = [.sh p.d, .sh t.d, .lst (told σ)] ∧ r = mtS (mat p t σ)
theorem ok_law_match : ∀ n, Ok P w base T (n + 1 + 1) E.f__law_match ["_law_pattern", "_law_term_here", "_law_told"] (R_law_match n) := by
  refine rec_R (fun n ss s ⟨_, _, _, _, _, _, _, _, e, _⟩ => by rw [e]; rfl) fun n G__law_match => ?_
  have G__law_is_variable := ok_law_is_variable (P := P) (w := w) (base := base) (T := T) E
  refine fn_R E.f__law_match.F sc__law_match (fun ss s ⟨_, _, _, _, _, _, _, _, e, _⟩ => by rw [e]; rfl) fun cdv A outer s H _ hr => ⟨_, (pss_cons (ps_if (kTru K (pe_call G__law_is_variable (hr.mono (by omega)) (by rfl) E.f__law_is_variable.g E.f__law_is_variable.F.kp (b__law_is_variable E) .nil pass0 (pa_cons (pv 0) pa_nil)) (fun _ => rfl))
      (pss_cons (ps_for PassesOwn.never rfl (kiList K (pv 2)) (pg_name (i := 3) sc__law_match.nd rfl (by first | exact Or.inl rfl | exact Or.inr rfl))
        (pss_one (ps_if (pt_cmpR (kEq K hr.units) (pe_ix (kIx K) (pv 3) pe_int (fun _ _ => rfl)) (pv 0) (nomark _))
          (pss_one (ps_ret (pe_ifExp (pt_cmpR (kEq K hr.units) (pe_ix (kIx K) (pv 3) pe_int (fun _ _ => rfl)) (pv 1) (nomark _)) (pv 2) pe_non)))
          pss_nil)))
      (pss_one (ps_ret (pe_op (kAdd K) (pv 2) (pe_lst (pa_cons (pe_tup (pa_cons (pv 0) (pa_cons (pv 1) pa_nil))) pa_nil))))))
      pss_nil)
    (pss_cons (ps_if ((pw_or (kTru K (pe_call G__law_is_variable (hr.mono (by omega)) (by rfl) E.f__law_is_variable.g E.f__law_is_variable.F.kp (b__law_is_variable E) .nil pass0 (pa_cons (pv 1) pa_nil)) (fun _ => rfl)) (pw_or (pt_cmpR (kNe K hr.units) (pe_ix (kIx K) (pv 0) pe_int (fun _ _ => rfl)) (pe_ix (kIx K) (pv 1) pe_int (fun _ _ => rfl)) (nomark _)) (pw_or1 (pt_cmpR (kNe K hr.units) (pe_callB (kLen K) (by rfl) E.m_len PySem.boot_len (pa_cons (pe_ix (kIx K) (pv 0) pe_int (fun _ _ => rfl)) pa_nil)) (pe_callB (kLen K) (by rfl) E.m_len PySem.boot_len (pa_cons (pe_ix (kIx K) (pv 1) pe_int (fun _ _ => rfl)) pa_nil)) (nomark _))))).pt)
      (pss_one (ps_ret pe_non))
      pss_nil)
    (pss_cons (ps_for PassesOwn.never rfl (pi_range1 rfl E.m_range (pa_cons (pe_callB (kLen K) (by rfl) E.m_len PySem.boot_len (pa_cons (pe_ix (kIx K) (pv 0) pe_int (fun _ _ => rfl)) pa_nil)) pa_nil)) (pg_name (i := 4) sc__law_match.nd rfl (by first | exact Or.inl rfl | exact Or.inr rfl))
      (pss_cons (ps_set (i := 2) sc__law_match.nd rfl (by first | exact Or.inl rfl | exact Or.inr rfl) (pe_call G__law_match (hr.mono (by omega)) (by rfl) E.f__law_match.g E.f__law_match.F.kp (b__law_match E) .nil pass0 (pa_cons (pe_ix (kIx K) (pe_ix (kIx K) (pv 0) pe_int (fun _ _ => rfl)) (pv 4) (fun _ _ => rfl)) (pa_cons (pe_ix (kIx K) (pe_ix (kIx K) (pv 1) pe_int (fun _ _ => rfl)) (pv 4) (fun _ _ => rfl)) (pa_cons (pv 2) pa_nil)))))
      (pss_one (ps_if (pt_cmpR op_isNN (pv 2) pe_non (nomark _))
        (pss_one (ps_ret pe_non))
        pss_nil))))
    (pss_one (ps_ret (pv 2)))))), ?_⟩
  rintro ss r ⟨p, t, σ, hd, hth, hv, ht, hm, rfl, rfl⟩
  show Sx K T _ [some (.sh p.d), some (.sh t.d), some (.lst (told σ)), none, none] _
  refine sx_seq (sx_if (et_tru (ev_call (ea_cons (ev_var rfl rfl) ea_nil) ⟨p, rfl, rfl⟩) rfl) (fun h => ?_) fun h => sx_next ?_)
  · cases p with
    | ap s l => cases h
    | v m =>
      refine sx_seq (sx_for (ei_var (i := 2) rfl) (fun i δ => (∀ q ∈ σ.take i, q.1 ≠ m) ∧ ∃ o, δ = [some (.sh (Tm.v m).d), some (.sh t.d), some (.lst (told σ)), o, none]) ⟨by simp, none, rfl⟩ ?_ ?_)
      · rintro i d δ' hi ⟨hne, o, rfl⟩
        obtain ⟨q, hq, rfl⟩ := at_map hi
        refine ⟨_, _, tg_name, ?_⟩
        show Sx K T _ [some (.sh (Tm.v m).d), some (.sh t.d), some (.lst (told σ)), some (.sh (.tup [.int q.1, q.2.d])), none] _
        refine sx_if (et_test (ev_eqI (ev_ixT (ev_var rfl rfl) ev_int rfl) ((ev_var (s := .sh (Tm.v m).d) rfl rfl).of_eq (by rw [d_v])))) (fun h => ?_) fun h => sx_next ?_
        · have hk := look_hit σ i m q hq (of_decide_eq_true h) hne
          have hmt : mat (.v m) t σ = if q.2 = t then some σ else none := by rw [mat, hk]
          rw [hmt]
          refine sx_ret (ev_if (et_test (ev_eqTm (ev_ixT (ev_var rfl rfl) ev_int rfl) (ev_var rfl rfl) (by have := hm.dp q (List.mem_of_getElem? hq); omega) (by omega))) (fun z => ?_) fun z => ?_) rfl
          · rw [if_pos (of_decide_eq_true z)]
            exact ev_var rfl rfl
          · rw [if_neg (of_decide_eq_false z)]
            exact ev_non
        · exact ⟨ne_take hq hne (of_decide_eq_false h), some (.sh (.tup [.int q.1, q.2.d])), rfl⟩
      · rintro δ' ⟨hne, o, rfl⟩
        rw [told, List.length_map, List.take_length] at hne
        have hmt : mat (.v m) t σ = some (σ ++ [(m, t)]) := by rw [mat, look_miss σ m hne]
        rw [hmt]
        refine sx_ret (ev_catL (ev_var rfl rfl) (Ev.shared (ev_lst (ds := [.tup [.int m, t.d]]) (ea_cons (ev_tup (ds := [.int m, t.d]) (ea_cons ((ev_var (s := .sh (Tm.v m).d) rfl rfl).of_eq (by rw [d_v])) (ea_cons (ev_var rfl rfl) ea_nil))) ea_nil))) (by
          have := hm.len
          unfold told
          rw [List.length_map]
          simp
          omega)).shared ?_
        show Sl.lst _ = Sl.lst (told (σ ++ [(m, t)]))
        unfold told
        rw [List.map_append]
        rfl
  · cases p with
    | v m => cases h
    | ap s l =>
      obtain ⟨h1, h2⟩ := thin_ap.mp hth
      have e0 : ∀ {δ : AS}, δ[0]? = some (some (.sh (Tm.ap s l).d)) → Ev K T (tVar 0) δ (.sh (.tup [s.d, .tup (l.map Tm.d)])) := fun h => (ev_var h rfl).of_eq (by rw [d_ap])
      cases t with
      | v m =>
        refine sx_seq (sx_if (b := true) (et_or (b := true) (c := true) (et_tru (ev_call (ea_cons (ev_var rfl rfl) ea_nil) ⟨.v m, rfl, rfl⟩) rfl) fun h => nomatch h) (fun _ => ?_) fun h => nomatch h)
        refine sx_ret ev_non ?_
        rw [mat]
        rfl
      | ap s' l' =>
        have e1 : ∀ {δ : AS}, δ[1]? = some (some (.sh (Tm.ap s' l').d)) → Ev K T (tVar 1) δ (.sh (.tup [s'.d, .tup (l'.map Tm.d)])) := fun h => (ev_var h rfl).of_eq (by rw [d_ap])
        have hsy : ∀ u : Sy, u.d.dep ≤ 60 := fun u => by simp [Sy.d, Dat.dep, depAll]
        have hmt : mat (.ap s l) (.ap s' l') σ = if s = s' ∧ l.length = l'.length then matL l l' σ else none := by rw [mat]
        rw [hmt]
        refine sx_seq (sx_if (et_or (et_tru (ev_call (ea_cons (ev_var rfl rfl) ea_nil) ⟨.ap s' l', rfl, rfl⟩) rfl) fun _ => et_or (b := !decide (s = s')) (c := !decide (l.length = l'.length))
          (et_test (ev_neD (b := decide (s = s')) (ev_ixT (e0 rfl) ev_int rfl) (ev_ixT (e1 rfl) ev_int rfl) (sy_plain s) (sy_plain s') (hsy s) (hsy s') (by rw [decide_eq_true_iff]; exact ⟨fun e => by rw [e], sy_inj⟩)))
          fun _ => et_test ((ev_neI (ev_CB (ea_cons (ev_ixT (e0 rfl) ev_int rfl) ea_nil) (cb_lenT (ds := l.map Tm.d))) (ev_CB (ea_cons (ev_ixT (e1 rfl) ev_int rfl) ea_nil) (cb_lenT (ds := l'.map Tm.d)))).of_eq (by
            rw [List.length_map, List.length_map]
            congr 3
            simp only [decide_eq_decide]
            omega))) (fun h => ?_) fun h => sx_next ?_)
        · have hn : ¬ (s = s' ∧ l.length = l'.length) := by
            rintro ⟨rfl, z⟩
            simp [z, Tm.isV] at h
          rw [if_neg hn]
          exact sx_ret ev_non rfl
        · have hy : s = s' ∧ l.length = l'.length := by
            simp [Tm.isV] at h
            exact h
          rw [if_pos hy]
          refine sx_seq (sx_for (ei_rng (n := (l.map Tm.d).length) (ea_cons (ev_CB (ea_cons (ev_ixT (e0 rfl) ev_int rfl) ea_nil) cb_lenT) ea_nil) (by rw [List.length_map]; omega) (by rw [List.length_map]; omega)) (fun i δ => ∃ (τ : Sub) (o : Option Sl), matL (l.take i) (l'.take i) σ = some τ ∧ Mok τ ∧ δ = [some (.sh (Tm.ap s l).d), some (.sh (Tm.ap s' l').d), some (.lst (told τ)), none, o]) ⟨σ, none, by simp [matL], hm, rfl⟩ ?_ ?_)
          · rintro i d δ' hi ⟨τ, o, hτ, hmτ, rfl⟩
            obtain ⟨hil, rfl⟩ := rng_at hi
            have hil : i < l.length := by simpa using hil
            obtain ⟨u, hu⟩ : ∃ u, l[i]? = some u := ⟨l[i], by simp [hil]⟩
            obtain ⟨u', hu'⟩ : ∃ u, l'[i]? = some u := ⟨l'[i]'(by omega), by simp [show i < l'.length by omega]⟩
            have a1 : atI (l.map Tm.d) (i : Nat) = some u.d := atI_n (by rw [List.getElem?_map, hu]; rfl)
            have a2 : atI (l'.map Tm.d) (i : Nat) = some u'.d := atI_n (by rw [List.getElem?_map, hu']; rfl)
            have hum := List.mem_of_getElem? hu
            have hum' := List.mem_of_getElem? hu'
            have hdu : u'.depth ≤ 28 := by have := depth_arg (s := s') hum'; omega
            have hvu : ∀ x, occ x u ≠ 0 → 0 ≤ x ∧ x < 1000 := fun x hx => hv x (by have := occ_mem (x := x) hum; rw [occ]; omega)
            refine ⟨_, _, tg_name, ?_⟩
            show Sx K T _ [some (.sh (Tm.ap s l).d), some (.sh (Tm.ap s' l').d), some (.lst (told τ)), none, some (.sh (.int (i : Nat)))] _
            refine sx_seq (sx_set (ev_call (ea_cons (ev_ixT (ev_ixT (e0 rfl) ev_int rfl) (ev_var rfl rfl) a1) (ea_cons (ev_ixT (ev_ixT (e1 rfl) ev_int rfl) (ev_var rfl rfl) a2) (ea_cons (ev_var rfl rfl) ea_nil))) ⟨u.depth, by rw [← hd]; exact depth_arg hum, u, u', τ, rfl, h2 u hum, hvu, hdu, hmτ, rfl, rfl⟩) ?_ (by cases mat u u' τ <;> rfl))
            have hst := matL_take hu hu' hτ
            cases hmt2 : mat u u' τ with
            | none =>
              rw [hmt2] at hst
              refine sx_if (b := true) (et_test (ev_isN (ev_var rfl rfl) rfl)) (fun _ => ?_) fun h => nomatch h
              rw [matL_fail hy.2 hst]
              exact sx_ret ev_non rfl
            | some ρ =>
              rw [hmt2] at hst
              refine sx_if (b := false) (et_test (ev_isN (ev_var rfl rfl) rfl)) (fun h => nomatch h) fun _ => sx_next ?_
              exact ⟨ρ, some (.sh (.int (i : Nat))), hst, mat_ok u u' τ ρ hvu hdu hmτ hmt2, rfl⟩
          · rintro δ' ⟨τ, o, hτ, hmτ, rfl⟩
            rw [rng_len, Int.toNat_natCast, List.length_map, List.take_length, hy.2, List.take_length] at hτ
            rw [hτ]
            exact sx_ret (ev_var rfl rfl) rfl
theorem G_lmatch (n : Nat) : Ok P w base T (n + 2) E.f__law_match ["_law_pattern", "_law_term_here", "_law_told"] (fun ss r => ∃ (p t : Tm) (σ : Sub), Tok n p ∧ t.depth ≤ 28 ∧ Mok σ ∧ ss = [.sh p.d, .sh t.d, .lst (told σ)] ∧ r = mtS (mat p t σ)) :=
  FnOk.toR (below_R (n := n + 1) (R := R_law_match) (fun n ss s ⟨_, _, _, _, _, _, _, _, e, _⟩ => by rw [e]; rfl) fun j hj => (ok_law_match (P := P) (w := w) (base := base) (T := T) E j).mono (show j + 1 + 1 ≤ n + 2 by omega)) fun ss r ⟨p, t, σ, h1, h2⟩ => ⟨p.depth, by have := h1.dep; omega, p, t, σ, rfl, h1.ar, h1.vb, h2⟩
end
end
end G3
end

section
set_option Elab.async false
set_option linter.all false
set_option maxRecDepth 100000
set_option maxHeartbeats 1000000
namespace G3
open PySem PySem.Spec PyProof.Rows L2 LamX NdefX
noncomputable section
open scoped Classical
def insLit (x y : Lit) (σ : Sub) : Option Sub := if x.p = y.p then (mat x.l y.l σ).bind fun τ => mat x.r y.r τ else none
def insL : Cl → Cl → Sub → Option Sub
  | [], [], σ => some σ
  | x :: xs, y :: ys, σ => (insLit x y σ).bind fun τ => insL xs ys τ
  | _, _, _ => none
def isInst (c d : Cl) : Bool := (insL c d []).isSome
theorem insL_app : ∀ (a a' b b' : Cl) (σ : Sub), a.length = a'.length → insL (a ++ b) (a' ++ b') σ = (insL a a' σ).bind fun σ' => insL b b' σ'
  | [], [], b, b', σ, _ => by simp [insL]
  | [], _ :: _, _, _, _, h => by simp at h
  | _ :: _, [], _, _, _, h => by simp at h
  | p :: a, t :: a', b, b', σ, h => by
    rw [List.cons_append, List.cons_append, insL, insL]
    cases insLit p t σ with
    | none => rfl
    | some τ => exact insL_app a a' b b' τ (by simpa using h)
theorem insL_take {l l' : Cl} {i : Nat} {u u' : Lit} {σ τ : Sub} (h : l[i]? = some u) (h' : l'[i]? = some u') (e : insL (l.take i) (l'.take i) σ = some τ) : insL (l.take (i + 1)) (l'.take (i + 1)) σ = insLit u u' τ := by
  obtain ⟨hl, _⟩ := List.getElem?_eq_some_iff.mp h
  obtain ⟨hl', _⟩ := List.getElem?_eq_some_iff.mp h'
  rw [take_at h, take_at h', insL_app _ _ _ _ _ (by rw [List.length_take, List.length_take]; omega), e]
  show insL [u] [u'] τ = _
  rw [insL]
  cases insLit u u' τ <;> rfl
theorem insL_fail {l l' : Cl} {i : Nat} {σ : Sub} (hl : l.length = l'.length) (e : insL (l.take i) (l'.take i) σ = none) : insL l l' σ = none := by
  have h := insL_app (l.take i) (l'.take i) (l.drop i) (l'.drop i) σ (by rw [List.length_take, List.length_take]; omega)
  rw [List.take_append_drop, List.take_append_drop, e] at h
  exact h
theorem insL_len : ∀ (l l' : Cl) (σ τ : Sub), insL l l' σ = some τ → l.length = l'.length
  | [], [], _, _, _ => rfl
  | [], _ :: _, _, _, h => by simp [insL] at h
  | _ :: _, [], _, _, h => by simp [insL] at h
  | x :: l, y :: l', σ, τ, h => by
    rw [insL] at h
    cases hx : insLit x y σ with
    | none => rw [hx] at h; cases h
    | some ρ => rw [hx] at h; have := insL_len l l' ρ τ h; simp [this]
/-- the two sides, as the loop takes them -/
def insS (x y : Lit) : Nat → Sub → Option Sub
  | 0, σ => some σ
  | 1, σ => mat x.l y.l σ
  | _, σ => (mat x.l y.l σ).bind fun τ => mat x.r y.r τ
section
variable {K : PySem.W.Frag} {mg : Str → Option Value} {P : Program} {w : World} {base : Heap} {T : List NTab} (E : Txt K mg)
def Dpt (c : Cl) : Prop := ∀ x ∈ c, x.l.depth ≤ 28 ∧ x.r.depth ≤ 28
def R_law_is_instance (n : Nat) : List Sl → Sl → Prop := fun ss r => ∃ (c d : Cl), Cok n c ∧ Dpt d ∧ ss = [.sh c.d, .sh d.d] ∧ r = .sh (.bl (isInst c d))
theorem ok_law_is_instance (n : Nat) : Ok P w base T (n + 3) E.f__law_is_instance ["_law_clause_here", "_law_instance"] (R_law_is_instance n) := by
  have G__law_match := G_lmatch (P := P) (w := w) (base := base) (T := T) E n
  refine fn_R E.f__law_is_instance.F sc__law_is_instance (fun ss s ⟨_, _, _, _, e, _⟩ => by rw [e]; rfl) fun cdv A outer s H _ hr => ⟨_, (pss_cons (ps_if (pt_cmpR (kNe K hr.units) (pe_callB (kLen K) (by rfl) E.m_len PySem.boot_len (pa_cons (pv 0) pa_nil)) (pe_callB (kLen K) (by rfl) E.m_len PySem.boot_len (pa_cons (pv 1) pa_nil)) (nomark _))
      (pss_one (ps_ret pe_bl))
      pss_nil)
    (pss_cons (ps_set (i := 2) sc__law_is_instance.nd rfl (by first | exact Or.inl rfl | exact Or.inr rfl) (pe_lst pa_nil))
    (pss_cons (ps_for PassesOwn.never rfl (pi_range1 rfl E.m_range (pa_cons (pe_callB (kLen K) (by rfl) E.m_len PySem.boot_len (pa_cons (pv 0) pa_nil)) pa_nil)) (pg_name (i := 3) sc__law_is_instance.nd rfl (by first | exact Or.inl rfl | exact Or.inr rfl))
      (pss_cons (ps_if (pt_cmpR (kNe K hr.units) (pe_ix (kIx K) (pe_ix (kIx K) (pv 0) (pv 3) (fun _ _ => rfl)) pe_int (fun _ _ => rfl)) (pe_ix (kIx K) (pe_ix (kIx K) (pv 1) (pv 3) (fun _ _ => rfl)) pe_int (fun _ _ => rfl)) (nomark _))
        (pss_one (ps_ret pe_bl))
        pss_nil)
      (pss_one (ps_for PassesOwn.never rfl (pi_range1 rfl E.m_range (pa_cons pe_int pa_nil)) (pg_name (i := 4) sc__law_is_instance.nd rfl (by first | exact Or.inl rfl | exact Or.inr rfl))
        (pss_cons (ps_set (i := 2) sc__law_is_instance.nd rfl (by first | exact Or.inl rfl | exact Or.inr rfl) (pe_call G__law_match (hr.mono (by omega)) (by rfl) E.f__law_match.g E.f__law_match.F.kp (b__law_match E) .nil pass0 (pa_cons (pe_ix (kIx K) (pe_ix (kIx K) (pv 0) (pv 3) (fun _ _ => rfl)) (pe_op (kAdd K) pe_int (pv 4)) (fun _ _ => rfl)) (pa_cons (pe_ix (kIx K) (pe_ix (kIx K) (pv 1) (pv 3) (fun _ _ => rfl)) (pe_op (kAdd K) pe_int (pv 4)) (fun _ _ => rfl)) (pa_cons (pv 2) pa_nil)))))
        (pss_one (ps_if (pt_cmpR op_isNN (pv 2) pe_non (nomark _))
          (pss_one (ps_ret pe_bl))
          pss_nil)))))))
    (pss_one (ps_ret pe_bl))))), ?_⟩
  rintro ss r ⟨c, d, hc, hd, rfl, rfl⟩
  show Sx K T _ [some (.sh (.tup (c.map Lit.d))), some (.sh (.tup (d.map Lit.d))), none, none, none] _
  have hcl := hc.1
  refine sx_seq (sx_if (et_test (ev_neI (ev_CB (ea_cons (ev_var rfl rfl) ea_nil) cb_lenT) (ev_CB (ea_cons (ev_var rfl rfl) ea_nil) cb_lenT))) (fun h => ?_) fun h => sx_next ?_)
  · have hne : ¬ c.length = d.length := by
      intro z
      rw [List.length_map, List.length_map, z] at h
      simp at h
    refine sx_ret ev_bl ?_
    have : isInst c d = false := by
      unfold isInst
      cases hi : insL c d [] with
      | none => rfl
      | some τ => exact absurd (insL_len _ _ _ _ hi) hne
    rw [this]
  · have hlen : c.length = d.length := by
      rw [List.length_map, List.length_map] at h
      simp at h
      omega
    refine sx_seq (sx_set (ev_lst (ds := []) ea_nil) ?_)
    refine sx_freeze (i := 2) (ds := []) rfl ?_
    have fail : ∀ {i : Nat} {x y : Lit} {τ : Sub}, c[i]? = some x → d[i]? = some y → insL (c.take i) (d.take i) [] = some τ → insLit x y τ = none → isInst c d = false := fun {i x y τ} h1 h2 h3 h4 => by
      unfold isInst
      rw [insL_fail (i := i + 1) hlen (by rw [insL_take h1 h2 h3, h4])]
      rfl
    refine sx_seq (sx_for (ei_rng (n := (c.map Lit.d).length) (ea_cons (ev_CB (ea_cons (ev_var rfl rfl) ea_nil) cb_lenT) ea_nil) (by rw [List.length_map]; omega) (by rw [List.length_map]; omega)) (fun i δ => ∃ (τ : Sub) (o p : Option Sl), insL (c.take i) (d.take i) [] = some τ ∧ Mok τ ∧ δ = [some (.sh (.tup (c.map Lit.d))), some (.sh (.tup (d.map Lit.d))), some (.lst (told τ)), o, p]) ⟨[], none, none, by simp [insL], Mok.nil, rfl⟩ ?_ ?_)
    · rintro i e δ' hi ⟨τ, o, p, hτ, hm, rfl⟩
      obtain ⟨hil, rfl⟩ := rng_at hi
      have hil : i < c.length := by simpa using hil
      obtain ⟨x, hx⟩ : ∃ u, c[i]? = some u := ⟨c[i], by simp [hil]⟩
      obtain ⟨y, hy⟩ : ∃ u, d[i]? = some u := ⟨d[i]'(by omega), by simp [show i < d.length by omega]⟩
      have a1 : atI (c.map Lit.d) (i : Nat) = some (.tup [.bl x.p, x.l.d, x.r.d]) := atI_n (by rw [List.getElem?_map, hx]; rfl)
      have a2 : atI (d.map Lit.d) (i : Nat) = some (.tup [.bl y.p, y.l.d, y.r.d]) := atI_n (by rw [List.getElem?_map, hy]; rfl)
      have hxk := hc.2 x (List.mem_of_getElem? hx)
      have hyk := hd y (List.mem_of_getElem? hy)
      refine ⟨_, _, tg_name, ?_⟩
      show Sx K T _ [some (.sh (.tup (c.map Lit.d))), some (.sh (.tup (d.map Lit.d))), some (.lst (told τ)), some (.sh (.int (i : Nat))), p] _
      refine sx_seq (sx_if (et_test (ev_neB (ev_ixT (ev_ixT (ev_var rfl rfl) (ev_var rfl rfl) a1) ev_int rfl) (ev_ixT (ev_ixT (ev_var rfl rfl) (ev_var rfl rfl) a2) ev_int rfl))) (fun h => ?_) fun h => sx_next ?_)
      · have hne : ¬ x.p = y.p := by simpa using h
        rw [fail hx hy hτ (by unfold insLit; rw [if_neg hne])]
        exact sx_ret ev_bl rfl
      · have hpe : x.p = y.p := by simpa using h
        have hlit : insLit x y τ = insS x y 2 τ := by unfold insLit; rw [if_pos hpe]; rfl
        refine sx_for (ei_rng (n := 2) (ea_cons ev_int ea_nil) (by decide) (by decide)) (fun j δ => ∃ (ρ : Sub) (o : Option Sl), insS x y j τ = some ρ ∧ Mok ρ ∧ δ = [some (.sh (.tup (c.map Lit.d))), some (.sh (.tup (d.map Lit.d))), some (.lst (told ρ)), some (.sh (.int (i : Nat))), o]) ⟨τ, p, rfl, hm, rfl⟩ ?_ ?_
        · rintro j e δ' hj ⟨ρ, o, hρ, hmρ, rfl⟩
          obtain ⟨hjl, rfl⟩ := rng_at hj
          have hj2 : j = 0 ∨ j = 1 := by have : j < 2 := hjl; omega
          refine ⟨_, _, tg_name, ?_⟩
          show Sx K T _ [some (.sh (.tup (c.map Lit.d))), some (.sh (.tup (d.map Lit.d))), some (.lst (told ρ)), some (.sh (.int (i : Nat))), some (.sh (.int (j : Nat)))] _
          have at1 : ∀ z : Lit, atI [.bl z.p, z.l.d, z.r.d] (1 + (j : Nat)) = some (z.side j).d := fun z => by rcases hj2 with rfl | rfl <;> rfl
          have tx : Tok n (x.side j) := by rcases hj2 with rfl | rfl <;> first | exact hxk.1 | exact hxk.2
          have ty : (y.side j).depth ≤ 28 := by rcases hj2 with rfl | rfl <;> first | exact hyk.1 | exact hyk.2
          refine sx_seq (sx_set (ev_call (ea_cons (ev_ixT (ev_ixT (ev_var rfl rfl) (ev_var rfl rfl) a1) (ev_add ev_int (ev_var rfl rfl)) (at1 x)) (ea_cons (ev_ixT (ev_ixT (ev_var rfl rfl) (ev_var rfl rfl) a2) (ev_add ev_int (ev_var rfl rfl)) (at1 y)) (ea_cons (ev_var rfl rfl) ea_nil))) ⟨x.side j, y.side j, ρ, tx, ty, hmρ, rfl, rfl⟩) ?_ (by cases mat (x.side j) (y.side j) ρ <;> rfl))
          have hst : insS x y (j + 1) τ = mat (x.side j) (y.side j) ρ := by
            rcases hj2 with rfl | rfl
            · have : τ = ρ := Option.some.inj hρ
              rw [← this]
              rfl
            · show (mat x.l y.l τ).bind _ = _
              have : mat x.l y.l τ = some ρ := hρ
              rw [this]
              rfl
          cases hmt : mat (x.side j) (y.side j) ρ with
          | none =>
            refine sx_if (b := true) (et_test (ev_isN (ev_var rfl rfl) rfl)) (fun _ => ?_) fun h => nomatch h
            rw [hmt] at hst
            rw [fail hx hy hτ (by
              rw [hlit]
              rcases hj2 with rfl | rfl
              · have h0 : mat x.l y.l τ = none := hst
                show (mat x.l y.l τ).bind _ = _
                rw [h0]
                rfl
              · exact hst)]
            exact sx_ret ev_bl rfl
          | some ν =>
            rw [hmt] at hst
            refine sx_if (b := false) (et_test (ev_isN (ev_var rfl rfl) rfl)) (fun h => nomatch h) fun _ => sx_next ?_
            exact ⟨ν, some (.sh (.int (j : Nat))), hst, mat_ok _ _ ρ ν tx.vb ty hmρ hmt, rfl⟩
        · rintro δ' ⟨ρ, o, hρ, hmρ, rfl⟩
          have hρ : insS x y 2 τ = some ρ := hρ
          exact ⟨ρ, some (.sh (.int (i : Nat))), o, by rw [insL_take hx hy hτ, hlit, hρ], hmρ, rfl⟩
    · rintro δ' ⟨τ, o, p, hτ, hm, rfl⟩
      rw [rng_len, Int.toNat_natCast, List.length_map, List.take_length, hlen, List.take_length] at hτ
      refine sx_ret ev_bl ?_
      unfold isInst
      rw [hτ]
      rfl
end
end
end G3
end

section
set_option Elab.async false
set_option linter.all false
set_option maxRecDepth 100000
set_option maxHeartbeats 1000000
namespace G3
open PySem PySem.Spec PyProof.Rows L2 LamX NdefX
noncomputable section
open scoped Classical
/-- where a conclusion comes from -/
inductive Kd where
  | res (k : Nat)
  | fac (k s j t : Nat)
  | sup (k s : Nat) (p : List Nat) (j t : Nat)
  deriving DecidableEq
def Kd.conc : Kd → Cl → Conc
  | .res k, c => ⟨"resolution", c, .int k, .non, .non, .non, .non⟩
  | .fac k s j t, c => ⟨"factoring", c, .int k, .int s, .non, .int j, .int t⟩
  | .sup k s p j t, c => ⟨"superposition", c, .int k, .int s, pcD p, .int j, .int t⟩
def spotD (x : Conc) : List Dat := [.str x.kind, x.lit, x.sd, x.pl, x.ol, x.os]
def Kd.spot (q : Kd) : List Dat := spotD (q.conc [])
theorem Kd.spot_eq (q : Kd) (c : Cl) : spotD (q.conc c) = q.spot := by cases q <;> rfl
theorem pcD_inj : ∀ {p q : List Nat}, pcD p = pcD q → p = q := by
  intro p q h
  unfold pcD at h
  injection h with h
  induction p generalizing q with
  | nil => cases q with
    | nil => rfl
    | cons a q => simp at h
  | cons a p ih => cases q with
    | nil => simp at h
    | cons b q =>
      simp only [List.map_cons, List.cons.injEq, Dat.int.injEq] at h
      rw [ih h.2, show a = b by omega]
theorem kd12 : ¬ Str.ofString "resolution" = Str.ofString "factoring" := by decide +kernel
theorem kd13 : ¬ Str.ofString "resolution" = Str.ofString "superposition" := by decide +kernel
theorem kd23 : ¬ Str.ofString "factoring" = Str.ofString "superposition" := by decide +kernel
theorem Kd.spot_inj {q r : Kd} (h : q.spot = r.spot) : q = r := by
  have hd : ∀ {a b : Str} {l m : List Dat}, Dat.str a :: l = Dat.str b :: m → a = b := fun h => Dat.str.inj (List.cons.inj h).1
  cases q with
  | res k => cases r with
    | res k' =>
      have h2 : Dat.int (k : Nat) = .int (k' : Nat) := (List.cons.inj (List.cons.inj h).2).1
      injection h2 with h2
      rw [show k = k' by omega]
    | fac => exact absurd (hd h) kd12
    | sup => exact absurd (hd h) kd13
  | fac k s j t => cases r with
    | res => exact absurd (hd h).symm kd12
    | fac k' s' j' t' =>
      have h1 : [Dat.int (k : Nat), .int (s : Nat), .non, .int (j : Nat), .int (t : Nat)] = [Dat.int (k' : Nat), .int (s' : Nat), .non, .int (j' : Nat), .int (t' : Nat)] := (List.cons.inj h).2
      simp only [List.cons.injEq, Dat.int.injEq, and_true, true_and] at h1
      rw [show k = k' by omega, show s = s' by omega, show j = j' by omega, show t = t' by omega]
    | sup => exact absurd (hd h) kd23
  | sup k s p j t => cases r with
    | res => exact absurd (hd h).symm kd13
    | fac => exact absurd (hd h).symm kd23
    | sup k' s' p' j' t' =>
      have h1 : [Dat.int (k : Nat), .int (s : Nat), pcD p, .int (j : Nat), .int (t : Nat)] = [Dat.int (k' : Nat), .int (s' : Nat), pcD p', .int (j' : Nat), .int (t' : Nat)] := (List.cons.inj h).2
      simp only [List.cons.injEq, Dat.int.injEq, and_true, true_and] at h1
      rw [show k = k' by omega, show s = s' by omega, pcD_inj h1.2.2.1, show j = j' by omega, show t = t' by omega]
theorem spot_plain (q : Kd) : plainAll q.spot = true ∧ depAll q.spot ≤ 50 := by
  have hp : ∀ p : List Nat, (pcD p).plain = true := fun p => by
    unfold pcD
    rw [Dat.plain, plainAll_iff]
    intro d hd
    obtain ⟨k, _, rfl⟩ := List.mem_map.mp hd
    rfl
  have hd : ∀ p : List Nat, (pcD p).dep ≤ 1 := fun p => by
    unfold pcD
    rw [Dat.dep]
    have : ∀ l : List Nat, depAll (l.map fun k => Dat.int (k : Nat)) = 0 := fun l => by
      induction l with
      | nil => rfl
      | cons a l ih => rw [List.map_cons, depAll, ih]; rfl
    rw [this]
    omega
  cases q with
  | res k => exact ⟨by simp [Kd.spot, spotD, Kd.conc, plainAll, Dat.plain]; decide +kernel, by simp [Kd.spot, spotD, Kd.conc, depAll, Dat.dep]⟩
  | fac k s j t => exact ⟨by simp [Kd.spot, spotD, Kd.conc, plainAll, Dat.plain]; decide +kernel, by simp [Kd.spot, spotD, Kd.conc, depAll, Dat.dep]⟩
  | sup k s p j t =>
    have := hd p
    exact ⟨by simp [Kd.spot, spotD, Kd.conc, plainAll, Dat.plain, hp]; decide +kernel, by simp [Kd.spot, spotD, Kd.conc, depAll, Dat.dep]; omega⟩
theorem zip_lookD {ns : List Str} {vs : List Dat} {i : Nat} {n : Str} {v : Dat} (nd : ns.Nodup) (h1 : ns[i]? = some n) (h2 : vs[i]? = some v) : (ns.zip vs).lookup n = some v := by
  induction ns generalizing vs i with
  | nil => simp at h1
  | cons m ns ih =>
    cases vs with
    | nil => simp at h2
    | cons u vs =>
      rw [List.zip_cons_cons, List.lookup_cons]
      rw [List.nodup_cons] at nd
      cases i with
      | zero =>
        simp only [List.getElem?_cons_zero, Option.some.injEq] at h1 h2
        subst h1 h2
        simp
      | succ i =>
        have h1 : ns[i]? = some n := by simpa using h1
        have hne : ¬ n = m := fun e => nd.1 (e ▸ List.mem_of_getElem? h1)
        rw [show (n == m) = false from beq_eq_false_iff_ne.mpr hne]
        exact ih nd.2 h1 (by simpa using h2)
section
variable {K : PySem.W.Frag} {mg : Str → Option Value} {P : Program} {w : World} {base : Heap} {T : List NTab} (E : Txt K mg) (CConclusion : ClC K mg)
def Conc.fs (x : Conc) : List Dat := [.str x.kind, x.cl.d, x.lit, x.sd, x.pl, x.ol, x.os]
theorem ev_cf {δ : AS} {te : TE} {x : Conc} (i : Nat) {n : Str} {v : Dat} (h : Ev K T te δ (.sh (x.d CConclusion.C))) (h1 : (concN.take 7)[i]? = some n := by rfl) (h2 : x.fs[i]? = some v := by rfl) : Ev K T (tFld K te n) δ (.sh v) :=
  ev_fld h CConclusion.cl (CConclusion.na n (List.mem_of_mem_take (List.mem_of_getElem? h1))) (zip_lookD (by decide +kernel) h1 h2)
def R_law_spot : List Sl → Sl → Prop := fun ss r => ∃ (q : Kd) (cl : Cl), ss = [.sh ((q.conc cl).d CConclusion.C)] ∧ r = .own q.spot
theorem ok_law_spot : Ok P w base T 1 E.f__law_spot ["_law_one"] (R_law_spot CConclusion) := by
  refine fn_R E.f__law_spot.F sc__law_spot (fun ss s ⟨_, _, e, _⟩ => by rw [e]; rfl) fun cdv A outer s H _ hr => ⟨_, (pss_one (ps_ret (pe_lst (pa_cons (kFld K (pv 0) rfl) (pa_cons (kFld K (pv 0) rfl) (pa_cons (kFld K (pv 0) rfl) (pa_cons (kFld K (pv 0) rfl) (pa_cons (kFld K (pv 0) rfl) (pa_cons (kFld K (pv 0) rfl) pa_nil))))))))), ?_⟩
  rintro ss r ⟨q, cl, rfl, rfl⟩
  show Sx K T _ [some (.sh ((q.conc cl).d CConclusion.C))] _
  have ev : ∀ {δ : AS}, δ[0]? = some (some (.sh ((q.conc cl).d CConclusion.C))) → Ev K T (tVar 0) δ (.sh ((q.conc cl).d CConclusion.C)) := fun h => ev_var h rfl
  refine sx_ret ((ev_lst (ds := spotD (q.conc cl)) (ea_cons (ev_cf CConclusion 0 (ev rfl)) (ea_cons (ev_cf CConclusion 2 (ev rfl)) (ea_cons (ev_cf CConclusion 3 (ev rfl)) (ea_cons (ev_cf CConclusion 4 (ev rfl)) (ea_cons (ev_cf CConclusion 5 (ev rfl)) (ea_cons (ev_cf CConclusion 6 (ev rfl)) ea_nil)))))) (show 6 ≤ 10000 by decide)).of_eq (by rw [Kd.spot_eq])) rfl
def aboveB (c : Cl) : Kd → Bool
  | .sup k s p _ _ => ((c[k]?).bind fun x => atP (x.side s) p).any fun t => !t.isV
  | _ => true
def Kd.fit (c : Cl) : Kd → Prop
  | .res k => k < c.length
  | .fac k s j t => k < c.length ∧ s ≤ 1 ∧ j < c.length ∧ t ≤ 1
  | .sup k s p _ _ => k < c.length ∧ s ≤ 1
def R_law_is_above (n : Nat) : List Sl → Sl → Prop := fun ss r => ∃ (c : Cl) (q : Kd) (cl : Cl), (∀ x ∈ c, Lok n x ∧ x.l.size ≤ 1000 ∧ x.r.size ≤ 1000) ∧ q.fit c ∧ ss = [.sh c.d, .sh ((q.conc cl).d CConclusion.C)] ∧ r = .sh (.bl (aboveB c q))
theorem side_at (z : Lit) {s : Nat} (h : s ≤ 1) : atI [.bl z.p, z.l.d, z.r.d] (1 + (s : Nat)) = some (z.side s).d := by
  have : s = 0 ∨ s = 1 := by omega
  rcases this with rfl | rfl <;> rfl
theorem lit_at {c : Cl} {k : Nat} {x : Lit} (h : c[k]? = some x) : atI (c.map Lit.d) (k : Nat) = some (.tup [.bl x.p, x.l.d, x.r.d]) := atI_n (by rw [List.getElem?_map, h]; rfl)
theorem G_lplaces (n : Nat) : Ok P w base T (n + 2) E.f__law_places ["_law_term_here"] (fun ss r => ∃ (t : Tm), t.depth ≤ n ∧ t.size ≤ 1000 ∧ ss = [.sh t.d] ∧ r = .own ((plc t).map plD)) :=
  FnOk.toR (below_R (n := n + 1) (R := R_law_places) (fun n ss s ⟨_, _, _, e, _⟩ => by rw [e]; rfl) fun j hj => (ok_law_places (P := P) (w := w) (base := base) (T := T) E j).mono (show j + 1 + 1 ≤ n + 2 by omega)) fun ss r ⟨t, h1, h2⟩ => ⟨t.depth, by omega, t, rfl, h2⟩
theorem ok_law_is_above (n : Nat) : Ok P w base T (n + 3) E.f__law_is_above ["_law_c", "_law_one"] (R_law_is_above CConclusion n) := by
  have G__law_places := G_lplaces (P := P) (w := w) (base := base) (T := T) E n
  have G__law_is_variable := ok_law_is_variable (P := P) (w := w) (base := base) (T := T) E
  refine fn_R E.f__law_is_above.F sc__law_is_above (fun ss s ⟨_, _, _, _, _, e, _⟩ => by rw [e]; rfl) fun cdv A outer s H _ hr => ⟨_, (pss_cons (ps_if (pt_cmpR op_isNN (kFld K (pv 1) rfl) pe_non (nomark _))
      (pss_one (ps_ret pe_bl))
      pss_nil)
    (pss_cons (ps_for PassesOwn.never rfl (kiList K (pe_call G__law_places (hr.mono (by omega)) (by rfl) E.f__law_places.g E.f__law_places.F.kp (b__law_places E) .nil pass0 (pa_cons (pe_ix (kIx K) (pe_ix (kIx K) (pv 0) (kFld K (pv 1) rfl) (fun _ _ => rfl)) (pe_op (kAdd K) pe_int (kFld K (pv 1) rfl)) (fun _ _ => rfl)) pa_nil))) (pg_name (i := 2) sc__law_is_above.nd rfl (by first | exact Or.inl rfl | exact Or.inr rfl))
      (pss_one (ps_if (pt_cmpR (kEq K hr.units) (pe_ix (kIx K) (pv 2) pe_int (fun _ _ => rfl)) (kFld K (pv 1) rfl) (nomark _))
        (pss_one (ps_ret (kNot K (pe_call G__law_is_variable (hr.mono (by omega)) (by rfl) E.f__law_is_variable.g E.f__law_is_variable.F.kp (b__law_is_variable E) .nil pass0 (pa_cons (pe_ix (kIx K) (pv 2) pe_int (fun _ _ => rfl)) pa_nil)))))
        pss_nil)))
    (pss_one (ps_ret pe_bl)))), ?_⟩
  rintro ss r ⟨c, q, cl, hc, hf, rfl, rfl⟩
  show Sx K T _ [some (.sh (.tup (c.map Lit.d))), some (.sh ((q.conc cl).d CConclusion.C)), none] _
  have ev : ∀ {δ : AS}, δ[1]? = some (some (.sh ((q.conc cl).d CConclusion.C))) → Ev K T (tVar 1) δ (.sh ((q.conc cl).d CConclusion.C)) := fun h => ev_var h rfl
  cases q with
  | res k => exact sx_seq (sx_if (b := true) (et_test (ev_isN (ev_cf CConclusion 4 (ev rfl)) rfl)) (fun _ => sx_ret ev_bl rfl) fun h => nomatch h)
  | fac k s j t => exact sx_seq (sx_if (b := true) (et_test (ev_isN (ev_cf CConclusion 4 (ev rfl)) rfl)) (fun _ => sx_ret ev_bl rfl) fun h => nomatch h)
  | sup k s p j t =>
    obtain ⟨hk, hs⟩ := hf
    have hx : c[k]? = some c[k] := by simp [hk]
    generalize c[k] = x at hx
    have hxk := hc x (List.mem_of_getElem? hx)
    have htk : Tok n (x.side s) ∧ (x.side s).size ≤ 1000 := by
      have : s = 0 ∨ s = 1 := by omega
      rcases this with rfl | rfl
      · exact ⟨hxk.1.1, hxk.2.1⟩
      · exact ⟨hxk.1.2, hxk.2.2⟩
    have hab : aboveB c (.sup k s p j t) = (atP (x.side s) p).any fun t => !t.isV := by
      show ((c[k]?).bind fun x => atP (x.side s) p).any _ = _
      rw [hx]
      rfl
    rw [hab]
    refine sx_seq (sx_if (b := false) (et_test (ev_isN (ev_cf CConclusion 4 (ev rfl)) rfl)) (fun h => nomatch h) fun _ => sx_next ?_)
    refine sx_seq (sx_for (ei_new (ev_call (ea_cons (ev_ixT (ev_ixT (ev_var rfl rfl) (ev_cf CConclusion 2 (ev rfl)) (lit_at hx)) (ev_add ev_int (ev_cf CConclusion 3 (ev rfl))) (side_at x hs)) ea_nil) ⟨x.side s, htk.1.dep, htk.2, rfl, rfl⟩)) (fun i δ => (∀ r ∈ (plc (x.side s)).take i, r.1 ≠ p) ∧ ∃ o, δ = [some (.sh (.tup (c.map Lit.d))), some (.sh (((Kd.sup k s p j t).conc cl).d CConclusion.C)), o]) ⟨by simp, none, rfl⟩ ?_ ?_)
    · rintro i d δ' hi ⟨hne, o, rfl⟩
      obtain ⟨⟨p', u⟩, hr', rfl⟩ := at_map hi
      refine ⟨_, _, tg_name, ?_⟩
      show Sx K T _ [some (.sh (.tup (c.map Lit.d))), some (.sh (((Kd.sup k s p j t).conc cl).d CConclusion.C)), some (.sh (.tup [pcD p', u.d]))] _
      have hpl : ∀ p : List Nat, (pcD p).plain = true := fun p => by
        unfold pcD
        rw [Dat.plain, plainAll_iff]
        intro d hd
        obtain ⟨k, _, rfl⟩ := List.mem_map.mp hd
        rfl
      have hdp : ∀ p : List Nat, (pcD p).dep ≤ 60 := fun p => by
        unfold pcD
        rw [Dat.dep]
        have : ∀ l : List Nat, depAll (l.map fun k => Dat.int (k : Nat)) = 0 := fun l => by
          induction l with
          | nil => rfl
          | cons a l ih => rw [List.map_cons, depAll, ih]; rfl
        rw [this]
        omega
      refine sx_if (et_test (ev_eqD (b := decide (p' = p)) (ev_ixT (ev_var rfl rfl) ev_int rfl) (ev_cf CConclusion 4 (ev rfl)) (hpl p') (hpl p) (hdp p') (hdp p) (by rw [decide_eq_true_iff]; exact ⟨fun e => by rw [e], pcD_inj⟩))) (fun h => ?_) fun h => sx_next ?_
      · obtain rfl := of_decide_eq_true h
        have := (mem_plc (x.side s) p' u).mp (List.mem_of_getElem? hr')
        rw [this]
        exact sx_ret (ev_notT (ev_call (ea_cons (ev_ixT (ev_var rfl rfl) ev_int rfl) ea_nil) ⟨u, rfl, rfl⟩) rfl) rfl
      · have h := of_decide_eq_false h
        refine ⟨?_, some (.sh (.tup [pcD p', u.d])), rfl⟩
        intro r hr2
        rw [take_at hr'] at hr2
        rcases List.mem_append.mp hr2 with hr2 | hr2
        · exact hne r hr2
        · simp at hr2
          rw [hr2]
          exact h
    · rintro δ' ⟨hne, o, rfl⟩
      rw [List.length_map, List.take_length] at hne
      have : atP (x.side s) p = none := by
        cases ha : atP (x.side s) p with
        | none => rfl
        | some u => exact absurd rfl (hne (p, u) ((mem_plc (x.side s) p u).mpr ha))
      rw [this]
      exact sx_ret ev_bl rfl
def kindsB (c : Cl) : Kd → Bool
  | .fac k s j t => decide (((c[k]?).map fun x => (x.side s).isAt) = (c[j]?).map fun x => (x.side t).isAt)
  | _ => true
def R_law_kinds_agree : List Sl → Sl → Prop := fun ss r => ∃ (c : Cl) (q : Kd) (cl : Cl), q.fit c ∧ ss = [.sh c.d, .sh ((q.conc cl).d CConclusion.C)] ∧ r = .sh (.bl (kindsB c q))
theorem ok_law_kinds_agree : Ok P w base T 3 E.f__law_kinds_agree ["_law_c", "_law_one"] (R_law_kinds_agree CConclusion) := by
  have G__law_is_atom := ok_law_is_atom (P := P) (w := w) (base := base) (T := T) E
  refine fn_R E.f__law_kinds_agree.F sc__law_kinds_agree (fun ss s ⟨_, _, _, _, e, _⟩ => by rw [e]; rfl) fun cdv A outer s H _ hr => ⟨_, (pss_cons (ps_if (pt_cmpR (kNe K hr.units) (kFld K (pv 1) rfl) pe_str (nomark _))
      (pss_one (ps_ret pe_bl))
      pss_nil)
    (pss_cons (ps_set (i := 2) sc__law_kinds_agree.nd rfl (by first | exact Or.inl rfl | exact Or.inr rfl) (pe_ix (kIx K) (pe_ix (kIx K) (pv 0) (kFld K (pv 1) rfl) (fun _ _ => rfl)) (pe_op (kAdd K) pe_int (kFld K (pv 1) rfl)) (fun _ _ => rfl)))
    (pss_cons (ps_set (i := 3) sc__law_kinds_agree.nd rfl (by first | exact Or.inl rfl | exact Or.inr rfl) (pe_ix (kIx K) (pe_ix (kIx K) (pv 0) (kFld K (pv 1) rfl) (fun _ _ => rfl)) (pe_op (kAdd K) pe_int (kFld K (pv 1) rfl)) (fun _ _ => rfl)))
    (pss_one (ps_ret (pe_cmpR (kEq K hr.units) (pe_call G__law_is_atom (hr.mono (by omega)) (by rfl) E.f__law_is_atom.g E.f__law_is_atom.F.kp (b__law_is_atom E) .nil pass0 (pa_cons (pv 2) pa_nil)) (pe_call G__law_is_atom (hr.mono (by omega)) (by rfl) E.f__law_is_atom.g E.f__law_is_atom.F.kp (b__law_is_atom E) .nil pass0 (pa_cons (pv 3) pa_nil)) (nomark _))))))), ?_⟩
  rintro ss r ⟨c, q, cl, hf, rfl, rfl⟩
  show Sx K T _ [some (.sh (.tup (c.map Lit.d))), some (.sh ((q.conc cl).d CConclusion.C)), none, none] _
  have ev : ∀ {δ : AS}, δ[1]? = some (some (.sh ((q.conc cl).d CConclusion.C))) → Ev K T (tVar 1) δ (.sh ((q.conc cl).d CConclusion.C)) := fun h => ev_var h rfl
  cases q with
  | res k => exact sx_seq (sx_if (b := true) (et_test ((ev_neT (ev_cf CConclusion 0 (ev rfl)) ev_str).of_eq (by rw [decide_eq_false (show ¬ ((Kd.res k).conc cl).kind = _ from kd12)]; rfl))) (fun _ => sx_ret ev_bl rfl) fun h => nomatch h)
  | sup k s p j t => exact sx_seq (sx_if (b := true) (et_test ((ev_neT (ev_cf CConclusion 0 (ev rfl)) ev_str).of_eq (by rw [decide_eq_false (show ¬ ((Kd.sup k s p j t).conc cl).kind = _ from fun e => kd23 e.symm)]; rfl))) (fun _ => sx_ret ev_bl rfl) fun h => nomatch h)
  | fac k s j t =>
    obtain ⟨hk, hs, hj, ht⟩ := hf
    have hx : c[k]? = some c[k] := by simp [hk]
    have hy : c[j]? = some c[j] := by simp [hj]
    generalize c[k] = x at hx
    generalize c[j] = y at hy
    have hkb : kindsB c (.fac k s j t) = decide ((x.side s).isAt = (y.side t).isAt) := by
      show decide _ = _
      rw [hx, hy]
      simp
    rw [hkb]
    refine sx_seq (sx_if (b := false) (et_test ((ev_neT (ev_cf CConclusion 0 (ev rfl)) ev_str).of_eq (by rw [decide_eq_true (show ((Kd.fac k s j t).conc cl).kind = Str.ofString "factoring" from rfl)]; rfl))) (fun h => nomatch h) fun _ => sx_next ?_)
    refine sx_seq (sx_set (ev_ixT (ev_ixT (ev_var rfl rfl) (ev_cf CConclusion 2 (ev rfl)) (lit_at hx)) (ev_add ev_int (ev_cf CConclusion 3 (ev rfl))) (side_at x hs)) ?_)
    refine sx_seq (sx_set (ev_ixT (ev_ixT (ev_var rfl rfl) (ev_cf CConclusion 5 (ev rfl)) (lit_at hy)) (ev_add ev_int (ev_cf CConclusion 6 (ev rfl))) (side_at y ht)) ?_)
    exact sx_ret (ev_eqB (ev_call (ea_cons (ev_var rfl rfl) ea_nil) ⟨x.side s, rfl, rfl⟩) (ev_call (ea_cons (ev_var rfl rfl) ea_nil) ⟨y.side t, rfl, rfl⟩)) rfl
end
end
end G3
end

section
set_option Elab.async false
set_option linter.all false
set_option maxRecDepth 100000
set_option maxHeartbeats 1000000
namespace G3
open PySem PySem.Spec PyProof.Rows L2 LamX NdefX
noncomputable section
open scoped Classical
def cvL (U : List (Kd × Cl)) (q : Kd × Cl) : Bool := (U.filter fun r => decide (r.1 = q.1)).any fun r => isInst r.2 q.2
def cv1 (c : Cl) (U : List (Kd × Cl)) (q : Kd × Cl) : Bool := !(aboveB c q.1 && kindsB c q.1) || cvL U q
def cov (c : Cl) (L U : List (Kd × Cl)) : Bool := L.all (cv1 c U)
section
variable {K : PySem.W.Frag} {mg : Str → Option Value} {P : Program} {w : World} {base : Heap} {T : List NTab} (E : Txt K mg) (CConclusion : ClC K mg)
def kcD (C : Addr) (q : Kd × Cl) : Dat := (q.1.conc q.2).d C
def R_law_covered (n m : Nat) : List Sl → Sl → Prop := fun ss r => ∃ (c : Cl) (L U : List (Kd × Cl)), (∀ x ∈ c, Lok n x ∧ x.l.size ≤ 1000 ∧ x.r.size ≤ 1000) ∧ (∀ q ∈ L, q.1.fit c ∧ Dpt q.2) ∧ (∀ q ∈ U, Cok m q.2) ∧ U.length ≤ 100000 ∧
  ss = [.sh c.d, .lst (L.map (kcD CConclusion.C)), .lst (U.map (kcD CConclusion.C))] ∧ r = .sh (.bl (cov c L U))
theorem ok_law_covered (n m : Nat) : Ok P w base T (n + m + 4) E.f__law_covered ["_law_c", "_law_lower", "_law_upper"] (R_law_covered CConclusion n m) := by
  have G__law_is_above := ok_law_is_above (P := P) (w := w) (base := base) (T := T) E CConclusion n
  have G__law_kinds_agree := ok_law_kinds_agree (P := P) (w := w) (base := base) (T := T) E CConclusion
  have G__law_spot := ok_law_spot (P := P) (w := w) (base := base) (T := T) E CConclusion
  have G__law_is_instance := ok_law_is_instance (P := P) (w := w) (base := base) (T := T) E m
  refine fn_R E.f__law_covered.F sc__law_covered (fun ss s ⟨_, _, _, _, _, _, _, e, _⟩ => by rw [e]; rfl) fun cdv A outer s H _ hr => ⟨_, (pss_cons (ps_for PassesOwn.never rfl (kiList K (pv 1)) (pg_name (i := 3) sc__law_covered.nd rfl (by first | exact Or.inl rfl | exact Or.inr rfl))
      (pss_one (ps_if ((pw_and (kTru K (pe_call G__law_is_above (hr.mono (by omega)) (by rfl) E.f__law_is_above.g E.f__law_is_above.F.kp (b__law_is_above E) .nil pass0 (pa_cons (pv 0) (pa_cons (pv 3) pa_nil))) (fun _ => rfl)) (pw_and1 (kTru K (pe_call G__law_kinds_agree (hr.mono (by omega)) (by rfl) E.f__law_kinds_agree.g E.f__law_kinds_agree.F.kp (b__law_kinds_agree E) .nil pass0 (pa_cons (pv 0) (pa_cons (pv 3) pa_nil))) (fun _ => rfl)))).pt)
        (pss_cons (ps_setLc (i := 4) (own := [("_law_other", 5)]) (by rfl) sc__law_covered.nd rfl rfl (sw_true rfl rfl rfl (by decide +kernel)) (kiList K (pv 2)) (blkOk_by (own := [("_law_other", 5)]) (N := ["_law_c", "_law_lower", "_law_upper", "_law_one", "_law_found", "_law_other", "_law_clause_here"]) (sc := (defScope s__law_covered)) (by decide +kernel)) (fun _ _ _ _ _ => (pg_name (i := 5) sc__law_covered.nd rfl (by first | exact Or.inl rfl | exact Or.inr rfl))) (fun _ _ _ _ _ => (pts_one (pt_cmpR (kEq K hr.units) (pe_call G__law_spot (hr.mono (by omega)) (by rfl) E.f__law_spot.g E.f__law_spot.F.kp (b__law_spot E) .nil pass0 (pa_cons (pv 5) pa_nil)) (pe_call G__law_spot (hr.mono (by omega)) (by rfl) E.f__law_spot.g E.f__law_spot.F.kp (b__law_spot E) .nil pass0 (pa_cons (pv 3) pa_nil)) (nomark _)))) (fun _ _ _ _ _ => (kFld K (pv 5) rfl)))
        (pss_one (ps_if (pt_not (kTru K (pe_callB (kAny K) (by rfl) E.m_any (by decide +kernel) (pa_cons (pe_lc (own := [("_law_clause_here", 6)]) (by rfl) sc__law_covered.nd (kiList K (pv 4)) (blkOk_by (own := [("_law_clause_here", 6)]) (N := ["_law_c", "_law_lower", "_law_upper", "_law_one", "_law_found", "_law_other", "_law_clause_here"]) (sc := (defScope s__law_covered)) (by decide +kernel)) (fun _ _ _ _ _ => (pg_name (i := 6) sc__law_covered.nd rfl (by first | exact Or.inl rfl | exact Or.inr rfl))) (fun _ _ _ _ _ => pts_nil) (fun _ _ _ _ _ => (pe_call G__law_is_instance (hr.mono (by omega)) (by rfl) E.f__law_is_instance.g E.f__law_is_instance.F.kp (b__law_is_instance E) .nil pass0 (pa_cons (pv 6) (pa_cons (kFld K (pv 3) rfl) pa_nil))))) pa_nil)) (fun _ => rfl)))
          (pss_one (ps_ret pe_bl))
          pss_nil)))
        pss_nil)))
    (pss_one (ps_ret pe_bl))), ?_⟩
  rintro ss r ⟨c, L, U, hc, hL, hU, hul, rfl, rfl⟩
  show Sx K T _ [some (.sh c.d), some (.lst (L.map (kcD CConclusion.C))), some (.lst (U.map (kcD CConclusion.C))), none, none, none, none] _
  refine sx_seq (sx_for (ei_var (i := 1) rfl) (fun i δ => (L.take i).all (cv1 c U) = true ∧ ∃ o p, δ = [some (.sh c.d), some (.lst (L.map (kcD CConclusion.C))), some (.lst (U.map (kcD CConclusion.C))), o, p, none, none]) ⟨by simp, none, none, rfl⟩ ?_ ?_)
  · rintro i d δ' hi ⟨hal, o, p, rfl⟩
    obtain ⟨q, hq, rfl⟩ := at_map hi
    have hqL := hL q (List.mem_of_getElem? hq)
    have hst : (L.take (i + 1)).all (cv1 c U) = cv1 c U q := by
      rw [take_at hq, List.all_append, hal]
      simp
    refine ⟨_, _, tg_name, ?_⟩
    show Sx K T _ [some (.sh c.d), some (.lst (L.map (kcD CConclusion.C))), some (.lst (U.map (kcD CConclusion.C))), some (.sh (kcD CConclusion.C q)), p, none, none] _
    refine sx_if (et_and (et_tru (ev_call (ea_cons (ev_var rfl rfl) (ea_cons (ev_var rfl rfl) ea_nil)) ⟨c, q.1, q.2, hc, hqL.1, rfl, rfl⟩) rfl) fun _ => et_tru (ev_call (ea_cons (ev_var rfl rfl) (ea_cons (ev_var rfl rfl) ea_nil)) ⟨c, q.1, q.2, hqL.1, rfl, rfl⟩) rfl) (fun h => ?_) fun h => sx_next ?_
    · have hcv : cv1 c U q = cvL U q := by unfold cv1; rw [h]; rfl
      rw [hcv] at hst
      refine sx_seq (sx_set (ev_lcF U (kcD CConclusion.C) (fun r => Cl.d r.2) (fun r => decide (r.1 = q.1)) (ei_var (i := 2) rfl) hul fun r hr => ⟨_, _, tg_name, by simp, ?_, fun _ => ?_⟩) ?_)
      · refine et_test (ev_eqL (ev_call (ea_cons (ev_var rfl rfl) ea_nil) ⟨r.1, r.2, rfl, rfl⟩).shared (ev_call (ea_cons (ev_var rfl rfl) ea_nil) ⟨q.1, q.2, rfl, rfl⟩).shared (spot_plain _).1 (spot_plain _).1 (spot_plain _).2 (spot_plain _).2 ?_)
        rw [decide_eq_true_iff]
        exact ⟨fun e => by rw [e], Kd.spot_inj⟩
      · exact ev_cf CConclusion (x := r.1.conc r.2) 1 (ev_var rfl rfl) rfl (by cases r with | mk a b => cases a <;> rfl)
      refine sx_freeze (i := 4) (ds := (U.filter fun r => decide (r.1 = q.1)).map fun r => Cl.d r.2) rfl ?_
      have hcl : ∀ {δ : AS}, δ[3]? = some (some (.sh (kcD CConclusion.C q))) → Ev K T (tFld K (tVar 3) "clause") δ (.sh q.2.d) := fun h => ev_cf CConclusion (x := q.1.conc q.2) 1 (ev_var h rfl) rfl (by cases q with | mk a b => cases a <;> rfl)
      have hany : Ev K T (tCB (rAny K) (tCons (tLc (iList K (tVar 4)) (gName 6) tYes (tCall (spR K T (R_law_is_instance m)) [] (fun _ _ _ => False) (tCons (tVar 6) (tCons (tFld K (tVar 3) "clause") tNil))) [6]) tNil)) [some (.sh c.d), some (.lst (L.map (kcD CConclusion.C))), some (.lst (U.map (kcD CConclusion.C))), some (.sh (kcD CConclusion.C q)), some (.lst ((U.filter fun r => decide (r.1 = q.1)).map fun r => Cl.d r.2)), none, none] (.sh (.bl (cvL U q))) := by
        refine (ev_CB (ea_cons ((ev_lcM (U.filter fun r => decide (r.1 = q.1)) (fun r => Cl.d r.2) (fun r => Dat.bl (isInst r.2 q.2)) (ei_var (i := 4) rfl) (Nat.le_trans (List.length_filter_le _ _) hul) fun r hr => ⟨_, _, tg_name, by simp, ev_call (ea_cons (ev_var rfl rfl) (ea_cons (hcl rfl) ea_nil)) ⟨r.2, q.2, hU r (List.mem_filter.mp hr).1, hqL.2, rfl, rfl⟩⟩).of_eq (s' := .own (((U.filter fun r => decide (r.1 = q.1)).map fun r => isInst r.2 q.2).map Dat.bl)) (by rw [List.map_map]; rfl)) ea_nil) cb_any).of_eq ?_
        unfold cvL
        rw [List.any_map]
        rfl
      refine sx_if (et_not (et_tru hany rfl)) (fun h2 => ?_) fun h2 => sx_next ?_
      · refine sx_ret ev_bl ?_
        have : cov c L U = false := by
          cases hcov : cov c L U with
          | false => rfl
          | true =>
            have := List.all_eq_true.mp hcov q (List.mem_of_getElem? hq)
            rw [hcv] at this
            rw [this] at h2
            cases h2
        rw [this]
      · exact ⟨by rw [hst]; simpa using h2, some (.sh (kcD CConclusion.C q)), some (.lst ((U.filter fun r => decide (r.1 = q.1)).map fun r => Cl.d r.2)), rfl⟩
    · exact ⟨by rw [hst]; unfold cv1; rw [h]; rfl, some (.sh (kcD CConclusion.C q)), p, rfl⟩
  · rintro δ' ⟨hal, o, p, rfl⟩
    rw [List.length_map, List.take_length] at hal
    have hal : cov c L U = true := hal
    rw [hal]
    exact sx_ret ev_bl rfl
end
end
end G3
end

section
set_option Elab.async false
set_option linter.all false
set_option maxRecDepth 100000
set_option maxHeartbeats 1000000
namespace G3
open PySem PySem.Spec PyProof.Rows L2 LamX NdefX
noncomputable section
open scoped Classical
/-! ### the weights: a dict with tuples for keys -/
def putW (W : Wts) (k : List Int) (v : Int) : Wts := if (W.any fun p => decide (p.1 = k)) = true then W.map (fun p => if p.1 = k then (p.1, v) else p) else W ++ [(k, v)]
def encW (W : Wts) : List (List Key × V) := W.map fun p => (p.1.map Sum.inl, V.int p.2)
theorem inl_inj {a b : List Int} : (a.map (Sum.inl : Int → Key)) = b.map Sum.inl ↔ a = b := ⟨fun h => by
  induction a generalizing b with
  | nil => cases b with
    | nil => rfl
    | cons x b => simp at h
  | cons x a ih => cases b with
    | nil => simp at h
    | cons y b =>
      simp only [List.map_cons, List.cons.injEq] at h
      rw [ih h.2, Sum.inl.inj h.1], fun h => by rw [h]⟩
theorem encW_put (W : Wts) (k : List Int) (v : Int) : putK (encW W) (k.map Sum.inl) (.int v) = encW (putW W k v) := by
  have e : ((encW W).any fun kv => decide (kv.1 = k.map Sum.inl)) = W.any fun p => decide (p.1 = k) := by
    unfold encW
    rw [List.any_map]
    congr 1
    funext p
    simp only [Function.comp]
    rw [decide_eq_decide]
    exact inl_inj
  unfold putK putW
  rw [e]
  split
  · unfold encW
    rw [List.map_map, List.map_map]
    refine List.map_congr_left fun p _ => ?_
    simp only [Function.comp]
    by_cases h : p.1 = k
    · rw [if_pos (inl_inj.mpr h), if_pos h]
    · rw [if_neg (fun z => h (inl_inj.mp z)), if_neg h]
  · unfold encW
    rw [List.map_append]
    rfl
theorem putW_len (W : Wts) (k : List Int) (v : Int) : (putW W k v).length ≤ W.length + 1 := by unfold putW; split <;> simp
theorem putW_pos {W : Wts} {k : List Int} {v : Int} (h : ∀ p ∈ W, 1 ≤ p.2) (hv : 1 ≤ v) : ∀ p ∈ putW W k v, 1 ≤ p.2 := by
  intro p hp
  unfold putW at hp
  split at hp
  · obtain ⟨q, hq, rfl⟩ := List.mem_map.mp hp
    split
    · exact hv
    · exact h q hq
  · rcases List.mem_append.mp hp with hp | hp
    · exact h p hp
    · simp at hp
      rw [hp]
      exact hv
def wSyms : List Sy := [⟨2, 0, 0⟩, ⟨2, 1, 0⟩, ⟨3, 0, 0⟩, ⟨2, 2, 0⟩, ⟨1, 0, 0⟩, ⟨1, 1, 0⟩]
def wStep (p : Int × Wts) (s : Sy) : Int × Wts :=
  let W1 := if decide (p.1 % 3 = 1) = true then putW p.2 s.key (1 + p.1 / 3 % 4) else p.2
  (p.1 / 12, if decide (p.1 % 3 = 2) = true then putW W1 s.key (1 + p.1 / 3 % 2) else W1)
def lawW (row : Int) : Wts := (wSyms.foldl wStep (row, [])).2
theorem wStep_ok (p : Int × Wts) (s : Sy) : (wStep p s).2.length ≤ p.2.length + 2 ∧ ((∀ q ∈ p.2, 1 ≤ q.2) → ∀ q ∈ (wStep p s).2, 1 ≤ q.2) := by
  have h1 := putW_len p.2 s.key (1 + p.1 / 3 % 4)
  have h2 := putW_len (putW p.2 s.key (1 + p.1 / 3 % 4)) s.key (1 + p.1 / 3 % 2)
  have h3 := putW_len p.2 s.key (1 + p.1 / 3 % 2)
  unfold wStep
  dsimp only
  refine ⟨by split <;> split <;> omega, fun h => ?_⟩
  have h4 : ∀ q ∈ (if decide (p.1 % 3 = 1) = true then putW p.2 s.key (1 + p.1 / 3 % 4) else p.2), 1 ≤ q.2 := by
    split
    · exact putW_pos h (by omega)
    · exact h
  split
  · exact putW_pos h4 (by omega)
  · exact h4
theorem wFold_ok : ∀ (l : List Sy) (p : Int × Wts), (l.foldl wStep p).2.length ≤ p.2.length + 2 * l.length ∧ ((∀ q ∈ p.2, 1 ≤ q.2) → ∀ q ∈ (l.foldl wStep p).2, 1 ≤ q.2)
  | [], p => ⟨by simp, fun h => h⟩
  | s :: l, p => by
    have h1 := wStep_ok p s
    have h2 := wFold_ok l (wStep p s)
    rw [List.foldl_cons, List.length_cons]
    exact ⟨by omega, fun h => h2.2 (h1.2 h)⟩
theorem lawW_pos (row : Int) : ∀ q ∈ lawW row, 1 ≤ q.2 := (wFold_ok wSyms (row, [])).2 fun _ h => by cases h
mutual
theorem Rp.upT {H : Hp} {a : Addr} {kvs : List (List Key × V)} {o : HO} (e : H a = some (.dT kvs)) : ∀ (d : Dat) {v : V}, d.plain = true → Rp H d v → Rp (upd H a o) d v
  | .non, _, _, h => h
  | .bl _, _, _, h => h
  | .int _, _, _, h => h
  | .str _, _, _, h => h
  | .tup ds, _, p, h => by
    obtain ⟨b, xs, h1, h2, h3⟩ := h
    exact ⟨b, xs, h1, by rw [upd_ne (fun z => by rw [z, e] at h2; cases h2)]; exact h2, Rps.upT e ds p h3⟩
  | .wts _, _, p, _ => by cases p
  | .obj _ _, _, p, _ => by cases p
theorem Rps.upT {H : Hp} {a : Addr} {kvs : List (List Key × V)} {o : HO} (e : H a = some (.dT kvs)) : ∀ (ds : List Dat) {xs : List V}, plainAll ds = true → Rps H ds xs → Rps (upd H a o) ds xs
  | [], _, _, h => h
  | d :: ds, _, p, h => by
    obtain ⟨x, r, h1, h2, h3⟩ := h
    rw [plainAll, Bool.and_eq_true] at p
    exact ⟨x, r, h1, Rp.upT e d p.1 h2, Rps.upT e ds p.2 h3⟩
end
section
variable {K : PySem.W.Frag} {mg : Str → Option Value} {P : Program} {w : World} {base : Heap} {T : List NTab} (E : Txt K mg)
/-- the heap, while the dict at a is filled from the list at L -/
structure WG (T : List NTab) (H0 : Hp) (a L : Addr) (xs : List V) (W : Wts) (H : Hp) : Prop where
  fr : H0 a = none
  d : H a = some (.dT (encW W))
  g : Gr H0 H
  t : TabsN T H
  l : H L = some (.lst xs)
  s : Rps H (wSyms.map Sy.d) xs
variable {H0 H H' : Hp} {a L : Addr} {xs : List V} {W : Wts}
theorem WG.grow (h : WG T H0 a L xs W H) (g : Gr H H') (t : TabsN T H') : WG T H0 a L xs W H' :=
  ⟨h.fr, g.e a _ h.d (fun _ z => nomatch z), h.g.trans g, t, g.lst h.l, Rps.mono g.stab _ h.s⟩
theorem WG.put (h : WG T H0 a L xs W H) (W' : Wts) : WG T H0 a L xs W' (upd H a (.dT (encW W'))) := by
  refine ⟨h.fr, upd_same, ⟨fun b w e n => ?_, fun b e => ?_⟩, TabsN.lstUpd h.t h.d (fun _ z => nomatch z) (fun _ z => nomatch z), ?_, Rps.upT h.d _ ?_ h.s⟩
  · rw [upd_ne (fun z => by rw [z, h.fr] at e; cases e)]
    exact h.g.e b w e n
  · by_cases hb : b = a
    · rw [hb, upd_same] at e; cases e
    · rw [upd_ne hb] at e; exact h.g.n b e
  · rw [upd_ne (fun z => by have := h.l; rw [z, h.d] at this; cases this)]
    exact h.l
  · rw [plainAll_iff]
    intro d hd
    obtain ⟨s, _, rfl⟩ := List.mem_map.mp hd
    exact sy_plain s
theorem WG.rel (h : WG T H0 a L xs W H) {i : Nat} {s : Sy} {x : V} (hs : wSyms[i]? = some s) (hx : xs[i]? = some x) (r : Int) :
    Rel K T H H [some (.int r), some (.ref L), some (.ref a), some x] [some (.sh (.int r)), some (.raw (.ref L)), some (.raw (.ref a)), some (.sh s.d)] := by
  have hr : Rp H s.d x := by
    obtain ⟨d', h1, h2⟩ := h.s.get hx
    rw [List.getElem?_map, hs] at h1
    cases h1
    exact h2
  refine ⟨Gr.refl H, h.t, rfl, fun j sl e => ?_, fun j k b si sj e1 o1 => ?_⟩
  · match j, e with
    | 0, e => cases e; exact ⟨_, rfl, rfl⟩
    | 1, e => cases e; exact ⟨_, rfl, rfl⟩
    | 2, e => cases e; exact ⟨_, rfl, rfl⟩
    | 3, e => cases e; exact ⟨_, rfl, hr⟩
    | n + 4, e => simp at e
  · match j, e1 with
    | 0, e => cases e; cases o1
    | 1, e => cases e; cases o1
    | 2, e => cases e; cases o1
    | 3, e => cases e; cases o1
    | n + 4, e => simp at e
theorem wg_if {i : Nat} {s : Sy} {x : V} (hs : wSyms[i]? = some s) (hx : xs[i]? = some x) {r v : Int} {b : Bool} {tt : TT} {te : TE} {D : Ends} (h : WG T H0 a L xs W H) (hl : W.length < 100)
    (ht : EvT K T tt [some (.sh (.int r)), some (.raw (.ref L)), some (.raw (.ref a)), some (.sh s.d)] b)
    (he : Ev K T te [some (.sh (.int r)), some (.raw (.ref L)), some (.raw (.ref a)), some (.sh s.d)] (.sh (.int v)))
    (q : ∀ H', WG T H0 a L xs (if b = true then putW W s.key v else W) H' → D.nx [some (.int r), some (.ref L), some (.ref a), some x] H') :
    tIfS tt (sDPut (tVar 2) (tVar 3) te) tNext D [some (.int r), some (.ref L), some (.ref a), some x] H := by
  refine ht H H _ (h.rel hs hx r) _ fun H1 g1 t1 => ?_
  have h1 := h.grow g1 t1
  cases b with
  | false => exact q H1 h1
  | true =>
    show sDPut (tVar 2) (tVar 3) te D _ H1
    refine he H1 H1 _ (h1.rel hs hx r) _ fun y H2 g2 t2 oy => ?_
    have h2 := h1.grow g2 t2
    have ey : y = V.int v := oy
    subst ey
    refine ⟨.ref a, rfl, x, rfl, ?_⟩
    have hr : Rp H2 s.d x := by
      obtain ⟨d', k1, k2⟩ := h2.s.get hx
      rw [List.getElem?_map, hs] at k1
      cases k1
      exact k2
    obtain ⟨b, ys, rfl, hb, hys⟩ := hr
    have eys : ys = s.key.map fun i => V.int i := by
      obtain ⟨_, _, rfl, k1, _, _, rfl, k2, _, _, rfl, k3, k4⟩ := hys
      rw [show _ = V.int s.a from k1, show _ = V.int s.b from k2, show _ = V.int s.c from k3, show _ = [] from k4]
      rfl
    refine ⟨a, _, rfl, DPut.t (k := s.key.map Sum.inl) h2.d (by rw [hb, eys, List.map_map]; rfl) (Nat.lt_of_le_of_lt (show (encW W).length ≤ 100 by unfold encW; rw [List.length_map]; omega) (by decide)), ?_⟩
    rw [encW_put]
    exact q _ (h2.put _)
def R_law_weights : List Sl → Sl → Prop := fun ss r => ∃ (row : Int), ss = [.sh (.int row)] ∧ r = .sh (.wts (lawW row))
theorem ok_law_weights : Ok P w base T 1 E.f__law_weights ["_law_row"] R_law_weights := by
  refine fn_R E.f__law_weights.F sc__law_weights (fun ss s ⟨_, e, _⟩ => by rw [e]; rfl) fun cdv A outer s H _ hr => ⟨_, (pss_cons (ps_set (i := 1) sc__law_weights.nd rfl (by first | exact Or.inl rfl | exact Or.inr rfl) (pe_lst (pa_cons (pe_tup (pa_cons pe_int (pa_cons pe_int (pa_cons pe_int pa_nil)))) (pa_cons (pe_tup (pa_cons pe_int (pa_cons pe_int (pa_cons pe_int pa_nil)))) (pa_cons (pe_tup (pa_cons pe_int (pa_cons pe_int (pa_cons pe_int pa_nil)))) (pa_cons (pe_tup (pa_cons pe_int (pa_cons pe_int (pa_cons pe_int pa_nil)))) (pa_cons (pe_tup (pa_cons pe_int (pa_cons pe_int (pa_cons pe_int pa_nil)))) (pa_cons (pe_tup (pa_cons pe_int (pa_cons pe_int (pa_cons pe_int pa_nil)))) pa_nil))))))))
    (pss_cons (ps_set (i := 2) sc__law_weights.nd rfl (by first | exact Or.inl rfl | exact Or.inr rfl) pe_dnewT)
    (pss_cons (ps_for PassesOwn.never rfl (kiList K (pv 1)) (pg_name (i := 3) sc__law_weights.nd rfl (by first | exact Or.inl rfl | exact Or.inr rfl))
      (pss_cons (ps_if (pt_cmpR (kEq K hr.units) (pe_op op_mod (pe_callTy call_intQ (by rfl) E.m_int (by decide +kernel) (pa_cons (pv 0) pa_nil)) pe_int) pe_int (nomark _))
        (pss_one (ps_dput (hu_of hr) (pv 2) (pv 3) (pe_op (kAdd K) pe_int (pe_op op_mod (pe_op op_fdiv (pv 0) pe_int) pe_int)) rfl))
        pss_nil)
      (pss_cons (ps_if (pt_cmpR (kEq K hr.units) (pe_op op_mod (pe_callTy call_intQ (by rfl) E.m_int (by decide +kernel) (pa_cons (pv 0) pa_nil)) pe_int) pe_int (nomark _))
        (pss_one (ps_dput (hu_of hr) (pv 2) (pv 3) (pe_op (kAdd K) pe_int (pe_op op_mod (pe_op op_fdiv (pv 0) pe_int) pe_int)) rfl))
        pss_nil)
      (pss_one (ps_set (i := 0) sc__law_weights.nd rfl (by first | exact Or.inl rfl | exact Or.inr rfl) (pe_op op_fdiv (pv 0) pe_int))))))
    (pss_one (ps_ret (pv 2)))))), ?_⟩
  rintro ss r ⟨row, rfl, rfl⟩
  show Sx K T _ [some (.sh (.int row)), none, none, none] _
  have sy : ∀ {δ : AS} (a b c : Int), Ev K T (tTup (tCons (tC (.int a)) (tCons (tC (.int b)) (tCons (tC (.int c)) tNil)))) δ (.sh (Sy.d ⟨a, b, c⟩)) := fun a b c => ev_tup (ds := [.int a, .int b, .int c]) (ea_cons ev_int (ea_cons ev_int (ea_cons ev_int ea_nil)))
  refine sx_seq (sx_set (ev_lst (ds := wSyms.map Sy.d) (ea_cons (sy _ _ _) (ea_cons (sy _ _ _) (ea_cons (sy _ _ _) (ea_cons (sy _ _ _) (ea_cons (sy _ _ _) (ea_cons (sy _ _ _) ea_nil))))))) ?_)
  refine sx_freeze (i := 1) (ds := wSyms.map Sy.d) rfl ?_
  intro H0 H1 σ D rl o
  obtain ⟨v0, e0, o0⟩ := rl.ok 0 _ rfl
  have o0 : v0 = V.int row := o0
  subst o0
  obtain ⟨v1, e1, L, xs, rfl, hL, hxs⟩ := rl.ok 1 _ rfl
  have hlen : σ.length = 4 := rl.len
  match σ, hlen, e0, e1, rl with
  | [s0, s1, s2, s3], _, e0, e1, rl =>
    obtain rfl : s0 = some (.int row) := by simpa using e0
    obtain rfl : s1 = some (.ref L) := by simpa using e1
    intro a ha
    have hx6 : xs.length = 6 := by have := hxs.length; simpa [wSyms] using this
    have w0 : WG T H0 a L xs [] (upd H1 a (.dT [])) := by
      have g : Gr H1 (upd H1 a (.dT [])) := Gr.new ha
      exact ⟨rl.ext.n a ha, upd_same, rl.ext.trans g, TabsN.new rl.tabs ha, g.lst hL, Rps.mono g.stab _ hxs⟩
    refine ⟨.ref L, rfl, L, rfl, ⟨xs, SqL.of w0.l⟩, ?_⟩
    have wk := (list_walk (K := K) (T := T) w0.l w0.s).1
    refine for_it wk (fun i σ' Hx => ∃ o, σ' = [some (.int ((wSyms.take i).foldl wStep (row, [])).1), some (.ref L), some (.ref a), o] ∧ WG T H0 a L xs ((wSyms.take i).foldl wStep (row, [])).2 Hx) ⟨s3, rfl, w0⟩ (fun i σ' Hx _ ⟨_, _, hw⟩ => SqL.of hw.l) (fun i x σ' Hx Hx' hlt ⟨o3, eσ, hw⟩ hy => ?_) fun σ' Hx ⟨o3, eσ, hw⟩ => ?_
    · subst eσ
      obtain ⟨rfl, hx⟩ := hy
      have hlt : i < wSyms.length := by simpa using hlt
      have hs : wSyms[i]? = some wSyms[i] := by simp [hlt]
      generalize wSyms[i] = s at hs
      have hfl := (wFold_ok (wSyms.take i) (row, [])).1
      have htk : (wSyms.take i).length ≤ 6 := by rw [List.length_take]; show min i 6 ≤ 6; omega
      have hst : (wSyms.take (i + 1)).foldl wStep (row, []) = wStep ((wSyms.take i).foldl wStep (row, [])) s := by
        rw [take_at hs, List.foldl_append]
        rfl
      rw [hst]
      generalize (wSyms.take i).foldl wStep (row, []) = p at hw hfl ⊢
      have hpl : p.2.length ≤ 12 := by
        have : (([] : Wts)).length = 0 := rfl
        simp only [] at hfl
        omega
      show tSeq _ _ _ [some (.int p.1), some (.ref L), some (.ref a), some x] _
      refine wg_if (K := K) (b := decide (p.1 % 3 = 1)) (v := 1 + p.1 / 3 % 4) hs hx hw (by omega) (et_test (ev_eqI (ev_mod (ev_CB (ea_cons (ev_var rfl rfl) ea_nil) cb_int) ev_int (by decide)) ev_int)) (ev_add ev_int (ev_mod (ev_fdiv (ev_var rfl rfl) ev_int ⟨by decide, by decide⟩) ev_int (by decide))) fun H2 hw2 => ?_
      have hl2 : (if decide (p.1 % 3 = 1) = true then putW p.2 s.key (1 + p.1 / 3 % 4) else p.2).length < 100 := by
        have := putW_len p.2 s.key (1 + p.1 / 3 % 4)
        split <;> omega
      show tSeq _ _ _ [some (.int p.1), some (.ref L), some (.ref a), some x] H2
      refine wg_if (K := K) (b := decide (p.1 % 3 = 2)) (v := 1 + p.1 / 3 % 2) hs hx hw2 hl2 (et_test (ev_eqI (ev_mod (ev_CB (ea_cons (ev_var rfl rfl) ea_nil) cb_int) ev_int (by decide)) ev_int)) (ev_add ev_int (ev_mod (ev_fdiv (ev_var rfl rfl) ev_int ⟨by decide, by decide⟩) ev_int (by decide))) fun H3 hw3 => ?_
      refine (ev_fdiv (K := K) (T := T) (i := p.1) (j := 12) (ev_var rfl rfl) ev_int ⟨by decide, by decide⟩) H3 H3 _ (hw3.rel hs hx p.1) _ fun y H4 g4 t4 oy => ?_
      have ey : y = V.int (p.1 / 12) := oy
      subst ey
      exact ⟨some x, rfl, hw3.grow g4 t4⟩
    · subst eσ
      have e : (wSyms.take (wSyms.map Sy.d).length).foldl wStep (row, []) = wSyms.foldl wStep (row, []) := rfl
      rw [e] at hw
      exact ⟨.ref a, rfl, o.rt Hx (.ref a) (.sh (.wts (lawW row))) hw.g hw.t ⟨a, rfl, hw.d⟩ rfl⟩
end
end
end G3
end

section
set_option Elab.async false
set_option linter.all false
set_option maxRecDepth 100000
set_option maxHeartbeats 1000000
namespace G3
open PySem PySem.Spec PyProof.Rows L2 LamX NdefX
noncomputable section
open scoped Classical
def kcC (q : Kd × Cl) : Conc := q.1.conc q.2
def resK (W : Wts) (c : Cl) (sel : Option Nat) : List (Kd × Cl) := (c.mapIdx fun k y => if y.p then none else (resAt W c sel k y).map fun x => (Kd.res k, x.cl)).filterMap id
def facK (W : Wts) (c : Cl) (sel : Option Nat) : List (Kd × Cl) := match sel with
  | some _ => []
  | none => (pairsL c).filterMap fun q => (facQ W c q).map fun x => (Kd.fac q.1 q.2.1 q.2.2.1 q.2.2.2, x.cl)
def supK (W : Wts) (c : Cl) (sc : Option Nat) (d : Cl) (sd : Option Nat) : List (Kd × Cl) :=
  (spotsL c).flatMap fun q => (leadsL (shiftCl (amt c) d)).filterMap fun l => (supSpot W c sc d sd q l).map fun x => (Kd.sup q.1 q.2.1 q.2.2.1 l.1 l.2.1, x.cl)
theorem mapIdx_fm {α β : Type} (f : Nat → α → Option β) (l : List α) : (l.mapIdx f).filterMap id = (l.mapIdx fun k y => (k, y)).filterMap fun q => f q.1 q.2 := by
  have : l.mapIdx f = (l.mapIdx fun k y => (k, y)).map fun q => f q.1 q.2 := by
    apply List.ext_getElem?
    intro i
    simp only [List.getElem?_map, List.getElem?_mapIdx]
    cases l[i]? <;> rfl
  rw [this, List.filterMap_map]
  rfl
theorem mapIdx_cfm {α β : Type} (f : α → Option β) (l : List α) : (l.mapIdx fun _ y => f y).filterMap id = l.filterMap f := by
  have : (l.mapIdx fun _ y => f y) = l.map f := by
    apply List.ext_getElem?
    intro i
    simp only [List.getElem?_map, List.getElem?_mapIdx]
  rw [this, List.filterMap_map]
  rfl
theorem fm_map {α β γ : Type} {f : α → Option β} {g : α → Option γ} {h : γ → β} (l : List α) (e : ∀ a, (g a).map h = f a) : (l.filterMap g).map h = l.filterMap f := by
  rw [List.map_filterMap]
  congr 1
  funext a
  exact e a
theorem resAt_shape (W : Wts) (c : Cl) (sel : Option Nat) (k : Nat) (y : Lit) : ((resAt W c sel k y).map fun x => (Kd.res k, x.cl)).map kcC = resAt W c sel k y := by
  unfold resAt
  cases mgu y.l y.r with
  | none => rfl
  | some τ =>
    dsimp only
    split <;> rfl
theorem facQ_shape (W : Wts) (c : Cl) (q : Quad) : ((facQ W c q).map fun x => (Kd.fac q.1 q.2.1 q.2.2.1 q.2.2.2, x.cl)).map kcC = facQ W c q := by
  unfold facQ
  split
  · unfold facAt
    split
    · rfl
    · split
      · rfl
      · split <;> rfl
  · rfl
theorem supSpot_shape (W : Wts) (c : Cl) (sc : Option Nat) (d : Cl) (sd : Option Nat) (q : Spot) (l : Lead) : ((supSpot W c sc d sd q l).map fun x => (Kd.sup q.1 q.2.1 q.2.2.1 l.1 l.2.1, x.cl)).map kcC = supSpot W c sc d sd q l := by
  unfold supSpot
  split
  · unfold supAt
    split
    · rfl
    · split
      · rfl
      · split <;> rfl
  · rfl
theorem resK_map (W : Wts) (c : Cl) (sel : Option Nat) : (resK W c sel).map kcC = resL W c sel := by
  unfold resK resL
  rw [mapIdx_fm, mapIdx_fm]
  refine fm_map _ fun a => ?_
  split
  · rfl
  · exact resAt_shape W c sel a.1 a.2
theorem facK_map (W : Wts) (c : Cl) (sel : Option Nat) : (facK W c sel).map kcC = facL W c sel := by
  unfold facK facL
  cases sel with
  | some _ => rfl
  | none =>
    dsimp only
    rw [mapIdx_cfm]
    exact fm_map _ fun q => facQ_shape W c q
theorem supK_map (W : Wts) (c : Cl) (sc : Option Nat) (d : Cl) (sd : Option Nat) : (supK W c sc d sd).map kcC = supsL W c sc d sd := by
  unfold supK supsL
  rw [List.map_flatMap]
  congr 1
  funext q
  rw [mapIdx_cfm]
  exact fm_map _ fun l => supSpot_shape W c sc d sd q l
end
end G3
end

section
set_option Elab.async false
set_option linter.all false
set_option maxRecDepth 100000
set_option maxHeartbeats 1000000
namespace G3
open PySem PySem.Spec PyProof.Rows L2 LamX NdefX
noncomputable section
open scoped Classical
/-! ### what the law draws -/
/-- kinds of symbols -/
def Kok (t : Tm) : Prop := match t with
  | .v _ => True
  | .ap s _ => 0 ≤ s.a ∧ s.a ≤ 5
theorem isAt_eq {t : Tm} (h : Kok t) : t.isAt = t.isAtom := by
  cases t with
  | v n => rfl
  | ap s l =>
    obtain ⟨h1, h2⟩ := h
    rw [Tm.isAt, Tm.isAtom, Bool.eq_iff_iff]
    simp
    omega
structure Drw (D S : Nat) (t : Tm) : Prop where
  dep : t.depth ≤ D
  sz : t.size ≤ S
  ar : t.thin
  vb : ∀ x, occ x t ≠ 0 → 0 ≤ x ∧ x < 3
  kd : Kok t
  pd : ∀ τ : Sub, (∀ p ∈ τ, p.2.depth ≤ 2) → (put τ t).depth ≤ D + 1
theorem look_memS {τ : Sub} {n : Int} {u : Tm} (h : look τ n = some u) : (n, u) ∈ τ := by
  unfold look getI at h
  obtain ⟨p, hp, rfl⟩ := Option.map_eq_some_iff.mp h
  have h1 := List.find?_some hp
  have h2 := List.mem_of_find?_eq_some hp
  have h1 : p.1 = n := by simpa using h1
  rw [← h1]
  exact h2
theorem put_vd {τ : Sub} (h : ∀ p ∈ τ, p.2.depth ≤ 2) (n : Int) : (put τ (.v n)).depth ≤ 2 := by
  rw [put]
  cases e : look τ n with
  | none => simp [Tm.depth]
  | some u => exact h _ (look_memS e)
theorem depthL_le2 {D : Nat} : ∀ {l : List Tm}, (∀ t ∈ l, t.depth ≤ D) → depthL l ≤ D := depthL_le
theorem sizeL_le {S : Nat} : ∀ {l : List Tm}, (∀ t ∈ l, t.size ≤ S) → sizeL l ≤ l.length * S
  | [], _ => by simp [sizeL]
  | t :: l, h => by
    have h1 := h t (by simp)
    have h2 := sizeL_le fun u hu => h u (List.mem_cons_of_mem _ hu)
    rw [sizeL, List.length_cons, Nat.succ_mul]
    omega
theorem Drw.ap {D S : Nat} {s : Sy} {l : List Tm} (hl : l.length ≤ 2) (hs : 0 ≤ s.a ∧ s.a ≤ 5) (h : ∀ t ∈ l, Drw D S t) : Drw (D + 1) (2 * S + 1) (.ap s l) := by
  refine ⟨?_, ?_, thin_ap.mpr ⟨hl, fun t ht => (h t ht).ar⟩, fun x hx => ?_, hs, fun τ hτ => ?_⟩
  · rw [Tm.depth]
    have := depthL_le fun t ht => (h t ht).dep
    omega
  · rw [Tm.size]
    have h1 := sizeL_le fun t ht => (h t ht).sz
    have h2 : l.length * S ≤ 2 * S := Nat.mul_le_mul_right _ hl
    omega
  · rw [occ] at hx
    by_cases ha : ∃ t ∈ l, occ x t ≠ 0
    · obtain ⟨t, ht, ho⟩ := ha
      exact (h t ht).vb x ho
    · refine absurd (occL_zero.mpr fun t ht => ?_) hx
      by_cases z : occ x t = 0
      · exact z
      · exact absurd ⟨t, ht, z⟩ ha
  · rw [put_ap, Tm.depth]
    have := depthL_le (n := D + 1) (l := l.map (put τ)) fun t ht => by
      obtain ⟨u, hu, rfl⟩ := List.mem_map.mp ht
      exact (h u hu).pd τ hτ
    omega
theorem lawSym_ok (n : Int) : 2 ≤ (lawSym n).a ∧ (lawSym n).a ≤ 3 := by
  have h : (n % 5).toNat < 5 := by omega
  unfold lawSym
  generalize (n % 5).toNat = k at h
  match k, h with
  | 0, _ => decide
  | 1, _ => decide
  | 2, _ => decide
  | 3, _ => decide
  | 4, _ => decide
  | k + 5, h => omega
theorem lawTerm_ok0 (row : Int) : Drw 1 1 (lawTerm 0 row).1 ∧ Gnd (lawGround 0 row).1 ∧ Drw 1 1 (lawGround 0 row).1 := by
  have hc : ∀ m : Int, Drw 1 1 (.ap (lawSym m) []) := fun m => Drw.ap (D := 0) (S := 0) (by simp) (by have := lawSym_ok m; omega) (by simp)
  refine ⟨?_, ?_, ?_⟩
  · rw [lawTerm]
    split
    · refine ⟨by simp [Tm.depth], by simp [Tm.size], by simp [Tm.thin], fun x hx => ?_, trivial, fun τ hτ => Nat.le_trans (put_vd hτ _) (by decide)⟩
      simp [occ] at hx
      omega
    · exact hc _
  · intro x
    rw [lawGround]
    simp [occ, occL]
  · rw [lawGround]
    exact hc _
theorem Drw.mono {D S D' S' : Nat} {t : Tm} (h : Drw D S t) (h1 : D ≤ D') (h2 : S ≤ S') : Drw D' S' t := ⟨Nat.le_trans h.dep h1, Nat.le_trans h.sz h2, h.ar, h.vb, h.kd, fun τ hτ => Nat.le_trans (h.pd τ hτ) (by omega)⟩
theorem gnd_ap {s : Sy} {l : List Tm} : Gnd (.ap s l) ↔ ∀ t ∈ l, Gnd t := by
  constructor
  · intro h t ht x
    have h1 := h x
    rw [occ] at h1
    exact occL_zero.mp h1 t ht
  · intro h x
    rw [occ]
    exact occL_zero.mpr fun t ht => h t ht x
theorem lawTerm_ok1 (row : Int) : Drw 2 3 (lawTerm 1 row).1 := by
  rw [lawTerm]
  split
  · refine ⟨by simp [Tm.depth], by simp [Tm.size], by simp [Tm.thin], fun x hx => ?_, trivial, fun τ hτ => Nat.le_trans (put_vd hτ _) (by decide)⟩
    simp [occ] at hx
    omega
  · refine Drw.ap (D := 1) (S := 1) (by rw [iterT_len]; omega) (by have := lawSym_ok (row / 5 / 3 % 5); omega) fun t ht => ?_
    obtain ⟨r, rfl⟩ := iterT_mem _ _ _ _ ht
    exact (lawTerm_ok0 r).1
theorem lawGround_ok1 (row : Int) : Drw 2 3 (lawGround 1 row).1 ∧ Gnd (lawGround 1 row).1 := by
  rw [lawGround]
  refine ⟨Drw.ap (D := 1) (S := 1) (by rw [iterT_len]; omega) (by have := lawSym_ok (row / 3 % 5); omega) fun t ht => ?_, gnd_ap.mpr fun t ht => ?_⟩
  · obtain ⟨r, rfl⟩ := iterT_mem _ _ _ _ ht
    exact (lawTerm_ok0 r).2.2
  · obtain ⟨r, rfl⟩ := iterT_mem _ _ _ _ ht
    exact (lawTerm_ok0 r).2.1
theorem atomSym_ok (n : Int) : 0 ≤ ((atomL[(n % 6).toNat]?).getD ⟨1, 0, 0⟩).a ∧ ((atomL[(n % 6).toNat]?).getD ⟨1, 0, 0⟩).a ≤ 5 := by
  have h : (n % 6).toNat < 6 := by omega
  generalize (n % 6).toNat = k at h
  match k, h with
  | 0, _ => decide
  | 1, _ => decide
  | 2, _ => decide
  | 3, _ => decide
  | 4, _ => decide
  | 5, _ => decide
  | k + 6, h => omega
theorem lawAtom_ok1 (row : Int) : Drw 3 7 (lawAtom 1 row).1 := by
  unfold lawAtom
  refine Drw.ap (D := 2) (S := 3) (by rw [iterT_len]; omega) (atomSym_ok row) fun t ht => ?_
  obtain ⟨r, rfl⟩ := iterT_mem _ _ _ _ ht
  exact lawTerm_ok1 r
def Ldr (x : Lit) : Prop := Drw 3 7 x.l ∧ Drw 3 7 x.r
theorem lawLit_ok1 (row : Int) : Ldr (lawLit 1 row).1 := by
  unfold lawLit
  split
  · refine ⟨lawAtom_ok1 _, (Drw.ap (D := 0) (S := 0) (by simp) (by decide) (by simp)).mono (by decide) (by decide)⟩
  · exact ⟨(lawTerm_ok1 _).mono (by decide) (by decide), (lawTerm_ok1 _).mono (by decide) (by decide)⟩
theorem clIter_ok : ∀ (k : Nat) (row : Int), ∀ x ∈ (clIter 1 k row).1, Ldr x
  | 0, _, x, h => by cases h
  | k + 1, row, x, h => by
    have ih := clIter_ok k row
    rw [clIter] at h
    unfold clStep at h
    dsimp only at h
    have h1 : ∀ x ∈ (clIter 1 k row).1 ++ [(lawLit 1 (clIter 1 k row).2).1], Ldr x := fun x hx => by
      rcases List.mem_append.mp hx with hx | hx
      · exact ih x hx
      · simp at hx
        rw [hx]
        exact lawLit_ok1 _
    split at h
    · rcases List.mem_append.mp h with h | h
      · exact h1 x h
      · rw [List.mem_singleton] at h
        rw [h]
        generalize hc : (clIter 1 k row).1 ++ [(lawLit 1 (clIter 1 k row).2).1] = c at h1
        cases hi : c[((lawLit 1 (clIter 1 k row).2).2 % (c.length : Int)).toNat]? with
        | none => exact lawLit_ok1 _
        | some y => exact h1 y (List.mem_of_getElem? hi)
    · exact h1 x h
structure Cdr (c : Cl) : Prop where
  len : c.length ≤ 4
  ok : ∀ x ∈ c, Ldr x
theorem lawCl_ok (row : Int) : Cdr (lawCl row 2 1) := ⟨lawCl_len row 2 1 (by decide), fun x hx => clIter_ok _ _ x hx⟩
theorem lawPos_ok (row : Int) : Cdr (lawPos row 2 1) := by
  have h := lawCl_ok row
  unfold lawPos
  split
  · refine ⟨by rw [List.length_map]; exact h.len, fun x hx => ?_⟩
    obtain ⟨y, hy, rfl⟩ := List.mem_map.mp hx
    exact h.ok y hy
  · exact h
end
end G3
end

section
set_option Elab.async false
set_option linter.all false
set_option maxRecDepth 100000
set_option maxHeartbeats 1000000
namespace G3
open PySem PySem.Spec PyProof.Rows L2 LamX NdefX
noncomputable section
open scoped Classical
/-! ### conclusions: bounded, and where they say -/
theorem mk_cok {n : Nat} {cl : Cl} {A B : Sub} (hc : Cok n cl) (hA : Sok n A) (hB : Sok n B) : Cok n (putCl (numS cl A B) cl) := by
  have hb : ∀ x ∈ numO cl A B, 0 ≤ x ∧ x < 1000 := collS_ok hB.tm (collS_ok hA.tm (clVars_ok hc))
  have hnd : (numO cl A B).Nodup := nodup_collS (nodup_collS (clVars_nodup cl))
  have hl : (numO cl A B).length ≤ 1000 := small_len hnd hb
  refine (cok_put (m := 0) (fun p hp => ?_) hc).mono (by omega)
  unfold numS at hp
  obtain ⟨i, hi, rfl⟩ := List.mem_mapIdx.mp hp
  exact tok_v (by omega)
theorem resK_ok {g : Prop} {W : Wts} {c : Cl} {sel : Option Nat} (hc : Cg g c) : ∀ q ∈ resK W c sel, q.1.fit c ∧ Cok 22 q.2 := by
  intro q hq
  unfold resK at hq
  rw [mapIdx_fm] at hq
  obtain ⟨⟨k, y⟩, h1, h2⟩ := List.mem_filterMap.mp hq
  obtain ⟨i, hi, e⟩ := List.mem_mapIdx.mp h1
  injection e with e1 e2
  subst e1 e2
  have hk : c[i]? = some c[i] := by simp [hi]
  generalize c[i] = y at hk h2
  dsimp only at h2
  split at h2
  · cases h2
  · obtain ⟨x, hx, rfl⟩ := Option.map_eq_some_iff.mp h2
    have hy := hc.ok y (List.mem_of_getElem? hk)
    have hmd := hc.md y (List.mem_of_getElem? hk)
    unfold resAt at hx
    cases hmg : mgu y.l y.r with
    | none => rw [hmg] at hx; cases hx
    | some τ =>
      rw [hmg] at hx
      dsimp only at hx
      split at hx
      · obtain rfl := Option.some.inj hx
        have hτ := mgu_tok hy.1 hy.2 hmd.1 hmd.2 hmg
        have hlen := hc.len
        have hce : ∀ x ∈ c.eraseIdx i, Lok 4 x := fun x hx => hc.ok x (List.mem_of_mem_eraseIdx hx)
        have hcel : (c.eraseIdx i).length ≤ 4 := by rw [List.length_eraseIdx]; split <;> omega
        exact ⟨hi, mk_cok ((cok_put hτ (n := 4) ⟨by omega, hce⟩).mono (by omega)) (sok_bec hτ hc.cok fun x hx => by rw [Int.add_zero]; exact clVars_ok hc.cok x hx) sok_nil⟩
      · cases hx
theorem facK_ok {g : Prop} {W : Wts} {c : Cl} {sel : Option Nat} (hc : Cg g c) : ∀ q ∈ facK W c sel, q.1.fit c ∧ Cok 22 q.2 := by
  intro q hq
  unfold facK at hq
  cases sel with
  | some _ => cases hq
  | none =>
    obtain ⟨⟨k, s, j, t⟩, h1, h2⟩ := List.mem_filterMap.mp hq
    obtain ⟨y, z, hk, hj, _, _, hs, ht, _⟩ := quad_in h1
    have hk : c[k]? = some y := hk
    have hj : c[j]? = some z := hj
    have hs : s ≤ 1 := hs
    have ht : t ≤ 1 := ht
    obtain ⟨x, hx, rfl⟩ := Option.map_eq_some_iff.mp h2
    unfold facQ at hx
    dsimp only at hx
    rw [hk, hj] at hx
    have hx : facAt W c k s j t y z = some x := hx
    have hy := hc.ok y (List.mem_of_getElem? hk)
    have hz := hc.ok z (List.mem_of_getElem? hj)
    have my := hc.md y (List.mem_of_getElem? hk)
    have mz := hc.md z (List.mem_of_getElem? hj)
    have sd : ∀ (w : Lit) (i : Nat), Lok 4 w → Tok 4 (w.side i) := fun w i h => by
      unfold Lit.side
      split
      · exact h.1
      · exact h.2
    have smd : ∀ (w : Lit) (i : Nat), Md g w.l ∧ Md g w.r → Md g (w.side i) := fun w i h => by
      unfold Lit.side
      split
      · exact h.1
      · exact h.2
    unfold facAt at hx
    split at hx
    · cases hx
    · cases hmg : mgu (y.side s) (z.side t) with
      | none => rw [hmg] at hx; cases hx
      | some τ =>
        rw [hmg] at hx
        dsimp only at hx
        split at hx
        · obtain rfl := Option.some.inj hx
          have hτ := mgu_tok (sd y s hy) (sd z t hz) (smd y s my) (smd z t mz) hmg
          have hlen := hc.len
          have hce : ∀ x ∈ c.set k ⟨false, y.side (1 - s), z.side (1 - t)⟩, Lok 4 x := fun x hx => by
            rcases List.mem_or_eq_of_mem_set hx with hx | rfl
            · exact hc.ok x hx
            · exact ⟨sd y _ hy, sd z _ hz⟩
          exact ⟨⟨(List.getElem?_eq_some_iff.mp hk).1, hs, (List.getElem?_eq_some_iff.mp hj).1, ht⟩, mk_cok ((cok_put hτ (n := 4) ⟨by rw [List.length_set]; omega, hce⟩).mono (by omega)) (sok_bec hτ hc.cok fun x hx => by rw [Int.add_zero]; exact clVars_ok hc.cok x hx) sok_nil⟩
        · cases hx
theorem cg_side {g : Prop} {c : Cl} (h : Cg g c) {k s : Nat} {y : Lit} (hk : c[k]? = some y) : Tok 4 (y.side s) ∧ Md g (y.side s) := by
  have hy := h.ok y (List.mem_of_getElem? hk)
  have my := h.md y (List.mem_of_getElem? hk)
  unfold Lit.side
  split
  · exact ⟨hy.1, my.1⟩
  · exact ⟨hy.2, my.2⟩
theorem supK_ok {g : Prop} {W : Wts} {c d : Cl} {sc sd : Option Nat} (hc : Cg g c) (hd0 : Cg g d) (hd : Cg g (shiftCl (amt c) d)) (hvd : ∀ x ∈ clVars d, 0 ≤ x + amt c ∧ x + amt c < 1000) : ∀ q ∈ supK W c sc d sd, q.1.fit c ∧ Cok 22 q.2 := by
  intro q hq
  unfold supK at hq
  obtain ⟨⟨k, s, p, tm⟩, h1, h2⟩ := List.mem_flatMap.mp hq
  obtain ⟨⟨j, t, lf⟩, h3, h4⟩ := List.mem_filterMap.mp h2
  obtain ⟨y, hk, hs, hat, hv⟩ := mem_spots.mp h1
  obtain ⟨z, hj, hzp, ht, hlf⟩ := mem_leads.mp h3
  have hk : c[k]? = some y := hk
  have hs : s ≤ 1 := hs
  have hat : atP (y.side s) p = some tm := hat
  have hj : (shiftCl (amt c) d)[j]? = some z := hj
  have ht : t ≤ 1 := ht
  have hlf : z.side t = lf := hlf
  obtain ⟨x, hx, rfl⟩ := Option.map_eq_some_iff.mp h4
  unfold supSpot at hx
  dsimp only at hx
  rw [hk, hj] at hx
  have hx : supAt W c sc d sd k s p tm j t lf y z = some x := hx
  have ys := cg_side (s := s) hc hk
  have zs := cg_side (s := t) hd hj
  have zr := cg_side (s := 1 - t) hd hj
  have hsub := atP_subs p _ _ hat
  have ttok : Tok 4 tm := tok_sub ys.1 hsub
  have tmd : Md g tm := md_sub ys.2 hsub
  have ltok : Tok 4 lf := hlf ▸ zs.1
  have lmd : Md g lf := hlf ▸ zs.2
  unfold supAt at hx
  split at hx
  · cases hx
  · cases hmg : mgu tm lf with
    | none => rw [hmg] at hx; cases hx
    | some τ =>
      rw [hmg] at hx
      dsimp only at hx
      split at hx
      · obtain rfl := Option.some.inj hx
        have hτ := mgu_tok ttok ltok tmd lmd hmg
        have hlen := hc.len
        have hlen2 := hd.len
        have hlit : Lok 8 (supLit y s p z t) := by
          have hp8 : Tok 8 (putAt (y.side s) p (z.side (1 - t))) := tok_putAt (n := 4) (m := 4) ys.1 zr.1
          have h0 := hc.ok y (List.mem_of_getElem? hk)
          unfold supLit Lit.with
          split
          · exact ⟨hp8, h0.2.mono (by omega)⟩
          · exact ⟨h0.1.mono (by omega), hp8⟩
        have hwh : ∀ x ∈ supCl c (shiftCl (amt c) d) k s p j t y z, Lok 8 x := fun x hx => by
          rcases List.mem_append.mp hx with hx | hx
          · rcases List.mem_or_eq_of_mem_set hx with hx | rfl
            · have := hc.ok x hx; exact ⟨this.1.mono (by omega), this.2.mono (by omega)⟩
            · exact hlit
          · have := hd.ok x (List.mem_of_mem_eraseIdx hx); exact ⟨this.1.mono (by omega), this.2.mono (by omega)⟩
        have hwl : (supCl c (shiftCl (amt c) d) k s p j t y z).length ≤ 8 := by
          unfold supCl
          rw [List.length_append, List.length_set, List.length_eraseIdx]
          split <;> omega
        have hcok : Cok 22 (putCl τ (supCl c (shiftCl (amt c) d) k s p j t y z)) := cok_put hτ (n := 8) ⟨by omega, hwh⟩
        exact ⟨⟨(List.getElem?_eq_some_iff.mp hk).1, hs⟩, mk_cok hcok (sok_bec hτ hc.cok fun x hx => by rw [Int.add_zero]; exact clVars_ok hc.cok x hx) (sok_bec hτ hd0.cok hvd)⟩
      · cases hx
end
end G3
end

section
set_option Elab.async false
set_option linter.all false
set_option maxRecDepth 100000
set_option maxHeartbeats 1000000
namespace G3
open PySem PySem.Spec PyProof.Rows L2 LamX NdefX
noncomputable section
open scoped Classical
/-! ### the law's clauses are of the kind the rules take -/
theorem Drw.tok {D S : Nat} {t : Tm} (h : Drw D S t) : Tok D t := ⟨h.dep, h.ar, fun x hx => by have := h.vb x hx; omega⟩
theorem Cdr.cg {c : Cl} (h : Cdr c) : Cg False c := by
  refine ⟨h.len, fun x hx => ?_, fun x hx => ?_⟩
  · have := h.ok x hx
    exact ⟨this.1.tok.mono (by decide), this.2.tok.mono (by decide)⟩
  · have := h.ok x hx
    exact ⟨⟨fun z => z.elim, fun _ => this.1.sz⟩, ⟨fun z => z.elim, fun _ => this.2.sz⟩⟩
theorem Cdr.vars {c : Cl} (h : Cdr c) : ∀ x ∈ clVars c, 0 ≤ x ∧ x < 3 := fun z hz => by
  rcases (clvs_mem c [] z).mp hz with h1 | ⟨x, hx, h1⟩
  · cases h1
  · have := h.ok x hx
    rcases h1 with h1 | h1
    · exact this.1.vb z h1
    · exact this.2.vb z h1
theorem amt_b {c : Cl} (h : ∀ x ∈ clVars c, 0 ≤ x ∧ x < 3) : 0 ≤ amt c ∧ amt c ≤ 3 := by
  obtain ⟨h1, h2, h3⟩ := maxI_spec (clVars c) (-1)
  unfold amt maxI
  rcases h3 with h3 | h3
  · have := h _ h3
    omega
  · omega
theorem shift_facts (m : Int) : ∀ t : Tm, (shift m t).depth = t.depth ∧ (shift m t).size = t.size ∧ (t.thin → (shift m t).thin) ∧ ∀ x, occ x (shift m t) = occ (x - m) t := by
  refine Tm.ind (fun n => ?_) fun s l ih => ?_
  · refine ⟨by simp [shift, Tm.depth], by simp [shift, Tm.size], fun _ => by simp [shift, Tm.thin], fun x => ?_⟩
    rw [shift, occ, occ]
    by_cases h : n + m = x
    · rw [if_pos h, if_pos (by omega)]
    · rw [if_neg h, if_neg (by omega)]
  · have dl : ∀ l : List Tm, (∀ t ∈ l, (shift m t).depth = t.depth) → depthL (l.map (shift m)) = depthL l := fun l => by
      induction l with
      | nil => intro _; rfl
      | cons t l ih => intro h; rw [List.map_cons, depthL, depthL, h t (by simp), ih fun u hu => h u (List.mem_cons_of_mem _ hu)]
    have sl : ∀ l : List Tm, (∀ t ∈ l, (shift m t).size = t.size) → sizeL (l.map (shift m)) = sizeL l := fun l => by
      induction l with
      | nil => intro _; rfl
      | cons t l ih => intro h; rw [List.map_cons, sizeL, sizeL, h t (by simp), ih fun u hu => h u (List.mem_cons_of_mem _ hu)]
    have ol : ∀ (x : Int) (l : List Tm), (∀ t ∈ l, occ x (shift m t) = occ (x - m) t) → occL x (l.map (shift m)) = occL (x - m) l := fun x l => by
      induction l with
      | nil => intro _; rw [List.map_nil, occL, occL]
      | cons t l ih => intro h; rw [List.map_cons, occL, occL, h t (by simp), ih fun u hu => h u (List.mem_cons_of_mem _ hu)]
    rw [shift_ap]
    refine ⟨by rw [Tm.depth, Tm.depth, dl l fun t ht => (ih t ht).1], by rw [Tm.size, Tm.size, sl l fun t ht => (ih t ht).2.1], fun h => ?_, fun x => by rw [occ, occ, ol x l fun t ht => (ih t ht).2.2.2 x]⟩
    obtain ⟨h1, h2⟩ := thin_ap.mp h
    refine thin_ap.mpr ⟨by rw [List.length_map]; exact h1, fun u hu => ?_⟩
    obtain ⟨t, ht, rfl⟩ := List.mem_map.mp hu
    exact (ih t ht).2.2.1 (h2 t ht)
theorem shift_drw {m : Int} {t : Tm} (hm : 0 ≤ m ∧ m ≤ 3) (h : Drw 3 7 t) : Tok 4 (shift m t) ∧ (shift m t).size ≤ 7 := by
  obtain ⟨h1, h2, h3, h4⟩ := shift_facts m t
  refine ⟨⟨by rw [h1]; have := h.dep; omega, h3 h.ar, fun x hx => ?_⟩, by rw [h2]; exact h.sz⟩
  rw [h4] at hx
  have := h.vb _ hx
  omega
theorem Cdr.shift {d : Cl} {m : Int} (h : Cdr d) (hm : 0 ≤ m ∧ m ≤ 3) : Cg False (shiftCl m d) := by
  refine ⟨by unfold shiftCl; rw [List.length_map]; exact h.len, fun x hx => ?_, fun x hx => ?_⟩
  all_goals
    obtain ⟨y, hy, rfl⟩ := List.mem_map.mp hx
    have hk := h.ok y hy
    have h1 := shift_drw hm hk.1
    have h2 := shift_drw hm hk.2
  · exact ⟨h1.1, h2.1⟩
  · exact ⟨⟨fun z => z.elim, fun _ => h1.2⟩, ⟨fun z => z.elim, fun _ => h2.2⟩⟩
theorem Cdr.csz {c : Cl} (h : Cdr c) : Csz c := ⟨by have := h.len; omega, fun x hx => by
  have := h.ok x hx
  exact ⟨⟨Nat.le_trans this.1.dep (by decide), Nat.le_trans this.1.sz (by decide)⟩, Nat.le_trans this.2.dep (by decide), Nat.le_trans this.2.sz (by decide)⟩⟩
end
end G3
end

section
set_option Elab.async false
set_option linter.all false
set_option maxRecDepth 100000
set_option maxHeartbeats 1000000
/-! substitutions as functions; the order on ground terms; stability -/
namespace G3
open PySem L2
noncomputable section
open scoped Classical
mutual
def app (θ : Int → Tm) : Tm → Tm
  | .v n => θ n
  | .ap s l => .ap s (appL θ l)
def appL (θ : Int → Tm) : List Tm → List Tm
  | [] => []
  | t :: r => app θ t :: appL θ r
end
theorem appL_map (θ : Int → Tm) : ∀ l, appL θ l = l.map (app θ)
  | [] => rfl
  | t :: r => by rw [appL, appL_map θ r]; rfl
theorem app_v (θ : Int → Tm) (n : Int) : app θ (.v n) = θ n := by rw [app]
theorem app_ap (θ : Int → Tm) (s : Sy) (l : List Tm) : app θ (.ap s l) = .ap s (l.map (app θ)) := by rw [app, appL_map]
theorem app_cg {θ η : Int → Tm} : ∀ t : Tm, (∀ x, occ x t ≠ 0 → θ x = η x) → app θ t = app η t := by
  refine Tm.ind (fun n h => ?_) fun s l ih h => ?_
  · rw [app_v, app_v]
    exact h n (by rw [occ_v, if_pos rfl]; exact Nat.one_ne_zero)
  · rw [app_ap, app_ap]
    congr 1
    refine List.map_congr_left fun t ht => ih t ht fun x hx => h x fun z => hx (occ_ap_zero.mp z t ht)
theorem app_id : ∀ t : Tm, app Tm.v t = t := by
  refine Tm.ind (fun n => app_v _ n) fun s l ih => ?_
  rw [app_ap]
  congr 1
  exact (List.map_congr_left fun t ht => ih t ht).trans (List.map_id _)
def Grd (θ : Int → Tm) : Prop := ∀ x, Gnd (θ x)
theorem gnd_app {θ : Int → Tm} (h : Grd θ) : ∀ t : Tm, Gnd (app θ t) := by
  refine Tm.ind (fun n => by rw [app_v]; exact h n) fun s l ih => ?_
  rw [app_ap, gnd_ap]
  intro u hu
  obtain ⟨t, ht, rfl⟩ := List.mem_map.mp hu
  exact ih t ht
theorem app_gnd {θ : Int → Tm} {t : Tm} (h : Gnd t) : app θ t = t := (app_cg t fun x hx => absurd (h x) hx).trans (app_id t)
theorem put_app (σ : Sub) : ∀ t : Tm, put σ t = app (fun x => put σ (.v x)) t := by
  refine Tm.ind (fun n => by rw [app_v]) fun s l ih => ?_
  rw [app_ap, put_ap]
  congr 1
  exact List.map_congr_left fun t ht => ih t ht
theorem put_nil : ∀ t : Tm, put [] t = t := by
  refine Tm.ind (fun n => by rw [put_v]; rfl) fun s l ih => ?_
  rw [put_ap]
  congr 1
  exact (List.map_congr_left fun t ht => ih t ht).trans (List.map_id _)
def Rsp (θ : Int → Tm) (τ : Sub) : Prop := ∀ p ∈ τ, app θ p.2 = θ p.1
theorem rsp_put {θ : Int → Tm} {τ : Sub} (h : Rsp θ τ) : ∀ t : Tm, app θ (put τ t) = app θ t := by
  refine Tm.ind (fun n => ?_) fun s l ih => ?_
  · rw [put_v, app_v]
    cases hl : look τ n with
    | none => exact app_v _ _
    | some u => exact h _ (look_memS hl)
  · rw [put_ap, app_ap, app_ap, List.map_map]
    congr 1
    exact List.map_congr_left fun t ht => ih t ht
def appLit (θ : Int → Tm) (x : Lit) : Lit := ⟨x.p, app θ x.l, app θ x.r⟩
def appCl (θ : Int → Tm) (c : Cl) : Cl := c.map (appLit θ)
theorem appLit_side (θ : Int → Tm) (x : Lit) (s : Nat) : (appLit θ x).side s = app θ (x.side s) := by
  unfold Lit.side
  cases s <;> rfl
theorem putLit_side (τ : Sub) (x : Lit) (s : Nat) : (putLit τ x).side s = put τ (x.side s) := by
  unfold Lit.side
  cases s <;> rfl
theorem rsp_lit {θ : Int → Tm} {τ : Sub} (h : Rsp θ τ) (x : Lit) : appLit θ (putLit τ x) = appLit θ x := by
  unfold appLit putLit
  rw [rsp_put h, rsp_put h]
theorem rsp_cl {θ : Int → Tm} {τ : Sub} (h : Rsp θ τ) (c : Cl) : appCl θ (putCl τ c) = appCl θ c := by
  unfold appCl putCl
  rw [List.map_map]
  exact List.map_congr_left fun x _ => rsp_lit h x
/-! ### weights -/
def WPos (W : Wts) : Prop := ∀ q ∈ W, (1 : Int) ≤ q.2
theorem sw_pos {W : Wts} (h : WPos W) (s : Sy) : 1 ≤ sw W s := by
  unfold sw
  cases e : W.find? fun p => decide (p.1 = s.key) with
  | none => exact Int.le_refl _
  | some q => exact h q (List.mem_of_find?_eq_some e)
theorem wtL_nn {W : Wts} : ∀ {l : List Tm}, (∀ t ∈ l, 1 ≤ wt W t) → 0 ≤ wtL W l
  | [], _ => by rw [wtL]; exact Int.le_refl _
  | t :: r, h => by
    rw [wtL]
    have := h t List.mem_cons_self
    have := wtL_nn (l := r) fun u hu => h u (List.mem_cons_of_mem _ hu)
    omega
theorem wt_pos {W : Wts} (h : WPos W) : ∀ t : Tm, 1 ≤ wt W t := by
  refine Tm.ind (fun n => by rw [wt]; exact Int.le_refl _) fun s l ih => ?_
  rw [wt]
  have := sw_pos h s
  have := wtL_nn ih
  omega
mutual
def lv : Tm → List Int
  | .v n => [n]
  | .ap _ l => lvL l
def lvL : List Tm → List Int
  | [] => []
  | t :: r => lv t ++ lvL r
end
def exS (f : Int → Int) (l : List Int) : Int := (l.map f).sum
theorem exS_append (f : Int → Int) (a b : List Int) : exS f (a ++ b) = exS f a + exS f b := by unfold exS; rw [List.map_append, List.sum_append]
theorem wtL_ex {W : Wts} {θ : Int → Tm} : ∀ {l : List Tm}, (∀ t ∈ l, wt W (app θ t) = wt W t + exS (fun x => wt W (θ x) - 1) (lv t)) → wtL W (l.map (app θ)) = wtL W l + exS (fun x => wt W (θ x) - 1) (lvL l)
  | [], _ => by simp [wtL, lvL, exS]
  | t :: r, h => by
    rw [List.map_cons, wtL, wtL, lvL, exS_append, h t List.mem_cons_self, wtL_ex (l := r) fun u hu => h u (List.mem_cons_of_mem _ hu)]
    omega
theorem wt_ex {W : Wts} {θ : Int → Tm} : ∀ t : Tm, wt W (app θ t) = wt W t + exS (fun x => wt W (θ x) - 1) (lv t) := by
  refine Tm.ind (fun n => ?_) fun s l ih => ?_
  · rw [app_v, lv, wt]
    simp only [exS, List.map_cons, List.map_nil, List.sum_cons, List.sum_nil]
    omega
  · rw [app_ap, wt, wt, lv, wtL_ex ih]
    omega
theorem occL_lv {x : Int} : ∀ {l : List Tm}, (∀ t ∈ l, occ x t = (lv t).count x) → occL x l = (lvL l).count x
  | [], _ => by simp [occL, lvL]
  | t :: r, h => by rw [occL, lvL, List.count_append, h t List.mem_cons_self, occL_lv (l := r) fun u hu => h u (List.mem_cons_of_mem _ hu)]
theorem occ_lv {x : Int} : ∀ t : Tm, occ x t = (lv t).count x := by
  refine Tm.ind (fun n => ?_) fun s l ih => ?_
  · rw [occ_v, lv, List.count_cons, List.count_nil]
    simp
  · rw [occ, lv, occL_lv ih]
theorem sum_perm {a b : List Int} (h : a.Perm b) : a.sum = b.sum := by
  induction h with
  | nil => rfl
  | cons x _ ih => rw [List.sum_cons, List.sum_cons, ih]
  | swap x y l => simp only [List.sum_cons]; omega
  | trans _ _ h1 h2 => exact h1.trans h2
theorem exS_le {f : Int → Int} (hf : ∀ x, 0 ≤ f x) : ∀ (A B : List Int), (∀ x, A.count x ≤ B.count x) → exS f A ≤ exS f B
  | [], B, _ => by
    unfold exS
    induction B with
    | nil => exact Int.le_refl _
    | cons b r ih =>
      rw [List.map_cons, List.sum_cons]
      have := hf b
      have := ih (fun x => Nat.zero_le _)
      simp only [List.map_nil, List.sum_nil] at *
      omega
  | a :: A, B, h => by
    have ha : a ∈ B := by
      have := h a
      rw [List.count_cons_self] at this
      exact List.count_pos_iff.mp (by omega)
    have hp := List.perm_cons_erase ha
    have e : exS f B = f a + exS f (B.erase a) := by
      exact sum_perm (hp.map f)
    have ih := exS_le hf A (B.erase a) fun x => by
      have h1 := h x
      rw [hp.count_eq, List.count_cons, List.count_cons] at h1
      omega
    have e2 : exS f (a :: A) = f a + exS f A := rfl
    omega
theorem hav_occ {s t : Tm} (h : hav s t = true) (x : Int) : occ x t ≤ occ x s := by
  by_cases hx : occ x t = 0
  · omega
  · have hm : x ∈ vars t := (mem_coll _ _ _).mpr (.inr hx)
    have := List.all_eq_true.mp h x hm
    have := of_decide_eq_true this
    omega
theorem hav_gnd {s t : Tm} (h : Gnd t) : hav s t = true := List.all_eq_true.mpr fun x hx => decide_eq_true (by rw [h x]; omega)
theorem hav_wt {W : Wts} {θ : Int → Tm} (hW : WPos W) {s t : Tm} (h : hav s t = true) : wt W (app θ t) - wt W t ≤ wt W (app θ s) - wt W s := by
  have := exS_le (f := fun x => wt W (θ x) - 1) (fun x => by have := wt_pos hW (θ x); show 0 ≤ wt W (θ x) - 1; omega) (lv t) (lv s) fun x => by
    rw [← occ_lv, ← occ_lv]; exact hav_occ h x
  have e1 := wt_ex (W := W) (θ := θ) s
  have e2 := wt_ex (W := W) (θ := θ) t
  omega
/-! ### the order -/
theorem gr_vf {W : Wts} {n : Int} {t : Tm} : gr W (.v n) t = false := gr_v W n t
def tailB (W : Wts) (s : Sy) (l : List Tm) (s' : Sy) (l' : List Tm) : Prop :=
  (l = [] ∧ l' = [] ∧ HT.lexLt s'.key s.key = true) ∨ (l ≠ [] ∧ l' = []) ∨
  ∃ (h : l ≠ []) (h' : l' ≠ []), (Tm.ap s l.dropLast ≠ .ap s' l'.dropLast ∧ gr W (.ap s l.dropLast) (.ap s' l'.dropLast) = true) ∨ (Tm.ap s l.dropLast = .ap s' l'.dropLast ∧ gr W (l.getLast h) (l'.getLast h') = true)
theorem gr_iff {W : Wts} {s : Sy} {l : List Tm} {t : Tm} : gr W (.ap s l) t = true ↔ hav (.ap s l) t = true ∧ (wt W (.ap s l) > wt W t ∨ (wt W (.ap s l) = wt W t ∧ ∃ s' l', t = .ap s' l' ∧ tailB W s l s' l')) := by
  rw [gr_ap, Bool.and_eq_true]
  refine and_congr Iff.rfl ?_
  by_cases hw : wt W (.ap s l) = wt W t
  · rw [if_neg (fun z => z hw)]
    cases t with
    | v n => exact ⟨fun q => (nomatch q), fun q => by
        rcases q with q | ⟨_, _, _, e, _⟩
        · omega
        · cases e⟩
    | ap s' l' =>
      show gew W s l s' l' = true ↔ _
      unfold gew
      by_cases h : l = []
      · rw [dif_pos h]
        subst h
        constructor
        · intro q
          rw [Bool.and_eq_true] at q
          exact .inr ⟨hw, s', l', rfl, .inl ⟨rfl, of_decide_eq_true q.1, q.2⟩⟩
        · rintro (q | ⟨_, _, _, e, q⟩)
          · omega
          · cases e
            rcases q with ⟨_, q1, q2⟩ | ⟨q, _⟩ | ⟨q, _⟩
            · rw [q2, decide_eq_true q1]; rfl
            · exact absurd rfl q
            · exact absurd rfl q
      · rw [dif_neg h]
        by_cases h' : l' = []
        · rw [dif_pos h']
          exact ⟨fun _ => .inr ⟨hw, s', l', rfl, .inr (.inl ⟨h, h'⟩)⟩, fun _ => rfl⟩
        · rw [dif_neg h']
          constructor
          · intro q
            refine .inr ⟨hw, s', l', rfl, .inr (.inr ⟨h, h', ?_⟩)⟩
            split at q
            · rename_i q1; exact .inl ⟨q1, q⟩
            · rename_i q1; exact .inr ⟨Classical.not_not.mp q1, q⟩
          · rintro (q | ⟨_, _, _, e, q⟩)
            · omega
            · cases e
              rcases q with ⟨q, _⟩ | ⟨_, q⟩ | ⟨_, _, ⟨q1, q2⟩ | ⟨q1, q2⟩⟩
              · exact absurd q h
              · exact absurd q h'
              · rw [if_pos q1]; exact q2
              · rw [if_neg (fun z => z q1)]; exact q2
  · rw [if_pos hw, decide_eq_true_iff]
    exact ⟨.inl, fun q => q.resolve_right fun q => hw q.1⟩
theorem hd_size {s : Sy} {l : List Tm} (h : l ≠ []) : (Tm.ap s l.dropLast).size < (Tm.ap s l).size := by
  have := size_drop h
  have := size_pos (l.getLast h)
  simp only [Tm.size]; omega
theorem last_size {s : Sy} {l : List Tm} (h : l ≠ []) : (l.getLast h).size < (Tm.ap s l).size := size_arg (List.getLast_mem h)
theorem lexLt_irr : ∀ l : List Int, HT.lexLt l l = false := by
  intro l
  induction l with
  | nil => rfl
  | cons a r ih => simp [HT.lexLt, ih]
theorem gr_irr {W : Wts} : ∀ (n : Nat) (t : Tm), t.size ≤ n → gr W t t = false := by
  intro n
  induction n with
  | zero => intro t h; have := size_pos t; omega
  | succ n ih =>
    intro t hn
    cases t with
    | v m => exact gr_vf
    | ap s l =>
      refine Bool.eq_false_iff.mpr fun z => ?_
      rcases (gr_iff.mp z).2 with q | ⟨_, s', l', e, q⟩
      · omega
      · cases e
        rcases q with ⟨_, _, q⟩ | ⟨q1, q2⟩ | ⟨h, h', ⟨q1, _⟩ | ⟨_, q⟩⟩
        · rw [lexLt_irr] at q; cases q
        · exact q1 q2
        · exact q1 rfl
        · have := last_size (s := s) h
          rw [ih _ (by omega)] at q; cases q
theorem gr_irrefl {W : Wts} (t : Tm) : gr W t t = false := gr_irr t.size t (Nat.le_refl _)
end
end G3
end

section
set_option Elab.async false
set_option linter.all false
set_option maxRecDepth 100000
set_option maxHeartbeats 1000000
/-! the order on ground terms: transitive; stable under ground substitution; so is the order of literals -/
namespace G3
open PySem L2
noncomputable section
open scoped Classical
theorem lexLt_trans : ∀ {a b c : List Int}, HT.lexLt a b = true → HT.lexLt b c = true → HT.lexLt a c = true := by
  intro a
  induction a with
  | nil =>
    intro b c h1 h2
    cases b with
    | nil => cases h1
    | cons y ys => cases c with
      | nil => cases h2
      | cons z zs => rfl
  | cons x xs ih =>
    intro b c h1 h2
    cases b with
    | nil => cases h1
    | cons y ys => cases c with
      | nil => cases h2
      | cons z zs =>
        rw [HT.lexLt_cons] at h1 h2 ⊢
        by_cases e1 : x = y
        · rw [if_pos e1] at h1
          by_cases e2 : y = z
          · rw [if_pos e2] at h2
            rw [if_pos (e1.trans e2)]
            exact ih h1 h2
          · rw [if_neg e2] at h2
            rw [e1, if_neg e2]
            exact h2
        · rw [if_neg e1] at h1
          by_cases e2 : y = z
          · rw [if_neg (by rw [← e2]; exact e1), ← e2]; exact h1
          · rw [if_neg e2] at h2
            have h1 := of_decide_eq_true h1
            have h2 := of_decide_eq_true h2
            rw [if_neg (by omega)]
            exact decide_eq_true (by omega)
theorem gnd_hd {s : Sy} {l : List Tm} (h : Gnd (.ap s l)) : Gnd (.ap s l.dropLast) := gnd_ap.mpr fun t ht => gnd_ap.mp h t (List.dropLast_subset l ht)
theorem gnd_last {s : Sy} {l : List Tm} (h : Gnd (.ap s l)) (hl : l ≠ []) : Gnd (l.getLast hl) := gnd_ap.mp h _ (List.getLast_mem hl)
theorem gr_tr {W : Wts} : ∀ (n : Nat) (a b c : Tm), a.size ≤ n → Gnd c → gr W a b = true → gr W b c = true → gr W a c = true := by
  intro n
  induction n with
  | zero => intro a b c h; have := size_pos a; omega
  | succ n ih =>
    intro a b c hn hc h1 h2
    cases a with
    | v m => rw [gr_vf] at h1; cases h1
    | ap s l =>
      cases b with
      | v m => rw [gr_vf] at h2; cases h2
      | ap s' l' =>
        refine gr_iff.mpr ⟨hav_gnd hc, ?_⟩
        rcases (gr_iff.mp h1).2 with q1 | ⟨w1, _, _, e1, q1⟩
        · rcases (gr_iff.mp h2).2 with q2 | ⟨w2, _, _, e2, q2⟩
          · exact .inl (by omega)
          · exact .inl (by omega)
        · cases e1
          rcases (gr_iff.mp h2).2 with q2 | ⟨w2, s2, l2, e2, q2⟩
          · exact .inl (by omega)
          · cases e2
            refine .inr ⟨w1.trans w2, _, _, rfl, ?_⟩
            rcases q1 with ⟨a1, a2, a3⟩ | ⟨a1, a2⟩ | ⟨a1, a2, a3⟩
            · rcases q2 with ⟨b1, b2, b3⟩ | ⟨b1, b2⟩ | ⟨b1, b2, b3⟩
              · exact .inl ⟨a1, b2, lexLt_trans b3 a3⟩
              · exact absurd a2 b1
              · exact absurd a2 b1
            · rcases q2 with ⟨b1, b2, b3⟩ | ⟨b1, b2⟩ | ⟨b1, b2, b3⟩
              · exact .inr (.inl ⟨a1, b2⟩)
              · exact absurd a2 b1
              · exact absurd a2 b1
            · rcases q2 with ⟨b1, b2, b3⟩ | ⟨b1, b2⟩ | ⟨b1, b2, b3⟩
              · exact absurd b1 a2
              · exact .inr (.inl ⟨a1, b2⟩)
              · refine .inr (.inr ⟨a1, b2, ?_⟩)
                have z1 := hd_size (s := s) a1
                have z2 := last_size (s := s) a1
                rcases a3 with ⟨c1, c2⟩ | ⟨c1, c2⟩
                · rcases b3 with ⟨d1, d2⟩ | ⟨d1, d2⟩
                  · have := ih _ _ _ (by omega) (gnd_hd hc) c2 d2
                    refine .inl ⟨fun e => ?_, this⟩
                    rw [e, gr_irrefl] at this
                    cases this
                  · rw [← d1]
                    exact .inl ⟨c1, c2⟩
                · rcases b3 with ⟨d1, d2⟩ | ⟨d1, d2⟩
                  · rw [c1]
                    exact .inl ⟨d1, d2⟩
                  · exact .inr ⟨c1.trans d1, ih _ _ _ (by omega) (gnd_last hc b2) c2 d2⟩
theorem gr_trans {W : Wts} {a b c : Tm} (hc : Gnd c) (h1 : gr W a b = true) (h2 : gr W b c = true) : gr W a c = true := gr_tr a.size a b c (Nat.le_refl _) hc h1 h2
theorem gr_asymm {W : Wts} {a b : Tm} (ha : Gnd a) (h1 : gr W a b = true) : gr W b a = false := by
  refine Bool.eq_false_iff.mpr fun z => ?_
  have := gr_trans ha h1 z
  rw [gr_irrefl] at this
  cases this
theorem map_last {α β : Type} (f : α → β) {l : List α} (h : l ≠ []) (h' : l.map f ≠ []) : (l.map f).getLast h' = f (l.getLast h) := by
  rw [List.getLast_map]
theorem gr_st {W : Wts} {θ : Int → Tm} (hW : WPos W) (hθ : Grd θ) : ∀ (n : Nat) (s t : Tm), s.size ≤ n → gr W s t = true → gr W (app θ s) (app θ t) = true := by
  intro n
  induction n with
  | zero => intro a b h; have := size_pos a; omega
  | succ n ih =>
    intro a b hn h
    cases a with
    | v m => rw [gr_vf] at h; cases h
    | ap s l =>
      obtain ⟨hv, h⟩ := gr_iff.mp h
      have hw := hav_wt (θ := θ) hW hv
      rw [app_ap] at hw ⊢
      refine gr_iff.mpr ⟨hav_gnd (gnd_app hθ b), ?_⟩
      rcases h with q | ⟨w1, s', l', e, q⟩
      · exact .inl (by omega)
      · subst e
        rw [app_ap] at hw ⊢
        by_cases w2 : wt W (.ap s (l.map (app θ))) > wt W (.ap s' (l'.map (app θ)))
        · exact .inl w2
        · refine .inr ⟨by omega, _, _, rfl, ?_⟩
          rcases q with ⟨a1, a2, a3⟩ | ⟨a1, a2⟩ | ⟨a1, a2, a3⟩
          · exact .inl ⟨by rw [a1]; rfl, by rw [a2]; rfl, a3⟩
          · exact .inr (.inl ⟨by simpa using a1, by rw [a2]; rfl⟩)
          · have z1 := hd_size (s := s) a1
            have z2 := last_size (s := s) a1
            have m1 : l.map (app θ) ≠ [] := by simpa using a1
            have m2 : l'.map (app θ) ≠ [] := by simpa using a2
            have e1 : ∀ (s : Sy) (l : List Tm), Tm.ap s (l.map (app θ)).dropLast = app θ (.ap s l.dropLast) := fun s l => by rw [app_ap, List.map_dropLast]
            refine .inr (.inr ⟨m1, m2, ?_⟩)
            rw [e1, e1, map_last (app θ) a1 m1, map_last (app θ) a2 m2]
            rcases a3 with ⟨c1, c2⟩ | ⟨c1, c2⟩
            · have := ih _ _ (by omega) c2
              refine .inl ⟨fun e => ?_, this⟩
              rw [e, gr_irrefl] at this
              cases this
            · exact .inr ⟨by rw [c1], ih _ _ (by omega) c2⟩
theorem gr_stable {W : Wts} {θ : Int → Tm} (hW : WPos W) (hθ : Grd θ) {s t : Tm} (h : gr W s t = true) : gr W (app θ s) (app θ t) = true := gr_st hW hθ s.size s t (Nat.le_refl _) h
/-! ### multisets -/
def Dom (big : Tm → Tm → Bool) (A B : List Tm) : Prop := A ≠ [] ∧ ∀ b ∈ B, ∃ a ∈ A, big a b = true
theorem Dom.perm {big : Tm → Tm → Bool} {A A' B B' : List Tm} (h : Dom big A B) (ha : A.Perm A') (hb : B.Perm B') : Dom big A' B' :=
  ⟨fun e => h.1 (by rw [e] at ha; exact ha.eq_nil), fun b q => by
    obtain ⟨a, h1, h2⟩ := h.2 b (hb.mem_iff.mpr q)
    exact ⟨a, ha.mem_iff.mp h1, h2⟩⟩
theorem Dom.cancel {W : Wts} {A B : List Tm} {e : Tm} (hg : ∀ b ∈ B, Gnd b) (h : Dom (gr W) (e :: A) (e :: B)) : Dom (gr W) A B := by
  obtain ⟨x, hx, hxe⟩ := h.2 e List.mem_cons_self
  have hx' : x ∈ A := by
    rcases List.mem_cons.mp hx with q | q
    · rw [q, gr_irrefl] at hxe; cases hxe
    · exact q
  refine ⟨fun z => (by rw [z] at hx'; cases hx'), fun b hb => ?_⟩
  obtain ⟨a, ha, hab⟩ := h.2 b (List.mem_cons_of_mem _ hb)
  rcases List.mem_cons.mp ha with q | q
  · rw [q] at hab
    exact ⟨x, hx', gr_trans (hg b hb) hxe hab⟩
  · exact ⟨a, q, hab⟩
theorem Dom.cancels {W : Wts} : ∀ {Q A B : List Tm}, (∀ b ∈ B, Gnd b) → (∀ b ∈ Q, Gnd b) → Dom (gr W) (Q ++ A) (Q ++ B) → Dom (gr W) A B
  | [], _, _, _, _, h => h
  | e :: Q, A, B, hb, hq, h => Dom.cancels (Q := Q) hb (fun b z => hq b (List.mem_cons_of_mem _ z)) (Dom.cancel (fun b z => by
      rcases List.mem_append.mp z with z | z
      · exact hq b (List.mem_cons_of_mem _ z)
      · exact hb b z) h)
theorem isMore_dom {big : Tm → Tm → Bool} {xs ys : List Tm} : isMore big xs ys = true ↔ Dom big (xs.foldl moreStep (ys, [])).2 (xs.foldl moreStep (ys, [])).1 := by
  unfold isMore Dom
  dsimp only
  rw [Bool.and_eq_true]
  refine and_congr ?_ ?_
  · rw [Bool.not_eq_true', List.isEmpty_eq_false_iff]
  · rw [List.all_eq_true]
    refine forall_congr' fun b => forall_congr' fun _ => ?_
    rw [List.any_eq_true]
theorem moreStep_none {l m : List Tm} {t : Tm} (h : t ∉ l) : moreStep (l, m) t = (l, m ++ [t]) := by
  unfold moreStep
  have : idxOf l t = none := by
    unfold idxOf
    rw [List.findIdx?_eq_none_iff]
    intro x hx
    exact decide_eq_false fun e => h (e ▸ hx)
  dsimp only
  rw [this]
theorem erase_perm : ∀ {l : List Tm} {k : Nat} {t : Tm}, l[k]? = some t → l.Perm (t :: l.eraseIdx k)
  | [], _, _, h => by simp at h
  | x :: l, 0, t, h => by simp at h; subst h; exact List.Perm.refl _
  | x :: l, k + 1, t, h => by
    simp only [List.getElem?_cons_succ] at h
    rw [List.eraseIdx_cons_succ]
    exact ((erase_perm h).cons x).trans (List.Perm.swap t x _)
theorem moreStep_some {l m : List Tm} {t : Tm} (h : t ∈ l) : ∃ l', moreStep (l, m) t = (l', m) ∧ l.Perm (t :: l') := by
  unfold moreStep
  dsimp only
  cases e : idxOf l t with
  | none =>
    unfold idxOf at e
    rw [List.findIdx?_eq_none_iff] at e
    exact absurd rfl (of_decide_eq_false (e t h))
  | some k =>
    refine ⟨_, rfl, ?_⟩
    unfold idxOf at e
    obtain ⟨h1, h2, _⟩ := List.findIdx?_eq_some_iff_getElem.mp e
    exact erase_perm (by rw [List.getElem?_eq_getElem h1, of_decide_eq_true h2])
/-- the loops above and below go side by side: what the lower takes away more, it takes from both sides -/
theorem fold_side {f : Tm → Tm} : ∀ (xs B O B' O' Q : List Tm), (B.map f).Perm (Q ++ B') → (O.map f).Perm (Q ++ O') →
    ∃ Q', (((xs.foldl moreStep (B, O)).1).map f).Perm (Q' ++ ((xs.map f).foldl moreStep (B', O')).1) ∧ (((xs.foldl moreStep (B, O)).2).map f).Perm (Q' ++ ((xs.map f).foldl moreStep (B', O')).2)
  | [], B, O, B', O', Q, h1, h2 => ⟨Q, h1, h2⟩
  | t :: xs, B, O, B', O', Q, h1, h2 => by
    rw [List.map_cons, List.foldl_cons, List.foldl_cons]
    by_cases hl : f t ∈ B'
    · obtain ⟨B2, e2, p2⟩ := moreStep_some (m := O') hl
      rw [e2]
      by_cases hu : t ∈ B
      · obtain ⟨B1, e1, p1⟩ := moreStep_some (m := O) hu
        rw [e1]
        refine fold_side xs B1 O B2 O' Q ?_ h2
        have q1 : (f t :: B1.map f).Perm (f t :: (Q ++ B2)) := ((p1.map f).symm.trans h1).trans ((p2.append_left Q).trans List.perm_middle)
        exact q1.cons_inv
      · rw [moreStep_none hu]
        refine fold_side xs B (O ++ [t]) B2 O' (Q ++ [f t]) ?_ ?_
        · refine h1.trans ((p2.append_left Q).trans ?_)
          rw [List.append_assoc]
          exact List.Perm.refl _
        · rw [List.map_append]
          refine (h2.append_right _).trans ?_
          rw [List.append_assoc, List.append_assoc]
          exact (List.perm_append_comm).append_left Q
    · rw [moreStep_none hl]
      by_cases hu : t ∈ B
      · obtain ⟨B1, e1, p1⟩ := moreStep_some (m := O) hu
        rw [e1]
        have hq : f t ∈ Q := by
          have : f t ∈ Q ++ B' := h1.mem_iff.mp (List.mem_map.mpr ⟨t, hu, rfl⟩)
          exact (List.mem_append.mp this).resolve_right hl
        have pq := List.perm_cons_erase hq
        refine fold_side xs B1 O B' (O' ++ [f t]) (Q.erase (f t)) ?_ ?_
        · have q1 : (f t :: B1.map f).Perm (f t :: (Q.erase (f t) ++ B')) := ((p1.map f).symm.trans h1).trans (pq.append_right B')
          exact q1.cons_inv
        · refine h2.trans ((pq.append_right O').trans ?_)
          rw [← List.append_assoc]
          exact List.perm_append_comm (l₁ := [f t]) (l₂ := Q.erase (f t) ++ O')
      · rw [moreStep_none hu]
        refine fold_side xs B (O ++ [t]) B' (O' ++ [f t]) Q h1 ?_
        rw [List.map_append, ← List.append_assoc]
        exact h2.append_right _
theorem fold_mem : ∀ (xs B O : List Tm), (∀ b ∈ (xs.foldl moreStep (B, O)).1, b ∈ B) ∧ ∀ b ∈ (xs.foldl moreStep (B, O)).2, b ∈ O ∨ b ∈ xs
  | [], B, O => ⟨fun b h => h, fun b h => .inl h⟩
  | t :: xs, B, O => by
    have h := fold_mem xs (moreStep (B, O) t).1 (moreStep (B, O) t).2
    rw [List.foldl_cons]
    refine ⟨fun b hb => (moreStep_ok b).1 (h.1 b hb), fun b hb => ?_⟩
    rcases h.2 b hb with q | q
    · rcases (moreStep_ok b).2 q with q | q
      · exact .inl q
      · exact .inr (q ▸ List.mem_cons_self)
    · exact .inr (List.mem_cons_of_mem _ q)
theorem isMore_stable {W : Wts} {θ : Int → Tm} (hW : WPos W) (hθ : Grd θ) {xs ys : List Tm} (h : isMore (gr W) xs ys = true) : isMore (gr W) (xs.map (app θ)) (ys.map (app θ)) = true := by
  rw [isMore_dom] at h ⊢
  have hd : Dom (gr W) ((xs.foldl moreStep (ys, [])).2.map (app θ)) ((xs.foldl moreStep (ys, [])).1.map (app θ)) := by
    refine ⟨fun e => h.1 (by simpa using e), fun b hb => ?_⟩
    obtain ⟨t, ht, rfl⟩ := List.mem_map.mp hb
    obtain ⟨a, ha, hab⟩ := h.2 t ht
    exact ⟨_, List.mem_map.mpr ⟨a, ha, rfl⟩, gr_stable hW hθ hab⟩
  obtain ⟨Q, p1, p2⟩ := fold_side (f := app θ) xs ys [] (ys.map (app θ)) [] [] (List.Perm.refl _) (List.Perm.refl _)
  have hG : ∀ b ∈ Q ++ ((xs.map (app θ)).foldl moreStep (ys.map (app θ), [])).1, Gnd b := fun b hb => by
    obtain ⟨t, _, rfl⟩ := List.mem_map.mp (p1.mem_iff.mpr hb)
    exact gnd_app hθ t
  exact Dom.cancels (fun b hb => hG b (List.mem_append_right _ hb)) (fun b hb => hG b (List.mem_append_left _ hb)) (hd.perm p2 p1)
theorem litGr_stable {W : Wts} {θ : Int → Tm} (hW : WPos W) (hθ : Grd θ) {x y : Lit} (h : litGr W x y = true) : litGr W (appLit θ x) (appLit θ y) = true := by
  have e : ∀ x : Lit, sidesOf (appLit θ x) = (sidesOf x).map (app θ) := fun x => by
    unfold sidesOf appLit
    dsimp only
    split <;> rfl
  unfold litGr at h ⊢
  rw [e, e]
  exact isMore_stable hW hθ h
/-! ### what may act below may act above -/
theorem greatest_up {W : Wts} {θ : Int → Tm} (hW : WPos W) (hθ : Grd θ) {c : Cl} {y : Lit} (h : greatest W (appCl θ c) (appLit θ y) = true) : greatest W c y = true := by
  unfold greatest at h ⊢
  rw [List.all_eq_true] at h ⊢
  intro x hx
  have := h _ (List.mem_map.mpr ⟨x, hx, rfl⟩)
  cases e : litGr W x y with
  | false => rfl
  | true => rw [litGr_stable hW hθ e] at this; cases this
theorem same_down {θ : Int → Tm} {x y : Lit} (h : same x y = true) : same (appLit θ x) (appLit θ y) = true := by
  unfold same sameSides at h ⊢
  rw [Bool.and_eq_true] at h ⊢
  refine ⟨h.1, decide_eq_true ?_⟩
  rcases of_decide_eq_true h.2 with ⟨h1, h2⟩ | ⟨h1, h2⟩
  · exact .inl ⟨congrArg (app θ) h1, congrArg (app θ) h2⟩
  · exact .inr ⟨congrArg (app θ) h1, congrArg (app θ) h2⟩
theorem alone_up {θ : Int → Tm} {c : Cl} {k : Nat} {y : Lit} (h : aloneAt (appCl θ c) k (appLit θ y) = true) : aloneAt c k y = true := by
  unfold aloneAt at h ⊢
  rw [List.all_eq_true] at h ⊢
  intro j hj
  have := h j (by unfold appCl; rw [List.length_map]; exact hj)
  unfold appCl at this
  rw [List.getElem?_map] at this
  by_cases hk : j = k
  · rw [decide_eq_true hk]; rfl
  · rw [decide_eq_false hk, Bool.false_or] at this ⊢
    cases e : c[j]? with
    | none => rfl
    | some x =>
      rw [e] at this
      have this : (!same (appLit θ x) (appLit θ y)) = true := this
      show (!same x y) = true
      cases e2 : same x y with
      | false => rfl
      | true => rw [same_down e2] at this; cases this
theorem putLit_nil (x : Lit) : putLit [] x = x := by unfold putLit; rw [put_nil, put_nil]
theorem putCl_nil (c : Cl) : putCl [] c = c := by
  unfold putCl
  exact (List.map_congr_left fun x _ => putLit_nil x).trans (List.map_id _)
theorem mayAct_up {W : Wts} {θ : Int → Tm} {τ : Sub} (hW : WPos W) (hθ : Grd θ) (hτ : Rsp θ τ) {c : Cl} {sel : Option Nat} {k : Nat} {y : Lit} (h : mayAct W (appCl θ c) sel k (appLit θ y) [] = true) : mayAct W c sel k y τ = true := by
  cases sel with
  | some j => exact h
  | none =>
    unfold mayAct at h ⊢
    dsimp only at h ⊢
    rw [putCl_nil, putLit_nil, ← rsp_cl hτ, ← rsp_lit hτ] at h
    exact greatest_up hW hθ h
theorem mayGive_up {W : Wts} {θ : Int → Tm} {τ : Sub} (hW : WPos W) (hθ : Grd θ) (hτ : Rsp θ τ) {c : Cl} {sel : Option Nat} {k : Nat} {y : Lit} (h : mayGive W (appCl θ c) sel k (appLit θ y) [] = true) : mayGive W c sel k y τ = true := by
  cases sel with
  | some j => exact h
  | none =>
    unfold mayGive at h ⊢
    dsimp only at h ⊢
    rw [putCl_nil, putLit_nil, ← rsp_cl hτ, ← rsp_lit hτ, Bool.and_eq_true, Bool.and_eq_true] at h
    rw [Bool.and_eq_true, Bool.and_eq_true]
    exact ⟨h.1, alone_up h.2.1, greatest_up hW hθ h.2.2⟩
theorem mayLead_up {W : Wts} {θ : Int → Tm} {τ : Sub} (hW : WPos W) (hθ : Grd θ) (hτ : Rsp θ τ) {y : Lit} {s : Nat} (h : mayLead W (appLit θ y) s [] = true) : mayLead W y s τ = true := by
  unfold mayLead at h ⊢
  rw [put_nil, put_nil, appLit_side, appLit_side, ← rsp_put hτ (y.side s), ← rsp_put hτ (y.side (1 - s)), Bool.and_eq_true] at h
  generalize put τ (y.side s) = a at h ⊢
  generalize put τ (y.side (1 - s)) = b at h ⊢
  rw [Bool.and_eq_true]
  refine ⟨?_, ?_⟩
  · have h1 := not_dec_t h.1
    rw [decide_eq_false fun e => h1 (by rw [e])]
    rfl
  · rcases Bool.or_eq_true _ _ |>.mp h.2 with q | q
    · cases e : gr W b a with
      | false => simp
      | true =>
        have := gr_stable hW hθ e
        rw [gr_asymm (gnd_app hθ a) q] at this
        cases this
    · cases e : gr W b a with
      | false => simp
      | true =>
        have := gr_stable hW hθ e
        rw [this] at q
        cases q
end
end G3
end

section
set_option Elab.async false
set_option linter.all false
set_option maxRecDepth 100000
set_option maxHeartbeats 1000000
/-! unification, places, matching, numbering: from the instance up -/
namespace G3
open PySem L2
noncomputable section
open scoped Classical
/-! ### unification -/
theorem app_size {θ : Int → Tm} {x : Int} : ∀ t : Tm, occ x t ≠ 0 → (θ x).size ≤ (app θ t).size := by
  refine Tm.ind (fun n h => ?_) fun s l ih h => ?_
  · rw [occ_v] at h
    split at h
    · rename_i e; rw [e, app_v]; exact Nat.le_refl _
    · exact absurd rfl h
  · have : ¬ ∀ t ∈ l, occ x t = 0 := fun q => h (occ_ap_zero.mpr q)
    simp only [Classical.not_forall] at this
    obtain ⟨t, ht, hz⟩ := this
    rw [app_ap]
    have h1 := ih t ht hz
    have h2 := size_arg (s := s) (List.mem_map.mpr ⟨t, ht, rfl⟩ : app θ t ∈ l.map (app θ))
    omega
theorem app_occ {θ : Int → Tm} {x : Int} {b : Tm} (hb : b ≠ .v x) (ho : occ x b > 0) (e : θ x = app θ b) : False := by
  cases b with
  | v n =>
    rw [occ_v] at ho
    split at ho
    · rename_i q; exact hb (by rw [q])
    · omega
  | ap s l =>
    have : ¬ ∀ t ∈ l, occ x t = 0 := fun q => by have := occ_ap_zero (s := s) |>.mpr q; omega
    simp only [Classical.not_forall] at this
    obtain ⟨t, ht, hz⟩ := this
    have h1 := app_size (θ := θ) t hz
    have h2 := size_arg (s := s) (List.mem_map.mpr ⟨t, ht, rfl⟩ : app θ t ∈ l.map (app θ))
    rw [e, app_ap] at h1
    omega
theorem rsp_one {θ : Int → Tm} {x : Int} {b : Tm} (e : θ x = app θ b) : Rsp θ [(x, b)] := fun p hp => by
  rw [List.mem_singleton] at hp
  rw [hp]
  exact e.symm
theorem putI_mem {α : Type} {l : List (Int × α)} {k : Int} {v : α} {p : Int × α} (h : p ∈ putI l k v) : p ∈ l ∨ p = (k, v) := by
  unfold putI at h
  split at h
  · obtain ⟨u, hu, e⟩ := List.mem_map.mp h
    split at e
    · rename_i ek; exact .inr (by rw [← e, ← ek])
    · exact .inl (e ▸ hu)
  · rcases List.mem_append.mp h with z | z
    · exact .inl z
    · exact .inr (by simpa using z)
theorem rsp_bind {θ : Int → Tm} {σ : Sub} {x : Int} {b : Tm} (h : Rsp θ σ) (e : θ x = app θ b) : Rsp θ (bindS σ x b) := by
  intro p hp
  unfold bindS at hp
  rcases putI_mem hp with z | z
  · obtain ⟨q, hq, rfl⟩ := List.mem_map.mp z
    show app θ (put [(x, b)] q.2) = θ q.1
    rw [rsp_put (rsp_one e)]
    exact h q hq
  · rw [z]; exact e.symm
theorem zip_eqs {θ : Int → Tm} : ∀ {l l' : List Tm}, l.map (app θ) = l'.map (app θ) → ∀ p ∈ l.zip l', app θ p.1 = app θ p.2
  | [], _, _, p, hp => by simp at hp
  | _ :: _, [], _, p, hp => by simp at hp
  | t :: l, u :: l', h, p, hp => by
    rw [List.map_cons, List.map_cons] at h
    injection h with h1 h2
    rw [List.zip_cons_cons] at hp
    rcases List.mem_cons.mp hp with e | hp
    · rw [e]; exact h1
    · exact zip_eqs h2 p hp
theorem uni_up {θ : Int → Tm} : ∀ (n : Nat) (st : List (Tm × Tm)) (σ : Sub) (r : Option Sub), uni n st σ = some r → (∀ p ∈ st, app θ p.1 = app θ p.2) → Rsp θ σ → ∃ τ, r = some τ ∧ Rsp θ τ := by
  intro n
  induction n with
  | zero =>
    intro st σ r h hs hσ
    cases st with
    | nil => rw [uni] at h; cases h; exact ⟨σ, rfl, hσ⟩
    | cons p st => rw [uni] at h; cases h
  | succ n ih =>
    intro st σ r h hs hσ
    cases st with
    | nil => rw [uni] at h; cases h; exact ⟨σ, rfl, hσ⟩
    | cons p st =>
      have hp := hs p List.mem_cons_self
      have hs' : ∀ q ∈ st, app θ q.1 = app θ q.2 := fun q hq => hs q (List.mem_cons_of_mem _ hq)
      rw [uni] at h
      by_cases he : p.1 = p.2
      · rw [if_pos he] at h
        exact ih _ _ _ h hs' hσ
      · rw [if_neg he] at h
        rcases uSwap_cases p with ⟨x, b, hsw, hor⟩ | ⟨s, l, s', l', rfl, hsw⟩
        · rw [hsw] at h
          have hxb : θ x = app θ b ∧ b ≠ .v x := by
            rcases hor with ⟨e1, e2⟩ | ⟨e1, e2⟩
            · rw [e1, e2, app_v] at hp
              exact ⟨hp, fun z => he (by rw [e1, e2, z])⟩
            · rw [e1, e2, app_v] at hp
              exact ⟨hp.symm, fun z => he (by rw [e1, e2, z])⟩
          have h : (if occ x b > 0 then some none else uni n (st.map (put1 x b)) (bindS σ x b)) = some r := h
          by_cases ho : occ x b > 0
          · exact (app_occ hxb.2 ho hxb.1).elim
          · rw [if_neg ho] at h
            refine ih _ _ _ h (fun q hq => ?_) (rsp_bind hσ hxb.1)
            obtain ⟨q', hq', rfl⟩ := List.mem_map.mp hq
            show app θ (put [(x, b)] q'.1) = app θ (put [(x, b)] q'.2)
            rw [rsp_put (rsp_one hxb.1), rsp_put (rsp_one hxb.1)]
            exact hs' q' hq'
        · rw [hsw] at h
          have h : (if s ≠ s' ∨ l.length ≠ l'.length then some none else uni n ((l.zip l').reverse ++ st) σ) = some r := h
          have hp : app θ (.ap s l) = app θ (.ap s' l') := hp
          rw [app_ap, app_ap] at hp
          injection hp with h1 h2
          have hl := congrArg List.length h2
          rw [List.length_map, List.length_map] at hl
          rw [if_neg (by rintro (z | z); exact z h1; exact z hl)] at h
          refine ih _ _ _ h (fun q hq => ?_) hσ
          rcases List.mem_append.mp hq with hq | hq
          · exact zip_eqs h2 q (List.mem_reverse.mp hq)
          · exact hs' q hq
theorem mgu_up {θ : Int → Tm} {g : Prop} {a b : Tm} (ha : Tok 4 a) (hb : Tok 4 b) (ma : Md g a) (mb : Md g b) (e : app θ a = app θ b) : ∃ τ, mgu a b = some τ ∧ Rsp θ τ := by
  obtain ⟨m, hm⟩ := mgu_run ha hb ma mb
  exact uni_up m _ _ _ hm (fun p hp => by rw [List.mem_singleton] at hp; rw [hp]; exact e) fun p hp => by cases hp
/-- of ground terms: only equal ones, and nothing is bound -/
theorem zip_eq : ∀ {l l' : List Tm}, l.length = l'.length → (∀ p ∈ l.zip l', p.1 = p.2) → l = l'
  | [], [], _, _ => rfl
  | [], _ :: _, h, _ => by simp at h
  | _ :: _, [], h, _ => by simp at h
  | t :: l, u :: l', h, hp => by
    rw [List.zip_cons_cons] at hp
    have h1 : t = u := hp (t, u) List.mem_cons_self
    rw [h1, zip_eq (l := l) (l' := l') (by simpa using h) fun p q => hp p (List.mem_cons_of_mem _ q)]
theorem uni_gnd : ∀ (n : Nat) (st : List (Tm × Tm)) (σ τ : Sub), uni n st σ = some (some τ) → (∀ p ∈ st, Gnd p.1 ∧ Gnd p.2) → τ = σ ∧ ∀ p ∈ st, p.1 = p.2 := by
  intro n
  induction n with
  | zero =>
    intro st σ τ h hs
    cases st with
    | nil => rw [uni] at h; cases h; exact ⟨rfl, fun p hp => by cases hp⟩
    | cons p st => rw [uni] at h; cases h
  | succ n ih =>
    intro st σ τ h hs
    cases st with
    | nil => rw [uni] at h; cases h; exact ⟨rfl, fun p hp => by cases hp⟩
    | cons p st =>
      have hp := hs p List.mem_cons_self
      have hs' : ∀ q ∈ st, Gnd q.1 ∧ Gnd q.2 := fun q hq => hs q (List.mem_cons_of_mem _ hq)
      rw [uni] at h
      by_cases he : p.1 = p.2
      · rw [if_pos he] at h
        have := ih _ _ _ h hs'
        refine ⟨this.1, fun q hq => ?_⟩
        rcases List.mem_cons.mp hq with e | hq
        · rw [e]; exact he
        · exact this.2 q hq
      · rw [if_neg he] at h
        rcases uSwap_cases p with ⟨x, b, hsw, hor⟩ | ⟨s, l, s', l', rfl, hsw⟩
        · exfalso
          have hxx : occ x (.v x) ≠ 0 := by rw [occ_v, if_pos rfl]; exact Nat.one_ne_zero
          rcases hor with ⟨e1, e2⟩ | ⟨e1, e2⟩
          · exact hxx (e1 ▸ hp.1 x)
          · exact hxx (e1 ▸ hp.2 x)
        · rw [hsw] at h
          have h : (if s ≠ s' ∨ l.length ≠ l'.length then some none else uni n ((l.zip l').reverse ++ st) σ) = some (some τ) := h
          by_cases hc : s ≠ s' ∨ l.length ≠ l'.length
          · rw [if_pos hc] at h; cases h
          · rw [if_neg hc] at h
            have hc1 : s = s' := Classical.not_not.mp fun z => hc (.inl z)
            have hc2 : l.length = l'.length := Classical.not_not.mp fun z => hc (.inr z)
            have := ih _ _ _ h fun q hq => by
              rcases List.mem_append.mp hq with hq | hq
              · have := List.of_mem_zip (List.mem_reverse.mp hq)
                exact ⟨gnd_ap.mp hp.1 _ this.1, gnd_ap.mp hp.2 _ this.2⟩
              · exact hs' q hq
            exfalso
            apply he
            show Tm.ap s l = .ap s' l'
            rw [hc1, zip_eq hc2 fun q hq => this.2 q (List.mem_append_left _ (List.mem_reverse.mpr hq))]
theorem mgu_gnd {a b : Tm} {τ : Sub} (ha : Gnd a) (hb : Gnd b) (h : mgu a b = some τ) : a = b ∧ τ = [] := by
  unfold mgu at h
  split at h
  · rename_i hx
    have := hx.choose_spec.choose_spec
    rw [h] at this
    obtain ⟨h1, h2⟩ := uni_gnd _ _ _ _ this fun p hp => by rw [List.mem_singleton] at hp; rw [hp]; exact ⟨ha, hb⟩
    exact ⟨h2 (a, b) (List.mem_singleton.mpr rfl), h1⟩
  · cases h
/-! ### places -/
theorem atP_app {θ : Int → Tm} : ∀ (p : List Nat) (t u : Tm), atP t p = some u → atP (app θ t) p = some (app θ u)
  | [], t, u, h => by rw [atP_nil] at h ⊢; cases h; rfl
  | k :: p, .v n, u, h => by rw [atP] at h; cases h
  | k :: p, .ap s l, u, h => by
    rw [app_ap, atP, List.getElem?_map]
    rw [atP] at h
    cases e : l[k]? with
    | none => rw [e] at h; cases h
    | some w => rw [e] at h; exact atP_app p w u h
theorem putIn_app {θ : Int → Tm} {new : Tm} : ∀ (p : List Nat) (t u : Tm), atP t p = some u → putIn (app θ t) p (app θ new) = app θ (putIn t p new)
  | [], t, u, h => by cases t <;> simp [putIn]
  | k :: p, .v n, u, h => by rw [atP] at h; cases h
  | k :: p, .ap s l, u, h => by
    rw [atP] at h
    cases e : l[k]? with
    | none => rw [e] at h; cases h
    | some w =>
      rw [e] at h
      have ih := putIn_app (θ := θ) (new := new) p w u h
      rw [app_ap, putIn, putIn, List.getElem?_map, e, app_ap, List.map_set]
      show Tm.ap s ((l.map (app θ)).set k (putIn (app θ w) p (app θ new))) = _
      rw [ih]
theorem putAt_app {θ : Int → Tm} {new t u : Tm} {p : List Nat} (h : atP t p = some u) : putAt (app θ t) p (app θ new) = app θ (putAt t p new) := by
  unfold putAt
  rw [h, atP_app p t u h, if_neg (by simp), if_neg (by simp)]
  exact putIn_app p t u h
/-! ### matching: if there is an instance, it is found -/
def Agr (θ : Int → Tm) (σ : Sub) : Prop := ∀ p ∈ σ, p.2 = θ p.1
theorem matL_up {θ : Int → Tm} : ∀ (l : List Tm) (σ : Sub), (∀ p ∈ l, ∀ σ, Agr θ σ → ∃ σ', mat p (app θ p) σ = some σ' ∧ Agr θ σ') → Agr θ σ → ∃ σ', matL l (l.map (app θ)) σ = some σ' ∧ Agr θ σ'
  | [], σ, _, h => ⟨σ, by rw [List.map_nil, matL], h⟩
  | p :: l, σ, hp, h => by
    obtain ⟨σ1, e1, h1⟩ := hp p List.mem_cons_self σ h
    obtain ⟨σ2, e2, h2⟩ := matL_up l σ1 (fun q hq => hp q (List.mem_cons_of_mem _ hq)) h1
    exact ⟨σ2, by rw [List.map_cons, matL, e1]; exact e2, h2⟩
theorem mat_up {θ : Int → Tm} : ∀ p : Tm, ∀ σ, Agr θ σ → ∃ σ', mat p (app θ p) σ = some σ' ∧ Agr θ σ' := by
  refine Tm.ind (fun n σ h => ?_) fun s l ih σ h => ?_
  · rw [app_v, mat]
    cases e : look σ n with
    | none =>
      refine ⟨_, rfl, fun p hp => ?_⟩
      rcases List.mem_append.mp hp with hp | hp
      · exact h p hp
      · rw [List.mem_singleton] at hp; rw [hp]
    | some u =>
      have : u = θ n := h _ (look_memS e)
      exact ⟨σ, by show (if u = θ n then some σ else none) = _; rw [if_pos this], h⟩
  · rw [app_ap, mat, if_pos ⟨rfl, (List.length_map _).symm⟩]
    exact matL_up l σ ih h
theorem insL_up {θ : Int → Tm} : ∀ (c : Cl) (σ : Sub), Agr θ σ → ∃ σ', insL c (appCl θ c) σ = some σ' ∧ Agr θ σ'
  | [], σ, h => ⟨σ, rfl, h⟩
  | x :: c, σ, h => by
    obtain ⟨σ1, e1, h1⟩ := mat_up (θ := θ) x.l σ h
    obtain ⟨σ2, e2, h2⟩ := mat_up (θ := θ) x.r σ1 h1
    obtain ⟨σ3, e3, h3⟩ := insL_up c σ2 h2
    refine ⟨σ3, ?_, h3⟩
    have : insLit x (appLit θ x) σ = some σ2 := by
      unfold insLit appLit
      dsimp only
      rw [if_pos rfl, e1]
      exact e2
    show ((insLit x (appLit θ x) σ).bind fun τ => insL c (appCl θ c) τ) = _
    rw [this]
    exact e3
theorem isInst_up {θ : Int → Tm} (c : Cl) : isInst c (appCl θ c) = true := by
  obtain ⟨σ, e, _⟩ := insL_up (θ := θ) c [] fun p hp => by cases hp
  unfold isInst
  rw [e]; rfl
/-! ### numbering -/
theorem map_mapI {α β γ : Type} (f : Nat → α → β) (g : β → γ) (l : List α) : (l.mapIdx f).map g = l.mapIdx fun i x => g (f i x) := by
  apply List.ext_getElem?
  intro i
  simp only [List.getElem?_map, List.getElem?_mapIdx]
  cases l[i]? <;> rfl
theorem mapIdx_id {α : Type} (l : List α) : (l.mapIdx fun _ x => x) = l := by
  apply List.ext_getElem?
  intro i
  rw [List.getElem?_mapIdx]
  cases l[i]? <;> rfl
theorem mem_clVars {c : Cl} {z : Int} : z ∈ clVars c ↔ ∃ x ∈ c, occ z x.l ≠ 0 ∨ occ z x.r ≠ 0 := by
  rw [clVars_eq, clvs_mem]
  constructor
  · rintro (h | h)
    · cases h
    · exact h
  · exact .inr
theorem numS_inst {θ : Int → Tm} (cl : Cl) (A B : Sub) : ∃ η : Int → Tm, appCl η (putCl (numS cl A B) cl) = appCl θ cl := by
  refine ⟨fun k => ((numO cl A B)[k.toNat]?).elim (.v 0) θ, ?_⟩
  have hv : ∀ x ∈ clVars cl, app (fun k => ((numO cl A B)[k.toNat]?).elim (.v 0) θ) (put (numS cl A B) (.v x)) = θ x := fun x hx => by
    have hm : x ∈ numO cl A B := by
      unfold numO
      exact mem_collS.mpr (.inl (mem_collS.mpr (.inl hx)))
    obtain ⟨i, hi, e⟩ := List.mem_iff_getElem.mp hm
    rw [put_v]
    cases hl : look (numS cl A B) x with
    | none =>
      exfalso
      have hk : (numO cl A B)[i]? = some x := by rw [List.getElem?_eq_getElem hi, e]
      unfold look at hl
      have nd : ((numS cl A B).map (·.1)).Nodup := by
        have : (numS cl A B).map (·.1) = numO cl A B := by
          unfold numS
          rw [map_mapI]
          exact mapIdx_id _
        rw [this]
        exact nodup_collS (nodup_collS (clVars_nodup cl))
      have h2 : (numS cl A B)[i]? = some (x, .v (i : Nat)) := by
        unfold numS
        rw [List.getElem?_mapIdx, hk]; rfl
      rw [getI_at nd h2] at hl
      cases hl
    | some u =>
      have := look_memS hl
      unfold numS at this
      obtain ⟨j, hj⟩ := List.mem_iff_getElem?.mp this
      rw [List.getElem?_mapIdx] at hj
      cases hk : (numO cl A B)[j]? with
      | none => rw [hk] at hj; cases hj
      | some y =>
        rw [hk] at hj
        simp only [Option.map_some, Option.some.injEq, Prod.mk.injEq] at hj
        obtain ⟨rfl, rfl⟩ := hj
        show app _ (Tm.v (j : Nat)) = θ y
        rw [app_v]
        show ((numO cl A B)[((j : Nat) : Int).toNat]?).elim (.v 0) θ = θ y
        rw [Int.toNat_natCast, hk]
        rfl
  have ht : ∀ t : Tm, (∀ x, occ x t ≠ 0 → x ∈ clVars cl) → app (fun k => ((numO cl A B)[k.toNat]?).elim (.v 0) θ) (put (numS cl A B) t) = app θ t := by
    refine Tm.ind (fun n h => ?_) fun s l ih h => ?_
    · rw [app_v]; exact hv n (h n (by rw [occ_v, if_pos rfl]; exact Nat.one_ne_zero))
    · rw [put_ap, app_ap, app_ap, List.map_map]
      congr 1
      exact List.map_congr_left fun t ht => ih t ht fun x hx => h x fun z => hx (occ_ap_zero.mp z t ht)
  unfold appCl putCl
  rw [List.map_map]
  refine List.map_congr_left fun x hx => ?_
  show appLit _ (putLit _ x) = appLit θ x
  unfold appLit putLit
  dsimp only
  rw [ht x.l fun z hz => mem_clVars.mpr ⟨x, hx, .inl hz⟩, ht x.r fun z hz => mem_clVars.mpr ⟨x, hx, .inr hz⟩]
def Gcl (c : Cl) : Prop := ∀ x ∈ c, Gnd x.l ∧ Gnd x.r
theorem gcl_vars {c : Cl} (h : Gcl c) : clVars c = [] := by
  cases e : clVars c with
  | nil => rfl
  | cons z r =>
    exfalso
    obtain ⟨x, hx, hz⟩ := mem_clVars.mp (e ▸ List.mem_cons_self : z ∈ clVars c)
    rcases hz with hz | hz
    · exact hz ((h x hx).1 z)
    · exact hz ((h x hx).2 z)
theorem appCl_gcl {θ : Int → Tm} {c : Cl} (h : Gcl c) : appCl θ c = c := by
  unfold appCl
  refine (List.map_congr_left fun x hx => ?_).trans (List.map_id _)
  show appLit θ x = x
  unfold appLit
  rw [app_gnd (h x hx).1, app_gnd (h x hx).2]
theorem gcl_app {θ : Int → Tm} (hθ : Grd θ) (c : Cl) : Gcl (appCl θ c) := fun x hx => by
  obtain ⟨y, _, rfl⟩ := List.mem_map.mp hx
  exact ⟨gnd_app hθ _, gnd_app hθ _⟩
theorem put_gnd {τ : Sub} {t : Tm} (h : Gnd t) : put τ t = t := by rw [put_app, app_gnd h]
theorem putCl_gcl {τ : Sub} {c : Cl} (h : Gcl c) : putCl τ c = c := by
  unfold putCl
  refine (List.map_congr_left fun x hx => ?_).trans (List.map_id _)
  show putLit τ x = x
  unfold putLit
  rw [put_gnd (h x hx).1, put_gnd (h x hx).2]
/-- the conclusion above, renumbered, has the conclusion below as an instance -/
theorem conc_inst {θ : Int → Tm} {τ : Sub} (hτ : Rsp θ τ) (cl : Cl) (A B : Sub) : isInst (putCl (numS (putCl τ cl) A B) (putCl τ cl)) (appCl θ cl) = true := by
  obtain ⟨η, e⟩ := numS_inst (θ := θ) (putCl τ cl) A B
  rw [← rsp_cl hτ cl, ← e]
  exact isInst_up _
end
end G3
end

section
set_option Elab.async false
set_option linter.all false
set_option maxRecDepth 100000
set_option maxHeartbeats 1000000
/-! lifting: each conclusion below is an instance of one above -/
namespace G3
open PySem L2
noncomputable section
open scoped Classical
theorem map_eraseI {α β : Type} (f : α → β) : ∀ (l : List α) (k : Nat), (l.map f).eraseIdx k = (l.eraseIdx k).map f
  | [], _ => rfl
  | x :: l, 0 => rfl
  | x :: l, k + 1 => by
    rw [List.map_cons, List.eraseIdx_cons_succ, List.eraseIdx_cons_succ, List.map_cons, map_eraseI f l k]
theorem mapI_map {α β γ : Type} (f : α → β) (g : Nat → β → γ) (l : List α) : (l.map f).mapIdx g = l.mapIdx fun i x => g i (f x) := by
  apply List.ext_getElem?
  intro i
  simp only [List.getElem?_map, List.getElem?_mapIdx]
  cases l[i]? <;> rfl
theorem cvL_in {U : List (Kd × Cl)} {q r : Kd × Cl} (h : r ∈ U) (e : r.1 = q.1) (hi : isInst r.2 q.2 = true) : cvL U q = true := by
  unfold cvL
  exact List.any_eq_true.mpr ⟨r, List.mem_filter.mpr ⟨h, decide_eq_true e⟩, hi⟩
theorem app_lit_at {θ : Int → Tm} {c : Cl} {k : Nat} {y : Lit} (h : (appCl θ c)[k]? = some y) : ∃ x, c[k]? = some x ∧ y = appLit θ x := by
  unfold appCl at h
  rw [List.getElem?_map] at h
  cases e : c[k]? with
  | none => rw [e] at h; cases h
  | some x => rw [e] at h; cases h; exact ⟨x, rfl, rfl⟩
theorem atom_app {θ : Int → Tm} {t : Tm} (h : t.isV = false) : (app θ t).isAtom = t.isAtom := by
  cases t with
  | v n => cases h
  | ap s l => rw [app_ap]; rfl
theorem at_atom {t : Tm} (h : t.isAt = false) : t.isAtom = false := by
  cases t with
  | v n => rfl
  | ap s l =>
    have h : (!decide (s.a = 2) && !decide (s.a = 3)) = false := h
    show decide _ = false
    refine decide_eq_false fun z => ?_
    have : (!decide (s.a = 2) && !decide (s.a = 3)) = true := by
      rw [decide_eq_false (by omega), decide_eq_false (by omega)]; rfl
    rw [this] at h; cases h
theorem conc_gnd {cl : Cl} {A B : Sub} (h : Gcl cl) : putCl (numS (putCl [] cl) A B) (putCl [] cl) = cl := by rw [putCl_nil, putCl_gcl h]
section
variable {W : Wts} {θ : Int → Tm} (hW : WPos W) (hθ : Grd θ)
include hW hθ
theorem res_lift {c : Cl} {sel : Option Nat} (hc : Cg False c) : ∀ q ∈ resK W (appCl θ c) sel, cvL (resK W c sel) q = true := by
  intro q hq
  unfold resK at hq
  rw [mapIdx_fm] at hq
  obtain ⟨⟨k, y'⟩, h1, h2⟩ := List.mem_filterMap.mp hq
  obtain ⟨i, hi, e⟩ := List.mem_mapIdx.mp h1
  injection e with e1 e2
  subst e1 e2
  have hk : (appCl θ c)[i]? = some (appCl θ c)[i] := by simp [hi]
  generalize (appCl θ c)[i] = y' at hk h2
  obtain ⟨y, hy, rfl⟩ := app_lit_at hk
  dsimp only at h2
  split at h2
  · cases h2
  · rename_i hp
    have hp : ¬ y.p = true := hp
    obtain ⟨x, hx, rfl⟩ := Option.map_eq_some_iff.mp h2
    unfold resAt at hx
    cases hmg : mgu (appLit θ y).l (appLit θ y).r with
    | none => rw [hmg] at hx; cases hx
    | some τ' =>
      rw [hmg] at hx
      dsimp only at hx
      obtain ⟨he, rfl⟩ := mgu_gnd (gnd_app hθ y.l) (gnd_app hθ y.r) hmg
      split at hx
      · rename_i hact
        obtain rfl := Option.some.inj hx
        have ho := hc.ok y (List.mem_of_getElem? hy)
        have hm := hc.md y (List.mem_of_getElem? hy)
        obtain ⟨τ, e1, hτ⟩ := mgu_up ho.1 ho.2 hm.1 hm.2 he
        have hup := mayAct_up hW hθ hτ hact
        have hee : (appCl θ c).eraseIdx i = appCl θ (c.eraseIdx i) := by unfold appCl; rw [map_eraseI]
        refine cvL_in (r := (.res i, (mkConc "resolution" (putCl τ (c.eraseIdx i)) (.int i) .non .non .non .non (becS τ 0 c) []).cl)) ?_ rfl ?_
        · unfold resK
          rw [mapIdx_fm]
          refine List.mem_filterMap.mpr ⟨(i, y), List.mem_mapIdx.mpr ⟨i, (List.getElem?_eq_some_iff.mp hy).1, ?_⟩, ?_⟩
          · rw [(List.getElem?_eq_some_iff.mp hy).2]
          · dsimp only
            rw [if_neg hp]
            unfold resAt
            rw [e1]
            dsimp only
            rw [if_pos hup]
            rfl
        · show isInst _ (putCl (numS (putCl [] ((appCl θ c).eraseIdx i)) _ _) (putCl [] ((appCl θ c).eraseIdx i))) = true
          rw [hee, conc_gnd (gcl_app hθ _)]
          exact conc_inst hτ _ _ _
      · cases hx
theorem posL_app {c : Cl} : posL (appCl θ c) = posL c := by
  unfold posL appCl
  rw [mapI_map]
  have : ∀ (l : List Lit) (g : Nat → Lit → Nat × Lit), (∀ i x, (g i x).2.p = x.p ∧ (g i x).1 = i) → ((l.mapIdx g).filter fun q => q.2.p).map (fun q => q.1) = ((l.mapIdx fun k x => (k, x)).filter fun q => q.2.p).map fun q => q.1 := by
    intro l g hg
    have e : ((l.mapIdx g).filter fun q => q.2.p).map (fun q => q.1) = ((l.mapIdx fun k x => (k, x.p)).filter fun q => q.2).map fun q => q.1 := by
      have : (l.mapIdx fun k x => (k, x.p)) = (l.mapIdx g).map fun q => (q.1, q.2.p) := by
        rw [map_mapI]
        congr 1
        funext i x
        show (i, x.p) = ((g i x).1, (g i x).2.p)
        rw [(hg i x).1, (hg i x).2]
      rw [this, List.filter_map, List.map_map]
      rfl
    have e2 : ((l.mapIdx fun k x => (k, x)).filter fun q => q.2.p).map (fun q => q.1) = ((l.mapIdx fun k x => (k, x.p)).filter fun q => q.2).map fun q => q.1 := by
      have : (l.mapIdx fun k x => (k, x.p)) = (l.mapIdx fun k x => (k, x)).map fun q => (q.1, q.2.p) := by
        rw [map_mapI]
      rw [this, List.filter_map, List.map_map]
      rfl
    rw [e, e2]
  exact this c _ fun i x => ⟨rfl, rfl⟩
theorem fac_lift {c : Cl} {sel : Option Nat} (hc : Cg False c) (hk : ∀ x ∈ c, Kok x.l ∧ Kok x.r) : ∀ q ∈ facK W (appCl θ c) sel, kindsB c q.1 = true → cvL (facK W c sel) q = true := by
  intro q hq hkb
  cases sel with
  | some _ => cases hq
  | none =>
    have hq : q ∈ (pairsL (appCl θ c)).filterMap fun q => (facQ W (appCl θ c) q).map fun x => (Kd.fac q.1 q.2.1 q.2.2.1 q.2.2.2, x.cl) := hq
    obtain ⟨⟨k, s, j, t⟩, h1, h2⟩ := List.mem_filterMap.mp hq
    have h1' : (k, s, j, t) ∈ pairsL c := by
      unfold pairsL at h1 ⊢
      rw [posL_app hW hθ] at h1
      exact h1
    obtain ⟨x, hx, rfl⟩ := Option.map_eq_some_iff.mp h2
    obtain ⟨y', z', hy', hz', _⟩ := quad_in h1
    have hy' : (appCl θ c)[k]? = some y' := hy'
    have hz' : (appCl θ c)[j]? = some z' := hz'
    obtain ⟨y, hy, rfl⟩ := app_lit_at hy'
    obtain ⟨z, hz, rfl⟩ := app_lit_at hz'
    unfold facQ at hx
    dsimp only at hx
    rw [hy', hz'] at hx
    have hx : facAt W (appCl θ c) k s j t (appLit θ y) (appLit θ z) = some x := hx
    unfold facAt at hx
    split at hx
    · cases hx
    · cases hmg : mgu ((appLit θ y).side s) ((appLit θ z).side t) with
      | none => rw [hmg] at hx; cases hx
      | some τ' =>
        rw [hmg] at hx
        dsimp only at hx
        rw [appLit_side, appLit_side] at hmg
        obtain ⟨he, rfl⟩ := mgu_gnd (gnd_app hθ _) (gnd_app hθ _) hmg
        split at hx
        · rename_i hact
          obtain rfl := Option.some.inj hx
          have hyo := cg_side (s := s) hc hy
          have hzo := cg_side (s := t) hc hz
          obtain ⟨τ, e1, hτ⟩ := mgu_up hyo.1 hzo.1 hyo.2 hzo.2 he
          have hup1 := mayAct_up hW hθ hτ hact.1
          have hup2 := mayLead_up hW hθ hτ hact.2
          have hat : (y.side s).isAtom = (z.side t).isAtom := by
            have hkk : ∀ (w : Lit) (i : Nat), w ∈ c → Kok (w.side i) := fun w i hw => by
              unfold Lit.side
              split
              · exact (hk w hw).1
              · exact (hk w hw).2
            rw [← isAt_eq (hkk y s (List.mem_of_getElem? hy)), ← isAt_eq (hkk z t (List.mem_of_getElem? hz))]
            have := of_decide_eq_true hkb
            rw [hy, hz] at this
            exact Option.some.inj this
          have hee : (appCl θ c).set k ⟨false, (appLit θ y).side (1 - s), (appLit θ z).side (1 - t)⟩ = appCl θ (c.set k ⟨false, y.side (1 - s), z.side (1 - t)⟩) := by
            unfold appCl
            rw [List.map_set, appLit_side, appLit_side]
            rfl
          refine cvL_in (r := (.fac k s j t, (mkConc "factoring" (putCl τ (c.set k ⟨false, y.side (1 - s), z.side (1 - t)⟩)) (.int k) (.int s) .non (.int j) (.int t) (becS τ 0 c) []).cl)) ?_ rfl ?_
          · show _ ∈ (pairsL c).filterMap fun q => (facQ W c q).map fun x => (Kd.fac q.1 q.2.1 q.2.2.1 q.2.2.2, x.cl)
            refine List.mem_filterMap.mpr ⟨(k, s, j, t), h1', ?_⟩
            unfold facQ
            dsimp only
            rw [hy, hz]
            show (facAt W c k s j t y z).map _ = _
            unfold facAt
            rw [if_neg (fun z => z hat), e1]
            dsimp only
            rw [if_pos ⟨hup1, hup2⟩]
            rfl
          · show isInst _ (putCl (numS (putCl [] ((appCl θ c).set k ⟨false, (appLit θ y).side (1 - s), (appLit θ z).side (1 - t)⟩)) _ _) (putCl [] ((appCl θ c).set k ⟨false, (appLit θ y).side (1 - s), (appLit θ z).side (1 - t)⟩))) = true
            rw [hee, conc_gnd (gcl_app hθ _)]
            exact conc_inst hτ _ _ _
        · cases hx
end
/-- which lower superpositions are asked -/
def keptB (d e : Cl) : Kd → Bool
  | .sup _ _ _ j t => ((d[j]?).map fun x => (x.side t).isV) != some true || ((e[j]?).map fun x => (x.side t).isAt) != some true
  | _ => true
theorem shift_zero : ∀ t : Tm, shift 0 t = t := by
  refine Tm.ind (fun n => by rw [shift, Int.add_zero]) fun s l ih => ?_
  rw [shift_ap]
  congr 1
  exact (List.map_congr_left fun t ht => ih t ht).trans (List.map_id _)
theorem shiftCl_zero (c : Cl) : shiftCl 0 c = c := by
  unfold shiftCl
  refine (List.map_congr_left fun x _ => ?_).trans (List.map_id _)
  show shiftLit 0 x = x
  unfold shiftLit
  rw [shift_zero, shift_zero]
theorem amt_gcl {c : Cl} (h : Gcl c) : amt c = 0 := by
  unfold amt
  rw [gcl_vars h]
  rfl
theorem app_with {θ : Int → Tm} (y : Lit) (s : Nat) (t : Tm) : appLit θ (y.with s t) = (appLit θ y).with s (app θ t) := by
  unfold Lit.with
  split <;> rfl
section
variable {W : Wts} {θ : Int → Tm} (hW : WPos W) (hθ : Grd θ)
include hW hθ
theorem sup_lift {c d e : Cl} {sc sd : Option Nat} (hc : Cg False c) (hd : Cg False (shiftCl (amt c) d)) (he : appCl θ (shiftCl (amt c) d) = e) :
    ∀ q ∈ supK W (appCl θ c) sc e sd, keptB d e q.1 = true → aboveB c q.1 = true → cvL (supK W c sc d sd) q = true := by
  intro q hq hkept habove
  have ge : Gcl e := he ▸ gcl_app hθ _
  unfold supK at hq
  rw [amt_gcl (gcl_app hθ c), shiftCl_zero] at hq
  obtain ⟨⟨k, s, p, tm'⟩, h1, h2⟩ := List.mem_flatMap.mp hq
  obtain ⟨⟨j, t, lf'⟩, h3, h4⟩ := List.mem_filterMap.mp h2
  obtain ⟨y', hk, hs, hat', hv'⟩ := mem_spots.mp h1
  obtain ⟨z', hj, hzp', ht, hlf'⟩ := mem_leads.mp h3
  have hk : (appCl θ c)[k]? = some y' := hk
  have hs : s ≤ 1 := hs
  have hat' : atP (y'.side s) p = some tm' := hat'
  have hj : e[j]? = some z' := hj
  have hzp' : z'.p = true := hzp'
  have ht : t ≤ 1 := ht
  have hlf' : z'.side t = lf' := hlf'
  obtain ⟨x, hx, rfl⟩ := Option.map_eq_some_iff.mp h4
  unfold supSpot at hx
  rw [amt_gcl (gcl_app hθ c), shiftCl_zero] at hx
  dsimp only at hx
  rw [hk, hj] at hx
  have hx : supAt W (appCl θ c) sc e sd k s p tm' j t lf' y' z' = some x := hx
  obtain ⟨y, hy, rfl⟩ := app_lit_at hk
  have hj2 := hj
  rw [← he] at hj2
  obtain ⟨z, hz, rfl⟩ := app_lit_at hj2
  -- the place above
  have habove : ((c[k]?).bind fun x => atP (x.side s) p).any (fun t => !t.isV) = true := habove
  rw [hy] at habove
  have habove : (atP (y.side s) p).any (fun t => !t.isV) = true := habove
  obtain ⟨tm, hat, hv⟩ : ∃ tm, atP (y.side s) p = some tm ∧ tm.isV = false := by
    cases h : atP (y.side s) p with
    | none => rw [h] at habove; cases habove
    | some tm =>
      rw [h] at habove
      refine ⟨tm, rfl, ?_⟩
      have : (!tm.isV) = true := habove
      simpa using this
  have htm : tm' = app θ tm := by
    rw [appLit_side, atP_app p _ _ hat] at hat'
    exact (Option.some.inj hat').symm
  subst htm
  rw [appLit_side] at hlf'
  subst hlf'
  unfold supAt at hx
  split at hx
  · cases hx
  · rename_i hatom
    have hatom := Classical.not_not.mp hatom
    cases hmg : mgu (app θ tm) (app θ (z.side t)) with
    | none => rw [hmg] at hx; cases hx
    | some τ' =>
      rw [hmg] at hx
      dsimp only at hx
      obtain ⟨heq, rfl⟩ := mgu_gnd (gnd_app hθ _) (gnd_app hθ _) hmg
      split at hx
      · rename_i hok
        obtain rfl := Option.some.inj hx
        have hys := cg_side (s := s) hc hy
        have hzs := cg_side (s := t) hd hz
        have hsub := atP_subs p _ _ hat
        obtain ⟨τ, e1, hτ⟩ := mgu_up (tok_sub hys.1 hsub) hzs.1 (md_sub hys.2 hsub) hzs.2 heq
        -- kinds
        have hkind : tm.isAtom = (z.side t).isAtom := by
          rw [atom_app hv] at hatom
          cases hzv : (z.side t).isV with
          | false => rw [atom_app hzv] at hatom; exact hatom
          | true =>
            have h0 : (z.side t).isAtom = false := by
              cases h : z.side t with
              | v n => rfl
              | ap s l => rw [h] at hzv; cases hzv
            obtain ⟨zd, hzd, ezd⟩ : ∃ zd, d[j]? = some zd ∧ z = shiftLit (amt c) zd := by
              unfold shiftCl at hz
              rw [List.getElem?_map] at hz
              cases h : d[j]? with
              | none => rw [h] at hz; cases hz
              | some w => rw [h] at hz; cases hz; exact ⟨w, rfl, rfl⟩
            have hzdv : (zd.side t).isV = true := by
              have : z.side t = shift (amt c) (zd.side t) := by
                rw [ezd]
                unfold Lit.side
                split <;> rfl
              rw [this] at hzv
              cases h : zd.side t with
              | v n => rfl
              | ap s l => rw [h, shift_ap] at hzv; cases hzv
            have hkept : (((d[j]?).map fun x => (x.side t).isV) != some true || ((e[j]?).map fun x => (x.side t).isAt) != some true) = true := hkept
            rw [hzd, hj] at hkept
            simp only [Option.map_some, hzdv] at hkept
            have hna : (app θ (z.side t)).isAt = false := by
              rw [appLit_side] at hkept
              cases h : (app θ (z.side t)).isAt with
              | false => rfl
              | true => rw [h] at hkept; cases hkept
            rw [h0, hatom]
            exact at_atom hna
        -- what is allowed
        rw [amt_gcl (gcl_app hθ c), shiftCl_zero] at hok
        unfold supOk at hok
        rw [Bool.and_eq_true, Bool.and_eq_true, Bool.and_eq_true, ← he] at hok
        obtain ⟨o1, o2, o3, o4⟩ := hok
        have hup : supOk W c sc (shiftCl (amt c) d) sd k s j t y z τ = true := by
          unfold supOk
          rw [Bool.and_eq_true, Bool.and_eq_true, Bool.and_eq_true]
          exact ⟨mayAct_up hW hθ hτ o1, mayLead_up hW hθ hτ o2, mayGive_up hW hθ hτ o3, mayLead_up hW hθ hτ o4⟩
        have hee : supCl (appCl θ c) e k s p j t (appLit θ y) (appLit θ z) = appCl θ (supCl c (shiftCl (amt c) d) k s p j t y z) := by
          unfold supCl supLit
          rw [← he, appLit_side, appLit_side, putAt_app hat, ← app_with]
          unfold appCl
          rw [List.map_append, List.map_set, map_eraseI]
        refine cvL_in (r := (.sup k s p j t, (mkConc "superposition" (putCl τ (supCl c (shiftCl (amt c) d) k s p j t y z)) (.int k) (.int s) (pcD p) (.int j) (.int t) (becS τ 0 c) (becS τ (amt c) d)).cl)) ?_ rfl ?_
        · unfold supK
          refine List.mem_flatMap.mpr ⟨(k, s, p, tm), mem_spots.mpr ⟨y, hy, hs, hat, hv⟩, List.mem_filterMap.mpr ⟨(j, t, z.side t), mem_leads.mpr ⟨z, hz, hzp', ht, rfl⟩, ?_⟩⟩
          unfold supSpot
          dsimp only
          rw [hy, hz]
          show (supAt W c sc d sd k s p tm j t (z.side t) y z).map _ = _
          unfold supAt
          rw [if_neg (fun z => z hkind), e1]
          dsimp only
          rw [if_pos hup]
          rfl
        · rw [amt_gcl (gcl_app hθ c), shiftCl_zero]
          show isInst _ (putCl (numS (putCl [] (supCl (appCl θ c) e k s p j t (appLit θ y) (appLit θ z))) _ _) (putCl [] (supCl (appCl θ c) e k s p j t (appLit θ y) (appLit θ z)))) = true
          rw [hee, conc_gnd (gcl_app hθ _)]
          exact conc_inst hτ _ _ _
      · cases hx
end
end
end G3
end

section
set_option Elab.async false
set_option linter.all false
set_option maxRecDepth 100000
set_option maxHeartbeats 1000000
/-! the clauses below: instances by ground terms -/
namespace G3
open PySem L2
noncomputable section
open scoped Classical
def cst : Tm := .ap ⟨2, 0, 0⟩ []
def fnS (ρ : Sub) (x : Int) : Tm := (look ρ x).getD cst
/-- a substitution of ground terms for the three variables -/
structure Gsb (ρ : Sub) : Prop where
  ok : ∀ p ∈ ρ, Drw 2 3 p.2 ∧ Gnd p.2
  ln : ρ.length = 3
  at3 : ∀ x : Int, 0 ≤ x → x < 3 → look ρ x ≠ none
theorem cst_gnd : Gnd cst := gnd_ap.mpr fun t h => by cases h
theorem fnS_grd {ρ : Sub} (h : Gsb ρ) : Grd (fnS ρ) := fun x => by
  unfold fnS
  cases e : look ρ x with
  | none => exact cst_gnd
  | some u => exact (h.ok _ (look_memS e)).2
theorem lawGs_ok (row : Int) : Gsb (lawGs row 3 1) := by
  have hlen := iterT_len (lawGround 1) 3 row
  have hmem := iterT_mem (lawGround 1) 3 row
  have e0 : lawGs row 3 1 = (iterT (lawGround 1) 3 row).1.mapIdx fun k t => (((k : Nat) : Int), t) := rfl
  rw [e0]
  generalize (iterT (lawGround 1) 3 row).1 = l at hlen hmem
  match l, hlen with
  | [a, b, c], _ =>
    refine ⟨fun p hp => ?_, rfl, fun x h0 h3 => ?_⟩
    · have : p.2 ∈ [a, b, c] := by
        obtain ⟨i, hi, rfl⟩ := List.mem_mapIdx.mp hp
        exact List.getElem_mem _
      obtain ⟨r, e⟩ := hmem _ this
      rw [e]
      exact lawGround_ok1 r
    · have : x = 0 ∨ x = 1 ∨ x = 2 := by omega
      unfold look
      have n01 : ((0 : Int), a).1 ≠ 1 := (by decide : (0 : Int) ≠ 1)
      have n02 : ((0 : Int), a).1 ≠ 2 := (by decide : (0 : Int) ≠ 2)
      have n12 : ((1 : Int), b).1 ≠ 2 := (by decide : (1 : Int) ≠ 2)
      rcases this with rfl | rfl | rfl
      · rw [show ([a, b, c].mapIdx fun k t => (((k : Nat) : Int), t)) = [(0, a), (1, b), (2, c)] from rfl, getI_pos rfl]; simp
      · rw [show ([a, b, c].mapIdx fun k t => (((k : Nat) : Int), t)) = [(0, a), (1, b), (2, c)] from rfl, getI_neg n01, getI_pos rfl]; simp
      · rw [show ([a, b, c].mapIdx fun k t => (((k : Nat) : Int), t)) = [(0, a), (1, b), (2, c)] from rfl, getI_neg n02, getI_neg n12, getI_pos rfl]; simp
theorem fnS_put {ρ : Sub} (h : Gsb ρ) {t : Tm} (ht : ∀ x, occ x t ≠ 0 → 0 ≤ x ∧ x < 3) : put ρ t = app (fnS ρ) t := by
  rw [put_app]
  refine app_cg t fun x hx => ?_
  rw [put_v]
  unfold fnS
  have := ht x hx
  have := h.at3 x this.1 this.2
  cases e : look ρ x with
  | none => exact absurd e this
  | some u => rfl
/-- both substitutions as one: the second clause is moved by m -/
def joint (m : Int) (ρ η : Sub) (x : Int) : Tm := if x < m then fnS ρ x else fnS η (x - m)
theorem joint_grd {m : Int} {ρ η : Sub} (h1 : Gsb ρ) (h2 : Gsb η) : Grd (joint m ρ η) := fun x => by
  unfold joint
  split
  · exact fnS_grd h1 x
  · exact fnS_grd h2 _
theorem amt_lt {c : Cl} {x : Int} (h : x ∈ clVars c) : x < amt c := by
  have := (maxI_spec (clVars c) (-1)).1 x h
  unfold amt maxI
  omega
theorem joint_c {c : Cl} {ρ η : Sub} (hc : Cdr c) (h1 : Gsb ρ) : appCl (joint (amt c) ρ η) c = putCl ρ c := by
  unfold appCl putCl
  refine List.map_congr_left fun x hx => ?_
  have key : ∀ t : Tm, (∀ z, occ z t ≠ 0 → z ∈ clVars c) → (∀ z, occ z t ≠ 0 → 0 ≤ z ∧ z < 3) → app (joint (amt c) ρ η) t = put ρ t := fun t hv hb => by
    rw [fnS_put h1 hb]
    refine app_cg t fun z hz => ?_
    unfold joint
    rw [if_pos (amt_lt (hv z hz))]
  have hk := hc.ok x hx
  unfold appLit putLit
  rw [key x.l (fun z hz => mem_clVars.mpr ⟨x, hx, .inl hz⟩) hk.1.vb, key x.r (fun z hz => mem_clVars.mpr ⟨x, hx, .inr hz⟩) hk.2.vb]
theorem app_shift {θ : Int → Tm} {m : Int} : ∀ t : Tm, app θ (shift m t) = app (fun x => θ (x + m)) t := by
  refine Tm.ind (fun n => by rw [shift, app_v, app_v]) fun s l ih => ?_
  rw [shift_ap, app_ap, app_ap, List.map_map]
  congr 1
  exact List.map_congr_left fun t ht => ih t ht
theorem joint_d {d : Cl} {m : Int} {ρ η : Sub} (hd : Cdr d) (h2 : Gsb η) : appCl (joint m ρ η) (shiftCl m d) = putCl η d := by
  unfold appCl putCl shiftCl
  rw [List.map_map]
  refine List.map_congr_left fun x hx => ?_
  have key : ∀ t : Tm, (∀ z, occ z t ≠ 0 → 0 ≤ z ∧ z < 3) → app (joint m ρ η) (shift m t) = put η t := fun t hb => by
    rw [fnS_put h2 hb, app_shift]
    refine app_cg t fun z hz => ?_
    unfold joint
    have := hb z hz
    rw [if_neg (by omega), show z + m - m = z by omega]
  have hk := hd.ok x hx
  show appLit _ (shiftLit m x) = putLit η x
  unfold appLit putLit shiftLit
  dsimp only
  rw [key x.l hk.1.vb, key x.r hk.2.vb]
/-! ### of the kind the rules take -/
theorem thin_size : ∀ (n : Nat) (t : Tm), t.thin → t.depth ≤ n → t.size + 1 ≤ 2 ^ (n + 1) := by
  intro n
  induction n with
  | zero =>
    intro t _ h
    cases t with
    | v m => simp [Tm.size]
    | ap s l => rw [Tm.depth] at h; omega
  | succ n ih =>
    intro t ht h
    cases t with
    | v m =>
      have : 2 ^ 1 ≤ 2 ^ (n + 1 + 1) := Nat.pow_le_pow_right (by decide) (by omega)
      simp only [Tm.size]; omega
    | ap s l =>
      rw [Tm.depth] at h
      obtain ⟨h1, h2⟩ := thin_ap.mp ht
      have hs : sizeL l ≤ l.length * (2 ^ (n + 1) - 1) := sizeL_le fun u hu => by
        have h3 := depth_mem hu
        have := ih u (h2 u hu) (by omega)
        omega
      have hp : 0 < 2 ^ (n + 1) := Nat.two_pow_pos _
      have hl : l.length * (2 ^ (n + 1) - 1) ≤ 2 * (2 ^ (n + 1) - 1) := Nat.mul_le_mul_right _ h1
      have he : 2 ^ (n + 1 + 1) = 2 * 2 ^ (n + 1) := by rw [Nat.pow_succ]; omega
      rw [Tm.size, he]
      omega
theorem low_tm {ρ : Sub} (h : Gsb ρ) {t : Tm} (ht : Drw 3 7 t) : Tok 4 (put ρ t) ∧ Gnd (put ρ t) ∧ (put ρ t).size ≤ 31 := by
  have hg : Gnd (put ρ t) := by rw [fnS_put h ht.vb]; exact gnd_app (fnS_grd h) t
  have hd := ht.pd ρ fun p hp => (h.ok p hp).1.dep
  have hth : (put ρ t).thin := (tok_put (n := 3) (m := 2) (fun p hp => (h.ok p hp).1.tok) t ht.tok).ar
  have := thin_size 4 _ hth hd
  exact ⟨⟨hd, hth, fun x hx => absurd (hg x) hx⟩, hg, by omega⟩
theorem low_cg {ρ : Sub} (h : Gsb ρ) {c : Cl} (hc : Cdr c) : Cg True (putCl ρ c) := by
  refine ⟨by unfold putCl; rw [List.length_map]; exact hc.len, fun x hx => ?_, fun x hx => ?_⟩
  all_goals
    obtain ⟨y, hy, rfl⟩ := List.mem_map.mp hx
    have hk := hc.ok y hy
    have h1 := low_tm h hk.1
    have h2 := low_tm h hk.2
  · exact ⟨h1.1, h2.1⟩
  · exact ⟨⟨fun _ => h1.2.1, fun z => absurd trivial z⟩, ⟨fun _ => h2.2.1, fun z => absurd trivial z⟩⟩
theorem low_gcl {ρ : Sub} (h : Gsb ρ) {c : Cl} (hc : Cdr c) : Gcl (putCl ρ c) := fun x hx => by
  obtain ⟨y, hy, rfl⟩ := List.mem_map.mp hx
  have hk := hc.ok y hy
  exact ⟨(low_tm h hk.1).2.1, (low_tm h hk.2).2.1⟩
theorem low_csz {ρ : Sub} (h : Gsb ρ) {c : Cl} (hc : Cdr c) : Csz (putCl ρ c) := by
  refine ⟨by unfold putCl; rw [List.length_map]; have := hc.len; omega, fun x hx => ?_⟩
  obtain ⟨y, hy, rfl⟩ := List.mem_map.mp hx
  have hk := hc.ok y hy
  have h1 := low_tm h hk.1
  have h2 := low_tm h hk.2
  exact ⟨⟨Nat.le_trans h1.1.dep (by decide), Nat.le_trans h1.2.2 (by decide)⟩, Nat.le_trans h2.1.dep (by decide), Nat.le_trans h2.2.2 (by decide)⟩
/-! ### the law, as plain data -/
def lowL (W : Wts) (c : Cl) (sel : Option Nat) : List (Kd × Cl) := resK W c sel ++ facK W c sel
def lawP (W : Wts) (c d : Cl) (sel : Option Nat) (ours theirs : Cl) : Bool :=
  cov c (lowL W ours sel) (lowL W c sel) && cov c ((supK W ours sel theirs none).filter fun q => keptB d theirs q.1) (supK W c sel d none)
theorem cvL_mono {U V : List (Kd × Cl)} {q : Kd × Cl} (h : ∀ r ∈ U, r ∈ V) (e : cvL U q = true) : cvL V q = true := by
  unfold cvL at e ⊢
  obtain ⟨r, hr, hi⟩ := List.any_eq_true.mp e
  have := List.mem_filter.mp hr
  exact List.any_eq_true.mpr ⟨r, List.mem_filter.mpr ⟨h r this.1, this.2⟩, hi⟩
theorem cv1_of {c : Cl} {U : List (Kd × Cl)} {q : Kd × Cl} (h : aboveB c q.1 = true → kindsB c q.1 = true → cvL U q = true) : cv1 c U q = true := by
  unfold cv1
  cases h1 : aboveB c q.1 with
  | false => rfl
  | true =>
    cases h2 : kindsB c q.1 with
    | false => rfl
    | true => rw [h h1 h2]; rfl
theorem lawP_true {W : Wts} {c d : Cl} {sel : Option Nat} {ρ η : Sub} (hW : WPos W) (hc : Cdr c) (hd : Cdr d) (h1 : Gsb ρ) (h2 : Gsb η) : lawP W c d sel (putCl ρ c) (putCl η d) = true := by
  have hθ := joint_grd (m := amt c) h1 h2
  have ec := joint_c (η := η) hc h1
  have ed := joint_d (m := amt c) (ρ := ρ) hd h2
  unfold lawP
  rw [Bool.and_eq_true]
  refine ⟨List.all_eq_true.mpr fun q hq => cv1_of fun _ hk => ?_, List.all_eq_true.mpr fun q hq => cv1_of fun ha _ => ?_⟩
  · rw [← ec] at hq
    rcases List.mem_append.mp hq with hq | hq
    · exact cvL_mono (fun r hr => List.mem_append_left _ hr) (res_lift hW hθ hc.cg q hq)
    · exact cvL_mono (fun r hr => List.mem_append_right _ hr) (fac_lift hW hθ hc.cg (fun x hx => ⟨(hc.ok x hx).1.kd, (hc.ok x hx).2.kd⟩) q hq hk)
  · obtain ⟨hq, hkept⟩ := List.mem_filter.mp hq
    rw [← ec] at hq
    exact sup_lift hW hθ hc.cg (hd.shift (amt_b hc.vars)) ed q hq hkept ha
end
end G3
end

section
set_option Elab.async false
set_option linter.all false
set_option maxRecDepth 100000
set_option maxHeartbeats 1000000
/-! the walk of law -/
namespace G3
open PySem PySem.Spec PyProof.Rows L2 LamX NdefX
noncomputable section
open scoped Classical
theorem lowL_map (C : Addr) (W : Wts) (c : Cl) (sel : Option Nat) : (lowL W c sel).map (kcD C) = (resL W c sel).map (Conc.d C) ++ (facL W c sel).map (Conc.d C) := by
  unfold lowL
  rw [List.map_append, ← resK_map, ← facK_map, List.map_map, List.map_map]
  rfl
theorem supK_mapD (C : Addr) (W : Wts) (c : Cl) (sc : Option Nat) (d : Cl) (sd : Option Nat) : (supK W c sc d sd).map (kcD C) = (supsL W c sc d sd).map (Conc.d C) := by
  rw [← supK_map, List.map_map]
  rfl
theorem resL_len {g : Prop} {W : Wts} {c : Cl} {sel : Option Nat} (h : Cg g c) : (resL W c sel).length ≤ 4 := Nat.le_trans (fm_len _ _) h.len
theorem facL_len {g : Prop} {W : Wts} {c : Cl} {sel : Option Nat} (h : Cg g c) : (facL W c sel).length ≤ 64 := by
  unfold facL
  cases sel with
  | some _ => exact Nat.zero_le _
  | none =>
    refine Nat.le_trans (fm_len _ _) ?_
    have h1 := pairs_len c
    have h2 : 4 * c.length * c.length ≤ 4 * 4 * 4 := Nat.mul_le_mul (Nat.mul_le_mul_left 4 h.len) h.len
    omega
theorem lowL_len {g : Prop} {W : Wts} {c : Cl} {sel : Option Nat} (h : Cg g c) : (lowL W c sel).length ≤ 68 := by
  have e := congrArg List.length (lowL_map 0 W c sel)
  rw [List.length_map, List.length_append, List.length_map, List.length_map] at e
  have := resL_len (W := W) (sel := sel) h
  have := facL_len (W := W) (sel := sel) h
  omega
theorem fm2_len {α β : Type} (f : α → List β) (B : Nat) : ∀ l : List α, (∀ x ∈ l, (f x).length ≤ B) → (l.flatMap f).length ≤ B * l.length
  | [], _ => by simp
  | x :: l, h => by
    rw [List.flatMap_cons, List.length_append, List.length_cons]
    have h1 := h x List.mem_cons_self
    have h2 := fm2_len f B l fun y hy => h y (List.mem_cons_of_mem _ hy)
    have : B * (l.length + 1) = B * l.length + B := by rw [Nat.mul_add, Nat.mul_one]
    omega
theorem supK_len {g : Prop} {W : Wts} {c : Cl} {sc : Option Nat} {d : Cl} {sd : Option Nat} (hc : Cg g c) (hd : Cg g (shiftCl (amt c) d)) (hsz : Csz c) : (supK W c sc d sd).length ≤ 12800 := by
  unfold supK
  generalize shiftCl (amt c) d = mv at hd
  have hdl := hd.len
  have hll : (leadsL mv).length ≤ 8 := by
    have := flat_len leadsK 2 mv fun i x _ => by unfold leadsK; split <;> simp
    show ((mv.mapIdx leadsK).flatten).length ≤ 8
    omega
  have hsl : (spotsL c).length ≤ 1600 := by
    have := flat_len spotsK 400 c fun i x hx => by
      have h1 := spotsS_len i x 0
      have h2 := spotsS_len i x 1
      have h3 := hsz.side hx (s := 0) (by omega)
      have h4 := hsz.side hx (s := 1) (by omega)
      unfold spotsK
      rw [List.length_append]
      omega
    have := hc.len
    show ((c.mapIdx spotsK).flatten).length ≤ 1600
    omega
  refine Nat.le_trans (fm2_len _ 8 _ fun q _ => Nat.le_trans (List.length_filterMap_le _ _) hll) ?_
  omega
theorem supK_shape {W : Wts} {c : Cl} {sc : Option Nat} {e : Cl} {sd : Option Nat} (h : amt c = 0) : ∀ q ∈ supK W c sc e sd, ∃ k s p j t z, q.1 = .sup k s p j t ∧ e[j]? = some z ∧ t ≤ 1 := by
  intro q hq
  unfold supK at hq
  rw [h, shiftCl_zero] at hq
  obtain ⟨⟨k, s, p, tm⟩, h1, h2⟩ := List.mem_flatMap.mp hq
  obtain ⟨⟨j, t, lf⟩, h3, h4⟩ := List.mem_filterMap.mp h2
  obtain ⟨z, hj, _, ht, _⟩ := mem_leads.mp h3
  obtain ⟨x, _, rfl⟩ := Option.map_eq_some_iff.mp h4
  exact ⟨k, s, p, j, t, z, rfl, hj, ht⟩
theorem cok_dpt {c : Cl} (h : Cok 22 c) : Dpt c := fun x hx => ⟨Nat.le_trans (h.2 x hx).1.dep (by decide), Nat.le_trans (h.2 x hx).2.dep (by decide)⟩
theorem lowL_ok {g : Prop} {W : Wts} {c : Cl} {sel : Option Nat} (hc : Cg g c) : ∀ q ∈ lowL W c sel, q.1.fit c ∧ Cok 22 q.2 := fun q hq => by
  rcases List.mem_append.mp hq with hq | hq
  · exact resK_ok hc q hq
  · exact facK_ok hc q hq
theorem fit_put {ρ : Sub} {c : Cl} {q : Kd} (h : q.fit (putCl ρ c)) : q.fit c := by
  have hl : (putCl ρ c).length = c.length := by unfold putCl; exact List.length_map _
  cases q <;> (unfold Kd.fit at h ⊢; rw [hl] at h; exact h)
/-- the law, reckoned -/
def lawB (ns : List Int) : Bool := lawP (lawW (cellF ns 0)) (lawCl (cellF ns 1) 2 1) (lawPos (cellF ns 2) 2 1) (lawSel (lawCl (cellF ns 1) 2 1) (cellF ns 3)) (putCl (lawGs (cellF ns 4) 3 1) (lawCl (cellF ns 1) 2 1)) (putCl (lawGs (cellF ns 5) 3 1) (lawPos (cellF ns 2) 2 1))
theorem lawB_true (ns : List Int) : lawB ns = true := lawP_true (lawW_pos _) (lawCl_ok _) (lawPos_ok _) (lawGs_ok _) (lawGs_ok _)
section
variable {K : PySem.W.Frag} {mg : Str → Option Value} {P : Program} {w : World} {base : Heap} {T : List NTab} (E : Txt K mg) (L : LamAt E base T) (CConclusion : ClC K mg) (CSuperposer : ClS K mg)
def R_law : List Sl → Sl → Prop := fun ss r => ∃ (ns : List Int), ss = [.scr ns] ∧ r = .sh (.bl (lawB ns))
include L CConclusion CSuperposer in
theorem ok_law : Ok P w base T 106 E.f_law ["_law_script"] R_law := by
  have G__law_cell := ok_law_cell (P := P) (w := w) (base := base) (T := T) E
  have G__law_weights := ok_law_weights (P := P) (w := w) (base := base) (T := T) E
  have G__law_clause := ok_law_clause (P := P) (w := w) (base := base) (T := T) E 1
  have G__law_positive_clause := ok_law_positive_clause (P := P) (w := w) (base := base) (T := T) E 1
  have G__law_selected := ok_law_selected (P := P) (w := w) (base := base) (T := T) E
  have G__law_ground_substitution := ok_law_ground_substitution (P := P) (w := w) (base := base) (T := T) E 1
  have G__law_put_clause := ok_law_put_clause (P := P) (w := w) (base := base) (T := T) E 3
  have G_resolutions := ok_resolutions (P := P) (w := w) (base := base) (T := T) E L CConclusion
  have G_factorings := ok_factorings (P := P) (w := w) (base := base) (T := T) E L CConclusion
  have G_superpositions := ok_superpositions (P := P) (w := w) (base := base) (T := T) E L CConclusion CSuperposer
  have G__law_covered := ok_law_covered (P := P) (w := w) (base := base) (T := T) E CConclusion 3 22
  have G__law_is_variable := ok_law_is_variable (P := P) (w := w) (base := base) (T := T) E
  have G__law_is_atom := ok_law_is_atom (P := P) (w := w) (base := base) (T := T) E
  refine fn_R E.f_law.F sc_law (fun ss s ⟨_, e, _⟩ => by rw [e]; rfl) fun cdv A outer s H _ hr => ⟨_, (pss_cons (ps_set (i := 1) sc_law.nd rfl (by first | exact Or.inl rfl | exact Or.inr rfl) (pe_call G__law_weights (hr.mono (by omega)) (by rfl) E.f__law_weights.g E.f__law_weights.F.kp (b__law_weights E) .nil pass0 (pa_cons (pe_call G__law_cell (hr.mono (by omega)) (by rfl) E.f__law_cell.g E.f__law_cell.F.kp (b__law_cell E) .nil pass0 (pa_cons (pv 0) (pa_cons pe_int pa_nil))) pa_nil)))
    (pss_cons (ps_set (i := 2) sc_law.nd rfl (by first | exact Or.inl rfl | exact Or.inr rfl) (pe_call G__law_clause (hr.mono (by omega)) (by rfl) E.f__law_clause.g E.f__law_clause.F.kp (b__law_clause E) .nil pass0 (pa_cons (pe_call G__law_cell (hr.mono (by omega)) (by rfl) E.f__law_cell.g E.f__law_cell.F.kp (b__law_cell E) .nil pass0 (pa_cons (pv 0) (pa_cons pe_int pa_nil))) (pa_cons pe_int (pa_cons pe_int pa_nil)))))
    (pss_cons (ps_set (i := 3) sc_law.nd rfl (by first | exact Or.inl rfl | exact Or.inr rfl) (pe_call G__law_positive_clause (hr.mono (by omega)) (by rfl) E.f__law_positive_clause.g E.f__law_positive_clause.F.kp (b__law_positive_clause E) .nil pass0 (pa_cons (pe_call G__law_cell (hr.mono (by omega)) (by rfl) E.f__law_cell.g E.f__law_cell.F.kp (b__law_cell E) .nil pass0 (pa_cons (pv 0) (pa_cons pe_int pa_nil))) (pa_cons pe_int (pa_cons pe_int pa_nil)))))
    (pss_cons (ps_set (i := 4) sc_law.nd rfl (by first | exact Or.inl rfl | exact Or.inr rfl) (pe_call G__law_selected (hr.mono (by omega)) (by rfl) E.f__law_selected.g E.f__law_selected.F.kp (b__law_selected E) .nil pass0 (pa_cons (pv 2) (pa_cons (pe_call G__law_cell (hr.mono (by omega)) (by rfl) E.f__law_cell.g E.f__law_cell.F.kp (b__law_cell E) .nil pass0 (pa_cons (pv 0) (pa_cons pe_int pa_nil))) pa_nil))))
    (pss_cons (ps_set (i := 5) sc_law.nd rfl (by first | exact Or.inl rfl | exact Or.inr rfl) (pe_call G__law_put_clause (hr.mono (by omega)) (by rfl) E.f__law_put_clause.g E.f__law_put_clause.F.kp (b__law_put_clause E) .nil pass0 (pa_cons (pv 2) (pa_cons (pe_call G__law_ground_substitution (hr.mono (by omega)) (by rfl) E.f__law_ground_substitution.g E.f__law_ground_substitution.F.kp (b__law_ground_substitution E) .nil pass0 (pa_cons (pe_call G__law_cell (hr.mono (by omega)) (by rfl) E.f__law_cell.g E.f__law_cell.F.kp (b__law_cell E) .nil pass0 (pa_cons (pv 0) (pa_cons pe_int pa_nil))) (pa_cons pe_int (pa_cons pe_int pa_nil)))) pa_nil))))
    (pss_cons (ps_set (i := 6) sc_law.nd rfl (by first | exact Or.inl rfl | exact Or.inr rfl) (pe_call G__law_put_clause (hr.mono (by omega)) (by rfl) E.f__law_put_clause.g E.f__law_put_clause.F.kp (b__law_put_clause E) .nil pass0 (pa_cons (pv 3) (pa_cons (pe_call G__law_ground_substitution (hr.mono (by omega)) (by rfl) E.f__law_ground_substitution.g E.f__law_ground_substitution.F.kp (b__law_ground_substitution E) .nil pass0 (pa_cons (pe_call G__law_cell (hr.mono (by omega)) (by rfl) E.f__law_cell.g E.f__law_cell.F.kp (b__law_cell E) .nil pass0 (pa_cons (pv 0) (pa_cons pe_int pa_nil))) (pa_cons pe_int (pa_cons pe_int pa_nil)))) pa_nil))))
    (pss_cons (ps_set (i := 7) sc_law.nd rfl (by first | exact Or.inl rfl | exact Or.inr rfl) (pe_op (kAdd K) (pe_call G_resolutions (hr.mono (by omega)) (by rfl) E.f_resolutions.g E.f_resolutions.F.kp (b_resolutions E) .nil pass0 (pa_cons (pv 1) (pa_cons (pv 5) (pa_cons (pv 4) pa_nil)))) (pe_call G_factorings (hr.mono (by omega)) (by rfl) E.f_factorings.g E.f_factorings.F.kp (b_factorings E) .nil pass0 (pa_cons (pv 1) (pa_cons (pv 5) (pa_cons (pv 4) pa_nil))))))
    (pss_cons (ps_set (i := 8) sc_law.nd rfl (by first | exact Or.inl rfl | exact Or.inr rfl) (pe_op (kAdd K) (pe_call G_resolutions (hr.mono (by omega)) (by rfl) E.f_resolutions.g E.f_resolutions.F.kp (b_resolutions E) .nil pass0 (pa_cons (pv 1) (pa_cons (pv 2) (pa_cons (pv 4) pa_nil)))) (pe_call G_factorings (hr.mono (by omega)) (by rfl) E.f_factorings.g E.f_factorings.F.kp (b_factorings E) .nil pass0 (pa_cons (pv 1) (pa_cons (pv 2) (pa_cons (pv 4) pa_nil))))))
    (pss_cons (ps_if (pt_not (kTru K (pe_call G__law_covered (hr.mono (by omega)) (by rfl) E.f__law_covered.g E.f__law_covered.F.kp (b__law_covered E) .nil pass0 (pa_cons (pv 2) (pa_cons (pv 7) (pa_cons (pv 8) pa_nil)))) (fun _ => rfl)))
      (pss_one (ps_ret pe_bl))
      pss_nil)
    (pss_cons (ps_set (i := 7) sc_law.nd rfl (by first | exact Or.inl rfl | exact Or.inr rfl) (pe_call G_superpositions (hr.mono (by omega)) (by rfl) E.f_superpositions.g E.f_superpositions.F.kp (b_superpositions E) .nil pass0 (pa_cons (pv 1) (pa_cons (pv 5) (pa_cons (pv 4) (pa_cons (pv 6) (pa_cons pe_non pa_nil)))))))
    (pss_cons (ps_set (i := 9) sc_law.nd rfl (by first | exact Or.inl rfl | exact Or.inr rfl) (pe_lst pa_nil))
    (pss_cons (ps_for PassesOwn.never rfl (kiList K (pv 7)) (pg_name (i := 10) sc_law.nd rfl (by first | exact Or.inl rfl | exact Or.inr rfl))
      (pss_cons (ps_set (i := 11) sc_law.nd rfl (by first | exact Or.inl rfl | exact Or.inr rfl) (pe_ix (kIx K) (pe_ix (kIx K) (pv 3) (kFld K (pv 10) rfl) (fun _ _ => rfl)) (pe_op (kAdd K) pe_int (kFld K (pv 10) rfl)) (fun _ _ => rfl)))
      (pss_one (ps_if ((pw_or (pt_not (kTru K (pe_call G__law_is_variable (hr.mono (by omega)) (by rfl) E.f__law_is_variable.g E.f__law_is_variable.F.kp (b__law_is_variable E) .nil pass0 (pa_cons (pv 11) pa_nil)) (fun _ => rfl))) (pw_or1 (pt_not (kTru K (pe_call G__law_is_atom (hr.mono (by omega)) (by rfl) E.f__law_is_atom.g E.f__law_is_atom.F.kp (b__law_is_atom E) .nil pass0 (pa_cons (pe_ix (kIx K) (pe_ix (kIx K) (pv 6) (kFld K (pv 10) rfl) (fun _ _ => rfl)) (pe_op (kAdd K) pe_int (kFld K (pv 10) rfl)) (fun _ _ => rfl)) pa_nil)) (fun _ => rfl))))).pt)
        (pss_one (ps_expr (pe_bm PySem.F.plainAttrs_list PySem.F.slot_list_append PySem.F.type_list_append mt_append (pv 9) (pa_cons (pv 10) pa_nil))))
        pss_nil))))
    (pss_one (ps_ret (pe_call G__law_covered (hr.mono (by omega)) (by rfl) E.f__law_covered.g E.f__law_covered.F.kp (b__law_covered E) .nil pass0 (pa_cons (pv 2) (pa_cons (pv 9) (pa_cons (pe_call G_superpositions (hr.mono (by omega)) (by rfl) E.f_superpositions.g E.f_superpositions.F.kp (b_superpositions E) .nil pass0 (pa_cons (pv 1) (pa_cons (pv 2) (pa_cons (pv 4) (pa_cons (pv 3) (pa_cons pe_non pa_nil)))))) pa_nil)))))))))))))))))), ?_⟩
  rintro ss r ⟨ns, rfl, rfl⟩
  have hW := lawW_pos (cellF ns 0)
  have hc := lawCl_ok (cellF ns 1)
  have hd := lawPos_ok (cellF ns 2)
  have h1 := lawGs_ok (cellF ns 4)
  have h2 := lawGs_ok (cellF ns 5)
  have hB : lawB ns = lawP (lawW (cellF ns 0)) (lawCl (cellF ns 1) 2 1) (lawPos (cellF ns 2) 2 1) (lawSel (lawCl (cellF ns 1) 2 1) (cellF ns 3)) (putCl (lawGs (cellF ns 4) 3 1) (lawCl (cellF ns 1) 2 1)) (putCl (lawGs (cellF ns 5) 3 1) (lawPos (cellF ns 2) 2 1)) := rfl
  rw [hB]
  have hcell : ∀ (k : Nat) {δ : AS} {i : Nat} {te : TE}, k ≤ 10 → δ[i]? = some (some (.scr ns)) → Ev K T te δ (.sh (.int (k : Nat))) → Ev K T (tCall (spR K T R_law_cell) [] (fun _ _ _ => False) (tCons (tVar i) (tCons te tNil))) δ (.sh (.int (cellF ns k))) := fun k {δ i te} hk hi ht => ev_call (ea_cons (ev_var hi rfl) (ea_cons ht ea_nil)) ⟨ns, k, hk, rfl, rfl⟩
  show Sx K T _ [some (.scr ns), none, none, none, none, none, none, none, none, none, none, none] _
  refine sx_seq (sx_set (ev_call (ea_cons (hcell 0 (by decide) rfl ev_int) ea_nil) ⟨_, rfl, rfl⟩) ?_)
  refine sx_seq (sx_set (ev_call (ea_cons (hcell 1 (by decide) rfl ev_int) (ea_cons ev_int (ea_cons ev_int ea_nil))) ⟨_, 2, by decide, rfl, rfl⟩) ?_)
  refine sx_seq (sx_set (ev_call (ea_cons (hcell 2 (by decide) rfl ev_int) (ea_cons ev_int (ea_cons ev_int ea_nil))) ⟨_, 2, by decide, rfl, rfl⟩) ?_)
  generalize lawW (cellF ns 0) = W at hW ⊢
  generalize lawCl (cellF ns 1) 2 1 = c at hc ⊢
  generalize lawPos (cellF ns 2) 2 1 = d at hd ⊢
  have hcl := hc.len
  have hdl := hd.len
  have lt3 : ∀ {c : Cl}, Cdr c → ∀ x ∈ c, Ltn 3 x := fun h x hx => ⟨⟨(h.ok x hx).1.dep, (h.ok x hx).1.ar⟩, (h.ok x hx).2.dep, (h.ok x hx).2.ar⟩
  show Sx K T _ [some (.scr ns), some (.sh (.wts W)), some (.sh c.d), some (.sh d.d), none, none, none, none, none, none, none, none] _
  refine sx_seq (sx_set (ev_call (ea_cons (ev_var rfl rfl) (ea_cons (hcell 3 (by decide) rfl ev_int) ea_nil)) ⟨c, _, by omega, rfl, rfl⟩) ?_)
  generalize lawSel c (cellF ns 3) = sel
  show Sx K T _ [some (.scr ns), some (.sh (.wts W)), some (.sh c.d), some (.sh d.d), some (.sh (selD sel)), none, none, none, none, none, none, none] _
  refine sx_seq (sx_set (ev_call (ea_cons (ev_var rfl rfl) (ea_cons (Ev.shared (ev_call (ea_cons (hcell 4 (by decide) rfl ev_int) (ea_cons ev_int (ea_cons ev_int ea_nil))) ⟨_, 3, by decide, rfl, rfl⟩)) ea_nil)) ⟨c, lawGs (cellF ns 4) 3 1, by omega, lt3 hc, rfl, rfl⟩) ?_)
  refine sx_seq (sx_set (ev_call (ea_cons (ev_var rfl rfl) (ea_cons (Ev.shared (ev_call (ea_cons (hcell 5 (by decide) rfl ev_int) (ea_cons ev_int (ea_cons ev_int ea_nil))) ⟨_, 3, by decide, rfl, rfl⟩)) ea_nil)) ⟨d, lawGs (cellF ns 5) 3 1, by omega, lt3 hd, rfl, rfl⟩) ?_)
  have go := low_cg h1 hc
  have gt := low_cg h2 hd
  have gco := low_gcl h1 hc
  have gct := low_gcl h2 hd
  have gso := low_csz h1 hc
  have fo : ∀ q : Kd, q.fit (putCl (lawGs (cellF ns 4) 3 1) c) → q.fit c := fun q => fit_put
  have ftl : (putCl (lawGs (cellF ns 5) 3 1) d).length = d.length := by unfold putCl; exact List.length_map _
  clear hcell hB hW
  generalize putCl (lawGs (cellF ns 4) 3 1) c = ours at go gco gso fo ⊢
  generalize putCl (lawGs (cellF ns 5) 3 1) d = theirs at gt gct ftl ⊢
  show Sx K T _ [some (.scr ns), some (.sh (.wts W)), some (.sh c.d), some (.sh d.d), some (.sh (selD sel)), some (.sh ours.d), some (.sh theirs.d), none, none, none, none, none] _
  refine sx_forget (i := 0) ?_
  show Sx K T _ [none, some (.sh (.wts W)), some (.sh c.d), some (.sh d.d), some (.sh (selD sel)), some (.sh ours.d), some (.sh theirs.d), none, none, none, none, none] _
  have catB : ∀ {g : Prop} {c : Cl}, Cg g c → ((resL W c sel).map (Conc.d CConclusion.C)).length + ((facL W c sel).map (Conc.d CConclusion.C)).length ≤ 100000 := fun h => by
    rw [List.length_map, List.length_map]
    have := resL_len (W := W) (sel := sel) h
    have := facL_len (W := W) (sel := sel) h
    omega
  refine sx_seq (sx_set ((ev_catL (Ev.shared (ev_call (ea_cons (ev_var rfl rfl) (ea_cons (ev_var rfl rfl) (ea_cons (ev_var rfl rfl) ea_nil))) ⟨_, W, ours, sel, go, rfl, rfl⟩)) (Ev.shared (ev_call (ea_cons (ev_var rfl rfl) (ea_cons (ev_var rfl rfl) (ea_cons (ev_var rfl rfl) ea_nil))) ⟨_, W, ours, sel, go, rfl, rfl⟩)) (catB go)).of_eq (s' := .own ((lowL W ours sel).map (kcD CConclusion.C))) (by rw [lowL_map])) ?_)
  refine sx_seq (sx_set ((ev_catL (Ev.shared (ev_call (ea_cons (ev_var rfl rfl) (ea_cons (ev_var rfl rfl) (ea_cons (ev_var rfl rfl) ea_nil))) ⟨_, W, c, sel, hc.cg, rfl, rfl⟩)) (Ev.shared (ev_call (ea_cons (ev_var rfl rfl) (ea_cons (ev_var rfl rfl) (ea_cons (ev_var rfl rfl) ea_nil))) ⟨_, W, c, sel, hc.cg, rfl, rfl⟩)) (catB hc.cg)).of_eq (s' := .own ((lowL W c sel).map (kcD CConclusion.C))) (by rw [lowL_map])) ?_)
  refine sx_freeze (i := 7) (ds := (lowL W ours sel).map (kcD CConclusion.C)) rfl ?_
  refine sx_freeze (i := 8) (ds := (lowL W c sel).map (kcD CConclusion.C)) rfl ?_
  show Sx K T _ [none, some (.sh (.wts W)), some (.sh c.d), some (.sh d.d), some (.sh (selD sel)), some (.sh ours.d), some (.sh theirs.d), some (.lst ((lowL W ours sel).map (kcD CConclusion.C))), some (.lst ((lowL W c sel).map (kcD CConclusion.C))), none, none, none] _
  have hcB : ∀ x ∈ c, Lok 3 x ∧ x.l.size ≤ 1000 ∧ x.r.size ≤ 1000 := fun x hx => ⟨⟨(hc.ok x hx).1.tok, (hc.ok x hx).2.tok⟩, Nat.le_trans (hc.ok x hx).1.sz (by decide), Nat.le_trans (hc.ok x hx).2.sz (by decide)⟩
  have hs := hd.shift (amt_b hc.vars)
  have zo : amt ours = 0 := amt_gcl gco
  have hso : Cg True (shiftCl (amt ours) theirs) := by rw [zo, shiftCl_zero]; exact gt
  have hvo : ∀ x ∈ clVars theirs, 0 ≤ x + amt ours ∧ x + amt ours < 1000 := fun x hx => by rw [gcl_vars gct] at hx; cases hx
  have hvc : ∀ x ∈ clVars d, 0 ≤ x + amt c ∧ x + amt c < 1000 := fun x hx => by
    have := hd.vars x hx
    have := amt_b hc.vars
    omega
  refine sx_seq (sx_if (et_not (et_tru (ev_call (ea_cons (ev_var rfl rfl) (ea_cons (ev_var rfl rfl) (ea_cons (ev_var rfl rfl) ea_nil))) ⟨c, lowL W ours sel, lowL W c sel, hcB, fun q hq => ⟨fo _ (lowL_ok go q hq).1, cok_dpt (lowL_ok go q hq).2⟩, fun q hq => (lowL_ok hc.cg q hq).2, by have := lowL_len (W := W) (sel := sel) hc.cg; omega, rfl, rfl⟩) rfl)) (fun h => ?_) fun h => sx_next ?_)
  · have h : cov c (lowL W ours sel) (lowL W c sel) = false := by simpa using h
    refine sx_ret ev_bl ?_
    unfold lawP
    rw [h]
    rfl
  · have h : cov c (lowL W ours sel) (lowL W c sel) = true := by simpa using h
    refine sx_seq (sx_set ((ev_call (ea_cons (ev_var rfl rfl) (ea_cons (ev_var rfl rfl) (ea_cons (ev_var rfl rfl) (ea_cons (ev_var rfl rfl) (ea_cons ev_non ea_nil))))) ⟨True, W, ours, sel, theirs, none, go, gt, hso, hvo, gso, rfl, rfl⟩).of_eq (s' := .own ((supK W ours sel theirs none).map (kcD CConclusion.C))) (by rw [supK_mapD])) ?_)
    refine sx_freeze (i := 7) (ds := (supK W ours sel theirs none).map (kcD CConclusion.C)) rfl ?_
    refine sx_seq (sx_set (ev_lst (ds := []) ea_nil) ?_)
    have hP : lawP W c d sel ours theirs = cov c ((supK W ours sel theirs none).filter fun q => keptB d theirs q.1) (supK W c sel d none) := by unfold lawP; rw [h]; rfl
    rw [hP]
    have kok := supK_ok (W := W) (sc := sel) (sd := none) go gt hso hvo
    have kok2 := supK_ok (W := W) (sc := sel) (sd := none) hc.cg hd.cg hs hvc
    have klen := supK_len (W := W) (sc := sel) (sd := none) go hso gso
    have klen2 := supK_len (W := W) (sc := sel) (sd := none) hc.cg hs hc.csz
    have ksh := supK_shape (W := W) (sc := sel) (e := theirs) (sd := none) zo
    generalize supK W ours sel theirs none = lo at kok klen ksh ⊢
    show Sx K T _ [none, some (.sh (.wts W)), some (.sh c.d), some (.sh (.tup (d.map Lit.d))), some (.sh (selD sel)), some (.sh ours.d), some (.sh (.tup (theirs.map Lit.d))), some (.lst (lo.map (kcD CConclusion.C))), some (.lst ((lowL W c sel).map (kcD CConclusion.C))), some (.own []), none, none] _
    refine sx_seq (sx_for (ei_var (i := 7) rfl) (fun i δ => ∃ o p, δ = [none, some (.sh (.wts W)), some (.sh c.d), some (.sh (.tup (d.map Lit.d))), some (.sh (selD sel)), some (.sh ours.d), some (.sh (.tup (theirs.map Lit.d))), some (.lst (lo.map (kcD CConclusion.C))), some (.lst ((lowL W c sel).map (kcD CConclusion.C))), some (.own (((lo.take i).filter fun q => keptB d theirs q.1).map (kcD CConclusion.C))), o, p]) ⟨none, none, rfl⟩ ?_ ?_)
    · rintro i dd δ' hi ⟨o, p, rfl⟩
      obtain ⟨q, hq, rfl⟩ := at_map hi
      obtain ⟨k, s, pl, j, t, z', hqs, hz', ht⟩ := ksh q (List.mem_of_getElem? hq)
      obtain ⟨z, hz⟩ : ∃ z, d[j]? = some z := by
        have := (List.getElem?_eq_some_iff.mp hz').1
        rw [ftl] at this
        exact ⟨d[j], by simp [this]⟩
      have htk := filter_take (fun q : Kd × Cl => keptB d theirs q.1) lo i q hq
      have hkb : keptB d theirs q.1 = (!(z.side t).isV || !(z'.side t).isAt) := by
        rw [hqs]
        show (((d[j]?).map fun x => (x.side t).isV) != some true || ((theirs[j]?).map fun x => (x.side t).isAt) != some true) = _
        rw [hz, hz']
        simp only [Option.map_some]
        cases (z.side t).isV <;> cases (z'.side t).isAt <;> rfl
      rw [htk]
      have hln : ((lo.take i).filter fun q : Kd × Cl => keptB d theirs q.1).length ≤ 12800 := Nat.le_trans (List.length_filter_le _ _) (by rw [List.length_take]; omega)
      generalize (lo.take i).filter (fun q : Kd × Cl => keptB d theirs q.1) = pre at hln ⊢
      have eo : kcD CConclusion.C q = ((Kd.sup k s pl j t).conc q.2).d CConclusion.C := by unfold kcD; rw [hqs]
      rw [hkb]
      refine ⟨_, _, tg_name, ?_⟩
      rw [eo]
      show Sx K T _ [none, some (.sh (.wts W)), some (.sh c.d), some (.sh (.tup (d.map Lit.d))), some (.sh (selD sel)), some (.sh ours.d), some (.sh (.tup (theirs.map Lit.d))), some (.lst (lo.map (kcD CConclusion.C))), some (.lst ((lowL W c sel).map (kcD CConclusion.C))), some (.own (pre.map (kcD CConclusion.C))), some (.sh (((Kd.sup k s pl j t).conc q.2).d CConclusion.C)), p] _
      have ev : ∀ {δ : AS}, δ[10]? = some (some (.sh (((Kd.sup k s pl j t).conc q.2).d CConclusion.C))) → Ev K T (tVar 10) δ (.sh (((Kd.sup k s pl j t).conc q.2).d CConclusion.C)) := fun h => ev_var h rfl
      refine sx_seq (sx_set (ev_ixT (ev_ixT (ev_var rfl rfl) (ev_cf CConclusion 5 (ev rfl)) (lit_at hz)) (ev_add ev_int (ev_cf CConclusion 6 (ev rfl))) (side_at z ht)) ?_)
      refine sx_if (et_or (et_not (et_tru (ev_call (ea_cons (ev_var rfl rfl) ea_nil) ⟨z.side t, rfl, rfl⟩) rfl)) fun _ => et_not (et_tru (ev_call (ea_cons (ev_ixT (ev_ixT (ev_var rfl rfl) (ev_cf CConclusion 5 (ev rfl)) (lit_at hz')) (ev_add ev_int (ev_cf CConclusion 6 (ev rfl))) (side_at z' ht)) ea_nil) ⟨z'.side t, rfl, rfl⟩) rfl)) (fun h => ?_) fun h => sx_next ?_
      · rw [h]
        refine sx_append rfl (ev_var rfl rfl) (by rw [List.length_map]; omega) ?_
        refine ⟨some (.sh (((Kd.sup k s pl j t).conc q.2).d CConclusion.C)), some (.sh (z.side t).d), ?_⟩
        rw [if_pos rfl, List.map_append, ← eo]
        rfl
      · rw [h]
        refine ⟨some (.sh (((Kd.sup k s pl j t).conc q.2).d CConclusion.C)), some (.sh (z.side t).d), ?_⟩
        rw [if_neg Bool.false_ne_true, List.append_nil]
        rfl
    · rintro δ' ⟨o, p, rfl⟩
      rw [List.length_map, List.take_length]
      refine sx_freeze (i := 9) (ds := (lo.filter fun q => keptB d theirs q.1).map (kcD CConclusion.C)) rfl ?_
      refine sx_ret (ev_call (ea_cons (ev_var rfl rfl) (ea_cons (ev_var rfl rfl) (ea_cons ((Ev.shared (ev_call (ea_cons (ev_var rfl rfl) (ea_cons (ev_var rfl rfl) (ea_cons (ev_var rfl rfl) (ea_cons (ev_var (s := .sh d.d) rfl rfl) (ea_cons ev_non ea_nil))))) ⟨False, W, c, sel, d, none, hc.cg, hd.cg, hs, hvc, hc.csz, rfl, rfl⟩)).of_eq (s' := .lst ((supK W c sel d none).map (kcD CConclusion.C))) (by rw [supK_mapD])) ea_nil))) ⟨c, lo.filter fun q => keptB d theirs q.1, supK W c sel d none, hcB, fun q hq => ?_, fun q hq => (kok2 q hq).2, by omega, rfl, rfl⟩) rfl
      have := kok q (List.mem_filter.mp hq).1
      exact ⟨fo _ this.1, cok_dpt this.2⟩
end
end
end G3
end

section
set_option Elab.async false
set_option linter.all false
set_option maxRecDepth 100000
set_option maxHeartbeats 1000000
/-! the end: what the head must tell -/
namespace G3
open PySem PySem.Spec PyProof.Rows L2 LamX NdefX
noncomputable section
open scoped Classical
theorem law_at {l : PySem.W.OpenLaw} {w : World} {K : PySem.W.Frag} {mg : Str → Option Value} {fa : Addr} {h : Heap} (E : Txt K mg) (CC : ClC K mg) (CS : ClS K mg) (hfa : mg "law" = some (.ref fa)) {c tb : Addr}
    (ex : ∃ (oc : Value) (od : Option Addr) (kV doc pm : Value) (an : Option Addr) (ct : Value) (osl : Array (Option Value)),
      E.f_literal_greater.fd = PySem.W.fnOf "literal_greater" "literal_greater" (defArgs s_literal_greater) (defBody s_literal_greater) (defScope s_literal_greater) .none kV doc pm an (.ref c) ct ∧ K.lookup E.f_literal_greater.f = some ⟨oc, od, .func E.f_literal_greater.fd, osl⟩ ∧ PySem.W.codeIn K (.ref c) "literal_greater" = true)
    (hT : h.get? tb = some { cls := .none, data := .fields #[] }) (nT : K.lookup tb = none) (C : PySem.W.CodeHd h c tb) : LawAtS l w K CX0 106 63 "_law_script" mg fa h := by
  have e := E.f_law.g.symm.trans hfa
  have e : E.f_law.f = fa := by injection e with e; injection e
  subst e
  refine ⟨E.f_law.fd, [(c, tb)], spR K [(tb, fun _ _ => lamQ)] R_law, fun p hp => ?_, fun p hp => ?_, fun p hp => ?_, fun s u => ?_, fun H a ns hl hbits hH hS => ?_, fun base KB GB hTB => ?_⟩
  · rw [List.mem_singleton] at hp; rw [hp]; exact hT
  · rw [List.mem_singleton] at hp; rw [hp]; exact nT
  · rw [List.mem_singleton] at hp; rw [hp]; exact C
  · obtain ⟨oc, od, kV, doc, pm, an, cdv, ct, osl, e, lk, hcd⟩ := E.f_law.F.ex
    rw [e]
    exact .of_eq rfl
  · refine ⟨[.scr ns], .sh (.bl (lawB ns)), ⟨ns, rfl, rfl⟩, .cons ⟨a, rfl, hS⟩ .nil, fun p hp => ?_, fun v H' g t o => ?_⟩
    · rw [List.mem_singleton] at hp
      rw [hp]
      exact TabN.nil (hH (c, tb) (List.mem_singleton.mpr rfl))
    · have o : v = .bl (lawB ns) := o
      rw [o, lawB_true]
  · exact ok_law E ⟨c, tb, ex, List.mem_singleton.mpr rfl, fun p hp _ => by rw [List.mem_singleton] at hp; rw [hp], hTB (c, tb) (List.mem_singleton.mpr rfl)⟩ CC CS
/-- a def's datum, from what the head tells -/
def mkAt {K : PySem.W.Frag} {h : Heap} {mg : Str → Option Value} (X : K.In h) (G : h.Ns mainGlobals mg) {x : Str} {st : Stmt} {f : Addr} {od an : Option Addr} {sl : Array (Option Value)} {oc kV dc pm cd ct : Value}
    (a : PySem.W.nsIn K mainGlobals x = some (some (.ref f))) (l : K.lookup f = some ⟨oc, od, .func (PySem.W.fnOf x x (defArgs st) (defBody st) (defScope st) .none kV dc pm an cd ct), sl⟩) (c : PySem.W.codeIn K cd x = true) (k : PySem.W.keepIn K (.ref f) = true) : FnAt K mg x st :=
  ⟨f, _, fun_mk (st := st) l c k, PySem.W.mg_of X G a⟩
/-- the datum of literal_greater, with its code object -/
structure LamF (K : PySem.W.Frag) (mg : Str → Option Value) (c : Addr) where
  A : FnAt K mg "literal_greater" s_literal_greater
  ex : ∃ (oc : Value) (od : Option Addr) (kV doc pm : Value) (an : Option Addr) (ct : Value) (osl : Array (Option Value)),
      A.fd = PySem.W.fnOf "literal_greater" "literal_greater" (defArgs s_literal_greater) (defBody s_literal_greater) (defScope s_literal_greater) .none kV doc pm an (.ref c) ct ∧ K.lookup A.f = some ⟨oc, od, .func A.fd, osl⟩ ∧ PySem.W.codeIn K (.ref c) "literal_greater" = true
def mkLam {K : PySem.W.Frag} {h : Heap} {mg : Str → Option Value} (X : K.In h) (G : h.Ns mainGlobals mg) {f c : Addr} {od an : Option Addr} {sl : Array (Option Value)} {oc kV dc pm ct : Value}
    (a : PySem.W.nsIn K mainGlobals "literal_greater" = some (some (.ref f))) (l : K.lookup f = some ⟨oc, od, .func (PySem.W.fnOf "literal_greater" "literal_greater" (defArgs s_literal_greater) (defBody s_literal_greater) (defScope s_literal_greater) .none kV dc pm an (.ref c) ct), sl⟩)
    (cc : PySem.W.codeIn K (.ref c) "literal_greater" = true) (k : PySem.W.keepIn K (.ref f) = true) : LamF K mg c :=
  ⟨⟨f, _, fun_mk (st := s_literal_greater) l cc k, PySem.W.mg_of X G a⟩, oc, od, kV, dc, pm, an, ct, sl, rfl, l, cc⟩
def mkClC {K : PySem.W.Frag} {h : Heap} {mg : Str → Option Value} (X : K.In h) (G : h.Ns mainGlobals mg) {C f1 : Addr} {od1 an1 : Option Addr} {sl1 : Array (Option Value)} {oc1 kV1 dc1 pm1 cd1 ct1 : Value}
    (aC : PySem.W.nsIn K mainGlobals "Conclusion" = some (some (.ref C))) (pg : PySem.W.plainGet K C Str.empty = true) (hd : PySem.W.hasDictIn K C = true) (po : PySem.W.plainOver K C = true) (sa : PySem.W.findIn K (.ref C) "__setattr__" = some (some (.builtin "object.__setattr__"))) (mk : PySem.W.makesIn K C = true) (kc : PySem.W.keepIn K (.ref C) = true)
    (a1 : PySem.W.findIn K (.ref C) "__init__" = some (some (.ref f1))) (i1 : PySem.W.isFn K (.ref f1) = true) (l1 : K.lookup f1 = some ⟨oc1, od1, .func (PySem.W.fnOf "__init__" "Conclusion.__init__" (defArgs s_Conclusion___init__) (defBody s_Conclusion___init__) (defScope s_Conclusion___init__) .none kV1 dc1 pm1 an1 cd1 ct1), sl1⟩) (c1 : PySem.W.codeIn K cd1 "Conclusion.__init__" = true) (k1 : PySem.W.keepIn K (.ref f1) = true)
    (n0 : PySem.W.findIn K (.ref C) "kind" = some none) (n1 : PySem.W.findIn K (.ref C) "clause" = some none) (n2 : PySem.W.findIn K (.ref C) "literal" = some none) (n3 : PySem.W.findIn K (.ref C) "side" = some none) (n4 : PySem.W.findIn K (.ref C) "place" = some none) (n5 : PySem.W.findIn K (.ref C) "other_literal" = some none) (n6 : PySem.W.findIn K (.ref C) "other_side" = some none) (n7 : PySem.W.findIn K (.ref C) "first" = some none) (n8 : PySem.W.findIn K (.ref C) "second" = some none) : ClC K mg :=
  ⟨C, f1, _, PySem.W.mg_of X G aC, ⟨pg, hd, po, sa⟩, fun x hx => (by
    simp only [concN, List.mem_cons, List.not_mem_nil, or_false] at hx
    rcases hx with rfl | rfl | rfl | rfl | rfl | rfl | rfl | rfl | rfl
    · exact n0
    · exact n1
    · exact n2
    · exact n3
    · exact n4
    · exact n5
    · exact n6
    · exact n7
    · exact n8
    ), fun_mk (st := s_Conclusion___init__) l1 c1 k1, ⟨mk, a1, i1, kc⟩⟩
def mkClS {K : PySem.W.Frag} {h : Heap} {mg : Str → Option Value} (X : K.In h) (G : h.Ns mainGlobals mg) {C f1 f2 f3 : Addr} {od1 an1 od2 an2 od3 an3 : Option Addr} {sl1 sl2 sl3 : Array (Option Value)} {oc1 kV1 dc1 pm1 cd1 ct1 oc2 kV2 dc2 pm2 cd2 ct2 oc3 kV3 dc3 pm3 cd3 ct3 : Value}
    (aC : PySem.W.nsIn K mainGlobals "Superposer" = some (some (.ref C))) (pg : PySem.W.plainGet K C Str.empty = true) (hd : PySem.W.hasDictIn K C = true) (po : PySem.W.plainOver K C = true) (sa : PySem.W.findIn K (.ref C) "__setattr__" = some (some (.builtin "object.__setattr__"))) (mk : PySem.W.makesIn K C = true) (kc : PySem.W.keepIn K (.ref C) = true)
    (a1 : PySem.W.findIn K (.ref C) "__init__" = some (some (.ref f1))) (i1 : PySem.W.isFn K (.ref f1) = true) (l1 : K.lookup f1 = some ⟨oc1, od1, .func (PySem.W.fnOf "__init__" "Superposer.__init__" (defArgs s_Superposer___init__) (defBody s_Superposer___init__) (defScope s_Superposer___init__) .none kV1 dc1 pm1 an1 cd1 ct1), sl1⟩) (c1 : PySem.W.codeIn K cd1 "Superposer.__init__" = true) (k1 : PySem.W.keepIn K (.ref f1) = true)
    (a2 : PySem.W.findIn K (.ref C) "allowed" = some (some (.ref f2))) (i2 : PySem.W.isFn K (.ref f2) = true) (l2 : K.lookup f2 = some ⟨oc2, od2, .func (PySem.W.fnOf "allowed" "Superposer.allowed" (defArgs s_Superposer_allowed) (defBody s_Superposer_allowed) (defScope s_Superposer_allowed) .none kV2 dc2 pm2 an2 cd2 ct2), sl2⟩) (c2 : PySem.W.codeIn K cd2 "Superposer.allowed" = true) (k2 : PySem.W.keepIn K (.ref f2) = true)
    (a3 : PySem.W.findIn K (.ref C) "conclusion" = some (some (.ref f3))) (i3 : PySem.W.isFn K (.ref f3) = true) (l3 : K.lookup f3 = some ⟨oc3, od3, .func (PySem.W.fnOf "conclusion" "Superposer.conclusion" (defArgs s_Superposer_conclusion) (defBody s_Superposer_conclusion) (defScope s_Superposer_conclusion) .none kV3 dc3 pm3 an3 cd3 ct3), sl3⟩) (c3 : PySem.W.codeIn K cd3 "Superposer.conclusion" = true) (k3 : PySem.W.keepIn K (.ref f3) = true)
    (n0 : PySem.W.findIn K (.ref C) "weights" = some none) (n1 : PySem.W.findIn K (.ref C) "c" = some none) (n2 : PySem.W.findIn K (.ref C) "selected_c" = some none) (n3 : PySem.W.findIn K (.ref C) "d" = some none) (n4 : PySem.W.findIn K (.ref C) "selected_d" = some none) (n5 : PySem.W.findIn K (.ref C) "amount" = some none) (n6 : PySem.W.findIn K (.ref C) "moved" = some none) : ClS K mg :=
  ⟨C, PySem.W.mg_of X G aC, ⟨pg, hd, po, sa⟩, fun x hx => (by
    simp only [supN, List.mem_cons, List.not_mem_nil, or_false] at hx
    rcases hx with rfl | rfl | rfl | rfl | rfl | rfl | rfl
    · exact n0
    · exact n1
    · exact n2
    · exact n3
    · exact n4
    · exact n5
    · exact n6
    ), f1, _, fun_mk (st := s_Superposer___init__) l1 c1 k1, ⟨mk, a1, i1, kc⟩, f2, _, fun_mk (st := s_Superposer_allowed) l2 c2 k2, ⟨a2, i2, k2⟩, f3, _, fun_mk (st := s_Superposer_conclusion) l3 c3 k3, ⟨a3, i3, k3⟩⟩
theorem use {α : Sort _} {P : Prop} (a : α) (f : α → P) : P := f a
end
end G3
end
set_option Elab.async false
set_option linter.all false
open PySem PySem.W PyProof.Rows in
set_option maxRecDepth 100000 in
set_option maxHeartbeats 0 in
theorem PySem.Challenge.cw_lastproof_k39_whole_instances_conclude_i_holds : PySem.Challenge.rw_lastproof_k39_whole_instances_conclude_i.Holds := by
  w_on; o_law; k_head; (case hw => w_witness2)
  k_fill
  refine LamX.walk_ofTs (l := PySem.Challenge.rw_lastproof_k39_whole_instances_conclude_i) (n := 63) (k := 106) (x := "_law_script") (CX := fun _ => L2.CX0) rfl (by decide) rfl ⟨rfl, by decide, by decide⟩ (fun w h Y => PySem.W.km_in_of Y) ?F (fun _ _ _ _ _ z => z)
  case F =>
    intro w mg fa h Y KX G hmg
    have hT := PySem.W.km_tabs_of Y
    refine' G3.use (G3.mkAt (x := "is_variable") (st := G3.s_is_variable) KX G ?a0 ?l0 ?c0 ?k0) ?_
    (case a0 => k_is)
    (case l0 => k_is)
    (case c0 => k_is)
    (case k0 => k_is)
    intro e_is_variable
    refine' G3.use (G3.mkAt (x := "occurrences") (st := G3.s_occurrences) KX G ?a1 ?l1 ?c1 ?k1) ?_
    (case a1 => k_is)
    (case l1 => k_is)
    (case c1 => k_is)
    (case k1 => k_is)
    intro e_occurrences
    refine' G3.use (G3.mkAt (x := "collect") (st := G3.s_collect) KX G ?a2 ?l2 ?c2 ?k2) ?_
    (case a2 => k_is)
    (case l2 => k_is)
    (case c2 => k_is)
    (case k2 => k_is)
    intro e_collect
    refine' G3.use (G3.mkAt (x := "variables") (st := G3.s_variables) KX G ?a3 ?l3 ?c3 ?k3) ?_
    (case a3 => k_is)
    (case l3 => k_is)
    (case c3 => k_is)
    (case k3 => k_is)
    intro e_variables
    refine' G3.use (G3.mkAt (x := "is_atom") (st := G3.s_is_atom) KX G ?a4 ?l4 ?c4 ?k4) ?_
    (case a4 => k_is)
    (case l4 => k_is)
    (case c4 => k_is)
    (case k4 => k_is)
    intro e_is_atom
    refine' G3.use (G3.mkAt (x := "symbol_weight") (st := G3.s_symbol_weight) KX G ?a5 ?l5 ?c5 ?k5) ?_
    (case a5 => k_is)
    (case l5 => k_is)
    (case c5 => k_is)
    (case k5 => k_is)
    intro e_symbol_weight
    refine' G3.use (G3.mkAt (x := "term_weight") (st := G3.s_term_weight) KX G ?a6 ?l6 ?c6 ?k6) ?_
    (case a6 => k_is)
    (case l6 => k_is)
    (case c6 => k_is)
    (case k6 => k_is)
    intro e_term_weight
    refine' G3.use (G3.mkAt (x := "comes_before") (st := G3.s_comes_before) KX G ?a7 ?l7 ?c7 ?k7) ?_
    (case a7 => k_is)
    (case l7 => k_is)
    (case c7 => k_is)
    (case k7 => k_is)
    intro e_comes_before
    refine' G3.use (G3.mkAt (x := "head") (st := G3.s_head) KX G ?a8 ?l8 ?c8 ?k8) ?_
    (case a8 => k_is)
    (case l8 => k_is)
    (case c8 => k_is)
    (case k8 => k_is)
    intro e_head
    refine' G3.use (G3.mkAt (x := "has_all_variables") (st := G3.s_has_all_variables) KX G ?a9 ?l9 ?c9 ?k9) ?_
    (case a9 => k_is)
    (case l9 => k_is)
    (case c9 => k_is)
    (case k9 => k_is)
    intro e_has_all_variables
    refine' G3.use (G3.mkAt (x := "greater") (st := G3.s_greater) KX G ?a10 ?l10 ?c10 ?k10) ?_
    (case a10 => k_is)
    (case l10 => k_is)
    (case c10 => k_is)
    (case k10 => k_is)
    intro e_greater
    refine' G3.use (G3.mkAt (x := "greater_of_equal_weight") (st := G3.s_greater_of_equal_weight) KX G ?a11 ?l11 ?c11 ?k11) ?_
    (case a11 => k_is)
    (case l11 => k_is)
    (case c11 => k_is)
    (case k11 => k_is)
    intro e_greater_of_equal_weight
    refine' G3.use (G3.mkAt (x := "compare") (st := G3.s_compare) KX G ?a12 ?l12 ?c12 ?k12) ?_
    (case a12 => k_is)
    (case l12 => k_is)
    (case c12 => k_is)
    (case k12 => k_is)
    intro e_compare
    refine' G3.use (G3.mkAt (x := "put") (st := G3.s_put) KX G ?a13 ?l13 ?c13 ?k13) ?_
    (case a13 => k_is)
    (case l13 => k_is)
    (case c13 => k_is)
    (case k13 => k_is)
    intro e_put
    refine' G3.use (G3.mkAt (x := "put_literal") (st := G3.s_put_literal) KX G ?a14 ?l14 ?c14 ?k14) ?_
    (case a14 => k_is)
    (case l14 => k_is)
    (case c14 => k_is)
    (case k14 => k_is)
    intro e_put_literal
    refine' G3.use (G3.mkAt (x := "put_clause") (st := G3.s_put_clause) KX G ?a15 ?l15 ?c15 ?k15) ?_
    (case a15 => k_is)
    (case l15 => k_is)
    (case c15 => k_is)
    (case k15 => k_is)
    intro e_put_clause
    refine' G3.use (G3.mkAt (x := "shifted") (st := G3.s_shifted) KX G ?a16 ?l16 ?c16 ?k16) ?_
    (case a16 => k_is)
    (case l16 => k_is)
    (case c16 => k_is)
    (case k16 => k_is)
    intro e_shifted
    refine' G3.use (G3.mkAt (x := "shifted_clause") (st := G3.s_shifted_clause) KX G ?a17 ?l17 ?c17 ?k17) ?_
    (case a17 => k_is)
    (case l17 => k_is)
    (case c17 => k_is)
    (case k17 => k_is)
    intro e_shifted_clause
    refine' G3.use (G3.mkAt (x := "side") (st := G3.s_side) KX G ?a18 ?l18 ?c18 ?k18) ?_
    (case a18 => k_is)
    (case l18 => k_is)
    (case c18 => k_is)
    (case k18 => k_is)
    intro e_side
    refine' G3.use (G3.mkAt (x := "with_side") (st := G3.s_with_side) KX G ?a19 ?l19 ?c19 ?k19) ?_
    (case a19 => k_is)
    (case l19 => k_is)
    (case c19 => k_is)
    (case k19 => k_is)
    intro e_with_side
    refine' G3.use (G3.mkAt (x := "same_sides") (st := G3.s_same_sides) KX G ?a20 ?l20 ?c20 ?k20) ?_
    (case a20 => k_is)
    (case l20 => k_is)
    (case c20 => k_is)
    (case k20 => k_is)
    intro e_same_sides
    refine' G3.use (G3.mkAt (x := "same") (st := G3.s_same) KX G ?a21 ?l21 ?c21 ?k21) ?_
    (case a21 => k_is)
    (case l21 => k_is)
    (case c21 => k_is)
    (case k21 => k_is)
    intro e_same
    refine' G3.use (G3.mkAt (x := "clause_variables") (st := G3.s_clause_variables) KX G ?a22 ?l22 ?c22 ?k22) ?_
    (case a22 => k_is)
    (case l22 => k_is)
    (case c22 => k_is)
    (case k22 => k_is)
    intro e_clause_variables
    refine' G3.use (G3.mkAt (x := "index_of") (st := G3.s_index_of) KX G ?a23 ?l23 ?c23 ?k23) ?_
    (case a23 => k_is)
    (case l23 => k_is)
    (case c23 => k_is)
    (case k23 => k_is)
    intro e_index_of
    refine' G3.use (G3.mkAt (x := "is_more") (st := G3.s_is_more) KX G ?a24 ?l24 ?c24 ?k24) ?_
    (case a24 => k_is)
    (case l24 => k_is)
    (case c24 => k_is)
    (case k24 => k_is)
    intro e_is_more
    refine' G3.use (G3.mkAt (x := "equal_terms") (st := G3.s_equal_terms) KX G ?a25 ?l25 ?c25 ?k25) ?_
    (case a25 => k_is)
    (case l25 => k_is)
    (case c25 => k_is)
    (case k25 => k_is)
    intro e_equal_terms
    refine' G3.use (G3.mkAt (x := "sides_of") (st := G3.s_sides_of) KX G ?a26 ?l26 ?c26 ?k26) ?_
    (case a26 => k_is)
    (case l26 => k_is)
    (case c26 => k_is)
    (case k26 => k_is)
    intro e_sides_of
    refine' G3.use (G3.mkLam KX G ?a27 ?l27 ?c27 ?k27) ?_
    (case a27 => k_is)
    (case l27 => k_is)
    (case c27 => k_is)
    (case k27 => k_is)
    intro e_literal_greater
    refine' G3.use (G3.mkAt (x := "is_greatest") (st := G3.s_is_greatest) KX G ?a28 ?l28 ?c28 ?k28) ?_
    (case a28 => k_is)
    (case l28 => k_is)
    (case c28 => k_is)
    (case k28 => k_is)
    intro e_is_greatest
    refine' G3.use (G3.mkAt (x := "is_greatest_alone") (st := G3.s_is_greatest_alone) KX G ?a29 ?l29 ?c29 ?k29) ?_
    (case a29 => k_is)
    (case l29 => k_is)
    (case c29 => k_is)
    (case k29 => k_is)
    intro e_is_greatest_alone
    refine' G3.use (G3.mkAt (x := "may_act") (st := G3.s_may_act) KX G ?a30 ?l30 ?c30 ?k30) ?_
    (case a30 => k_is)
    (case l30 => k_is)
    (case c30 => k_is)
    (case k30 => k_is)
    intro e_may_act
    refine' G3.use (G3.mkAt (x := "may_give") (st := G3.s_may_give) KX G ?a31 ?l31 ?c31 ?k31) ?_
    (case a31 => k_is)
    (case l31 => k_is)
    (case c31 => k_is)
    (case k31 => k_is)
    intro e_may_give
    refine' G3.use (G3.mkAt (x := "may_lead") (st := G3.s_may_lead) KX G ?a32 ?l32 ?c32 ?k32) ?_
    (case a32 => k_is)
    (case l32 => k_is)
    (case c32 => k_is)
    (case k32 => k_is)
    intro e_may_lead
    refine' G3.use (G3.mkAt (x := "numbering") (st := G3.s_numbering) KX G ?a33 ?l33 ?c33 ?k33) ?_
    (case a33 => k_is)
    (case l33 => k_is)
    (case c33 => k_is)
    (case k33 => k_is)
    intro e_numbering
    refine' G3.use (G3.mkAt (x := "renamed") (st := G3.s_renamed) KX G ?a34 ?l34 ?c34 ?k34) ?_
    (case a34 => k_is)
    (case l34 => k_is)
    (case c34 => k_is)
    (case k34 => k_is)
    intro e_renamed
    refine' G3.use (G3.mkAt (x := "conclude") (st := G3.s_conclude) KX G ?a35 ?l35 ?c35 ?k35) ?_
    (case a35 => k_is)
    (case l35 => k_is)
    (case c35 => k_is)
    (case k35 => k_is)
    intro e_conclude
    refine' G3.use (G3.mkAt (x := "became") (st := G3.s_became) KX G ?a36 ?l36 ?c36 ?k36) ?_
    (case a36 => k_is)
    (case l36 => k_is)
    (case c36 => k_is)
    (case k36 => k_is)
    intro e_became
    refine' G3.use (G3.mkAt (x := "places") (st := G3.s_places) KX G ?a37 ?l37 ?c37 ?k37) ?_
    (case a37 => k_is)
    (case l37 => k_is)
    (case c37 => k_is)
    (case k37 => k_is)
    intro e_places
    refine' G3.use (G3.mkAt (x := "at") (st := G3.s_at) KX G ?a38 ?l38 ?c38 ?k38) ?_
    (case a38 => k_is)
    (case l38 => k_is)
    (case c38 => k_is)
    (case k38 => k_is)
    intro e_at
    refine' G3.use (G3.mkAt (x := "put_inside") (st := G3.s_put_inside) KX G ?a39 ?l39 ?c39 ?k39) ?_
    (case a39 => k_is)
    (case l39 => k_is)
    (case c39 => k_is)
    (case k39 => k_is)
    intro e_put_inside
    refine' G3.use (G3.mkAt (x := "put_at") (st := G3.s_put_at) KX G ?a40 ?l40 ?c40 ?k40) ?_
    (case a40 => k_is)
    (case l40 => k_is)
    (case c40 => k_is)
    (case k40 => k_is)
    intro e_put_at
    refine' G3.use (G3.mkAt (x := "bind") (st := G3.s_bind) KX G ?a41 ?l41 ?c41 ?k41) ?_
    (case a41 => k_is)
    (case l41 => k_is)
    (case c41 => k_is)
    (case k41 => k_is)
    intro e_bind
    refine' G3.use (G3.mkAt (x := "unify") (st := G3.s_unify) KX G ?a42 ?l42 ?c42 ?k42) ?_
    (case a42 => k_is)
    (case l42 => k_is)
    (case c42 => k_is)
    (case k42 => k_is)
    intro e_unify
    refine' G3.use (G3.mkAt (x := "spots") (st := G3.s_spots) KX G ?a43 ?l43 ?c43 ?k43) ?_
    (case a43 => k_is)
    (case l43 => k_is)
    (case c43 => k_is)
    (case k43 => k_is)
    intro e_spots
    refine' G3.use (G3.mkAt (x := "leads") (st := G3.s_leads) KX G ?a44 ?l44 ?c44 ?k44) ?_
    (case a44 => k_is)
    (case l44 => k_is)
    (case c44 => k_is)
    (case k44 => k_is)
    intro e_leads
    refine' G3.use (G3.mkAt (x := "superpositions") (st := G3.s_superpositions) KX G ?a45 ?l45 ?c45 ?k45) ?_
    (case a45 => k_is)
    (case l45 => k_is)
    (case c45 => k_is)
    (case k45 => k_is)
    intro e_superpositions
    refine' G3.use (G3.mkAt (x := "factoring") (st := G3.s_factoring) KX G ?a46 ?l46 ?c46 ?k46) ?_
    (case a46 => k_is)
    (case l46 => k_is)
    (case c46 => k_is)
    (case k46 => k_is)
    intro e_factoring
    refine' G3.use (G3.mkAt (x := "pairs_of_sides") (st := G3.s_pairs_of_sides) KX G ?a47 ?l47 ?c47 ?k47) ?_
    (case a47 => k_is)
    (case l47 => k_is)
    (case c47 => k_is)
    (case k47 => k_is)
    intro e_pairs_of_sides
    refine' G3.use (G3.mkAt (x := "factorings") (st := G3.s_factorings) KX G ?a48 ?l48 ?c48 ?k48) ?_
    (case a48 => k_is)
    (case l48 => k_is)
    (case c48 => k_is)
    (case k48 => k_is)
    intro e_factorings
    refine' G3.use (G3.mkAt (x := "resolution") (st := G3.s_resolution) KX G ?a49 ?l49 ?c49 ?k49) ?_
    (case a49 => k_is)
    (case l49 => k_is)
    (case c49 => k_is)
    (case k49 => k_is)
    intro e_resolution
    refine' G3.use (G3.mkAt (x := "resolutions") (st := G3.s_resolutions) KX G ?a50 ?l50 ?c50 ?k50) ?_
    (case a50 => k_is)
    (case l50 => k_is)
    (case c50 => k_is)
    (case k50 => k_is)
    intro e_resolutions
    refine' G3.use (G3.mkAt (x := "_law_cell") (st := G3.s__law_cell) KX G ?a51 ?l51 ?c51 ?k51) ?_
    (case a51 => k_is)
    (case l51 => k_is)
    (case c51 => k_is)
    (case k51 => k_is)
    intro e__law_cell
    refine' G3.use (G3.mkAt (x := "_law_weights") (st := G3.s__law_weights) KX G ?a52 ?l52 ?c52 ?k52) ?_
    (case a52 => k_is)
    (case l52 => k_is)
    (case c52 => k_is)
    (case k52 => k_is)
    intro e__law_weights
    refine' G3.use (G3.mkAt (x := "_law_symbol") (st := G3.s__law_symbol) KX G ?a53 ?l53 ?c53 ?k53) ?_
    (case a53 => k_is)
    (case l53 => k_is)
    (case c53 => k_is)
    (case k53 => k_is)
    intro e__law_symbol
    refine' G3.use (G3.mkAt (x := "_law_term") (st := G3.s__law_term) KX G ?a54 ?l54 ?c54 ?k54) ?_
    (case a54 => k_is)
    (case l54 => k_is)
    (case c54 => k_is)
    (case k54 => k_is)
    intro e__law_term
    refine' G3.use (G3.mkAt (x := "_law_atom") (st := G3.s__law_atom) KX G ?a55 ?l55 ?c55 ?k55) ?_
    (case a55 => k_is)
    (case l55 => k_is)
    (case c55 => k_is)
    (case k55 => k_is)
    intro e__law_atom
    refine' G3.use (G3.mkAt (x := "_law_literal") (st := G3.s__law_literal) KX G ?a56 ?l56 ?c56 ?k56) ?_
    (case a56 => k_is)
    (case l56 => k_is)
    (case c56 => k_is)
    (case k56 => k_is)
    intro e__law_literal
    refine' G3.use (G3.mkAt (x := "_law_clause") (st := G3.s__law_clause) KX G ?a57 ?l57 ?c57 ?k57) ?_
    (case a57 => k_is)
    (case l57 => k_is)
    (case c57 => k_is)
    (case k57 => k_is)
    intro e__law_clause
    refine' G3.use (G3.mkAt (x := "_law_is_variable") (st := G3.s__law_is_variable) KX G ?a58 ?l58 ?c58 ?k58) ?_
    (case a58 => k_is)
    (case l58 => k_is)
    (case c58 => k_is)
    (case k58 => k_is)
    intro e__law_is_variable
    refine' G3.use (G3.mkAt (x := "_law_positive_clause") (st := G3.s__law_positive_clause) KX G ?a59 ?l59 ?c59 ?k59) ?_
    (case a59 => k_is)
    (case l59 => k_is)
    (case c59 => k_is)
    (case k59 => k_is)
    intro e__law_positive_clause
    refine' G3.use (G3.mkAt (x := "_law_selected") (st := G3.s__law_selected) KX G ?a60 ?l60 ?c60 ?k60) ?_
    (case a60 => k_is)
    (case l60 => k_is)
    (case c60 => k_is)
    (case k60 => k_is)
    intro e__law_selected
    refine' G3.use (G3.mkAt (x := "_law_ground") (st := G3.s__law_ground) KX G ?a61 ?l61 ?c61 ?k61) ?_
    (case a61 => k_is)
    (case l61 => k_is)
    (case c61 => k_is)
    (case k61 => k_is)
    intro e__law_ground
    refine' G3.use (G3.mkAt (x := "_law_ground_substitution") (st := G3.s__law_ground_substitution) KX G ?a62 ?l62 ?c62 ?k62) ?_
    (case a62 => k_is)
    (case l62 => k_is)
    (case c62 => k_is)
    (case k62 => k_is)
    intro e__law_ground_substitution
    refine' G3.use (G3.mkAt (x := "_law_put") (st := G3.s__law_put) KX G ?a63 ?l63 ?c63 ?k63) ?_
    (case a63 => k_is)
    (case l63 => k_is)
    (case c63 => k_is)
    (case k63 => k_is)
    intro e__law_put
    refine' G3.use (G3.mkAt (x := "_law_put_clause") (st := G3.s__law_put_clause) KX G ?a64 ?l64 ?c64 ?k64) ?_
    (case a64 => k_is)
    (case l64 => k_is)
    (case c64 => k_is)
    (case k64 => k_is)
    intro e__law_put_clause
    refine' G3.use (G3.mkAt (x := "_law_places") (st := G3.s__law_places) KX G ?a65 ?l65 ?c65 ?k65) ?_
    (case a65 => k_is)
    (case l65 => k_is)
    (case c65 => k_is)
    (case k65 => k_is)
    intro e__law_places
    refine' G3.use (G3.mkAt (x := "_law_is_atom") (st := G3.s__law_is_atom) KX G ?a66 ?l66 ?c66 ?k66) ?_
    (case a66 => k_is)
    (case l66 => k_is)
    (case c66 => k_is)
    (case k66 => k_is)
    intro e__law_is_atom
    refine' G3.use (G3.mkAt (x := "_law_match") (st := G3.s__law_match) KX G ?a67 ?l67 ?c67 ?k67) ?_
    (case a67 => k_is)
    (case l67 => k_is)
    (case c67 => k_is)
    (case k67 => k_is)
    intro e__law_match
    refine' G3.use (G3.mkAt (x := "_law_is_instance") (st := G3.s__law_is_instance) KX G ?a68 ?l68 ?c68 ?k68) ?_
    (case a68 => k_is)
    (case l68 => k_is)
    (case c68 => k_is)
    (case k68 => k_is)
    intro e__law_is_instance
    refine' G3.use (G3.mkAt (x := "_law_is_above") (st := G3.s__law_is_above) KX G ?a69 ?l69 ?c69 ?k69) ?_
    (case a69 => k_is)
    (case l69 => k_is)
    (case c69 => k_is)
    (case k69 => k_is)
    intro e__law_is_above
    refine' G3.use (G3.mkAt (x := "_law_kinds_agree") (st := G3.s__law_kinds_agree) KX G ?a70 ?l70 ?c70 ?k70) ?_
    (case a70 => k_is)
    (case l70 => k_is)
    (case c70 => k_is)
    (case k70 => k_is)
    intro e__law_kinds_agree
    refine' G3.use (G3.mkAt (x := "_law_spot") (st := G3.s__law_spot) KX G ?a71 ?l71 ?c71 ?k71) ?_
    (case a71 => k_is)
    (case l71 => k_is)
    (case c71 => k_is)
    (case k71 => k_is)
    intro e__law_spot
    refine' G3.use (G3.mkAt (x := "_law_covered") (st := G3.s__law_covered) KX G ?a72 ?l72 ?c72 ?k72) ?_
    (case a72 => k_is)
    (case l72 => k_is)
    (case c72 => k_is)
    (case k72 => k_is)
    intro e__law_covered
    refine' G3.use (G3.mkAt (x := "law") (st := G3.s_law) KX G ?a73 ?l73 ?c73 ?k73) ?_
    (case a73 => k_is)
    (case l73 => k_is)
    (case c73 => k_is)
    (case k73 => k_is)
    intro e_law
    refine' G3.use (G3.mkClC KX G ?cCaC ?cCpg ?cChd ?cCpo ?cCsa ?cCmk ?cCkc ?cCa1 ?cCi1 ?cCl1 ?cCc1 ?cCk1 ?cCn0 ?cCn1 ?cCn2 ?cCn3 ?cCn4 ?cCn5 ?cCn6 ?cCn7 ?cCn8) ?_
    (case cCaC => k_is)
    (case cCpg => k_is)
    (case cChd => k_is)
    (case cCpo => k_is)
    (case cCsa => k_is)
    (case cCmk => k_is)
    (case cCkc => k_is)
    (case cCa1 => k_is)
    (case cCi1 => k_is)
    (case cCl1 => k_is)
    (case cCc1 => k_is)
    (case cCk1 => k_is)
    (case cCn0 => k_is)
    (case cCn1 => k_is)
    (case cCn2 => k_is)
    (case cCn3 => k_is)
    (case cCn4 => k_is)
    (case cCn5 => k_is)
    (case cCn6 => k_is)
    (case cCn7 => k_is)
    (case cCn8 => k_is)
    intro cC
    refine' G3.use (G3.mkClS KX G ?cSaC ?cSpg ?cShd ?cSpo ?cSsa ?cSmk ?cSkc ?cSa1 ?cSi1 ?cSl1 ?cSc1 ?cSk1 ?cSa2 ?cSi2 ?cSl2 ?cSc2 ?cSk2 ?cSa3 ?cSi3 ?cSl3 ?cSc3 ?cSk3 ?cSn0 ?cSn1 ?cSn2 ?cSn3 ?cSn4 ?cSn5 ?cSn6) ?_
    (case cSaC => k_is)
    (case cSpg => k_is)
    (case cShd => k_is)
    (case cSpo => k_is)
    (case cSsa => k_is)
    (case cSmk => k_is)
    (case cSkc => k_is)
    (case cSa1 => k_is)
    (case cSi1 => k_is)
    (case cSl1 => k_is)
    (case cSc1 => k_is)
    (case cSk1 => k_is)
    (case cSa2 => k_is)
    (case cSi2 => k_is)
    (case cSl2 => k_is)
    (case cSc2 => k_is)
    (case cSk2 => k_is)
    (case cSa3 => k_is)
    (case cSi3 => k_is)
    (case cSl3 => k_is)
    (case cSc3 => k_is)
    (case cSk3 => k_is)
    (case cSn0 => k_is)
    (case cSn1 => k_is)
    (case cSn2 => k_is)
    (case cSn3 => k_is)
    (case cSn4 => k_is)
    (case cSn5 => k_is)
    (case cSn6 => k_is)
    intro cS
    refine' G3.use (PySem.W.mg_none_of (n := "isinstance") KX G ?zisinstance) ?_
    (case zisinstance => k_is)
    intro m_isinstance
    refine' G3.use (PySem.W.mg_none_of (n := "int") KX G ?zint) ?_
    (case zint => k_is)
    intro m_int
    refine' G3.use (PySem.W.mg_none_of (n := "list") KX G ?zlist) ?_
    (case zlist => k_is)
    intro m_list
    refine' G3.use (PySem.W.mg_none_of (n := "tuple") KX G ?ztuple) ?_
    (case ztuple => k_is)
    intro m_tuple
    refine' G3.use (PySem.W.mg_none_of (n := "len") KX G ?zlen) ?_
    (case zlen => k_is)
    intro m_len
    refine' G3.use (PySem.W.mg_none_of (n := "any") KX G ?zany) ?_
    (case zany => k_is)
    intro m_any
    refine' G3.use (PySem.W.mg_none_of (n := "max") KX G ?zmax) ?_
    (case zmax => k_is)
    intro m_max
    refine' G3.use (PySem.W.mg_none_of (n := "range") KX G ?zrange) ?_
    (case zrange => k_is)
    intro m_range
    refine' G3.use (PySem.W.mg_none_of (n := "enumerate") KX G ?zenumerate) ?_
    (case zenumerate => k_is)
    intro m_enumerate
    refine' G3.use (PySem.W.mg_none_of (n := "zip") KX G ?zzip) ?_
    (case zzip => k_is)
    intro m_zip
    have hmg2 : mg "law" = some (.ref fa) := hmg
    refine' G3.law_at ⟨e_is_variable, e_occurrences, e_collect, e_variables, e_is_atom, e_symbol_weight, e_term_weight, e_comes_before, e_head, e_has_all_variables, e_greater, e_greater_of_equal_weight, e_compare, e_put, e_put_literal, e_put_clause, e_shifted, e_shifted_clause, e_side, e_with_side, e_same_sides, e_same, e_clause_variables, e_index_of, e_is_more, e_equal_terms, e_sides_of, e_literal_greater.A, e_is_greatest, e_is_greatest_alone, e_may_act, e_may_give, e_may_lead, e_numbering, e_renamed, e_conclude, e_became, e_places, e_at, e_put_inside, e_put_at, e_bind, e_unify, e_spots, e_leads, e_superpositions, e_factoring, e_pairs_of_sides, e_factorings, e_resolution, e_resolutions, e__law_cell, e__law_weights, e__law_symbol, e__law_term, e__law_atom, e__law_literal, e__law_clause, e__law_is_variable, e__law_positive_clause, e__law_selected, e__law_ground, e__law_ground_substitution, e__law_put, e__law_put_clause, e__law_places, e__law_is_atom, e__law_match, e__law_is_instance, e__law_is_above, e__law_kinds_agree, e__law_spot, e__law_covered, e_law, m_isinstance, m_int, m_list, m_tuple, m_len, m_any, m_max, m_range, m_enumerate, m_zip⟩ cC cS hmg2 e_literal_greater.ex (hT _ ?t1) ?t2 (PySem.W.codeHd_of_K KX ?t3)
    (case t1 => exact List.mem_cons_self)
    (case t2 => kernel_rfl)
    (case t3 => kernel_rfl)
