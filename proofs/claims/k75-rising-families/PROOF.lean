import PyProof.Rows.All
import Wide.All
import OpenK.AllK
import Wide.FinOn
import HandS.ForMost
import HandS.Deep
import HandS.IsInst
import HandS.Zip
import HandS.Conv
import HandS.TupAny
import HandS.Codes
import HandS.Wide
import HandS.WordsExc
import KE.SortData
import KE.DataCmp
import KE.KDictKeyed
import KE.KeyNested
import KE.Datum
import KE.DatumOrd
import KE.DataEq
import HandS.TupSets
import HandS.TupLe
import PySem.Challenge.RW_orderslaid_k75_whole_rising_families
set_option Elab.async false
set_option linter.all false
set_option maxRecDepth 100000
set_option maxHeartbeats 4000000
/-! G0: data in the heap (Is), slots that hold data or own objects (Env), what an expression gives (DE, DF, DT). -/
namespace G
open PySem PySem.Spec L2

abbrev Ad := Addr → Prop
def ins (p : Addr) (O : Ad) : Ad := fun a => a = p ∨ O a
def none0 : Ad := fun _ => False

/-- what stood stands -/
abbrev Ex (H H' : Hp) : Prop := ∀ a o, H a = some o → H' a = some o
/-- .. but at O -/
def Fr (O : Ad) (H H' : Hp) : Prop := ∀ a o, H a = some o → ¬ O a → H' a = some o
theorem Ex.rfl {H : Hp} : Ex H H := fun _ _ h => h
theorem Ex.tr {H H1 H2 : Hp} (a : Ex H H1) (b : Ex H1 H2) : Ex H H2 := fun x o h => b x o (a x o h)
theorem Ex.new {H : Hp} {p : Addr} {o : HO} (h : H p = none) : Ex H (upd H p o) := fun a u e => by
  rw [upd_ne (ne_of_none e h)]
  exact e
theorem Ex.none {H H' : Hp} {p : Addr} (e : Ex H H') (h : H' p = none) : H p = none := by
  cases q : H p with
  | none => rfl
  | some o => rw [e p o q] at h; cases h
theorem Ex.fr {O : Ad} {H H' : Hp} (e : Ex H H') : Fr O H H' := fun a o h _ => e a o h
theorem Fr.rfl {O : Ad} {H : Hp} : Fr O H H := fun _ _ h _ => h
theorem Fr.tr {O : Ad} {H H1 H2 : Hp} (a : Fr O H H1) (b : Fr O H1 H2) : Fr O H H2 := fun x o h n => b x o (a x o h n) n
theorem Fr.mono {O O' : Ad} {H H' : Hp} (e : Fr O H H') (h : ∀ a, O a → O' a) : Fr O' H H' := fun a o q n => e a o q fun z => n (h a z)

/-- a list, a tuple at a that is no own one -/
def Ls (_ : PySem.W.Frag) (O : Ad) (H : Hp) (a : Addr) (xs : List V) : Prop := H a = some (.lst xs) ∧ ¬ O a
def Ts (K : PySem.W.Frag) (O : Ad) (H : Hp) (a : Addr) (xs : List V) : Prop := (Rd H a (.tup xs) ∧ ¬ O a) ∨ ∀ H', SqT K H' a xs
theorem Rd.fr {O : Ad} {H H' : Hp} {a : Addr} {u : HO} (e : Fr O H H') (n : ¬ O a) (h : Rd H a u) : Rd H' a u := by
  rcases h with h | ⟨o, h⟩
  · exact .inl (e a _ h n)
  · exact .inr ⟨o, e a _ h n⟩
theorem Ls.fr {K : PySem.W.Frag} {O : Ad} {H H' : Hp} {a : Addr} {xs : List V} (e : Fr O H H') (h : Ls K O H a xs) : Ls K O H' a xs := ⟨e a _ h.1 h.2, h.2⟩
theorem Ts.fr {K : PySem.W.Frag} {O : Ad} {H H' : Hp} {a : Addr} {xs : List V} (e : Fr O H H') (h : Ts K O H a xs) : Ts K O H' a xs := by
  rcases h with ⟨h, n⟩ | h
  · exact .inl ⟨Rd.fr e n h, n⟩
  · exact .inr h
theorem Ls.sq {K : PySem.W.Frag} {O : Ad} {H : Hp} {a : Addr} {xs : List V} (h : Ls K O H a xs) : SqL K H a xs := .inl (.inl h.1)
theorem Ts.sq {K : PySem.W.Frag} {O : Ad} {H : Hp} {a : Addr} {xs : List V} (h : Ts K O H a xs) : SqT K H a xs := by
  rcases h with ⟨h, _⟩ | h
  · exact .inl h
  · exact h H
theorem Ls.less {K : PySem.W.Frag} {O O' : Ad} {H : Hp} {a : Addr} {xs : List V} (s : ∀ a, O' a → O a) (h : Ls K O H a xs) : Ls K O' H a xs := ⟨h.1, fun z => h.2 (s a z)⟩
theorem Ts.less {K : PySem.W.Frag} {O O' : Ad} {H : Hp} {a : Addr} {xs : List V} (s : ∀ a, O' a → O a) (h : Ts K O H a xs) : Ts K O' H a xs := by
  rcases h with ⟨h, n⟩ | h
  · exact .inl ⟨h, fun z => n (s a z)⟩
  · exact .inr h
theorem Rd.some {H : Hp} {a : Addr} {u : HO} (h : Rd H a u) : ∃ o, H a = some o := by
  rcases h with h | ⟨o, h⟩
  · exact ⟨_, h⟩
  · exact ⟨_, h⟩
theorem Ls.ins {K : PySem.W.Frag} {O : Ad} {H : Hp} {a p : Addr} {xs : List V} (hp : H p = none) (h : Ls K O H a xs) : Ls K (ins p O) H a xs := ⟨h.1, fun z => by
  rcases z with z | z
  · have q := h.1
    rw [z, hp] at q
    cases q
  · exact h.2 z⟩
theorem Ts.ins {K : PySem.W.Frag} {O : Ad} {H : Hp} {a p : Addr} {xs : List V} (hp : H p = none) (h : Ts K O H a xs) : Ts K (ins p O) H a xs := by
  rcases h with ⟨h, n⟩ | h
  · refine .inl ⟨h, fun z => ?_⟩
    rcases z with z | z
    · obtain ⟨o, q⟩ := Rd.some h
      rw [z, hp] at q
      cases q
    · exact n z
  · exact .inr h

/-! ### data in the heap -/
mutual
inductive Is (K : PySem.W.Frag) (O : Ad) (H : Hp) : V → PyData → Prop
  | non : Is K O H .non .none
  | bl (b : Bool) : Is K O H (.bl b) (.bool b)
  | int (i : Int) : Is K O H (.int i) (.int i)
  | str (x : Str) : Is K O H (.str x) (.str x)
  | lst {a : Addr} {xs : List V} {ds : List PyData} : Ls K O H a xs → IsAll K O H xs ds → Is K O H (.ref a) (.list ds)
  | tup {a : Addr} {xs : List V} {ds : List PyData} : Ts K O H a xs → IsAll K O H xs ds → Is K O H (.ref a) (.tuple ds)
inductive IsAll (K : PySem.W.Frag) (O : Ad) (H : Hp) : List V → List PyData → Prop
  | nil : IsAll K O H [] []
  | cons {v : V} {vs : List V} {d : PyData} {ds : List PyData} : Is K O H v d → IsAll K O H vs ds → IsAll K O H (v :: vs) (d :: ds)
end
section
variable {K : PySem.W.Frag} {O O' : Ad} {H H' : Hp}
mutual
theorem Is.fr (e : Fr O H H') : ∀ {d : PyData} {v : V}, Is K O H v d → Is K O H' v d
  | .none, _, h => by cases h; exact .non
  | .bool b, _, h => by cases h; exact .bl b
  | .int i, _, h => by cases h; exact .int i
  | .str x, _, h => by cases h; exact .str x
  | .list ds, _, h => by
    cases h with
    | lst h1 h2 => exact .lst (h1.fr e) (IsAll.fr e h2)
  | .tuple ds, _, h => by
    cases h with
    | tup h1 h2 => exact .tup (h1.fr e) (IsAll.fr e h2)
  | .dict _, _, h => by cases h
theorem IsAll.fr (e : Fr O H H') : ∀ {ds : List PyData} {vs : List V}, IsAll K O H vs ds → IsAll K O H' vs ds
  | [], _, h => by cases h; exact .nil
  | d :: ds, _, h => by
    cases h with
    | cons h1 h2 => exact .cons (Is.fr e h1) (IsAll.fr e h2)
end
mutual
theorem Is.less (s : ∀ a, O' a → O a) : ∀ {d : PyData} {v : V}, Is K O H v d → Is K O' H v d
  | .none, _, h => by cases h; exact .non
  | .bool b, _, h => by cases h; exact .bl b
  | .int i, _, h => by cases h; exact .int i
  | .str x, _, h => by cases h; exact .str x
  | .list ds, _, h => by
    cases h with
    | lst h1 h2 => exact .lst (h1.less s) (IsAll.less s h2)
  | .tuple ds, _, h => by
    cases h with
    | tup h1 h2 => exact .tup (h1.less s) (IsAll.less s h2)
  | .dict _, _, h => by cases h
theorem IsAll.less (s : ∀ a, O' a → O a) : ∀ {ds : List PyData} {vs : List V}, IsAll K O H vs ds → IsAll K O' H vs ds
  | [], _, h => by cases h; exact .nil
  | d :: ds, _, h => by
    cases h with
    | cons h1 h2 => exact .cons (Is.less s h1) (IsAll.less s h2)
end
mutual
theorem Is.ins {p : Addr} (hp : H p = none) : ∀ {d : PyData} {v : V}, Is K O H v d → Is K (G.ins p O) H v d
  | .none, _, h => by cases h; exact .non
  | .bool b, _, h => by cases h; exact .bl b
  | .int i, _, h => by cases h; exact .int i
  | .str x, _, h => by cases h; exact .str x
  | .list ds, _, h => by
    cases h with
    | lst h1 h2 => exact .lst (h1.ins hp) (IsAll.ins hp h2)
  | .tuple ds, _, h => by
    cases h with
    | tup h1 h2 => exact .tup (h1.ins hp) (IsAll.ins hp h2)
  | .dict _, _, h => by cases h
theorem IsAll.ins {p : Addr} (hp : H p = none) : ∀ {ds : List PyData} {vs : List V}, IsAll K O H vs ds → IsAll K (G.ins p O) H vs ds
  | [], _, h => by cases h; exact .nil
  | d :: ds, _, h => by
    cases h with
    | cons h1 h2 => exact .cons (Is.ins hp h1) (IsAll.ins hp h2)
end
mutual
theorem Is.dp : ∀ {d : PyData} {v : V}, Is K O H v d → Dp K H v d
  | .none, _, h => by cases h; exact .non
  | .bool b, _, h => by cases h; exact .bl b
  | .int i, _, h => by cases h; exact .int i
  | .str x, _, h => by cases h; exact .str x
  | .list ds, _, h => by
    cases h with
    | lst h1 h2 => exact .lst h1.sq (IsAll.dp h2)
  | .tuple ds, _, h => by
    cases h with
    | tup h1 h2 => exact .tup h1.sq (IsAll.dp h2)
  | .dict _, _, h => by cases h
theorem IsAll.dp : ∀ {ds : List PyData} {vs : List V}, IsAll K O H vs ds → DpAll K H vs ds
  | [], _, h => by cases h; exact .nil
  | d :: ds, _, h => by
    cases h with
    | cons h1 h2 => exact .cons (Is.dp h1) (IsAll.dp h2)
end
theorem Is.ex (e : Ex H H') {d : PyData} {v : V} (h : Is K O H v d) : Is K O H' v d := h.fr e.fr
theorem IsAll.ex (e : Ex H H') {ds : List PyData} {vs : List V} (h : IsAll K O H vs ds) : IsAll K O H' vs ds := h.fr e.fr
theorem IsAll.len : ∀ {ds : List PyData} {vs : List V}, IsAll K O H vs ds → vs.length = ds.length
  | [], _, h => by cases h; rfl
  | d :: ds, _, h => by
    cases h with
    | cons h1 h2 => rw [List.length_cons, List.length_cons, IsAll.len h2]
theorem IsAll.get : ∀ {ds : List PyData} {vs : List V} {i : Nat} {v : V}, IsAll K O H vs ds → vs[i]? = some v → ∃ d, ds[i]? = some d ∧ Is K O H v d
  | [], _, i, v, h, q => by cases h; simp at q
  | d :: ds, _, i, v, h, q => by
    cases h with
    | cons h1 h2 =>
      cases i with
      | zero => simp at q; subst q; exact ⟨d, rfl, h1⟩
      | succ i => simpa using IsAll.get h2 (i := i) (by simpa using q)
theorem IsAll.get' : ∀ {ds : List PyData} {vs : List V} {i : Nat} {d : PyData}, IsAll K O H vs ds → ds[i]? = some d → ∃ v, vs[i]? = some v ∧ Is K O H v d
  | [], _, i, d, h, q => by simp at q
  | d :: ds, _, i, d', h, q => by
    cases h with
    | cons h1 h2 =>
      cases i with
      | zero => simp at q; subst q; exact ⟨_, rfl, h1⟩
      | succ i => simpa using IsAll.get' h2 (i := i) (by simpa using q)
theorem IsAll.app : ∀ {ds es : List PyData} {vs us : List V}, IsAll K O H vs ds → IsAll K O H us es → IsAll K O H (vs ++ us) (ds ++ es)
  | [], es, _, us, h, q => by cases h; exact q
  | d :: ds, es, _, us, h, q => by
    cases h with
    | cons h1 h2 => exact .cons h1 (IsAll.app h2 q)
theorem IsAll.one {d : PyData} {v : V} (h : Is K O H v d) : IsAll K O H [v] [d] := .cons h .nil
theorem IsAll.take : ∀ {ds : List PyData} {vs : List V} (n : Nat), IsAll K O H vs ds → IsAll K O H (vs.take n) (ds.take n)
  | _, _, 0, _ => by rw [List.take_zero, List.take_zero]; exact .nil
  | [], _, n + 1, h => by cases h; exact .nil
  | d :: ds, _, n + 1, h => by
    cases h with
    | cons h1 h2 => exact .cons h1 (IsAll.take n h2)
theorem IsAll.drop : ∀ {ds : List PyData} {vs : List V} (n : Nat), IsAll K O H vs ds → IsAll K O H (vs.drop n) (ds.drop n)
  | _, _, 0, h => h
  | [], _, n + 1, h => by cases h; exact .nil
  | d :: ds, _, n + 1, h => by
    cases h with
    | cons h1 h2 => exact IsAll.drop n h2
theorem IsAll.set : ∀ {ds : List PyData} {vs : List V} (n : Nat) {d : PyData} {v : V}, IsAll K O H vs ds → Is K O H v d → IsAll K O H (vs.set n v) (ds.set n d)
  | [], _, n, d, v, h, _ => by cases h; exact .nil
  | d :: ds, _, 0, _, _, h, q => by
    cases h with
    | cons h1 h2 => exact .cons q h2
  | d :: ds, _, n + 1, _, _, h, q => by
    cases h with
    | cons h1 h2 => exact .cons h1 (IsAll.set n h2 q)
theorem IsAll.erase : ∀ {ds : List PyData} {vs : List V} (n : Nat), IsAll K O H vs ds → IsAll K O H (vs.eraseIdx n) (ds.eraseIdx n)
  | [], _, n, h => by cases h; exact .nil
  | d :: ds, _, 0, h => by
    cases h with
    | cons h1 h2 => exact h2
  | d :: ds, _, n + 1, h => by
    cases h with
    | cons h1 h2 => exact .cons h1 (IsAll.erase n h2)
end

/-- what can be read now: its own list's address may be an own one -/
inductive Iw (K : PySem.W.Frag) (O : Ad) (H : Hp) : V → PyData → Prop
  | is {v : V} {d : PyData} (h : Is K O H v d) : Iw K O H v d
  | own {a : Addr} {xs : List V} {ds : List PyData} (h : H a = some (.lst xs)) (q : IsAll K O H xs ds) : Iw K O H (.ref a) (.list ds)
section
variable {K : PySem.W.Frag} {O O' : Ad} {H H' : Hp} {v : V}
theorem Iw.dp {d : PyData} (h : Iw K O H v d) : Dp K H v d := by
  cases h with
  | is h => exact h.dp
  | own h q => exact .lst (.inl (.inl h)) q.dp
theorem Iw.int {i : Int} (h : Iw K O H v (.int i)) : v = .int i := by
  cases h with
  | is h => cases h; rfl
theorem Iw.bl {b : Bool} (h : Iw K O H v (.bool b)) : v = .bl b := by
  cases h with
  | is h => cases h; rfl
theorem Iw.str {x : Str} (h : Iw K O H v (.str x)) : v = .str x := by
  cases h with
  | is h => cases h; rfl
theorem Iw.non (h : Iw K O H v .none) : v = .non := by
  cases h with
  | is h => cases h; rfl
theorem Iw.lst {ds : List PyData} (h : Iw K O H v (.list ds)) : ∃ a xs, v = .ref a ∧ H a = some (.lst xs) ∧ IsAll K O H xs ds := by
  cases h with
  | is h => cases h with | lst h1 h2 => exact ⟨_, _, rfl, h1.1, h2⟩
  | own h q => exact ⟨_, _, rfl, h, q⟩
theorem Iw.tup {ds : List PyData} (h : Iw K O H v (.tuple ds)) : ∃ a xs, v = .ref a ∧ Ts K O H a xs ∧ IsAll K O H xs ds := by
  cases h with
  | is h => cases h with | tup h1 h2 => exact ⟨_, _, rfl, h1, h2⟩
theorem Is.int' {i : Int} (h : Is K O H v (.int i)) : v = .int i := by cases h; rfl
theorem Is.bl' {b : Bool} (h : Is K O H v (.bool b)) : v = .bl b := by cases h; rfl
theorem Is.str' {x : Str} (h : Is K O H v (.str x)) : v = .str x := by cases h; rfl
theorem Is.non' (h : Is K O H v .none) : v = .non := by cases h; rfl
end
end G
set_option Elab.async false
set_option linter.all false
set_option maxRecDepth 100000
set_option maxHeartbeats 4000000
/-! G1: slots (data, own objects, raw values), the state Sta, what expressions give (DE, DF, DT, DA). -/
namespace G
open PySem PySem.Spec L2

/-- what an own object holds -/
inductive Co where
  | l (ds : List PyData)
  | k (kvs : List (Key × PyData))
  | t (kvs : List (List Key × PyData))
  /-- a dict whose keys are tuples, nested -/
  | m (w : World) (kvs : List (PyData × PyData))
inductive S where
  | d (d : PyData)
  | o (b : Bool) (c : Co)
  | v (v : V)
abbrev Dl := List (Option S)
inductive R where
  | d (d : PyData)
  | s (i : Nat)
  | v (v : V)
def res (δ : Dl) : R → Option PyData
  | .d d => some d
  | .s i => match δ[i]? with
    | some (some (.o _ (.l ds))) => some (.list ds)
    | _ => none
  | .v _ => none

inductive IsKV {κ : Type} (K : PySem.W.Frag) (O : Ad) (H : Hp) : List (κ × V) → List (κ × PyData) → Prop
  | nil : IsKV K O H [] []
  | cons {k : κ} {v : V} {d : PyData} {vs : List (κ × V)} {ds : List (κ × PyData)} : Is K O H v d → IsKV K O H vs ds → IsKV K O H ((k, v) :: vs) ((k, d) :: ds)
/-! data as a key -/
mutual
def nk : PyData → Option NestedKey
  | .none => some .none
  | .bool b => some (.num (if b = true then 1 else 0))
  | .int i => some (.num i)
  | .str x => some (.text x)
  | .tuple ds => (nkAll ds).map .tup
  | .list _ => none
  | .dict _ => none
def nkAll : List PyData → Option (List NestedKey)
  | [] => some []
  | d :: ds => match nk d, nkAll ds with
    | some k, some ks => some (k :: ks)
    | _, _ => none
end
/-- an entry of a dict: its key, where the key's tuple stands, its value -/
structure Mn where
  k : NestedKey
  a : Addr
  x : V
  u : Value
def mEnt (w : World) (e : Mn) : DictEntry := ⟨e.k.hash w, .ref e.a, e.u⟩
inductive MP (K : PySem.W.Frag) (O : Ad) (H : Hp) : List Mn → List (PyData × PyData) → Prop
  | nil : MP K O H [] []
  | cons {e : Mn} {d v : PyData} {es : List Mn} {kvs : List (PyData × PyData)} : nk d = some e.k → e.k.depth ≤ 8 → Is K O H (.ref e.a) d → Is K O H e.x v → RelV e.x e.u → MP K O H es kvs → MP K O H (e :: es) ((d, v) :: kvs)
def MRaw (w : World) (p : Addr) (es : List Mn) (h : Heap) : Prop := ∃ o ds ep, h.get? p = some o ∧ o.ExactDict ∧ o.data = .dict ds ep ∧ ds.toList = es.map (mEnt w)
def CoIs (K : PySem.W.Frag) (O : Ad) (H : Hp) (p : Addr) : Co → HO → Prop
  | .l ds, .lst xs => IsAll K O H xs ds
  | .k kvs, .dK ws => IsKV K O H ws kvs
  | .t kvs, .dT ws => IsKV K O H ws kvs
  | .m w kvs, .ext φ => ∃ es : List Mn, φ = MRaw w p es ∧ MP K O H es kvs ∧ (es.map (·.k)).Nodup ∧ es.length ≤ sizeLine ∧ (p == sysModules) = false
  | _, _ => False
section
variable {K : PySem.W.Frag} {O O' : Ad} {H H' : Hp}
theorem IsKV.fr {κ : Type} (e : Fr O H H') : ∀ {ws : List (κ × V)} {kvs : List (κ × PyData)}, IsKV K O H ws kvs → IsKV K O H' ws kvs
  | _, _, .nil => .nil
  | _, _, .cons h t => .cons (h.fr e) (IsKV.fr e t)
theorem IsKV.less {κ : Type} (s : ∀ a, O' a → O a) : ∀ {ws : List (κ × V)} {kvs : List (κ × PyData)}, IsKV K O H ws kvs → IsKV K O' H ws kvs
  | _, _, .nil => .nil
  | _, _, .cons h t => .cons (h.less s) (IsKV.less s t)
theorem IsKV.ins {κ : Type} {p : Addr} (hp : H p = none) : ∀ {ws : List (κ × V)} {kvs : List (κ × PyData)}, IsKV K O H ws kvs → IsKV K (G.ins p O) H ws kvs
  | _, _, .nil => .nil
  | _, _, .cons h t => .cons (h.ins hp) (IsKV.ins hp t)
theorem MP.fr (e : Fr O H H') : ∀ {ws : List Mn} {kvs : List (PyData × PyData)}, MP K O H ws kvs → MP K O H' ws kvs
  | _, _, .nil => .nil
  | _, _, .cons h1 h2 h3 h4 h5 t => .cons h1 h2 (h3.fr e) (h4.fr e) h5 (MP.fr e t)
theorem MP.less (s : ∀ a, O' a → O a) : ∀ {ws : List Mn} {kvs : List (PyData × PyData)}, MP K O H ws kvs → MP K O' H ws kvs
  | _, _, .nil => .nil
  | _, _, .cons h1 h2 h3 h4 h5 t => .cons h1 h2 (h3.less s) (h4.less s) h5 (MP.less s t)
theorem MP.ins {p : Addr} (hp : H p = none) : ∀ {ws : List Mn} {kvs : List (PyData × PyData)}, MP K O H ws kvs → MP K (G.ins p O) H ws kvs
  | _, _, .nil => .nil
  | _, _, .cons h1 h2 h3 h4 h5 t => .cons h1 h2 (h3.ins hp) (h4.ins hp) h5 (MP.ins hp t)
variable {q : Addr}
theorem CoIs.fr (e : Fr O H H') {c : Co} {o : HO} (h : CoIs K O H q c o) : CoIs K O H' q c o := by
  cases c <;> cases o <;> first | exact h.elim | exact IsAll.fr e h | exact IsKV.fr e h | exact ⟨h.choose, h.choose_spec.1, h.choose_spec.2.1.fr e, h.choose_spec.2.2⟩
theorem CoIs.ins {p : Addr} (hp : H p = none) {c : Co} {o : HO} (h : CoIs K O H q c o) : CoIs K (G.ins p O) H q c o := by
  cases c <;> cases o <;> first | exact h.elim | exact IsAll.ins hp h | exact IsKV.ins hp h | exact ⟨h.choose, h.choose_spec.1, h.choose_spec.2.1.ins hp, h.choose_spec.2.2⟩
theorem CoIs.less (s : ∀ a, O' a → O a) {c : Co} {o : HO} (h : CoIs K O H q c o) : CoIs K O' H q c o := by
  cases c <;> cases o <;> first | exact h.elim | exact IsAll.less s h | exact IsKV.less s h | exact ⟨h.choose, h.choose_spec.1, h.choose_spec.2.1.less s, h.choose_spec.2.2⟩
theorem CoIs.mut {c : Co} {o : HO} (h : CoIs K O H q c o) : Mut (some o) := by
  cases c <;> cases o <;> first | exact h.elim | trivial
theorem CoIs.ml {w : World} {kvs : List (PyData × PyData)} {o : HO} (h : CoIs K O H q (.m w kvs) o) : ∃ es : List Mn, o = .ext (MRaw w q es) ∧ MP K O H es kvs ∧ (es.map (·.k)).Nodup ∧ es.length ≤ sizeLine ∧ (q == sysModules) = false := by
  cases o with
  | ext φ =>
    obtain ⟨es, rfl, h⟩ := h
    exact ⟨es, rfl, h⟩
  | _ => exact h.elim
theorem CoIs.lst {ds : List PyData} {o : HO} (h : CoIs K O H q (.l ds) o) : ∃ xs, o = .lst xs ∧ IsAll K O H xs ds := by
  cases o <;> first | exact h.elim | exact ⟨_, rfl, h⟩
theorem CoIs.dk {ds : List (Key × PyData)} {o : HO} (h : CoIs K O H q (.k ds) o) : ∃ xs, o = .dK xs ∧ IsKV K O H xs ds := by
  cases o <;> first | exact h.elim | exact ⟨_, rfl, h⟩
theorem CoIs.dt {ds : List (List Key × PyData)} {o : HO} (h : CoIs K O H q (.t ds) o) : ∃ xs, o = .dT xs ∧ IsKV K O H xs ds := by
  cases o <;> first | exact h.elim | exact ⟨_, rfl, h⟩
end

/-- where the def began: its heap, what its callers own, what it may change (its first argument) -/
structure Bs where
  H : Hp
  O : Ad
  B : Option Addr

/-- made here, or lent by the caller -/
def KB (β : Bs) : Bool → Addr → Prop
  | true, p => β.B = some p
  | false, p => β.H p = none
structure Sta (K : PySem.W.Frag) (β : Bs) (O W : Ad) (H : Hp) (σ : St) (δ : Dl) : Prop where
  len : σ.length = δ.length
  dat : ∀ (i : Nat) (d : PyData), δ[i]? = some (some (.d d)) → ∃ v, σ[i]? = some (some v) ∧ Is K O H v d
  own : ∀ (i : Nat) (b : Bool) (c : Co), δ[i]? = some (some (.o b c)) → ∃ p o, σ[i]? = some (some (.ref p)) ∧ W p ∧ H p = some o ∧ CoIs K O H p c o ∧ KB β b p
  raw : ∀ (i : Nat) (v : V), δ[i]? = some (some (.v v)) → σ[i]? = some (some v)
  inj : ∀ (i j : Nat) (b b' : Bool) (c e : Co) (p : Addr), δ[i]? = some (some (.o b c)) → δ[j]? = some (some (.o b' e)) → σ[i]? = some (some (.ref p)) → σ[j]? = some (some (.ref p)) → i = j
  keep : ∀ a o, β.H a = some o → β.B ≠ some a → H a = some o
  sub : ∀ a, β.O a → O a
  dom : ∀ a, O a → ∃ o, H a = some o
  subB : ∀ p, β.B = some p → O p
  wo : ∀ a, W a → O a
  bO : ∀ a, β.O a ∨ β.B = some a → ∃ o, β.H a = some o

/-- every list and tuple has a size that the machine bears -/
def Sz (K : PySem.W.Frag) (H : Hp) : Prop := ∀ a xs, SqL K H a xs ∨ SqT K H a xs → xs.length ≤ sizeLine
def IsR (K : PySem.W.Frag) (O : Ad) (H : Hp) (σ : St) (v : V) : R → Prop
  | .d d => Is K O H v d
  | .s i => σ[i]? = some (some v)
  | .v u => v = u

section
variable {K : PySem.W.Frag} {β : Bs} {O O' W : Ad} {H H' : Hp} {σ : L2.St} {δ : Dl} {v : V} {r : R}
theorem IsR.fr (e : Fr O H H') (h : IsR K O H σ v r) : IsR K O H' σ v r := by
  cases r with
  | d d => exact Is.fr e h
  | s i => exact h
  | v u => exact h
theorem IsR.w (E : Sta K β O W H σ δ) (h : IsR K O H σ v r) {d : PyData} (e : res δ r = some d) : Iw K O H v d := by
  cases r with
  | d d' => cases e; exact .is h
  | v u => cases e
  | s i =>
    unfold res at e
    simp only at e
    split at e
    · rename_i ds q
      cases e
      obtain ⟨p, o, h1, h2, h3, h4, h5⟩ := E.own i _ _ q
      obtain ⟨xs, rfl, h6⟩ := h4.lst
      have h' : σ[i]? = some (some v) := h
      rw [h1] at h'
      cases h'
      exact .own h3 h6
    · cases e
/-- nothing that stood has changed -/
theorem Sta.ex (E : Sta K β O W H σ δ) (e : Ex H H') : Sta K β O W H' σ δ :=
  ⟨E.len, fun i d q => let ⟨v, h, k⟩ := E.dat i d q; ⟨v, h, k.ex e⟩, fun i b c q => let ⟨p, o, h1, h2, h3, h4, h5⟩ := E.own i b c q; ⟨p, o, h1, h2, e p o h3, h4.fr e.fr, h5⟩, E.raw, E.inj,
    fun a o h n => e a o (E.keep a o h n), E.sub, fun a h => (let ⟨o, q⟩ := E.dom a h; ⟨o, e a o q⟩), E.subB, E.wo, E.bO⟩
/-- what is kept but for the own ones, is kept but for those to be shunned -/
theorem Sta.up (E : Sta K β O W H σ δ) {H1 H2 : Hp} (f : Fr W H1 H2) : Fr O H1 H2 := f.mono E.wo
/-- fewer to be shunned -/
theorem Sta.less (E : Sta K β O' W H σ δ) (s : ∀ a, O a → O' a) (wo : ∀ a, W a → O a) (sub : ∀ a, β.O a → O a) (subB : ∀ p, β.B = some p → O p) : Sta K β O W H σ δ :=
  ⟨E.len, fun i d q => (let ⟨v, h, k⟩ := E.dat i d q; ⟨v, h, k.less s⟩), fun i b c q => (let ⟨p, o, h1, h2, h3, h4, h5⟩ := E.own i b c q; ⟨p, o, h1, h2, h3, h4.less s, h5⟩), E.raw, E.inj, E.keep, sub, fun a h => E.dom a (s a h), subB, wo, E.bO⟩
theorem Sta.insN (E : Sta K β O W H σ δ) {p : Addr} (hp : H p = none) {o : HO} (hp' : H' p = some o) (e : Ex H H') : Sta K β (ins p O) W H' σ δ :=
  ⟨E.len, fun i d q => let ⟨v, h, k⟩ := E.dat i d q; ⟨v, h, (k.ins hp).ex e⟩, fun i b c q => let ⟨p', o, h1, h2, h3, h4, h5⟩ := E.own i b c q; ⟨p', o, h1, h2, e p' o h3, (h4.ins hp).fr e.fr, h5⟩, E.raw, E.inj,
    fun a o h n => e a o (E.keep a o h n), fun a h => .inr (E.sub a h), fun a h => by
      rcases h with h | h
      · exact ⟨o, by rw [h]; exact hp'⟩
      · obtain ⟨o, q⟩ := E.dom a h
        exact ⟨o, e a o q⟩, fun p h => .inr (E.subB p h), fun a h => .inr (E.wo a h), E.bO⟩
theorem Sta.newB (E : Sta K β O W H σ δ) {p : Addr} (hp : H p = none) : β.H p = none := by
  cases q : β.H p with
  | none => rfl
  | some o =>
    have h := E.keep p o q fun z => by
      obtain ⟨o', q'⟩ := E.dom p (E.subB p z)
      rw [hp] at q'
      cases q'
    rw [hp] at h
    cases h
theorem Sta.new0 (E : Sta K β O W H σ δ) {p : Addr} (hp : H p = none) : ¬ O p := fun h => by
  obtain ⟨o, q⟩ := E.dom p h
  rw [hp] at q
  cases q
end

/-! ### readings -/
def rE (K : PySem.W.Frag) (δ : Dl) (r : R) (δ' : Dl) : TE := fun σ H Q => ∃ (β : Bs) (O W : Ad), Sta K β O W H σ δ ∧ ∀ v H', Sz K H' → Sta K β O W H' σ δ' → Fr W H H' → IsR K O H' σ v r → Q v H'
/-- a new list that nothing else holds -/
def rF (K : PySem.W.Frag) (δ : Dl) (c : Co) (δ' : Dl) : TE := fun σ H Q => ∃ (β : Bs) (O W : Ad), Sta K β O W H σ δ ∧
  ∀ p o H', Sz K H' → H p = none → Sta K β (ins p O) W H' σ δ' → Fr W H H' → H' p = some o → CoIs K (ins p O) H' p c o → β.H p = none → Q (.ref p) H'
def rT (K : PySem.W.Frag) (δ : Dl) (b : Bool) (δ' : Dl) : TT := fun σ H Q => ∃ (β : Bs) (O W : Ad), Sta K β O W H σ δ ∧ ∀ H', Sz K H' → Sta K β O W H' σ δ' → Fr W H H' → Q b H'
def rA (K : PySem.W.Frag) (δ : Dl) (ds : List PyData) (δ' : Dl) : TA := fun σ H Q => ∃ (β : Bs) (O W : Ad), Sta K β O W H σ δ ∧ ∀ vs H', Sz K H' → Sta K β O W H' σ δ' → Fr W H H' → IsAll K O H' vs ds → Q vs H'
abbrev DE (X : Cx) (e : Expr) (δ : Dl) (r : R) (δ' : Dl) : Prop := PE X e (rE X.K δ r δ')
abbrev DF (X : Cx) (e : Expr) (δ : Dl) (c : Co) (δ' : Dl) : Prop := PE X e (rF X.K δ c δ')
abbrev DT (X : Cx) (e : Expr) (δ : Dl) (b : Bool) (δ' : Dl) : Prop := PT X e (rT X.K δ b δ')
abbrev DW (X : Cx) (e : Expr) (δ : Dl) (b : Bool) (δ' : Dl) : Prop := PW X e (rT X.K δ b δ')
abbrev DA (X : Cx) (es : List Expr) (δ : Dl) (ds : List PyData) (δ' : Dl) : Prop := PA X es (rA X.K δ ds δ')

section
variable {X : Cx} {pins : List (Addr × Obj)} {σ : St} {H : Hp} {s : Shared} {e : Expr}
theorem Inv.sz (I : Inv X pins σ H s) : Sz X.K H := fun a xs h => by
  rcases h with h | h
  · obtain ⟨its, _, _, z⟩ := I.list h
    exact z
  · obtain ⟨its, _, _, z⟩ := I.tuple h
    exact z
/-- the sizes may be used where a reading is shown -/
theorem PE.szd {t t' : TE} (h : PE X e t) (w : ∀ σ H Q, Sz X.K H → t' σ H Q → t σ H (fun v H' => Sz X.K H' → Q v H')) : PE X e t' := ⟨fun pins s σ H Q I q => by
  refine thn (h.run pins s σ H _ I (w σ H Q (Inv.sz I) q)) fun u s' ⟨v, H', I', r, k⟩ => ?_
  exact ⟨v, H', I', r, k (Inv.sz I')⟩⟩
theorem PT.szd {t t' : TT} (h : PT X e t) (w : ∀ σ H Q, Sz X.K H → t' σ H Q → t σ H (fun v H' => Sz X.K H' → Q v H')) : PT X e t' := ⟨fun pins s σ H Q I q => by
  refine thn (h.run pins s σ H _ I (w σ H Q (Inv.sz I) q)) fun u s' ⟨H', I', k⟩ => ?_
  exact ⟨H', I', k (Inv.sz I')⟩⟩
theorem PW.szd {t t' : TT} (h : PW X e t) (w : ∀ σ H Q, Sz X.K H → t' σ H Q → t σ H (fun v H' => Sz X.K H' → Q v H')) : PW X e t' := ⟨fun wh pins s σ H Q I q => by
  refine thn (h.run wh pins s σ H _ I (w σ H Q (Inv.sz I) q)) fun u s' ⟨H', I', k⟩ => ?_
  exact ⟨H', I', k (Inv.sz I')⟩⟩
theorem PA.szd {es : List Expr} {t t' : TA} (h : PA X es t) (w : ∀ σ H Q, Sz X.K H → t' σ H Q → t σ H (fun v H' => Sz X.K H' → Q v H')) : PA X es t' := ⟨fun pos pins s σ H Q I q => by
  refine thn (h.run pos pins s σ H _ I (w σ H Q (Inv.sz I) q)) fun u s' ⟨v, H', I', r, k⟩ => ?_
  exact ⟨v, H', I', r, k (Inv.sz I')⟩⟩
end

/-- what operations may lean on -/
structure Wf (K : PySem.W.Frag) (O : Ad) (H : Hp) : Prop where
  sz : Sz K H
  dom : ∀ a, O a → ∃ o, H a = some o
theorem Wf.nw {K : PySem.W.Frag} {O : Ad} {H : Hp} (w : Wf K O H) {p : Addr} (h : H p = none) : ¬ O p := fun z => by
  obtain ⟨o, q⟩ := w.dom p z
  rw [h] at q
  cases q
theorem Sta.wf {K : PySem.W.Frag} {β : Bs} {O W : Ad} {H : Hp} {σ : L2.St} {δ : Dl} (E : Sta K β O W H σ δ) (z : Sz K H) : Wf K O H := ⟨z, E.dom⟩
/-- what an operation gives: new objects alone -/
abbrev Gv (K : PySem.W.Frag) (O : Ad) (H : Hp) (d : PyData) (Q : VK) : Prop := ∀ v H', Ex H H' → Is K O H' v d → Q v H'
/-- .. a new list -/
abbrev GvF (K : PySem.W.Frag) (O : Ad) (H : Hp) (c : Co) (Q : VK) : Prop := ∀ p o H', H p = none → Ex H H' → H' p = some o → CoIs K O H p c o → Q (.ref p) H'
theorem Sta.wasNew {K : PySem.W.Frag} {β : Bs} {O W : Ad} {H H1 : Hp} {σ σ' : L2.St} {δ δ' : Dl} (E : Sta K β O W H σ δ) (E1 : Sta K β O W H1 σ' δ') (f : Fr W H H1) {p : Addr} (hp : H1 p = none) : H p = none := by
  cases q : H p with
  | none => rfl
  | some o =>
    by_cases h : W p
    · obtain ⟨u, q'⟩ := E1.dom p (E1.wo p h)
      rw [hp] at q'
      cases q'
    · rw [f p o q h] at hp
      cases hp
/-- the end of a rule that makes a list -/
theorem Sta.made {K : PySem.W.Frag} {β : Bs} {O W : Ad} {H H1 : Hp} {σ : L2.St} {δ0 δ' : Dl} {c : Co} {Q : VK} (E : Sta K β O W H1 σ δ') (E0 : Sta K β O W H σ δ0) (f : Fr W H H1)
    (k : ∀ p o H', Sz K H' → H p = none → Sta K β (ins p O) W H' σ δ' → Fr W H H' → H' p = some o → CoIs K (ins p O) H' p c o → β.H p = none → Q (.ref p) H') :
    GvF K O H1 c (fun v H' => Sz K H' → Q v H') := fun p o H' hp e ho hc z =>
  k p o H' z (E0.wasNew E f hp) (E.insN hp ho e) (f.tr e.fr) ho ((hc.ins hp).fr e.fr) (E.newB hp)
theorem Sta.gave {K : PySem.W.Frag} {β : Bs} {O W : Ad} {H H1 : Hp} {σ : L2.St} {δ' : Dl} {d : PyData} {Q : VK} (E : Sta K β O W H1 σ δ') (f : Fr W H H1)
    (k : ∀ v H', Sz K H' → Sta K β O W H' σ δ' → Fr W H H' → Is K O H' v d → Q v H') : Gv K O H1 d (fun v H' => Sz K H' → Q v H') := fun v H' e h z =>
  k v H' z (E.ex e) (f.tr e.fr) h

section
variable {X : Cx} {e a b : Expr} {es : List Expr} {δ δ1 δ2 δ3 : Dl} {ra rb : R} {d d1 d2 : PyData} {pos : Pos}
/-! ### names, constants -/
theorem de_var (i : Nat) {x : Str} (hq : δ[i]? = some (some (.d d))) (hN : X.N[i]? = some x := by rfl) (hv : Vis X.env.scope x := by first | exact Or.inl rfl | exact Or.inr (Or.inl rfl) | exact Or.inr (Or.inr rfl)) (hd : (x == ("__debug__" : Str)) = false := by decide)
    (hcd : (x == ("__classdict__" : Str)) = false := by decide) : DE X (.Name x pos) δ (.d d) δ :=
  PE.szd (pe_var hN hv hd hcd) fun σ H Q z ⟨β, O, W, E, k⟩ => by
    obtain ⟨v, h, q⟩ := E.dat i d hq
    exact ⟨v, h, fun z' => k v H z' E Fr.rfl q⟩
theorem de_own (i : Nat) {x : Str} {k : Bool} {c : Co} (hq : δ[i]? = some (some (.o k c))) (hN : X.N[i]? = some x := by rfl) (hv : Vis X.env.scope x := by first | exact Or.inl rfl | exact Or.inr (Or.inl rfl) | exact Or.inr (Or.inr rfl)) (hd : (x == ("__debug__" : Str)) = false := by decide)
    (hcd : (x == ("__classdict__" : Str)) = false := by decide) : DE X (.Name x pos) δ (.s i) δ :=
  PE.szd (pe_var hN hv hd hcd) fun σ H Q z ⟨β, O, W, E, k⟩ => by
    obtain ⟨p, o, h, _⟩ := E.own i _ c hq
    exact ⟨_, h, fun z' => k _ H z' E Fr.rfl h⟩
theorem de_raw (i : Nat) {x : Str} {v : V} (hq : δ[i]? = some (some (.v v))) (hN : X.N[i]? = some x := by rfl) (hv : Vis X.env.scope x := by first | exact Or.inl rfl | exact Or.inr (Or.inl rfl) | exact Or.inr (Or.inr rfl)) (hd : (x == ("__debug__" : Str)) = false := by decide)
    (hcd : (x == ("__classdict__" : Str)) = false := by decide) : DE X (.Name x pos) δ (.v v) δ :=
  PE.szd (pe_var hN hv hd hcd) fun σ H Q z ⟨β, O, W, E, k⟩ => ⟨v, E.raw i v hq, fun z' => k v H z' E Fr.rfl rfl⟩
theorem de_const {v : V} (h : PE X e (tC v)) (hd : ∀ O H, Is X.K O H v d) : DE X e δ (.d d) δ :=
  PE.szd h fun σ H Q z ⟨β, O, W, E, k⟩ => fun z' => k v H z' E Fr.rfl (hd O H)
theorem de_int {i : Int} {j} : DE X (.Constant (.int i) j pos) δ (.d (.int i)) δ := de_const pe_int fun _ _ => .int i
theorem de_bl {i : Bool} {j} : DE X (.Constant (.bool i) j pos) δ (.d (.bool i)) δ := de_const pe_bl fun _ _ => .bl i
theorem de_non {j} : DE X (.Constant .none j pos) δ (.d .none) δ := de_const pe_non fun _ _ => .non
theorem de_str {i : Str} {j} : DE X (.Constant (.str i) j pos) δ (.d (.str i)) δ := de_const pe_str fun _ _ => .str i
/-- a module's int -/
theorem de_globI {x : Str} {i : Int} {t : Tok} (hm : X.mg x = some (.int i t)) (hg : Gl X x := by rfl) (hd : (x == ("__debug__" : Str)) = false := by decide) : DE X (.Name x pos) δ (.d (.int i)) δ := de_const (pe_glob (v := .int i) hg hm ⟨t, rfl⟩ hd) fun _ _ => .int i
/-- the same datum in other words -/
theorem de_is {r r' : R} (h : DE X e δ r δ1) (q : r = r') : DE X e δ r' δ1 := by cases q; exact h
theorem de_eq {d d' : PyData} (h : DE X e δ (.d d) δ1) (q : d = d') : DE X e δ (.d d') δ1 := by cases q; exact h
theorem df_eq {c c' : Co} (h : DF X e δ c δ1) (q : c = c') : DF X e δ c' δ1 := by cases q; exact h
theorem dt_eq {b b' : Bool} (h : DT X e δ b δ1) (q : b = b') : DT X e δ b' δ1 := by cases q; exact h
/-- a new list as data -/
theorem de_new {ds : List PyData} (h : DF X e δ (.l ds) δ1) : DE X e δ (.d (.list ds)) δ1 :=
  PE.szd h fun σ H Q z ⟨β, O, W, E, k⟩ => ⟨β, O, W, E, fun p o H' z' hn E1 f hp' hc _ z2 => by
    obtain ⟨xs, rfl, q⟩ := hc.lst
    exact k _ H' z' (E1.less (fun a h => .inr h) E.wo E.sub E.subB) f (.lst ⟨hp', E.new0 hn⟩ (q.less fun a h => .inr h))⟩
end
end G
set_option Elab.async false
set_option linter.all false
set_option maxRecDepth 100000
set_option maxHeartbeats 4000000
/-! G2: operators, comparisons, tests, displays, built-in calls, subscripts, as rules over data. -/
namespace G
open PySem PySem.Spec L2

/-- r gives d on d1 and d2 -/
def Rs2 (K : PySem.W.Frag) (r : R2) (d1 d2 d : PyData) : Prop := ∀ O H x y Q, Wf K O H → Iw K O H x d1 → Iw K O H y d2 → Gv K O H d Q → r x y H Q
def RsF (K : PySem.W.Frag) (r : R2) (d1 d2 : PyData) (c : Co) : Prop := ∀ O H x y Q, Wf K O H → Iw K O H x d1 → Iw K O H y d2 → GvF K O H c Q → r x y H Q
section
variable {K : PySem.W.Frag} {O : Ad} {H : Hp} {Q : VK}
theorem Gv.here {d : PyData} {v : V} (k : Gv K O H d Q) (h : Is K O H v d) : Q v H := k v H Ex.rfl h
end
def isNone : PyData → Bool
  | .none => true
  | _ => false
section
variable {K : PySem.W.Frag} {i j : Int}
theorem rsI0 {g : Int → Int → Int} : Rs2 K (rI0 fun i j => .int (g i j)) (.int i) (.int j) (.int (g i j)) := fun O H x y Q z hx hy k =>
  ⟨i, j, hx.int, hy.int, k.here (.int _)⟩
theorem rsI {C : Int → Int → Prop} {g : Int → Int → Int} (h : C i j) : Rs2 K (rI C fun i j => .int (g i j)) (.int i) (.int j) (.int (g i j)) := fun O H x y Q z hx hy k =>
  ⟨i, j, hx.int, hy.int, h, k.here (.int _)⟩
theorem rsB0 {g : Int → Int → Bool} : Rs2 K (rI0 fun i j => .bl (g i j)) (.int i) (.int j) (.bool (g i j)) := fun O H x y Q z hx hy k =>
  ⟨i, j, hx.int, hy.int, k.here (.bl _)⟩
theorem rsEq {d1 d2 : PyData} (h1 : SeqAt.shaped d1 = true) (h2 : SeqAt.shaped d2 = true) : Rs2 K (rEqD K) d1 d2 (.bool (PyData.eqv d1 d2)) := fun O H x y Q z hx hy k =>
  ⟨d1, d2, hx.dp, hy.dp, h1, h2, k.here (.bl _)⟩
theorem rsNe {d1 d2 : PyData} (h1 : SeqAt.shaped d1 = true) (h2 : SeqAt.shaped d2 = true) : Rs2 K (rNeD K) d1 d2 (.bool (!PyData.eqv d1 d2)) := fun O H x y Q z hx hy k =>
  ⟨d1, d2, hx.dp, hy.dp, h1, h2, k.here (.bl _)⟩
theorem rsIsN {d : PyData} : Rs2 K (fun x y H Q => y = .non ∧ Q (.bl (decide (x = .non))) H) d .none (.bool (isNone d)) := fun O H x y Q z hx hy k => by
  refine ⟨hy.non, ?_⟩
  have e : decide (x = .non) = isNone d := by
    cases hx with
    | is h => cases h <;> simp [isNone]
    | own h q => simp [isNone]
  rw [e]
  exact k.here (.bl _)
theorem rsNotN {d : PyData} : Rs2 K (fun x y H Q => y = .non ∧ Q (.bl (!decide (x = .non))) H) d .none (.bool (!isNone d)) := fun O H x y Q z hx hy k => by
  refine ⟨hy.non, ?_⟩
  have e : decide (x = .non) = isNone d := by
    cases hx with
    | is h => cases h <;> simp [isNone]
    | own h q => simp [isNone]
  rw [e]
  exact k.here (.bl _)
end

section
variable {X : Cx} {e a b c : Expr} {es : List Expr} {δ δ1 δ2 δ3 : Dl} {ra rb rc : R} {d d1 d2 d3 : PyData} {pos : Pos} {r r' : R2}
theorem de_bin {op} (ho : OpR X (binaryOp op) r) (ha : DE X a δ ra δ1) (hb : DE X b δ1 rb δ2) (rr : Rs2 X.K r d1 d2 d) (ea : res δ2 ra = some d1 := by rfl) (eb : res δ2 rb = some d2 := by rfl) : DE X (.BinOp a op b pos) δ (.d d) δ2 :=
  PE.szd (pe_op ho ha hb) fun σ H Q z ⟨β, O, W, E, k⟩ => ⟨β, O, W, E, fun x H1 z1 E1 f1 h1 => ⟨β, O, W, E1, fun y H2 z2 E2 f2 h2 =>
    rr O H2 x y _ (E2.wf z2) ((h1.fr (E1.up f2)).w E2 ea) (h2.w E2 eb) (E2.gave (f1.tr f2) k)⟩⟩
theorem de_cmp {op} (ho : OpR X (compareOp op) r) (ha : DE X a δ ra δ1) (hb : DE X b δ1 rb δ2) (rr : Rs2 X.K r d1 d2 d) (hm : behindInMarks op b = false) (ea : res δ2 ra = some d1 := by rfl) (eb : res δ2 rb = some d2 := by rfl) : DE X (.Compare a [op] [b] pos) δ (.d d) δ2 :=
  PE.szd (pe_cmpR ho ha hb hm) fun σ H Q z ⟨β, O, W, E, k⟩ => ⟨β, O, W, E, fun x H1 z1 E1 f1 h1 => ⟨β, O, W, E1, fun y H2 z2 E2 f2 h2 =>
    rr O H2 x y _ (E2.wf z2) ((h1.fr (E1.up f2)).w E2 ea) (h2.w E2 eb) (E2.gave (f1.tr f2) k)⟩⟩
/-- a new list by an operator -/
theorem df_bin {op} {c : Co} (ho : OpR X (binaryOp op) r) (ha : DE X a δ ra δ1) (hb : DE X b δ1 rb δ2) (rr : RsF X.K r d1 d2 c) (ea : res δ2 ra = some d1 := by rfl) (eb : res δ2 rb = some d2 := by rfl) : DF X (.BinOp a op b pos) δ c δ2 :=
  PE.szd (pe_op ho ha hb) fun σ H Q z ⟨β, O, W, E, k⟩ => ⟨β, O, W, E, fun x H1 z1 E1 f1 h1 => ⟨β, O, W, E1, fun y H2 z2 E2 f2 h2 =>
    rr O H2 x y _ (E2.wf z2) ((h1.fr (E1.up f2)).w E2 ea) (h2.w E2 eb) (E2.made E (f1.tr f2) k)⟩⟩

/-! ### the usual operators -/
variable {i j k : Int}
theorem de_add (ha : DE X a δ (.d (.int i)) δ1) (hb : DE X b δ1 (.d (.int j)) δ2) : DE X (.BinOp a .Add b pos) δ (.d (.int (i + j))) δ2 := de_bin op_add ha hb rsI0
theorem de_sub (ha : DE X a δ (.d (.int i)) δ1) (hb : DE X b δ1 (.d (.int j)) δ2) : DE X (.BinOp a .Sub b pos) δ (.d (.int (i - j))) δ2 := de_bin op_sub ha hb rsI0
theorem de_mul (ha : DE X a δ (.d (.int i)) δ1) (hb : DE X b δ1 (.d (.int j)) δ2) (h : CMul i j) : DE X (.BinOp a .Mult b pos) δ (.d (.int (i * j))) δ2 := de_bin op_mul ha hb (rsI h)
theorem de_div (ha : DE X a δ (.d (.int i)) δ1) (hb : DE X b δ1 (.d (.int j)) δ2) (h : CDiv i j) : DE X (.BinOp a .FloorDiv b pos) δ (.d (.int (i / j))) δ2 := de_bin op_fdiv ha hb (rsI h)
theorem de_divW (ha : DE X a δ (.d (.int i)) δ1) (hb : DE X b δ1 (.d (.int j)) δ2) (h : CDivW i j) : DE X (.BinOp a .FloorDiv b pos) δ (.d (.int (i / j))) δ2 := de_bin op_fdivW ha hb (rsI h)
theorem de_mulW (ha : DE X a δ (.d (.int i)) δ1) (hb : DE X b δ1 (.d (.int j)) δ2) (h : CMulW i j) : DE X (.BinOp a .Mult b pos) δ (.d (.int (i * j))) δ2 := de_bin op_mulW ha hb (rsI h)
theorem de_mod (ha : DE X a δ (.d (.int i)) δ1) (hb : DE X b δ1 (.d (.int j)) δ2) (h : 0 < j) : DE X (.BinOp a .Mod b pos) δ (.d (.int (i % j))) δ2 := de_bin op_mod ha hb (rsI h)
theorem de_pow (ha : DE X a δ (.d (.int i)) δ1) (hb : DE X b δ1 (.d (.int j)) δ2) (h : CPow i j) : DE X (.BinOp a .Pow b pos) δ (.d (.int (i ^ j.toNat))) δ2 := de_bin op_pow ha hb (rsI h)
theorem de_shl (ha : DE X a δ (.d (.int i)) δ1) (hb : DE X b δ1 (.d (.int j)) δ2) (h : CPow i j) : DE X (.BinOp a .LShift b pos) δ (.d (.int (i * 2 ^ j.toNat))) δ2 := de_bin op_shl ha hb (rsI h)
theorem de_shr (ha : DE X a δ (.d (.int i)) δ1) (hb : DE X b δ1 (.d (.int j)) δ2) (h : 0 ≤ j) : DE X (.BinOp a .RShift b pos) δ (.d (.int (i / 2 ^ j.toNat))) δ2 := de_bin op_shr ha hb (rsI h)
theorem de_bitand (ha : DE X a δ (.d (.int i)) δ1) (hb : DE X b δ1 (.d (.int j)) δ2) : DE X (.BinOp a .BitAnd b pos) δ (.d (.int (Builtin.bitAnd i j))) δ2 := de_bin op_and ha hb rsI0
theorem de_bitor (ha : DE X a δ (.d (.int i)) δ1) (hb : DE X b δ1 (.d (.int j)) δ2) : DE X (.BinOp a .BitOr b pos) δ (.d (.int (Builtin.bitOr i j))) δ2 := de_bin op_or ha hb rsI0
theorem de_bitxor (ha : DE X a δ (.d (.int i)) δ1) (hb : DE X b δ1 (.d (.int j)) δ2) : DE X (.BinOp a .BitXor b pos) δ (.d (.int (Builtin.bitXor i j))) δ2 := de_bin op_xor ha hb rsI0
theorem de_lt (ha : DE X a δ (.d (.int i)) δ1) (hb : DE X b δ1 (.d (.int j)) δ2) : DE X (.Compare a [.Lt] [b] pos) δ (.d (.bool (decide (i < j)))) δ2 := de_cmp op_lt ha hb rsB0 (nomark _)
theorem de_le (ha : DE X a δ (.d (.int i)) δ1) (hb : DE X b δ1 (.d (.int j)) δ2) : DE X (.Compare a [.LtE] [b] pos) δ (.d (.bool (decide (i ≤ j)))) δ2 := de_cmp op_le ha hb rsB0 (nomark _)
theorem de_gt (ha : DE X a δ (.d (.int i)) δ1) (hb : DE X b δ1 (.d (.int j)) δ2) : DE X (.Compare a [.Gt] [b] pos) δ (.d (.bool (decide (j < i)))) δ2 := de_cmp op_gt ha hb rsB0 (nomark _)
theorem de_ge (ha : DE X a δ (.d (.int i)) δ1) (hb : DE X b δ1 (.d (.int j)) δ2) : DE X (.Compare a [.GtE] [b] pos) δ (.d (.bool (decide (j ≤ i)))) δ2 := de_cmp op_ge ha hb rsB0 (nomark _)
/-- a == b, a != b of any data -/
theorem de_eqD (hu : X.A.units + 64 < cLine) (ha : DE X a δ ra δ1) (hb : DE X b δ1 rb δ2) (h1 : SeqAt.shaped d1 = true) (h2 : SeqAt.shaped d2 = true) (ea : res δ2 ra = some d1 := by rfl) (eb : res δ2 rb = some d2 := by rfl) :
    DE X (.Compare a [.Eq] [b] pos) δ (.d (.bool (PyData.eqv d1 d2))) δ2 := de_cmp (op_eqD hu) ha hb (rsEq h1 h2) (nomark _) ea eb
theorem de_neD (hu : X.A.units + 64 < cLine) (ha : DE X a δ ra δ1) (hb : DE X b δ1 rb δ2) (h1 : SeqAt.shaped d1 = true) (h2 : SeqAt.shaped d2 = true) (ea : res δ2 ra = some d1 := by rfl) (eb : res δ2 rb = some d2 := by rfl) :
    DE X (.Compare a [.NotEq] [b] pos) δ (.d (.bool (!PyData.eqv d1 d2))) δ2 := de_cmp (op_neD hu) ha hb (rsNe h1 h2) (nomark _) ea eb
theorem de_isN (ha : DE X a δ (.d d) δ1) (hb : DE X b δ1 (.d .none) δ2) : DE X (.Compare a [.Is] [b] pos) δ (.d (.bool (isNone d))) δ2 := de_cmp op_isN ha hb rsIsN (nomark _)
theorem de_notN (ha : DE X a δ (.d d) δ1) (hb : DE X b δ1 (.d .none) δ2) : DE X (.Compare a [.IsNot] [b] pos) δ (.d (.bool (!isNone d))) δ2 := de_cmp op_notN ha hb rsNotN (nomark _)
/-- a <= b <= c and its like, over ints -/
theorem de_chain {op op' : CmpOp} {g g' : Int → Int → Bool} (ho : OpR X (compareOp op) (rI0 fun i j => .bl (g i j))) (ho' : OpR X (compareOp op') (rI0 fun i j => .bl (g' i j)))
    (ha : DE X a δ (.d (.int i)) δ) (hb : DE X b δ (.d (.int j)) δ) (hc : DE X c δ (.d (.int k)) δ) (hm : lastMarks [op, op'] [b, c] = false := by with_unfolding_all rfl) :
    DE X (.Compare a [op, op'] [b, c] pos) δ (.d (.bool (g i j && g' j k))) δ :=
  PE.szd (pe_chain ho ho' ha hb hc hm) fun σ H Q z ⟨β, O, W, E, q⟩ => ⟨β, O, W, E, fun x H1 z1 E1 f1 h1 => ⟨β, O, W, E1, fun y H2 z2 E2 f2 h2 =>
    ⟨i, j, h1.int', h2.int', _, rfl, by
      cases e : g i j with
      | true =>
        refine iteT ?_
        refine ⟨β, O, W, E2, fun w H3 z3 E3 f3 h3 => ⟨j, k, h2.int', h3.int', fun z4 => ?_⟩⟩
        exact q _ H3 z4 E3 ((f1.tr f2).tr f3) (by rw [e]; exact .bl _)
      | false =>
        refine iteF ?_
        exact fun z4 => q _ H2 z4 E2 (f1.tr f2) (by rw [e]; exact .bl _)⟩⟩⟩

/-! ### bools: as values, as tests -/
variable {p q : Bool} {rest : List Expr} {op : BoolOp}
theorem de_not (ha : DE X a δ (.d (.bool p)) δ1) : DE X (.UnaryOp .Not a pos) δ (.d (.bool (!p))) δ1 :=
  PE.szd (pe_not ha) fun σ H Q z ⟨β, O, W, E, k⟩ => ⟨β, O, W, E, fun x H1 z1 E1 f1 h1 => ⟨p, h1.bl', fun z2 => k _ H1 z2 E1 f1 (.bl _)⟩⟩
theorem de_one (ha : DE X a δ ra δ1) : DE X (.BoolOp op [a] pos) δ ra δ1 := pe_one ha
theorem de_and (ha : DE X a δ (.d (.bool p)) δ) (hb : p = true → DE X (.BoolOp .And (b :: rest) pos) δ (.d (.bool q)) δ) : DE X (.BoolOp .And (a :: b :: rest) pos) δ (.d (.bool (p && q))) δ := by
  cases p with
  | true => exact PE.szd (pe_and ha (hb rfl)) fun σ H Q z ⟨β, O, W, E, k⟩ => ⟨β, O, W, E, fun x H1 z1 E1 f1 h1 => ⟨true, h1.bl', by
      refine iteT ?_
      exact ⟨β, O, W, E1, fun y H2 z2 E2 f2 h2 z3 => k y H2 z3 E2 (f1.tr f2) h2⟩⟩⟩
  | false =>
    refine PE.szd (t := tAndV (rE X.K δ (.d (.bool false)) δ) (fun _ _ _ => False)) (pe_and ha ⟨fun _ _ _ _ _ _ h => h.elim⟩) fun σ H Q z ⟨β, O, W, E, k⟩ => ⟨β, O, W, E, fun x H1 z1 E1 f1 h1 => ⟨false, h1.bl', ?_⟩⟩
    refine iteF ?_
    exact fun z3 => k _ H1 z3 E1 f1 (.bl _)
theorem de_or (ha : DE X a δ (.d (.bool p)) δ) (hb : p = false → DE X (.BoolOp .Or (b :: rest) pos) δ (.d (.bool q)) δ) : DE X (.BoolOp .Or (a :: b :: rest) pos) δ (.d (.bool (p || q))) δ := by
  cases p with
  | false => exact PE.szd (pe_or ha (hb rfl)) fun σ H Q z ⟨β, O, W, E, k⟩ => ⟨β, O, W, E, fun x H1 z1 E1 f1 h1 => ⟨false, h1.bl', by
      refine iteF ?_
      exact ⟨β, O, W, E1, fun y H2 z2 E2 f2 h2 z3 => k y H2 z3 E2 (f1.tr f2) h2⟩⟩⟩
  | true =>
    refine PE.szd (t := tOrV (rE X.K δ (.d (.bool true)) δ) (fun _ _ _ => False)) (pe_or ha ⟨fun _ _ _ _ _ _ h => h.elim⟩) fun σ H Q z ⟨β, O, W, E, k⟩ => ⟨β, O, W, E, fun x H1 z1 E1 f1 h1 => ⟨true, h1.bl', ?_⟩⟩
    refine iteT ?_
    exact fun z3 => k _ H1 z3 E1 f1 (.bl _)
/-- a bool as a test -/
theorem dt_val (h : DE X e δ (.d (.bool p)) δ1) (he : ∀ whole, isTrue e X.env whole = (do let v ← whole; standAt e.pos; holding [v] (truthy v)) := by intro _; rfl) : DT X e δ p δ1 :=
  PT.szd (pt_val h he) fun σ H Q z ⟨β, O, W, E, k⟩ => ⟨β, O, W, E, fun x H1 z1 E1 f1 h1 => ⟨p, h1.bl', fun z2 => k H1 z2 E1 f1⟩⟩
/-- an int as a test -/
theorem dt_int (h : DE X e δ (.d (.int i)) δ1) (he : ∀ whole, isTrue e X.env whole = (do let v ← whole; standAt e.pos; holding [v] (truthy v)) := by intro _; rfl) : DT X e δ (i != 0) δ1 :=
  PT.szd (pt_truth h he) fun σ H Q z ⟨β, O, W, E, k⟩ => ⟨β, O, W, E, fun x H1 z1 E1 f1 h1 => ⟨_, by rw [h1.int']; exact rfl, fun z2 => k H1 z2 E1 f1⟩⟩
/-- a comparison as a test -/
theorem dt_cmp {op} (ho : OpR X (compareOp op) r) (ha : DE X a δ ra δ1) (hb : DE X b δ1 rb δ2) (rr : Rs2 X.K r d1 d2 (.bool p)) (hm : behindInMarks op b = false) (ea : res δ2 ra = some d1 := by rfl) (eb : res δ2 rb = some d2 := by rfl) : DT X (.Compare a [op] [b] pos) δ p δ2 :=
  PT.szd (pt_cmpR ho ha hb hm) fun σ H Q z ⟨β, O, W, E, k⟩ => ⟨β, O, W, E, fun x H1 z1 E1 f1 h1 => ⟨β, O, W, E1, fun y H2 z2 E2 f2 h2 =>
    rr O H2 x y _ (E2.wf z2) ((h1.fr (E1.up f2)).w E2 ea) (h2.w E2 eb) fun v H3 e3 h3 => ⟨p, h3.bl', fun z3 => k H3 z3 (E2.ex e3) ((f1.tr f2).tr e3.fr)⟩⟩⟩
theorem dt_chain {op op' : CmpOp} {g g' : Int → Int → Bool} (ho : OpR X (compareOp op) (rI0 fun i j => .bl (g i j))) (ho' : OpR X (compareOp op') (rI0 fun i j => .bl (g' i j)))
    (ha : DE X a δ (.d (.int i)) δ) (hb : DE X b δ (.d (.int j)) δ) (hc : DE X c δ (.d (.int k)) δ) (hm : lastMarks [op, op'] [b, c] = false := by with_unfolding_all rfl) :
    DT X (.Compare a [op, op'] [b, c] pos) δ (g i j && g' j k) δ :=
  PT.szd (pt_chain ho ho' ha hb hc hm) fun σ H Q z ⟨β, O, W, E, q⟩ => ⟨β, O, W, E, fun x H1 z1 E1 f1 h1 => ⟨β, O, W, E1, fun y H2 z2 E2 f2 h2 =>
    ⟨i, j, h1.int', h2.int', _, rfl, by
      cases e : g i j with
      | true =>
        refine iteT ?_
        refine ⟨β, O, W, E2, fun w H3 z3 E3 f3 h3 => ⟨j, k, h2.int', h3.int', _, rfl, fun z4 => ?_⟩⟩
        have := q H3 z4 E3 ((f1.tr f2).tr f3)
        rwa [e] at this
      | false =>
        refine iteF ?_
        refine ⟨false, rfl, fun z4 => ?_⟩
        have := q H2 z4 E2 (f1.tr f2)
        rwa [e] at this⟩⟩⟩
theorem dt_not (h : DT X a δ p δ1) : DT X (.UnaryOp .Not a pos) δ (!p) δ1 :=
  PT.szd (pt_not h) fun σ H Q z ⟨β, O, W, E, k⟩ => ⟨β, O, W, E, fun H1 z1 E1 f1 z2 => k H1 z2 E1 f1⟩
theorem dw_one (h : DT X a δ p δ1) : DW X (.BoolOp .And [a] pos) δ p δ1 := pw_and1 h
theorem dw_one' (h : DT X a δ p δ1) : DW X (.BoolOp .Or [a] pos) δ p δ1 := pw_or1 h
/-- and, or as tests; behind a true (false) first the state may be another -/
theorem dw_and (ha : DT X a δ p δ1) (hb : p = true → DW X (.BoolOp .And (b :: rest) pos) δ1 q δ2) (h0 : p = false → δ2 = δ1) : DW X (.BoolOp .And (a :: b :: rest) pos) δ (p && q) δ2 := by
  cases p with
  | true => exact PW.szd (pw_and ha (hb rfl)) fun σ H Q z ⟨β, O, W, E, k⟩ => ⟨β, O, W, E, fun H1 z1 E1 f1 => by
      refine iteT ?_
      exact ⟨β, O, W, E1, fun H2 z2 E2 f2 z3 => k H2 z3 E2 (f1.tr f2)⟩⟩
  | false =>
    cases h0 rfl
    refine PW.szd (t := tAnd (rT X.K δ false δ1) (fun _ _ _ => False)) (pw_and ha ⟨fun _ _ _ _ _ _ _ h => h.elim⟩) fun σ H Q z ⟨β, O, W, E, k⟩ => ⟨β, O, W, E, fun H1 z1 E1 f1 => ?_⟩
    refine iteF ?_
    exact fun z3 => k H1 z3 E1 f1
theorem dw_or (ha : DT X a δ p δ1) (hb : p = false → DW X (.BoolOp .Or (b :: rest) pos) δ1 q δ2) (h0 : p = true → δ2 = δ1) : DW X (.BoolOp .Or (a :: b :: rest) pos) δ (p || q) δ2 := by
  cases p with
  | false => exact PW.szd (pw_or ha (hb rfl)) fun σ H Q z ⟨β, O, W, E, k⟩ => ⟨β, O, W, E, fun H1 z1 E1 f1 => by
      refine iteF ?_
      exact ⟨β, O, W, E1, fun H2 z2 E2 f2 z3 => k H2 z3 E2 (f1.tr f2)⟩⟩
  | true =>
    cases h0 rfl
    refine PW.szd (t := tOr (rT X.K δ true δ1) (fun _ _ _ => False)) (pw_or ha ⟨fun _ _ _ _ _ _ _ h => h.elim⟩) fun σ H Q z ⟨β, O, W, E, k⟩ => ⟨β, O, W, E, fun H1 z1 E1 f1 => ?_⟩
    refine iteT ?_
    exact fun z3 => k H1 z3 E1 f1
theorem dt_and (ha : DT X a δ p δ1) (hb : p = true → DW X (.BoolOp .And (b :: rest) pos) δ1 q δ2) (h0 : p = false → δ2 = δ1) : DT X (.BoolOp .And (a :: b :: rest) pos) δ (p && q) δ2 := (dw_and ha hb h0).pt
theorem dt_or (ha : DT X a δ p δ1) (hb : p = false → DW X (.BoolOp .Or (b :: rest) pos) δ1 q δ2) (h0 : p = true → δ2 = δ1) : DT X (.BoolOp .Or (a :: b :: rest) pos) δ (p || q) δ2 := (dw_or ha hb h0).pt
/-- a if t else b -/
theorem de_if (hc : DT X c δ p δ1) (ha : p = true → DE X a δ1 ra δ2) (hb : p = false → DE X b δ1 ra δ2) : DE X (.IfExp c a b pos) δ ra δ2 := by
  cases p with
  | true => exact PE.szd (t := tIf (rT X.K δ true δ1) (rE X.K δ1 ra δ2) (fun _ _ _ => False)) (pe_ifExp hc (ha rfl) ⟨fun _ _ _ _ _ _ h => h.elim⟩) fun σ H Q z ⟨β, O, W, E, k⟩ => ⟨β, O, W, E, fun H1 z1 E1 f1 => by
      refine iteT ?_
      exact ⟨β, O, W, E1, fun y H2 z2 E2 f2 h2 z3 => k y H2 z3 E2 (f1.tr f2) h2⟩⟩
  | false => exact PE.szd (t := tIf (rT X.K δ false δ1) (fun _ _ _ => False) (rE X.K δ1 ra δ2)) (pe_ifExp hc ⟨fun _ _ _ _ _ _ h => h.elim⟩ (hb rfl)) fun σ H Q z ⟨β, O, W, E, k⟩ => ⟨β, O, W, E, fun H1 z1 E1 f1 => by
      refine iteF ?_
      exact ⟨β, O, W, E1, fun y H2 z2 E2 f2 h2 z3 => k y H2 z3 E2 (f1.tr f2) h2⟩⟩
theorem df_if {co : Co} (hc : DT X c δ p δ1) (ha : p = true → DF X a δ1 co δ2) (hb : p = false → DF X b δ1 co δ2) : DF X (.IfExp c a b pos) δ co δ2 := by
  cases p with
  | true => exact PE.szd (t := tIf (rT X.K δ true δ1) (rF X.K δ1 co δ2) (fun _ _ _ => False)) (pe_ifExp hc (ha rfl) ⟨fun _ _ _ _ _ _ h => h.elim⟩) fun σ H Q z ⟨β, O, W, E, k⟩ => ⟨β, O, W, E, fun H1 z1 E1 f1 => by
      refine iteT ?_
      exact ⟨β, O, W, E1, fun p o H2 z2 hn E2 f2 ho hc hb z3 => k p o H2 z3 (E.wasNew E1 f1 hn) E2 (f1.tr f2) ho hc hb⟩⟩
  | false => exact PE.szd (t := tIf (rT X.K δ false δ1) (fun _ _ _ => False) (rF X.K δ1 co δ2)) (pe_ifExp hc ⟨fun _ _ _ _ _ _ h => h.elim⟩ (hb rfl)) fun σ H Q z ⟨β, O, W, E, k⟩ => ⟨β, O, W, E, fun H1 z1 E1 f1 => by
      refine iteF ?_
      exact ⟨β, O, W, E1, fun p o H2 z2 hn E2 f2 ho hc hb z3 => k p o H2 z3 (E.wasNew E1 f1 hn) E2 (f1.tr f2) ho hc hb⟩⟩
end
end G
set_option Elab.async false
set_option linter.all false
set_option maxRecDepth 100000
set_option maxHeartbeats 4000000
/-! G3: argument lists, displays, built-in calls, subscripts, slices. -/
namespace G
open PySem PySem.Spec L2
open PyProof.Rows (room_in_shaped)
section
variable {X : Cx} {e a b c : Expr} {es : List Expr} {δ δ1 δ2 δ3 : Dl} {ra rb rc : R} {d d1 d2 d3 : PyData} {ds : List PyData} {pos p' : Pos}
theorem da_nil : DA X [] δ [] δ := PA.szd pa_nil fun σ H Q z ⟨β, O, W, E, k⟩ => fun z' => k [] H z' E Fr.rfl .nil
theorem da_cons (ha : DE X e δ (.d d) δ1) (hr : DA X es δ1 ds δ2) (hs : starEach (e :: es) X.env = (false, eval e X.env) :: starEach es X.env := by rfl) : DA X (e :: es) δ (d :: ds) δ2 :=
  PA.szd (pa_cons ha hr hs) fun σ H Q z ⟨β, O, W, E, k⟩ => ⟨β, O, W, E, fun x H1 z1 E1 f1 h1 => ⟨β, O, W, E1, fun vs H2 z2 E2 f2 h2 z3 => k _ H2 z3 E2 (f1.tr f2) (.cons (h1.fr (E1.up f2)) h2)⟩⟩
/-- one argument, an own list's slot or data -/
theorem pa_1 (ha : DE X e δ ra δ1) (hs : starEach [e] X.env = (false, eval e X.env) :: starEach [] X.env := by rfl) : PA X [e] (tCons (rE X.K δ ra δ1) tNil) := pa_cons ha pa_nil hs
theorem de_tup {j} (h : DA X es δ ds δ1) (hz : ds.length ≤ sizeLine := by decide) : DE X (.Tuple es j pos) δ (.d (.tuple ds)) δ1 :=
  PE.szd (pe_tup h) fun σ H Q z ⟨β, O, W, E, k⟩ => ⟨β, O, W, E, fun vs H1 z1 E1 f1 h1 => ⟨by rw [h1.len]; exact hz, fun p hp z2 =>
    k _ _ z2 (E1.ex (Ex.new hp)) (f1.tr (Ex.new hp).fr) (.tup (.inl ⟨.inl upd_same, E1.new0 hp⟩) (h1.ex (Ex.new hp)))⟩⟩
theorem df_lst (h : DA X es δ ds δ1) (hz : ds.length ≤ sizeLine := by decide) : DF X (.List es pos) δ (.l ds) δ1 :=
  PE.szd (pe_lst h) fun σ H Q z ⟨β, O, W, E, k⟩ => ⟨β, O, W, E, fun vs H1 z1 E1 f1 h1 => ⟨by rw [h1.len]; exact hz, fun p hp => E1.made E f1 k p _ _ hp (Ex.new hp) upd_same h1⟩⟩

/-! ### built-in functions of one thing -/
abbrev RC := List V → Hp → VK → Prop
def Rs1 (K : PySem.W.Frag) (r : RC) (d1 d : PyData) : Prop := ∀ O H x Q, Wf K O H → Iw K O H x d1 → Gv K O H d Q → r [x] H Q
def Rs1F (K : PySem.W.Frag) (r : RC) (d1 : PyData) (co : Co) : Prop := ∀ O H x Q, Wf K O H → Iw K O H x d1 → GvF K O H co Q → r [x] H Q
variable {r : RC} {T : String} {id : String} {x : Str}
theorem de_cB {id} (hc : CallR X (.builtin id) r) (ha : DE X a δ ra δ1) (rr : Rs1 X.K r d1 d) (hm : X.mg x = none) (hv : bootBuiltins x = some (.builtin id)) (ea : res δ1 ra = some d1 := by rfl) (hg : Gl X x := by rfl) (hn : x ≠ "__name__" := by decide)
    (hdb : (x == ("__debug__" : Str)) = false := by decide) (he : starEach [a] X.env = (false, eval a X.env) :: starEach [] X.env := by rfl) : DE X (.Call (.Name x p') [a] [] pos) δ (.d d) δ1 :=
  PE.szd (pe_callB hc hg hm hv (pa_1 ha he) hn hdb he) fun σ H Q z ⟨β, O, W, E, k⟩ => ⟨β, O, W, E, fun y H1 z1 E1 f1 h1 => rr O H1 y _ (E1.wf z1) (h1.w E1 ea) (E1.gave f1 k)⟩
theorem de_cT (hc : CallR X (.type T) r) (ha : DE X a δ ra δ1) (rr : Rs1 X.K r d1 d) (hm : X.mg x = none) (hv : bootBuiltins x = some (.type T)) (ea : res δ1 ra = some d1 := by rfl) (hg : Gl X x := by rfl) (hn : x ≠ "__name__" := by decide)
    (hdb : (x == ("__debug__" : Str)) = false := by decide) (he : starEach [a] X.env = (false, eval a X.env) :: starEach [] X.env := by rfl) : DE X (.Call (.Name x p') [a] [] pos) δ (.d d) δ1 :=
  PE.szd (pe_callTy hc hg hm hv (pa_1 ha he) hn hdb he) fun σ H Q z ⟨β, O, W, E, k⟩ => ⟨β, O, W, E, fun y H1 z1 E1 f1 h1 => rr O H1 y _ (E1.wf z1) (h1.w E1 ea) (E1.gave f1 k)⟩
theorem df_cB {id} {co : Co} (hc : CallR X (.builtin id) r) (ha : DE X a δ ra δ1) (rr : Rs1F X.K r d1 co) (hm : X.mg x = none) (hv : bootBuiltins x = some (.builtin id)) (ea : res δ1 ra = some d1 := by rfl) (hg : Gl X x := by rfl) (hn : x ≠ "__name__" := by decide)
    (hdb : (x == ("__debug__" : Str)) = false := by decide) (he : starEach [a] X.env = (false, eval a X.env) :: starEach [] X.env := by rfl) : DF X (.Call (.Name x p') [a] [] pos) δ co δ1 :=
  PE.szd (pe_callB hc hg hm hv (pa_1 ha he) hn hdb he) fun σ H Q z ⟨β, O, W, E, k⟩ => ⟨β, O, W, E, fun y H1 z1 E1 f1 h1 => rr O H1 y _ (E1.wf z1) (h1.w E1 ea) (E1.made E f1 k)⟩
theorem df_cT {co : Co} (hc : CallR X (.type T) r) (ha : DE X a δ ra δ1) (rr : Rs1F X.K r d1 co) (hm : X.mg x = none) (hv : bootBuiltins x = some (.type T)) (ea : res δ1 ra = some d1 := by rfl) (hg : Gl X x := by rfl) (hn : x ≠ "__name__" := by decide)
    (hdb : (x == ("__debug__" : Str)) = false := by decide) (he : starEach [a] X.env = (false, eval a X.env) :: starEach [] X.env := by rfl) : DF X (.Call (.Name x p') [a] [] pos) δ co δ1 :=
  PE.szd (pe_callTy hc hg hm hv (pa_1 ha he) hn hdb he) fun σ H Q z ⟨β, O, W, E, k⟩ => ⟨β, O, W, E, fun y H1 z1 E1 f1 h1 => rr O H1 y _ (E1.wf z1) (h1.w E1 ea) (E1.made E f1 k)⟩
/-- len of a list, of a tuple -/
theorem de_lenL (ha : DE X a δ ra δ1) (hm : X.mg "len" = none) (ea : res δ1 ra = some (.list ds) := by rfl) (hg : Gl X "len" := by rfl) (he : starEach [a] X.env = (false, eval a X.env) :: starEach [] X.env := by rfl) :
    DE X (.Call (.Name "len" p') [a] [] pos) δ (.d (.int ds.length)) δ1 :=
  de_cB call_len_seq ha (fun O H x Q z h k => by
    obtain ⟨p, xs, rfl, h1, h2⟩ := h.lst
    exact ⟨p, xs, rfl, .inl (SqL.of h1), by rw [h2.len]; exact k.here (.int _)⟩) hm PySem.boot_len ea hg (by decide) (by decide) he
theorem de_lenT (ha : DE X a δ ra δ1) (hm : X.mg "len" = none) (ea : res δ1 ra = some (.tuple ds) := by rfl) (hg : Gl X "len" := by rfl) (he : starEach [a] X.env = (false, eval a X.env) :: starEach [] X.env := by rfl) :
    DE X (.Call (.Name "len" p') [a] [] pos) δ (.d (.int ds.length)) δ1 :=
  de_cB call_len_seq ha (fun O H x Q z h k => by
    obtain ⟨p, xs, rfl, h1, h2⟩ := h.tup
    exact ⟨p, xs, rfl, .inr h1.sq, by rw [h2.len]; exact k.here (.int _)⟩) hm PySem.boot_len ea hg (by decide) (by decide) he
theorem IsAll.bools {K : PySem.W.Frag} {O : Ad} {H : Hp} : ∀ {bs : List Bool} {vs : List V}, IsAll K O H vs (bs.map .bool) → vs = bs.map .bl
  | [], _, h => by cases h; rfl
  | b :: bs, _, h => by
    cases h with
    | cons h1 h2 => cases h1; rw [IsAll.bools h2, List.map_cons]
theorem IsAll.ints {K : PySem.W.Frag} {O : Ad} {H : Hp} : ∀ {bs : List Int} {vs : List V}, IsAll K O H vs (bs.map .int) → vs = bs.map .int
  | [], _, h => by cases h; rfl
  | b :: bs, _, h => by
    cases h with
    | cons h1 h2 => cases h1; rw [IsAll.ints h2, List.map_cons]
/-- all, any of a list of bools -/
theorem de_all {bs : List Bool} (hc : X.calm = true) (ha : DE X a δ (.d (.list (bs.map .bool))) δ1) (hm : X.mg "all" = none) (hg : Gl X "all" := by rfl) (he : starEach [a] X.env = (false, eval a X.env) :: starEach [] X.env := by rfl) :
    DE X (.Call (.Name "all" p') [a] [] pos) δ (.d (.bool (bs.all fun x => x))) δ1 :=
  de_cB (cr_all hc) ha (fun O H x Q z h k => by
    obtain ⟨p, xs, rfl, h1, h2⟩ := h.lst
    cases h2.bools
    exact ⟨p, bs, rfl, SqL.of h1, k.here (.bl _)⟩) hm (by decide +kernel) rfl hg (by decide) (by decide) he
theorem de_any {bs : List Bool} (hc : X.calm = true) (ha : DE X a δ (.d (.list (bs.map .bool))) δ1) (hm : X.mg "any" = none) (hg : Gl X "any" := by rfl) (he : starEach [a] X.env = (false, eval a X.env) :: starEach [] X.env := by rfl) :
    DE X (.Call (.Name "any" p') [a] [] pos) δ (.d (.bool (bs.any fun x => x))) δ1 :=
  de_cB (cr_any hc) ha (fun O H x Q z h k => by
    obtain ⟨p, xs, rfl, h1, h2⟩ := h.lst
    cases h2.bools
    exact ⟨p, bs, rfl, SqL.of h1, k.here (.bl _)⟩) hm (by decide +kernel) rfl hg (by decide) (by decide) he
theorem de_sum {bs : List Int} (hc : X.calm = true) (ha : DE X a δ (.d (.list (bs.map .int))) δ1) (hm : X.mg "sum" = none) (hg : Gl X "sum" := by rfl) (he : starEach [a] X.env = (false, eval a X.env) :: starEach [] X.env := by rfl) :
    DE X (.Call (.Name "sum" p') [a] [] pos) δ (.d (.int bs.sum)) δ1 :=
  de_cB (cr_sum hc) ha (fun O H x Q z h k => by
    obtain ⟨p, xs, rfl, h1, h2⟩ := h.lst
    cases h2.ints
    exact ⟨p, bs, rfl, SqL.of h1, k.here (.int _)⟩) hm (by decide +kernel) rfl hg (by decide) (by decide) he
theorem de_abs {i : Int} (ha : DE X a δ (.d (.int i)) δ1) (hm : X.mg "abs" = none) (hg : Gl X "abs" := by rfl) (he : starEach [a] X.env = (false, eval a X.env) :: starEach [] X.env := by rfl) :
    DE X (.Call (.Name "abs" p') [a] [] pos) δ (.d (.int i.natAbs)) δ1 :=
  de_cB call_abs ha (fun O H x Q z h k => by
    refine ⟨i, by rw [h.int], ?_⟩
    have e : (if i < 0 then -i else i) = (i.natAbs : Int) := by split <;> omega
    rw [e]
    exact k.here (.int _)) hm (by decide +kernel) rfl hg (by decide) (by decide) he
theorem de_intI {i : Int} (ha : DE X a δ (.d (.int i)) δ1) (hm : X.mg "int" = none) (hg : Gl X "int" := by rfl) (he : starEach [a] X.env = (false, eval a X.env) :: starEach [] X.env := by rfl) :
    DE X (.Call (.Name "int" p') [a] [] pos) δ (.d (.int i)) δ1 :=
  de_cT call_int1 ha (fun O H x Q z h k => .inl ⟨i, by rw [h.int], k.here (.int _)⟩) hm (by decide +kernel) rfl hg (by decide) (by decide) he
/-- list(xs), list(t) -/
theorem df_listL (ha : DE X a δ ra δ1) (hm : X.mg "list" = none) (ea : res δ1 ra = some (.list ds) := by rfl) (hg : Gl X "list" := by rfl) (he : starEach [a] X.env = (false, eval a X.env) :: starEach [] X.env := by rfl) :
    DF X (.Call (.Name "list" p') [a] [] pos) δ (.l ds) δ1 :=
  df_cT call_list_of ha (fun O H x Q z h k => by
    obtain ⟨p, xs, rfl, h1, h2⟩ := h.lst
    exact ⟨p, xs, rfl, .inl (SqL.of h1), fun l hl => k l _ _ hl (Ex.new hl) upd_same h2⟩) hm (by decide +kernel) ea hg (by decide) (by decide) he
theorem df_listT (ha : DE X a δ ra δ1) (hm : X.mg "list" = none) (ea : res δ1 ra = some (.tuple ds) := by rfl) (hg : Gl X "list" := by rfl) (he : starEach [a] X.env = (false, eval a X.env) :: starEach [] X.env := by rfl) :
    DF X (.Call (.Name "list" p') [a] [] pos) δ (.l ds) δ1 :=
  df_cT call_list_of ha (fun O H x Q z h k => by
    obtain ⟨p, xs, rfl, h1, h2⟩ := h.tup
    exact ⟨p, xs, rfl, .inr h1.sq, fun l hl => k l _ _ hl (Ex.new hl) upd_same h2⟩) hm (by decide +kernel) ea hg (by decide) (by decide) he
/-- tuple(xs), tuple(t) -/
theorem de_tupL (ha : DE X a δ ra δ1) (hm : X.mg "tuple" = none) (ea : res δ1 ra = some (.list ds) := by rfl) (hg : Gl X "tuple" := by rfl) (he : starEach [a] X.env = (false, eval a X.env) :: starEach [] X.env := by rfl) :
    DE X (.Call (.Name "tuple" p') [a] [] pos) δ (.d (.tuple ds)) δ1 :=
  de_cT call_tuple_of ha (fun O H x Q z h k => by
    obtain ⟨p, xs, rfl, h1, h2⟩ := h.lst
    exact ⟨p, xs, rfl, .inl ⟨SqL.of h1, fun l hl => k _ _ (Ex.new hl) (.tup (.inl ⟨.inl upd_same, z.nw hl⟩) (h2.ex (Ex.new hl)))⟩⟩) hm (by decide +kernel) ea hg (by decide) (by decide) he
theorem de_tupT (ha : DE X a δ ra δ1) (hm : X.mg "tuple" = none) (ea : res δ1 ra = some (.tuple ds) := by rfl) (hg : Gl X "tuple" := by rfl) (he : starEach [a] X.env = (false, eval a X.env) :: starEach [] X.env := by rfl) :
    DE X (.Call (.Name "tuple" p') [a] [] pos) δ (.d (.tuple ds)) δ1 :=
  de_cT call_tuple_of ha (fun O H x Q z h k => by
    obtain ⟨p, xs, rfl, h1, h2⟩ := h.tup
    exact ⟨p, xs, rfl, .inr ⟨h1.sq, k.here (.tup h1 h2)⟩⟩) hm (by decide +kernel) ea hg (by decide) (by decide) he
/-- a list made on the spot, handed to tuple(..), list(..), len(..), all(..) -/
theorem de_tupN (ha : DF X a δ (.l ds) δ1) (hm : X.mg "tuple" = none) (hg : Gl X "tuple" := by rfl) (he : starEach [a] X.env = (false, eval a X.env) :: starEach [] X.env := by rfl) :
    DE X (.Call (.Name "tuple" p') [a] [] pos) δ (.d (.tuple ds)) δ1 := de_tupL (de_new ha) hm rfl hg he

/-! ### subscripts -/
def atD (ds : List PyData) (i : Int) : Option PyData := atI ds i
theorem IsAll.at {K : PySem.W.Frag} {O : Ad} {H : Hp} {ds : List PyData} {xs : List V} {i : Int} {d : PyData} (h : IsAll K O H xs ds) (q : atI ds i = some d) : ∃ v, atI xs i = some v ∧ Is K O H v d := by
  unfold atI at q
  rw [← h.len] at q
  cases e : ixN xs.length i with
  | none => rw [e] at q; cases q
  | some j =>
    rw [e] at q
    obtain ⟨v, h1, h2⟩ := h.get' (i := j) q
    exact ⟨v, by unfold atI; rw [e]; exact h1, h2⟩
theorem rsIxL {K : PySem.W.Frag} {i : Int} (q : atI ds i = some d) : Rs2 K (rIxL K) (.list ds) (.int i) d := fun O H x y Q z hx hy k => by
  obtain ⟨p, xs, rfl, h1, h2⟩ := hx.lst
  obtain ⟨v, h3, h4⟩ := h2.at q
  exact ⟨p, xs, i, v, rfl, hy.int, SqL.of h1, h3, k.here h4⟩
theorem rsIxT {K : PySem.W.Frag} {i : Int} (q : atI ds i = some d) : Rs2 K (rIxT K) (.tuple ds) (.int i) d := fun O H x y Q z hx hy k => by
  obtain ⟨p, xs, rfl, h1, h2⟩ := hx.tup
  obtain ⟨v, h3, h4⟩ := h2.at q
  exact ⟨p, xs, i, v, rfl, hy.int, h1.sq, h3, k.here h4⟩
theorem de_ix {r : R2} (hr : IxR X r) (ha : DE X a δ ra δ1) (hb : DE X b δ1 rb δ2) (rr : Rs2 X.K r d1 d2 d) (hs : PlainIx b) (ea : res δ2 ra = some d1 := by rfl) (eb : res δ2 rb = some d2 := by rfl) : DE X (.Subscript a b pos) δ (.d d) δ2 :=
  PE.szd (pe_ix hr ha hb hs) fun σ H Q z ⟨β, O, W, E, k⟩ => ⟨β, O, W, E, fun x H1 z1 E1 f1 h1 => ⟨β, O, W, E1, fun y H2 z2 E2 f2 h2 =>
    rr O H2 x y _ (E2.wf z2) ((h1.fr (E1.up f2)).w E2 ea) (h2.w E2 eb) (E2.gave (f1.tr f2) k)⟩⟩
/-- xs[i], t[i] -/
theorem de_ixL {i : Int} (ha : DE X a δ ra δ1) (hb : DE X b δ1 (.d (.int i)) δ2) (q : atI ds i = some d) (ea : res δ2 ra = some (.list ds) := by rfl) (hs : PlainIx b := by exact fun _ _ => rfl) : DE X (.Subscript a b pos) δ (.d d) δ2 :=
  de_ix ix_list ha hb (rsIxL q) hs ea rfl
theorem de_ixT {i : Int} (ha : DE X a δ ra δ1) (hb : DE X b δ1 (.d (.int i)) δ2) (q : atI ds i = some d) (ea : res δ2 ra = some (.tuple ds) := by rfl) (hs : PlainIx b := by exact fun _ _ => rfl) : DE X (.Subscript a b pos) δ (.d d) δ2 :=
  de_ix ix_tup ha hb (rsIxT q) hs ea rfl

/-! ### in, not in -/
def rInT (K : PySem.W.Frag) : R2 := fun x y H Q => ∃ d ds, Dp K H x d ∧ Dp K H y (.tuple ds) ∧ SeqAt.shaped d = true ∧ SeqAt.shaped (.tuple ds) = true ∧ Q (.bl (ds.any fun z => PyData.eqv z d)) H
def rNotInT (K : PySem.W.Frag) : R2 := fun x y H Q => ∃ d ds, Dp K H x d ∧ Dp K H y (.tuple ds) ∧ SeqAt.shaped d = true ∧ SeqAt.shaped (.tuple ds) = true ∧ Q (.bl (!ds.any fun z => PyData.eqv z d)) H
theorem or_inT (hu : X.A.units + 65 < cLine) : OpR X (compareOp .In) (rInT X.K) := by
  intro pins s σ H x y v u Q I rx ry h
  obtain ⟨d, ds, hd, he, sd, se, q⟩ := h
  obtain ⟨as, r1⟩ := Dp.reads I d x v hd rx
  obtain ⟨bs, r2⟩ := Dp.reads I (.tuple ds) y u he ry
  exact SeqAt.in_tuple_reads r2 r1 (SeqAt.canLay_of_shaped se) (SeqAt.canLay_of_shaped sd) (room_in_shaped sd hu) ⟨.bl _, H, I, rfl, q⟩
theorem or_notInT (hu : X.A.units + 65 < cLine) : OpR X (compareOp .NotIn) (rNotInT X.K) := by
  intro pins s σ H x y v u Q I rx ry h
  obtain ⟨d, ds, hd, he, sd, se, q⟩ := h
  obtain ⟨as, r1⟩ := Dp.reads I d x v hd rx
  obtain ⟨bs, r2⟩ := Dp.reads I (.tuple ds) y u he ry
  exact SeqAt.notIn_tuple_reads r2 r1 (SeqAt.canLay_of_shaped se) (SeqAt.canLay_of_shaped sd) (room_in_shaped sd hu) ⟨.bl _, H, I, rfl, q⟩
variable {i : Int}
theorem de_inL (hu : X.A.units + 65 < cLine) (ha : DE X a δ ra δ1) (hb : DE X b δ1 rb δ2) (h1 : SeqAt.shaped d = true) (h2 : SeqAt.shaped (.list ds) = true) (hm : behindInMarks .In b = false := by rfl) (ea : res δ2 ra = some d := by rfl) (eb : res δ2 rb = some (.list ds) := by rfl) :
    DE X (.Compare a [.In] [b] pos) δ (.d (.bool (ds.any fun z => PyData.eqv z d))) δ2 := de_cmp (op_inD hu) ha hb (fun O H x y Q z hx hy k => ⟨d, ds, hx.dp, hy.dp, h1, h2, k.here (.bl _)⟩) hm ea eb
theorem de_inT (hu : X.A.units + 65 < cLine) (ha : DE X a δ ra δ1) (hb : DE X b δ1 rb δ2) (h1 : SeqAt.shaped d = true) (h2 : SeqAt.shaped (.tuple ds) = true) (hm : behindInMarks .In b = false := by rfl) (ea : res δ2 ra = some d := by rfl) (eb : res δ2 rb = some (.tuple ds) := by rfl) :
    DE X (.Compare a [.In] [b] pos) δ (.d (.bool (ds.any fun z => PyData.eqv z d))) δ2 := de_cmp (or_inT hu) ha hb (fun O H x y Q z hx hy k => ⟨d, ds, hx.dp, hy.dp, h1, h2, k.here (.bl _)⟩) hm ea eb
theorem de_notInL (hu : X.A.units + 65 < cLine) (ha : DE X a δ ra δ1) (hb : DE X b δ1 rb δ2) (h1 : SeqAt.shaped d = true) (h2 : SeqAt.shaped (.list ds) = true) (hm : behindInMarks .NotIn b = false := by rfl) (ea : res δ2 ra = some d := by rfl) (eb : res δ2 rb = some (.list ds) := by rfl) :
    DE X (.Compare a [.NotIn] [b] pos) δ (.d (.bool (!ds.any fun z => PyData.eqv z d))) δ2 := de_cmp (op_notInD hu) ha hb (fun O H x y Q z hx hy k => ⟨d, ds, hx.dp, hy.dp, h1, h2, k.here (.bl _)⟩) hm ea eb
theorem de_notInT (hu : X.A.units + 65 < cLine) (ha : DE X a δ ra δ1) (hb : DE X b δ1 rb δ2) (h1 : SeqAt.shaped d = true) (h2 : SeqAt.shaped (.tuple ds) = true) (hm : behindInMarks .NotIn b = false := by rfl) (ea : res δ2 ra = some d := by rfl) (eb : res δ2 rb = some (.tuple ds) := by rfl) :
    DE X (.Compare a [.NotIn] [b] pos) δ (.d (.bool (!ds.any fun z => PyData.eqv z d))) δ2 := de_cmp (or_notInT hu) ha hb (fun O H x y Q z hx hy k => ⟨d, ds, hx.dp, hy.dp, h1, h2, k.here (.bl _)⟩) hm ea eb

/-! ### t + u, xs + ys, xs * k -/
variable {es1 es2 : List PyData}
theorem de_catT (ha : DE X a δ (.d (.tuple es1)) δ1) (hb : DE X b δ1 (.d (.tuple es2)) δ2) (hz : es1.length + es2.length ≤ sizeLine) : DE X (.BinOp a .Add b pos) δ (.d (.tuple (es1 ++ es2))) δ2 :=
  de_bin op_catA ha hb fun O H x y Q z hx hy k => by
    obtain ⟨p, xs, rfl, h1, h2⟩ := hx.tup
    obtain ⟨q, ys, rfl, h3, h4⟩ := hy.tup
    refine ⟨p, q, xs, ys, rfl, rfl, h1.sq, h3.sq, by rw [h2.len, h4.len]; exact hz, fun e => ?_, fun e e' => ?_, fun e e' t ht => ?_⟩
    · subst e
      cases h2
      exact k.here (.tup h3 h4)
    · subst e'
      cases h4
      rw [List.append_nil] at k
      exact k.here (.tup h1 h2)
    · exact k _ _ (Ex.new ht) (.tup (.inl ⟨.inl upd_same, z.nw ht⟩) ((h2.app h4).ex (Ex.new ht)))
theorem df_cat {ds es' : List PyData} (ha : DE X a δ ra δ1) (hb : DE X b δ1 rb δ2) (hz : ds.length + es'.length ≤ sizeLine) (ea : res δ2 ra = some (.list ds) := by rfl) (eb : res δ2 rb = some (.list es') := by rfl) : DF X (.BinOp a .Add b pos) δ (.l (ds ++ es')) δ2 :=
  df_bin op_cat ha hb (fun O H x y Q z hx hy k => by
    obtain ⟨p, xs, rfl, h1, h2⟩ := hx.lst
    obtain ⟨q, ys, rfl, h3, h4⟩ := hy.lst
    exact ⟨p, q, xs, ys, rfl, rfl, h1, h3, by rw [h2.len, h4.len]; exact hz, fun l hl => k l _ _ hl (Ex.new hl) upd_same (h2.app h4)⟩) ea eb
theorem IsAll.rep {K : PySem.W.Frag} {O : Ad} {H : Hp} {xs : List V} (h : IsAll K O H xs ds) : ∀ n : Nat, IsAll K O H (List.replicate n xs).flatten (List.replicate n ds).flatten
  | 0 => .nil
  | n + 1 => by rw [List.replicate_succ, List.replicate_succ, List.flatten_cons, List.flatten_cons]; exact h.app (IsAll.rep h n)
theorem df_rep {ds : List PyData} (ha : DE X a δ ra δ1) (hb : DE X b δ1 (.d (.int i)) δ2) (hi : -(2 ^ 63) ≤ i ∧ i < 2 ^ 63) (hz : ds.length * i.toNat ≤ sizeLine) (ea : res δ2 ra = some (.list ds) := by rfl) : DF X (.BinOp a .Mult b pos) δ (.l (List.replicate i.toNat ds).flatten) δ2 :=
  df_bin op_rep ha hb (fun O H x y Q z hx hy k => by
    obtain ⟨p, xs, rfl, h1, h2⟩ := hx.lst
    exact ⟨p, i, xs, rfl, hy.int, h1, hi.1, hi.2, by rw [h2.len]; exact hz, fun l hl => k l _ _ hl (Ex.new hl) upd_same (IsAll.rep h2 _)⟩) ea rfl

/-! ### slices -/
def cutD (ds : List PyData) (lo hi : Option Int) : List PyData := (ds.drop (HT.sIx ds.length 0 lo)).take (HT.sIx ds.length ds.length hi - HT.sIx ds.length 0 lo)
theorem IsAll.cut {K : PySem.W.Frag} {O : Ad} {H : Hp} {xs : List V} {lo hi : Option Int} (h : IsAll K O H xs ds) : IsAll K O H (cutV xs lo hi) (cutD ds lo hi) := by
  unfold cutV cutD
  rw [h.len]
  exact (h.drop _).take _
def rO (K : PySem.W.Frag) (δ : Dl) (o : Option Int) (δ' : Dl) : TO := fun σ H Q => ∃ (β : Bs) (O W : Ad), Sta K β O W H σ δ ∧ ∀ H', Sz K H' → Sta K β O W H' σ δ' → Fr W H H' → Q o H'
abbrev DO (X : Cx) (e : Option Expr) (δ : Dl) (o : Option Int) (δ' : Dl) : Prop := PO X e (rO X.K δ o δ')
theorem PO.szd {e : Option Expr} {t t' : TO} (h : PO X e t) (w : ∀ σ H Q, Sz X.K H → t' σ H Q → t σ H (fun v H' => Sz X.K H' → Q v H')) : PO X e t' := ⟨fun pins s σ H Q I q => by
  refine thn (h.run pins s σ H _ I (w σ H Q (Inv.sz I) q)) fun u s' ⟨v, H', I', r, k⟩ => ?_
  exact ⟨v, H', I', r, k (Inv.sz I')⟩⟩
theorem do_none : DO X none δ none δ := PO.szd po_none fun σ H Q z ⟨β, O, W, E, k⟩ => fun z' => k H z' E Fr.rfl
theorem do_some (ha : DE X a δ (.d (.int i)) δ1) : DO X (some a) δ (some i) δ1 := PO.szd (po_some ha) fun σ H Q z ⟨β, O, W, E, k⟩ => ⟨β, O, W, E, fun x H1 z1 E1 f1 h1 => ⟨i, h1.int', fun z2 => k H1 z2 E1 f1⟩⟩
variable {lo hi : Option Expr} {l h : Option Int} {p2 : Pos}
theorem de_slT (ha : DE X a δ (.d (.tuple ds)) δ1) (hl : DO X lo δ1 l δ2) (hh : DO X hi δ2 h δ3) : DE X (.Subscript a (.Slice lo hi none p2) pos) δ (.d (.tuple (cutD ds l h))) δ3 :=
  PE.szd (pe_slice sl_tupA ha hl hh) fun σ H Q z ⟨β, O, W, E, k⟩ => ⟨β, O, W, E, fun x H1 z1 E1 f1 h1 => ⟨β, O, W, E1, fun H2 z2 E2 f2 => ⟨β, O, W, E2, fun H3 z3 E3 f3 => by
    obtain ⟨p, xs, rfl, g1, g2⟩ := (Iw.is ((h1.fr (E1.up f2)).fr (E2.up f3))).tup
    refine ⟨p, xs, rfl, g1.sq, fun e z4 => ?_, fun e t ht z4 => ?_⟩
    · refine k _ H3 z4 E3 ((f1.tr f2).tr f3) (.tup g1 ?_)
      have q := g2.cut (lo := l) (hi := h)
      unfold cutV at q
      rw [e.1, e.2, Nat.sub_zero, List.drop_zero, List.take_length] at q
      exact q
    · exact k _ _ z4 (E3.ex (Ex.new ht)) (((f1.tr f2).tr f3).tr (Ex.new ht).fr) (.tup (.inl ⟨.inl upd_same, E3.new0 ht⟩) (g2.cut.ex (Ex.new ht)))⟩⟩⟩
theorem df_slL (ha : DE X a δ (.d (.list ds)) δ1) (hl : DO X lo δ1 l δ2) (hh : DO X hi δ2 h δ3) : DF X (.Subscript a (.Slice lo hi none p2) pos) δ (.l (cutD ds l h)) δ3 :=
  PE.szd (pe_slice sl_list ha hl hh) fun σ H Q z ⟨β, O, W, E, k⟩ => ⟨β, O, W, E, fun x H1 z1 E1 f1 h1 => ⟨β, O, W, E1, fun H2 z2 E2 f2 => ⟨β, O, W, E2, fun H3 z3 E3 f3 => by
    obtain ⟨p, xs, rfl, g1, g2⟩ := (Iw.is ((h1.fr (E1.up f2)).fr (E2.up f3))).lst
    exact ⟨p, xs, rfl, SqL.of g1, fun t ht => E3.made E ((f1.tr f2).tr f3) k t _ _ ht (Ex.new ht) upd_same g2.cut⟩⟩⟩⟩
end
end G
set_option Elab.async false
set_option linter.all false
set_option maxRecDepth 100000
set_option maxHeartbeats 4000000
/-! G4: what is walked (DI), targets (DG), comprehensions. -/
namespace G
open PySem PySem.Spec L2

/-! ### addresses that may have come to be own -/
def More (O : Ad) (H : Hp) (O2 : Ad) : Prop := ∀ a, O2 a → O a ∨ H a = none
section
variable {K : PySem.W.Frag} {O O2 : Ad} {H : Hp}
theorem More.rfl : More O H O := fun a h => .inl h
theorem Ls.grow {H2 : Hp} (f : Fr O H H2) (m : More O H O2) {a : Addr} {xs : List V} (h : Ls K O H a xs) : Ls K O2 H2 a xs := ⟨f a _ h.1 h.2, fun z => by
  rcases m a z with q | q
  · exact h.2 q
  · rw [h.1] at q; cases q⟩
theorem Ts.grow {H2 : Hp} (f : Fr O H H2) (m : More O H O2) {a : Addr} {xs : List V} (h : Ts K O H a xs) : Ts K O2 H2 a xs := by
  rcases h with ⟨h, n⟩ | h
  · refine .inl ⟨Rd.fr f n h, fun z => ?_⟩
    rcases m a z with q | q
    · exact n q
    · obtain ⟨o, q'⟩ := Rd.some h
      rw [q'] at q
      cases q
  · exact .inr h
mutual
theorem Is.grow {H2 : Hp} (f : Fr O H H2) (m : More O H O2) : ∀ {d : PyData} {v : V}, Is K O H v d → Is K O2 H2 v d
  | .none, _, h => by cases h; exact .non
  | .bool b, _, h => by cases h; exact .bl b
  | .int i, _, h => by cases h; exact .int i
  | .str x, _, h => by cases h; exact .str x
  | .list ds, _, h => by
    cases h with
    | lst h1 h2 => exact .lst (Ls.grow f m h1) (IsAll.grow f m h2)
  | .tuple ds, _, h => by
    cases h with
    | tup h1 h2 => exact .tup (Ts.grow f m h1) (IsAll.grow f m h2)
  | .dict _, _, h => by cases h
theorem IsAll.grow {H2 : Hp} (f : Fr O H H2) (m : More O H O2) : ∀ {ds : List PyData} {vs : List V}, IsAll K O H vs ds → IsAll K O2 H2 vs ds
  | [], _, h => by cases h; exact .nil
  | d :: ds, _, h => by
    cases h with
    | cons h1 h2 => exact .cons (Is.grow f m h1) (IsAll.grow f m h2)
end
/-- what is kept step by step, the own ones becoming more -/
theorem Fr.step {H1 H2 : Hp} (f : Fr O H H1) (m : More O H O2) (g : Fr O2 H1 H2) : Fr O H H2 := fun a o q n => g a o (f a o q n) fun z => by
  rcases m a z with q' | q'
  · exact n q'
  · rw [q] at q'; cases q'
end

/-! ### what is walked -/
/-- J yields ds, as long as what stood stands -/
def WalkD (K : PySem.W.Frag) (O : Ad) (J : It) (ds : List PyData) (H1 : Hp) : Prop := ds.length ≤ sizeLine ∧ ∀ O2 H2, Fr O H1 H2 → More O H1 O2 → (∀ a, O2 a → ∃ o, H2 a = some o) →
  (∀ i, ds.length ≤ i → J.stop i H2) ∧ ∀ i d, ds[i]? = some d → J.go i H2 ∧ ∀ v H3, J.yld i H2 v H3 → Ex H2 H3 ∧ Is K O2 H3 v d
def rI (K : PySem.W.Frag) (δ : Dl) (ds : List PyData) (δ' : Dl) : TI := fun σ H R => ∃ (β : Bs) (O W : Ad), Sta K β O W H σ δ ∧ ∀ J H', Sz K H' → Sta K β O W H' σ δ' → Fr W H H' → WalkD K O J ds H' → R J H'
abbrev DI (X : Cx) (tg iter : Expr) (δ : Dl) (ds : List PyData) (δ' : Dl) : Prop := PI X tg iter (rI X.K δ ds δ')
section
variable {X : Cx} {tg e a b c : Expr} {es : List Expr} {δ δ1 δ2 δ3 : Dl} {d d1 d2 d3 : PyData} {ds : List PyData} {pos p' : Pos}
theorem PI.szd {t t' : TI} (h : PI X tg e t) (w : ∀ σ H R, Sz X.K H → t' σ H R → t σ H (fun J H' => Sz X.K H' → R J H')) : PI X tg e t' := ⟨fun pins s σ H R I q => by
  refine thn (h.run pins s σ H _ I (w σ H R (Inv.sz I) q)) fun v s1 h1 => thn h1 fun itv s2 h2 => ?_
  obtain ⟨it, fp, tn, J, H', e1, I', T, st, f, r⟩ := h2
  exact ⟨it, fp, tn, J, H', e1, I', T, st, f, r (Inv.sz I')⟩⟩
theorem di_list (ha : DE X e δ (.d (.list ds)) δ1) : DI X tg e δ ds δ1 :=
  PI.szd (pi_list ha) fun σ H R z ⟨β, O, W, E, k⟩ => ⟨β, O, W, E, fun v H1 z1 E1 f1 h1 => by
    obtain ⟨p, xs, rfl, g1, g2⟩ := (Iw.is h1).lst
    cases h1 with
    | lst q1 q2 =>
      rename_i xs'
      have ex : xs' = xs := by have := q1.1; rw [g1] at this; cases this; rfl
      subst ex
      refine ⟨p, rfl, ⟨_, SqL.of g1⟩, fun z2 => k _ _ z2 E1 f1 ⟨by rw [← g2.len]; exact z1 _ _ (.inl (SqL.of g1)), fun O2 H2 f2 m2 dm2 => ?_⟩⟩
      have g1' : H2 p = some (.lst xs') := f2 p _ g1 q1.2
      refine ⟨fun i hi => ⟨xs', SqL.of g1', by rw [g2.len]; exact hi⟩, fun i d hd => ?_⟩
      obtain ⟨v, hv, q⟩ := g2.get' hd
      refine ⟨⟨xs', v, SqL.of g1', hv⟩, fun v' H3 y => ?_⟩
      obtain ⟨e3, y⟩ := y
      subst e3
      have := y xs' (SqL.of g1')
      rw [hv] at this
      cases this
      exact ⟨Ex.rfl, q.grow f2 m2⟩⟩
theorem di_tup (ha : DE X e δ (.d (.tuple ds)) δ1) : DI X tg e δ ds δ1 :=
  PI.szd (pi_tup ha) fun σ H R z ⟨β, O, W, E, k⟩ => ⟨β, O, W, E, fun v H1 z1 E1 f1 h1 => by
    obtain ⟨p, xs, rfl, g1, g2⟩ := (Iw.is h1).tup
    refine ⟨p, rfl, ⟨_, g1.sq⟩, fun z2 => k _ _ z2 E1 f1 ⟨by rw [← g2.len]; exact z1 _ _ (.inr g1.sq), fun O2 H2 f2 m2 dm2 => ?_⟩⟩
    have g1' := g1.grow f2 m2
    refine ⟨fun i hi => ⟨xs, g1'.sq, by rw [g2.len]; exact hi⟩, fun i d hd => ?_⟩
    obtain ⟨v, hv, q⟩ := g2.get' hd
    refine ⟨⟨xs, v, g1'.sq, hv⟩, fun v' H3 y => ?_⟩
    obtain ⟨e3, y⟩ := y
    subst e3
    have := y xs g1'.sq
    rw [hv] at this
    cases this
    exact ⟨Ex.rfl, q.grow f2 m2⟩⟩
/-- range(n), range(lo, hi): the ints -/
def rangeD (lo : Int) (n : Nat) : List PyData := (List.range n).map fun (i : Nat) => .int (lo + (i : Int))
theorem rangeD_len (lo : Int) (n : Nat) : (rangeD lo n).length = n := by unfold rangeD; rw [List.length_map, List.length_range]
theorem rangeD_get {lo : Int} {n i : Nat} {d : PyData} (h : (rangeD lo n)[i]? = some d) : i < n ∧ d = .int (lo + (i : Int)) := by
  unfold rangeD at h
  rw [List.getElem?_map] at h
  cases q : (List.range n)[i]? with
  | none => rw [q] at h; cases h
  | some j =>
    rw [q] at h
    obtain ⟨h1, h2⟩ := List.getElem?_eq_some_iff.mp q
    rw [List.getElem_range] at h2
    rw [List.length_range] at h1
    subst h2
    cases h
    exact ⟨h1, rfl⟩
theorem walk_range {K : PySem.W.Frag} {O : Ad} {H1 : Hp} {lo : Int} {n : Nat} (hn : n ≤ sizeLine) : WalkD K O (Itr lo n) (rangeD lo n) H1 := ⟨by rw [rangeD_len]; exact hn, fun O2 H2 f2 m2 dm2 =>
  ⟨fun i hi => by rw [rangeD_len] at hi; exact hi, fun i d hd => by
    obtain ⟨h1, rfl⟩ := rangeD_get hd
    exact ⟨h1, fun v H3 y => by
      obtain ⟨e3, rfl⟩ := y
      subst e3
      exact ⟨Ex.rfl, .int _⟩⟩⟩⟩
theorem di_range1 {n : Int} (ha : DE X a δ (.d (.int n)) δ1) (hm : X.mg "range" = none) (hn : n ≤ sizeLine) (hg : Gl X "range" := by rfl) (hs : starEach [a] X.env = [(false, eval a X.env)] := by rfl) (hs' : starEach [a] X.env = (false, eval a X.env) :: starEach [] X.env := by rfl) :
    -(2 ^ 62) ≤ n → DI X tg (.Call (.Name "range" p') [a] [] pos) δ (rangeD 0 n.toNat) δ1 := fun h0 =>
  PI.szd (pi_range1 hg hm (pa_1 ha hs') hs) fun σ H R z ⟨β, O, W, E, k⟩ => ⟨β, O, W, E, fun v H1 z1 E1 f1 h1 => by
    cases h1.int'
    have hs := sizeLine_eq
    refine ⟨n, rfl, h0, by omega, fun z2 => k _ _ z2 E1 f1 (walk_range ?_)⟩
    omega⟩
theorem di_range2 {lo n : Int} (ha : DE X a δ (.d (.int lo)) δ1) (hb : DE X b δ1 (.d (.int n)) δ2) (hm : X.mg "range" = none) (hlo : -(2 ^ 20) ≤ lo ∧ lo < 2 ^ 20) (hn : -(2 ^ 20) ≤ n ∧ n < 2 ^ 20) (hg : Gl X "range" := by rfl) (hs : starEach [a, b] X.env = [(false, eval a X.env), (false, eval b X.env)] := by rfl)
    (hs2 : starEach [b] X.env = [(false, eval b X.env)] := by rfl) (hs' : starEach [a, b] X.env = (false, eval a X.env) :: starEach [b] X.env := by rfl) (hs2' : starEach [b] X.env = (false, eval b X.env) :: starEach [] X.env := by rfl) :
    DI X tg (.Call (.Name "range" p') [a, b] [] pos) δ (rangeD lo (n - lo).toNat) δ2 :=
  PI.szd (pi_range2 hg hm (pa_cons ha (pa_1 hb hs2') hs') hs hs2) fun σ H R z ⟨β, O, W, E, k⟩ => ⟨β, O, W, E, fun v H1 z1 E1 f1 h1 => ⟨β, O, W, E1, fun u H2 z2 E2 f2 h2 => by
    cases h1.int'
    cases h2.int'
    have hs := sizeLine_eq
    refine ⟨lo, n, rfl, by omega, fun z3 => k _ _ z3 E2 (f1.tr f2) (walk_range ?_)⟩
    omega⟩⟩
/-- a list, or a tuple, of two things by their places -/
def zipD (xs ys : List PyData) : List PyData := (xs.zip ys).map fun p => .tuple [p.1, p.2]
theorem zipD_len (xs ys : List PyData) : (zipD xs ys).length = min xs.length ys.length := by unfold zipD; rw [List.length_map, List.length_zip]
theorem zipD_get {xs ys : List PyData} {i : Nat} {d : PyData} (h : (zipD xs ys)[i]? = some d) : ∃ x y, xs[i]? = some x ∧ ys[i]? = some y ∧ d = .tuple [x, y] := by
  unfold zipD at h
  rw [List.getElem?_map] at h
  cases q : (xs.zip ys)[i]? with
  | none => rw [q] at h; cases h
  | some p =>
    rw [q] at h
    cases h
    obtain ⟨h1, h2⟩ := List.getElem?_zip_eq_some.mp q
    exact ⟨p.1, p.2, h1, h2, rfl⟩
theorem Is.pair {K : PySem.W.Frag} {O : Ad} {H : Hp} {T : Addr} {x y : V} {d e : PyData} (hT : H T = none) (dm : ∀ a, O a → ∃ o, H a = some o) (hx : Is K O H x d) (hy : Is K O H y e) : Is K O (upd H T (.tup [x, y])) (.ref T) (.tuple [d, e]) :=
  .tup (.inl ⟨.inl upd_same, fun z => by
    obtain ⟨o, q⟩ := dm T z
    rw [hT] at q
    cases q⟩) (.cons (hx.ex (Ex.new hT)) (.cons (hy.ex (Ex.new hT)) .nil))
variable {elts : List Expr} {kk : Nat} {tpos : Pos}
theorem di_zipL {xs ys : List PyData} (ha : DE X a δ (.d (.list xs)) δ1) (hb : DE X b δ1 (.d (.list ys)) δ2) (hm : X.mg "zip" = none) (hg : Gl X "zip" := by rfl) (hs : starEach [a, b] X.env = (false, eval a X.env) :: starEach [b] X.env := by rfl) (hs2 : starEach [b] X.env = (false, eval b X.env) :: starEach [] X.env := by rfl)
    (hpl : (backTo pos (starEach [b] X.env)).any (·.1) = false := by rfl) : DI X (.Tuple elts kk tpos) (.Call (.Name "zip" p') [a, b] [] pos) δ (zipD xs ys) δ2 :=
  PI.szd (pi_zip hg hm (pa_cons ha (pa_1 hb hs2) hs) hs hpl) fun σ H R z ⟨β, O, W, E, k⟩ => ⟨β, O, W, E, fun v H1 z1 E1 f1 h1 => ⟨β, O, W, E1, fun u H2 z2 E2 f2 h2 => by
    have h1' := h1.fr (E1.up f2)
    obtain ⟨p, vs, rfl, g1, g2⟩ := (Iw.is h1').lst
    obtain ⟨q, us, rfl, g3, g4⟩ := (Iw.is h2).lst
    have n1 : ¬ O p := by cases h1' with | lst q1 _ => exact q1.2
    have n2 : ¬ O q := by cases h2 with | lst q1 _ => exact q1.2
    refine ⟨p, q, vs, us, rfl, SqL.of g1, SqL.of g3, fun z3 => k _ _ z3 E2 (f1.tr f2) ⟨?_, fun O2 H3 f3 m3 dm3 => ?_⟩⟩
    · have := z2 _ _ (.inl (SqL.of g1))
      rw [zipD_len, ← g2.len]
      omega
    have g1' := f3 p _ g1 n1
    have g3' := f3 q _ g3 n2
    refine ⟨fun i hi => ⟨vs, us, SqL.of g1', SqL.of g3', ?_⟩, fun i d hd => ?_⟩
    · rw [zipD_len, ← g2.len, ← g4.len] at hi
      omega
    obtain ⟨x, y, hx, hy, rfl⟩ := zipD_get hd
    obtain ⟨v1, hv1, i1⟩ := g2.get' hx
    obtain ⟨v2, hv2, i2⟩ := g4.get' hy
    refine ⟨⟨vs, us, v1, v2, SqL.of g1', SqL.of g3', hv1, hv2⟩, fun v' H4 yl => ?_⟩
    obtain ⟨T, x', y', rfl, hT, rfl, y1, y2⟩ := yl
    have e1 := y1 _ (SqL.of g1')
    have e2 := y2 _ (SqL.of g3')
    rw [hv1] at e1
    rw [hv2] at e2
    cases e1
    cases e2
    exact ⟨Ex.new hT, Is.pair hT dm3 (i1.grow f3 m3) (i2.grow f3 m3)⟩⟩⟩
theorem di_zipT {xs ys : List PyData} (ha : DE X a δ (.d (.tuple xs)) δ1) (hb : DE X b δ1 (.d (.tuple ys)) δ2) (hm : X.mg "zip" = none) (hg : Gl X "zip" := by rfl) (hs : starEach [a, b] X.env = (false, eval a X.env) :: starEach [b] X.env := by rfl) (hs2 : starEach [b] X.env = (false, eval b X.env) :: starEach [] X.env := by rfl)
    (hpl : (backTo pos (starEach [b] X.env)).any (·.1) = false := by rfl) : DI X (.Tuple elts kk tpos) (.Call (.Name "zip" p') [a, b] [] pos) δ (zipD xs ys) δ2 :=
  PI.szd (RZ.pi_zipA hg hm (pa_cons ha (pa_1 hb hs2) hs) hs hpl) fun σ H R z ⟨β, O, W, E, k⟩ => ⟨β, O, W, E, fun v H1 z1 E1 f1 h1 => ⟨β, O, W, E1, fun u H2 z2 E2 f2 h2 => by
    have h1' := h1.fr (E1.up f2)
    obtain ⟨p, vs, rfl, g1, g2⟩ := (Iw.is h1').tup
    obtain ⟨q, us, rfl, g3, g4⟩ := (Iw.is h2).tup
    refine ⟨p, q, vs, us, rfl, .inr ⟨g1.sq, g3.sq, fun z3 => k _ _ z3 E2 (f1.tr f2) ⟨?_, fun O2 H3 f3 m3 dm3 => ?_⟩⟩⟩
    · have := z2 _ _ (.inr g1.sq)
      rw [zipD_len, ← g2.len]
      omega
    have g1' := (g1.grow f3 m3).sq
    have g3' := (g3.grow f3 m3).sq
    refine ⟨fun i hi => ⟨vs, us, g1', g3', ?_⟩, fun i d hd => ?_⟩
    · rw [zipD_len, ← g2.len, ← g4.len] at hi
      omega
    obtain ⟨x, y, hx, hy, rfl⟩ := zipD_get hd
    obtain ⟨v1, hv1, i1⟩ := g2.get' hx
    obtain ⟨v2, hv2, i2⟩ := g4.get' hy
    refine ⟨⟨vs, us, v1, v2, g1', g3', hv1, hv2⟩, fun v' H4 yl => ?_⟩
    obtain ⟨T, x', y', rfl, hT, rfl, y1, y2⟩ := yl
    have e1 := y1 _ g1'
    have e2 := y2 _ g3'
    rw [hv1] at e1
    rw [hv2] at e2
    cases e1
    cases e2
    exact ⟨Ex.new hT, Is.pair hT dm3 (i1.grow f3 m3) (i2.grow f3 m3)⟩⟩⟩
/-- enumerate(xs) -/
def enumD (xs : List PyData) : List PyData := (List.range xs.length).map fun (i : Nat) => .tuple [.int (i : Int), xs.getD i .none]
theorem enumD_len (xs : List PyData) : (enumD xs).length = xs.length := by unfold enumD; rw [List.length_map, List.length_range]
theorem enumD_get {xs : List PyData} {i : Nat} {d : PyData} (h : (enumD xs)[i]? = some d) : ∃ x, xs[i]? = some x ∧ d = .tuple [.int (i : Int), x] := by
  unfold enumD at h
  rw [List.getElem?_map] at h
  cases q : (List.range xs.length)[i]? with
  | none => rw [q] at h; cases h
  | some j =>
    rw [q] at h
    obtain ⟨h1, h2⟩ := List.getElem?_eq_some_iff.mp q
    rw [List.getElem_range] at h2
    rw [List.length_range] at h1
    subst h2
    cases h
    refine ⟨xs[i], List.getElem?_eq_getElem h1, ?_⟩
    show PyData.tuple [.int (i : Int), xs.getD i .none] = _
    rw [List.getD_eq_getElem?_getD, List.getElem?_eq_getElem h1]
    rfl
theorem di_enumL {xs : List PyData} (ha : DE X a δ (.d (.list xs)) δ1) (hm : X.mg "enumerate" = none) (hg : Gl X "enumerate" := by rfl) (hs : starEach [a] X.env = (false, eval a X.env) :: starEach [] X.env := by rfl) (hs1 : starEach [a] X.env = [(false, eval a X.env)] := by rfl) :
    DI X (.Tuple elts kk tpos) (.Call (.Name "enumerate" p') [a] [] pos) δ (enumD xs) δ1 :=
  PI.szd (pi_enum hg hm (pa_1 ha hs) hs1) fun σ H R z ⟨β, O, W, E, k⟩ => ⟨β, O, W, E, fun v H1 z1 E1 f1 h1 => by
    obtain ⟨p, vs, rfl, g1, g2⟩ := (Iw.is h1).lst
    have n1 : ¬ O p := by cases h1 with | lst q1 _ => exact q1.2
    refine ⟨p, vs, rfl, SqL.of g1, fun z3 => k _ _ z3 E1 f1 ⟨?_, fun O2 H3 f3 m3 dm3 => ?_⟩⟩
    · have := z1 _ _ (.inl (SqL.of g1))
      rw [enumD_len, ← g2.len]
      omega
    have g1' := f3 p _ g1 n1
    refine ⟨fun i hi => ⟨vs, SqL.of g1', ?_⟩, fun i d hd => ?_⟩
    · rw [enumD_len, ← g2.len] at hi
      exact hi
    obtain ⟨x, hx, rfl⟩ := enumD_get hd
    obtain ⟨v1, hv1, i1⟩ := g2.get' hx
    refine ⟨⟨vs, v1, SqL.of g1', hv1⟩, fun v' H4 yl => ?_⟩
    obtain ⟨T, x', rfl, hT, rfl, y1⟩ := yl
    have e1 := y1 _ (SqL.of g1')
    rw [hv1] at e1
    cases e1
    exact ⟨Ex.new hT, Is.pair hT dm3 (.int _) (i1.grow f3 m3)⟩⟩
end

/-! ### targets -/
section
variable {K : PySem.W.Frag} {β : Bs} {O W : Ad} {H : Hp} {σ σ' : L2.St} {δ δ' : Dl}
theorem Sta.set (E : Sta K β O W H σ δ) {v : V} {d : PyData} (h : Is K O H v d) (i : Nat) : Sta K β O W H (σ.set i (some v)) (δ.set i (some (.d d))) := by
  have hl := E.len
  refine ⟨by rw [List.length_set, List.length_set]; exact hl, fun j e q => ?_, fun j b c q => ?_, fun j u q => ?_, fun j l b b' c e p q1 q2 q3 q4 => ?_, E.keep, E.sub, E.dom, E.subB, E.wo, E.bO⟩
  · by_cases hj : i = j
    · subst hj
      by_cases hi : i < δ.length
      · rw [List.getElem?_set_self hi] at q
        cases q
        exact ⟨v, List.getElem?_set_self (by omega), h⟩
      · rw [List.getElem?_eq_none (by rw [List.length_set]; omega)] at q
        cases q
    · rw [List.getElem?_set_ne hj] at q
      obtain ⟨u, h1, h2⟩ := E.dat j e q
      exact ⟨u, by rw [List.getElem?_set_ne hj]; exact h1, h2⟩
  · by_cases hj : i = j
    · subst hj
      by_cases hi : i < δ.length
      · rw [List.getElem?_set_self hi] at q
        cases q
      · rw [List.getElem?_eq_none (by rw [List.length_set]; omega)] at q
        cases q
    · rw [List.getElem?_set_ne hj] at q ⊢
      exact E.own j b c q
  · by_cases hj : i = j
    · subst hj
      by_cases hi : i < δ.length
      · rw [List.getElem?_set_self hi] at q
        cases q
      · rw [List.getElem?_eq_none (by rw [List.length_set]; omega)] at q
        cases q
    · rw [List.getElem?_set_ne hj] at q ⊢
      exact E.raw j u q
  · have key : ∀ (j : Nat) (b : Bool) (c : Co), (δ.set i (some (S.d d)))[j]? = some (some (S.o b c)) → i ≠ j ∧ δ[j]? = some (some (S.o b c)) := fun j b c q => by
      by_cases hj : i = j
      · subst hj
        by_cases hi : i < δ.length
        · rw [List.getElem?_set_self hi] at q
          cases q
        · rw [List.getElem?_eq_none (by rw [List.length_set]; omega)] at q
          cases q
      · rw [List.getElem?_set_ne hj] at q
        exact ⟨hj, q⟩
    obtain ⟨n1, k1⟩ := key j b c q1
    obtain ⟨n2, k2⟩ := key l b' e q2
    rw [List.getElem?_set_ne n1] at q3
    rw [List.getElem?_set_ne n2] at q4
    exact E.inj j l b b' c e p k1 k2 q3 q4
/-- forgetting -/
theorem Sta.le (E : Sta K β O W H σ δ) (hl : σ'.length = δ'.length) (h : ∀ (j : Nat) (s : S), δ'[j]? = some (some s) → δ[j]? = some (some s) ∧ σ'[j]? = σ[j]?) : Sta K β O W H σ' δ' :=
  ⟨hl, fun i d q => by
    obtain ⟨h1, h2⟩ := h i _ q
    rw [h2]
    exact E.dat i d h1, fun i b c q => by
    obtain ⟨h1, h2⟩ := h i _ q
    rw [h2]
    exact E.own i b c h1, fun i v q => by
    obtain ⟨h1, h2⟩ := h i _ q
    rw [h2]
    exact E.raw i v h1, fun i j b b' c e p q1 q2 q3 q4 => by
    obtain ⟨h1, h2⟩ := h i _ q1
    obtain ⟨h3, h4⟩ := h j _ q2
    rw [h2] at q3
    rw [h4] at q4
    exact E.inj i j b b' c e p h1 h3 q3 q4, E.keep, E.sub, E.dom, E.subB, E.wo, E.bO⟩
end
def rG (K : PySem.W.Frag) (is : List Nat) (d : PyData) (δ δ' : Dl) : TG := fun v σ H Q => ∃ (β : Bs) (O W : Ad), Sta K β O W H σ δ ∧ Is K O H v d ∧ ∀ σ', σ'.length = σ.length → (∀ j, j ∉ is → σ'[j]? = σ[j]?) → Sta K β O W H σ' δ' → Q σ' H
abbrev DG (X : Cx) (tg : Expr) (is : List Nat) (d : PyData) (δ δ' : Dl) : Prop := PG X tg (rG X.K is d δ δ')
section
variable {X : Cx} {tg e a b c : Expr} {es : List Expr} {δ δ1 δ2 δ3 : Dl} {d d1 d2 d3 : PyData} {ds : List PyData} {pos p' : Pos}
theorem PG.imp {t t' : TG} (h : PG X tg t) (w : ∀ v σ H Q, t' v σ H Q → t v σ H Q) : PG X tg t' := ⟨fun pins s σ H v u Q I r q => h.run pins s σ H v u Q I r (w _ _ _ _ q)⟩
theorem dg_name (i : Nat) {x : Str} (hN : X.N.Nodup) (hi : X.N[i]? = some x := by rfl) (hx : Loc X.env.scope x := by first | exact Or.inl rfl | exact Or.inr rfl) (hf : X.fn x = true ∨ X.env.scope.names.lookup x = some .local := by first | exact .inl rfl | exact .inr rfl | assumption) :
    DG X (.Name x pos) [i] d δ (δ.set i (some (.d d))) :=
  PG.imp (pg_name hN hi hx hf) fun v σ H Q ⟨β, O, W, E, h, k⟩ => k _ (List.length_set ..) (fun j hj => List.getElem?_set_ne fun z => hj (by simp [z])) (E.set h i)
/-- a, b = a pair -/
theorem dg_two (i j : Nat) {x y : Str} {k : Nat} {px py : Pos} (hc : X.calm = true) (hN : X.N.Nodup) (hi : X.N[i]? = some x := by rfl) (hx : Loc X.env.scope x := by first | exact Or.inl rfl | exact Or.inr rfl) (hj : X.N[j]? = some y := by rfl) (hy : Loc X.env.scope y := by first | exact Or.inl rfl | exact Or.inr rfl)
    (hf : X.fn x = true ∨ X.env.scope.names.lookup x = some .local := by first | exact .inl rfl | exact .inr rfl | assumption) (hf2 : X.fn y = true ∨ X.env.scope.names.lookup y = some .local := by first | exact .inl rfl | exact .inr rfl | assumption)
    (hn : (assignEach [.Name x px, .Name y py] X.env).length = 2 := by rfl) (hst : (assignEach [.Name x px, .Name y py] X.env).findIdx? (·.1) = none := by rfl)
    (h1 : (assignEach [.Name x px, .Name y py] X.env).map (·.2) = assign (.Name x px) X.env :: (assignEach [.Name y py] X.env).map (·.2) := by rfl) (h2 : (assignEach [.Name y py] X.env).map (·.2) = assign (.Name y py) X.env :: (assignEach [] X.env).map (·.2) := by rfl) :
    DG X (.Tuple [.Name x px, .Name y py] k pos) [i, j] (.tuple [d1, d2]) δ ((δ.set i (some (.d d1))).set j (some (.d d2))) :=
  PG.imp (pg_tup hc (pgs_cons (pg_name (i := i) hN hi hx hf) (pgs_cons (pg_name (i := j) hN hj hy hf2) pgs_nil h2) h1) hn hst) fun v σ H Q ⟨β, O, W, E, h, q⟩ => by
    obtain ⟨p, xs, rfl, g1, g2⟩ := (Iw.is h).tup
    cases g2 with
    | cons a1 a2 =>
      cases a2 with
      | cons b1 b2 =>
        cases b2
        refine ⟨p, _, rfl, g1.sq, rfl, _, _, rfl, _, _, rfl, rfl, ?_⟩
        refine q _ (by rw [List.length_set, List.length_set]) (fun l hl => ?_) ((E.set a1 i).set b1 j)
        rw [List.getElem?_set_ne fun z => hl (by simp [z]), List.getElem?_set_ne fun z => hl (by simp [z])]
end
end G
set_option Elab.async false
set_option linter.all false
set_option maxRecDepth 100000
set_option maxHeartbeats 4000000
/-! G5: comprehensions with one for. -/
namespace G
open PySem PySem.Spec L2
/-- the slots at vs forgotten -/
def wipeD (δ : Dl) : List Nat → Dl
  | [] => δ
  | v :: vs => (wipeD δ vs).set v none
theorem wipeD_length (δ : Dl) : ∀ vs : List Nat, (wipeD δ vs).length = δ.length
  | [] => rfl
  | v :: vs => by unfold wipeD; rw [List.length_set, wipeD_length δ vs]
theorem wipeD_some {δ : Dl} {i : Nat} {s : S} : ∀ {vs : List Nat}, (wipeD δ vs)[i]? = some (some s) → δ[i]? = some (some s) ∧ i ∉ vs
  | [], h => ⟨h, by simp⟩
  | v :: vs, h => by
    unfold wipeD at h
    by_cases e : v = i
    · subst e
      by_cases hi : v < (wipeD δ vs).length
      · rw [List.getElem?_set_self hi] at h
        cases h
      · rw [List.getElem?_eq_none (by rw [List.length_set]; omega)] at h
        cases h
    · rw [List.getElem?_set_ne e] at h
      obtain ⟨h1, h2⟩ := wipeD_some h
      exact ⟨h1, by simp [h2, Ne.symm e]⟩
theorem wipe_ne {σ : L2.St} {i : Nat} : ∀ {vs : List Nat}, i ∉ vs → (wipe σ vs)[i]? = σ[i]?
  | [], _ => rfl
  | v :: vs, h => by
    unfold wipe
    rw [List.getElem?_set_ne fun z => h (by simp [z]), wipe_ne fun z => h (by simp [z])]
theorem wipe_in {σ : L2.St} {i : Nat} : ∀ {vs : List Nat}, i ∈ vs → i < σ.length → (wipe σ vs)[i]? = some none
  | [], h, _ => by cases h
  | v :: vs, h, hl => by
    unfold wipe
    by_cases e : v = i
    · subst e
      rw [List.getElem?_set_self (by rw [wipe_length]; exact hl)]
    · rw [List.getElem?_set_ne e]
      rcases List.mem_cons.mp h with z | z
      · exact absurd z.symm e
      · exact wipe_in z hl
theorem wipe_ge {σ : L2.St} {i : Nat} {vs : List Nat} (h : σ.length ≤ i) : (wipe σ vs)[i]? = none := by
  rw [List.getElem?_eq_none (by rw [wipe_length]; exact h)]
theorem wipe_eq {σ σ' : L2.St} {vs is : List Nat} (hl : σ'.length = σ.length) (h : ∀ j, j ∉ is → σ'[j]? = σ[j]?) (hs : ∀ j ∈ is, j ∈ vs) : wipe σ' vs = wipe σ vs := by
  apply List.ext_getElem?
  intro i
  by_cases hi : i < σ.length
  · by_cases e : i ∈ vs
    · rw [wipe_in e (by omega), wipe_in e hi]
    · rw [wipe_ne e, wipe_ne e]
      exact h i fun z => e (hs i z)
  · rw [wipe_ge (by omega), wipe_ge (by omega)]
theorem wipe_wipe {σ : L2.St} {vs : List Nat} : wipe (wipe σ vs) vs = wipe σ vs := by
  apply List.ext_getElem?
  intro i
  by_cases hi : i < σ.length
  · by_cases e : i ∈ vs
    · rw [wipe_in e (by rw [wipe_length]; exact hi), wipe_in e hi]
    · rw [wipe_ne e]
  · rw [wipe_ge (by rw [wipe_length]; omega), wipe_ge (by omega)]
theorem wipeD_ne {δ : Dl} {i : Nat} : ∀ {vs : List Nat}, i ∉ vs → (wipeD δ vs)[i]? = δ[i]?
  | [], _ => rfl
  | v :: vs, h => by
    unfold wipeD
    rw [List.getElem?_set_ne fun z => h (by simp [z]), wipeD_ne fun z => h (by simp [z])]
def isO : Option S → Bool
  | some (.o _ _) => true
  | _ => false
section
variable {K : PySem.W.Frag} {β : Bs} {O W : Ad} {H H' : Hp} {σ σ' : L2.St} {δ δ' : Dl}
theorem Sta.wiped (E : Sta K β O W H σ δ) (vs : List Nat) : Sta K β O W H (wipe σ vs) (wipeD δ vs) := E.le (by rw [wipe_length, wipeD_length]; exact E.len) fun j s q => by
  obtain ⟨h1, h2⟩ := wipeD_some q
  exact ⟨h1, wipe_ne h2⟩
/-- an object that no slot owns is changed -/
theorem Sta.poke (E : Sta K β O W H σ δ) {D : Addr} (hD : O D) (nD : ¬ W D) (hH : β.H D = none) (o : HO) : Sta K β O W (upd H D o) σ δ := by
  have f : Fr O H (upd H D o) := fun a u q n => by
    rw [upd_ne fun z => n (by rw [z]; exact hD)]
    exact q
  refine ⟨E.len, fun i d q => ?_, fun i b c q => ?_, E.raw, E.inj, fun a u q n => ?_, E.sub, fun a h => ?_, E.subB, E.wo, E.bO⟩
  · obtain ⟨v, h1, h2⟩ := E.dat i d q
    exact ⟨v, h1, h2.fr f⟩
  · obtain ⟨p, u, h1, h2, h3, h4, h5⟩ := E.own i b c q
    exact ⟨p, u, h1, h2, by rw [upd_ne fun z => nD (by rw [← z]; exact h2)]; exact h3, h4.fr f, h5⟩
  · rw [upd_ne fun z => by rw [z, hH] at q; cases q]
    exact E.keep a u q n
  · by_cases e : a = D
    · exact ⟨o, by rw [e]; exact upd_same⟩
    · rw [upd_ne e]
      exact E.dom a h
end
abbrev DTs (X : Cx) (ifs : List Expr) (δ : Dl) (b : Bool) (δ' : Dl) : Prop := PTs X ifs (rT X.K δ b δ')
/-- what is collected -/
def coll (n : Nat) (p : Nat → Bool) (g : Nat → PyData) : List PyData := ((List.range n).filter p).map g
theorem coll_yes {n : Nat} {p : Nat → Bool} {g : Nat → PyData} (h : p n = true) : coll (n + 1) p g = coll n p g ++ [g n] := by
  unfold coll
  rw [List.range_succ, List.filter_append, List.map_append, List.filter_cons, if_pos h]
  rfl
theorem coll_no {n : Nat} {p : Nat → Bool} {g : Nat → PyData} (h : p n = false) : coll (n + 1) p g = coll n p g := by
  unfold coll
  rw [List.range_succ, List.filter_append, List.map_append, List.filter_cons, if_neg (by rw [h]; decide)]
  show _ ++ [] = _
  rw [List.append_nil]
theorem coll_len (n : Nat) (p : Nat → Bool) (g : Nat → PyData) : (coll n p g).length ≤ n := by
  unfold coll
  rw [List.length_map]
  have h := List.length_filter_le p (List.range n)
  rw [List.length_range] at h
  exact h
section
variable {X : Cx} {elt tg iter : Expr} {ifs : List Expr} {scope : Scope} {own : List (Str × Nat)} {pos : Pos} {δ δ1 δ' : Dl} {ds : List PyData}
theorem PTs.szd {t t' : TT} (h : PTs X ifs t) (w : ∀ σ H Q, Sz X.K H → t' σ H Q → t σ H (fun v H' => Sz X.K H' → Q v H')) : PTs X ifs t' := ⟨fun pins s σ H Q I q => by
  refine thn (h.run pins s σ H _ I (w σ H Q (Inv.sz I) q)) fun u s' ⟨H', I', k⟩ => ?_
  exact ⟨H', I', k (Inv.sz I')⟩⟩
theorem dts_nil : DTs X [] δ true δ := PTs.szd pts_nil fun σ H Q z ⟨β, O, W, E, k⟩ => fun z' => k H z' E Fr.rfl
theorem dts_one {c : Expr} {b : Bool} (h : DT X c δ b δ1) : DTs X [c] δ b δ1 := pts_one h
theorem PG.any {tg : Expr} {ι : Sort _} {t : ι → TG} (h : ∀ i, PG X tg (t i)) : PG X tg (fun v σ H Q => ∃ i, t i v σ H Q) := ⟨fun pins s σ H v u Q I r ⟨i, q⟩ => (h i).run pins s σ H v u Q I r q⟩
theorem PTs.any {ι : Sort _} {t : ι → TT} (h : ∀ i, PTs X ifs (t i)) : PTs X ifs (fun σ H Q => ∃ i, t i σ H Q) := ⟨fun pins s σ H Q I ⟨i, q⟩ => (h i).run pins s σ H Q I q⟩
theorem PE.any {e : Expr} {ι : Sort _} {t : ι → TE} (h : ∀ i, PE X e (t i)) : PE X e (fun σ H Q => ∃ i, t i σ H Q) := ⟨fun pins s σ H Q I ⟨i, q⟩ => (h i).run pins s σ H Q I q⟩
/-- the turns: the state ahead of a turn, behind the target, behind the tests, behind the element -/
structure Lc (n : Nat) where
  st : Nat → Dl
  a : Nat → Dl
  b : Nat → Dl
  c : Nat → Dl
  p : Nat → Bool
  g : Nat → PyData
abbrev Wi (n : Nat) := {i : Nat // i < n}
/-- the reading of a comprehension over data -/
theorem lc_reads {vs is : List Nat} {n : Nat} (L : Lc n) (hn : ds.length = n) (h0 : L.st 0 = wipeD δ1 vs) (hs : ∀ j ∈ is, j ∈ vs)
    (hst : ∀ i, i < n → wipeD (if L.p i then L.c i else L.b i) is = L.st (i + 1)) (hend : L.st n = wipeD δ' vs) (hsame : ∀ j ∈ vs, δ'[j]? = δ1[j]?) (hvs : ∀ j ∈ vs, isO (δ1.getD j none) = false)
    {K : PySem.W.Frag} {σ : L2.St} {H : Hp} {Q : VK} (hR : rF K δ (.l (coll n L.p L.g)) δ' σ H Q) :
    tLc (rI K δ ds δ1) (fun v σ H Q => ∃ i : Wi n, rG K is (ds.getD i.1 .none) (L.st i.1) (L.a i.1) v σ H Q) (fun σ H Q => ∃ i : Wi n, rT K (L.a i.1) (L.p i.1) (L.b i.1) σ H Q) (fun σ H Q => ∃ i : Wi n, ∃ _ : L.p i.1 = true, rE K (L.b i.1) (.d (L.g i.1)) (L.c i.1) σ H Q) vs σ H (fun v H' => Sz K H' → Q v H') := by
  obtain ⟨β, O, W, E, k⟩ := hR
  refine ⟨β, O, W, E, fun J H1 z1 E1 f1 w1 => fun D hD => ?_⟩
  have nD : ¬ O D := E1.new0 hD
  have nW : ¬ W D := fun z => nD (E1.wo D z)
  have hH : β.H D = none := E1.newB hD
  have E1i : Sta K β (ins D O) W (upd H1 D (.lst [])) σ δ1 := E1.insN hD upd_same (Ex.new hD)
  let Pv : Nat → Hp → Prop := fun i H => Sta K β (ins D O) W H (wipe σ vs) (L.st i) ∧ Fr W H1 H ∧ ∃ acc, H D = some (.lst acc) ∧ IsAll K (ins D O) H acc (coll i L.p L.g)
  have mo : More O H1 (ins D O) := fun a h => by
    rcases h with h | h
    · exact .inr (by rw [h]; exact hD)
    · exact .inl h
  refine ⟨fun i m H => m = n - i ∧ i ≤ n ∧ Pv i H, ⟨n, by simp, Nat.zero_le _, ?_, (Ex.new hD).fr, [], upd_same, .nil⟩, ?_⟩
  · rw [h0]
    exact E1i.wiped vs
  rintro i m Hi ⟨rfl, hi, Ei, fi, acc, hacc, hall⟩
  obtain ⟨ws, wg⟩ := w1.2 (ins D O) Hi (E1.up fi) mo Ei.dom
  by_cases hlt : i < n
  · have hd : ds[i]? = some (ds.getD i .none) := by
      rw [List.getD_eq_getElem?_getD, List.getElem?_eq_getElem (by omega)]
      rfl
    obtain ⟨go, yl⟩ := wg i _ hd
    refine .inr ⟨go, Pv (i + 1), fun H' p' => ⟨n - (i + 1), by omega, rfl, hlt, p'⟩, fun x H2 y => ?_⟩
    obtain ⟨e2, i2⟩ := yl x H2 y
    refine ⟨⟨i, hlt⟩, β, ins D O, W, Ei.ex e2, i2, fun σ2 hl2 hj2 E2 => ⟨?_, ⟨i, hlt⟩, β, ins D O, W, E2, fun H3 z3 E3 f3 => ?_⟩⟩
    · rw [wipe_eq hl2 hj2 hs, wipe_wipe]
    -- behind the turn
    have back : ∀ {H5 : Hp} {δx : Dl}, wipeD δx is = L.st (i + 1) → Sta K β (ins D O) W H5 σ2 δx → Sta K β (ins D O) W H5 (wipe σ vs) (L.st (i + 1)) := fun {H5 δx} ex Ex => by
      rw [← ex]
      refine Ex.le (by rw [wipeD_length, ← Ex.len, hl2]) fun j s q => ?_
      obtain ⟨q1, q2⟩ := wipeD_some q
      exact ⟨q1, (hj2 j q2).symm⟩
    have st1 := hst i hlt
    have h3D : H3 D = some (.lst acc) := f3 D _ (e2 D _ hacc) nW
    have fr3 : Fr W H1 H3 := fi.tr (e2.fr.tr f3)
    cases hp : L.p i with
    | false =>
      refine iteF ?_
      rw [hp] at st1
      exact ⟨back st1 E3, fr3, acc, h3D, by
        rw [coll_no hp]
        exact (hall.ex e2).fr (E3.up f3)⟩
    | true =>
      refine iteT ?_
      rw [hp] at st1
      refine ⟨⟨i, hlt⟩, hp, β, ins D O, W, E3, fun y H4 z4 E4 f4 h4 => ?_⟩
      have h4D : H4 D = some (.lst acc) := f4 D _ h3D nW
      have hl : acc.length ≤ i := by
        rw [hall.len]
        exact coll_len _ _ _
      have pk : Fr (ins D O) H4 (upd H4 D (.lst (acc ++ [y]))) := fun a u q n => by
        rw [upd_ne fun z => n (.inl z)]
        exact q
      refine ⟨acc, h4D, by have := w1.1; omega, (back st1 E4).poke (.inl rfl) nW hH _, ?_, acc ++ [y], upd_same, ?_⟩
      · intro a u q n
        have ne : a ≠ D := fun z => by
          rw [z, hD] at q
          cases q
        rw [upd_ne ne]
        exact f4 a u (fr3 a u q n) n
      · rw [coll_yes hp]
        have h5 : IsAll K (ins D O) H4 acc (coll i L.p L.g) := ((hall.ex e2).fr (E3.up f3)).fr (E4.up f4)
        exact (h5.app (.one h4)).fr pk
  · have e : i = n := by omega
    subst e
    refine .inl ⟨ws i (by omega), fun z => ?_⟩
    rw [hend] at Ei
    refine k D _ Hi z (E.wasNew E1 f1 hD) ?_ (f1.tr fi) hacc hall hH
    -- the slots of the block are the def's again
    have len' : σ.length = δ'.length := by
      have := Ei.len
      rw [wipe_length, wipeD_length] at this
      exact this
    have fO : Fr O H1 Hi := E1.up fi
    refine ⟨len', fun j d q => ?_, fun j b c q => ?_, fun j v q => ?_, fun j l b b' c e p q1 q2 q3 q4 => ?_, Ei.keep, Ei.sub, Ei.dom, Ei.subB, Ei.wo, Ei.bO⟩
    · by_cases hj : j ∈ vs
      · rw [hsame j hj] at q
        obtain ⟨v, h1, h2⟩ := E1.dat j d q
        exact ⟨v, h1, h2.grow fO mo⟩
      · have := Ei.dat j d (by rw [wipeD_ne hj]; exact q)
        rw [wipe_ne hj] at this
        exact this
    · by_cases hj : j ∈ vs
      · rw [hsame j hj] at q
        have := hvs j hj
        rw [List.getD_eq_getElem?_getD, q] at this
        cases this
      · have := Ei.own j b c (by rw [wipeD_ne hj]; exact q)
        rw [wipe_ne hj] at this
        exact this
    · by_cases hj : j ∈ vs
      · rw [hsame j hj] at q
        exact E1.raw j v q
      · have := Ei.raw j v (by rw [wipeD_ne hj]; exact q)
        rw [wipe_ne hj] at this
        exact this
    · have key : ∀ (j : Nat) (b : Bool) (c : Co), δ'[j]? = some (some (S.o b c)) → j ∉ vs := fun j b c q hj => by
        rw [hsame j hj] at q
        have := hvs j hj
        rw [List.getD_eq_getElem?_getD, q] at this
        cases this
      have k1 := key j b c q1
      have k2 := key l b' e q2
      exact Ei.inj j l b b' c e p (by rw [wipeD_ne k1]; exact q1) (by rw [wipeD_ne k2]; exact q2) (by rw [wipe_ne k1]; exact q3) (by rw [wipe_ne k2]; exact q4)
variable {vs is : List Nat} {n : Nat}
/-- [elt for tg in iter if ifs], whatever its turns do to the own slots -/
theorem df_lcS (L : Lc n) (hc : X.calm = true) (hN : X.N.Nodup) (hi : DI X tg iter δ ds δ1) (ok : BlkOk X.N X.env.scope scope own) (hn : ds.length = n) (h0 : L.st 0 = wipeD δ1 (own.map (·.2))) (hs : ∀ j ∈ is, j ∈ own.map (·.2))
    (hg : ∀ i d, i < n → ds[i]? = some d → ∀ (s : Shared) (H : Hp) (C : Addr) (cl : List (Str × Addr)) (fp : List Addr), DG (X.blk s H scope (compEnvC scope cl C X.env) fp) tg is d (L.st i) (L.a i))
    (ht : ∀ i, i < n → ∀ (s : Shared) (H : Hp) (C : Addr) (cl : List (Str × Addr)) (fp : List Addr), DTs (X.blk s H scope (compEnvC scope cl C X.env) fp) ifs (L.a i) (L.p i) (L.b i))
    (he : ∀ i, i < n → L.p i = true → ∀ (s : Shared) (H : Hp) (C : Addr) (cl : List (Str × Addr)) (fp : List Addr), DE (X.blk s H scope (compEnvC scope cl C X.env) fp) elt (L.b i) (.d (L.g i)) (L.c i))
    (hst : ∀ i, i < n → wipeD (if L.p i then L.c i else L.b i) is = L.st (i + 1)) (hend : L.st n = wipeD δ' (own.map (·.2))) (hsame : ∀ j ∈ own.map (·.2), δ'[j]? = δ1[j]?) (hvs : ∀ j ∈ own.map (·.2), isO (δ1.getD j none) = false)
    (hf : ∀ x, foldedSetIterable iter X.env x = pure x := by intro _; rfl) : DF X (.ListComp elt [⟨tg, iter, ifs, 0⟩] scope pos) δ (.l (coll n L.p L.g)) δ' :=
  PE.szd (pe_lc hc hN hi ok (fun s H C cl fp => PG.any fun i : Wi n => hg i.1 (ds.getD i.1 .none) i.2 (by rw [List.getD_eq_getElem?_getD, List.getElem?_eq_getElem (by rw [hn]; exact i.2)]; rfl) s H C cl fp)
    (fun s H C cl fp => PTs.any fun i : Wi n => ht i.1 i.2 s H C cl fp) (fun s H C cl fp => PE.any fun i : Wi n => PE.any fun h : L.p i.1 = true => he i.1 i.2 h s H C cl fp) hf)
    fun σ H Q z h => lc_reads L hn h0 hs hst hend hsame hvs h
/-- the turns over typed things that change no own slot -/
theorem lc_typed {α : Type} (src : List α) (enc : α → PyData) (p : α → Bool) (g : α → PyData) (δa : α → Dl)
    (hg : ∀ x, x ∈ src → ∀ (s : Shared) (H : Hp) (C : Addr) (cl : List (Str × Addr)) (fp : List Addr), DG (X.blk s H scope (compEnvC scope cl C X.env) fp) tg is (enc x) (wipeD δ1 (own.map (·.2))) (δa x))
    (ht : ∀ x, x ∈ src → ∀ (s : Shared) (H : Hp) (C : Addr) (cl : List (Str × Addr)) (fp : List Addr), DTs (X.blk s H scope (compEnvC scope cl C X.env) fp) ifs (δa x) (p x) (δa x))
    (he : ∀ x, x ∈ src → p x = true → ∀ (s : Shared) (H : Hp) (C : Addr) (cl : List (Str × Addr)) (fp : List Addr), DE (X.blk s H scope (compEnvC scope cl C X.env) fp) elt (δa x) (.d (g x)) (δa x))
    (hst : ∀ x, wipeD (δa x) is = wipeD δ1 (own.map (·.2))) :
    ∃ (n : Nat) (L : Lc n), (src.map enc).length = n ∧ L.st 0 = wipeD δ1 (own.map (·.2)) ∧
      (∀ i d, i < n → (src.map enc)[i]? = some d → ∀ (s : Shared) (H : Hp) (C : Addr) (cl : List (Str × Addr)) (fp : List Addr), DG (X.blk s H scope (compEnvC scope cl C X.env) fp) tg is d (L.st i) (L.a i)) ∧
      (∀ i, i < n → ∀ (s : Shared) (H : Hp) (C : Addr) (cl : List (Str × Addr)) (fp : List Addr), DTs (X.blk s H scope (compEnvC scope cl C X.env) fp) ifs (L.a i) (L.p i) (L.b i)) ∧
      (∀ i, i < n → L.p i = true → ∀ (s : Shared) (H : Hp) (C : Addr) (cl : List (Str × Addr)) (fp : List Addr), DE (X.blk s H scope (compEnvC scope cl C X.env) fp) elt (L.b i) (.d (L.g i)) (L.c i)) ∧
      (∀ i, i < n → wipeD (if L.p i then L.c i else L.b i) is = L.st (i + 1)) ∧ L.st n = wipeD δ1 (own.map (·.2)) ∧ coll n L.p L.g = (src.filter p).map g := by
  by_cases hsrc : src = []
  · subst hsrc
    exact ⟨0, ⟨fun _ => wipeD δ1 (own.map (·.2)), fun _ => δ1, fun _ => δ1, fun _ => δ1, fun _ => true, fun _ => .none⟩, rfl, rfl, fun i d h => absurd h (by omega), fun i h => absurd h (by omega), fun i h => absurd h (by omega), fun i h => absurd h (by omega), rfl, rfl⟩
  · obtain ⟨x0, r0, hx0⟩ := List.exists_cons_of_ne_nil hsrc
    have at_ : ∀ i, i < src.length → src[i]? = some (src.getD i x0) := fun i hi => by
      rw [List.getD_eq_getElem?_getD, List.getElem?_eq_getElem hi]
      rfl
    have mem_ : ∀ i, i < src.length → src.getD i x0 ∈ src := fun i hi => List.mem_of_getElem? (at_ i hi)
    refine ⟨src.length, ⟨fun _ => wipeD δ1 (own.map (·.2)), fun i => δa (src.getD i x0), fun i => δa (src.getD i x0), fun i => δa (src.getD i x0), fun i => p (src.getD i x0), fun i => g (src.getD i x0)⟩, by rw [List.length_map], rfl,
      fun i d h q => by
        rw [List.getElem?_map, at_ i h] at q
        cases q
        exact hg _ (mem_ i h), fun i h => ht _ (mem_ i h), fun i h hp => he _ (mem_ i h) hp, fun i h => by
        show wipeD (if p (src.getD i x0) = true then δa (src.getD i x0) else δa (src.getD i x0)) is = _
        rw [ite_self]
        exact hst _, rfl, ?_⟩
    have e : ∀ l : List α, coll l.length (fun i => p (l.getD i x0)) (fun i => g (l.getD i x0)) = (l.filter p).map g := by
      intro l
      unfold coll
      have e1 : l = (List.range l.length).map fun i => l.getD i x0 := by
        apply List.ext_getElem?
        intro i
        rw [List.getElem?_map]
        by_cases hi : i < l.length
        · rw [List.getElem?_range hi, List.getElem?_eq_getElem hi]
          show _ = some (l.getD i x0)
          rw [List.getD_eq_getElem?_getD, List.getElem?_eq_getElem hi]
          rfl
        · rw [List.getElem?_eq_none (by omega), List.getElem?_eq_none (by rw [List.length_range]; omega)]
          rfl
      conv => rhs; rw [e1]
      rw [List.filter_map, List.map_map]
      rfl
    exact e src
/-- .. that change no own slot: over typed things -/
theorem df_lc {α : Type} (src : List α) (enc : α → PyData) (p : α → Bool) (g : α → PyData) (δa : α → Dl) (hc : X.calm = true) (hN : X.N.Nodup) (hi : DI X tg iter δ (src.map enc) δ1) (ok : BlkOk X.N X.env.scope scope own) (is : List Nat) (hs : ∀ j ∈ is, j ∈ own.map (·.2))
    (hg : ∀ x, x ∈ src → ∀ (s : Shared) (H : Hp) (C : Addr) (cl : List (Str × Addr)) (fp : List Addr), DG (X.blk s H scope (compEnvC scope cl C X.env) fp) tg is (enc x) (wipeD δ1 (own.map (·.2))) (δa x))
    (ht : ∀ x, x ∈ src → ∀ (s : Shared) (H : Hp) (C : Addr) (cl : List (Str × Addr)) (fp : List Addr), DTs (X.blk s H scope (compEnvC scope cl C X.env) fp) ifs (δa x) (p x) (δa x))
    (he : ∀ x, x ∈ src → p x = true → ∀ (s : Shared) (H : Hp) (C : Addr) (cl : List (Str × Addr)) (fp : List Addr), DE (X.blk s H scope (compEnvC scope cl C X.env) fp) elt (δa x) (.d (g x)) (δa x))
    (hst : ∀ x, wipeD (δa x) is = wipeD δ1 (own.map (·.2))) (hvs : ∀ j ∈ own.map (·.2), isO (δ1.getD j none) = false)
    (hf : ∀ x, foldedSetIterable iter X.env x = pure x := by intro _; rfl) : DF X (.ListComp elt [⟨tg, iter, ifs, 0⟩] scope pos) δ (.l ((src.filter p).map g)) δ1 := by
  obtain ⟨n, L, hn, h0, hg', ht', he', hst', hend, e⟩ := lc_typed (X := X) src enc p g δa hg ht he hst
  rw [← e]
  exact df_lcS L hc hN hi ok hn h0 hs hg' ht' he' hst' hend (fun _ _ => rfl) hvs hf
end
end G
set_option Elab.async false
set_option linter.all false
set_option maxRecDepth 100000
set_option maxHeartbeats 4000000
/-! G6: statements, blocks, loops. -/
namespace G
open PySem PySem.Spec L2
/-- what a statement ends with -/
inductive Out where
  | nx (δ : Dl)
  | rt (d : PyData) (δ : Dl)
  | rf (c : Co) (δ : Dl)
  | bk (δ : Dl)
  | ct (δ : Dl)
/-- how the heap goes on -/
structure Step (O W : Ad) (H : Hp) (O' W' : Ad) (H' : Hp) : Prop where
  fr : Fr W H H'
  mo : More O H O'
  mw : More W H W'
  dm : ∀ a o, H a = some o → ∃ o', H' a = some o'
theorem Step.rfl {O W : Ad} {H : Hp} : Step O W H O W H := ⟨Fr.rfl, More.rfl, More.rfl, fun a o q => ⟨o, q⟩⟩
theorem Step.wasNew {O W O' W' : Ad} {H H' : Hp} (s : Step O W H O' W' H') {a : Addr} (h : H' a = none) : H a = none := by
  cases q : H a with
  | none => rfl
  | some o =>
    obtain ⟨o', q'⟩ := s.dm a o q
    rw [h] at q'
    cases q'
theorem Step.tr {O W O1 W1 O2 W2 : Ad} {H H1 H2 : Hp} (a : Step O W H O1 W1 H1) (b : Step O1 W1 H1 O2 W2 H2) : Step O W H O2 W2 H2 where
  fr := a.fr.step a.mw b.fr
  mo := fun x h => by
    rcases b.mo x h with q | q
    · exact a.mo x q
    · exact .inr (a.wasNew q)
  mw := fun x h => by
    rcases b.mw x h with q | q
    · exact a.mw x q
    · exact .inr (a.wasNew q)
  dm := fun x o h => by
    obtain ⟨o', q⟩ := a.dm x o h
    exact b.dm x o' q
theorem Sta.fstep {K : PySem.W.Frag} {β : Bs} {O W : Ad} {H H' : Hp} {σ σ' : L2.St} {δ δ' : Dl} (E : Sta K β O W H σ δ) (E' : Sta K β O W H' σ' δ') (f : Fr W H H') : Step O W H O W H' := ⟨f, More.rfl, More.rfl, fun a o q => by
  by_cases h : W a
  · exact E'.dom a (E.wo a h)
  · exact ⟨o, f a o q h⟩⟩
def OutOk (K : PySem.W.Frag) (β : Bs) (O W : Ad) (H : Hp) (D : Ends) : Out → Prop
  | .nx δ' => ∀ O' W' σ' H', Sta K β O' W' H' σ' δ' → Step O W H O' W' H' → D.nx σ' H'
  | .bk δ' => ∀ O' W' σ' H', Sta K β O' W' H' σ' δ' → Step O W H O' W' H' → D.bk σ' H'
  | .ct δ' => ∀ O' W' σ' H', Sta K β O' W' H' σ' δ' → Step O W H O' W' H' → D.ct σ' H'
  | .rt d δ' => ∀ O' W' σ' v H', Sta K β O' W' H' σ' δ' → Is K O' H' v d → D.rt v H'
  | .rf c δ' => ∀ O' W' σ' p o H', Sta K β O' W' H' σ' δ' → H' p = some o → CoIs K (ins p β.O) H' p c o → β.H p = none → D.rt (.ref p) H'
theorem OutOk.step {K : PySem.W.Frag} {β : Bs} {O W O1 W1 : Ad} {H H1 : Hp} {D : Ends} {o : Out} (s : Step O W H O1 W1 H1) (h : OutOk K β O W H D o) : OutOk K β O1 W1 H1 D o := by
  cases o with
  | nx δ' => exact fun O' W' σ' H' E t => h O' W' σ' H' E (s.tr t)
  | bk δ' => exact fun O' W' σ' H' E t => h O' W' σ' H' E (s.tr t)
  | ct δ' => exact fun O' W' σ' H' E t => h O' W' σ' H' E (s.tr t)
  | rt d δ' => exact h
  | rf c δ' => exact h
def rS (K : PySem.W.Frag) (δ : Dl) (o : Out) : TS := fun D σ H => ∃ (β : Bs) (O W : Ad), Sta K β O W H σ δ ∧ OutOk K β O W H D o
abbrev DS (X : Cx) (st : Stmt) (δ : Dl) (o : Out) : Prop := PS X st (rS X.K δ o)
abbrev DSs (X : Cx) (st : List Stmt) (δ : Dl) (o : Out) : Prop := PSs X st (rS X.K δ o)
def isNx : Out → Bool
  | .nx _ => true
  | _ => false
section
variable {X : Cx} {st : Stmt} {rest body a b : List Stmt} {e c : Expr} {δ δ1 δ2 δ' : Dl} {d : PyData} {co : Co} {o : Out} {pos : Pos}
theorem PS.imp {t t' : TS} (h : PS X st t) (w : ∀ D σ H, t' D σ H → t D σ H) : PS X st t' := ⟨fun pins s σ H D I q => h.run pins s σ H D I (w D σ H q)⟩
theorem PSs.imp {t t' : TS} (h : PSs X rest t) (w : ∀ D σ H, t' D σ H → t D σ H) : PSs X rest t' := ⟨fun pins s σ H D I q => h.run pins s σ H D I (w D σ H q)⟩
theorem dss_nil : DSs X [] δ (.nx δ) := PSs.imp pss_nil fun D σ H ⟨β, O, W, E, k⟩ => k O W σ H E Step.rfl
theorem dss_cons (h1 : DS X st δ (.nx δ1)) (h2 : DSs X rest δ1 o) : DSs X (st :: rest) δ o := PSs.imp (pss_cons h1 h2) fun D σ H ⟨β, O, W, E, k⟩ =>
  ⟨β, O, W, E, fun O' W' σ' H' E' s => ⟨β, O', W', E', k.step s⟩⟩
theorem dss_one (h1 : DS X st δ o) : DSs X [st] δ o := pss_one h1
/-- a statement that leaves: the rest is not come to -/
theorem dss_last (h1 : DS X st δ o) (hn : isNx o = false := by rfl) : DSs X (st :: rest) δ o := PSs.imp (pss_cons h1 (pss_never (sts := rest))) fun D σ H ⟨β, O, W, E, k⟩ =>
  ⟨β, O, W, E, by cases o <;> first | exact k | cases hn⟩
/-- the state behind, of which less is said -/
def Le (δ' δ : Dl) : Prop := δ'.length = δ.length ∧ ∀ (j : Nat) (s : S), δ'[j]? = some (some s) → δ[j]? = some (some s)
theorem Sta.leD {K : PySem.W.Frag} {β : Bs} {O W : Ad} {H : Hp} {σ : L2.St} (E : Sta K β O W H σ δ) (h : Le δ' δ) : Sta K β O W H σ δ' := E.le (by rw [h.1]; exact E.len) fun j s q => ⟨h.2 j s q, rfl⟩
theorem Le.wipe (δ : Dl) (vs : List Nat) : Le (wipeD δ vs) δ := ⟨wipeD_length δ vs, fun j s q => (wipeD_some q).1⟩
theorem dss_le (h : DSs X rest δ (.nx δ1)) (l : Le δ' δ1) : DSs X rest δ (.nx δ') := PSs.imp h fun D σ H ⟨β, O, W, E, k⟩ => ⟨β, O, W, E, fun O' W' σ' H' E' s => k O' W' σ' H' (E'.leD l) s⟩
theorem ds_le (h : DS X st δ (.nx δ1)) (l : Le δ' δ1) : DS X st δ (.nx δ') := PS.imp h fun D σ H ⟨β, O, W, E, k⟩ => ⟨β, O, W, E, fun O' W' σ' H' E' s => k O' W' σ' H' (E'.leD l) s⟩
theorem dss_eq {o' : Out} (h : DSs X rest δ o) (e : o = o') : DSs X rest δ o' := by cases e; exact h
theorem dss_pre (h : DSs X rest δ1 o) (e : δ1 = δ) : DSs X rest δ o := by cases e; exact h
/-- less is known ahead -/
theorem dss_from (h : DSs X rest δ1 o) (l : Le δ1 δ) : DSs X rest δ o := PSs.imp h fun D σ H ⟨β, O, W, E, k⟩ => ⟨β, O, W, E.leD l, k⟩

/-! ### small statements -/
theorem ds_pass : DS X (.Pass pos) δ (.nx δ) := PS.imp ps_pass fun D σ H ⟨β, O, W, E, k⟩ => k O W σ H E Step.rfl
theorem ds_doc {x j p'} : DS X (.Expr (.Constant (.str x) j pos) p') δ (.nx δ) := PS.imp ps_doc fun D σ H ⟨β, O, W, E, k⟩ => k O W σ H E Step.rfl
theorem ds_break : DS X (.Break pos) δ (.bk δ) := PS.imp ps_break fun D σ H ⟨β, O, W, E, k⟩ => k O W σ H E Step.rfl
theorem ds_continue : DS X (.Continue pos) δ (.ct δ) := PS.imp ps_continue fun D σ H ⟨β, O, W, E, k⟩ => k O W σ H E Step.rfl
theorem ds_ret (h : DE X e δ (.d d) δ1) : DS X (.Return (some e) pos) δ (.rt d δ1) := PS.imp (ps_ret h) fun D σ H ⟨β, O, W, E, k⟩ => ⟨β, O, W, E, fun v H' z E' f i => k O W σ v H' E' i⟩
theorem ds_retN : DS X (.Return none pos) δ (.rt .none δ) := PS.imp ps_retN fun D σ H ⟨β, O, W, E, k⟩ => k O W σ _ H E .non
/-- return [..]: a list that nothing else holds -/
theorem ds_retF (h : DF X e δ co δ1) : DS X (.Return (some e) pos) δ (.rf co δ1) := PS.imp (ps_ret h) fun D σ H ⟨β, O, W, E, k⟩ => ⟨β, O, W, E, fun p o H' z hn E' f hp hc hb => k _ W σ p o H' E' hp (hc.less fun a h => by
  rcases h with h | h
  · exact .inl h
  · exact .inr (E.sub a h)) hb⟩
theorem ds_expr (h : DE X e δ (.d d) δ1) (hs : swapsWith e none pos.line X.env = pure false := by rfl) : DS X (.Expr e pos) δ (.nx δ1) := PS.imp (ps_expr h hs) fun D σ H ⟨β, O, W, E, k⟩ => ⟨β, O, W, E, fun v H' z E' f i => k O W σ H' E' (E.fstep E' f)⟩
/-- x = e -/
theorem ds_set (i : Nat) {x : Str} {p' : Pos} (hN : X.N.Nodup) (he : DE X e δ (.d d) δ1) (hi : X.N[i]? = some x := by rfl) (hx : Loc X.env.scope x := by first | exact Or.inl rfl | exact Or.inr rfl) (hs : swapsWith e (some (.Name x p')) pos.line X.env = pure false := by rfl)
    (hf : X.fn x = true ∨ X.env.scope.names.lookup x = some .local := by first | exact .inl rfl | exact .inr rfl | assumption) : DS X (.Assign [.Name x p'] e pos) δ (.nx (δ1.set i (some (.d d)))) :=
  PS.imp (ps_set hN hi hx he hs hf) fun D σ H ⟨β, O, W, E, k⟩ => ⟨β, O, W, E, fun v H' z E' f h => k O W _ H' (E'.set h i) (E.fstep E' f)⟩
end
section
variable {K : PySem.W.Frag} {β : Bs} {O W : Ad} {H : Hp} {σ : L2.St} {δ : Dl} {p : Addr}
/-- a new list becomes a slot's own -/
theorem Sta.setO (E : Sta K β (ins p O) W H σ δ) {o : HO} {co : Co} (hp : H p = some o) (hc : CoIs K (ins p O) H p co o) (np : ¬ O p) (wo : ∀ a, W a → O a) (hb : β.H p = none) (i : Nat) : Sta K β (ins p O) (ins p W) H (σ.set i (some (.ref p))) (δ.set i (some (.o false co))) := by
  have hl := E.len
  have key : ∀ (j : Nat) (b : Bool) (c : Co), (δ.set i (some (S.o false co)))[j]? = some (some (S.o b c)) → (j = i ∧ b = false ∧ c = co ∧ i < δ.length) ∨ (i ≠ j ∧ δ[j]? = some (some (S.o b c))) := fun j b c q => by
    by_cases hj : i = j
    · subst hj
      by_cases hi : i < δ.length
      · rw [List.getElem?_set_self hi] at q
        cases q
        exact .inl ⟨rfl, rfl, rfl, hi⟩
      · rw [List.getElem?_eq_none (by rw [List.length_set]; omega)] at q
        cases q
    · rw [List.getElem?_set_ne hj] at q
      exact .inr ⟨hj, q⟩
  have oth : ∀ (j : Nat) (s : S), (∀ b c, s ≠ .o b c) → (δ.set i (some (.o false co)))[j]? = some (some s) → i ≠ j ∧ δ[j]? = some (some s) := fun j s hs q => by
    by_cases hj : i = j
    · subst hj
      by_cases hi : i < δ.length
      · rw [List.getElem?_set_self hi] at q
        cases q
        exact absurd rfl (hs false co)
      · rw [List.getElem?_eq_none (by rw [List.length_set]; omega)] at q
        cases q
    · rw [List.getElem?_set_ne hj] at q
      exact ⟨hj, q⟩
  have npW : ¬ W p := fun z => np (wo p z)
  refine ⟨by rw [List.length_set, List.length_set]; exact hl, fun j e q => ?_, fun j b c q => ?_, fun j u q => ?_, fun j l b b' c e p' q1 q2 q3 q4 => ?_, E.keep, E.sub, E.dom, E.subB, fun a h => ?_, E.bO⟩
  · obtain ⟨n, q⟩ := oth j (.d e) (fun b c z => nomatch z) q
    rw [List.getElem?_set_ne n]
    exact E.dat j e q
  · rcases key j b c q with ⟨rfl, rfl, rfl, hi⟩ | ⟨n, q⟩
    · exact ⟨p, o, List.getElem?_set_self (by omega), .inl rfl, hp, hc, hb⟩
    · rw [List.getElem?_set_ne n]
      obtain ⟨p', o', h1, h2, h3⟩ := E.own j b c q
      exact ⟨p', o', h1, .inr h2, h3⟩
  · obtain ⟨n, q⟩ := oth j (.v u) (fun b c z => nomatch z) q
    rw [List.getElem?_set_ne n]
    exact E.raw j u q
  · have own' : ∀ (j : Nat) (b : Bool) (c : Co), δ[j]? = some (some (S.o b c)) → σ[j]? = some (some (V.ref p)) → False := fun j b c q q' => by
      obtain ⟨p2, o2, h1, h2, _⟩ := E.own j b c q
      rw [h1] at q'
      cases q'
      exact npW h2
    rcases key j b c q1 with ⟨rfl, rfl, rfl, hi⟩ | ⟨n1, k1⟩
    · rw [List.getElem?_set_self (by omega)] at q3
      cases q3
      rcases key l b' e q2 with ⟨rfl, rfl, rfl, hi⟩ | ⟨n2, k2⟩
      · rfl
      · rw [List.getElem?_set_ne n2] at q4
        exact (own' l b' e k2 q4).elim
    · rw [List.getElem?_set_ne n1] at q3
      rcases key l b' e q2 with ⟨rfl, rfl, rfl, hi⟩ | ⟨n2, k2⟩
      · rw [List.getElem?_set_self (by omega)] at q4
        cases q4
        exact (own' j b c k1 q3).elim
      · rw [List.getElem?_set_ne n2] at q4
        exact E.inj j l b b' c e p' k1 k2 q3 q4
  · rcases h with h | h
    · exact .inl h
    · exact E.wo a h
end
section
variable {X : Cx} {st : Stmt} {rest body a b : List Stmt} {e c : Expr} {δ δ1 δ2 δ' : Dl} {d : PyData} {co : Co} {o : Out} {pos : Pos}
theorem OutOk.made {K : PySem.W.Frag} {β : Bs} {O W : Ad} {H H' : Hp} {σ : L2.St} {D : Ends} {i : Nat} {p : Addr} {o : HO} (E : Sta K β O W H σ δ) (k : OutOk K β O W H D (.nx (δ1.set i (some (.o false co))))) (hn : β.H p = none) (hnH : H p = none)
    (E' : Sta K β (ins p O) W H' σ δ1) (f : Fr W H H') (hp : H' p = some o) (hc : CoIs K (ins p O) H' p co o) : D.nx (σ.set i (some (.ref p))) H' :=
  k (ins p O) (ins p W) _ H' (E'.setO hp hc (E.new0 hnH) E.wo hn i) ⟨f, fun a h => by
    rcases h with h | h
    · exact .inr (by rw [h]; exact hnH)
    · exact .inl h, fun a h => by
    rcases h with h | h
    · exact .inr (by rw [h]; exact hnH)
    · exact .inl h, fun a u q => by
    by_cases h : W a
    · exact E'.dom a (.inr (E.wo a h))
    · exact ⟨u, f a u q h⟩⟩
end
end G
set_option Elab.async false
set_option linter.all false
set_option maxRecDepth 100000
set_option maxHeartbeats 4000000
/-! G7: own lists made, changed, given up; branches; loops. -/
namespace G
open PySem PySem.Spec L2
section
variable {X : Cx} {st : Stmt} {rest body a b : List Stmt} {e c : Expr} {δ δ1 δ2 δ' : Dl} {d : PyData} {co : Co} {o : Out} {pos : Pos}
/-- x = [..]: an own list from now on -/
theorem ds_setF (i : Nat) {x : Str} {p' : Pos} (hN : X.N.Nodup) (he : DF X e δ co δ1) (hi : X.N[i]? = some x := by rfl) (hx : Loc X.env.scope x := by first | exact Or.inl rfl | exact Or.inr rfl) (hs : swapsWith e (some (.Name x p')) pos.line X.env = pure false := by rfl)
    (hf : X.fn x = true ∨ X.env.scope.names.lookup x = some .local := by first | exact .inl rfl | exact .inr rfl | assumption) : DS X (.Assign [.Name x p'] e pos) δ (.nx (δ1.set i (some (.o false co)))) :=
  PS.imp (ps_set hN hi hx he hs hf) fun D σ H ⟨β, O, W, E, k⟩ => ⟨β, O, W, E, fun p o H' z hn E' f hp hc hb => k.made E hb hn E' f hp hc⟩
/-- an own list (that was made here) as data from now on: one that the caller lent (the first slot) stays -/
theorem Sta.freeze {K : PySem.W.Frag} {β : Bs} {O W : Ad} {H : Hp} {σ : L2.St} (E : Sta K β O W H σ δ) {i : Nat} {ds : List PyData} (hq : δ[i]? = some (some (.o false (.l ds)))) :
    ∃ O' W', Sta K β O' W' H σ (δ.set i (some (.d (.list ds)))) ∧ (∀ a, O' a → O a) ∧ ∀ a, W' a → W a := by
  obtain ⟨p, o, h1, h2, h3, h4, h5⟩ := E.own i _ _ hq
  obtain ⟨xs, rfl, h6⟩ := h4.lst
  have hi : i < δ.length := (List.getElem?_eq_some_iff.mp hq).1
  have bn : β.H p = none := h5
  refine ⟨fun a => O a ∧ a ≠ p, fun a => W a ∧ a ≠ p, ?_, fun a h => h.1, fun a h => h.1⟩
  have less : ∀ a, (O a ∧ a ≠ p) → O a := fun a h => h.1
  have oth : ∀ (j : Nat) (s : S), i ≠ j → (δ.set i (some (.d (.list ds))))[j]? = some (some s) → δ[j]? = some (some s) := fun j s hj q => by
    rw [List.getElem?_set_ne hj] at q
    exact q
  refine ⟨by rw [List.length_set]; exact E.len, fun j e q => ?_, fun j b c q => ?_, fun j u q => ?_, fun j l b b' c e p' q1 q2 q3 q4 => ?_, E.keep, fun a h => ⟨E.sub a h, fun z => ?_⟩, fun a h => E.dom a h.1, fun q h => ⟨E.subB q h, fun z => ?_⟩, fun a h => ⟨E.wo a h.1, h.2⟩, E.bO⟩
  · by_cases hj : i = j
    · subst hj
      rw [List.getElem?_set_self hi] at q
      cases q
      exact ⟨_, h1, .lst ⟨h3, fun z => z.2 rfl⟩ (h6.less less)⟩
    · obtain ⟨v, g1, g2⟩ := E.dat j e (oth j _ hj q)
      exact ⟨v, g1, g2.less less⟩
  · by_cases hj : i = j
    · subst hj
      rw [List.getElem?_set_self hi] at q
      cases q
    · obtain ⟨p2, o2, g1, g2, g3, g4, g5⟩ := E.own j b c (oth j _ hj q)
      refine ⟨p2, o2, g1, ⟨g2, fun z => hj ?_⟩, g3, g4.less less, g5⟩
      rw [z] at g1
      exact E.inj i j _ _ _ _ p hq (oth j _ hj q) h1 g1
  · by_cases hj : i = j
    · subst hj
      rw [List.getElem?_set_self hi] at q
      cases q
    · exact E.raw j u (oth j _ hj q)
  · have key : ∀ (j : Nat) (b : Bool) (c : Co), (δ.set i (some (S.d (.list ds))))[j]? = some (some (S.o b c)) → δ[j]? = some (some (S.o b c)) := fun j b c q => by
      by_cases hj : i = j
      · subst hj
        rw [List.getElem?_set_self hi] at q
        cases q
      · exact oth j _ hj q
    exact E.inj j l b b' c e p' (key j b c q1) (key l b' e q2) q3 q4
  · rw [z] at h
    obtain ⟨o, q⟩ := E.bO p (.inl h)
    rw [bn] at q
    cases q
  · obtain ⟨u, g⟩ := E.bO q (.inr h)
    rw [z, bn] at g
    cases g
theorem ds_freeze (i : Nat) {ds : List PyData} (hq : δ[i]? = some (some (.o false (.l ds)))) (h : DSs X rest (δ.set i (some (.d (.list ds)))) o) : DSs X rest δ o := PSs.imp h fun D σ H ⟨β, O, W, E, k⟩ => by
  obtain ⟨O', W', E', so, sw⟩ := E.freeze hq
  refine ⟨β, O', W', E', k.step ⟨Fr.rfl, fun a z => .inl (so a z), fun a z => .inl (sw a z), fun a u q => ⟨u, q⟩⟩⟩
theorem ds_freeze1 (i : Nat) {ds : List PyData} (hq : δ[i]? = some (some (.o false (.l ds)))) (h : DS X st (δ.set i (some (.d (.list ds)))) o) : DS X st δ o := PS.imp h fun D σ H ⟨β, O, W, E, k⟩ => by
  obtain ⟨O', W', E', so, sw⟩ := E.freeze hq
  refine ⟨β, O', W', E', k.step ⟨Fr.rfl, fun a z => .inl (so a z), fun a z => .inl (sw a z), fun a u q => ⟨u, q⟩⟩⟩

/-! ### own objects changed in place -/
/-- the object that slot i owns gets another content -/
theorem Sta.mut {K : PySem.W.Frag} {β : Bs} {O W : Ad} {H : Hp} {σ : L2.St} (E : Sta K β O W H σ δ) {i : Nat} {kb : Bool} {p : Addr} (hq : δ[i]? = some (some (.o kb co))) (hp : σ[i]? = some (some (.ref p))) {u : HO} {co' : Co} (hc : CoIs K O H p co' u) : Sta K β O W (upd H p u) σ (δ.set i (some (.o kb co'))) := by
  obtain ⟨p', o', h1, h2, h3, h4, h5⟩ := E.own i kb co hq
  rw [hp] at h1
  cases h1
  have hi : i < δ.length := (List.getElem?_eq_some_iff.mp hq).1
  have f : Fr O H (upd H p u) := fun a v q n => by
    rw [upd_ne fun z => n (by rw [z]; exact E.wo p h2)]
    exact q
  have key : ∀ (j : Nat) (b : Bool) (c : Co), (δ.set i (some (S.o kb co')))[j]? = some (some (S.o b c)) → (j = i ∧ b = kb ∧ c = co') ∨ (i ≠ j ∧ δ[j]? = some (some (S.o b c))) := fun j b c q => by
    by_cases hj : i = j
    · subst hj
      rw [List.getElem?_set_self hi] at q
      cases q
      exact .inl ⟨rfl, rfl, rfl⟩
    · rw [List.getElem?_set_ne hj] at q
      exact .inr ⟨hj, q⟩
  have oth : ∀ (j : Nat) (s : S), (∀ b c, s ≠ .o b c) → (δ.set i (some (.o kb co')))[j]? = some (some s) → δ[j]? = some (some s) := fun j s hs q => by
    by_cases hj : i = j
    · subst hj
      rw [List.getElem?_set_self hi] at q
      cases q
      exact absurd rfl (hs kb co')
    · rw [List.getElem?_set_ne hj] at q
      exact q
  have has : ∀ (j : Nat) (b : Bool) (c : Co), (δ.set i (some (S.o kb co')))[j]? = some (some (S.o b c)) → ∃ b' c', δ[j]? = some (some (S.o b' c')) := fun j b c q => by
    rcases key j b c q with ⟨rfl, _, _⟩ | ⟨_, q'⟩
    · exact ⟨_, _, hq⟩
    · exact ⟨_, _, q'⟩
  refine ⟨by rw [List.length_set]; exact E.len, fun j e q => ?_, fun j b c q => ?_, fun j v q => ?_, fun j l b b' c e p' q1 q2 q3 q4 => ?_, fun a v q n => ?_, E.sub, fun a h => ?_, E.subB, E.wo, E.bO⟩
  · obtain ⟨v, g1, g2⟩ := E.dat j e (oth j (.d e) (fun b c z => nomatch z) q)
    exact ⟨v, g1, g2.fr f⟩
  · rcases key j b c q with ⟨rfl, rfl, rfl⟩ | ⟨n, q⟩
    · exact ⟨p, u, hp, h2, upd_same, hc.fr f, h5⟩
    · obtain ⟨p2, o2, g1, g2, g3, g4, g5⟩ := E.own j b c q
      refine ⟨p2, o2, g1, g2, ?_, g4.fr f, g5⟩
      rw [upd_ne fun z => n ?_]
      · exact g3
      · rw [z] at g1
        exact E.inj i j _ _ _ _ p hq q hp g1
  · exact E.raw j v (oth j (.v v) (fun b c z => nomatch z) q)
  · obtain ⟨b1, c1, k1⟩ := has j b c q1
    obtain ⟨b2, c2, k2⟩ := has l b' e q2
    exact E.inj j l b1 b2 c1 c2 p' k1 k2 q3 q4
  · by_cases z : a = p
    · subst z
      cases kb with
      | true => exact absurd h5 n
      | false =>
        have : β.H a = none := h5
        rw [q] at this
        cases this
    · rw [upd_ne z]
      exact E.keep a v q n
  · by_cases z : a = p
    · exact ⟨u, by rw [z]; exact upd_same⟩
    · rw [upd_ne z]
      exact E.dom a h
theorem Sta.mutStep {K : PySem.W.Frag} {β : Bs} {O W : Ad} {H : Hp} {σ : L2.St} (E : Sta K β O W H σ δ) {i : Nat} {kb : Bool} {p : Addr} (hq : δ[i]? = some (some (.o kb co))) (hp : σ[i]? = some (some (.ref p))) (u : HO) : Fr W H (upd H p u) := by
  obtain ⟨p', o', h1, h2, h3, h4, h5⟩ := E.own i kb co hq
  rw [hp] at h1
  cases h1
  exact fun a v q n => by
    rw [upd_ne fun z => n (by rw [z]; exact h2)]
    exact q
/-- xs.append(e) -/
theorem ds_append (i : Nat) {x : Str} {px ap cp : Pos} {kb : Bool} {ds : List PyData} (hq : δ1[i]? = some (some (.o kb (.l ds)))) (he : DE X e δ (.d d) δ1) (h0 : ∃ c0 k0, δ[i]? = some (some (.o k0 (.l c0)))) (hz : ds.length < sizeLine)
    (hN : X.N[i]? = some x := by rfl) (hv : Vis X.env.scope x := by first | exact Or.inl rfl | exact Or.inr (Or.inl rfl) | exact Or.inr (Or.inr rfl)) (hd : (x == ("__debug__" : Str)) = false := by decide)
    (hcd : (x == ("__classdict__" : Str)) = false := by decide)
    (hbase : attributeBase (.Name x px) "append" X.env (eval (.Name x px) X.env) = eval (.Name x px) X.env := by rfl)
    (hfew : ((backTo cp (starEach [e] X.env)).all (fun x => !x.1) && (backToKw cp (keywordEach [] X.env)).all (fun x => x.1.isSome) && decide ([e].length + ([] : List Keyword).length + (if ([] : List Keyword).isEmpty then 0 else 1) < 30)) = true := by rfl)
    (hline : (ap.endLine == cp.line) = true := by rfl) (hs : starEach [e] X.env = (false, eval e X.env) :: starEach [] X.env := by rfl) (hplain : (backTo cp (starEach [] X.env)).any (·.1) = false := by rfl)
    (hsw : swapsWith (.Call (.Attribute (.Name x px) "append" ap) [e] [] cp) none pos.line X.env = pure false := by rfl) :
    DS X (.Expr (.Call (.Attribute (.Name x px) "append" ap) [e] [] cp) pos) δ (.nx (δ1.set i (some (.o kb (.l (ds ++ [d])))))) :=
  PS.imp (ps_expr (pe_bm PySem.F.plainAttrs_list PySem.F.slot_list_append PySem.F.type_list_append mt_append (pe_var hN hv hd hcd) (pa_1 he hs) hbase hfew hline hs hplain) hsw) fun D σ H ⟨β, O, W, E, k⟩ => by
    obtain ⟨c0, k0, h0⟩ := h0
    obtain ⟨p, o, h1, h2, h3, h4, h5⟩ := E.own i _ _ h0
    obtain ⟨xs0, rfl, _⟩ := h4.lst
    refine ⟨.ref p, h1, .inl ⟨rfl, xs0, SqL.of h3⟩, β, O, W, E, fun y H1 z1 E1 f1 hy => ?_⟩
    obtain ⟨p', o', g1, g2, g3, g4, g5⟩ := E1.own i _ _ hq
    rw [h1] at g1
    cases g1
    obtain ⟨xs, rfl, g6⟩ := g4.lst
    refine ⟨p, xs, y, rfl, rfl, g3, by rw [g6.len]; exact hz, ?_⟩
    exact k O W σ _ (E1.mut hq h1 (co' := .l (ds ++ [d])) (g6.app (.one hy))) ((E.fstep E1 f1).tr (E1.fstep (E1.mut hq h1 (co' := .l (ds ++ [d])) (g6.app (.one hy))) (E1.mutStep hq h1 _)))
/-- xs[i] = e -/
theorem ds_setItem (i : Nat) {x : Str} {px ps : Pos} {kb : Bool} {ds : List PyData} {j : Expr} {n : Int} {m : Nat} (hq : δ2[i]? = some (some (.o kb (.l ds)))) (he : DE X e δ (.d d) δ1) (hj : DE X j δ1 (.d (.int n)) δ2) (h0 : ∃ c0 k0, δ1[i]? = some (some (.o k0 (.l c0)))) (hm : ixN ds.length n = some m)
    (hN : X.N[i]? = some x := by rfl) (hv : Vis X.env.scope x := by first | exact Or.inl rfl | exact Or.inr (Or.inl rfl) | exact Or.inr (Or.inr rfl)) (hd : (x == ("__debug__" : Str)) = false := by decide)
    (hcd : (x == ("__classdict__" : Str)) = false := by decide)
    (ha : ∀ v, assign (.Subscript (.Name x px) j ps) X.env v = (do
      let ov ← holding [v] (eval (.Name x px) X.env)
      let iv ← holding [v, ov] (eval j X.env)
      standAt ps
      holding [v, ov, iv] (setItem ov iv v)
      release [v, ov, iv] []) := by intro _; rfl)
    (hs : swapsWithSole [.Subscript (.Name x px) j ps] e pos.line X.env = pure false := by rfl) (hw : swappedStores [.Subscript (.Name x px) j ps] e X.env = pure none := by rfl)
    (h1 : (assignEach [.Subscript (.Name x px) j ps] X.env).map (·.2) = [assign (.Subscript (.Name x px) j ps) X.env] := by rfl) :
    DS X (.Assign [.Subscript (.Name x px) j ps] e pos) δ (.nx (δ2.set i (some (.o kb (.l (ds.set m d)))))) :=
  PS.imp (ps_asg he (pg_sub (pe_var hN hv hd hcd) hj set_list ha) hs hw h1) fun D σ H ⟨β, O, W, E, k⟩ => ⟨β, O, W, E, fun y H1 z1 E1 f1 hy => by
    obtain ⟨c0, k0, h0⟩ := h0
    obtain ⟨p, o, h1, h2, h3, h4, h5⟩ := E1.own i _ _ h0
    refine ⟨.ref p, h1, β, O, W, E1, fun jv H2 z2 E2 f2 hjv => ?_⟩
    cases hjv.int'
    obtain ⟨p', o', g1, g2, g3, g4, g5⟩ := E2.own i _ _ hq
    rw [h1] at g1
    cases g1
    obtain ⟨xs, rfl, g6⟩ := g4.lst
    refine ⟨p, xs, n, m, rfl, rfl, g3, by rw [g6.len]; exact hm, ?_⟩
    have hy2 := hy.fr (E1.up f2)
    exact k O W σ _ (E2.mut hq h1 (co' := .l (ds.set m d)) (g6.set m hy2)) ((E.fstep E2 (f1.tr f2)).tr (E2.fstep (E2.mut hq h1 (co' := .l (ds.set m d)) (g6.set m hy2)) (E2.mutStep hq h1 _)))⟩
/-- xs.pop(e), as a value -/
theorem de_popAt (i : Nat) {x : Str} {px ap cp : Pos} {kb : Bool} {ds : List PyData} {n : Int} {m : Nat} (hq : δ1[i]? = some (some (.o kb (.l ds)))) (he : DE X e δ (.d (.int n)) δ1) (h0 : ∃ c0 k0, δ[i]? = some (some (.o k0 (.l c0)))) (hn : n = (m : Int)) (hm : ds[m]? = some d) (hz : ds.length < 2 ^ 40)
    (hN : X.N[i]? = some x := by rfl) (hv : Vis X.env.scope x := by first | exact Or.inl rfl | exact Or.inr (Or.inl rfl) | exact Or.inr (Or.inr rfl)) (hd : (x == ("__debug__" : Str)) = false := by decide)
    (hcd : (x == ("__classdict__" : Str)) = false := by decide)
    (hbase : attributeBase (.Name x px) "pop" X.env (eval (.Name x px) X.env) = eval (.Name x px) X.env := by rfl)
    (hfew : ((backTo cp (starEach [e] X.env)).all (fun x => !x.1) && (backToKw cp (keywordEach [] X.env)).all (fun x => x.1.isSome) && decide ([e].length + ([] : List Keyword).length + (if ([] : List Keyword).isEmpty then 0 else 1) < 30)) = true := by rfl)
    (hline : (ap.endLine == cp.line) = true := by rfl) (hs : starEach [e] X.env = (false, eval e X.env) :: starEach [] X.env := by rfl) (hplain : (backTo cp (starEach [] X.env)).any (·.1) = false := by rfl) :
    DE X (.Call (.Attribute (.Name x px) "pop" ap) [e] [] cp) δ (.d d) (δ1.set i (some (.o kb (.l (ds.eraseIdx m))))) :=
  PE.szd (pe_bm PySem.F.plainAttrs_list PySem.F.slot_list_pop PySem.F.type_list_pop mt_popAt (pe_var hN hv hd hcd) (pa_1 he hs) hbase hfew hline hs hplain) fun σ H Q z ⟨β, O, W, E, k⟩ => by
    obtain ⟨c0, k0, h0⟩ := h0
    obtain ⟨p, o, h1, h2, h3, h4, h5⟩ := E.own i _ _ h0
    obtain ⟨xs0, rfl, _⟩ := h4.lst
    refine ⟨.ref p, h1, .inl ⟨rfl, xs0, SqL.of h3⟩, β, O, W, E, fun y H1 z1 E1 f1 hy => ?_⟩
    cases hy.int'
    obtain ⟨p', o', g1, g2, g3, g4, g5⟩ := E1.own i _ _ hq
    rw [h1] at g1
    cases g1
    obtain ⟨xs, rfl, g6⟩ := g4.lst
    obtain ⟨v, hv, iv⟩ := g6.get' hm
    have hlt : m < xs.length := (List.getElem?_eq_some_iff.mp hv).1
    have hl := g6.len
    refine ⟨p, xs, n, m, v, rfl, rfl, g3, by omega, by omega, ?_, hv, fun z2 => ?_⟩
    · rw [hn]
      exact (ixN_seq (by unfold ixN; rw [if_pos (by omega), if_pos (by omega)]; simp)).1
    exact k v _ z2 (E1.mut hq h1 (co' := .l (ds.eraseIdx m)) (g6.erase m)) (f1.tr (E1.mutStep hq h1 _)) (iv.fr (E1.up (E1.mutStep hq h1 _)))

/-! ### branches -/
/-- the statements a, and (where these go on) the rest -/
def DB (X : Cx) (a rest : List Stmt) (δ : Dl) (o : Out) : Prop := (DSs X a δ o ∧ isNx o = false) ∨ ∃ δ2, DSs X a δ (.nx δ2) ∧ DSs X rest δ2 o
theorem db_out (h : DSs X a δ o) (hn : isNx o = false := by rfl) : DB X a rest δ o := .inl ⟨h, hn⟩
theorem db_on (h : DSs X a δ (.nx δ2)) (h2 : DSs X rest δ2 o) : DB X a rest δ o := .inr ⟨δ2, h, h2⟩
theorem db_nil (h2 : DSs X rest δ o) : DB X [] rest δ o := .inr ⟨δ, dss_nil, h2⟩
theorem ds_if {p : Bool} (hc : DT X c δ p δ1) (ha : p = true → DSs X a δ1 o) (hb : p = false → DSs X b δ1 o) : DS X (.If c a b pos) δ o := by
  cases p with
  | true => exact PS.imp (ps_if hc (ha rfl) (pss_never (sts := b))) fun D σ H ⟨β, O, W, E, k⟩ => ⟨β, O, W, E, fun H1 z1 E1 f1 => iteT ⟨β, O, W, E1, k.step (E.fstep E1 f1)⟩⟩
  | false => exact PS.imp (ps_if hc (pss_never (sts := a)) (hb rfl)) fun D σ H ⟨β, O, W, E, k⟩ => ⟨β, O, W, E, fun H1 z1 E1 f1 => iteF ⟨β, O, W, E1, k.step (E.fstep E1 f1)⟩⟩
theorem dss_if {p : Bool} (hc : DT X c δ p δ1) (ha : p = true → DB X a rest δ1 o) (hb : p = false → DB X b rest δ1 o) : DSs X (.If c a b pos :: rest) δ o := by
  cases p with
  | true =>
    rcases ha rfl with ⟨h, hn⟩ | ⟨δ2, h, h2⟩
    · exact dss_last (ds_if hc (fun _ => h) (fun z => nomatch z)) hn
    · exact dss_cons (ds_if hc (fun _ => h) (fun z => nomatch z)) h2
  | false =>
    rcases hb rfl with ⟨h, hn⟩ | ⟨δ2, h, h2⟩
    · exact dss_last (ds_if hc (fun z => nomatch z) (fun _ => h)) hn
    · exact dss_cons (ds_if hc (fun z => nomatch z) (fun _ => h)) h2
end
end G
set_option Elab.async false
set_option linter.all false
set_option maxRecDepth 100000
set_option maxHeartbeats 4000000
/-! G8: loops; names given a comprehension's list; two names at once. -/
namespace G
open PySem PySem.Spec L2
theorem PS.any {X : Cx} {st : Stmt} {ι : Sort _} {t : ι → TS} (h : ∀ i, PS X st (t i)) : PS X st (fun D σ H => ∃ i, t i D σ H) := ⟨fun pins s σ H D I ⟨i, q⟩ => (h i).run pins s σ H D I q⟩
theorem PSs.any {X : Cx} {st : List Stmt} {ι : Sort _} {t : ι → TS} (h : ∀ i, PSs X st (t i)) : PSs X st (fun D σ H => ∃ i, t i D σ H) := ⟨fun pins s σ H D I ⟨i, q⟩ => (h i).run pins s σ H D I q⟩
theorem PT.any {X : Cx} {e : Expr} {ι : Sort _} {t : ι → TT} (h : ∀ i, PT X e (t i)) : PT X e (fun σ H Q => ∃ i, t i σ H Q) := ⟨fun pins s σ H Q I ⟨i, q⟩ => (h i).run pins s σ H Q I q⟩
section
variable {X : Cx} {st : Stmt} {rest body a b : List Stmt} {e c tg iter : Expr} {δ δ1 δ2 δ' : Dl} {d : PyData} {ds : List PyData} {co : Co} {o : Out} {pos : Pos}
/-- how a turn may end: it goes on with δ -/
def goesOn (o : Out) (δ : Dl) : Prop := o = .nx δ ∨ o = .ct δ
/-- for tg in iter: body. Turns below n go on; at n the list ends, or the body leaves with o -/
theorem ds_forX {is : List Nat} {n : Nat} (s : Nat → Dl) (sa sb : Nat → Dl) (oo : Nat → Out) (hp : PassesOwn (model X.prog X.w) X.A X.env X.xe) (hc : X.calm = true) (hi : DI X tg iter δ ds δ1) (h0 : s 0 = δ1)
    (hg : ∀ i d, i ≤ n → ds[i]? = some d → DG X tg is d (s i) (sa i)) (hb : ∀ i, i ≤ n → i < ds.length → DSs X body (sa i) (oo i)) (hgo : ∀ i, i < n → goesOn (oo i) (sb i) ∧ Le (s (i + 1)) (sb i)) (hn : n ≤ ds.length)
    (hend : (n = ds.length ∧ o = .nx (s n)) ∨ (n < ds.length ∧ ((oo n = o ∧ (∃ d δ, o = .rt d δ)) ∨ (∃ δx, oo n = .bk δx ∧ o = .nx δx))))
    (hs : ∀ x, foldedSetIterable iter X.env x = pure x := by intro _; rfl) : DS X (.For tg iter body [] pos) δ o := by
  let m := min (n + 1) ds.length
  refine PS.imp (ps_for (wi := rI X.K δ ds δ1) (g := fun v σ H Q => ∃ i : Wi m, rG X.K is (ds.getD i.1 .none) (s i.1) (sa i.1) v σ H Q) (tb := fun D σ H => ∃ i : Wi m, rS X.K (sa i.1) (oo i.1) D σ H) hp hc hi
    (PG.any fun i => hg i.1 _ (by have := i.2; omega) (by rw [List.getD_eq_getElem?_getD, List.getElem?_eq_getElem (by have := i.2; omega)]; rfl)) (PSs.any fun i => hb i.1 (by have := i.2; omega) (by have := i.2; omega)) hs) fun D σ H ⟨β, O, W, E, k⟩ => ?_
  refine ⟨β, O, W, E, fun J H1 z1 E1 f1 w1 => ?_⟩
  have S1 : Step O W H O W H1 := E.fstep E1 f1
  refine ⟨fun i m' σ' H' => m' = ds.length - i ∧ i ≤ n ∧ ∃ O' W', Sta X.K β O' W' H' σ' (s i) ∧ Step O W H1 O' W' H', ⟨ds.length, by simp, Nat.zero_le _, O, W, by rw [h0]; exact E1, Step.rfl⟩, ?_⟩
  rintro i m' σ' H' ⟨rfl, hin, O', W', E', S'⟩
  obtain ⟨ws, wg⟩ := w1.2 O' H' (E1.up S'.fr) S'.mo E'.dom
  by_cases hlt : i < ds.length
  · have hd : ds[i]? = some (ds.getD i .none) := by
      rw [List.getD_eq_getElem?_getD, List.getElem?_eq_getElem hlt]
      rfl
    obtain ⟨go, yl⟩ := wg i _ hd
    have him : i < m := by
      show i < min (n + 1) ds.length
      omega
    refine .inr ⟨go, fun σ2 H2 => i < n ∧ ∃ O2 W2, Sta X.K β O2 W2 H2 σ2 (s (i + 1)) ∧ Step O W H1 O2 W2 H2, fun σ2 H2 ⟨h1, O2, W2, q1, q2⟩ => ⟨ds.length - (i + 1), by omega, rfl, by omega, O2, W2, q1, q2⟩, fun x H2 y => ?_⟩
    obtain ⟨e2, i2⟩ := yl x H2 y
    refine ⟨⟨i, him⟩, β, O', W', E'.ex e2, i2, fun σ2 hl2 hj2 E2 => ⟨⟨i, him⟩, β, O', W', E2, ?_⟩⟩
    have S2 : Step O W H1 O' W' H2 := S'.tr ⟨e2.fr, More.rfl, More.rfl, fun a u q => ⟨u, e2 a u q⟩⟩
    by_cases hn' : i < n
    · obtain ⟨g1, g2⟩ := hgo i hn'
      rcases g1 with g1 | g1
      · rw [g1]
        exact fun O3 W3 σ3 H3 E3 S3 => ⟨hn', O3, W3, E3.leD g2, S2.tr S3⟩
      · rw [g1]
        exact fun O3 W3 σ3 H3 E3 S3 => ⟨hn', O3, W3, E3.leD g2, S2.tr S3⟩
    · have ei : i = n := by omega
      subst ei
      rcases hend with ⟨h1, h2⟩ | ⟨h1, h2⟩
      · omega
      · rcases h2 with ⟨h2, dd, δd, h3⟩ | ⟨δx, h2, h3⟩
        · subst h3
          rw [h2]
          exact k
        · subst h3
          rw [h2]
          exact fun O3 W3 σ3 H3 E3 S3 => k O3 W3 σ3 H3 E3 (S1.tr (S2.tr S3))
  · have ei : i = ds.length := by omega
    have en : n = ds.length := by omega
    rcases hend with ⟨h1, h2⟩ | ⟨h1, h2⟩
    · subst h2
      refine .inl ⟨ws i (by omega), ?_⟩
      rw [ei, ← en] at E'
      exact k O' W' σ' H' E' (S1.tr S')
    · omega
/-- .. all turns go on -/
theorem ds_for {is : List Nat} (s : Nat → Dl) (sa sb : Nat → Dl) (oo : Nat → Out) (hp : PassesOwn (model X.prog X.w) X.A X.env X.xe) (hc : X.calm = true) (hi : DI X tg iter δ ds δ1) (h0 : s 0 = δ1)
    (hg : ∀ i d, ds[i]? = some d → DG X tg is d (s i) (sa i)) (hb : ∀ i, i < ds.length → DSs X body (sa i) (oo i)) (hgo : ∀ i, i < ds.length → goesOn (oo i) (sb i) ∧ Le (s (i + 1)) (sb i))
    (hs : ∀ x, foldedSetIterable iter X.env x = pure x := by intro _; rfl) : DS X (.For tg iter body [] pos) δ (.nx (s ds.length)) :=
  ds_forX (n := ds.length) s sa sb oo hp hc hi h0 (fun i d _ => hg i d) (fun i _ => hb i) hgo (Nat.le_refl _) (.inl ⟨rfl, rfl⟩) hs
/-- over typed things, the state by what has been gone through -/
theorem ds_forT {α : Type} {is : List Nat} (src : List α) (enc : α → PyData) (s : List α → Dl) (sa : List α → α → Dl) (hp : PassesOwn (model X.prog X.w) X.A X.env X.xe) (hc : X.calm = true) (hi : DI X tg iter δ (src.map enc) δ1) (h0 : s [] = δ1)
    (hg : ∀ pre x, x ∈ src → DG X tg is (enc x) (s pre) (sa pre x)) (hb : ∀ pre x post, src = pre ++ x :: post → ∃ o δx, DSs X body (sa pre x) o ∧ goesOn o δx ∧ Le (s (pre ++ [x])) δx)
    (hs : ∀ x, foldedSetIterable iter X.env x = pure x := by intro _; rfl) : DS X (.For tg iter body [] pos) δ (.nx (s src)) := by
  by_cases hsrc : src = []
  · subst hsrc
    refine ds_for (ds := []) (is := is) (fun _ => s []) (fun _ => δ) (fun _ => δ) (fun _ => .nx δ) hp hc hi h0 (fun i d h => by simp at h) (fun i h => absurd h (by simp)) (fun i h => absurd h (by simp)) hs
  · obtain ⟨x0, r0, hx0⟩ := List.exists_cons_of_ne_nil hsrc
    have at_ : ∀ i, i < src.length → src[i]? = some (src.getD i x0) := fun i hi => by
      rw [List.getD_eq_getElem?_getD, List.getElem?_eq_getElem hi]
      rfl
    have cut : ∀ i, i < src.length → src = src.take i ++ src.getD i x0 :: src.drop (i + 1) := fun i hi => by
      have e : src.getD i x0 = src[i] := by
        have := at_ i hi
        rw [List.getElem?_eq_getElem hi] at this
        exact (Option.some.inj this).symm
      rw [e, ← List.drop_eq_getElem_cons hi, List.take_append_drop]
    have tk : ∀ i, i < src.length → src.take (i + 1) = src.take i ++ [src.getD i x0] := fun i hi => by
      rw [List.take_add_one, at_ i hi]
      rfl
    let oo : Nat → Out := fun i => if h : i < src.length then (Classical.choose (hb _ _ _ (cut i h))) else .nx δ
    let sb : Nat → Dl := fun i => if h : i < src.length then (Classical.choose (Classical.choose_spec (hb _ _ _ (cut i h)))) else δ
    have spec : ∀ i (h : i < src.length), DSs X body (sa (src.take i) (src.getD i x0)) (oo i) ∧ goesOn (oo i) (sb i) ∧ Le (s (src.take i ++ [src.getD i x0])) (sb i) := fun i h => by
      have := Classical.choose_spec (Classical.choose_spec (hb _ _ _ (cut i h)))
      simp only [oo, sb, dif_pos h]
      exact this
    have key := ds_for (X := X) (tg := tg) (iter := iter) (body := body) (pos := pos) (δ := δ) (δ1 := δ1) (ds := src.map enc) (is := is) (fun i => s (src.take i)) (fun i => sa (src.take i) (src.getD i x0)) sb oo hp hc hi (by rw [List.take_zero]; exact h0)
      (fun i d h => by
        have hi : i < src.length := by
          have := (List.getElem?_eq_some_iff.mp h).1
          rwa [List.length_map] at this
        rw [List.getElem?_map, at_ i hi] at h
        cases h
        exact hg _ _ (List.mem_of_getElem? (at_ i hi))) (fun i h => (spec i (by rwa [List.length_map] at h)).1) (fun i h => by
        rw [List.length_map] at h
        obtain ⟨q1, q2, q3⟩ := spec i h
        exact ⟨q2, by rw [tk i h]; exact q3⟩) hs
    rw [List.length_map, List.take_length] at key
    exact key
/-- while c: body. n turns -/
theorem ds_while {n : Nat} (s : Nat → Dl) (sa sb : Nat → Dl) (oo : Nat → Out) (hp : PassesOwn (model X.prog X.w) X.A X.env X.xe) (hc : ∀ i, i < n → DT X c (s i) true (sa i)) (hend : DT X c (s n) false δ') (hb : ∀ i, i < n → DSs X body (sa i) (oo i)) (hgo : ∀ i, i < n → goesOn (oo i) (sb i) ∧ Le (s (i + 1)) (sb i)) :
    DS X (.While c body [] pos) (s 0) (.nx δ') := by
  refine PS.imp (ps_while (tc := fun σ H Q => ∃ i : Wi (n + 1), rT X.K (s i.1) (decide (i.1 < n)) (if i.1 < n then sa i.1 else δ') σ H Q) (tb := fun D σ H => ∃ i : Wi n, rS X.K (sa i.1) (oo i.1) D σ H) hp (PT.any fun i => ?_) (PSs.any fun i => hb i.1 i.2)) fun D σ H ⟨β, O, W, E, k⟩ => ?_
  · by_cases h : i.1 < n
    · rw [decide_eq_true h, if_pos h]
      exact hc i.1 h
    · have e : i.1 = n := by have := i.2; omega
      rw [decide_eq_false h, if_neg h, e]
      exact hend
  · refine ⟨fun m σ' H' => ∃ i, i ≤ n ∧ m = n - i ∧ ∃ O' W', Sta X.K β O' W' H' σ' (s i) ∧ Step O W H O' W' H', ⟨n, 0, Nat.zero_le _, by simp, O, W, E, Step.rfl⟩, ?_⟩
    rintro m σ' H' ⟨i, hi, rfl, O', W', E', S'⟩
    refine ⟨⟨i, by omega⟩, β, O', W', E', fun H1 z1 E1 f1 => ?_⟩
    have S1 := S'.tr (E'.fstep E1 f1)
    by_cases h : i < n
    · simp only [decide_eq_true h, if_pos h] at E1 ⊢
      refine ⟨fun σ2 H2 => ∃ O2 W2, Sta X.K β O2 W2 H2 σ2 (s (i + 1)) ∧ Step O W H O2 W2 H2, fun σ2 H2 ⟨O2, W2, q1, q2⟩ => ⟨n - (i + 1), by omega, i + 1, by omega, rfl, O2, W2, q1, q2⟩, ⟨i, h⟩, β, O', W', E1, ?_⟩
      obtain ⟨g1, g2⟩ := hgo i h
      rcases g1 with g1 | g1
      · rw [g1]
        exact fun O3 W3 σ3 H3 E3 S3 => ⟨O3, W3, E3.leD g2, S1.tr S3⟩
      · rw [g1]
        exact fun O3 W3 σ3 H3 E3 S3 => ⟨O3, W3, E3.leD g2, S1.tr S3⟩
    · simp only [decide_eq_false h, if_neg h] at E1 ⊢
      exact k O' W' σ' H1 E1 S1

theorem PS.szd {t t' : TS} (h : PS X st t) (w : ∀ D σ H, Sz X.K H → t' D σ H → t { nx := fun σ' H' => Sz X.K H' → D.nx σ' H', rt := D.rt, bk := D.bk, ct := D.ct } σ H) : PS X st t' := ⟨fun pins s σ H D I q => by
  refine thn (h.run pins s σ H _ I (w D σ H (Inv.sz I) q)) fun f s' r => ?_
  cases f with
  | next =>
    obtain ⟨σ', H', I', k⟩ := r
    exact ⟨σ', H', I', k (Inv.sz I')⟩
  | brk => exact r
  | cont => exact r
  | ret u => exact r⟩
/-! ### x = [.. for ..] on one line, x a plain local -/
variable {elt : Expr} {ifs : List Expr} {scope : Scope} {own : List (Str × Nat)} {vs is : List Nat} {n : Nat}
theorem ds_setLcS {lpos : Pos} (i : Nat) {x : Str} {p' : Pos} (L : Lc n) (hc : X.calm = true) (hN : X.N.Nodup) (hi : DI X tg iter δ ds δ1) (ok : BlkOk X.N X.env.scope scope own) (hn : ds.length = n) (h0 : L.st 0 = wipeD δ1 (own.map (·.2))) (hs : ∀ j ∈ is, j ∈ own.map (·.2))
    (hg : ∀ i d, i < n → ds[i]? = some d → ∀ (s : Shared) (H : Hp) (C : Addr) (cl : List (Str × Addr)) (fp : List Addr), DG (X.blk s H scope (compEnvC scope cl C X.env) fp) tg is d (L.st i) (L.a i))
    (ht : ∀ i, i < n → ∀ (s : Shared) (H : Hp) (C : Addr) (cl : List (Str × Addr)) (fp : List Addr), DTs (X.blk s H scope (compEnvC scope cl C X.env) fp) ifs (L.a i) (L.p i) (L.b i))
    (he : ∀ i, i < n → L.p i = true → ∀ (s : Shared) (H : Hp) (C : Addr) (cl : List (Str × Addr)) (fp : List Addr), DE (X.blk s H scope (compEnvC scope cl C X.env) fp) elt (L.b i) (.d (L.g i)) (L.c i))
    (hst : ∀ i, i < n → wipeD (if L.p i then L.c i else L.b i) is = L.st (i + 1)) (hend : L.st n = wipeD δ' (own.map (·.2))) (hsame : ∀ j ∈ own.map (·.2), δ'[j]? = δ1[j]?) (hvs : ∀ j ∈ own.map (·.2), isO (δ1.getD j none) = false)
    (hy : X.N[i]? = some x := by rfl) (hyl : X.env.scope.names.lookup x = some .local := by rfl) (hsw : swapsWith (.ListComp elt [⟨tg, iter, ifs, 0⟩] scope lpos) (some (.Name x p')) pos.line X.env = pure true := by exact sw_true rfl rfl rfl (by decide +kernel))
    (hf : ∀ x, foldedSetIterable iter X.env x = pure x := by intro _; rfl) : DS X (.Assign [.Name x p'] (.ListComp elt [⟨tg, iter, ifs, 0⟩] scope lpos) pos) δ (.nx (δ'.set i (some (.o false (.l (coll n L.p L.g)))))) :=
  PS.szd (ps_setLc (i := i) (g := fun v σ H Q => ∃ i : Wi n, rG X.K is (ds.getD i.1 .none) (L.st i.1) (L.a i.1) v σ H Q) (tt := fun σ H Q => ∃ i : Wi n, rT X.K (L.a i.1) (L.p i.1) (L.b i.1) σ H Q) (te := fun σ H Q => ∃ i : Wi n, ∃ _ : L.p i.1 = true, rE X.K (L.b i.1) (.d (L.g i.1)) (L.c i.1) σ H Q)
    hc hN hy hyl hsw hi ok (fun s H C cl fp => PG.any fun i : Wi n => hg i.1 (ds.getD i.1 .none) i.2 (by rw [List.getD_eq_getElem?_getD, List.getElem?_eq_getElem (by rw [hn]; exact i.2)]; rfl) s H C cl fp)
    (fun s H C cl fp => PTs.any fun i : Wi n => ht i.1 i.2 s H C cl fp) (fun s H C cl fp => PE.any fun i : Wi n => PE.any fun h : L.p i.1 = true => he i.1 i.2 h s H C cl fp) hf) fun D σ H z ⟨β, O, W, E, k⟩ => 
    lc_reads (Q := fun v H' => D.nx (σ.set i (some v)) H') L hn h0 hs hst hend hsame hvs ⟨β, O, W, E, fun p o H' z' hnp E' f hp hcc hb => k.made E hb hnp E' f hp hcc⟩
/-- .. that change no own slot, over typed things -/
theorem ds_setLc {α : Type} {lpos : Pos} (i : Nat) {x : Str} {p' : Pos} (src : List α) (enc : α → PyData) (p : α → Bool) (g : α → PyData) (δa : α → Dl) (hc : X.calm = true) (hN : X.N.Nodup) (hi : DI X tg iter δ (src.map enc) δ1) (ok : BlkOk X.N X.env.scope scope own) (is : List Nat) (hs : ∀ j ∈ is, j ∈ own.map (·.2))
    (hg : ∀ x, x ∈ src → ∀ (s : Shared) (H : Hp) (C : Addr) (cl : List (Str × Addr)) (fp : List Addr), DG (X.blk s H scope (compEnvC scope cl C X.env) fp) tg is (enc x) (wipeD δ1 (own.map (·.2))) (δa x))
    (ht : ∀ x, x ∈ src → ∀ (s : Shared) (H : Hp) (C : Addr) (cl : List (Str × Addr)) (fp : List Addr), DTs (X.blk s H scope (compEnvC scope cl C X.env) fp) ifs (δa x) (p x) (δa x))
    (he : ∀ x, x ∈ src → p x = true → ∀ (s : Shared) (H : Hp) (C : Addr) (cl : List (Str × Addr)) (fp : List Addr), DE (X.blk s H scope (compEnvC scope cl C X.env) fp) elt (δa x) (.d (g x)) (δa x))
    (hst : ∀ x, wipeD (δa x) is = wipeD δ1 (own.map (·.2))) (hvs : ∀ j ∈ own.map (·.2), isO (δ1.getD j none) = false)
    (hy : X.N[i]? = some x := by rfl) (hyl : X.env.scope.names.lookup x = some .local := by rfl) (hsw : swapsWith (.ListComp elt [⟨tg, iter, ifs, 0⟩] scope lpos) (some (.Name x p')) pos.line X.env = pure true := by exact sw_true rfl rfl rfl (by decide +kernel))
    (hf : ∀ x, foldedSetIterable iter X.env x = pure x := by intro _; rfl) : DS X (.Assign [.Name x p'] (.ListComp elt [⟨tg, iter, ifs, 0⟩] scope lpos) pos) δ (.nx (δ1.set i (some (.o false (.l ((src.filter p).map g)))))) := by
  obtain ⟨n, L, hn, h0, hg', ht', he', hst', hend, e⟩ := lc_typed (X := X) src enc p g δa hg ht he hst
  rw [← e]
  exact ds_setLcS i L hc hN hi ok hn h0 hs hg' ht' he' hst' hend (fun _ _ => rfl) hvs hy hyl hsw hf
/-- an own list given up as data -/
theorem ds_thaw (i : Nat) {l : List PyData} (h : DS X st δ (.nx (δ1.set i (some (.o false (.l l)))))) (hi : i < δ1.length) : DS X st δ (.nx (δ1.set i (some (.d (.list l))))) :=
  PS.imp h fun D σ H ⟨β, O, W, E, k⟩ => ⟨β, O, W, E, fun O' W' σ' H' E' S' => by
    obtain ⟨O2, W2, E2, so, sw⟩ := E'.freeze (i := i) (ds := l) (List.getElem?_set_self hi)
    rw [List.set_set] at E2
    exact k O2 W2 σ' H' E2 (S'.tr ⟨Fr.rfl, fun a z => .inl (so a z), fun a z => .inl (sw a z), fun a u q => ⟨u, q⟩⟩)⟩

/-! ### a, b = e1, e2 -/
theorem ds_par {i j : Nat} {x y : Str} {e1 e2 : Expr} {px py pt : Pos} {kt k2 pt2} {d1 d2 : PyData} (hc : X.calm = true) (hN : X.N.Nodup) (ha : DA X [e1, e2] δ [d1, d2] δ1) (hij : i ≠ j) (hi : X.N[i]? = some x := by rfl) (hj : X.N[j]? = some y := by rfl)
    (hx : X.env.scope.names.lookup x = some .local := by rfl) (hy : X.env.scope.names.lookup y = some .local := by rfl)
    (hw : swappedStores [.Tuple [.Name x px, .Name y py] kt pt] (.Tuple [e1, e2] k2 pt2) X.env = pure (some [x, y]) := by rfl)
    (hs : swapsWithSole [.Tuple [.Name x px, .Name y py] kt pt] (.Tuple [e1, e2] k2 pt2) pos.line X.env = pure false := by rfl) :
    DS X (.Assign [.Tuple [.Name x px, .Name y py] kt pt] (.Tuple [e1, e2] k2 pt2) pos) δ (.nx ((δ1.set i (some (.d d1))).set j (some (.d d2)))) :=
  PS.imp (ps_par hc hN hi hj hij hx hy ha hw hs) fun D σ H ⟨β, O, W, E, k⟩ => ⟨β, O, W, E, fun vs H1 z1 E1 f1 h1 => by
    cases h1 with
    | cons a1 a2 =>
      cases a2 with
      | cons b1 b2 =>
        cases b2
        exact ⟨_, _, rfl, k O W _ H1 ((E1.set a1 i).set b1 j) (E.fstep E1 f1)⟩⟩
/-- a target given a datum: a pair -/
theorem ds_asgG {is : List Nat} {tg : Expr} (he : DE X e δ (.d d) δ1) (hg : DG X tg is d δ1 δ2) (hs : swapsWithSole [tg] e pos.line X.env = pure false := by rfl) (hw : swappedStores [tg] e X.env = pure none := by rfl)
    (h1 : (assignEach [tg] X.env).map (·.2) = [assign tg X.env] := by rfl) : DS X (.Assign [tg] e pos) δ (.nx δ2) :=
  PS.imp (ps_asg he hg hs hw h1) fun D σ H ⟨β, O, W, E, k⟩ => ⟨β, O, W, E, fun v H1 z1 E1 f1 h1 => ⟨β, O, W, E1, h1, fun σ' _ _ E2 => k O W σ' H1 E2 (E.fstep E1 f1)⟩⟩
end
end G
set_option Elab.async false
set_option linter.all false
set_option maxRecDepth 100000
set_option maxHeartbeats 4000000
/-! G9: what defs promise, calls. -/
namespace G
open PySem PySem.Spec L2
/-- data in, data out, all else as it was -/
def spP (K : PySem.W.Frag) (F : List PyData → PyData → Prop) : Sp := fun vs H Q _ => ∃ (O : Ad) (ds : List PyData) (d : PyData), F ds d ∧ (∀ a, O a → ∃ o, H a = some o) ∧ IsAll K O H vs ds ∧ ∀ v H', Ex H H' → Is K O H' v d → Q v H'
/-- .. a new list out -/
def spF (K : PySem.W.Frag) (F : List PyData → Co → Prop) : Sp := fun vs H Q _ => ∃ (O : Ad) (ds : List PyData) (c : Co), F ds c ∧ (∀ a, O a → ∃ o, H a = some o) ∧ IsAll K O H vs ds ∧
  ∀ p o H', H p = none → Ex H H' → H' p = some o → CoIs K (ins p O) H' p c o → Q (.ref p) H'
/-- the first argument an object that is lent and may change -/
def spB (K : PySem.W.Frag) (F : Co → List PyData → PyData → Co → Prop) : Sp := fun vs H Q _ => ∃ (O : Ad) (p : Addr) (us : List V) (o : HO) (c : Co) (ds : List PyData) (d : PyData) (c' : Co), F c ds d c' ∧ vs = .ref p :: us ∧ (∀ a, O a → ∃ o, H a = some o) ∧ O p ∧ H p = some o ∧ CoIs K O H p c o ∧ IsAll K O H us ds ∧
  ∀ v o' H', (∀ a u, H a = some u → a ≠ p → H' a = some u) → H' p = some o' → CoIs K O H' p c' o' → Is K O H' v d → Q v H'
/-- .. and a new list out -/
def spBF (K : PySem.W.Frag) (F : Co → List PyData → Co → Co → Prop) : Sp := fun vs H Q _ => ∃ (O : Ad) (p : Addr) (us : List V) (o : HO) (c : Co) (ds : List PyData) (r : Co) (c' : Co), F c ds r c' ∧ vs = .ref p :: us ∧ (∀ a, O a → ∃ o, H a = some o) ∧ O p ∧ H p = some o ∧ CoIs K O H p c o ∧ IsAll K O H us ds ∧
  ∀ q u o' H', H q = none → (∀ a u, H a = some u → a ≠ p → H' a = some u) → H' p = some o' → CoIs K (ins q O) H' p c' o' → H' q = some u → CoIs K (ins q O) H' q r u → Q (.ref q) H'
def argsD (N : List Str) (ds : List PyData) : Dl := ds.map (fun d => some (S.d d)) ++ List.replicate (N.length - ds.length) none
def argsB (N : List Str) (c : Co) (ds : List PyData) : Dl := some (S.o true c) :: (ds.map (fun d => some (S.d d)) ++ List.replicate (N.length - (ds.length + 1)) none)
/-- a def that may be called by its name -/
structure Cl (P : Program) (w : World) (K : PySem.W.Frag) (mg : Str → Option Value) (base : Heap) (k : Nat) (x : Str) (sp : Sp) : Prop where
  ex : ∃ (f : Addr) (fd : FuncData) (ps : List Str), FnOk P w K mg base L2.CX0 k f fd ps sp ∧ mg x = some (.ref f) ∧ PySem.W.keepIn K (.ref f) = true ∧ Binds K fd ps []
/-- the context of a def's body -/
abbrev bX (P : Program) (w : World) (K : PySem.W.Frag) (mg : Str → Option Value) (base : Heap) (N : List Str) (x : Str) (st : Stmt) (f : Addr) (cdv : Value) (A : Around) (outer : List PySem.Env) (s : Shared) (H : Hp) (E : XK) : Cx :=
  (cxOf L2.CX0 P w K mg base N x (defScope st) f cdv A outer s H E).nox
abbrev bA (x : Str) (st : Stmt) (f : Addr) (cdv : Value) (A : Around) (s : Shared) : Around := A.deeper (PyProof.Rows.envOfC x (defScope st) s.heap.objs.size f cdv)
/-- how a body that gives d ends -/
def ends (d : PyData) (o : Out) : Prop := (∃ δ, o = .rt d δ) ∨ (d = .none ∧ ∃ δ, o = .nx δ)
theorem IsAll.start {K : PySem.W.Frag} {O : Ad} {H : Hp} {vs : List V} {ds : List PyData} (h : IsAll K O H vs ds) {n i : Nat} {d : PyData} (q : (ds.map (fun d => some (S.d d)) ++ List.replicate n none)[i]? = some (some (.d d))) : ∃ v, (vs.map some ++ List.replicate n none)[i]? = some (some v) ∧ Is K O H v d := by
  have hl := h.len
  by_cases hi : i < ds.length
  · rw [List.getElem?_append_left (by rw [List.length_map]; exact hi), List.getElem?_map] at q
    cases e : ds[i]? with
    | none => rw [e] at q; cases q
    | some d' =>
      rw [e] at q
      cases q
      obtain ⟨v, h1, h2⟩ := h.get' e
      exact ⟨v, by rw [List.getElem?_append_left (by rw [List.length_map]; omega), List.getElem?_map, h1]; rfl, h2⟩
  · rw [List.getElem?_append_right (by rw [List.length_map]; omega)] at q
    by_cases h2 : i - (ds.map (fun d => some (S.d d))).length < n
    · rw [List.getElem?_replicate, if_pos h2] at q
      cases q
    · rw [List.getElem?_replicate, if_neg h2] at q
      cases q
theorem noO {ds : List PyData} {n i : Nat} {s : S} (q : (ds.map (fun d => some (S.d d)) ++ List.replicate n none)[i]? = some (some s)) : ∃ d, s = .d d := by
  by_cases hi : i < ds.length
  · rw [List.getElem?_append_left (by rw [List.length_map]; exact hi), List.getElem?_map] at q
    cases e : ds[i]? with
    | none => rw [e] at q; cases q
    | some d' =>
      rw [e] at q
      cases q
      exact ⟨_, rfl⟩
  · rw [List.getElem?_append_right (by rw [List.length_map]; omega)] at q
    by_cases h2 : i - (ds.map (fun d => some (S.d d))).length < n
    · rw [List.getElem?_replicate, if_pos h2] at q
      cases q
    · rw [List.getElem?_replicate, if_neg h2] at q
      cases q
theorem Sta.start {K : PySem.W.Frag} {O : Ad} {H : Hp} {N : List Str} {vs : List V} {ds : List PyData} (h : IsAll K O H vs ds) (dm : ∀ a, O a → ∃ o, H a = some o) : Sta K ⟨H, O, none⟩ O none0 H (L2.start N vs) (argsD N ds) := by
  have hl := h.len
  unfold L2.start argsD
  rw [hl]
  refine ⟨by rw [List.length_append, List.length_append, List.length_map, List.length_map, List.length_replicate, List.length_replicate, hl], fun i d q => h.start q, fun i b c q => ?_, fun i v q => ?_, fun i j b b' c e p q1 _ _ _ => ?_, fun a o q _ => q, fun a h => h, dm, (fun p h => nomatch h), (fun a h => h.elim), fun a h => ?_⟩
  · obtain ⟨d, z⟩ := noO q; cases z
  · obtain ⟨d, z⟩ := noO q; cases z
  · obtain ⟨d, z⟩ := noO q1; cases z
  · rcases h with h | h
    · exact dm a h
    · cases h
theorem Sta.startB {K : PySem.W.Frag} {O : Ad} {H : Hp} {N : List Str} {p : Addr} {o : HO} {c : Co} {us : List V} {ds : List PyData} (h : IsAll K O H us ds) (dm : ∀ a, O a → ∃ o, H a = some o) (hp : H p = some o) (hO : O p) (hc : CoIs K O H p c o) :
    Sta K ⟨H, O, some p⟩ O (ins p none0) H (L2.start N (.ref p :: us)) (argsB N c ds) := by
  have hl := h.len
  unfold L2.start argsB
  rw [List.map_cons, List.cons_append, List.length_cons, hl]
  refine ⟨by simp [hl], fun i d q => ?_, fun i b e q => ?_, fun i v q => ?_, fun i j b b' c e p q1 q2 q3 q4 => ?_, fun a o q _ => q, fun a h => h, dm, fun q h => by cases h; exact hO, fun a h => ?_, fun a h => ?_⟩
  · cases i with
    | zero => cases q
    | succ i => exact h.start (by simpa using q)
  · cases i with
    | zero =>
      cases q
      exact ⟨p, o, rfl, .inl rfl, hp, hc, rfl⟩
    | succ i =>
      obtain ⟨d, z⟩ := noO (show (ds.map (fun d => some (S.d d)) ++ _)[i]? = _ by simpa using q)
      cases z
  · cases i with
    | zero => cases q
    | succ i =>
      obtain ⟨d, z⟩ := noO (show (ds.map (fun d => some (S.d d)) ++ _)[i]? = _ by simpa using q)
      cases z
  · cases i with
    | zero =>
      cases j with
      | zero => rfl
      | succ j =>
        obtain ⟨d, z⟩ := noO (show (ds.map (fun d => some (S.d d)) ++ _)[j]? = _ by simpa using q2)
        cases z
    | succ i =>
      obtain ⟨d, z⟩ := noO (show (ds.map (fun d => some (S.d d)) ++ _)[i]? = _ by simpa using q1)
      cases z
  · rcases h with h | h
    · rw [h]; exact hO
    · exact h.elim
  · rcases h with h | h
    · exact dm a h
    · cases h; exact ⟨o, hp⟩
section
variable {P : Program} {w : World} {K : PySem.W.Frag} {mg : Str → Option Value} {base : Heap} {x : Str} {st : Stmt} {f : Addr} {fd : FuncData} {N ps : List Str} {k : Nat}
theorem fn_P {F : List PyData → PyData → Prop} (Fn : L2.Fun K x x st f fd) (mgf : mg x = some (.ref f)) (b : Binds K fd ps []) (S : FnScope N ps (defScope st)) (hl : ∀ ds d, F ds d → ds.length = ps.length)
    (hb : ∀ ds d, F ds d → ∀ (cdv : Value) (A : Around) (outer : List PySem.Env) (s : Shared) (H : Hp) (E : XK), Room k (bA x st f cdv A s) → ∃ o, DSs (bX P w K mg base N x st f cdv A outer s H E) (defBody st) (argsD N ds) o ∧ ends d o) : Cl P w K mg base (k + 1) x (spP K F) := by
  refine ⟨f, fd, ps, Fn.ok S (fun vs H Q E h => ?_) (fun cdv A outer s H vs Q E hr h => ?_), mgf, Fn.kp, b⟩
  · obtain ⟨O, ds, d, hF, _, h, _⟩ := h
    rw [h.len]
    exact hl ds d hF
  · obtain ⟨O, ds, d, hF, dm, h, q⟩ := h
    obtain ⟨o, hd, he⟩ := hb ds d hF cdv A outer s H E hr
    refine ⟨_, hd, ⟨H, O, none⟩, O, none0, Sta.start h dm, ?_⟩
    rcases he with ⟨δ', rfl⟩ | ⟨rfl, δ', rfl⟩
    · exact fun O' W' σ' v H' E' i => q v H' (fun a u z => E'.keep a u z (fun y => nomatch y)) (i.less E'.sub)
    · exact fun O' W' σ' H' E' S' => q _ H' (fun a u z => E'.keep a u z (fun y => nomatch y)) .non
theorem fn_F {F : List PyData → Co → Prop} (Fn : L2.Fun K x x st f fd) (mgf : mg x = some (.ref f)) (b : Binds K fd ps []) (S : FnScope N ps (defScope st)) (hl : ∀ ds d, F ds d → ds.length = ps.length)
    (hb : ∀ ds c, F ds c → ∀ (cdv : Value) (A : Around) (outer : List PySem.Env) (s : Shared) (H : Hp) (E : XK), Room k (bA x st f cdv A s) → ∃ δ', DSs (bX P w K mg base N x st f cdv A outer s H E) (defBody st) (argsD N ds) (.rf c δ')) : Cl P w K mg base (k + 1) x (spF K F) := by
  refine ⟨f, fd, ps, Fn.ok S (fun vs H Q E h => ?_) (fun cdv A outer s H vs Q E hr h => ?_), mgf, Fn.kp, b⟩
  · obtain ⟨O, ds, d, hF, _, h, _⟩ := h
    rw [h.len]
    exact hl ds d hF
  · obtain ⟨O, ds, c, hF, dm, h, q⟩ := h
    obtain ⟨δ', hd⟩ := hb ds c hF cdv A outer s H E hr
    exact ⟨_, hd, ⟨H, O, none⟩, O, none0, Sta.start h dm, fun O' W' σ' p o H' E' hp hc hn => q p o H' hn (fun a u z => E'.keep a u z (fun y => nomatch y)) hp hc⟩
/-- the lent object is the first argument, and it stays there -/
theorem fn_B {F : Co → List PyData → PyData → Co → Prop} (Fn : L2.Fun K x x st f fd) (mgf : mg x = some (.ref f)) (b : Binds K fd ps []) (S : FnScope N ps (defScope st)) (hl : ∀ c ds d c', F c ds d c' → ds.length + 1 = ps.length)
    (hb : ∀ c ds d c', F c ds d c' → ∀ (cdv : Value) (A : Around) (outer : List PySem.Env) (s : Shared) (H : Hp) (E : XK), Room k (bA x st f cdv A s) → ∃ δ' o, DSs (bX P w K mg base N x st f cdv A outer s H E) (defBody st) (argsB N c ds) o ∧ (o = .rt d δ' ∨ (d = .none ∧ o = .nx δ')) ∧ ∃ i : Nat, δ'[i]? = some (some (G.S.o true c'))) :
    Cl P w K mg base (k + 1) x (spB K F) := by
  refine ⟨f, fd, ps, Fn.ok S (fun vs H Q E h => ?_) (fun cdv A outer s H vs Q E hr h => ?_), mgf, Fn.kp, b⟩
  · obtain ⟨O, p, us, o, c, ds, d, c', hF, rfl, _, _, _, _, h, _⟩ := h
    rw [List.length_cons, h.len]
    exact hl c ds d c' hF
  · obtain ⟨O, p, us, o, c, ds, d, c', hF, rfl, dm, hO, hp, hc, h, q⟩ := h
    obtain ⟨δ', oo, hd, he, i, hi⟩ := hb c ds d c' hF cdv A outer s H E hr
    refine ⟨_, hd, ⟨H, O, some p⟩, O, ins p none0, Sta.startB h dm hp hO hc, ?_⟩
    have fin : ∀ {O' W' : Ad} {σ' : L2.St} {H' : Hp}, Sta K ⟨H, O, some p⟩ O' W' H' σ' δ' → ∃ o', H' p = some o' ∧ CoIs K O H' p c' o' := fun {O' W' σ' H'} E' => by
      obtain ⟨p', o', h1, h2, h3, h4, h5⟩ := E'.own i true c' hi
      have e : some p = some p' := h5
      cases e
      exact ⟨o', h3, h4.less E'.sub⟩
    have kp : ∀ {O' W' : Ad} {σ' : L2.St} {H' : Hp}, Sta K ⟨H, O, some p⟩ O' W' H' σ' δ' → ∀ a u, H a = some u → a ≠ p → H' a = some u := fun E' a u z n => E'.keep a u z fun y => by cases y; exact n rfl
    rcases he with rfl | ⟨rfl, rfl⟩
    · intro O' W' σ' v H' E' i
      obtain ⟨o', h1, h2⟩ := fin E'
      exact q v o' H' (kp E') h1 h2 (i.less E'.sub)
    · intro O' W' σ' H' E' S'
      obtain ⟨o', h1, h2⟩ := fin E'
      exact q _ o' H' (kp E') h1 h2 .non
end
/-! ### calls -/
section
variable {X : Cx} {e : Expr} {es : List Expr} {δ δ1 δ2 : Dl} {d : PyData} {ds : List PyData} {co co' : Co} {pos p' : Pos} {x : Str} {k j : Nat}
theorem de_call {F : List PyData → PyData → Prop} (c : Cl X.prog X.w X.K X.mg X.base k x (spP X.K F)) (hr : Room j X.A) (hk : k ≤ j) (ha : DA X (e :: es) δ ds δ1) (hF : F ds d) (hg : Gl X x := by rfl) (hdb : (x == ("__debug__" : Str)) = false := by decide)
    (he : starEach (e :: es) X.env = (false, eval e X.env) :: starEach es X.env := by rfl) (hpl : (backTo pos (starEach es X.env)).any (·.1) = false := by rfl) : DE X (.Call (.Name x p') (e :: es) [] pos) δ (.d d) δ1 := by
  obtain ⟨f, fd, ps, G, hm, hkp, hb⟩ := c.ex
  exact PE.szd (pe_call G (hr.mono hk) hg hm hkp hb .nil pass0 ha hdb he hpl) fun σ H Q z ⟨β, O, W, E, q⟩ => ⟨β, O, W, E, fun vs H1 z1 E1 f1 h1 => ⟨O, ds, d, hF, E1.dom, by rw [List.append_nil]; exact h1, E1.gave f1 q⟩⟩
theorem df_call {F : List PyData → Co → Prop} (c : Cl X.prog X.w X.K X.mg X.base k x (spF X.K F)) (hr : Room j X.A) (hk : k ≤ j) (ha : DA X (e :: es) δ ds δ1) (hF : F ds co) (hg : Gl X x := by rfl) (hdb : (x == ("__debug__" : Str)) = false := by decide)
    (he : starEach (e :: es) X.env = (false, eval e X.env) :: starEach es X.env := by rfl) (hpl : (backTo pos (starEach es X.env)).any (·.1) = false := by rfl) : DF X (.Call (.Name x p') (e :: es) [] pos) δ co δ1 := by
  obtain ⟨f, fd, ps, G, hm, hkp, hb⟩ := c.ex
  exact PE.szd (pe_call G (hr.mono hk) hg hm hkp hb .nil pass0 ha hdb he hpl) fun σ H Q z ⟨β, O, W, E, q⟩ => ⟨β, O, W, E, fun vs H1 z1 E1 f1 h1 => ⟨O, ds, co, hF, E1.dom, by rw [List.append_nil]; exact h1, fun p o H' hp ex ho hc z' =>
    q p o H' z' (E.wasNew E1 f1 hp) (E1.insN hp ho ex) (f1.tr ex.fr) ho hc (E1.newB hp)⟩⟩
/-- the first argument an own object, that the def changes -/
theorem de_callB {F : Co → List PyData → PyData → Co → Prop} (i : Nat) {kb : Bool} {y : Str} {py : Pos} (c : Cl X.prog X.w X.K X.mg X.base k x (spB X.K F)) (hr : Room j X.A) (hk : k ≤ j) (hq : δ1[i]? = some (some (S.o kb co))) (h0 : ∃ b c, δ[i]? = some (some (S.o b c))) (ha : DA X es δ ds δ1) (hF : F co ds d co') (hg : Gl X x := by rfl) (hdb : (x == ("__debug__" : Str)) = false := by decide)
    (hN : X.N[i]? = some y := by rfl) (hv : Vis X.env.scope y := by first | exact Or.inl rfl | exact Or.inr (Or.inl rfl) | exact Or.inr (Or.inr rfl)) (hd : (y == ("__debug__" : Str)) = false := by decide)
    (hcd : (y == ("__classdict__" : Str)) = false := by decide)
    (he : starEach (.Name y py :: es) X.env = (false, eval (.Name y py) X.env) :: starEach es X.env := by rfl) (hpl : (backTo pos (starEach es X.env)).any (·.1) = false := by rfl) : DE X (.Call (.Name x p') (.Name y py :: es) [] pos) δ (.d d) (δ1.set i (some (S.o kb co'))) := by
  obtain ⟨f, fd, ps, G, hm, hkp, hb⟩ := c.ex
  refine PE.szd (pe_call G (hr.mono hk) hg hm hkp hb .nil pass0 (pa_cons (pe_var hN hv hd hcd) ha he) hdb he hpl) fun σ H Q z ⟨β, O, W, E, q⟩ => ?_
  obtain ⟨b0, c0, h0⟩ := h0
  obtain ⟨p, o, h1, h2, h3, h4, h5⟩ := E.own i _ _ h0
  refine ⟨.ref p, h1, β, O, W, E, fun vs H1 z1 E1 f1 hvs => ?_⟩
  obtain ⟨p', o', g1, g2, g3, g4, g5⟩ := E1.own i _ _ hq
  rw [h1] at g1
  cases g1
  refine ⟨O, p, vs, o', co, ds, d, co', hF, by rw [List.append_nil], E1.dom, E1.wo p g2, g3, g4, hvs, fun v u H' fr hu hc hv z' => ?_⟩
  -- as if the object had been changed first, then new ones laid
  have E2 : Sta X.K β O W H' σ (δ1.set i (some (S.o kb co'))) := by
    have f : Fr O H1 H' := fun a w q n => fr a w q fun z => n (by rw [z]; exact E1.wo p g2)
    have hi : i < δ1.length := (List.getElem?_eq_some_iff.mp hq).1
    have key : ∀ (j : Nat) (b : Bool) (c : Co), (δ1.set i (some (S.o kb co')))[j]? = some (some (S.o b c)) → (j = i ∧ b = kb ∧ c = co') ∨ (i ≠ j ∧ δ1[j]? = some (some (S.o b c))) := fun j b c q => by
      by_cases hj : i = j
      · subst hj
        rw [List.getElem?_set_self hi] at q
        cases q
        exact .inl ⟨rfl, rfl, rfl⟩
      · rw [List.getElem?_set_ne hj] at q
        exact .inr ⟨hj, q⟩
    have oth : ∀ (j : Nat) (s : S), (∀ b c, s ≠ .o b c) → (δ1.set i (some (.o kb co')))[j]? = some (some s) → δ1[j]? = some (some s) := fun j s hs q => by
      by_cases hj : i = j
      · subst hj
        rw [List.getElem?_set_self hi] at q
        cases q
        exact absurd rfl (hs kb co')
      · rw [List.getElem?_set_ne hj] at q
        exact q
    have has : ∀ (j : Nat) (b : Bool) (c : Co), (δ1.set i (some (S.o kb co')))[j]? = some (some (S.o b c)) → ∃ b' c', δ1[j]? = some (some (S.o b' c')) := fun j b c q => by
      rcases key j b c q with ⟨rfl, _, _⟩ | ⟨_, q'⟩
      · exact ⟨_, _, hq⟩
      · exact ⟨_, _, q'⟩
    refine ⟨by rw [List.length_set]; exact E1.len, fun j e q => ?_, fun j b c q => ?_, fun j v q => ?_, fun j l b b' c e p' q1 q2 q3 q4 => ?_, fun a v qk n => ?_, E1.sub, fun a h => ?_, E1.subB, E1.wo, E1.bO⟩
    · obtain ⟨v, k1, k2⟩ := E1.dat j e (oth j (.d e) (fun b c z => nomatch z) q)
      exact ⟨v, k1, k2.fr f⟩
    · rcases key j b c q with ⟨rfl, rfl, rfl⟩ | ⟨n, q⟩
      · exact ⟨p, u, h1, g2, hu, hc, g5⟩
      · obtain ⟨p2, o2, k1, k2, k3, k4, k5⟩ := E1.own j b c q
        exact ⟨p2, o2, k1, k2, fr p2 o2 k3 fun z => n (by
          rw [z] at k1
          exact E1.inj i j _ _ _ _ p hq q h1 k1), k4.fr f, k5⟩
    · exact E1.raw j v (oth j (.v v) (fun b c z => nomatch z) q)
    · obtain ⟨b1, c1, k1⟩ := has j b c q1
      obtain ⟨b2, c2, k2⟩ := has l b' e q2
      exact E1.inj j l b1 b2 c1 c2 p' k1 k2 q3 q4
    · refine fr a v (E1.keep a v qk n) fun z => ?_
      subst z
      cases kb with
      | true => exact n g5
      | false =>
        have this : β.H a = none := g5
        rw [qk] at this
        cases this
    · by_cases z : a = p
      · exact ⟨u, by rw [z]; exact hu⟩
      · obtain ⟨w, q⟩ := E1.dom a h
        exact ⟨w, fr a w q z⟩
  exact q v H' z' E2 (f1.tr fun a w q n => fr a w q fun z => n (by rw [z]; exact g2)) hv
end

/-! ### isinstance -/
def isInt : PyData → Bool
  | .int _ => true
  | .bool _ => true
  | _ => false
def isBool : PyData → Bool
  | .bool _ => true
  | _ => false
def isStr : PyData → Bool
  | .str _ => true
  | _ => false
def isTup : PyData → Bool
  | .tuple _ => true
  | _ => false
def isLst : PyData → Bool
  | .list _ => true
  | _ => false
def tyD : PyData → String
  | .none => "NoneType"
  | .bool _ => "bool"
  | .int _ => "int"
  | .str _ => "str"
  | .list _ => "list"
  | .tuple _ => "tuple"
  | .dict _ => "dict"
theorem Is.ty {K : PySem.W.Frag} {O : Ad} {H : Hp} {v : V} {d : PyData} (h : Is K O H v d) : TyX K H v (.type (tyD d)) := by
  cases h with
  | non => exact .base .non
  | bl b => exact .base (.bl b)
  | int i => exact .base (.int i)
  | str x => exact .base (.str x)
  | lst h1 _ => exact .base (.lst h1.1)
  | tup h1 _ =>
    rcases h1 with ⟨h | ⟨o, h⟩, _⟩ | h
    · exact .base (.tup h)
    · exact .fTuple h
    · rcases h (fun _ => none) with (h | ⟨o, h⟩) | ⟨o, its, n, hk, hc, _⟩
      · cases h
      · cases h
      · exact .kTuple hk hc
theorem Iw.ty {K : PySem.W.Frag} {O : Ad} {H : Hp} {v : V} {d : PyData} (h : Iw K O H v d) : TyX K H v (.type (tyD d)) := by
  cases h with
  | is h => exact h.ty
  | own h q => exact .base (.lst h)
/-- T's answer on each kind of data -/
def KitD (T : String) (g : PyData → Bool) : Prop := ∀ d, (∀ kvs, d ≠ .dict kvs) → kitB (tyD d) T = some (g d)
theorem kit_int : KitD "int" isInt := fun d h => match d, h with
  | .none, _ => (by decide +kernel : kitB "NoneType" "int" = some false)
  | .bool _, _ => (by decide +kernel : kitB "bool" "int" = some true)
  | .int _, _ => (by decide +kernel : kitB "int" "int" = some true)
  | .str _, _ => (by decide +kernel : kitB "str" "int" = some false)
  | .list _, _ => (by decide +kernel : kitB "list" "int" = some false)
  | .tuple _, _ => (by decide +kernel : kitB "tuple" "int" = some false)
  | .dict k, h => absurd rfl (h k)
theorem kit_bool : KitD "bool" isBool := fun d h => match d, h with
  | .none, _ => (by decide +kernel : kitB "NoneType" "bool" = some false)
  | .bool _, _ => (by decide +kernel : kitB "bool" "bool" = some true)
  | .int _, _ => (by decide +kernel : kitB "int" "bool" = some false)
  | .str _, _ => (by decide +kernel : kitB "str" "bool" = some false)
  | .list _, _ => (by decide +kernel : kitB "list" "bool" = some false)
  | .tuple _, _ => (by decide +kernel : kitB "tuple" "bool" = some false)
  | .dict k, h => absurd rfl (h k)
theorem kit_str : KitD "str" isStr := fun d h => match d, h with
  | .none, _ => (by decide +kernel : kitB "NoneType" "str" = some false)
  | .bool _, _ => (by decide +kernel : kitB "bool" "str" = some false)
  | .int _, _ => (by decide +kernel : kitB "int" "str" = some false)
  | .str _, _ => (by decide +kernel : kitB "str" "str" = some true)
  | .list _, _ => (by decide +kernel : kitB "list" "str" = some false)
  | .tuple _, _ => (by decide +kernel : kitB "tuple" "str" = some false)
  | .dict k, h => absurd rfl (h k)
theorem kit_tuple : KitD "tuple" isTup := fun d h => match d, h with
  | .none, _ => (by decide +kernel : kitB "NoneType" "tuple" = some false)
  | .bool _, _ => (by decide +kernel : kitB "bool" "tuple" = some false)
  | .int _, _ => (by decide +kernel : kitB "int" "tuple" = some false)
  | .str _, _ => (by decide +kernel : kitB "str" "tuple" = some false)
  | .list _, _ => (by decide +kernel : kitB "list" "tuple" = some false)
  | .tuple _, _ => (by decide +kernel : kitB "tuple" "tuple" = some true)
  | .dict k, h => absurd rfl (h k)
theorem kit_list : KitD "list" isLst := fun d h => match d, h with
  | .none, _ => (by decide +kernel : kitB "NoneType" "list" = some false)
  | .bool _, _ => (by decide +kernel : kitB "bool" "list" = some false)
  | .int _, _ => (by decide +kernel : kitB "int" "list" = some false)
  | .str _, _ => (by decide +kernel : kitB "str" "list" = some false)
  | .list _, _ => (by decide +kernel : kitB "list" "list" = some true)
  | .tuple _, _ => (by decide +kernel : kitB "tuple" "list" = some false)
  | .dict k, h => absurd rfl (h k)
theorem Iw.nodict {K : PySem.W.Frag} {O : Ad} {H : Hp} {v : V} {d : PyData} (h : Iw K O H v d) : ∀ kvs, d ≠ .dict kvs := fun kvs e => by
  cases h with
  | is h => cases h <;> cases e
  | own h q => cases e
section
variable {X : Cx} {a : Expr} {δ δ1 : Dl} {d : PyData} {ra : R} {pos p' p2 : Pos} {T : Str} {Tn : String} {g : PyData → Bool}
theorem de_isin (kt : KitD Tn g) (ha : DE X a δ ra δ1) (hm : X.mg "isinstance" = none) (hmT : X.mg T = none) (hvT : bootBuiltins T = some (.type Tn)) (ea : res δ1 ra = some d := by rfl) (hg : Gl X "isinstance" := by rfl) (hgT : Gl X T := by rfl) (hn : T ≠ "__name__" := by decide) (hd : (T == ("__debug__" : Str)) = false := by decide)
    (he : starEach [a, .Name T p2] X.env = (false, eval a X.env) :: starEach [.Name T p2] X.env := by rfl) (he2 : starEach [.Name T p2] X.env = (false, eval (.Name T p2) X.env) :: starEach [] X.env := by rfl) (hpl : (backTo pos (starEach [.Name T p2] X.env)).any (·.1) = false := by rfl) :
    DE X (.Call (.Name "isinstance" p') [a, .Name T p2] [] pos) δ (.d (.bool (g d))) δ1 :=
  PE.szd (pe_callB call_isi hg hm (by decide +kernel) (pa_cons ha (pa_cons (pe_bltn (v := .ty Tn) hgT hmT hvT rfl hn hd) pa_nil he2) he) (by decide) (by decide) he hpl) fun σ H Q z ⟨β, O, W, E, k⟩ => ⟨β, O, W, E, fun y H1 z1 E1 f1 h1 =>
    ⟨y, .ty Tn, _, _, g d, rfl, .ty Tn, (h1.w E1 ea).ty, kit_ty (kt d (h1.w E1 ea).nodict), E1.gave f1 k _ H1 Ex.rfl (.bl _)⟩⟩
end
end G
set_option Elab.async false
set_option linter.all false
set_option maxRecDepth 100000
set_option maxHeartbeats 4000000
/-! GS: sorted(..) of lists and tuples of alike data, tuples without items among them; a < b of alike data. -/
namespace G
open PySem PySem.Spec L2
open PySem.W (alike alikeAll dataLt AllAlike dataKind dataKind_inv dataKind_some SortsAt EachIs)
section
variable {prog : Program} {w : World} {A : Around} {E : Value → Shared → Prop} {s : Shared}
theorem keyLt_gen (x y : Value) : PyProof.Rows.keyLt' PyProof.Rows.general' x y = PyProof.Rows.oneLt' false x y := rfl
/-- tuple's own __lt__, as sorting calls it -/
theorem tupLt_call {l b : Addr} {xs ys : Array Value} {e r : Nat → Bool} {Q : Value → Shared → Prop} (hl : s.heap.IsTuple l xs) (hb : s.heap.IsTuple b ys)
    (he : ∀ j (h1 : j < xs.size) (h2 : j < ys.size), SeqAt.EqAt A.in1 s xs[j] ys[j] (e j)) (hr : ∀ j (h1 : j < xs.size) (h2 : j < ys.size), e j = false → SeqAt.RcLt A.in1 s xs[j] ys[j] (r j))
    (h : Q (.bool (SeqAt.firstLt e r (decide (xs.size < ys.size)) (List.range (min xs.size ys.size)))) s) : wpAny (model prog w) A (call (.builtin "tuple.__lt__") [.ref l, .ref b]) Q E s := by
  obtain ⟨ob, q1, q2, m, q3⟩ := hl
  obtain ⟨oc, k1, k2, m2, k3⟩ := hb
  obtain ⟨c1, d1, t1, s1⟩ := ob
  obtain ⟨c2, d2, t2, s2⟩ := oc
  simp only at q2 q3 k2 k3
  subst q2 q3 k2 k3
  exact PySem.call_meets F.slot_tuple_lt ⟨_, q1, rfl⟩ F.entry_tuple_lt (F.args_tuple_lt_2 _ _) (SeqAt.tuple_ltAt l b xs ys m m2 d1 d2 s1 s2 e r) ⟨q1, k1, he, hr, h⟩
/-- one tuple against another, both known to be tuples -/
theorem oneLt_tup {ds es : List PyData} {a b : Value} {as bs : List Addr} {Q : Bool → Shared → Prop} (ra : Reads s.heap a (.tuple ds) as) (rb : Reads s.heap b (.tuple es) bs) (h : alikeAll ds es = true)
    (hu : A.units + min (PyData.depth (.tuple ds)) (PyData.depth (.tuple es)) < cLine) (hq : Q (dataLt (.tuple ds) (.tuple es)) s) : wpAny (model prog w) A (PyProof.Rows.oneLt' true a b) Q E s := by
  cases ra with
  | @tuple l o vs n _ a1 h1 h2 h3 h4 =>
    cases rb with
    | @tuple l' o' us n' _ b1 k1 k2 k3 k4 =>
      have n1 : vs.size = ds.length := by simpa using SeqAt.ReadsAll.length _ _ _ h4
      have n2 : us.size = es.length := by simpa using SeqAt.ReadsAll.length _ _ _ k4
      rw [PySem.W.dataLt_tuple, ← PySem.W.firstLt_toks ds es h, ← n1, ← n2] at hq
      rw [PyProof.Rows.oneLt'_eq]
      simp only [if_true]
      refine wpAny_bind (wpAny_cRoomFor (SeqAt.room_here hu) ?_)
      refine wpAny_bind (wpAny_callSpecialIfBound?_slot (T := "tuple") ⟨_, h1, h2⟩ F.slot_tuple_lt (tupLt_call (e := SeqAt.pairEq ds es) (r := fun j => dataLt (ds.getD j .none) (es.getD j .none)) ⟨_, h1, h2, _, h3⟩ ⟨_, k1, k2, _, k3⟩ (fun j j1 j2 => ?_) (fun j j1 j2 hj => ?_) ?_))
      · have q := PySem.W.eqAt_alikeAll ds es A.in1 s vs.toList us.toList _ _ h4 k4 h (SeqAt.room_in hu) j (by simpa using j1) (by simpa using j2)
        simpa using q
      · have q := PySem.W.rcLt_alikeAll ds es A.in1 s vs.toList us.toList _ _ h4 k4 h (SeqAt.room_in hu) j (by simpa using j1) (by simpa using j2) hj
        simpa using q
      · exact wpAny_truthy_bool hq
/-- the first items of tuples -/
theorem firsts_tups : ∀ {vs : List Value} {ds : List PyData}, EachIs (fun v d => ∃ as, Reads s.heap v d as) vs ds → (∀ d, d ∈ ds → ∃ xs, d = .tuple xs) →
    ∃ os : List (Option Value), os.length = vs.length ∧ (∀ i, (os.getD i none).isSome = true ↔ ∃ x r, ds[i]? = some (.tuple (x :: r))) ∧ ∀ {M : Model} {Q : List (Option Value) → Shared → Prop}, Q os s → wpAny M A (vs.mapM PyProof.Rows.firstOfTuple') Q E s
  | _, _, .nil, _ => ⟨[], rfl, fun i => by simp, fun h => by rw [List.mapM_nil]; exact wpAny_pure h⟩
  | _, _, .cons (b := d) ⟨as, r⟩ t, ht => by
    obtain ⟨os, h1, h2, h3⟩ := firsts_tups t fun d hd => ht d (List.mem_cons_of_mem _ hd)
    obtain ⟨xs, rfl⟩ := ht d (List.mem_cons_self ..)
    cases r with
    | @tuple l o us n _ _ ho hc hd hr =>
      refine ⟨us[0]? :: os, by rw [List.length_cons, List.length_cons, h1], fun i => ?_, fun {M Q} h => ?_⟩
      · cases i with
        | zero =>
          have e : us[0]? = us.toList[0]? := by rw [Array.getElem?_toList]
          rw [List.getD_cons_zero, e]
          cases q : us.toList with
          | nil =>
            rw [q] at hr
            cases hr
            simp
          | cons f fr =>
            rw [q] at hr
            cases hr with
            | cons r1 r2 => simp
        | succ i =>
          rw [List.getD_cons_succ, List.getElem?_cons_succ]
          exact h2 i
      · rw [List.mapM_cons]
        refine wpAny_bind ?_
        rw [PySem.W.kas_first_eq]
        refine wpAny_bind (wpAny_typeOf (T := "tuple") ⟨o, ho, hc⟩ ?_)
        rw [if_neg (by decide)]
        refine wpAny_bind (PyProof.Rows.listItems_at ho hd ?_)
        exact wpAny_pure (wpAny_bind (h3 (wpAny_pure h)))
theorem types_tups : ∀ {vs : List Value} {ds : List PyData} {M : Model} {Q : List Value → Shared → Prop}, EachIs (fun v d => ∃ as, Reads s.heap v d as) vs ds → (∀ d, d ∈ ds → ∃ xs, d = .tuple xs) → Q (vs.map fun _ => Value.type "tuple") s → wpAny M A (vs.mapM typeOf) Q E s
  | _, _, M, Q, .nil, _, h => by rw [List.mapM_nil]; exact wpAny_pure h
  | _, _, M, Q, .cons (b := d) ⟨as, r⟩ t, ht, h => by
    obtain ⟨xs, rfl⟩ := ht d (List.mem_cons_self ..)
    cases r with
    | @tuple l o us n _ _ ho hc hd hr =>
      rw [List.mapM_cons]
      refine wpAny_bind (wpAny_typeOf (T := "tuple") ⟨o, ho, hc⟩ ?_)
      exact wpAny_bind (types_tups t (fun d hd => ht d (List.mem_cons_of_mem _ hd)) (wpAny_pure h))
/-- tuples, some of them without items -/
theorem sortsAt_tups {vs : List Value} {ds : List PyData} (e : EachIs (fun v d => ∃ as, Reads s.heap v d as) vs ds) (hal : AllAlike ds) (ht : ∀ d, d ∈ ds → ∃ xs, d = .tuple xs) (hu : ∀ d, d ∈ ds → A.units + d.depth < cLine) : SortsAt prog w A s (dataKind s.heap ds) vs := by
  by_cases full : ∀ d, d ∈ ds → ∃ x r, d = .tuple (x :: r)
  · exact SortsAt.data e hal (.inl full) hu
  have room : ∀ {d d' : PyData}, d ∈ ds → A.units + min d.depth d'.depth < cLine := fun {d d'} hd => Nat.lt_of_le_of_lt (Nat.add_le_add_left (Nat.min_le_left _ _) _) (hu d hd)
  obtain ⟨d0, hd0, h0⟩ : ∃ d, d ∈ ds ∧ ¬ ∃ x r, d = .tuple (x :: r) := by
    refine Classical.byContradiction fun z => full fun d hd => Classical.byContradiction fun z' => z ⟨d, hd, z'⟩
  obtain ⟨i0, hi0⟩ := List.mem_iff_getElem?.mp hd0
  have el := e.length
  have notAll : ∀ os : List (Option Value), os.length = vs.length → (∀ i, (os.getD i none).isSome = true ↔ ∃ x r, ds[i]? = some (.tuple (x :: r))) → (os.toArray.all fun x => x.isSome) = false := fun os h1 h2 => by
    rw [List.all_toArray]
    refine Bool.eq_false_iff.mpr fun z => h0 ?_
    have hlt : i0 < os.length := by
      have := (List.getElem?_eq_some_iff.mp hi0).1
      omega
    have q : (os.getD i0 none).isSome = true := by
      rw [List.getD_eq_getElem?_getD, List.getElem?_eq_getElem hlt]
      exact List.all_eq_true.mp z _ (List.getElem_mem hlt)
    obtain ⟨x, r, q'⟩ := (h2 i0).mp q
    rw [hi0] at q'
    exact ⟨x, r, Option.some.inj q'⟩
  refine ⟨fun v hv => ?_, ?_⟩
  · obtain ⟨d, hd, as, r⟩ := e.left v hv
    exact ⟨_, dataKind_some hal hd r⟩
  by_cases hf : ∃ x r, ds[0]? = some (.tuple (x :: r))
  · refine ⟨PyProof.Rows.general', ?_, fun h2 E Q hq => ?_⟩
    · intro E x y a b Q ha hb hq
      obtain ⟨d, as, hd, ra, rfl⟩ := dataKind_inv ha
      obtain ⟨d', as', hd', rb, rfl⟩ := dataKind_inv hb
      rw [keyLt_gen]
      exact PySem.W.oneLt_alike (fun z => nomatch z) ra rb (hal d hd d' hd') (fun z => by
        obtain ⟨xs, q⟩ := ht d hd
        rw [q] at z
        cases z) (room hd) hq
    · obtain ⟨os, o1, o2, o3⟩ := firsts_tups (E := E) (A := A) e ht
      rw [PyProof.Rows.keyKind'_eq, List.mapM_toArray, map_eq_pure_bind]
      refine wpAny_bind (wpAny_bind (o3 (wpAny_pure ?_)))
      rw [if_neg (by rw [notAll os o1 o2]; decide)]
      have q0 : (os.toArray[0]?.bind id).isSome = true := by
        have q := (o2 0).mpr hf
        rw [List.getElem?_toArray]
        cases os with
        | nil => simp at q
        | cons a r => simpa using q
      rw [if_pos q0]
      exact wpAny_pure hq
  · refine ⟨PyProof.Rows.oneType', ?_, fun h2 E Q hq => ?_⟩
    · intro E x y a b Q ha hb hq
      obtain ⟨d, as, hd, ra, rfl⟩ := dataKind_inv ha
      obtain ⟨d', as', hd', rb, rfl⟩ := dataKind_inv hb
      rw [PyProof.Rows.keyLt'_oneType]
      have al := hal d hd d' hd'
      have rm := room (d' := d') hd
      obtain ⟨xs, rfl⟩ := ht d hd
      obtain ⟨ys, rfl⟩ := ht d' hd'
      exact oneLt_tup ra rb (by simpa [alike] using al) rm hq
    · obtain ⟨os, o1, o2, o3⟩ := firsts_tups (E := E) (A := A) e ht
      rw [PyProof.Rows.keyKind'_eq, List.mapM_toArray, map_eq_pure_bind]
      refine wpAny_bind (wpAny_bind (o3 (wpAny_pure ?_)))
      rw [if_neg (by rw [notAll os o1 o2]; decide)]
      have q0 : ¬ (os.toArray[0]?.bind id).isSome = true := fun z => hf ((o2 0).mp (by
        rw [List.getElem?_toArray] at z
        cases os with
        | nil => simp at z
        | cons a r => simpa using z))
      rw [if_neg q0, PyProof.Rows.oneTypeOnly'_eq, List.mapM_toArray, map_eq_pure_bind]
      refine wpAny_bind (wpAny_bind (wpAny_bind (types_tups e ht (wpAny_pure ?_))))
      cases vs with
      | nil => simp at h2
      | cons v vs =>
        have hall : ((List.map (fun _ => Value.type "tuple") (v :: vs)).toArray.all fun x => x == Value.type "tuple") = true := by
          rw [List.all_toArray, List.all_eq_true]
          intro x hx
          obtain ⟨_, _, rfl⟩ := List.mem_map.mp hx
          rfl
        rw [show (List.map (fun _ => Value.type "tuple") (v :: vs)).toArray[0]? = some (Value.type "tuple") by simp]
        simp only [hall, if_true]
        exact wpAny_pure (wpAny_pure hq)
end
end G
set_option Elab.async false
set_option linter.all false
set_option maxRecDepth 100000
set_option maxHeartbeats 4000000
/-! GT: sorted(list or tuple of alike data), comparisons of alike data, a typed layer (En). -/
namespace G
open PySem PySem.Spec L2
open PySem.W (alike alikeAll dataLt AllAlike dataKind SortsAt EachIs dataLe Sortable copyHeap sortingHeap sortVals)
/-! ### sorted -/
def SortKind (ds : List PyData) : Prop := Sortable ds ∨ ∀ d, d ∈ ds → ∃ xs, d = .tuple xs
section
variable {prog : Program} {w : World} {A : Around} {E : Value → Shared → Prop} {s : Shared}
theorem sortsAt_kind {vs : List Value} {ds : List PyData} (e : EachIs (fun v d => ∃ as, Reads s.heap v d as) vs ds) (hal : AllAlike ds) (ht : SortKind ds) (hu : ∀ d, d ∈ ds → A.units + d.depth < cLine) : SortsAt prog w A s (dataKind s.heap ds) vs := by
  rcases ht with h | h
  · exact SortsAt.data e hal h hu
  · exact sortsAt_tups e hal h hu
theorem collect_tup {l : Addr} {vs : List Value} {Q : List Value → Shared → Prop} (hl : s.heap.IsTuple l vs.toArray)
    (h : Q vs { s with heap := (s.heap.push (PyProof.Rows.seqObj "list" #[] 0)).update s.heap.objs.size (Obj.mapSeq (· ++ vs.toArray)) }) (hsz : vs.length ≤ sizeLine) :
    wpAny (model prog w) A (collect (.ref l)) Q E s := by
  obtain ⟨o, ho, hc, n, hd⟩ := id hl
  unfold collect
  refine wpAny_bind (wpAny_runValue (codeAny_builtin PyProof.Rows.entry_proto_collect' ?_))
  show wpAny _ _ (do again (.builtin "list.__iadd__" ⟨[← newList [], .ref l], []⟩)) _ _ s
  refine wpAny_bind (wpAny_newList (wpAny_pure ⟨Code.quiet_builtin _ (by decide +kernel), codeAny_builtin PyProof.Rows.entry_list_iadd' ?_⟩))
  show wpAny _ _ (Builtin.List.listExtendWith (.ref s.heap.objs.size) (.ref l) (.ref s.heap.objs.size)) _ _ { s with heap := s.heap.push (PyProof.Rows.seqObj "list" #[] 0) }
  unfold Builtin.List.listExtendWith
  have ho' : (s.heap.push (PyProof.Rows.seqObj "list" #[] 0)).get? l = some o := Heap.get?_push_of_some _ ho
  refine wpAny_bind (wpAny_typeOf (T := "tuple") ⟨o, ho', hc⟩ ?_)
  have ht : (Value.type "tuple" == Value.type "tuple") = true := by rfl
  rw [if_pos (by rw [ht]; simp)]
  refine wpAny_bind (PyProof.Rows.listItems_at ho' hd ?_)
  refine wpAny_bind (PyProof.Rows.listItems_at (xs := #[]) (n := 0) (Heap.get?_push_size _ rfl) rfl ?_)
  rw [if_neg (by simp)]
  refine wpAny_bind (PyProof.Rows.listUpdate_at (xs := #[]) (n := 0) (Heap.get?_push_size _ rfl) rfl ?_ (Nat.zero_le _) (by show (#[] ++ vs.toArray).size ≤ sizeLine + 1; simp only [Array.size_append, List.size_toArray, List.length_nil]; omega))
  refine wpAny_pure ?_
  show wpAny (model prog w) A (do
      let o ← load s.heap.objs.size
      match o.data with
      | .seq xs _ => pure xs.toList
      | _ => unsupported "internal:collect") Q E { s with heap := (s.heap.push (PyProof.Rows.seqObj "list" #[] 0)).update s.heap.objs.size (Obj.mapSeq (· ++ vs.toArray)) }
  refine wpAny_bind (wpAny_load (PyProof.Rows.get?_update_seq (Heap.get?_push_size _ rfl) _) ?_)
  show wpAny _ _ (pure ((#[] : Array Value) ++ vs.toArray).toList) Q E _
  rw [show ((#[] : Array Value) ++ vs.toArray).toList = vs by simp]
  exact wpAny_pure h
/-- sorted of what collects as vs -/
theorem sorted_any {l : Addr} {vs : List Value} {κ : PyProof.Rows.KeyKind} {Q : Value → Shared → Prop} (hl : s.heap.IsList l vs.toArray ∨ s.heap.IsTuple l vs.toArray) (hL : vs.length ≤ sizeLine)
    (S : SortsAt prog w A.in1.in1 { s with heap := sortingHeap (copyHeap s.heap vs) (s.heap.objs.size + 1) vs } κ vs)
    (h : Q (.ref (s.heap.objs.size + 1)) { s with heap := PyProof.Rows.sortedAll s.heap vs (sortVals κ false vs vs).toArray }) : wpAny (model prog w) A (call (.builtin "sorted") [.ref l]) Q E s := by
  rcases hl with hl | hl
  · exact PySem.W.sorted_vals hl S hL h
  refine PySem.Calls.call_function_entry PyProof.Rows.kind_sorted PyProof.Rows.plain_sorted PyProof.Rows.entry_sorted (PyProof.Rows.args_sorted1 _) ?_
  unfold Builtin.«sorted»
  refine wpAny_bind (m := checkCount "sorted" 1 1 _) (wpAny_pure ?_)
  refine wpAny_bind (collect_tup hl ?_ hL)
  refine wpAny_bind (wpAny_newList ?_ hL)
  have hsz : ((s.heap.push (PyProof.Rows.seqObj "list" #[] 0)).update s.heap.objs.size (Obj.mapSeq (· ++ vs.toArray))).objs.size = s.heap.objs.size + 1 := by
    rw [PySem.Heap.size_update, PyProof.Rows.size_push']
  show wpAny _ _ _ _ _ { s with heap := copyHeap s.heap vs }
  rw [hsz]
  refine wpAny_bind (wpAny_holding (PyProof.Rows.wpAny_call_entry_kw PyProof.Rows.slot_list_sort ⟨_, PySem.W.copyHeap_at s.heap vs, rfl⟩ PyProof.Rows.entry_list_sort ?body (PyProof.Rows.args_list_sort _)))
  case body =>
    show wpAny (model prog w) A.in1.in1 (Builtin.«list.sort» ⟨[.ref (s.heap.objs.size + 1)], []⟩) _ _ _
    exact PySem.W.list_sort_vals (s := { s with heap := copyHeap s.heap vs }) (PySem.W.copyHeap_at s.heap vs) S hL ⟨_, rfl, wpAny_pure ⟨_, rfl, h⟩⟩
end
def rSortD (K : PySem.W.Frag) (u : Nat) : List V → Hp → VK → Prop := fun xs H Q => ∃ (p : Addr) (bs : List (V × PyData)), xs = [.ref p] ∧ (SqL K H p (bs.map (·.1)) ∨ SqT K H p (bs.map (·.1))) ∧ (∀ b, b ∈ bs → Dp K H b.1 b.2) ∧ AllAlike (bs.map (·.2)) ∧
  SortKind (bs.map (·.2)) ∧ (∀ b, b ∈ bs → u + 2 + b.2.depth < cLine) ∧ ∀ l, H l = none → Q (.ref l) (upd H l (.lst ((bs.mergeSort (dataLe false (·.2))).map (·.1))))
theorem each_vals : ∀ {bs : List (V × PyData)} {its : List Value}, Vals (bs.map (·.1)) its → EachIs (fun u (b : V × PyData) => RelV b.1 u) its bs
  | [], _, h => by cases h; exact .nil
  | b :: bs, _, h => by
    cases h with
    | cons h1 h2 => exact .cons h1 (each_vals h2)
theorem vals_each : ∀ {bs : List (V × PyData)} {its : List Value}, EachIs (fun u (b : V × PyData) => RelV b.1 u) its bs → Vals (bs.map (·.1)) its
  | [], _, h => by cases h; exact .nil
  | b :: bs, _, h => by
    cases h with
    | cons h1 h2 => exact .cons h1 (vals_each h2)
theorem each_reads {X : Cx} {pins : List (Addr × Obj)} {σ : L2.St} {H : Hp} {s : Shared} (I : Inv X pins σ H s) : ∀ {bs : List (V × PyData)} {its : List Value}, (∀ b, b ∈ bs → Dp X.K H b.1 b.2) → EachIs (fun u (b : V × PyData) => RelV b.1 u) its bs → EachIs (fun v (b : V × PyData) => ∃ as, Reads s.heap v b.2 as) its bs
  | [], _, _, h => by cases h; exact .nil
  | b :: bs, _, hd, h => by
    cases h with
    | cons h1 h2 => exact .cons (Dp.reads I b.2 b.1 _ (hd b (List.mem_cons_self ..)) h1) (each_reads I (fun b hb => hd b (List.mem_cons_of_mem _ hb)) h2)
theorem cr_sortD {X : Cx} : CallR X (.builtin "sorted") (rSortD X.K X.A.units) := by
  intro pins s σ H xs us Q I r h
  obtain ⟨p, bs, rfl, hq, hd, hal, hk, hu, q⟩ := h
  rw [Vals.ref1 r]
  have main : ∀ its : List Value, Vals (bs.map (·.1)) its → bs.length ≤ sizeLine → (s.heap.IsList p its.toArray ∨ s.heap.IsTuple p its.toArray) → wpAny (model X.prog X.w) X.A (call (.builtin "sorted") [.ref p]) (EP X pins σ Q) X.xe s := fun its rv hz hl => by
    have e := each_vals rv
    have er := each_reads I hd e
    have el := e.length
    have er' : EachIs (fun v (b : V × PyData) => ∃ as, Reads (sortingHeap (copyHeap s.heap its) (s.heap.objs.size + 1) its) v b.2 as) its bs := er.mono fun _ _ ⟨as, r⟩ => ⟨as, PyProof.Rows.Reads.keeps (fun _ _ => PySem.W.sorting_copy_old) r⟩
    refine sorted_any hl (by omega) (sortsAt_kind (s := { s with heap := sortingHeap (copyHeap s.heap its) (s.heap.objs.size + 1) its }) (PySem.W.each_map (R := fun v d => ∃ as, Reads (sortingHeap (copyHeap s.heap its) (s.heap.objs.size + 1) its) v d as) (fun b : V × PyData => b.2) er') hal hk (PySem.W.bound_map (A := X.A.in1.in1) hu)) ?_
    have eo := PySem.W.sortVals_data (enc := fun b : V × PyData => b.2) false e er' hal
    obtain ⟨ep, he'⟩ := PyProof.Rows.sortedAll_at s.heap its (sortVals (dataKind (sortingHeap (copyHeap s.heap its) (s.heap.objs.size + 1) its) (bs.map fun b => b.2)) false its its).toArray
    refine ⟨.ref _, upd H (s.heap.objs.size + 1) (.lst ((bs.mergeSort (dataLe false fun b => b.2)).map (·.1))), I.laid (t' := s.toks) (fun _ _ => PyProof.Rows.sortedAll_old) (Nat.le_succ _) ⟨?_, _, ep, vals_each eo, he'⟩, rfl, q _ (I.hok.fresh (Nat.le_succ _))⟩
    rw [List.length_map, List.length_mergeSort]
    exact hz
  rcases hq with hq | hq
  · obtain ⟨its, rv, hl, hz⟩ := I.list hq
    rw [List.length_map] at hz
    exact main its rv hz (.inl hl.isList)
  · obtain ⟨its, rv, hl, hz⟩ := I.tuple hq
    rw [List.length_map] at hz
    exact main its rv hz (.inr hl)
/-- the sorted data -/
def sortD (ds : List PyData) : List PyData := ds.mergeSort (dataLe false id)
theorem sortD_len (ds : List PyData) : (sortD ds).length = ds.length := List.length_mergeSort ..
theorem IsAll.mem {K : PySem.W.Frag} {O : Ad} {H : Hp} : ∀ {bs : List (V × PyData)}, (∀ b, b ∈ bs → Is K O H b.1 b.2) → IsAll K O H (bs.map (·.1)) (bs.map (·.2))
  | [], _ => .nil
  | b :: bs, h => .cons (h b (List.mem_cons_self ..)) (IsAll.mem fun b hb => h b (List.mem_cons_of_mem _ hb))
theorem IsAll.zip {K : PySem.W.Frag} {O : Ad} {H : Hp} : ∀ {ds : List PyData} {vs : List V}, IsAll K O H vs ds → ∃ bs : List (V × PyData), bs.map (·.1) = vs ∧ bs.map (·.2) = ds ∧ ∀ b, b ∈ bs → Is K O H b.1 b.2
  | [], _, h => by cases h; exact ⟨[], rfl, rfl, fun b hb => nomatch hb⟩
  | d :: ds, _, h => by
    cases h with
    | cons h1 h2 =>
      obtain ⟨bs, e1, e2, hb⟩ := IsAll.zip h2
      refine ⟨(_, d) :: bs, by rw [List.map_cons, e1], by rw [List.map_cons, e2], fun b q => ?_⟩
      rcases List.mem_cons.mp q with z | z
      · rw [z]; exact h1
      · exact hb b z
theorem IsAll.sort {K : PySem.W.Frag} {O : Ad} {H : Hp} {bs : List (V × PyData)} (h : ∀ b, b ∈ bs → Is K O H b.1 b.2) : IsAll K O H ((bs.mergeSort (dataLe false (·.2))).map (·.1)) (sortD (bs.map (·.2))) := by
  have e : sortD (bs.map (·.2)) = (bs.mergeSort (dataLe false (·.2))).map (·.2) := by
    unfold sortD
    exact (List.map_mergeSort (r := dataLe false fun b : V × PyData => b.2) (s := dataLe false id) (f := fun b : V × PyData => b.2) fun a _ b _ => rfl).symm
  rw [e]
  exact IsAll.mem fun b hb => h b (List.mem_mergeSort.mp hb)
/-! ### sorted(xs), sorted(t) -/
section
variable {X : Cx} {a b : Expr} {δ δ1 δ2 : Dl} {ra rb : R} {ds : List PyData} {pos p' : Pos} {d1 d2 d : PyData}
theorem sortRs (hal : AllAlike ds) (hk : SortKind ds) (hu : ∀ d, d ∈ ds → X.A.units + 2 + d.depth < cLine) (t : Bool) : Rs1F X.K (rSortD X.K X.A.units) (cond t (.tuple ds) (.list ds)) (.l (sortD ds)) := fun O H x Q z h k => by
  have key : ∀ (p : Addr) (xs : List V), x = .ref p → (SqL X.K H p xs ∨ SqT X.K H p xs) → IsAll X.K O H xs ds → rSortD X.K X.A.units [x] H Q := fun p xs e hs hi => by
    obtain ⟨bs, rfl, rfl, hb⟩ := hi.zip
    refine ⟨p, bs, by rw [e], hs, fun b q => (hb b q).dp, hal, hk, fun b q => hu _ (List.mem_map.mpr ⟨b, q, rfl⟩), fun l hl => k l _ _ hl (Ex.new hl) upd_same (IsAll.sort hb)⟩
  cases t with
  | true =>
    obtain ⟨p, xs, e, h1, h2⟩ := Iw.tup h
    exact key p xs e (.inr h1.sq) h2
  | false =>
    obtain ⟨p, xs, e, h1, h2⟩ := Iw.lst h
    exact key p xs e (.inl (SqL.of h1)) h2
theorem df_sortL (ha : DE X a δ ra δ1) (hm : X.mg "sorted" = none) (hal : AllAlike ds) (hk : SortKind ds) (hu : ∀ d, d ∈ ds → X.A.units + 2 + d.depth < cLine) (ea : res δ1 ra = some (.list ds) := by rfl) (hg : Gl X "sorted" := by rfl) (he : starEach [a] X.env = (false, eval a X.env) :: starEach [] X.env := by rfl) :
    DF X (.Call (.Name "sorted" p') [a] [] pos) δ (.l (sortD ds)) δ1 := df_cB cr_sortD ha (sortRs hal hk hu false) hm (by decide +kernel) ea hg (by decide) (by decide) he
theorem df_sortT (ha : DE X a δ ra δ1) (hm : X.mg "sorted" = none) (hal : AllAlike ds) (hk : SortKind ds) (hu : ∀ d, d ∈ ds → X.A.units + 2 + d.depth < cLine) (ea : res δ1 ra = some (.tuple ds) := by rfl) (hg : Gl X "sorted" := by rfl) (he : starEach [a] X.env = (false, eval a X.env) :: starEach [] X.env := by rfl) :
    DF X (.Call (.Name "sorted" p') [a] [] pos) δ (.l (sortD ds)) δ1 := df_cB cr_sortD ha (sortRs hal hk hu true) hm (by decide +kernel) ea hg (by decide) (by decide) he
end
/-! ### < <= > >= of alike data -/
def rLtD (K : PySem.W.Frag) (f : PyData → PyData → Bool) (u : Nat) : R2 := fun x y H Q => ∃ d e, Dp K H x d ∧ Dp K H y e ∧ alike d e = true ∧ d ≠ .none ∧ u + min d.depth e.depth < cLine ∧ Q (.bl (f d e)) H
section
variable {X : Cx}
theorem or_ltD : OpR X (compareOp .Lt) (rLtD X.K (fun d e => dataLt d e) X.A.units) := by
  intro pins s σ H x y v u Q I rx ry ⟨d, e, hd, he, ha, hn, hu, q⟩
  obtain ⟨as, r1⟩ := Dp.reads I d x v hd rx
  obtain ⟨bs, r2⟩ := Dp.reads I e y u he ry
  exact PySem.W.lt_data r1 r2 ha hn hu ⟨.bl _, H, I, rfl, q⟩
theorem or_gtD : OpR X (compareOp .Gt) (rLtD X.K (fun d e => dataLt e d) X.A.units) := by
  intro pins s σ H x y v u Q I rx ry ⟨d, e, hd, he, ha, hn, hu, q⟩
  obtain ⟨as, r1⟩ := Dp.reads I d x v hd rx
  obtain ⟨bs, r2⟩ := Dp.reads I e y u he ry
  exact PySem.W.gt_data r1 r2 ha hn hu ⟨.bl _, H, I, rfl, q⟩
theorem or_leD : OpR X (compareOp .LtE) (rLtD X.K (fun d e => !dataLt e d) X.A.units) := by
  intro pins s σ H x y v u Q I rx ry ⟨d, e, hd, he, ha, hn, hu, q⟩
  obtain ⟨as, r1⟩ := Dp.reads I d x v hd rx
  obtain ⟨bs, r2⟩ := Dp.reads I e y u he ry
  exact PySem.W.le_data r1 r2 ha hn hu ⟨.bl _, H, I, rfl, q⟩
theorem or_geD : OpR X (compareOp .GtE) (rLtD X.K (fun d e => !dataLt d e) X.A.units) := by
  intro pins s σ H x y v u Q I rx ry ⟨d, e, hd, he, ha, hn, hu, q⟩
  obtain ⟨as, r1⟩ := Dp.reads I d x v hd rx
  obtain ⟨bs, r2⟩ := Dp.reads I e y u he ry
  exact PySem.W.ge_data r1 r2 ha hn hu ⟨.bl _, H, I, rfl, q⟩
variable {a b : Expr} {δ δ1 δ2 : Dl} {ra rb : R} {ds : List PyData} {pos p' : Pos} {d1 d2 d : PyData}
theorem rsLtD {f : PyData → PyData → Bool} (h : alike d1 d2 = true) (hn : d1 ≠ .none) (hu : X.A.units + min d1.depth d2.depth < cLine) : Rs2 X.K (rLtD X.K f X.A.units) d1 d2 (.bool (f d1 d2)) := fun O H x y Q z hx hy k =>
  ⟨d1, d2, hx.dp, hy.dp, h, hn, hu, k.here (.bl _)⟩
theorem de_ltD (ha : DE X a δ ra δ1) (hb : DE X b δ1 rb δ2) (h : alike d1 d2 = true) (hn : d1 ≠ .none) (hu : X.A.units + min d1.depth d2.depth < cLine) (ea : res δ2 ra = some d1 := by rfl) (eb : res δ2 rb = some d2 := by rfl) :
    DE X (.Compare a [.Lt] [b] pos) δ (.d (.bool (dataLt d1 d2))) δ2 := de_cmp or_ltD ha hb (rsLtD h hn hu) (nomark _) ea eb
theorem de_gtD (ha : DE X a δ ra δ1) (hb : DE X b δ1 rb δ2) (h : alike d1 d2 = true) (hn : d1 ≠ .none) (hu : X.A.units + min d1.depth d2.depth < cLine) (ea : res δ2 ra = some d1 := by rfl) (eb : res δ2 rb = some d2 := by rfl) :
    DE X (.Compare a [.Gt] [b] pos) δ (.d (.bool (dataLt d2 d1))) δ2 := de_cmp or_gtD ha hb (rsLtD (f := fun d e => dataLt e d) h hn hu) (nomark _) ea eb
theorem de_leD (ha : DE X a δ ra δ1) (hb : DE X b δ1 rb δ2) (h : alike d1 d2 = true) (hn : d1 ≠ .none) (hu : X.A.units + min d1.depth d2.depth < cLine) (ea : res δ2 ra = some d1 := by rfl) (eb : res δ2 rb = some d2 := by rfl) :
    DE X (.Compare a [.LtE] [b] pos) δ (.d (.bool (!dataLt d2 d1))) δ2 := de_cmp or_leD ha hb (rsLtD (f := fun d e => !dataLt e d) h hn hu) (nomark _) ea eb
theorem de_geD (ha : DE X a δ ra δ1) (hb : DE X b δ1 rb δ2) (h : alike d1 d2 = true) (hn : d1 ≠ .none) (hu : X.A.units + min d1.depth d2.depth < cLine) (ea : res δ2 ra = some d1 := by rfl) (eb : res δ2 rb = some d2 := by rfl) :
    DE X (.Compare a [.GtE] [b] pos) δ (.d (.bool (!dataLt d1 d2))) δ2 := de_cmp or_geD ha hb (rsLtD (f := fun d e => !dataLt d e) h hn hu) (nomark _) ea eb
end
end G
set_option Elab.async false
set_option linter.all false
set_option maxRecDepth 100000
set_option maxHeartbeats 4000000
/-! GM: dicts whose keys are tuples, nested: dict(pairs), in, d[k], d[k] = v. -/
namespace G
open PySem PySem.Spec L2
/-! ### keys in the heap -/
section
variable {X : Cx} {pins : List (Addr × Obj)} {σ : L2.St} {H : Hp} {s : Shared}
mutual
theorem nested_of (I : Inv X pins σ H s) : ∀ (d : PyData) (v : V) (u : Value) (k : NestedKey), Dp X.K H v d → nk d = some k → RelV v u → NestedIs s.heap k u
  | .none, _, _, _, h, e, r => by
    cases h; cases r
    simp only [nk] at e; cases e; exact .none
  | .bool b, _, _, _, h, e, r => by
    cases h; cases r
    simp only [nk] at e; cases e; exact .bool rfl
  | .int i, _, _, _, h, e, r => by
    cases h; obtain ⟨t, rfl⟩ := r
    simp only [nk] at e; cases e; exact .int i t
  | .str x, _, _, _, h, e, r => by
    cases h; obtain ⟨t, rfl⟩ := r
    simp only [nk] at e; cases e; exact .text x t
  | .list ds, _, _, _, h, e, r => by simp only [nk] at e; cases e
  | .dict ds, _, _, _, h, e, r => by simp only [nk] at e; cases e
  | .tuple ds, _, _, _, h, e, r => by
    simp only [nk] at e
    obtain ⟨ks, e1, rfl⟩ := Option.map_eq_some_iff.mp e
    cases h with
    | tup hs ha =>
      cases r
      obtain ⟨its, rv, ⟨o, ho, hc, n, hd⟩, _⟩ := I.tuple hs
      exact .tup ho hc hd (nestedAll_of I ds _ its ks ha e1 rv)
theorem nestedAll_of (I : Inv X pins σ H s) : ∀ (ds : List PyData) (vs : List V) (us : List Value) (ks : List NestedKey), DpAll X.K H vs ds → nkAll ds = some ks → Vals vs us → NestedAll s.heap ks us
  | [], _, _, _, h, e, r => by
    cases h; cases r
    simp only [nkAll] at e; cases e; exact .nil
  | d :: ds, _, _, _, h, e, r => by
    cases h with
    | cons h1 h2 =>
      cases r with
      | cons r1 r2 =>
        simp only [nkAll] at e
        cases e1 : nk d with
        | none => rw [e1] at e; cases e
        | some k =>
          cases e2 : nkAll ds with
          | none => rw [e1, e2] at e; cases e
          | some ks =>
            rw [e1, e2] at e
            cases e
            exact .cons (nested_of I d _ _ k h1 e1 r1) (nestedAll_of I ds _ _ ks h2 e2 r2)
end
def mT (e : Mn) : NestedKey × Addr × Value := (e.k, e.a, e.u)
theorem mp_is (I : Inv X pins σ H s) {O : Ad} : ∀ {es : List Mn} {kvs : List (PyData × PyData)}, MP X.K O H es kvs → ∀ x ∈ es.map mT, (nestedKind X.prog X.w).is s.heap x.1 x.2.1
  | _, _, .nil => fun x hx => nomatch hx
  | _, _, .cons (e := e) h1 h2 h3 h4 h5 t => fun x hx => by
    rcases List.mem_cons.mp hx with z | z
    · subst z
      exact ⟨nested_of I _ _ _ _ h3.dp h1 rfl, h2⟩
    · exact mp_is I t x z
theorem mp_dict (I : Inv X pins σ H s) {O : Ad} {p : Addr} {es : List Mn} {kvs : List (PyData × PyData)} (hp : H p = some (.ext (MRaw X.w p es))) (h : MP X.K O H es kvs) (hn : (es.map (·.k)).Nodup) : s.heap.DictOfH (nestedKind X.prog X.w) p (es.map mT) := by
  obtain ⟨⟨o, ds, ep, h1, h2, h3, h4⟩, _, _⟩ := (show ObjOk X.prog X.w H s.heap p (.ext (MRaw X.w p es)) from I.hok p _ hp)
  refine ⟨o, ds, ep, h1, h2, h3, ?_, mp_is I h, ?_⟩
  · rw [h4, List.map_map]
    rfl
  · rw [List.map_map]
    exact hn
theorem mraw_of {P : Program} {w : World} {h : Heap} {p : Addr} {es : List Mn} (x : h.DictOfH (nestedKind P w) p (es.map mT)) : MRaw w p es h := by
  obtain ⟨o, ds, ep, h1, h2, h3, h4, _⟩ := x
  refine ⟨o, ds, ep, h1, h2, h3, ?_⟩
  rw [h4, List.map_map]
  rfl
theorem mraw_ok {P : Program} {w : World} {H : Hp} {h : Heap} {p : Addr} {es : List Mn} (x : h.DictOfH (nestedKind P w) p (es.map mT)) : ObjOk P w H h p (.ext (MRaw w p es)) :=
  ⟨mraw_of x, let ⟨o, _, _, h1, _⟩ := x; ⟨o, h1⟩, fun h1 h2 ⟨o, ds, ep, g1, g2⟩ k => ⟨o, ds, ep, k o g1, g2⟩⟩
/-! ### putting -/
def putM (es : List Mn) (e : Mn) : List Mn := if (es.any fun y => decide (y.k = e.k)) = true then es.map (fun y => if y.k = e.k then ⟨y.k, y.a, e.x, e.u⟩ else y) else es ++ [e]
def putD (kvs : List (PyData × PyData)) (d v : PyData) : List (PyData × PyData) := if (kvs.any fun y => decide (nk y.1 = nk d)) = true then kvs.map (fun y => if nk y.1 = nk d then (y.1, v) else y) else kvs ++ [(d, v)]
def mergeD (kvs more : List (PyData × PyData)) : List (PyData × PyData) := more.foldl (fun a p => putD a p.1 p.2) kvs
theorem atKey_any (es : List Mn) (k : NestedKey) : (atKey (es.map mT) k).isSome = es.any fun y => decide (y.k = k) := by
  induction es with
  | nil => rfl
  | cons e es ih =>
    by_cases h : e.k = k
    · simp [atKey, mT, h]
    · simpa [atKey, mT, h] using ih
theorem putM_T (es : List Mn) (e : Mn) : (putM es e).map mT = storedH (es.map mT) e.k e.a e.u := by
  unfold putM storedH
  rw [atKey_any]
  split
  · rw [List.map_map, List.map_map]
    refine List.map_congr_left fun y _ => ?_
    by_cases h : y.k = e.k <;> simp [putAt, mT, h]
  · simp [mT]
theorem mp_any {K : PySem.W.Frag} {O : Ad} {H : Hp} {d : PyData} {k : NestedKey} (hk : nk d = some k) : ∀ {es : List Mn} {kvs : List (PyData × PyData)}, MP K O H es kvs → (es.any fun y => decide (y.k = k)) = kvs.any fun y => decide (nk y.1 = nk d)
  | _, _, .nil => rfl
  | _, _, .cons h1 h2 h3 h4 h5 t => by
    rw [List.any_cons, List.any_cons, mp_any hk t, h1, hk]
    simp
theorem mp_put {K : PySem.W.Frag} {O : Ad} {H : Hp} {d v : PyData} {e : Mn} {es : List Mn} {kvs : List (PyData × PyData)} (h : MP K O H es kvs) (h1 : nk d = some e.k) (h2 : e.k.depth ≤ 8) (h3 : Is K O H (.ref e.a) d) (h4 : Is K O H e.x v) (h5 : RelV e.x e.u) : MP K O H (putM es e) (putD kvs d v) := by
  have old : ∀ {es : List Mn} {kvs : List (PyData × PyData)}, MP K O H es kvs → MP K O H (es.map fun y => if y.k = e.k then ⟨y.k, y.a, e.x, e.u⟩ else y) (kvs.map fun y => if nk y.1 = nk d then (y.1, v) else y) := by
    intro es kvs h
    induction h with
    | nil => exact .nil
    | cons g1 g2 g3 g4 g5 t ih =>
      rename_i f d' v' es' kvs'
      rw [List.map_cons, List.map_cons]
      by_cases q : f.k = e.k
      · rw [if_pos q, if_pos (by rw [g1, h1, q])]
        exact .cons g1 g2 g3 h4 h5 ih
      · rw [if_neg q, if_neg (by rw [g1, h1]; exact fun z => q (Option.some.inj z))]
        exact .cons g1 g2 g3 g4 g5 ih
  have new : ∀ {es : List Mn} {kvs : List (PyData × PyData)}, MP K O H es kvs → MP K O H (es ++ [e]) (kvs ++ [(d, v)]) := by
    intro es kvs h
    induction h with
    | nil => exact .cons h1 h2 h3 h4 h5 .nil
    | cons g1 g2 g3 g4 g5 t ih => exact .cons g1 g2 g3 g4 g5 ih
  unfold putM putD
  rw [mp_any h1 h]
  split
  · exact old h
  · exact new h
theorem putM_nodup {es : List Mn} {e : Mn} (h : (es.map (·.k)).Nodup) : ((putM es e).map (·.k)).Nodup := by
  unfold putM
  split
  · rw [List.map_map]
    have : (es.map ((fun y : Mn => y.k) ∘ fun y => if y.k = e.k then ⟨y.k, y.a, e.x, e.u⟩ else y)) = es.map (·.k) := by
      refine List.map_congr_left fun y _ => ?_
      by_cases q : y.k = e.k <;> simp [q]
    rw [this]
    exact h
  · rename_i q
    rw [List.map_append, List.nodup_append]
    refine ⟨h, by simp, fun x hx y hy z => q ?_⟩
    obtain ⟨f, hf, rfl⟩ := List.mem_map.mp hx
    simp at hy
    subst hy
    exact List.any_eq_true.mpr ⟨f, hf, by simpa using z⟩
theorem putM_len (es : List Mn) (e : Mn) : (putM es e).length ≤ es.length + 1 := by
  unfold putM
  split <;> simp
def putAllM (es ps : List Mn) : List Mn := ps.foldl putM es
theorem putAllM_T (ps : List Mn) : ∀ es : List Mn, (putAllM es ps).map mT = storedAllH (es.map mT) (ps.map mT) := by
  induction ps with
  | nil => exact fun es => rfl
  | cons p ps ih =>
    intro es
    show (putAllM (putM es p) ps).map mT = storedAllH (storedH (es.map mT) p.k p.a p.u) (ps.map mT)
    rw [ih, putM_T]
theorem putAllM_nodup (ps : List Mn) : ∀ {es : List Mn}, (es.map (·.k)).Nodup → ((putAllM es ps).map (·.k)).Nodup := by
  induction ps with
  | nil => exact fun h => h
  | cons p ps ih => exact fun h => ih (putM_nodup h)
theorem putAllM_len (ps : List Mn) : ∀ es : List Mn, (putAllM es ps).length ≤ es.length + ps.length := by
  induction ps with
  | nil => exact fun es => Nat.le_refl _
  | cons p ps ih =>
    intro es
    have := ih (putM es p)
    have := putM_len es p
    show (putAllM (putM es p) ps).length ≤ _
    rw [List.length_cons]
    omega
theorem mp_putAll {K : PySem.W.Frag} {O : Ad} {H : Hp} {ps : List Mn} {more : List (PyData × PyData)} (h : MP K O H ps more) : ∀ {es : List Mn} {kvs : List (PyData × PyData)}, MP K O H es kvs → MP K O H (putAllM es ps) (mergeD kvs more) := by
  induction h with
  | nil => exact fun h => h
  | cons g1 g2 g3 g4 g5 t ih => exact fun h => ih (mp_put h g1 g2 g3 g4 g5)
end
/-! ### dict(pairs) -/
/-- a key: a tuple, not too deep -/
def okKey (d : PyData) : Bool := isTup d && match nk d with
  | some k => decide (k.depth ≤ 8)
  | none => false
theorem okKey_some {d : PyData} (h : okKey d = true) : ∃ k ds, nk d = some k ∧ k.depth ≤ 8 ∧ d = .tuple ds := by
  unfold okKey at h
  cases d with
  | tuple ds =>
    cases e : nk (.tuple ds) with
    | none => rw [e] at h; cases h
    | some k =>
      rw [e] at h
      exact ⟨k, ds, rfl, by simpa [isTup] using h, rfl⟩
  | _ => cases h
def pairsD (kvs : List (PyData × PyData)) : List PyData := kvs.map fun p => .tuple [p.1, p.2]
/-- r = the pairs' tuples -/
def rDictP (K : PySem.W.Frag) (w : World) : List V → Hp → VK → Prop := fun xs H Q => ∃ (p : Addr) (ys : List (Addr × Addr × V)) (kvs : List (PyData × PyData)) (O : Ad), xs = [.ref p] ∧ SqL K H p (ys.map fun y => .ref y.1) ∧
  Paired (fun (y : Addr × Addr × V) (kv : PyData × PyData) => SqT K H y.1 [.ref y.2.1, y.2.2] ∧ Is K O H (.ref y.2.1) kv.1 ∧ Is K O H y.2.2 kv.2 ∧ okKey kv.1 = true) ys kvs ∧
  ∀ q es, H q = none → MP K O H es (mergeD [] kvs) → (es.map (·.k)).Nodup → es.length ≤ sizeLine → (q == sysModules) = false → Q (.ref q) (upd H q (.ext (MRaw w q es)))
theorem pairs_mn {X : Cx} {pins : List (Addr × Obj)} {σ : L2.St} {H : Hp} {s : Shared} {O : Ad} (I : Inv X pins σ H s) : ∀ {ys : List (Addr × Addr × V)} {kvs : List (PyData × PyData)},
    Paired (fun (y : Addr × Addr × V) (kv : PyData × PyData) => SqT X.K H y.1 [.ref y.2.1, y.2.2] ∧ Is X.K O H (.ref y.2.1) kv.1 ∧ Is X.K O H y.2.2 kv.2 ∧ okKey kv.1 = true) ys kvs →
    ∃ ps : List Mn, MP X.K O H ps kvs ∧ ps.length = ys.length ∧ ∀ (j : Nat) (e : Mn), ps[j]? = some e → ∃ y, ys[j]? = some y ∧ PyProof.Rows.IsTup s.heap y.1 #[.ref e.a, e.u]
  | _, _, .nil => ⟨[], .nil, rfl, fun j q e => by simp at e⟩
  | _, _, .cons (a := y) (b := kv) h t => by
    obtain ⟨ps, m, hl, hp⟩ := pairs_mn I t
    obtain ⟨h1, h2, h3, h4⟩ := h
    obtain ⟨its, rv, ht, _⟩ := I.tuple h1
    obtain ⟨u1, u2, ei, r1, r2⟩ := vals2 rv
    subst ei
    cases r1
    obtain ⟨k, ds, k1, k2, _⟩ := okKey_some h4
    refine ⟨⟨k, y.2.1, y.2.2, u2⟩ :: ps, .cons k1 k2 h2 h3 r2 m, by rw [List.length_cons, List.length_cons, hl], fun j e q => ?_⟩
    cases j with
    | zero =>
      cases q
      exact ⟨y, rfl, ht⟩
    | succ j =>
      obtain ⟨y', e1, e2⟩ := hp j e (by simpa using q)
      exact ⟨y', by simpa using e1, e2⟩
theorem cr_dictP {X : Cx} (hcalm : X.calm = true) (hu : X.A.units + 10 < cLine) : CallR X (.type "dict") (rDictP X.K X.w) := by
  intro pins s σ H xs us Q I r h
  obtain ⟨p, ys, kvs, O, rfl, hq, hp, q⟩ := h
  rw [Vals.ref1 r]
  obtain ⟨its, rv, pl, hz⟩ := I.list hq
  obtain ⟨ps, mp, hl, hpr⟩ := pairs_mn I hp
  obtain ⟨o, n, ho, hc, hd, hdat⟩ := pl
  rw [List.length_map] at hz
  have hits : ∀ (j : Nat) (y : Addr × Addr × V), ys[j]? = some y → its.toArray[j]? = some (Value.ref y.1) := fun j y e => by
    obtain ⟨u, e1, e2⟩ := rv.get (i := j) (x := V.ref y.1) (by rw [List.getElem?_map, e]; rfl)
    cases e2
    simpa using e1
  have hlen : its.length = ys.length := by
    have := rv.length
    rw [List.length_map] at this
    exact this.symm
  let Ts : Nat → Addr := fun j => ((ys[j]?).map (·.1)).getD 0
  have hPI : PairItems s.heap its.toArray Ts (ps.map fun e => (.ref e.a, e.u)) := by
    refine ⟨by simp [hlen, hl], fun j k v e => ?_⟩
    rw [List.getElem?_map] at e
    cases q' : ps[j]? with
    | none => rw [q'] at e; cases e
    | some e' =>
      rw [q'] at e
      cases e
      obtain ⟨y, e1, o', g1, g2, n', g3⟩ := hpr j e' q'
      have : Ts j = y.1 := by show ((ys[j]?).map (·.1)).getD 0 = _; rw [e1]; rfl
      rw [this]
      exact ⟨hits j y e1, .inl ⟨o', g1, g2, n', g3⟩⟩
  refine call_dict_pairsH (knd := nestedKind X.prog X.w) (ps := ps.map mT) (PairArg.list p its.toArray Ts (ps.map fun e => (.ref e.a, e.u))) (I.ok.hd hcalm) (by show X.A.units + 2 + 8 < cLine; omega) ⟨⟨o, n, ho, hc, hd, hdat⟩, hPI⟩ ⟨by simp, fun i key v e => ?_⟩ (fun h' hk x hx => ?_) (by rw [List.length_map, hl]; exact hz) fun h' tk hd' hk => ?_
  · have e : (ps.map fun e => (Value.ref e.a, e.u))[i]? = some (key, v) := e
    rw [List.getElem?_map] at e
    cases q' : ps[i]? with
    | none => rw [q'] at e; cases e
    | some e' =>
      rw [q'] at e
      cases e
      exact ⟨e'.k, e'.a, by rw [List.getElem?_map, q']; rfl, rfl⟩
  · have x1 := mp_is I mp x hx
    refine nestedKind_stays.stays (fun b ob vs n hb hc => hk b ob ?_ (by simp) hb) x1
    rintro rfl
    have := Heap.lt_size hb
    exact Nat.lt_irrefl _ this
  · have hm : (s.heap.objs.size == sysModules) = false := beq_eq_false_iff_ne.mpr (Nat.ne_of_gt I.big)
    have k' : ∀ b o, s.heap.get? b = some o → h'.get? b = some o := fun b o e => hk b o (by simp) e
    rw [← show ([] : List Mn).map mT = [] from rfl, ← putAllM_T] at hd'
    have hnone : H s.heap.objs.size = none := I.hok.fresh (Nat.le_refl _)
    refine ⟨.ref s.heap.objs.size, upd H s.heap.objs.size (.ext (MRaw X.w s.heap.objs.size (putAllM [] ps))), I.laid (t' := tk) k' (Nat.le_refl _) (mraw_ok hd'), rfl, q _ _ hnone ?_ (putAllM_nodup ps (by simp)) ?_ hm⟩
    · exact mp_putAll mp .nil
    · refine Nat.le_trans (putAllM_len ps []) ?_
      rw [List.length_nil, Nat.zero_add, hl]
      exact hz
section
variable {X : Cx} {a b : Expr} {δ δ1 δ2 : Dl} {ra rb : R} {ds : List PyData} {pos p' : Pos} {d1 d2 d v : PyData} {kvs : List (PyData × PyData)}
theorem is_pairs {K : PySem.W.Frag} {O : Ad} {H : Hp} : ∀ {kvs : List (PyData × PyData)} {xs : List V}, (∀ p ∈ kvs, okKey p.1 = true) → IsAll K O H xs (pairsD kvs) → ∃ ys : List (Addr × Addr × V), xs = ys.map (fun y => .ref y.1) ∧
    Paired (fun (y : Addr × Addr × V) (kv : PyData × PyData) => SqT K H y.1 [.ref y.2.1, y.2.2] ∧ Is K O H (.ref y.2.1) kv.1 ∧ Is K O H y.2.2 kv.2 ∧ okKey kv.1 = true) ys kvs
  | [], _, _, h => by cases h; exact ⟨[], rfl, .nil⟩
  | kv :: kvs, _, hk, h => by
    cases h with
    | cons h1 h2 =>
      obtain ⟨ys, rfl, hp⟩ := is_pairs (fun p hp => hk p (List.mem_cons_of_mem _ hp)) h2
      obtain ⟨a, xs, rfl, g1, g2⟩ := (Iw.is h1).tup
      cases g2 with
      | cons b1 b2 =>
        cases b2 with
        | cons c1 c2 =>
          cases c2
          have hk1 := hk kv (List.mem_cons_self ..)
          obtain ⟨k, ds, _, _, e⟩ := okKey_some hk1
          rw [e] at b1
          obtain ⟨a2, xs2, rfl, g3, g4⟩ := (Iw.is b1).tup
          exact ⟨(a, a2, _) :: ys, rfl, .cons ⟨g1.sq, by rw [e]; exact b1, c1, hk1⟩ hp⟩
theorem df_dictP (hc : X.calm = true) (hu : X.A.units + 10 < cLine) (ha : DE X a δ ra δ1) (hm : X.mg "dict" = none) (ea : res δ1 ra = some (.list (pairsD kvs))) (hk : ∀ p ∈ kvs, okKey p.1 = true) (hg : Gl X "dict" := by rfl) (he : starEach [a] X.env = (false, eval a X.env) :: starEach [] X.env := by rfl) :
    DF X (.Call (.Name "dict" p') [a] [] pos) δ (.m X.w (mergeD [] kvs)) δ1 :=
  df_cT (cr_dictP hc hu) ha (fun O H x Q z h k => by
    obtain ⟨p, xs, rfl, h1, h2⟩ := h.lst
    obtain ⟨ys, rfl, hp⟩ := is_pairs hk h2
    exact ⟨p, ys, kvs, O, rfl, SqL.of h1, hp, fun q es hq mp hn hl hs => k q _ _ hq (Ex.new hq) upd_same ⟨es, rfl, mp, hn, hl, hs⟩⟩) hm (by decide +kernel) ea hg (by decide) (by decide) he
/-! ### k in d, k not in d, d[k] -/
/-- the value at a key -/
def getD (kvs : List (PyData × PyData)) (d : PyData) : Option PyData := (kvs.find? fun y => decide (nk y.1 = nk d)).map (·.2)
def hasD (kvs : List (PyData × PyData)) (d : PyData) : Bool := kvs.any fun y => decide (nk y.1 = nk d)
def rInM (K : PySem.W.Frag) (w : World) (f : Bool → Bool) : R2 := fun x y H Q => ∃ (q : Addr) (es : List Mn) (kvs : List (PyData × PyData)) (d : PyData) (O : Ad), y = .ref q ∧ H q = some (.ext (MRaw w q es)) ∧ MP K O H es kvs ∧ (es.map (·.k)).Nodup ∧ (q == sysModules) = false ∧ Is K O H x d ∧ okKey d = true ∧ Q (.bl (f (hasD kvs d))) H
theorem key_here {X : Cx} {pins : List (Addr × Obj)} {σ : L2.St} {H : Hp} {s : Shared} (I : Inv X pins σ H s) {O : Ad} {x : V} {v : Value} {d : PyData} (h : Is X.K O H x d) (hk : okKey d = true) (r : RelV x v) : ∃ a k, v = .ref a ∧ nk d = some k ∧ (nestedKind X.prog X.w).is s.heap k a := by
  obtain ⟨k, ds, k1, k2, rfl⟩ := okKey_some hk
  obtain ⟨a, xs, rfl, _, _⟩ := (Iw.is h).tup
  cases r
  exact ⟨a, k, rfl, k1, nested_of I _ _ _ _ h.dp k1 rfl, k2⟩
theorem or_inM {X : Cx} (hu : X.A.units + 9 < cLine) : OpR X (compareOp .In) (rInM X.K X.w fun b => b) := by
  intro pins s σ H x y v u Q I rx ry ⟨q, es, kvs, d, O, e, hq, mp, hn, hs, hx, hk, k⟩
  subst e
  cases ry
  obtain ⟨a, kk, rfl, k1, k2⟩ := key_here I hx hk rx
  refine wpAny_in_heap (knd := nestedKind X.prog X.w) (by show X.A.units + 1 + 8 < cLine; omega) k2 hs (mp_dict I hq mp hn) ?_
  rw [atKey_any, mp_any k1 mp]
  exact ⟨.bl _, H, I.tok _, rfl, k⟩
theorem or_notInM {X : Cx} (hu : X.A.units + 9 < cLine) : OpR X (compareOp .NotIn) (rInM X.K X.w fun b => !b) := by
  intro pins s σ H x y v u Q I rx ry ⟨q, es, kvs, d, O, e, hq, mp, hn, hs, hx, hk, k⟩
  subst e
  cases ry
  obtain ⟨a, kk, rfl, k1, k2⟩ := key_here I hx hk rx
  show wpAny _ _ (do return Value.bool (!(← contains (Value.ref q) (Value.ref a)))) _ _ s
  refine wpAny_bind (wpAny_contains_heap (knd := nestedKind X.prog X.w) (by show X.A.units + 1 + 8 < cLine; omega) k2 hs (mp_dict I hq mp hn) (wpAny_pure ?_))
  rw [atKey_any, mp_any k1 mp]
  exact ⟨.bl _, H, I.tok _, rfl, k⟩
/-- what stands behind a dict's slot -/
theorem Sta.dictAt {K : PySem.W.Frag} {β : Bs} {O W : Ad} {H : Hp} {σ : L2.St} {i : Nat} {kb : Bool} {w : World} (E : Sta K β O W H σ δ) (hq : δ[i]? = some (some (.o kb (.m w kvs)))) :
    ∃ p es, σ[i]? = some (some (.ref p)) ∧ W p ∧ H p = some (.ext (MRaw w p es)) ∧ MP K O H es kvs ∧ (es.map (·.k)).Nodup ∧ es.length ≤ sizeLine ∧ (p == sysModules) = false := by
  obtain ⟨p, o, h1, h2, h3, h4, h5⟩ := E.own i _ _ hq
  obtain ⟨es, rfl, h6, h7, h8, h9⟩ := h4.ml
  exact ⟨p, es, h1, h2, h3, h6, h7, h8, h9⟩
theorem de_inM {i : Nat} {kb : Bool} (hu : X.A.units + 9 < cLine) (hq : δ2[i]? = some (some (.o kb (.m X.w kvs)))) (ha : DE X a δ (.d d) δ1) (hb : DE X b δ1 (.s i) δ2) (hk : okKey d = true) (hm : behindInMarks .In b = false := by rfl) :
    DE X (.Compare a [.In] [b] pos) δ (.d (.bool (hasD kvs d))) δ2 :=
  PE.szd (pe_cmpR (or_inM hu) ha hb hm) fun σ H Q z ⟨β, O, W, E, k⟩ => ⟨β, O, W, E, fun x H1 z1 E1 f1 h1 => ⟨β, O, W, E1, fun y H2 z2 E2 f2 h2 => by
    obtain ⟨p, es, g1, g2, g3, g4, g5, g6, g7⟩ := E2.dictAt hq
    have e : σ[i]? = some (some y) := h2
    rw [g1] at e
    cases e
    exact ⟨p, es, kvs, d, O, rfl, g3, g4, g5, g7, h1.fr (E1.up f2), hk, fun z3 => k _ H2 z3 E2 (f1.tr f2) (.bl _)⟩⟩⟩
theorem de_notInM {i : Nat} {kb : Bool} (hu : X.A.units + 9 < cLine) (hq : δ2[i]? = some (some (.o kb (.m X.w kvs)))) (ha : DE X a δ (.d d) δ1) (hb : DE X b δ1 (.s i) δ2) (hk : okKey d = true) (hm : behindInMarks .NotIn b = false := by rfl) :
    DE X (.Compare a [.NotIn] [b] pos) δ (.d (.bool (!hasD kvs d))) δ2 :=
  PE.szd (pe_cmpR (or_notInM hu) ha hb hm) fun σ H Q z ⟨β, O, W, E, k⟩ => ⟨β, O, W, E, fun x H1 z1 E1 f1 h1 => ⟨β, O, W, E1, fun y H2 z2 E2 f2 h2 => by
    obtain ⟨p, es, g1, g2, g3, g4, g5, g6, g7⟩ := E2.dictAt hq
    have e : σ[i]? = some (some y) := h2
    rw [g1] at e
    cases e
    exact ⟨p, es, kvs, d, O, rfl, g3, g4, g5, g7, h1.fr (E1.up f2), hk, fun z3 => k _ H2 z3 E2 (f1.tr f2) (.bl _)⟩⟩⟩
end
end G
set_option Elab.async false
set_option linter.all false
set_option maxRecDepth 100000
set_option maxHeartbeats 4000000
/-! GD: the typed layer: values of Lean types as data (Datum.toD), and the rules over them. -/
namespace G
open PySem PySem.Spec L2
open PySem.W (Datum DatumOrd Tup alike alikeAll dataLt AllAlike dataLe Sortable)
abbrev toD {α : Type} [DecidableEq α] [Datum α] (a : α) : PyData := Datum.toD a
abbrev TE {α : Type} [DecidableEq α] [Datum α] (X : Cx) (e : Expr) (δ : Dl) (a : α) (δ' : Dl) : Prop := DE X e δ (.d (toD a)) δ'
abbrev TF {α : Type} [DecidableEq α] [Datum α] (X : Cx) (e : Expr) (δ : Dl) (a : List α) (δ' : Dl) : Prop := DF X e δ (.l (a.map toD)) δ'
abbrev TI {α : Type} [DecidableEq α] [Datum α] (X : Cx) (tg e : Expr) (δ : Dl) (a : List α) (δ' : Dl) : Prop := DI X tg e δ (a.map toD) δ'
abbrev sD {α : Type} [DecidableEq α] [Datum α] (a : α) : Option S := some (.d (toD a))
abbrev sL {α : Type} [DecidableEq α] [Datum α] (a : List α) : Option S := some (.o false (.l (a.map toD)))
/-! ### == != in of plain data -/
def rEqP (K : PySem.W.Frag) (f : Bool → Bool) (u : Nat) : R2 := fun x y H Q => ∃ d e, Dp K H x d ∧ Dp K H y e ∧ d.plain = true ∧ e.plain = true ∧ u + min d.depth e.depth < cLine ∧ Q (.bl (f (PyData.eqv d e))) H
def rInP (K : PySem.W.Frag) (t : Bool) (f : Bool → Bool) (u : Nat) : R2 := fun x y H Q => ∃ d xs, Dp K H x d ∧ Dp K H y (cond t (.tuple xs) (.list xs)) ∧ d.plain = true ∧ PyData.plainAll xs = true ∧ u + 1 + min (PyData.depthAll xs) d.depth < cLine ∧ Q (.bl (f (xs.any fun y => PyData.eqv y d))) H
section
variable {X : Cx}
theorem or_eqP : OpR X (compareOp .Eq) (rEqP X.K (fun b => b) X.A.units) := by
  intro pins s σ H x y v u Q I rx ry ⟨d, e, hd, he, h1, h2, hu, q⟩
  obtain ⟨as, r1⟩ := Dp.reads I d x v hd rx
  obtain ⟨bs, r2⟩ := Dp.reads I e y u he ry
  exact PySem.SeqAt.eq_plain r1 r2 h1 h2 hu ⟨.bl _, H, I, rfl, q⟩
theorem or_neP : OpR X (compareOp .NotEq) (rEqP X.K (fun b => !b) X.A.units) := by
  intro pins s σ H x y v u Q I rx ry ⟨d, e, hd, he, h1, h2, hu, q⟩
  obtain ⟨as, r1⟩ := Dp.reads I d x v hd rx
  obtain ⟨bs, r2⟩ := Dp.reads I e y u he ry
  exact PySem.SeqAt.ne_plain r1 r2 h1 h2 hu ⟨.bl _, H, I, rfl, q⟩
theorem or_inP (t : Bool) : OpR X (compareOp .In) (rInP X.K t (fun b => b) X.A.units) := by
  intro pins s σ H x y v u Q I rx ry ⟨d, xs, hd, he, h1, h2, hu, q⟩
  obtain ⟨as, r1⟩ := Dp.reads I d x v hd rx
  cases t with
  | true =>
    obtain ⟨bs, r2⟩ := Dp.reads I _ y u he ry
    exact PySem.SeqAt.in_tuple_data r2 r1 h2 h1 hu ⟨.bl _, H, I, rfl, q⟩
  | false =>
    obtain ⟨bs, r2⟩ := Dp.reads I _ y u he ry
    exact PySem.SeqAt.in_list_data r2 r1 h2 h1 hu ⟨.bl _, H, I, rfl, q⟩
theorem or_notInP (t : Bool) : OpR X (compareOp .NotIn) (rInP X.K t (fun b => !b) X.A.units) := by
  intro pins s σ H x y v u Q I rx ry ⟨d, xs, hd, he, h1, h2, hu, q⟩
  obtain ⟨as, r1⟩ := Dp.reads I d x v hd rx
  cases t with
  | true =>
    obtain ⟨bs, r2⟩ := Dp.reads I _ y u he ry
    exact PySem.SeqAt.notIn_tuple_data r2 r1 h2 h1 hu ⟨.bl _, H, I, rfl, q⟩
  | false =>
    obtain ⟨bs, r2⟩ := Dp.reads I _ y u he ry
    exact PySem.SeqAt.notIn_list_data r2 r1 h2 h1 hu ⟨.bl _, H, I, rfl, q⟩
end
theorem bool_prop {p : Prop} {b : Bool} [Decidable p] (h : b = true ↔ p) : b = decide p := by
  rw [Bool.eq_iff_iff, h, decide_eq_true_eq]
section
variable {α β : Type} [DecidableEq α] [Datum α] [DecidableEq β] [Datum β]
theorem any_toD (xs : List α) (x : α) : ((xs.map toD).any fun y => PyData.eqv y (toD x)) = decide (x ∈ xs) := PySem.W.any_datum xs x
theorem toD_tup (xs : List α) : toD (Tup.mk xs) = .tuple (xs.map toD) := rfl
theorem toD_tup' (xs : Tup α) : toD xs = .tuple (xs.items.map toD) := rfl
theorem toD_list (xs : List α) : toD xs = .list (xs.map toD) := rfl
theorem toD_pair (x : α) (y : β) : toD (x, y) = .tuple [toD x, toD y] := rfl
variable {X : Cx} {e a b c : Expr} {es rest : List Expr} {δ δ1 δ2 δ3 : Dl} {ra rb : R} {pos p' : Pos} {x y : α} {xs ys : List α}
theorem te_eqv {v : α} (h : TE X e δ x δ1) (q : x = v) : TE X e δ v δ1 := by cases q; exact h
theorem tf_eqv {v : List α} (h : TF X e δ xs δ1) (q : xs = v) : TF X e δ v δ1 := by cases q; exact h
theorem te_var (i : Nat) {x : α} {nm : Str} (hq : δ[i]? = some (sD x) := by rfl) (hN : X.N[i]? = some nm := by rfl) (hv : Vis X.env.scope nm := by first | exact Or.inl rfl | exact Or.inr (Or.inl rfl) | exact Or.inr (Or.inr rfl)) (hd : (nm == ("__debug__" : Str)) = false := by decide)
    (hcd : (nm == ("__classdict__" : Str)) = false := by decide) : TE X (.Name nm pos) δ x δ := de_var i hq hN hv hd hcd
theorem te_int {i : Int} {j} : TE X (.Constant (.int i) j pos) δ i δ := de_int
theorem te_bool {i : Bool} {j} : TE X (.Constant (.bool i) j pos) δ i δ := de_bl
theorem te_eq (hu : X.A.units + 70 < cLine) (ha : TE X a δ x δ1) (hb : TE X b δ1 y δ2) (hd : Datum.depth α ≤ 60 := by decide) : TE X (.Compare a [.Eq] [b] pos) δ (decide (x = y)) δ2 := by
  have k := de_cmp (X := X) (pos := pos) or_eqP ha hb (d := .bool (PyData.eqv (toD x) (toD y))) (fun O H u v Q z hx hy k => ⟨toD x, toD y, hx.dp, hy.dp, Datum.plain x, Datum.plain y, by have := Datum.depth_le x; show _ + min (Datum.toD x).depth _ < _; omega, k.here (.bl _)⟩) (nomark _)
  rw [show PyData.eqv (toD x) (toD y) = decide (x = y) from Datum.eqv x y] at k
  exact k
theorem te_ne (hu : X.A.units + 70 < cLine) (ha : TE X a δ x δ1) (hb : TE X b δ1 y δ2) (hd : Datum.depth α ≤ 60 := by decide) : TE X (.Compare a [.NotEq] [b] pos) δ (decide (x ≠ y)) δ2 := by
  have k := de_cmp (X := X) (pos := pos) or_neP ha hb (d := .bool (!PyData.eqv (toD x) (toD y))) (fun O H u v Q z hx hy k => ⟨toD x, toD y, hx.dp, hy.dp, Datum.plain x, Datum.plain y, by have := Datum.depth_le x; show _ + min (Datum.toD x).depth _ < _; omega, k.here (.bl _)⟩) (nomark _)
  rw [show PyData.eqv (toD x) (toD y) = decide (x = y) from Datum.eqv x y, ← decide_not] at k
  exact k
theorem in_room (t : Bool) (hu : X.A.units + 70 < cLine) (hd : Datum.depth α ≤ 60) (x : α) (xs : List α) : X.A.units + 1 + min (PyData.depthAll (xs.map toD)) (toD x).depth < cLine := by
  have := Datum.depth_le x
  show X.A.units + 1 + min (PyData.depthAll (xs.map toD)) (Datum.toD x).depth < cLine
  omega
theorem te_inT {t : Tup α} (hu : X.A.units + 70 < cLine) (ha : TE X a δ x δ1) (hb : TE X b δ1 t δ2) (hd : Datum.depth α ≤ 60 := by decide) (hm : behindInMarks .In b = false := by rfl) : TE X (.Compare a [.In] [b] pos) δ (decide (x ∈ t.items)) δ2 := by
  have k := de_cmp (X := X) (pos := pos) (or_inP true) ha hb (d := .bool ((t.items.map toD).any fun y => PyData.eqv y (toD x))) (fun O H u v Q z hx hy k => ⟨toD x, t.items.map toD, hx.dp, hy.dp, Datum.plain x, PySem.W.plainAll_map _, in_room true hu hd x _, k.here (.bl _)⟩) hm
  rw [any_toD] at k
  exact k
theorem te_notInT {t : Tup α} (hu : X.A.units + 70 < cLine) (ha : TE X a δ x δ1) (hb : TE X b δ1 t δ2) (hd : Datum.depth α ≤ 60 := by decide) (hm : behindInMarks .NotIn b = false := by rfl) : TE X (.Compare a [.NotIn] [b] pos) δ (decide (x ∉ t.items)) δ2 := by
  have k := de_cmp (X := X) (pos := pos) (or_notInP true) ha hb (d := .bool (!(t.items.map toD).any fun y => PyData.eqv y (toD x))) (fun O H u v Q z hx hy k => ⟨toD x, t.items.map toD, hx.dp, hy.dp, Datum.plain x, PySem.W.plainAll_map _, in_room true hu hd x _, k.here (.bl _)⟩) hm
  rw [any_toD, ← decide_not] at k
  exact k
theorem te_inL (hu : X.A.units + 70 < cLine) (ha : TE X a δ x δ1) (hb : TE X b δ1 xs δ2) (hd : Datum.depth α ≤ 60 := by decide) (hm : behindInMarks .In b = false := by rfl) : TE X (.Compare a [.In] [b] pos) δ (decide (x ∈ xs)) δ2 := by
  have k := de_cmp (X := X) (pos := pos) (or_inP false) ha hb (d := .bool ((xs.map toD).any fun y => PyData.eqv y (toD x))) (fun O H u v Q z hx hy k => ⟨toD x, xs.map toD, hx.dp, hy.dp, Datum.plain x, PySem.W.plainAll_map _, in_room true hu hd x _, k.here (.bl _)⟩) hm
  rw [any_toD] at k
  exact k
theorem te_notInL (hu : X.A.units + 70 < cLine) (ha : TE X a δ x δ1) (hb : TE X b δ1 xs δ2) (hd : Datum.depth α ≤ 60 := by decide) (hm : behindInMarks .NotIn b = false := by rfl) : TE X (.Compare a [.NotIn] [b] pos) δ (decide (x ∉ xs)) δ2 := by
  have k := de_cmp (X := X) (pos := pos) (or_notInP false) ha hb (d := .bool (!(xs.map toD).any fun y => PyData.eqv y (toD x))) (fun O H u v Q z hx hy k => ⟨toD x, xs.map toD, hx.dp, hy.dp, Datum.plain x, PySem.W.plainAll_map _, in_room true hu hd x _, k.here (.bl _)⟩) hm
  rw [any_toD, ← decide_not] at k
  exact k
/-! ### tuples, lists -/
theorem te_tup0 {j} : TE X (.Tuple [] j pos) δ (Tup.mk ([] : List α)) δ := de_tup da_nil (Nat.zero_le _)
theorem te_tup1 {j} (ha : TE X a δ x δ1) (he : starEach [a] X.env = (false, eval a X.env) :: starEach [] X.env := by rfl) : TE X (.Tuple [a] j pos) δ (Tup.mk [x]) δ1 := de_tup (da_cons ha da_nil he) (show 1 ≤ sizeLine by decide)
theorem te_pair {j} {v : β} (ha : TE X a δ x δ1) (hb : TE X b δ1 v δ2) (he : starEach [a, b] X.env = (false, eval a X.env) :: starEach [b] X.env := by rfl) (he2 : starEach [b] X.env = (false, eval b X.env) :: starEach [] X.env := by rfl) : TE X (.Tuple [a, b] j pos) δ (x, v) δ2 := de_tup (da_cons ha (da_cons hb da_nil he2) he) (show 2 ≤ sizeLine by decide)
theorem tf_lst0 : TF X (.List [] pos) δ ([] : List α) δ := df_lst da_nil (Nat.zero_le _)
theorem tf_lst1 (ha : TE X a δ x δ1) (he : starEach [a] X.env = (false, eval a X.env) :: starEach [] X.env := by rfl) : TF X (.List [a] pos) δ [x] δ1 := df_lst (da_cons ha da_nil he) (show 1 ≤ sizeLine by decide)
theorem tf_lst2 (ha : TE X a δ x δ1) (hb : TE X b δ1 y δ2) (he : starEach [a, b] X.env = (false, eval a X.env) :: starEach [b] X.env := by rfl) (he2 : starEach [b] X.env = (false, eval b X.env) :: starEach [] X.env := by rfl) : TF X (.List [a, b] pos) δ [x, y] δ2 := df_lst (da_cons ha (da_cons hb da_nil he2) he) (show 2 ≤ sizeLine by decide)
theorem te_new (h : TF X e δ xs δ1) : TE X e δ xs δ1 := de_new h
theorem te_catT {t u : Tup α} (ha : TE X a δ t δ1) (hb : TE X b δ1 u δ2) (hz : t.items.length + u.items.length ≤ sizeLine) : TE X (.BinOp a .Add b pos) δ (Tup.mk (t.items ++ u.items)) δ2 := by
  have k := de_catT (pos := pos) ha hb (by rw [List.length_map, List.length_map]; exact hz)
  rw [← List.map_append] at k
  exact k
theorem tf_catL (ha : DE X a δ ra δ1) (hb : DE X b δ1 rb δ2) (hz : xs.length + ys.length ≤ sizeLine) (ea : res δ2 ra = some (toD xs) := by rfl) (eb : res δ2 rb = some (toD ys) := by rfl) : TF X (.BinOp a .Add b pos) δ (xs ++ ys) δ2 := by
  have k := df_cat (pos := pos) ha hb (by rw [List.length_map, List.length_map]; exact hz) ea eb
  rw [← List.map_append] at k
  exact k
theorem te_lenL (ha : DE X a δ ra δ1) (hm : X.mg "len" = none) (ea : res δ1 ra = some (toD xs) := by rfl) (hg : Gl X "len" := by rfl) (he : starEach [a] X.env = (false, eval a X.env) :: starEach [] X.env := by rfl) : TE X (.Call (.Name "len" p') [a] [] pos) δ (xs.length : Int) δ1 := by
  have k := de_lenL (pos := pos) (p' := p') ha hm ea hg he
  rw [List.length_map] at k
  exact k
theorem te_lenT {t : Tup α} (ha : TE X a δ t δ1) (hm : X.mg "len" = none) (hg : Gl X "len" := by rfl) (he : starEach [a] X.env = (false, eval a X.env) :: starEach [] X.env := by rfl) : TE X (.Call (.Name "len" p') [a] [] pos) δ (t.items.length : Int) δ1 := by
  have k := de_lenT (pos := pos) (p' := p') ha hm rfl hg he
  rw [List.length_map] at k
  exact k
theorem te_tupL (ha : DE X a δ ra δ1) (hm : X.mg "tuple" = none) (ea : res δ1 ra = some (toD xs) := by rfl) (hg : Gl X "tuple" := by rfl) (he : starEach [a] X.env = (false, eval a X.env) :: starEach [] X.env := by rfl) : TE X (.Call (.Name "tuple" p') [a] [] pos) δ (Tup.mk xs) δ1 := de_tupL ha hm ea hg he
theorem te_tupN (ha : TF X a δ xs δ1) (hm : X.mg "tuple" = none) (hg : Gl X "tuple" := by rfl) (he : starEach [a] X.env = (false, eval a X.env) :: starEach [] X.env := by rfl) : TE X (.Call (.Name "tuple" p') [a] [] pos) δ (Tup.mk xs) δ1 := de_tupN ha hm hg he
theorem tf_listT {t : Tup α} (ha : TE X a δ t δ1) (hm : X.mg "list" = none) (hg : Gl X "list" := by rfl) (he : starEach [a] X.env = (false, eval a X.env) :: starEach [] X.env := by rfl) : TF X (.Call (.Name "list" p') [a] [] pos) δ t.items δ1 := df_listT ha hm rfl hg he
theorem tf_listL (ha : DE X a δ ra δ1) (hm : X.mg "list" = none) (ea : res δ1 ra = some (toD xs) := by rfl) (hg : Gl X "list" := by rfl) (he : starEach [a] X.env = (false, eval a X.env) :: starEach [] X.env := by rfl) : TF X (.Call (.Name "list" p') [a] [] pos) δ xs δ1 := df_listL ha hm ea hg he
theorem atI_map {i : Int} (q : atI xs i = some x) : atI (xs.map toD) i = some (toD x) := by
  unfold atI at q ⊢
  rw [List.length_map]
  cases e : ixN xs.length i with
  | none => rw [e] at q; cases q
  | some j =>
    rw [e] at q
    show (xs.map toD)[j]? = _
    rw [List.getElem?_map, show xs[j]? = some x from q]
    rfl
theorem te_ixL {i : Int} (ha : DE X a δ ra δ1) (hb : TE X b δ1 i δ2) (q : atI xs i = some x) (ea : res δ2 ra = some (toD xs) := by rfl) (hs : PlainIx b := by exact fun _ _ => rfl) : TE X (.Subscript a b pos) δ x δ2 := de_ixL ha hb (atI_map q) ea hs
theorem te_ixT {t : Tup α} {i : Int} (ha : TE X a δ t δ1) (hb : TE X b δ1 i δ2) (q : atI t.items i = some x) (hs : PlainIx b := by exact fun _ _ => rfl) : TE X (.Subscript a b pos) δ x δ2 := de_ixT ha hb (atI_map q) rfl hs
/-- t[0], t[1] of a pair -/
theorem te_fst {v : α × β} {p0 : Pos} {j} (ha : TE X a δ v δ1) : TE X (.Subscript a (.Constant (.int 0) j p0) pos) δ v.1 δ1 := de_ixT ha (te_int (i := 0)) (show atI [toD v.1, toD v.2] 0 = _ from rfl)
theorem te_snd {v : α × β} {p0 : Pos} {j} (ha : TE X a δ v δ1) : TE X (.Subscript a (.Constant (.int 1) j p0) pos) δ v.2 δ1 := de_ixT ha (te_int (i := 1)) (show atI [toD v.1, toD v.2] 1 = _ from rfl)
def cutL {α : Type} (ds : List α) (lo hi : Option Int) : List α := (ds.drop (HT.sIx ds.length 0 lo)).take (HT.sIx ds.length ds.length hi - HT.sIx ds.length 0 lo)
theorem cut_map (xs : List α) (lo hi : Option Int) : cutD (xs.map toD) lo hi = (cutL xs lo hi).map toD := by
  unfold cutD cutL
  rw [List.length_map, List.map_take, List.map_drop]
theorem te_slT {t : Tup α} {lo hi : Option Expr} {l h : Option Int} {p2 : Pos} (ha : TE X a δ t δ1) (hl : DO X lo δ1 l δ2) (hh : DO X hi δ2 h δ3) : TE X (.Subscript a (.Slice lo hi none p2) pos) δ (Tup.mk (cutL t.items l h)) δ3 := by
  have k := de_slT (pos := pos) (p2 := p2) ha hl hh
  rw [cut_map] at k
  exact k
theorem tf_slL {lo hi : Option Expr} {l h : Option Int} {p2 : Pos} (ha : TE X a δ xs δ1) (hl : DO X lo δ1 l δ2) (hh : DO X hi δ2 h δ3) : TF X (.Subscript a (.Slice lo hi none p2) pos) δ (cutL xs l h) δ3 := by
  have k := df_slL (pos := pos) (p2 := p2) ha hl hh
  rw [cut_map] at k
  exact k
theorem do_i {i : Int} (ha : TE X a δ i δ1) : DO X (some a) δ (some i) δ1 := do_some ha
/-! ### ints, bools -/
variable {i j k : Int} {p q : Bool}
theorem te_add (ha : TE X a δ i δ1) (hb : TE X b δ1 j δ2) : TE X (.BinOp a .Add b pos) δ (i + j) δ2 := de_add ha hb
theorem te_sub (ha : TE X a δ i δ1) (hb : TE X b δ1 j δ2) : TE X (.BinOp a .Sub b pos) δ (i - j) δ2 := de_sub ha hb
theorem te_mul (ha : TE X a δ i δ1) (hb : TE X b δ1 j δ2) (h : CMul i j) : TE X (.BinOp a .Mult b pos) δ (i * j) δ2 := de_mul ha hb h
theorem te_div (ha : TE X a δ i δ1) (hb : TE X b δ1 j δ2) (h : CDiv i j) : TE X (.BinOp a .FloorDiv b pos) δ (i / j) δ2 := de_div ha hb h
theorem te_mod (ha : TE X a δ i δ1) (hb : TE X b δ1 j δ2) (h : 0 < j) : TE X (.BinOp a .Mod b pos) δ (i % j) δ2 := de_mod ha hb h
theorem te_shl (ha : TE X a δ i δ1) (hb : TE X b δ1 j δ2) (h : CPow i j) : TE X (.BinOp a .LShift b pos) δ (i * 2 ^ j.toNat) δ2 := de_shl ha hb h
theorem te_shr (ha : TE X a δ i δ1) (hb : TE X b δ1 j δ2) (h : 0 ≤ j) : TE X (.BinOp a .RShift b pos) δ (i / 2 ^ j.toNat) δ2 := de_shr ha hb h
theorem te_band (ha : TE X a δ i δ1) (hb : TE X b δ1 j δ2) : TE X (.BinOp a .BitAnd b pos) δ (Builtin.bitAnd i j) δ2 := de_bitand ha hb
theorem te_bor (ha : TE X a δ i δ1) (hb : TE X b δ1 j δ2) : TE X (.BinOp a .BitOr b pos) δ (Builtin.bitOr i j) δ2 := de_bitor ha hb
theorem te_lt (ha : TE X a δ i δ1) (hb : TE X b δ1 j δ2) : TE X (.Compare a [.Lt] [b] pos) δ (decide (i < j)) δ2 := de_lt ha hb
theorem te_le (ha : TE X a δ i δ1) (hb : TE X b δ1 j δ2) : TE X (.Compare a [.LtE] [b] pos) δ (decide (i ≤ j)) δ2 := de_le ha hb
theorem te_gt (ha : TE X a δ i δ1) (hb : TE X b δ1 j δ2) : TE X (.Compare a [.Gt] [b] pos) δ (decide (j < i)) δ2 := de_gt ha hb
theorem te_ge (ha : TE X a δ i δ1) (hb : TE X b δ1 j δ2) : TE X (.Compare a [.GtE] [b] pos) δ (decide (j ≤ i)) δ2 := de_ge ha hb
theorem te_lele (ha : TE X a δ i δ) (hb : TE X b δ j δ) (hc : TE X c δ k δ) (hm : lastMarks [.LtE, .LtE] [b, c] = false := by with_unfolding_all rfl) : TE X (.Compare a [.LtE, .LtE] [b, c] pos) δ (decide (i ≤ j) && decide (j ≤ k)) δ := de_chain op_le op_le ha hb hc hm
theorem te_not (ha : TE X a δ p δ1) : TE X (.UnaryOp .Not a pos) δ (!p) δ1 := de_not ha
theorem te_one {op} (ha : DE X a δ ra δ1) : DE X (.BoolOp op [a] pos) δ ra δ1 := de_one ha
theorem te_and (ha : TE X a δ p δ) (hb : p = true → TE X (.BoolOp .And (b :: rest) pos) δ q δ) : TE X (.BoolOp .And (a :: b :: rest) pos) δ (p && q) δ := de_and ha hb
theorem te_or (ha : TE X a δ p δ) (hb : p = false → TE X (.BoolOp .Or (b :: rest) pos) δ q δ) : TE X (.BoolOp .Or (a :: b :: rest) pos) δ (p || q) δ := de_or ha hb
theorem te_and2 (ha : TE X a δ p δ) (hb : p = true → TE X b δ q δ) : TE X (.BoolOp .And [a, b] pos) δ (p && q) δ := de_and ha fun h => de_one (hb h)
theorem te_or2 (ha : TE X a δ p δ) (hb : p = false → TE X b δ q δ) : TE X (.BoolOp .Or [a, b] pos) δ (p || q) δ := de_or ha fun h => de_one (hb h)
theorem te_all {bs : List Bool} (hc : X.calm = true) (ha : TE X a δ bs δ1) (hm : X.mg "all" = none) (hg : Gl X "all" := by rfl) (he : starEach [a] X.env = (false, eval a X.env) :: starEach [] X.env := by rfl) : TE X (.Call (.Name "all" p') [a] [] pos) δ (bs.all fun x => x) δ1 := de_all hc ha hm hg he
theorem te_any {bs : List Bool} (hc : X.calm = true) (ha : TE X a δ bs δ1) (hm : X.mg "any" = none) (hg : Gl X "any" := by rfl) (he : starEach [a] X.env = (false, eval a X.env) :: starEach [] X.env := by rfl) : TE X (.Call (.Name "any" p') [a] [] pos) δ (bs.any fun x => x) δ1 := de_any hc ha hm hg he
theorem te_if (hc : DT X c δ p δ1) (ha : p = true → TE X a δ1 x δ2) (hb : p = false → TE X b δ1 y δ2) : TE X (.IfExp c a b pos) δ (if p = true then x else y) δ2 := by
  refine de_if hc (fun h => ?_) (fun h => ?_)
  · rw [if_pos h]; exact ha h
  · rw [if_neg (by rw [h]; decide)]; exact hb h
end
section
variable {α : Type} [DecidableEq α] [DatumOrd α] {X : Cx} {a b : Expr} {δ δ1 δ2 : Dl} {ra : R} {x y : α} {xs : List α} {pos p' : Pos}
theorem te_ltO (hu : X.A.units + 70 < cLine) (ha : TE X a δ x δ1) (hb : TE X b δ1 y δ2) (hd : Datum.depth α ≤ 60 := by decide) : TE X (.Compare a [.Lt] [b] pos) δ (DatumOrd.lt x y) δ2 := by
  have k := de_ltD (pos := pos) ha hb (DatumOrd.alike x y) (DatumOrd.notNone x) (by have := Datum.depth_le x; show _ + min (Datum.toD x).depth _ < _; omega)
  rw [DatumOrd.lt_eq] at k
  exact k
/-! ### sorted -/
class Sk (α : Type) [DecidableEq α] [DatumOrd α] : Prop where
  sk : (∀ a : α, ∃ xs, toD a = .tuple xs) ∨ ∀ a : α, toD a ≠ .none ∧ ∀ xs, toD a ≠ .tuple xs
instance : Sk Int := ⟨.inr fun a => ⟨nofun, nofun⟩⟩
instance {α : Type} [DecidableEq α] [DatumOrd α] : Sk (Tup α) := ⟨.inl fun a => ⟨_, rfl⟩⟩
instance {α β : Type} [DecidableEq α] [DatumOrd α] [DecidableEq β] [DatumOrd β] : Sk (α × β) := ⟨.inl fun a => ⟨_, rfl⟩⟩
theorem sk_of [Sk α] (xs : List α) : SortKind (xs.map toD) := by
  rcases Sk.sk (α := α) with h | h
  · refine .inr fun d hd => ?_
    obtain ⟨a, _, rfl⟩ := List.mem_map.mp hd
    exact h a
  · refine .inl (.inr fun d hd => ?_)
    obtain ⟨a, _, rfl⟩ := List.mem_map.mp hd
    exact h a
theorem alike_of (xs : List α) : AllAlike (xs.map toD) := fun d hd d' hd' => by
  obtain ⟨a, _, rfl⟩ := List.mem_map.mp hd
  obtain ⟨b, _, rfl⟩ := List.mem_map.mp hd'
  exact DatumOrd.alike a b
/-- Python's sorted -/
def srt (xs : List α) : List α := xs.mergeSort fun a b => !DatumOrd.lt b a
theorem sort_map (xs : List α) : sortD (xs.map toD) = (srt xs).map toD := by
  unfold sortD srt
  refine (List.map_mergeSort (r := fun a b => !DatumOrd.lt b a) (s := dataLe false id) (f := toD) fun a _ b _ => ?_).symm
  show (!DatumOrd.lt b a) = (!dataLt (toD b) (toD a))
  rw [show dataLt (toD b) (toD a) = DatumOrd.lt b a from DatumOrd.lt_eq b a]
theorem sort_room (hu : X.A.units + 70 < cLine) (hd : Datum.depth α ≤ 60) (xs : List α) : ∀ d, d ∈ xs.map toD → X.A.units + 2 + d.depth < cLine := fun d hd => by
  obtain ⟨a, _, rfl⟩ := List.mem_map.mp hd
  have := Datum.depth_le a
  show X.A.units + 2 + (Datum.toD a).depth < cLine
  omega
theorem tf_sortL [Sk α] (hu : X.A.units + 70 < cLine) (ha : DE X a δ ra δ1) (hm : X.mg "sorted" = none) (ea : res δ1 ra = some (toD xs) := by rfl) (hd : Datum.depth α ≤ 60 := by decide) (hg : Gl X "sorted" := by rfl) (he : starEach [a] X.env = (false, eval a X.env) :: starEach [] X.env := by rfl) :
    TF X (.Call (.Name "sorted" p') [a] [] pos) δ (srt xs) δ1 := by
  have k := df_sortL (pos := pos) (p' := p') ha hm (alike_of xs) (sk_of xs) (sort_room hu hd xs) ea hg he
  rw [sort_map] at k
  exact k
theorem tf_sortT [Sk α] {t : Tup α} (hu : X.A.units + 70 < cLine) (ha : TE X a δ t δ1) (hm : X.mg "sorted" = none) (hd : Datum.depth α ≤ 60 := by decide) (hg : Gl X "sorted" := by rfl) (he : starEach [a] X.env = (false, eval a X.env) :: starEach [] X.env := by rfl) :
    TF X (.Call (.Name "sorted" p') [a] [] pos) δ (srt t.items) δ1 := by
  have k := df_sortT (pos := pos) (p' := p') ha hm (alike_of t.items) (sk_of t.items) (sort_room hu hd t.items) rfl hg he
  rw [sort_map] at k
  exact k
end
end G
set_option Elab.async false
set_option linter.all false
set_option maxRecDepth 100000
set_option maxHeartbeats 4000000
/-! GE: typed comprehensions, loops, promises, calls. -/
namespace G
open PySem PySem.Spec L2
open PySem.W (Datum DatumOrd Tup)
def rangeI (lo : Int) (n : Nat) : List Int := (List.range n).map fun (i : Nat) => lo + (i : Int)
theorem rangeD_toD (lo : Int) (n : Nat) : rangeD lo n = (rangeI lo n).map toD := by
  unfold rangeD rangeI
  rw [List.map_map]
  rfl
def enumI {α : Type} (xs : List α) : List (Int × α) := xs.zipIdx.map fun p => ((p.2 : Int), p.1)
/-! ### tests -/
section
variable {X : Cx} {e a b : Expr} {δ δ1 δ2 : Dl} {ra rb : R} {pos : Pos} {p q : Bool}
theorem tt_val (h : TE X e δ p δ1) (he : ∀ whole, isTrue e X.env whole = (do let v ← whole; standAt e.pos; holding [v] (truthy v)) := by intro _; rfl) : DT X e δ p δ1 := dt_val h he
theorem tt_eqv (h : DT X e δ p δ1) (hq : p = q) : DT X e δ q δ1 := by cases hq; exact h
theorem tt_and2 (ha : DT X a δ p δ1) (hb : p = true → DT X b δ1 q δ2) (h0 : p = false → δ2 = δ1) : DT X (.BoolOp .And [a, b] pos) δ (p && q) δ2 := dt_and ha (fun h => dw_one (hb h)) h0
theorem tt_or2 (ha : DT X a δ p δ1) (hb : p = false → DT X b δ1 q δ2) (h0 : p = true → δ2 = δ1) : DT X (.BoolOp .Or [a, b] pos) δ (p || q) δ2 := dt_or ha (fun h => dw_one' (hb h)) h0
theorem tt_andS (ha : DT X a δ p δ) (hb : p = true → DT X b δ q δ) : DT X (.BoolOp .And [a, b] pos) δ (p && q) δ := tt_and2 ha hb (fun _ => rfl)
theorem tt_orS (ha : DT X a δ p δ) (hb : p = false → DT X b δ q δ) : DT X (.BoolOp .Or [a, b] pos) δ (p || q) δ := tt_or2 ha hb (fun _ => rfl)
end
/-! ### tests by comparing typed values -/
section
variable {α : Type} [DecidableEq α] [Datum α] {X : Cx} {a b c : Expr} {δ δ1 δ2 : Dl} {pos : Pos} {x y : α} {xs : List α} {i j k : Int}
theorem tt_eq (hu : X.A.units + 70 < cLine) (ha : TE X a δ x δ1) (hb : TE X b δ1 y δ2) (hd : Datum.depth α ≤ 60 := by decide) : DT X (.Compare a [.Eq] [b] pos) δ (decide (x = y)) δ2 := by
  have k := dt_cmp (X := X) (pos := pos) or_eqP ha hb (p := PyData.eqv (toD x) (toD y)) (fun O H u v Q z hx hy k => ⟨toD x, toD y, hx.dp, hy.dp, Datum.plain x, Datum.plain y, by have := Datum.depth_le x; show _ + min (Datum.toD x).depth _ < _; omega, k.here (.bl _)⟩) (nomark _)
  rw [show PyData.eqv (toD x) (toD y) = decide (x = y) from Datum.eqv x y] at k
  exact k
theorem tt_ne (hu : X.A.units + 70 < cLine) (ha : TE X a δ x δ1) (hb : TE X b δ1 y δ2) (hd : Datum.depth α ≤ 60 := by decide) : DT X (.Compare a [.NotEq] [b] pos) δ (decide (x ≠ y)) δ2 := by
  have k := dt_cmp (X := X) (pos := pos) or_neP ha hb (p := !PyData.eqv (toD x) (toD y)) (fun O H u v Q z hx hy k => ⟨toD x, toD y, hx.dp, hy.dp, Datum.plain x, Datum.plain y, by have := Datum.depth_le x; show _ + min (Datum.toD x).depth _ < _; omega, k.here (.bl _)⟩) (nomark _)
  rw [show PyData.eqv (toD x) (toD y) = decide (x = y) from Datum.eqv x y, ← decide_not] at k
  exact k
theorem tt_inT {t : Tup α} (hu : X.A.units + 70 < cLine) (ha : TE X a δ x δ1) (hb : TE X b δ1 t δ2) (hd : Datum.depth α ≤ 60 := by decide) (hm : behindInMarks .In b = false := by rfl) : DT X (.Compare a [.In] [b] pos) δ (decide (x ∈ t.items)) δ2 := by
  have k := dt_cmp (X := X) (pos := pos) (or_inP true) ha hb (p := (t.items.map toD).any fun y => PyData.eqv y (toD x)) (fun O H u v Q z hx hy k => ⟨toD x, t.items.map toD, hx.dp, hy.dp, Datum.plain x, PySem.W.plainAll_map _, in_room true hu hd x _, k.here (.bl _)⟩) hm
  rw [any_toD] at k
  exact k
theorem tt_notInT {t : Tup α} (hu : X.A.units + 70 < cLine) (ha : TE X a δ x δ1) (hb : TE X b δ1 t δ2) (hd : Datum.depth α ≤ 60 := by decide) (hm : behindInMarks .NotIn b = false := by rfl) : DT X (.Compare a [.NotIn] [b] pos) δ (decide (x ∉ t.items)) δ2 := by
  have k := dt_cmp (X := X) (pos := pos) (or_notInP true) ha hb (p := !(t.items.map toD).any fun y => PyData.eqv y (toD x)) (fun O H u v Q z hx hy k => ⟨toD x, t.items.map toD, hx.dp, hy.dp, Datum.plain x, PySem.W.plainAll_map _, in_room true hu hd x _, k.here (.bl _)⟩) hm
  rw [any_toD, ← decide_not] at k
  exact k
theorem tt_inL (hu : X.A.units + 70 < cLine) (ha : TE X a δ x δ1) (hb : TE X b δ1 xs δ2) (hd : Datum.depth α ≤ 60 := by decide) (hm : behindInMarks .In b = false := by rfl) : DT X (.Compare a [.In] [b] pos) δ (decide (x ∈ xs)) δ2 := by
  have k := dt_cmp (X := X) (pos := pos) (or_inP false) ha hb (p := (xs.map toD).any fun y => PyData.eqv y (toD x)) (fun O H u v Q z hx hy k => ⟨toD x, xs.map toD, hx.dp, hy.dp, Datum.plain x, PySem.W.plainAll_map _, in_room true hu hd x _, k.here (.bl _)⟩) hm
  rw [any_toD] at k
  exact k
theorem tt_notInL (hu : X.A.units + 70 < cLine) (ha : TE X a δ x δ1) (hb : TE X b δ1 xs δ2) (hd : Datum.depth α ≤ 60 := by decide) (hm : behindInMarks .NotIn b = false := by rfl) : DT X (.Compare a [.NotIn] [b] pos) δ (decide (x ∉ xs)) δ2 := by
  have k := dt_cmp (X := X) (pos := pos) (or_notInP false) ha hb (p := !(xs.map toD).any fun y => PyData.eqv y (toD x)) (fun O H u v Q z hx hy k => ⟨toD x, xs.map toD, hx.dp, hy.dp, Datum.plain x, PySem.W.plainAll_map _, in_room true hu hd x _, k.here (.bl _)⟩) hm
  rw [any_toD, ← decide_not] at k
  exact k
theorem tt_lt (ha : TE X a δ i δ1) (hb : TE X b δ1 j δ2) : DT X (.Compare a [.Lt] [b] pos) δ (decide (i < j)) δ2 := dt_cmp op_lt ha hb rsB0 (nomark _)
theorem tt_le (ha : TE X a δ i δ1) (hb : TE X b δ1 j δ2) : DT X (.Compare a [.LtE] [b] pos) δ (decide (i ≤ j)) δ2 := dt_cmp op_le ha hb rsB0 (nomark _)
theorem tt_gt (ha : TE X a δ i δ1) (hb : TE X b δ1 j δ2) : DT X (.Compare a [.Gt] [b] pos) δ (decide (j < i)) δ2 := dt_cmp op_gt ha hb rsB0 (nomark _)
theorem tt_ge (ha : TE X a δ i δ1) (hb : TE X b δ1 j δ2) : DT X (.Compare a [.GtE] [b] pos) δ (decide (j ≤ i)) δ2 := dt_cmp op_ge ha hb rsB0 (nomark _)
end
section
variable {α β γ : Type} [DecidableEq α] [Datum α] [DecidableEq β] [Datum β] [DecidableEq γ] [Datum γ]
theorem zipD_toD (xs : List α) (ys : List β) : zipD (xs.map toD) (ys.map toD) = (xs.zip ys).map toD := by
  unfold zipD
  rw [List.zip_map, List.map_map]
  rfl
theorem enumD_toD (xs : List α) : enumD (xs.map toD) = (enumI xs).map toD := by
  apply List.ext_getElem?
  intro i
  unfold enumD enumI
  rw [List.getElem?_map, List.getElem?_map, List.getElem?_map, List.getElem?_zipIdx, List.length_map]
  by_cases h : i < xs.length
  · rw [List.getElem?_range h, List.getElem?_eq_getElem h]
    show some (PyData.tuple [.int (i : Int), (xs.map toD).getD i .none]) = some (toD (((0 + i : Nat) : Int), xs[i]))
    rw [List.getD_eq_getElem?_getD, List.getElem?_map, List.getElem?_eq_getElem h, Nat.zero_add]
    rfl
  · rw [List.getElem?_eq_none (by rw [List.length_range]; omega), List.getElem?_eq_none (by omega)]
    rfl
variable {X : Cx} {tg e a b c elt iter : Expr} {es ifs : List Expr} {δ δ1 δ2 δ3 : Dl} {ra rb : R} {pos p' tp : Pos} {xs src : List α} {ys : List β}
theorem ti_list (ha : TE X e δ xs δ1) : TI X tg e δ xs δ1 := di_list ha
theorem ti_new (ha : TF X e δ xs δ1) : TI X tg e δ xs δ1 := di_list (te_new ha)
theorem ti_tup {t : Tup α} (ha : TE X e δ t δ1) : TI X tg e δ t.items δ1 := di_tup ha
theorem ti_eqv {zs : List α} (ha : TI X tg e δ xs δ1) (q : xs = zs) : TI X tg e δ zs δ1 := by cases q; exact ha
theorem ti_range1 {n : Int} (ha : TE X a δ n δ1) (hm : X.mg "range" = none) (hn : n ≤ sizeLine) (h0 : -(2 ^ 62) ≤ n) (hg : Gl X "range" := by rfl) (hs : starEach [a] X.env = [(false, eval a X.env)] := by rfl) (hs' : starEach [a] X.env = (false, eval a X.env) :: starEach [] X.env := by rfl) :
    TI X tg (.Call (.Name "range" p') [a] [] pos) δ (rangeI 0 n.toNat) δ1 := by
  have k := di_range1 (tg := tg) (p' := p') (pos := pos) ha hm hn hg hs hs' h0
  rw [rangeD_toD] at k
  exact k
theorem ti_range2 {lo n : Int} (ha : TE X a δ lo δ1) (hb : TE X b δ1 n δ2) (hm : X.mg "range" = none) (hlo : -(2 ^ 20) ≤ lo ∧ lo < 2 ^ 20) (hn : -(2 ^ 20) ≤ n ∧ n < 2 ^ 20) (hg : Gl X "range" := by rfl) (hs : starEach [a, b] X.env = [(false, eval a X.env), (false, eval b X.env)] := by rfl)
    (hs2 : starEach [b] X.env = [(false, eval b X.env)] := by rfl) (hs' : starEach [a, b] X.env = (false, eval a X.env) :: starEach [b] X.env := by rfl) (hs2' : starEach [b] X.env = (false, eval b X.env) :: starEach [] X.env := by rfl) :
    TI X tg (.Call (.Name "range" p') [a, b] [] pos) δ (rangeI lo (n - lo).toNat) δ2 := by
  have k := di_range2 (tg := tg) (p' := p') (pos := pos) ha hb hm hlo hn hg hs hs2 hs' hs2'
  rw [rangeD_toD] at k
  exact k
variable {elts : List Expr} {kk : Nat} {tpos : Pos}
theorem ti_zipT {t : Tup α} {u : Tup β} (ha : TE X a δ t δ1) (hb : TE X b δ1 u δ2) (hm : X.mg "zip" = none) (hg : Gl X "zip" := by rfl) (hs : starEach [a, b] X.env = (false, eval a X.env) :: starEach [b] X.env := by rfl) (hs2 : starEach [b] X.env = (false, eval b X.env) :: starEach [] X.env := by rfl)
    (hpl : (backTo pos (starEach [b] X.env)).any (·.1) = false := by rfl) : TI X (.Tuple elts kk tpos) (.Call (.Name "zip" p') [a, b] [] pos) δ (t.items.zip u.items) δ2 := by
  have k := di_zipT (elts := elts) (kk := kk) (tpos := tpos) (p' := p') (pos := pos) ha hb hm hg hs hs2 hpl
  rw [zipD_toD] at k
  exact k
theorem ti_zipL (ha : TE X a δ xs δ1) (hb : TE X b δ1 ys δ2) (hm : X.mg "zip" = none) (hg : Gl X "zip" := by rfl) (hs : starEach [a, b] X.env = (false, eval a X.env) :: starEach [b] X.env := by rfl) (hs2 : starEach [b] X.env = (false, eval b X.env) :: starEach [] X.env := by rfl)
    (hpl : (backTo pos (starEach [b] X.env)).any (·.1) = false := by rfl) : TI X (.Tuple elts kk tpos) (.Call (.Name "zip" p') [a, b] [] pos) δ (xs.zip ys) δ2 := by
  have k := di_zipL (elts := elts) (kk := kk) (tpos := tpos) (p' := p') (pos := pos) ha hb hm hg hs hs2 hpl
  rw [zipD_toD] at k
  exact k
theorem ti_enumL (ha : TE X a δ xs δ1) (hm : X.mg "enumerate" = none) (hg : Gl X "enumerate" := by rfl) (hs : starEach [a] X.env = (false, eval a X.env) :: starEach [] X.env := by rfl) (hs1 : starEach [a] X.env = [(false, eval a X.env)] := by rfl) :
    TI X (.Tuple elts kk tpos) (.Call (.Name "enumerate" p') [a] [] pos) δ (enumI xs) δ1 := by
  have k := di_enumL (elts := elts) (kk := kk) (tpos := tpos) (p' := p') (pos := pos) ha hm hg hs hs1
  rw [enumD_toD] at k
  exact k
theorem set22 (δ : Dl) {i j : Nat} (hij : i ≠ j) (v u : Option S) : (((((δ.set j none).set i none).set i v).set j u).set j none).set i none = (δ.set j none).set i none := by
  apply List.ext_getElem?
  intro l
  simp only [List.getElem?_set, List.length_set]
  by_cases h1 : i = l <;> by_cases h2 : j = l <;> simp [h1, h2]
/-! ### comprehensions -/
variable {scope : Scope} {own : List (Str × Nat)}
theorem t_lc (p : α → Bool) (g : α → β) (δa : α → Dl) (hc : X.calm = true) (hN : X.N.Nodup) (hi : TI X tg iter δ src δ1) (ok : BlkOk X.N X.env.scope scope own) (is : List Nat) (hs : ∀ j ∈ is, j ∈ own.map (·.2))
    (hg : ∀ x, x ∈ src → ∀ (s : Shared) (H : Hp) (C : Addr) (cl : List (Str × Addr)) (fp : List Addr), DG (X.blk s H scope (compEnvC scope cl C X.env) fp) tg is (toD x) (wipeD δ1 (own.map (·.2))) (δa x))
    (ht : ∀ x, x ∈ src → ∀ (s : Shared) (H : Hp) (C : Addr) (cl : List (Str × Addr)) (fp : List Addr), DTs (X.blk s H scope (compEnvC scope cl C X.env) fp) ifs (δa x) (p x) (δa x))
    (he : ∀ x, x ∈ src → p x = true → ∀ (s : Shared) (H : Hp) (C : Addr) (cl : List (Str × Addr)) (fp : List Addr), TE (X.blk s H scope (compEnvC scope cl C X.env) fp) elt (δa x) (g x) (δa x))
    (hst : ∀ x, wipeD (δa x) is = wipeD δ1 (own.map (·.2))) (hvs : ∀ j ∈ own.map (·.2), isO (δ1.getD j none) = false)
    (hf : ∀ x, foldedSetIterable iter X.env x = pure x := by intro _; rfl) : TF X (.ListComp elt [⟨tg, iter, ifs, 0⟩] scope pos) δ ((src.filter p).map g) δ1 := by
  have k := df_lc (X := X) (pos := pos) src toD p (fun x => toD (g x)) δa hc hN hi ok is hs hg ht he hst hvs hf
  unfold TF
  rw [List.map_map]
  exact k
/-- one name, no test -/
theorem t_lc1 (g : α → β) (i : Nat) {x : Str} (hc : X.calm = true) (hN : X.N.Nodup) (hi : TI X (.Name x tp) iter δ src δ1) (ok : BlkOk X.N X.env.scope scope [(x, i)])
    (hg : ∀ x', x' ∈ src → ∀ (s : Shared) (H : Hp) (C : Addr) (cl : List (Str × Addr)) (fp : List Addr), DG (X.blk s H scope (compEnvC scope cl C X.env) fp) (.Name x tp) [i] (toD x') (δ1.set i none) ((δ1.set i none).set i (sD x')))
    (he : ∀ x', x' ∈ src → ∀ (s : Shared) (H : Hp) (C : Addr) (cl : List (Str × Addr)) (fp : List Addr), TE (X.blk s H scope (compEnvC scope cl C X.env) fp) elt ((δ1.set i none).set i (sD x')) (g x') ((δ1.set i none).set i (sD x')))
    (hvs : isO (δ1.getD i none) = false := by rfl) (hf : ∀ x, foldedSetIterable iter X.env x = pure x := by intro _; rfl) : TF X (.ListComp elt [⟨.Name x tp, iter, [], 0⟩] scope pos) δ (src.map g) δ1 := by
  have k := t_lc (X := X) (own := [(x, i)]) (pos := pos) (elt := elt) (ifs := []) (fun _ => true) g (fun x' => (δ1.set i none).set i (sD x')) hc hN hi ok [i] (fun j hj => hj) hg (fun _ _ _ _ _ _ _ => dts_nil) (fun x' h _ => he x' h) (fun x' => by show ((δ1.set i none).set i (sD x')).set i none = δ1.set i none; rw [List.set_set, List.set_set]) (fun j hj => by
    rw [List.map_cons, List.map_nil, List.mem_singleton] at hj
    rw [hj]; exact hvs) hf
  rw [List.filter_eq_self.mpr (fun _ _ => rfl)] at k
  exact k
/-- one name, one test -/
theorem t_lc1if (p : α → Bool) (g : α → β) (i : Nat) {x : Str} (hc : X.calm = true) (hN : X.N.Nodup) (hi : TI X (.Name x tp) iter δ src δ1) (ok : BlkOk X.N X.env.scope scope [(x, i)])
    (hg : ∀ x', x' ∈ src → ∀ (s : Shared) (H : Hp) (C : Addr) (cl : List (Str × Addr)) (fp : List Addr), DG (X.blk s H scope (compEnvC scope cl C X.env) fp) (.Name x tp) [i] (toD x') (δ1.set i none) ((δ1.set i none).set i (sD x')))
    (ht : ∀ x', x' ∈ src → ∀ (s : Shared) (H : Hp) (C : Addr) (cl : List (Str × Addr)) (fp : List Addr), DT (X.blk s H scope (compEnvC scope cl C X.env) fp) c ((δ1.set i none).set i (sD x')) (p x') ((δ1.set i none).set i (sD x')))
    (he : ∀ x', x' ∈ src → p x' = true → ∀ (s : Shared) (H : Hp) (C : Addr) (cl : List (Str × Addr)) (fp : List Addr), TE (X.blk s H scope (compEnvC scope cl C X.env) fp) elt ((δ1.set i none).set i (sD x')) (g x') ((δ1.set i none).set i (sD x')))
    (hvs : isO (δ1.getD i none) = false := by rfl) (hf : ∀ x, foldedSetIterable iter X.env x = pure x := by intro _; rfl) : TF X (.ListComp elt [⟨.Name x tp, iter, [c], 0⟩] scope pos) δ ((src.filter p).map g) δ1 :=
  t_lc (X := X) (own := [(x, i)]) (pos := pos) (elt := elt) p g (fun x' => (δ1.set i none).set i (sD x')) hc hN hi ok [i] (fun j hj => hj) hg (fun x' h s H C cl fp => dts_one (ht x' h s H C cl fp)) he (fun x' => by show ((δ1.set i none).set i (sD x')).set i none = δ1.set i none; rw [List.set_set, List.set_set]) (fun j hj => by
    rw [List.map_cons, List.map_nil, List.mem_singleton] at hj
    rw [hj]; exact hvs) hf
/-- two names for a pair, no test -/
theorem t_lc2 {src : List (α × β)} (g : α × β → γ) (i j : Nat) {x y : Str} {px py : Pos} (hc : X.calm = true) (hN : X.N.Nodup) (hij : i ≠ j) (hi : TI X (.Tuple [.Name x px, .Name y py] kk tpos) iter δ src δ1) (ok : BlkOk X.N X.env.scope scope [(x, i), (y, j)])
    (hg : ∀ x', x' ∈ src → ∀ (s : Shared) (H : Hp) (C : Addr) (cl : List (Str × Addr)) (fp : List Addr), DG (X.blk s H scope (compEnvC scope cl C X.env) fp) (.Tuple [.Name x px, .Name y py] kk tpos) [i, j] (toD x') ((δ1.set j none).set i none) ((((δ1.set j none).set i none).set i (sD x'.1)).set j (sD x'.2)))
    (he : ∀ x', x' ∈ src → ∀ (s : Shared) (H : Hp) (C : Addr) (cl : List (Str × Addr)) (fp : List Addr), TE (X.blk s H scope (compEnvC scope cl C X.env) fp) elt ((((δ1.set j none).set i none).set i (sD x'.1)).set j (sD x'.2)) (g x') ((((δ1.set j none).set i none).set i (sD x'.1)).set j (sD x'.2)))
    (hvs : isO (δ1.getD i none) = false := by rfl) (hvs2 : isO (δ1.getD j none) = false := by rfl) (hf : ∀ x, foldedSetIterable iter X.env x = pure x := by intro _; rfl) : TF X (.ListComp elt [⟨.Tuple [.Name x px, .Name y py] kk tpos, iter, [], 0⟩] scope pos) δ (src.map g) δ1 := by
  have k := t_lc (X := X) (own := [(x, i), (y, j)]) (pos := pos) (elt := elt) (ifs := []) (fun _ => true) g (fun x' => (((δ1.set j none).set i none).set i (sD x'.1)).set j (sD x'.2)) hc hN hi ok [i, j] (fun j hj => hj) hg (fun _ _ _ _ _ _ _ => dts_nil) (fun x' h _ => he x' h) (fun x' => by
    show (((((δ1.set j none).set i none).set i (sD x'.1)).set j (sD x'.2)).set j none).set i none = (δ1.set j none).set i none
    exact set22 δ1 hij _ _) (fun l hl => by
    rw [List.map_cons, List.map_cons, List.map_nil, List.mem_cons, List.mem_singleton] at hl
    rcases hl with hl | hl
    · rw [hl]; exact hvs
    · rw [hl]; exact hvs2) hf
  rw [List.filter_eq_self.mpr (fun _ _ => rfl)] at k
  exact k
theorem t_lc2if {src : List (α × β)} (p : α × β → Bool) (g : α × β → γ) (i j : Nat) {x y : Str} {px py : Pos} (hc : X.calm = true) (hN : X.N.Nodup) (hij : i ≠ j) (hi : TI X (.Tuple [.Name x px, .Name y py] kk tpos) iter δ src δ1) (ok : BlkOk X.N X.env.scope scope [(x, i), (y, j)])
    (hg : ∀ x', x' ∈ src → ∀ (s : Shared) (H : Hp) (C : Addr) (cl : List (Str × Addr)) (fp : List Addr), DG (X.blk s H scope (compEnvC scope cl C X.env) fp) (.Tuple [.Name x px, .Name y py] kk tpos) [i, j] (toD x') ((δ1.set j none).set i none) ((((δ1.set j none).set i none).set i (sD x'.1)).set j (sD x'.2)))
    (ht : ∀ x', x' ∈ src → ∀ (s : Shared) (H : Hp) (C : Addr) (cl : List (Str × Addr)) (fp : List Addr), DT (X.blk s H scope (compEnvC scope cl C X.env) fp) c ((((δ1.set j none).set i none).set i (sD x'.1)).set j (sD x'.2)) (p x') ((((δ1.set j none).set i none).set i (sD x'.1)).set j (sD x'.2)))
    (he : ∀ x', x' ∈ src → p x' = true → ∀ (s : Shared) (H : Hp) (C : Addr) (cl : List (Str × Addr)) (fp : List Addr), TE (X.blk s H scope (compEnvC scope cl C X.env) fp) elt ((((δ1.set j none).set i none).set i (sD x'.1)).set j (sD x'.2)) (g x') ((((δ1.set j none).set i none).set i (sD x'.1)).set j (sD x'.2)))
    (hvs : isO (δ1.getD i none) = false := by rfl) (hvs2 : isO (δ1.getD j none) = false := by rfl) (hf : ∀ x, foldedSetIterable iter X.env x = pure x := by intro _; rfl) : TF X (.ListComp elt [⟨.Tuple [.Name x px, .Name y py] kk tpos, iter, [c], 0⟩] scope pos) δ ((src.filter p).map g) δ1 :=
  t_lc (X := X) (own := [(x, i), (y, j)]) (pos := pos) (elt := elt) p g (fun x' => (((δ1.set j none).set i none).set i (sD x'.1)).set j (sD x'.2)) hc hN hi ok [i, j] (fun j hj => hj) hg (fun x' h s H C cl fp => dts_one (ht x' h s H C cl fp)) he (fun x' => by
    show (((((δ1.set j none).set i none).set i (sD x'.1)).set j (sD x'.2)).set j none).set i none = (δ1.set j none).set i none
    exact set22 δ1 hij _ _) (fun l hl => by
    rw [List.map_cons, List.map_cons, List.map_nil, List.mem_cons, List.mem_singleton] at hl
    rcases hl with hl | hl
    · rw [hl]; exact hvs
    · rw [hl]; exact hvs2) hf
end
/-! ### promises of typed defs -/
section
variable {α β γ ρ : Type} [DecidableEq α] [Datum α] [DecidableEq β] [Datum β] [DecidableEq γ] [Datum γ] [DecidableEq ρ] [Datum ρ]
def F1 (Pre : α → Prop) (f : α → ρ) : List PyData → PyData → Prop := fun ds d => ∃ x, Pre x ∧ ds = [toD x] ∧ d = toD (f x)
def F2 (Pre : α → β → Prop) (f : α → β → ρ) : List PyData → PyData → Prop := fun ds d => ∃ x y, Pre x y ∧ ds = [toD x, toD y] ∧ d = toD (f x y)
def F3 (Pre : α → β → γ → Prop) (f : α → β → γ → ρ) : List PyData → PyData → Prop := fun ds d => ∃ x y z, Pre x y z ∧ ds = [toD x, toD y, toD z] ∧ d = toD (f x y z)
def L1 (Pre : α → Prop) (f : α → List ρ) : List PyData → Co → Prop := fun ds c => ∃ x, Pre x ∧ ds = [toD x] ∧ c = .l ((f x).map toD)
def L2' (Pre : α → β → Prop) (f : α → β → List ρ) : List PyData → Co → Prop := fun ds c => ∃ x y, Pre x y ∧ ds = [toD x, toD y] ∧ c = .l ((f x y).map toD)
def L3' (Pre : α → β → γ → Prop) (f : α → β → γ → List ρ) : List PyData → Co → Prop := fun ds c => ∃ x y z, Pre x y z ∧ ds = [toD x, toD y, toD z] ∧ c = .l ((f x y z).map toD)
variable {X : Cx} {a b c : Expr} {δ δ1 δ2 δ3 : Dl} {pos p' : Pos} {nm : Str} {k j : Nat} {x : α} {y : β} {z : γ}
theorem te_call1 {Pre : α → Prop} {f : α → ρ} (C : Cl X.prog X.w X.K X.mg X.base k nm (spP X.K (F1 Pre f))) (hr : Room j X.A) (hk : k ≤ j) (ha : TE X a δ x δ1) (h : Pre x) (hg : Gl X nm := by rfl) (hdb : (nm == ("__debug__" : Str)) = false := by decide)
    (he : starEach [a] X.env = (false, eval a X.env) :: starEach [] X.env := by rfl) (hpl : (backTo pos (starEach [] X.env)).any (·.1) = false := by rfl) : TE X (.Call (.Name nm p') [a] [] pos) δ (f x) δ1 := de_call C hr hk (da_cons ha da_nil he) ⟨x, h, rfl, rfl⟩ hg hdb he hpl
theorem te_call2 {Pre : α → β → Prop} {f : α → β → ρ} (C : Cl X.prog X.w X.K X.mg X.base k nm (spP X.K (F2 Pre f))) (hr : Room j X.A) (hk : k ≤ j) (ha : TE X a δ x δ1) (hb : TE X b δ1 y δ2) (h : Pre x y) (hg : Gl X nm := by rfl) (hdb : (nm == ("__debug__" : Str)) = false := by decide)
    (he : starEach [a, b] X.env = (false, eval a X.env) :: starEach [b] X.env := by rfl) (he2 : starEach [b] X.env = (false, eval b X.env) :: starEach [] X.env := by rfl) (hpl : (backTo pos (starEach [b] X.env)).any (·.1) = false := by rfl) : TE X (.Call (.Name nm p') [a, b] [] pos) δ (f x y) δ2 := de_call C hr hk (da_cons ha (da_cons hb da_nil he2) he) ⟨x, y, h, rfl, rfl⟩ hg hdb he hpl
theorem te_call3 {Pre : α → β → γ → Prop} {f : α → β → γ → ρ} (C : Cl X.prog X.w X.K X.mg X.base k nm (spP X.K (F3 Pre f))) (hr : Room j X.A) (hk : k ≤ j) (ha : TE X a δ x δ1) (hb : TE X b δ1 y δ2) (hc : TE X c δ2 z δ3) (h : Pre x y z) (hg : Gl X nm := by rfl) (hdb : (nm == ("__debug__" : Str)) = false := by decide)
    (he : starEach [a, b, c] X.env = (false, eval a X.env) :: starEach [b, c] X.env := by rfl) (he2 : starEach [b, c] X.env = (false, eval b X.env) :: starEach [c] X.env := by rfl) (he3 : starEach [c] X.env = (false, eval c X.env) :: starEach [] X.env := by rfl) (hpl : (backTo pos (starEach [b, c] X.env)).any (·.1) = false := by rfl) : TE X (.Call (.Name nm p') [a, b, c] [] pos) δ (f x y z) δ3 := de_call C hr hk (da_cons ha (da_cons hb (da_cons hc da_nil he3) he2) he) ⟨x, y, z, h, rfl, rfl⟩ hg hdb he hpl
theorem tf_call1 {Pre : α → Prop} {f : α → List ρ} (C : Cl X.prog X.w X.K X.mg X.base k nm (spF X.K (L1 Pre f))) (hr : Room j X.A) (hk : k ≤ j) (ha : TE X a δ x δ1) (h : Pre x) (hg : Gl X nm := by rfl) (hdb : (nm == ("__debug__" : Str)) = false := by decide)
    (he : starEach [a] X.env = (false, eval a X.env) :: starEach [] X.env := by rfl) (hpl : (backTo pos (starEach [] X.env)).any (·.1) = false := by rfl) : TF X (.Call (.Name nm p') [a] [] pos) δ (f x) δ1 := df_call C hr hk (da_cons ha da_nil he) ⟨x, h, rfl, rfl⟩ hg hdb he hpl
theorem tf_call2 {Pre : α → β → Prop} {f : α → β → List ρ} (C : Cl X.prog X.w X.K X.mg X.base k nm (spF X.K (L2' Pre f))) (hr : Room j X.A) (hk : k ≤ j) (ha : TE X a δ x δ1) (hb : TE X b δ1 y δ2) (h : Pre x y) (hg : Gl X nm := by rfl) (hdb : (nm == ("__debug__" : Str)) = false := by decide)
    (he : starEach [a, b] X.env = (false, eval a X.env) :: starEach [b] X.env := by rfl) (he2 : starEach [b] X.env = (false, eval b X.env) :: starEach [] X.env := by rfl) (hpl : (backTo pos (starEach [b] X.env)).any (·.1) = false := by rfl) : TF X (.Call (.Name nm p') [a, b] [] pos) δ (f x y) δ2 := df_call C hr hk (da_cons ha (da_cons hb da_nil he2) he) ⟨x, y, h, rfl, rfl⟩ hg hdb he hpl
theorem tf_call3 {Pre : α → β → γ → Prop} {f : α → β → γ → List ρ} (C : Cl X.prog X.w X.K X.mg X.base k nm (spF X.K (L3' Pre f))) (hr : Room j X.A) (hk : k ≤ j) (ha : TE X a δ x δ1) (hb : TE X b δ1 y δ2) (hc : TE X c δ2 z δ3) (h : Pre x y z) (hg : Gl X nm := by rfl) (hdb : (nm == ("__debug__" : Str)) = false := by decide)
    (he : starEach [a, b, c] X.env = (false, eval a X.env) :: starEach [b, c] X.env := by rfl) (he2 : starEach [b, c] X.env = (false, eval b X.env) :: starEach [c] X.env := by rfl) (he3 : starEach [c] X.env = (false, eval c X.env) :: starEach [] X.env := by rfl) (hpl : (backTo pos (starEach [b, c] X.env)).any (·.1) = false := by rfl) : TF X (.Call (.Name nm p') [a, b, c] [] pos) δ (f x y z) δ3 := df_call C hr hk (da_cons ha (da_cons hb (da_cons hc da_nil he3) he2) he) ⟨x, y, z, h, rfl, rfl⟩ hg hdb he hpl
end
section
variable {α β γ ρ : Type} [DecidableEq α] [Datum α] [DecidableEq β] [Datum β] [DecidableEq γ] [Datum γ] [DecidableEq ρ] [Datum ρ]
variable {P : Program} {w : World} {K : PySem.W.Frag} {mg : Str → Option Value} {base : Heap} {x : Str} {st : Stmt} {f : Addr} {fd : FuncData} {N ps : List Str} {k : Nat}
/-- the body's start -/
def args (N : List Str) (ds : List (Option S)) : Dl := ds ++ List.replicate (N.length - ds.length) none
theorem fn_1 {Pre : α → Prop} {g : α → ρ} (Fn : L2.Fun K x x st f fd) (mgf : mg x = some (.ref f)) (b : Binds K fd ps []) (S : FnScope N ps (defScope st)) (hl : ps.length = 1) (n : Nat) (hn : N.length - 1 = n)
    (hb : ∀ a, Pre a → ∀ (cdv : Value) (A : Around) (outer : List PySem.Env) (s : Shared) (H : Hp) (E : XK), Room k (bA x st f cdv A s) → ∃ o, DSs (bX P w K mg base N x st f cdv A outer s H E) (defBody st) (sD a :: List.replicate n none) o ∧ ends (toD (g a)) o) : Cl P w K mg base (k + 1) x (spP K (F1 Pre g)) :=
  fn_P Fn mgf b S (fun ds d ⟨a, _, h, _⟩ => by rw [h, hl]; rfl) fun ds d ⟨a, ha, h, hd⟩ cdv A outer s H E hr => by
    subst h hd hn
    exact hb a ha cdv A outer s H E hr
theorem fn_2 {Pre : α → β → Prop} {g : α → β → ρ} (Fn : L2.Fun K x x st f fd) (mgf : mg x = some (.ref f)) (b : Binds K fd ps []) (S : FnScope N ps (defScope st)) (hl : ps.length = 2) (n : Nat) (hn : N.length - 2 = n)
    (hb : ∀ a b, Pre a b → ∀ (cdv : Value) (A : Around) (outer : List PySem.Env) (s : Shared) (H : Hp) (E : XK), Room k (bA x st f cdv A s) → ∃ o, DSs (bX P w K mg base N x st f cdv A outer s H E) (defBody st) (sD a :: sD b :: List.replicate n none) o ∧ ends (toD (g a b)) o) : Cl P w K mg base (k + 1) x (spP K (F2 Pre g)) :=
  fn_P Fn mgf b S (fun ds d ⟨a, b, _, h, _⟩ => by rw [h, hl]; rfl) fun ds d ⟨a, b, ha, h, hd⟩ cdv A outer s H E hr => by
    subst h hd hn
    exact hb a b ha cdv A outer s H E hr
theorem fn_3 {Pre : α → β → γ → Prop} {g : α → β → γ → ρ} (Fn : L2.Fun K x x st f fd) (mgf : mg x = some (.ref f)) (b : Binds K fd ps []) (S : FnScope N ps (defScope st)) (hl : ps.length = 3) (n : Nat) (hn : N.length - 3 = n)
    (hb : ∀ a b c, Pre a b c → ∀ (cdv : Value) (A : Around) (outer : List PySem.Env) (s : Shared) (H : Hp) (E : XK), Room k (bA x st f cdv A s) → ∃ o, DSs (bX P w K mg base N x st f cdv A outer s H E) (defBody st) (sD a :: sD b :: sD c :: List.replicate n none) o ∧ ends (toD (g a b c)) o) : Cl P w K mg base (k + 1) x (spP K (F3 Pre g)) :=
  fn_P Fn mgf b S (fun ds d ⟨a, b, c, _, h, _⟩ => by rw [h, hl]; rfl) fun ds d ⟨a, b, c, ha, h, hd⟩ cdv A outer s H E hr => by
    subst h hd hn
    exact hb a b c ha cdv A outer s H E hr
theorem fl_1 {Pre : α → Prop} {g : α → List ρ} (Fn : L2.Fun K x x st f fd) (mgf : mg x = some (.ref f)) (b : Binds K fd ps []) (S : FnScope N ps (defScope st)) (hl : ps.length = 1) (n : Nat) (hn : N.length - 1 = n)
    (hb : ∀ a, Pre a → ∀ (cdv : Value) (A : Around) (outer : List PySem.Env) (s : Shared) (H : Hp) (E : XK), Room k (bA x st f cdv A s) → ∃ δ', DSs (bX P w K mg base N x st f cdv A outer s H E) (defBody st) (sD a :: List.replicate n none) (.rf (.l ((g a).map toD)) δ')) : Cl P w K mg base (k + 1) x (spF K (L1 Pre g)) :=
  fn_F Fn mgf b S (fun ds d ⟨a, _, h, _⟩ => by rw [h, hl]; rfl) fun ds d ⟨a, ha, h, hd⟩ cdv A outer s H E hr => by
    subst h hd hn
    exact hb a ha cdv A outer s H E hr
theorem fl_2 {Pre : α → β → Prop} {g : α → β → List ρ} (Fn : L2.Fun K x x st f fd) (mgf : mg x = some (.ref f)) (b : Binds K fd ps []) (S : FnScope N ps (defScope st)) (hl : ps.length = 2) (n : Nat) (hn : N.length - 2 = n)
    (hb : ∀ a b, Pre a b → ∀ (cdv : Value) (A : Around) (outer : List PySem.Env) (s : Shared) (H : Hp) (E : XK), Room k (bA x st f cdv A s) → ∃ δ', DSs (bX P w K mg base N x st f cdv A outer s H E) (defBody st) (sD a :: sD b :: List.replicate n none) (.rf (.l ((g a b).map toD)) δ')) : Cl P w K mg base (k + 1) x (spF K (L2' Pre g)) :=
  fn_F Fn mgf b S (fun ds d ⟨a, b, _, h, _⟩ => by rw [h, hl]; rfl) fun ds d ⟨a, b, ha, h, hd⟩ cdv A outer s H E hr => by
    subst h hd hn
    exact hb a b ha cdv A outer s H E hr
theorem fl_3 {Pre : α → β → γ → Prop} {g : α → β → γ → List ρ} (Fn : L2.Fun K x x st f fd) (mgf : mg x = some (.ref f)) (b : Binds K fd ps []) (S : FnScope N ps (defScope st)) (hl : ps.length = 3) (n : Nat) (hn : N.length - 3 = n)
    (hb : ∀ a b c, Pre a b c → ∀ (cdv : Value) (A : Around) (outer : List PySem.Env) (s : Shared) (H : Hp) (E : XK), Room k (bA x st f cdv A s) → ∃ δ', DSs (bX P w K mg base N x st f cdv A outer s H E) (defBody st) (sD a :: sD b :: sD c :: List.replicate n none) (.rf (.l ((g a b c).map toD)) δ')) : Cl P w K mg base (k + 1) x (spF K (L3' Pre g)) :=
  fn_F Fn mgf b S (fun ds d ⟨a, b, c, _, h, _⟩ => by rw [h, hl]; rfl) fun ds d ⟨a, b, c, ha, h, hd⟩ cdv A outer s H E hr => by
    subst h hd hn
    exact hb a b c ha cdv A outer s H E hr
end
end G
set_option Elab.async false
set_option linter.all false
set_option maxRecDepth 100000
set_option maxHeartbeats 4000000
/-! GF: blocks that give a value (RT), that give a new list (RF); loops as folds. -/
namespace G
open PySem PySem.Spec L2
open PySem.W (Datum DatumOrd Tup)
def RT (X : Cx) (b : List Stmt) (δ : Dl) (d : PyData) : Prop := ∃ o, DSs X b δ o ∧ ends d o
def RF (X : Cx) (b : List Stmt) (δ : Dl) (c : Co) : Prop := ∃ δ', DSs X b δ (.rf c δ')
def RTB (X : Cx) (a rest : List Stmt) (δ : Dl) (d : PyData) : Prop := (∃ δ', DSs X a δ (.rt d δ')) ∨ ∃ δ2, DSs X a δ (.nx δ2) ∧ RT X rest δ2 d
section
variable {α β σ : Type} [DecidableEq α] [Datum α] [DecidableEq β] [Datum β]
variable {X : Cx} {st : Stmt} {rest body a b : List Stmt} {e c tg iter a' b' : Expr} {δ δ1 δ2 : Dl} {d : PyData} {co : Co} {pos tp p' : Pos} {p : Bool} {x y : α}
theorem rt_nil : RT X [] δ (toD ()) := ⟨_, dss_nil, .inr ⟨rfl, _, rfl⟩⟩
theorem rt_ret (h : TE X e δ x δ1) : RT X (.Return (some e) pos :: rest) δ (toD x) := ⟨_, dss_last (ds_ret h), .inl ⟨_, rfl⟩⟩
theorem rt_retD (h : DE X e δ (.d d) δ1) : RT X (.Return (some e) pos :: rest) δ d := ⟨_, dss_last (ds_ret h), .inl ⟨_, rfl⟩⟩
theorem rt_cons (h : DS X st δ (.nx δ1)) (k : RT X rest δ1 d) : RT X (st :: rest) δ d := let ⟨o, h1, h2⟩ := k; ⟨o, dss_cons h h1, h2⟩
theorem rt_from (h : RT X body δ1 d) (l : Le δ1 δ) : RT X body δ d := let ⟨o, h1, h2⟩ := h; ⟨o, dss_from h1 l, h2⟩
theorem rt_pre (h : RT X body δ1 d) (l : δ1 = δ) : RT X body δ d := by cases l; exact h
theorem rt_eqv {d' : PyData} (h : RT X body δ d) (l : d = d') : RT X body δ d' := by cases l; exact h
theorem rt_freeze (i : Nat) {ds : List PyData} (hq : δ[i]? = some (some (.o false (.l ds)))) (h : RT X rest (δ.set i (some (.d (.list ds)))) d) : RT X rest δ d := let ⟨o, h1, h2⟩ := h; ⟨o, ds_freeze i hq h1, h2⟩
theorem rtb_ret (h : TE X e δ x δ1) : RTB X (.Return (some e) pos :: body) rest δ (toD x) := .inl ⟨_, dss_last (ds_ret h)⟩
theorem rtb_on (h : DSs X a δ (.nx δ2)) (k : RT X rest δ2 d) : RTB X a rest δ d := .inr ⟨_, h, k⟩
theorem rtb_nil (k : RT X rest δ d) : RTB X [] rest δ d := .inr ⟨_, dss_nil, k⟩
theorem rt_ifD (hc : DT X c δ p δ1) (ha : p = true → RTB X a rest δ1 d) (hb : p = false → RTB X b rest δ1 d) : RT X (.If c a b pos :: rest) δ d := by
  cases p with
  | true =>
    rcases ha rfl with ⟨δ', h⟩ | ⟨δ2, h, o, h1, h2⟩
    · exact ⟨_, dss_if (o := .rt d δ') hc (fun _ => db_out h) (fun z => nomatch z), .inl ⟨_, rfl⟩⟩
    · exact ⟨_, dss_if hc (fun _ => db_on h h1) (fun z => nomatch z), h2⟩
  | false =>
    rcases hb rfl with ⟨δ', h⟩ | ⟨δ2, h, o, h1, h2⟩
    · exact ⟨_, dss_if (o := .rt d δ') hc (fun z => nomatch z) (fun _ => db_out h), .inl ⟨_, rfl⟩⟩
    · exact ⟨_, dss_if hc (fun z => nomatch z) (fun _ => db_on h h1), h2⟩
theorem rt_if (hc : DT X c δ p δ1) (ha : p = true → RTB X a rest δ1 (toD x)) (hb : p = false → RTB X b rest δ1 (toD y)) : RT X (.If c a b pos :: rest) δ (toD (if p = true then x else y)) := by
  refine rt_ifD hc (fun h => ?_) (fun h => ?_)
  · rw [if_pos h]; exact ha h
  · rw [if_neg (by rw [h]; decide)]; exact hb h
/-- raise is not come to -/
theorem rt_need (hc : DT X c δ p δ1) (hp : p = false) (hb : RT X rest δ1 d) : RT X (.If c a [] pos :: rest) δ d := rt_ifD hc (fun h => by rw [hp] at h; cases h) (fun _ => rtb_nil hb)
theorem rf_ret (h : DF X e δ co δ1) : RF X (.Return (some e) pos :: rest) δ co := ⟨_, dss_last (ds_retF h)⟩
theorem rf_cons (h : DS X st δ (.nx δ1)) (k : RF X rest δ1 co) : RF X (st :: rest) δ co := let ⟨o, h1⟩ := k; ⟨o, dss_cons h h1⟩
theorem rf_from (h : RF X body δ1 co) (l : Le δ1 δ) : RF X body δ co := let ⟨o, h1⟩ := h; ⟨o, dss_from h1 l⟩
theorem rf_if {c' : Expr} {xs ys : List α} (hc : DT X c' δ p δ1) (ha : p = true → ∃ δ', DSs X a δ1 (.rf (.l (xs.map toD)) δ')) (hb : p = false → RF X rest δ1 (.l (ys.map toD))) : RF X (.If c' a [] pos :: rest) δ (.l ((if p = true then xs else ys).map toD)) := by
  cases p with
  | true =>
    obtain ⟨δ', h⟩ := ha rfl
    exact ⟨_, dss_if hc (fun _ => db_out h) (fun z => nomatch z)⟩
  | false =>
    obtain ⟨δ', h⟩ := hb rfl
    exact ⟨_, dss_if hc (fun z => nomatch z) (fun _ => db_nil h)⟩
theorem rf_need (hc : DT X c δ p δ1) (hp : p = false) (hb : RF X rest δ1 co) : RF X (.If c a [] pos :: rest) δ co := by
  cases hp
  obtain ⟨δ', h⟩ := hb
  exact ⟨_, dss_if hc (fun z => nomatch z) (fun _ => db_nil h)⟩
/-- an own list given back -/
theorem rf_own : True := trivial
theorem le_refl (δ : Dl) : Le δ δ := ⟨rfl, fun _ _ h => h⟩
/-- the slots of δ' are those of δ, or forgotten -/
def leB : Dl → List Bool → Dl
  | [], _ => []
  | s :: δ, [] => s :: δ
  | s :: δ, b :: bs => (if b = true then none else s) :: leB δ bs
theorem leB_le : ∀ (δ : Dl) (bs : List Bool), Le (leB δ bs) δ
  | [], _ => ⟨rfl, fun _ _ h => h⟩
  | s :: δ, [] => ⟨rfl, fun _ _ h => h⟩
  | s :: δ, b :: bs => by
    have h := leB_le δ bs
    refine ⟨by show (leB δ bs).length + 1 = δ.length + 1; rw [h.1], fun j u q => ?_⟩
    cases j with
    | zero =>
      have q : some (if b = true then none else s) = some (some u) := q
      cases b with
      | true => cases q
      | false => exact q
    | succ j => exact h.2 j u (by simpa [leB] using q)
theorem le_of {δ' δ : Dl} (bs : List Bool) (e : δ' = leB δ bs) : Le δ' δ := by subst e; exact leB_le _ _
/-! ### loops as folds -/
theorem ts_for (src : List α) (init : σ) (F : σ → α → σ) (enc : σ → Dl) (i : Nat) {nm : Str} (hp : PassesOwn (model X.prog X.w) X.A X.env X.xe) (hc : X.calm = true) (hi : TI X (.Name nm tp) iter δ src δ1) (h0 : enc init = δ1)
    (hg : ∀ (st : σ) (x : α), DG X (.Name nm tp) [i] (toD x) (enc st) ((enc st).set i (sD x)))
    (hb : ∀ (st : σ) (x : α), (∃ pre post, src = pre ++ x :: post ∧ st = pre.foldl F init) → ∃ δx, DSs X body ((enc st).set i (sD x)) (.nx δx) ∧ Le (enc (F st x)) δx)
    (hs : ∀ x, foldedSetIterable iter X.env x = pure x := by intro _; rfl) : DS X (.For (.Name nm tp) iter body [] pos) δ (.nx (enc (src.foldl F init))) :=
  ds_forT (is := [i]) src toD (fun pre => enc (pre.foldl F init)) (fun pre x => (enc (pre.foldl F init)).set i (sD x)) hp hc hi h0 (fun pre x _ => hg _ x) (fun pre x post e => by
    obtain ⟨δx, h1, h2⟩ := hb (pre.foldl F init) x ⟨pre, post, e, rfl⟩
    exact ⟨_, δx, h1, .inl rfl, by rw [List.foldl_append]; exact h2⟩) hs
theorem ts_for2 {kk : Nat} {tpos px py : Pos} (src : List (α × β)) (init : σ) (F : σ → α × β → σ) (enc : σ → Dl) (i j : Nat) {nx ny : Str} (hp : PassesOwn (model X.prog X.w) X.A X.env X.xe) (hc : X.calm = true) (hi : TI X (.Tuple [.Name nx px, .Name ny py] kk tpos) iter δ src δ1) (h0 : enc init = δ1)
    (hg : ∀ (st : σ) (x : α × β), DG X (.Tuple [.Name nx px, .Name ny py] kk tpos) [i, j] (toD x) (enc st) (((enc st).set i (sD x.1)).set j (sD x.2)))
    (hb : ∀ (st : σ) (x : α × β), (∃ pre post, src = pre ++ x :: post ∧ st = pre.foldl F init) → ∃ δx, DSs X body (((enc st).set i (sD x.1)).set j (sD x.2)) (.nx δx) ∧ Le (enc (F st x)) δx)
    (hs : ∀ x, foldedSetIterable iter X.env x = pure x := by intro _; rfl) : DS X (.For (.Tuple [.Name nx px, .Name ny py] kk tpos) iter body [] pos) δ (.nx (enc (src.foldl F init))) :=
  ds_forT (is := [i, j]) src toD (fun pre => enc (pre.foldl F init)) (fun pre x => ((enc (pre.foldl F init)).set i (sD x.1)).set j (sD x.2)) hp hc hi h0 (fun pre x _ => hg _ x) (fun pre x post e => by
    obtain ⟨δx, h1, h2⟩ := hb (pre.foldl F init) x ⟨pre, post, e, rfl⟩
    exact ⟨_, δx, h1, .inl rfl, by rw [List.foldl_append]; exact h2⟩) hs
/-- x = e -/
theorem ts_set (i : Nat) {nm : Str} (hN : X.N.Nodup) (he : TE X e δ x δ1) (hi : X.N[i]? = some nm := by rfl) (hx : Loc X.env.scope nm := by first | exact Or.inl rfl | exact Or.inr rfl) (hs : swapsWith e (some (.Name nm p')) pos.line X.env = pure false := by rfl)
    (hf : X.fn nm = true ∨ X.env.scope.names.lookup nm = some .local := by first | exact .inl rfl | exact .inr rfl | assumption) : DS X (.Assign [.Name nm p'] e pos) δ (.nx (δ1.set i (sD x))) := ds_set i hN he hi hx hs hf
/-- x = [..], an own list -/
theorem ts_own (i : Nat) {nm : Str} {xs : List α} (hN : X.N.Nodup) (he : TF X e δ xs δ1) (hi : X.N[i]? = some nm := by rfl) (hx : Loc X.env.scope nm := by first | exact Or.inl rfl | exact Or.inr rfl) (hs : swapsWith e (some (.Name nm p')) pos.line X.env = pure false := by rfl)
    (hf : X.fn nm = true ∨ X.env.scope.names.lookup nm = some .local := by first | exact .inl rfl | exact .inr rfl | assumption) : DS X (.Assign [.Name nm p'] e pos) δ (.nx (δ1.set i (sL xs))) := ds_setF i hN he hi hx hs hf
theorem te_own (i : Nat) {nm : Str} {xs : List α} (hq : δ[i]? = some (sL xs) := by rfl) (hN : X.N[i]? = some nm := by rfl) (hv : Vis X.env.scope nm := by first | exact Or.inl rfl | exact Or.inr (Or.inl rfl) | exact Or.inr (Or.inr rfl)) (hd : (nm == ("__debug__" : Str)) = false := by decide)
    (hcd : (nm == ("__classdict__" : Str)) = false := by decide) : DE X (.Name nm pos) δ (.s i) δ := de_own i hq hN hv hd hcd
/-- xs.append(e) -/
theorem ts_append (i : Nat) {nm : Str} {px ap cp : Pos} {xs : List α} (he : TE X e δ x δ) (hz : xs.length < sizeLine) (hq : δ[i]? = some (sL xs) := by rfl)
    (hN : X.N[i]? = some nm := by rfl) (hv : Vis X.env.scope nm := by first | exact Or.inl rfl | exact Or.inr (Or.inl rfl) | exact Or.inr (Or.inr rfl)) (hd : (nm == ("__debug__" : Str)) = false := by decide)
    (hcd : (nm == ("__classdict__" : Str)) = false := by decide)
    (hbase : attributeBase (.Name nm px) "append" X.env (eval (.Name nm px) X.env) = eval (.Name nm px) X.env := by rfl)
    (hfew : ((backTo cp (starEach [e] X.env)).all (fun x => !x.1) && (backToKw cp (keywordEach [] X.env)).all (fun x => x.1.isSome) && decide ([e].length + ([] : List Keyword).length + (if ([] : List Keyword).isEmpty then 0 else 1) < 30)) = true := by rfl)
    (hline : (ap.endLine == cp.line) = true := by rfl) (hs : starEach [e] X.env = (false, eval e X.env) :: starEach [] X.env := by rfl) (hplain : (backTo cp (starEach [] X.env)).any (·.1) = false := by rfl)
    (hsw : swapsWith (.Call (.Attribute (.Name nm px) "append" ap) [e] [] cp) none pos.line X.env = pure false := by rfl) :
    DS X (.Expr (.Call (.Attribute (.Name nm px) "append" ap) [e] [] cp) pos) δ (.nx (δ.set i (sL (xs ++ [x])))) := by
  have k := ds_append (X := X) (pos := pos) (px := px) (ap := ap) (cp := cp) i hq he ⟨_, _, hq⟩ (by rw [List.length_map]; exact hz) hN hv hd hcd hbase hfew hline hs hplain hsw
  unfold sL
  rw [List.map_append]
  exact k
theorem ts_expr (h : TE X e δ x δ1) (hs : swapsWith e none pos.line X.env = pure false := by rfl) : DS X (.Expr e pos) δ (.nx δ1) := ds_expr h hs
theorem te_glob {nm : Str} {i : Int} (hm : ∃ t, X.mg nm = some (.int i t)) (hg : Gl X nm := by rfl) (hd : (nm == ("__debug__" : Str)) = false := by decide) : TE X (.Name nm pos) δ i δ := let ⟨t, h⟩ := hm; de_globI h hg hd
theorem te_un {op : UnaryOp} {g : Int → Int} {i : Int} (ho : UnR X (unaryOp op) (rU fun i => .int (g i))) (ha : TE X e δ i δ1) : TE X (.UnaryOp op e pos) δ (g i) δ1 :=
  PE.szd (pe_un ho ha) fun σ H Q z ⟨β, O, W, E, k⟩ => ⟨β, O, W, E, fun v H1 z1 E1 f1 h1 => ⟨i, h1.int', E1.gave f1 k _ H1 Ex.rfl (.int _)⟩⟩
theorem te_inv {i : Int} (ha : TE X e δ i δ1) : TE X (.UnaryOp .Invert e pos) δ (Builtin.bitNot i) δ1 := te_un un_inv ha
theorem te_neg {i : Int} (ha : TE X e δ i δ1) : TE X (.UnaryOp .USub e pos) δ (-i) δ1 := te_un un_neg ha
theorem te_abs {i : Int} (ha : TE X e δ i δ1) (hm : X.mg "abs" = none) (hg : Gl X "abs" := by rfl) (he : starEach [e] X.env = (false, eval e X.env) :: starEach [] X.env := by rfl) : TE X (.Call (.Name "abs" p') [e] [] pos) δ (i.natAbs : Int) δ1 := de_abs ha hm hg he
theorem te_intI {i : Int} (ha : TE X e δ i δ1) (hm : X.mg "int" = none) (hg : Gl X "int" := by rfl) (he : starEach [e] X.env = (false, eval e X.env) :: starEach [] X.env := by rfl) : TE X (.Call (.Name "int" p') [e] [] pos) δ i δ1 := de_intI ha hm hg he
theorem tt_int {i : Int} (h : TE X e δ i δ1) (he : ∀ whole, isTrue e X.env whole = (do let v ← whole; standAt e.pos; holding [v] (truthy v)) := by intro _; rfl) : DT X e δ (i != 0) δ1 := dt_int h he
theorem tt_lele {i j k : Int} (ha : TE X a' δ i δ) (hb : TE X b' δ j δ) (hc : TE X c δ k δ) (hm : lastMarks [.LtE, .LtE] [b', c] = false := by with_unfolding_all rfl) : DT X (.Compare a' [.LtE, .LtE] [b', c] pos) δ (decide (i ≤ j) && decide (j ≤ k)) δ := dt_chain op_le op_le ha hb hc hm
end
end G
set_option Elab.async false
set_option linter.all false
set_option maxRecDepth 100000
set_option maxHeartbeats 4000000
/-! GL: comprehensions with two fors, typed, that change no own slot. -/
namespace G
open PySem PySem.Spec L2
open PySem.W (Datum DatumOrd Tup)
theorem wipe_sub {σ : L2.St} {vs us : List Nat} (h : ∀ j ∈ us, j ∈ vs) : wipe (wipe σ us) vs = wipe σ vs := by
  apply List.ext_getElem?
  intro i
  by_cases hi : i < σ.length
  · by_cases e : i ∈ vs
    · rw [wipe_in e (by rw [wipe_length]; exact hi), wipe_in e hi]
    · rw [wipe_ne e, wipe_ne e, wipe_ne fun z => e (h i z)]
  · rw [wipe_ge (by rw [wipe_length]; omega), wipe_ge (by omega)]
theorem PI.any {X : Cx} {tg e : Expr} {ι : Sort _} {t : ι → L2.TI} (h : ∀ i, PI X tg e (t i)) : PI X tg e (fun σ H R => ∃ i, t i σ H R) := ⟨fun pins s σ H R I ⟨i, q⟩ => (h i).run pins s σ H R I q⟩
/-- the slots of the block are the def's again -/
theorem Sta.unwipe {K : PySem.W.Frag} {β : Bs} {O O2 W : Ad} {H1 Hi : Hp} {σ : L2.St} {δ1 : Dl} {vs : List Nat} (E1 : Sta K β O W H1 σ δ1) (Ei : Sta K β O2 W Hi (wipe σ vs) (wipeD δ1 vs)) (fO : Fr O H1 Hi) (mo : More O H1 O2) (hvs : ∀ j ∈ vs, isO (δ1.getD j none) = false) : Sta K β O2 W Hi σ δ1 := by
  refine ⟨E1.len, fun j d q => ?_, fun j b c q => ?_, fun j v q => ?_, fun j l b b' c e p q1 q2 q3 q4 => ?_, Ei.keep, Ei.sub, Ei.dom, Ei.subB, Ei.wo, Ei.bO⟩
  · by_cases hj : j ∈ vs
    · obtain ⟨v, h1, h2⟩ := E1.dat j d q
      exact ⟨v, h1, h2.grow fO mo⟩
    · have := Ei.dat j d (by rw [wipeD_ne hj]; exact q)
      rw [wipe_ne hj] at this
      exact this
  · by_cases hj : j ∈ vs
    · have := hvs j hj
      rw [List.getD_eq_getElem?_getD, q] at this
      cases this
    · have := Ei.own j b c (by rw [wipeD_ne hj]; exact q)
      rw [wipe_ne hj] at this
      exact this
  · exact E1.raw j v q
  · exact E1.inj j l b b' c e p q1 q2 q3 q4
abbrev Me {α : Type} (l : List α) := {x : α // x ∈ l}
section
variable {α β γ : Type} [DecidableEq α] [Datum α] [DecidableEq β] [Datum β] [DecidableEq γ] [Datum γ]
variable {X : Cx} {elt tg iter tg1 iter1 : Expr} {ifs ifs1 : List Expr} {scope : Scope} {own : List (Str × Nat)} {pos : Pos} {δ δ1 : Dl}
def row2 (p0 : α → Bool) (src1 : α → List β) (p : α → β → Bool) (g : α → β → γ) (x : α) : List γ := if p0 x = true then ((src1 x).filter (p x)).map (g x) else []
theorem lc2_reads {src : List α} {p0 : α → Bool} {src1 : α → List β} {p : α → β → Bool} {g : α → β → γ} {δa : α → Dl} {δb : α → β → Dl} {vs is vs1 is1 : List Nat}
    (hz : (src.flatMap (row2 p0 src1 p g)).length ≤ sizeLine) (hs : ∀ j ∈ is, j ∈ vs) (hs1 : ∀ j ∈ is1, j ∈ vs1) (hv1 : ∀ j ∈ vs1, j ∈ vs)
    (hst1 : ∀ x y, wipeD (δb x y) vs1 = wipeD (δa x) vs1) (hst : ∀ x, wipeD (wipeD (δa x) vs1) vs = wipeD δ1 vs) (hst0 : ∀ x, wipeD (δa x) vs = wipeD δ1 vs) (hvs : ∀ j ∈ vs, isO (δ1.getD j none) = false)
    {K : PySem.W.Frag} {σ : L2.St} {H : Hp} {Q : VK} (hR : rF K δ (.l ((src.flatMap (row2 p0 src1 p g)).map toD)) δ1 σ H Q) :
    tLc2 (rI K δ (src.map toD) δ1) (fun v σ H Q => ∃ x : Me src, rG K is (toD x.1) (wipeD δ1 vs) (δa x.1) v σ H Q) (fun σ H Q => ∃ x : Me src, rT K (δa x.1) (p0 x.1) (δa x.1) σ H Q)
      (fun σ H R => ∃ x : Me src, rI K (δa x.1) ((src1 x.1).map toD) (δa x.1) σ H R) (fun v σ H Q => ∃ x : Me src, ∃ y : Me (src1 x.1), rG K is1 (toD y.1) (wipeD (δa x.1) vs1) (δb x.1 y.1) v σ H Q)
      (fun σ H Q => ∃ x : Me src, ∃ y : Me (src1 x.1), rT K (δb x.1 y.1) (p x.1 y.1) (δb x.1 y.1) σ H Q) (fun σ H Q => ∃ x : Me src, ∃ y : Me (src1 x.1), ∃ _ : p x.1 y.1 = true, rE K (δb x.1 y.1) (.d (toD (g x.1 y.1))) (δb x.1 y.1) σ H Q)
      vs vs1 σ H (fun v H' => Sz K H' → Q v H') := by
  obtain ⟨β0, O, W, E, k⟩ := hR
  refine ⟨β0, O, W, E, fun J H1 z1 E1 f1 w1 => fun D hD => ?_⟩
  have nD : ¬ O D := E1.new0 hD
  have nW : ¬ W D := fun z => nD (E1.wo D z)
  have hH : β0.H D = none := E1.newB hD
  have E1i : Sta K β0 (ins D O) W (upd H1 D (.lst [])) σ δ1 := E1.insN hD upd_same (Ex.new hD)
  let Pv : Nat → Hp → Prop := fun i H => Sta K β0 (ins D O) W H (wipe σ vs) (wipeD δ1 vs) ∧ Fr W H1 H ∧ ∃ acc, H D = some (.lst acc) ∧ IsAll K (ins D O) H acc (((src.take i).flatMap (row2 p0 src1 p g)).map toD)
  have mo : More O H1 (ins D O) := fun a h => by
    rcases h with h | h
    · exact .inr (by rw [h]; exact hD)
    · exact .inl h
  refine ⟨fun i m H => m = src.length - i ∧ i ≤ src.length ∧ Pv i H, ⟨src.length, by simp, Nat.zero_le _, E1i.wiped vs, (Ex.new hD).fr, [], upd_same, .nil⟩, ?_⟩
  rintro i m Hi ⟨rfl, hi, Ei, fi, acc, hacc, hall⟩
  obtain ⟨ws, wg⟩ := w1.2 (ins D O) Hi (E1.up fi) mo Ei.dom
  by_cases hlt : i < src.length
  · have hd : (src.map toD)[i]? = some (toD src[i]) := by rw [List.getElem?_map, List.getElem?_eq_getElem hlt]; rfl
    obtain ⟨go, yl⟩ := wg i _ hd
    have mx : src[i] ∈ src := List.getElem_mem hlt
    have tk : src.take (i + 1) = src.take i ++ [src[i]] := by rw [List.take_add_one, List.getElem?_eq_getElem hlt]; rfl
    have fm : (src.take (i + 1)).flatMap (row2 p0 src1 p g) = (src.take i).flatMap (row2 p0 src1 p g) ++ row2 p0 src1 p g src[i] := by rw [tk, List.flatMap_append]; simp
    have lenb : ((src.take (i + 1)).flatMap (row2 p0 src1 p g)).length ≤ (src.flatMap (row2 p0 src1 p g)).length := by
      conv => rhs; rw [← List.take_append_drop (i + 1) src, List.flatMap_append, List.length_append]
      omega
    refine .inr ⟨go, Pv (i + 1), fun H' p' => ⟨src.length - (i + 1), by omega, rfl, hlt, p'⟩, fun x H2 y => ?_⟩
    obtain ⟨e2, i2⟩ := yl x H2 y
    refine ⟨⟨src[i], mx⟩, β0, ins D O, W, Ei.ex e2, i2, fun σ2 hl2 hj2 E2 => ⟨?_, ⟨src[i], mx⟩, β0, ins D O, W, E2, fun H3 z3 E3 f3 => ?_⟩⟩
    · rw [wipe_eq hl2 hj2 hs, wipe_wipe]
    have w2 : wipe σ2 vs = wipe σ vs := by rw [wipe_eq hl2 hj2 hs, wipe_wipe]
    have h3D : H3 D = some (.lst acc) := f3 D _ (e2 D _ hacc) nW
    have fr3 : Fr W H1 H3 := fi.tr (e2.fr.tr f3)
    have hall3 : IsAll K (ins D O) H3 acc (((src.take i).flatMap (row2 p0 src1 p g)).map toD) := (hall.ex e2).fr (E3.up f3)
    cases hp : p0 src[i] with
    | false =>
      refine iteF ?_
      refine ⟨?_, fr3, acc, h3D, ?_⟩
      · have := E3.wiped vs
        rw [w2, hst0] at this
        exact this
      · rw [fm, show row2 p0 src1 p g src[i] = [] from if_neg (by rw [hp]; decide), List.append_nil]
        exact hall3
    | true =>
      refine iteT ?_
      have rowx : row2 p0 src1 p g src[i] = ((src1 src[i]).filter (p src[i])).map (g src[i]) := if_pos hp
      refine ⟨⟨src[i], mx⟩, β0, ins D O, W, E3, fun J1 H4 z4 E4 f4 wk => ?_⟩
      have h4D : H4 D = some (.lst acc) := f4 D _ h3D nW
      refine ⟨fun j kk H => kk = (src1 src[i]).length - j ∧ j ≤ (src1 src[i]).length ∧ Sta K β0 (ins D O) W H (wipe σ2 vs1) (wipeD (δa src[i]) vs1) ∧ Fr W H1 H ∧ Fr (ins D O) H4 H ∧ ∃ ac, H D = some (.lst ac) ∧
        IsAll K (ins D O) H ac (((src.take i).flatMap (row2 p0 src1 p g) ++ (((src1 src[i]).take j).filter (p src[i])).map (g src[i])).map toD),
        ⟨(src1 src[i]).length, by simp, Nat.zero_le _, E4.wiped vs1, fr3.tr f4, Fr.rfl, acc, h4D, by simpa using hall3.fr (E3.up f4)⟩, ?_⟩
      rintro j kk Hj ⟨rfl, hj, Ej, fj1, fj, ac, hac, hal⟩
      obtain ⟨ws1, wg1⟩ := wk.2 (ins D O) Hj fj More.rfl Ej.dom
      by_cases hl1 : j < (src1 src[i]).length
      · have hd1 : ((src1 src[i]).map toD)[j]? = some (toD (src1 src[i])[j]) := by rw [List.getElem?_map, List.getElem?_eq_getElem hl1]; rfl
        obtain ⟨go1, yl1⟩ := wg1 j _ hd1
        have my : (src1 src[i])[j] ∈ src1 src[i] := List.getElem_mem hl1
        have tk1 : (src1 src[i]).take (j + 1) = (src1 src[i]).take j ++ [(src1 src[i])[j]] := by rw [List.take_add_one, List.getElem?_eq_getElem hl1]; rfl
        refine .inr ⟨go1, fun H' => j + 1 ≤ (src1 src[i]).length ∧ Sta K β0 (ins D O) W H' (wipe σ2 vs1) (wipeD (δa src[i]) vs1) ∧ Fr W H1 H' ∧ Fr (ins D O) H4 H' ∧ ∃ ac, H' D = some (.lst ac) ∧
          IsAll K (ins D O) H' ac (((src.take i).flatMap (row2 p0 src1 p g) ++ (((src1 src[i]).take (j + 1)).filter (p src[i])).map (g src[i])).map toD), fun H' q => ⟨_, by omega, rfl, q⟩, fun x1 H5 y1 => ?_⟩
        obtain ⟨e5, i5⟩ := yl1 x1 H5 y1
        refine ⟨⟨src[i], mx⟩, ⟨_, my⟩, β0, ins D O, W, Ej.ex e5, i5, fun σ3 hl3 hj3 E5 => ⟨?_, ⟨src[i], mx⟩, ⟨_, my⟩, β0, ins D O, W, E5, fun H6 z6 E6 f6 => ?_⟩⟩
        · rw [wipe_eq hl3 hj3 hs1, wipe_wipe]
        have w3 : wipe σ3 vs1 = wipe σ2 vs1 := by rw [wipe_eq hl3 hj3 hs1, wipe_wipe]
        have back : ∀ {H9 : Hp}, Sta K β0 (ins D O) W H9 σ3 (δb src[i] (src1 src[i])[j]) → Sta K β0 (ins D O) W H9 (wipe σ2 vs1) (wipeD (δa src[i]) vs1) := fun {H9} Ex => by
          have := Ex.wiped vs1
          rw [w3, hst1] at this
          exact this
        have h6D : H6 D = some (.lst ac) := f6 D _ (e5 D _ hac) nW
        have fr6 : Fr W H1 H6 := fj1.tr (e5.fr.tr f6)
        have fq6 : Fr (ins D O) H4 H6 := fj.tr (e5.fr.tr (E5.up f6))
        have hal6 := (hal.ex e5).fr (E5.up f6)
        cases hp1 : p src[i] (src1 src[i])[j] with
        | false =>
          refine iteF ?_
          refine ⟨hl1, back E6, fr6, fq6, ac, h6D, ?_⟩
          rw [tk1, List.filter_append, List.filter_cons, if_neg (by rw [hp1]; decide), List.filter_nil, List.append_nil]
          exact hal6
        | true =>
          refine iteT ?_
          refine ⟨⟨src[i], mx⟩, ⟨_, my⟩, hp1, β0, ins D O, W, E6, fun y H7 z7 E7 f7 h7 => ?_⟩
          have h7D : H7 D = some (.lst ac) := f7 D _ h6D nW
          have eq1 : ((src1 src[i]).take (j + 1)).filter (p src[i]) = ((src1 src[i]).take j).filter (p src[i]) ++ [(src1 src[i])[j]] := by
            rw [tk1, List.filter_append, List.filter_cons, if_pos hp1, List.filter_nil]
          have hl : ac.length < sizeLine := by
            have h1 := hal.len
            rw [List.length_map, List.length_append, List.length_map] at h1
            have h2 : (((src1 src[i]).take (j + 1)).filter (p src[i])).length ≤ ((src1 src[i]).filter (p src[i])).length := by
              conv => rhs; rw [← List.take_append_drop (j + 1) (src1 src[i]), List.filter_append, List.length_append]
              omega
            rw [eq1, List.length_append, List.length_singleton] at h2
            have h3 := lenb
            rw [fm, List.length_append, rowx, List.length_map] at h3
            omega
          have pk : Fr (ins D O) H7 (upd H7 D (.lst (ac ++ [y]))) := fun a u q n => by
            rw [upd_ne fun z => n (.inl z)]
            exact q
          refine ⟨ac, h7D, hl, hl1, (back E7).poke (.inl rfl) nW hH _, ?_, (fq6.tr (E6.up f7)).tr pk, ac ++ [y], upd_same, ?_⟩
          · intro a u q n
            by_cases e : a = D
            · subst e
              rw [hD] at q
              cases q
            · rw [upd_ne e]
              exact f7 a u (fr6 a u q n) n
          · rw [eq1, show (((src.take i).flatMap (row2 p0 src1 p g) ++ (((src1 src[i]).take j).filter (p src[i]) ++ [(src1 src[i])[j]]).map (g src[i])).map toD) = ((src.take i).flatMap (row2 p0 src1 p g) ++ (((src1 src[i]).take j).filter (p src[i])).map (g src[i])).map toD ++ [toD (g src[i] (src1 src[i])[j])] by simp]
            exact ((hal6.fr (E6.up f7)).app (.one h7)).fr pk
      · have ej : j = (src1 src[i]).length := by omega
        refine .inl ⟨ws1 j (Nat.le_trans (Nat.le_of_eq (List.length_map ..)) (Nat.le_of_not_lt hl1)), ?_, fj1, ac, hac, ?_⟩
        · have := Ej.wiped vs
          rw [wipe_sub hv1, w2, hst] at this
          exact this
        · rw [fm, rowx]
          rw [ej, List.take_length] at hal
          exact hal
  · have e : i = src.length := by omega
    subst e
    refine .inl ⟨ws _ (by rw [List.length_map]; omega), fun z => ?_⟩
    rw [List.take_length] at hall
    refine k D _ Hi z (E.wasNew E1 f1 hD) ?_ (f1.tr fi) hacc hall hH
    exact E1.unwipe Ei (E1.up fi) mo hvs
/-- [elt for x in xs if c for y in ys if d] -/
theorem t_lcc {src : List α} (p0 : α → Bool) (src1 : α → List β) (p : α → β → Bool) (g : α → β → γ) (δa : α → Dl) (δb : α → β → Dl) (vs1 is is1 : List Nat) (hc : X.calm = true) (hN : X.N.Nodup) (hi : TI X tg iter δ src δ1) (ok : BlkOk X.N X.env.scope scope own)
    (hz : (src.flatMap (row2 p0 src1 p g)).length ≤ sizeLine) (hs : ∀ j ∈ is, j ∈ own.map (·.2)) (hs1 : ∀ j ∈ is1, j ∈ vs1) (hv1 : ∀ j ∈ vs1, j ∈ own.map (·.2))
    (hst1 : ∀ x y, wipeD (δb x y) vs1 = wipeD (δa x) vs1) (hst : ∀ x, wipeD (wipeD (δa x) vs1) (own.map (·.2)) = wipeD δ1 (own.map (·.2))) (hst0 : ∀ x, wipeD (δa x) (own.map (·.2)) = wipeD δ1 (own.map (·.2))) (hvs : ∀ j ∈ own.map (·.2), isO (δ1.getD j none) = false)
    (hg : ∀ x, x ∈ src → ∀ (s : Shared) (H : Hp) (C : Addr) (cl : List (Str × Addr)) (fp : List Addr), DG (X.blk s H scope (compEnvC scope cl C X.env) fp) tg is (toD x) (wipeD δ1 (own.map (·.2))) (δa x))
    (ht : ∀ x, x ∈ src → ∀ (s : Shared) (H : Hp) (C : Addr) (cl : List (Str × Addr)) (fp : List Addr), DTs (X.blk s H scope (compEnvC scope cl C X.env) fp) ifs (δa x) (p0 x) (δa x))
    (hi1 : ∀ x, x ∈ src → ∀ (s : Shared) (H : Hp) (C : Addr) (cl : List (Str × Addr)) (fp : List Addr), TI (X.blk s H scope (compEnvC scope cl C X.env) fp) tg1 iter1 (δa x) (src1 x) (δa x))
    (hg1 : ∀ x, x ∈ src → ∀ y, y ∈ src1 x → ∀ (s : Shared) (H : Hp) (C : Addr) (cl : List (Str × Addr)) (fp : List Addr), DG (X.blk s H scope (compEnvC scope cl C X.env) fp) tg1 is1 (toD y) (wipeD (δa x) vs1) (δb x y))
    (ht1 : ∀ x, x ∈ src → ∀ y, y ∈ src1 x → ∀ (s : Shared) (H : Hp) (C : Addr) (cl : List (Str × Addr)) (fp : List Addr), DTs (X.blk s H scope (compEnvC scope cl C X.env) fp) ifs1 (δb x y) (p x y) (δb x y))
    (he : ∀ x, x ∈ src → ∀ y, y ∈ src1 x → p x y = true → ∀ (s : Shared) (H : Hp) (C : Addr) (cl : List (Str × Addr)) (fp : List Addr), TE (X.blk s H scope (compEnvC scope cl C X.env) fp) elt (δb x y) (g x y) (δb x y))
    (hf : ∀ x, foldedSetIterable iter X.env x = pure x := by intro _; rfl) (hf1 : ∀ env x, foldedSetIterable iter1 env x = pure x := by intro _ _; rfl) : TF X (.ListComp elt [⟨tg, iter, ifs, 0⟩, ⟨tg1, iter1, ifs1, 0⟩] scope pos) δ (src.flatMap (row2 p0 src1 p g)) δ1 :=
  PE.szd (pe_lc2 hc hN hi ok hv1 (fun s H C cl fp => PG.any fun x : Me src => hg x.1 x.2 s H C cl fp) (fun s H C cl fp => PTs.any fun x : Me src => ht x.1 x.2 s H C cl fp) (fun s H C cl fp => PI.any fun x : Me src => hi1 x.1 x.2 s H C cl fp)
    (fun s H C cl fp => PG.any fun x : Me src => PG.any fun y : Me (src1 x.1) => hg1 x.1 x.2 y.1 y.2 s H C cl fp) (fun s H C cl fp => PTs.any fun x : Me src => PTs.any fun y : Me (src1 x.1) => ht1 x.1 x.2 y.1 y.2 s H C cl fp)
    (fun s H C cl fp => PE.any fun x : Me src => PE.any fun y : Me (src1 x.1) => PE.any fun q : p x.1 y.1 = true => he x.1 x.2 y.1 y.2 q s H C cl fp) hf hf1)
    fun σ H Q z h => lc2_reads hz hs hs1 hv1 hst1 hst hst0 hvs h
end
end G
set_option Elab.async false
set_option linter.all false
set_option maxRecDepth 100000
set_option maxHeartbeats 4000000
/-! GG: list(range(..)); blocks that also change a lent list (RK); the laws' numbers (cup, roll). -/
namespace G
open PySem PySem.Spec L2
open PySem.W (Datum DatumOrd Tup)
theorem isall_ints {K : PySem.W.Frag} {O : Ad} {H : Hp} {ι : Type} (f : ι → Int) : ∀ l : List ι, IsAll K O H (l.map fun i => V.int (f i)) (l.map fun i => PyData.int (f i))
  | [] => .nil
  | x :: l => .cons (.int _) (isall_ints f l)
section
variable {X : Cx} {a b c e : Expr} {st : Stmt} {rest body : List Stmt} {δ δ1 δ2 : Dl} {pos p' p2 p3 : Pos} {n lo : Int} {d : PyData} {co co' : Co} {p : Bool}
theorem tf_listRg (hc : X.calm = true) (ha : TE X a δ n δ1) (hm : X.mg "list" = none) (hm2 : X.mg "range" = none) (h0 : -(2 ^ 62) ≤ n) (hn : n ≤ 2 ^ 24) (hg : Gl X "list" := by rfl) (hg2 : Gl X "range" := by rfl) (hs : starEach [a] X.env = (false, eval a X.env) :: starEach [] X.env := by rfl)
    (na : starEach [Expr.Call (.Name "range" p2) [a] [] p'] X.env = (false, eval (Expr.Call (.Name "range" p2) [a] [] p') X.env) :: starEach [] X.env := by rfl) : TF X (.Call (.Name "list" p3) [.Call (.Name "range" p2) [a] [] p'] [] pos) δ (rangeI 0 n.toNat) δ1 :=
  PE.szd (pe_listRg hc hg hm (prg_1 hg2 hm2 ha hs) na) fun σ H Q z ⟨β, O, W, E, k⟩ => ⟨β, O, W, E, fun v H1 z1 E1 f1 h1 => ⟨n, h1.int', ⟨by omega, by omega, by omega, by omega, by omega⟩, fun q hq => by
    refine E1.made E f1 k q _ _ hq (Ex.new hq) upd_same ?_
    show IsAll X.K O H1 (rgV 0 n) ((rangeI 0 n.toNat).map toD)
    unfold rgV rangeI
    rw [List.map_map, Int.sub_zero]
    exact isall_ints _ _⟩⟩
/-- two names for a pair of data, one test -/
theorem d_lc2if {γ : Type} [DecidableEq γ] [Datum γ] {elt iter : Expr} {scope : Scope} {kk : Nat} {tpos px py : Pos} {xs ys : List PyData} (q : PyData × PyData → Bool) (g : PyData × PyData → γ) (i j : Nat) {x y : Str} (hc : X.calm = true) (hN : X.N.Nodup) (hij : i ≠ j) (hi : DI X (.Tuple [.Name x px, .Name y py] kk tpos) iter δ (zipD xs ys) δ1) (ok : BlkOk X.N X.env.scope scope [(x, i), (y, j)])
    (hg : ∀ x', x' ∈ xs.zip ys → ∀ (s : Shared) (H : Hp) (C : Addr) (cl : List (Str × Addr)) (fp : List Addr), DG (X.blk s H scope (compEnvC scope cl C X.env) fp) (.Tuple [.Name x px, .Name y py] kk tpos) [i, j] (.tuple [x'.1, x'.2]) ((δ1.set j none).set i none) ((((δ1.set j none).set i none).set i (some (.d x'.1))).set j (some (.d x'.2))))
    (ht : ∀ x', x' ∈ xs.zip ys → ∀ (s : Shared) (H : Hp) (C : Addr) (cl : List (Str × Addr)) (fp : List Addr), DT (X.blk s H scope (compEnvC scope cl C X.env) fp) c ((((δ1.set j none).set i none).set i (some (.d x'.1))).set j (some (.d x'.2))) (q x') ((((δ1.set j none).set i none).set i (some (.d x'.1))).set j (some (.d x'.2))))
    (he : ∀ x', x' ∈ xs.zip ys → q x' = true → ∀ (s : Shared) (H : Hp) (C : Addr) (cl : List (Str × Addr)) (fp : List Addr), TE (X.blk s H scope (compEnvC scope cl C X.env) fp) elt ((((δ1.set j none).set i none).set i (some (.d x'.1))).set j (some (.d x'.2))) (g x') ((((δ1.set j none).set i none).set i (some (.d x'.1))).set j (some (.d x'.2))))
    (hvs : isO (δ1.getD i none) = false := by rfl) (hvs2 : isO (δ1.getD j none) = false := by rfl) (hf : ∀ x, foldedSetIterable iter X.env x = pure x := by intro _; rfl) : TF X (.ListComp elt [⟨.Tuple [.Name x px, .Name y py] kk tpos, iter, [c], 0⟩] scope pos) δ (((xs.zip ys).filter q).map g) δ1 := by
  have k := df_lc (X := X) (own := [(x, i), (y, j)]) (pos := pos) (elt := elt) (xs.zip ys) (fun p => .tuple [p.1, p.2]) q (fun p => toD (g p)) (fun x' => (((δ1.set j none).set i none).set i (some (.d x'.1))).set j (some (.d x'.2))) hc hN hi ok [i, j] (fun j hj => hj) hg (fun x' h s H C cl fp => dts_one (ht x' h s H C cl fp)) he (fun x' => by
    show (((((δ1.set j none).set i none).set i _).set j _).set j none).set i none = (δ1.set j none).set i none
    exact set22 δ1 hij _ _) (fun l hl => by
    rw [List.map_cons, List.map_cons, List.map_nil, List.mem_cons, List.mem_singleton] at hl
    rcases hl with hl | hl
    · rw [hl]; exact hvs
    · rw [hl]; exact hvs2) hf
  unfold TF
  rw [List.map_map]
  exact k
theorem tt_isN {b : Expr} (ha : DE X a δ (.d d) δ1) (hb : DE X b δ1 (.d .none) δ2) : DT X (.Compare a [.Is] [b] pos) δ (isNone d) δ2 := dt_cmp op_isN ha hb rsIsN (nomark _)
theorem tt_notN {b : Expr} (ha : DE X a δ (.d d) δ1) (hb : DE X b δ1 (.d .none) δ2) : DT X (.Compare a [.IsNot] [b] pos) δ (!isNone d) δ2 := dt_cmp op_notN ha hb rsNotN (nomark _)
/-! ### a lent list, the first argument -/
def RK (X : Cx) (b : List Stmt) (δ : Dl) (d : PyData) (co : Co) : Prop := ∃ δ', DSs X b δ (.rt d δ') ∧ ∃ i : Nat, δ'[i]? = some (some (.o true co))
theorem rc_ret (i : Nat) (h : DE X e δ (.d d) δ1) (hq : δ1[i]? = some (some (.o true co)) := by rfl) : RK X (.Return (some e) pos :: rest) δ d co := ⟨_, dss_last (ds_ret h), i, hq⟩
theorem rk_ret {α : Type} [DecidableEq α] [Datum α] {x : α} (i : Nat) (h : TE X e δ x δ1) (hq : δ1[i]? = some (some (.o true co)) := by rfl) : RK X (.Return (some e) pos :: rest) δ (toD x) co := rc_ret i h hq
theorem rc_cons (h : DS X st δ (.nx δ1)) (k : RK X rest δ1 d co) : RK X (st :: rest) δ d co := let ⟨δ', h1, h2⟩ := k; ⟨δ', dss_cons h h1, h2⟩
theorem rc_if (hc : DT X c δ p δ1) (ha : p = true → RK X body δ1 d co) (hb : p = false → RK X rest δ1 d co) : RK X (.If c body [] pos :: rest) δ d co := by
  cases p with
  | true =>
    obtain ⟨δ', h, h2⟩ := ha rfl
    exact ⟨_, dss_if hc (fun _ => db_out h) (fun z => nomatch z), h2⟩
  | false =>
    obtain ⟨δ', h, h2⟩ := hb rfl
    exact ⟨_, dss_if hc (fun z => nomatch z) (fun _ => db_nil h), h2⟩
end
/-! ### the laws' numbers -/
/-- a cup: what is left of a great number, the state -/
abbrev Cup := Int × Int
def CupOk (c : Cup) : Prop := 0 ≤ c.2 ∧ c.2 < 2 ^ 32
def cupL (c : Cup) : Co := .l [.int c.1, .int c.2]
def step (b : Int) : Int := (b * 31051 + 7993) % 2147483543
def rollV (c : Cup) (many : Int) : Int := if 0 < c.1 then c.1 % many else (step c.2 * (step c.2 + 229) % 2147483587 / 821) % many
def rollC (c : Cup) (many : Int) : Cup := if 0 < c.1 then (c.1 / many, c.2) else (c.1, step c.2)
theorem step_ok (b : Int) : 0 ≤ step b ∧ step b < 2 ^ 32 := by unfold step; omega
theorem rollC_ok {c : Cup} (h : CupOk c) (many : Int) : CupOk (rollC c many) := by
  unfold rollC CupOk
  split
  · exact h
  · exact step_ok _
theorem rollV_ge (c : Cup) {many : Int} (h : 0 < many) : 0 ≤ rollV c many := by
  unfold rollV
  split <;> exact Int.emod_nonneg _ (by omega)
theorem rollV_lt (c : Cup) {many : Int} (h : 0 < many) : rollV c many < many := by
  unfold rollV
  split <;> exact Int.emod_lt_of_pos _ h
/-- what _law_roll does -/
def FRoll : Co → List PyData → PyData → Co → Prop := fun c ds d c' => ∃ (u : Cup) (many : Int), CupOk u ∧ 0 < many ∧ many < 1073741824 ∧ c = cupL u ∧ ds = [.int many] ∧ d = .int (rollV u many) ∧ c' = cupL (rollC u many)
/-- what _law_cup gives -/
def cupOf (ns : List Int) : Cup :=
  let cell : Int := (((ns ++ [0]).headD 0).natAbs : Int)
  (if 1000000000000000000 ≤ cell then cell / 73 else 0, (cell * 283 + 3907) % 2077503167 + 167)
theorem cupOf_ok (ns : List Int) : CupOk (cupOf ns) := by
  unfold cupOf CupOk
  simp only
  omega
/-! ### what _law_sort and _law_like say -/
def sortOf : PyData → Int
  | .none => 0
  | .bool _ => 1
  | .int _ => 2
  | .str _ => 3
  | .tuple _ => 4
  | .list _ => 5
  | .dict _ => 6
def noDict (d : PyData) : Prop := ∀ kvs, d ≠ .dict kvs
noncomputable def eqC {α : Type} (x y : α) : Bool := @decide (x = y) (Classical.propDecidable _)
theorem eqC_true {α : Type} {x y : α} : eqC x y = true ↔ x = y := by unfold eqC; exact @decide_eq_true_iff _ (Classical.propDecidable _)
theorem eqC_iff {α β : Type} {x y : α} {u v : β} (h : x = y ↔ u = v) : eqC x y = eqC u v := by rw [Bool.eq_iff_iff, eqC_true, eqC_true, h]
noncomputable abbrev likeB (x y : PyData) : Bool := eqC x y
theorem likeB_refl (x : PyData) : likeB x x = true := eqC_true.mpr rfl
theorem likeB_sort {x y : PyData} (h : sortOf x ≠ sortOf y) : likeB x y = false := by
  rw [Bool.eq_false_iff]
  exact fun z => h (by rw [eqC_true.mp z])
theorem likeB_zip : ∀ xs ys : List PyData, (decide ((xs.length : Int) = (ys.length : Int)) && decide ((((xs.zip ys).filter fun p => !likeB p.1 p.2).map fun _ => (1 : Int)) = [])) = eqC xs ys
  | [], [] => (eqC_true.mpr rfl).symm
  | [], y :: ys => by
    rw [show eqC [] (y :: ys) = false from Bool.eq_false_iff.mpr fun z => by cases eqC_true.mp z]
    rw [Bool.and_eq_false_iff]
    left
    rw [decide_eq_false_iff_not, List.length_cons, List.length_nil]
    omega
  | x :: xs, [] => by
    rw [show eqC (x :: xs) [] = false from Bool.eq_false_iff.mpr fun z => by cases eqC_true.mp z]
    rw [Bool.and_eq_false_iff]
    left
    rw [decide_eq_false_iff_not, List.length_cons, List.length_nil]
    omega
  | x :: xs, y :: ys => by
    have ih := likeB_zip xs ys
    rw [List.zip_cons_cons, List.filter_cons, List.length_cons, List.length_cons]
    cases h : likeB x y with
    | true =>
      have e := eqC_true.mp h
      subst e
      rw [if_neg (by simp)]
      rw [show decide (((xs.length + 1 : Nat) : Int) = ((ys.length + 1 : Nat) : Int)) = decide ((xs.length : Int) = (ys.length : Int)) from decide_eq_decide.mpr ⟨fun z => by omega, fun z => by omega⟩, ih]
      exact eqC_iff (by simp)
    | false =>
      have e : x ≠ y := fun z => by rw [z, likeB_refl] at h; cases h
      rw [show eqC (x :: xs) (y :: ys) = false from Bool.eq_false_iff.mpr fun z => e (by cases eqC_true.mp z; rfl)]
      simp
/-- the script, a new cup out -/
def spCup (K : PySem.W.Frag) : Sp := fun vs H Q _ => ∃ (a : Addr) (ns : List Int), vs = [.ref a] ∧ SqL K H a (ns.map V.int) ∧ ns.length ≤ 1000000 ∧ ∀ p H', H p = none → Ex H H' → H' p = some (.lst [.int (cupOf ns).1, .int (cupOf ns).2]) → Q (.ref p) H'
section
variable {X : Cx} {rest : List Stmt} {x y : Str} {j j2 : Nat} {p1 p2 p3 p4 p5 p6 p7 p8 p9 p10 p11 pos : Pos}
theorem PE.imp {e : Expr} {t t' : L2.TE} (h : PE X e t) (w : ∀ σ H Q, t' σ H Q → t σ H Q) : PE X e t' := ⟨fun pins s σ H Q I q => h.run pins s σ H Q I (w _ _ _ q)⟩
def cellG (ns : List Int) : Int := (((ns ++ [0]).headD 0).natAbs : Int)
theorem sql_ex {K : PySem.W.Frag} {H H' : Hp} {a : Addr} {xs : List V} (e : Ex H H') (h : SqL K H a xs) : SqL K H' a xs := by
  rcases h with (h | ⟨o, h⟩) | h
  · exact .inl (.inl (e _ _ h))
  · exact .inl (.inr ⟨o, e _ _ h⟩)
  · exact .inr h
theorem pe_cell (i : Nat) (ha : X.mg "abs" = none) (hl : X.mg "list" = none) (hN : X.N[i]? = some x) (hv : Vis X.env.scope x) (hd : (x == ("__debug__" : Str)) = false) (hcd : (x == ("__classdict__" : Str)) = false) (hg : Gl X "abs") (hg2 : Gl X "list")
    (he1 : ∀ e : Expr, starEach [Expr.Subscript e (.Constant (.int 0) j p5) p4] X.env = (false, eval (Expr.Subscript e (.Constant (.int 0) j p5) p4) X.env) :: starEach [] X.env := by intro _; rfl) (he2 : starEach [Expr.Name x p3] X.env = (false, eval (Expr.Name x p3) X.env) :: starEach [] X.env := by rfl) (he3 : starEach [Expr.Constant (.int 0) j2 p6] X.env = (false, eval (Expr.Constant (.int 0) j2 p6) X.env) :: starEach [] X.env := by rfl) :
    PE X (.Call (.Name "abs" p1) [.Subscript (.BinOp (.Call (.Name "list" p2) [.Name x p3] [] p7) .Add (.List [.Constant (.int 0) j2 p6] p8) p9) (.Constant (.int 0) j p5) p4] [] p10)
      (fun σ H Q => ∃ a ns, σ[i]? = some (some (.ref a)) ∧ SqL X.K H a (ns.map V.int) ∧ ns.length ≤ 1000000 ∧ ∀ H', Ex H H' → Q (.int (cellG ns)) H') := by
  refine G.PE.imp (pe_callB call_abs hg ha (by decide +kernel) (pa_cons (pe_ix ix_list (pe_op op_cat (pe_callTy call_list_of hg2 hl (by decide +kernel) (pa_cons (pe_var hN hv hd hcd) pa_nil he2) (by decide) (by decide) he2) (pe_lst (pa_cons pe_int pa_nil he3))) pe_int (fun _ _ => rfl)) pa_nil (he1 _)) (by decide) (by decide) (he1 _)) fun σ H Q ⟨a, ns, h1, h2, h3, k⟩ => ?_
  refine ⟨.ref a, h1, a, ns.map V.int, rfl, .inl h2, fun l hl => ?_⟩
  have e1 : Ex H (upd H l (.lst (ns.map V.int))) := Ex.new hl
  refine ⟨by show 1 ≤ sizeLine; decide, fun p hp => ?_⟩
  have e2 : Ex (upd H l (.lst (ns.map V.int))) (upd (upd H l (.lst (ns.map V.int))) p (.lst [.int 0])) := Ex.new hp
  refine ⟨l, p, _, _, rfl, rfl, e2 _ _ upd_same, upd_same, ?_, fun t ht => ?_⟩
  · rw [List.length_map]
    show ns.length + 1 ≤ sizeLine
    rw [sizeLine_eq]
    omega
  have e3 := Ex.new (o := .lst (ns.map V.int ++ [.int 0])) ht
  refine ⟨t, _, 0, .int ((ns ++ [0]).headD 0), rfl, rfl, SqL.of upd_same, ?_, (ns ++ [0]).headD 0, rfl, ?_⟩
  · cases ns with
    | nil => rfl
    | cons n ns =>
      rw [List.map_cons, List.cons_append]
      unfold atI ixN
      rw [if_pos (by decide), if_pos (by rw [List.length_cons]; omega)]
      rfl
  · have e : (if (ns ++ [0]).headD 0 < 0 then -(ns ++ [0]).headD 0 else (ns ++ [0]).headD 0) = cellG ns := by
      unfold cellG
      split <;> omega
    rw [e]
    exact k _ ((e1.tr e2).tr e3)
theorem te_pow {a b : Expr} {δ δ1 δ2 : Dl} {i j : Int} (ha : TE X a δ i δ1) (hb : TE X b δ1 j δ2) (h : CPow i j) : TE X (.BinOp a .Pow b pos) δ (i ^ j.toNat) δ2 := de_pow ha hb h
theorem cup_eq (ns : List Int) : Co.l (([if decide (((10 : Int) ^ (18 : Int).toNat) ≤ cellG ns) = true then cellG ns / 73 else 0, (cellG ns * 283 + 3907) % 2077503167 + 167] : List Int).map toD) = cupL (cupOf ns) := by
  show Co.l [.int _, .int _] = Co.l [.int _, .int _]
  have e : ((10 : Int) ^ (18 : Int).toNat) = 1000000000000000000 := by decide
  rw [e]
  by_cases h : (1000000000000000000 : Int) ≤ cellG ns
  · rw [if_pos (decide_eq_true h)]
    show _ = Co.l [.int (if (1000000000000000000 : Int) ≤ cellG ns then cellG ns / 73 else 0), _]
    rw [if_pos h]
    rfl
  · rw [if_neg (by rw [decide_eq_false h]; decide)]
    show _ = Co.l [.int (if (1000000000000000000 : Int) ≤ cellG ns then cellG ns / 73 else 0), _]
    rw [if_neg h]
    rfl
end
end G
set_option Elab.async false
set_option linter.all false
set_option maxRecDepth 100000
set_option maxHeartbeats 4000000
/-! GH: a name given a comprehension on one line; dicts over typed keys; rolls. -/
namespace G
open PySem PySem.Spec L2
open PySem.W (Datum DatumOrd Tup)
section
variable {α β γ : Type} [DecidableEq α] [Datum α] [DecidableEq β] [Datum β] [DecidableEq γ] [Datum γ]
variable {X : Cx} {elt tg iter tg1 iter1 c : Expr} {ifs ifs1 : List Expr} {scope : Scope} {own : List (Str × Nat)} {pos p' tp lpos : Pos} {δ δ1 : Dl} {kk : Nat} {tpos : Pos}
/-- x = [elt for .. in .. if .. for .. in .. if ..] -/
theorem ts_lcc (i : Nat) {nm : Str} {src : List α} (p0 : α → Bool) (src1 : α → List β) (p : α → β → Bool) (g : α → β → γ) (δa : α → Dl) (δb : α → β → Dl) (vs1 is is1 : List Nat) (hc : X.calm = true) (hN : X.N.Nodup) (hi : TI X tg iter δ src δ1) (ok : BlkOk X.N X.env.scope scope own)
    (hz : (src.flatMap (row2 p0 src1 p g)).length ≤ sizeLine) (hs : ∀ j ∈ is, j ∈ own.map (·.2)) (hs1 : ∀ j ∈ is1, j ∈ vs1) (hv1 : ∀ j ∈ vs1, j ∈ own.map (·.2))
    (hst1 : ∀ x y, wipeD (δb x y) vs1 = wipeD (δa x) vs1) (hst : ∀ x, wipeD (wipeD (δa x) vs1) (own.map (·.2)) = wipeD δ1 (own.map (·.2))) (hst0 : ∀ x, wipeD (δa x) (own.map (·.2)) = wipeD δ1 (own.map (·.2))) (hvs : ∀ j ∈ own.map (·.2), isO (δ1.getD j none) = false)
    (hg : ∀ x, x ∈ src → ∀ (s : Shared) (H : Hp) (C : Addr) (cl : List (Str × Addr)) (fp : List Addr), DG (X.blk s H scope (compEnvC scope cl C X.env) fp) tg is (toD x) (wipeD δ1 (own.map (·.2))) (δa x))
    (ht : ∀ x, x ∈ src → ∀ (s : Shared) (H : Hp) (C : Addr) (cl : List (Str × Addr)) (fp : List Addr), DTs (X.blk s H scope (compEnvC scope cl C X.env) fp) ifs (δa x) (p0 x) (δa x))
    (hi1 : ∀ x, x ∈ src → ∀ (s : Shared) (H : Hp) (C : Addr) (cl : List (Str × Addr)) (fp : List Addr), TI (X.blk s H scope (compEnvC scope cl C X.env) fp) tg1 iter1 (δa x) (src1 x) (δa x))
    (hg1 : ∀ x, x ∈ src → ∀ y, y ∈ src1 x → ∀ (s : Shared) (H : Hp) (C : Addr) (cl : List (Str × Addr)) (fp : List Addr), DG (X.blk s H scope (compEnvC scope cl C X.env) fp) tg1 is1 (toD y) (wipeD (δa x) vs1) (δb x y))
    (ht1 : ∀ x, x ∈ src → ∀ y, y ∈ src1 x → ∀ (s : Shared) (H : Hp) (C : Addr) (cl : List (Str × Addr)) (fp : List Addr), DTs (X.blk s H scope (compEnvC scope cl C X.env) fp) ifs1 (δb x y) (p x y) (δb x y))
    (he : ∀ x, x ∈ src → ∀ y, y ∈ src1 x → p x y = true → ∀ (s : Shared) (H : Hp) (C : Addr) (cl : List (Str × Addr)) (fp : List Addr), TE (X.blk s H scope (compEnvC scope cl C X.env) fp) elt (δb x y) (g x y) (δb x y))
    (hi' : i < δ1.length := by simp) (hy : X.N[i]? = some nm := by rfl) (hyl : X.env.scope.names.lookup nm = some .local := by rfl) (hsw : swapsWith (.ListComp elt [⟨tg, iter, ifs, 0⟩, ⟨tg1, iter1, ifs1, 0⟩] scope lpos) (some (.Name nm p')) pos.line X.env = pure true := by exact sw_true rfl rfl rfl (by decide +kernel))
    (hf : ∀ x, foldedSetIterable iter X.env x = pure x := by intro _; rfl) (hf1 : ∀ env x, foldedSetIterable iter1 env x = pure x := by intro _ _; rfl) : DS X (.Assign [.Name nm p'] (.ListComp elt [⟨tg, iter, ifs, 0⟩, ⟨tg1, iter1, ifs1, 0⟩] scope lpos) pos) δ (.nx (δ1.set i (sD (src.flatMap (row2 p0 src1 p g))))) :=
  ds_thaw i (l := (src.flatMap (row2 p0 src1 p g)).map toD) (PS.szd (ps_setLc2 hc hN hy hyl hsw hi ok hv1 (fun s H C cl fp => PG.any fun x : Me src => hg x.1 x.2 s H C cl fp) (fun s H C cl fp => PTs.any fun x : Me src => ht x.1 x.2 s H C cl fp) (fun s H C cl fp => PI.any fun x : Me src => hi1 x.1 x.2 s H C cl fp)
    (fun s H C cl fp => PG.any fun x : Me src => PG.any fun y : Me (src1 x.1) => hg1 x.1 x.2 y.1 y.2 s H C cl fp) (fun s H C cl fp => PTs.any fun x : Me src => PTs.any fun y : Me (src1 x.1) => ht1 x.1 x.2 y.1 y.2 s H C cl fp)
    (fun s H C cl fp => PE.any fun x : Me src => PE.any fun y : Me (src1 x.1) => PE.any fun q : p x.1 y.1 = true => he x.1 x.2 y.1 y.2 q s H C cl fp) hf hf1)
    fun D σ H z ⟨β, O, W, E, k⟩ => lc2_reads (Q := fun v H' => D.nx (σ.set i (some v)) H') hz hs hs1 hv1 hst1 hst hst0 hvs ⟨β, O, W, E, fun p o H' z' hnp E' f hp hcc hb => k.made E hb hnp E' f hp hcc⟩) hi'
theorem ts_lc (i0 : Nat) {nm : Str} {src : List α} (p : α → Bool) (g : α → β) (δa : α → Dl) (hc : X.calm = true) (hN : X.N.Nodup) (hi : TI X tg iter δ src δ1) (ok : BlkOk X.N X.env.scope scope own) (is : List Nat) (hs : ∀ j ∈ is, j ∈ own.map (·.2))
    (hg : ∀ x, x ∈ src → ∀ (s : Shared) (H : Hp) (C : Addr) (cl : List (Str × Addr)) (fp : List Addr), DG (X.blk s H scope (compEnvC scope cl C X.env) fp) tg is (toD x) (wipeD δ1 (own.map (·.2))) (δa x))
    (ht : ∀ x, x ∈ src → ∀ (s : Shared) (H : Hp) (C : Addr) (cl : List (Str × Addr)) (fp : List Addr), DTs (X.blk s H scope (compEnvC scope cl C X.env) fp) ifs (δa x) (p x) (δa x))
    (he : ∀ x, x ∈ src → p x = true → ∀ (s : Shared) (H : Hp) (C : Addr) (cl : List (Str × Addr)) (fp : List Addr), TE (X.blk s H scope (compEnvC scope cl C X.env) fp) elt (δa x) (g x) (δa x))
    (hst : ∀ x, wipeD (δa x) is = wipeD δ1 (own.map (·.2))) (hvs : ∀ j ∈ own.map (·.2), isO (δ1.getD j none) = false)
    (hi' : i0 < δ1.length := by simp) (hy : X.N[i0]? = some nm := by rfl) (hyl : X.env.scope.names.lookup nm = some .local := by rfl) (hsw : swapsWith (.ListComp elt [⟨tg, iter, ifs, 0⟩] scope lpos) (some (.Name nm p')) pos.line X.env = pure true := by exact sw_true rfl rfl rfl (by decide +kernel))
    (hf : ∀ x, foldedSetIterable iter X.env x = pure x := by intro _; rfl) : DS X (.Assign [.Name nm p'] (.ListComp elt [⟨tg, iter, ifs, 0⟩] scope lpos) pos) δ (.nx (δ1.set i0 (sD ((src.filter p).map g)))) := by
  have k := ds_setLc (X := X) (pos := pos) (p' := p') i0 src toD p (fun x => toD (g x)) δa hc hN hi ok is hs hg ht he hst hvs hy hyl hsw hf
  have k2 := ds_thaw i0 k hi'
  rw [show (src.filter p).map (fun x => toD (g x)) = ((src.filter p).map g).map toD by rw [List.map_map]; rfl] at k2
  exact k2
/-- x = [elt for y in ..] -/
theorem ts_lc1 (i0 : Nat) {nm : Str} {src : List α} (g : α → β) (i : Nat) {x : Str} (hc : X.calm = true) (hN : X.N.Nodup) (hi : TI X (.Name x tp) iter δ src δ1) (ok : BlkOk X.N X.env.scope scope [(x, i)])
    (hg : ∀ x', x' ∈ src → ∀ (s : Shared) (H : Hp) (C : Addr) (cl : List (Str × Addr)) (fp : List Addr), DG (X.blk s H scope (compEnvC scope cl C X.env) fp) (.Name x tp) [i] (toD x') (δ1.set i none) ((δ1.set i none).set i (sD x')))
    (he : ∀ x', x' ∈ src → ∀ (s : Shared) (H : Hp) (C : Addr) (cl : List (Str × Addr)) (fp : List Addr), TE (X.blk s H scope (compEnvC scope cl C X.env) fp) elt ((δ1.set i none).set i (sD x')) (g x') ((δ1.set i none).set i (sD x')))
    (hvs : isO (δ1.getD i none) = false := by rfl) (hi' : i0 < δ1.length := by simp) (hy : X.N[i0]? = some nm := by rfl) (hyl : X.env.scope.names.lookup nm = some .local := by rfl) (hsw : swapsWith (.ListComp elt [⟨.Name x tp, iter, [], 0⟩] scope lpos) (some (.Name nm p')) pos.line X.env = pure true := by exact sw_true rfl rfl rfl (by decide +kernel))
    (hf : ∀ x, foldedSetIterable iter X.env x = pure x := by intro _; rfl) : DS X (.Assign [.Name nm p'] (.ListComp elt [⟨.Name x tp, iter, [], 0⟩] scope lpos) pos) δ (.nx (δ1.set i0 (sD (src.map g)))) := by
  have k := ts_lc (X := X) (own := [(x, i)]) (pos := pos) (p' := p') (elt := elt) (ifs := []) i0 (fun _ => true) g (fun x' => (δ1.set i none).set i (sD x')) hc hN hi ok [i] (fun j hj => hj) hg (fun _ _ _ _ _ _ _ => dts_nil) (fun x' h _ => he x' h) (fun x' => by show ((δ1.set i none).set i (sD x')).set i none = δ1.set i none; rw [List.set_set, List.set_set]) (fun j hj => by
    rw [List.map_cons, List.map_nil, List.mem_singleton] at hj
    rw [hj]; exact hvs) hi' hy hyl hsw hf
  rw [List.filter_eq_self.mpr (fun _ _ => rfl)] at k
  exact k
theorem ts_lc1if (i0 : Nat) {nm : Str} {src : List α} (p : α → Bool) (g : α → β) (i : Nat) {x : Str} (hc : X.calm = true) (hN : X.N.Nodup) (hi : TI X (.Name x tp) iter δ src δ1) (ok : BlkOk X.N X.env.scope scope [(x, i)])
    (hg : ∀ x', x' ∈ src → ∀ (s : Shared) (H : Hp) (C : Addr) (cl : List (Str × Addr)) (fp : List Addr), DG (X.blk s H scope (compEnvC scope cl C X.env) fp) (.Name x tp) [i] (toD x') (δ1.set i none) ((δ1.set i none).set i (sD x')))
    (ht : ∀ x', x' ∈ src → ∀ (s : Shared) (H : Hp) (C : Addr) (cl : List (Str × Addr)) (fp : List Addr), DT (X.blk s H scope (compEnvC scope cl C X.env) fp) c ((δ1.set i none).set i (sD x')) (p x') ((δ1.set i none).set i (sD x')))
    (he : ∀ x', x' ∈ src → p x' = true → ∀ (s : Shared) (H : Hp) (C : Addr) (cl : List (Str × Addr)) (fp : List Addr), TE (X.blk s H scope (compEnvC scope cl C X.env) fp) elt ((δ1.set i none).set i (sD x')) (g x') ((δ1.set i none).set i (sD x')))
    (hvs : isO (δ1.getD i none) = false := by rfl) (hi' : i0 < δ1.length := by simp) (hy : X.N[i0]? = some nm := by rfl) (hyl : X.env.scope.names.lookup nm = some .local := by rfl) (hsw : swapsWith (.ListComp elt [⟨.Name x tp, iter, [c], 0⟩] scope lpos) (some (.Name nm p')) pos.line X.env = pure true := by exact sw_true rfl rfl rfl (by decide +kernel))
    (hf : ∀ x, foldedSetIterable iter X.env x = pure x := by intro _; rfl) : DS X (.Assign [.Name nm p'] (.ListComp elt [⟨.Name x tp, iter, [c], 0⟩] scope lpos) pos) δ (.nx (δ1.set i0 (sD ((src.filter p).map g)))) :=
  ts_lc (X := X) (own := [(x, i)]) (pos := pos) (p' := p') (elt := elt) i0 p g (fun x' => (δ1.set i none).set i (sD x')) hc hN hi ok [i] (fun j hj => hj) hg (fun x' h s H C cl fp => dts_one (ht x' h s H C cl fp)) he (fun x' => by show ((δ1.set i none).set i (sD x')).set i none = δ1.set i none; rw [List.set_set, List.set_set]) (fun j hj => by
    rw [List.map_cons, List.map_nil, List.mem_singleton] at hj
    rw [hj]; exact hvs) hi' hy hyl hsw hf
end
/-! ### dicts -/
theorem putD_has (kvs : List (PyData × PyData)) (d v e : PyData) : hasD (putD kvs d v) e = (hasD kvs e || decide (nk d = nk e)) := by
  unfold putD hasD
  split
  · rename_i h
    rw [List.any_map]
    have e1 : ((fun y : PyData × PyData => decide (nk y.1 = nk e)) ∘ fun y => if nk y.1 = nk d then (y.1, v) else y) = fun y => decide (nk y.1 = nk e) := by
      funext y
      by_cases q : nk y.1 = nk d <;> simp [q]
    rw [e1]
    cases q : decide (nk d = nk e) with
    | false => rw [Bool.or_false]
    | true =>
      rw [Bool.or_true]
      obtain ⟨y, hy, h2⟩ := List.any_eq_true.mp h
      exact List.any_eq_true.mpr ⟨y, hy, by rw [decide_eq_true_eq] at h2 q ⊢; rw [h2, q]⟩
  · rw [List.any_append]
    simp
theorem mergeD_has (e : PyData) : ∀ (more kvs : List (PyData × PyData)), hasD (mergeD kvs more) e = (hasD kvs e || more.any fun y => decide (nk y.1 = nk e))
  | [], kvs => by simp [mergeD]
  | p :: more, kvs => by
    show hasD (mergeD (putD kvs p.1 p.2) more) e = _
    rw [mergeD_has e more, putD_has, List.any_cons, Bool.or_assoc]
def lotKvs {β : Type} [DecidableEq β] [Datum β] (xs : List (Tup Int × β)) : List (PyData × PyData) := xs.map fun p => (toD p.1, toD p.2)
theorem lot_pairs {β : Type} [DecidableEq β] [Datum β] (xs : List (Tup Int × β)) : xs.map toD = pairsD (lotKvs xs) := by
  unfold pairsD lotKvs
  rw [List.map_map]
  rfl
theorem nk_ints : ∀ xs : List Int, nkAll (xs.map toD) = some (xs.map NestedKey.num)
  | [] => rfl
  | x :: xs => by
    rw [List.map_cons, nkAll, nk_ints xs]
    rfl
theorem nk_lot (t : Tup Int) : nk (toD t) = some (.tup (t.items.map NestedKey.num)) := by
  rw [toD_tup', nk, nk_ints]
  rfl
theorem num_inj : ∀ {xs ys : List Int}, xs.map NestedKey.num = ys.map NestedKey.num → xs = ys
  | [], [], _ => rfl
  | [], _ :: _, h => by cases h
  | _ :: _, [], h => by cases h
  | x :: xs, y :: ys, h => by
    rw [List.map_cons, List.map_cons] at h
    injection h with h1 h2
    injection h1 with h1
    rw [h1, num_inj h2]
theorem nk_lot_inj {t u : Tup Int} : nk (toD t) = nk (toD u) ↔ t = u := by
  refine ⟨fun h => ?_, fun h => by rw [h]⟩
  rw [nk_lot, nk_lot] at h
  injection h with h
  injection h with h
  cases t; cases u
  exact congrArg Tup.mk (num_inj h)
theorem depth_nums : ∀ xs : List Int, NestedKey.depthAll (xs.map NestedKey.num) = 0
  | [] => rfl
  | x :: xs => by
    rw [List.map_cons, NestedKey.depthAll, depth_nums xs]
    rfl
theorem okKey_lot (t : Tup Int) : okKey (toD t) = true := by
  unfold okKey
  rw [nk_lot]
  show (isTup (toD t) && decide (NestedKey.depth (.tup (t.items.map NestedKey.num)) ≤ 8)) = true
  rw [NestedKey.depth, depth_nums]
  rfl
theorem has_lot {β : Type} [DecidableEq β] [Datum β] (xs : List (Tup Int × β)) (t : Tup Int) : hasD (mergeD [] (lotKvs xs)) (toD t) = decide (t ∈ xs.map (·.1)) := by
  rw [mergeD_has]
  unfold hasD lotKvs
  rw [List.any_nil, Bool.false_or, List.any_map, Bool.eq_iff_iff, List.any_eq_true, decide_eq_true_eq, List.mem_map]
  refine ⟨fun ⟨p, h1, h2⟩ => ⟨p, h1, nk_lot_inj.mp (of_decide_eq_true h2)⟩, fun ⟨p, h1, h2⟩ => ⟨p, h1, decide_eq_true (nk_lot_inj.mpr h2)⟩⟩
section
variable {β : Type} [DecidableEq β] [Datum β] {X : Cx} {a b : Expr} {δ δ1 δ2 : Dl} {pos p' p2 : Pos} {xs : List (Tup Int × β)} {t : Tup Int}
theorem df_dict (hc : X.calm = true) (hu : X.A.units + 70 < cLine) (ha : TF X a δ xs δ1) (hm : X.mg "dict" = none) (hg : Gl X "dict" := by rfl) (he : starEach [a] X.env = (false, eval a X.env) :: starEach [] X.env := by rfl) :
    DF X (.Call (.Name "dict" p') [a] [] pos) δ (.m X.w (mergeD [] (lotKvs xs))) δ1 :=
  df_dictP hc (by omega) (te_new ha) hm (by show some (PyData.list (xs.map toD)) = _; rw [lot_pairs]) (fun p hp => by
    obtain ⟨q, _, rfl⟩ := List.mem_map.mp hp
    exact okKey_lot q.1) hg he
theorem te_inLots (i : Nat) {kb : Bool} (hu : X.A.units + 70 < cLine) (hq : δ2[i]? = some (some (.o kb (.m X.w (mergeD [] (lotKvs xs)))))) (ha : TE X a δ t δ1) (hb : DE X b δ1 (.s i) δ2) (hm : behindInMarks .In b = false := by rfl) :
    TE X (.Compare a [.In] [b] pos) δ (decide (t ∈ xs.map (·.1))) δ2 := by
  have k := de_inM (pos := pos) (by omega) hq ha hb (okKey_lot t) hm
  rw [has_lot] at k
  exact k
end
end G
set_option Elab.async false
set_option linter.all false
set_option maxRecDepth 100000
set_option maxHeartbeats 4000000
/-! GX: plain facts: sorting by a linear order, as insertion; lots. -/
namespace G
open PySem PySem.Spec
open PySem.W (Datum DatumOrd Tup)
class Lin (α : Type) [DecidableEq α] [DatumOrd α] : Prop where
  irr : ∀ a : α, DatumOrd.lt a a = false
  tri : ∀ a b : α, DatumOrd.lt a b = false → DatumOrd.lt b a = false → a = b
  tra : ∀ a b c : α, DatumOrd.lt a b = true → DatumOrd.lt b c = true → DatumOrd.lt a c = true
instance : Lin Int where
  irr a := decide_eq_false (by omega)
  tri a b h1 h2 := by
    have h1 : ¬ a < b := of_decide_eq_false h1
    have h2 : ¬ b < a := of_decide_eq_false h2
    omega
  tra a b c h1 h2 := by
    have h1 : a < b := of_decide_eq_true h1
    have h2 : b < c := of_decide_eq_true h2
    exact decide_eq_true (by omega)
section
variable {α : Type} [DecidableEq α] [DatumOrd α] [Lin α]
theorem ll_irr : ∀ xs : List α, PySem.W.listLt xs xs = false
  | [] => rfl
  | x :: xs => by simp [PySem.W.listLt, ll_irr xs]
theorem ll_tri : ∀ xs ys : List α, PySem.W.listLt xs ys = false → PySem.W.listLt ys xs = false → xs = ys
  | [], [], _, _ => rfl
  | [], y :: ys, h, _ => by simp [PySem.W.listLt] at h
  | x :: xs, [], _, h => by simp [PySem.W.listLt] at h
  | x :: xs, y :: ys, h1, h2 => by
    simp only [PySem.W.listLt] at h1 h2
    by_cases e : x = y
    · subst e
      rw [if_pos rfl] at h1 h2
      rw [ll_tri xs ys h1 h2]
    · rw [if_neg e] at h1
      rw [if_neg (Ne.symm e)] at h2
      exact absurd (Lin.tri x y h1 h2) e
theorem ll_tra : ∀ xs ys zs : List α, PySem.W.listLt xs ys = true → PySem.W.listLt ys zs = true → PySem.W.listLt xs zs = true
  | [], [], _, h, _ => by simp [PySem.W.listLt] at h
  | _ :: _, [], _, h, _ => by simp [PySem.W.listLt] at h
  | _, _ :: _, [], _, h => by simp [PySem.W.listLt] at h
  | [], _ :: _, _ :: _, _, _ => rfl
  | x :: xs, y :: ys, z :: zs, h1, h2 => by
    simp only [PySem.W.listLt] at h1 h2 ⊢
    by_cases e : x = y
    · subst e
      rw [if_pos rfl] at h1
      by_cases e2 : x = z
      · subst e2
        rw [if_pos rfl] at h2 ⊢
        exact ll_tra xs ys zs h1 h2
      · rw [if_neg e2] at h2 ⊢
        exact h2
    · rw [if_neg e] at h1
      by_cases e2 : y = z
      · subst e2
        rw [if_neg e]
        exact h1
      · rw [if_neg e2] at h2
        have h3 := Lin.tra x y z h1 h2
        by_cases e3 : x = z
        · subst e3
          rw [Lin.irr x] at h3
          cases h3
        · rw [if_neg e3]
          exact h3
instance : Lin (Tup α) where
  irr a := ll_irr a.items
  tri a b h1 h2 := by
    cases a; cases b
    exact congrArg Tup.mk (ll_tri _ _ h1 h2)
  tra a b c h1 h2 := ll_tra _ _ _ h1 h2
/-! ### insertion -/
def isIns (x : α) : List α → List α
  | [] => [x]
  | y :: ys => if DatumOrd.lt y x = true then y :: isIns x ys else x :: y :: ys
def isrt : List α → List α
  | [] => []
  | x :: xs => isIns x (isrt xs)
def Nlt (a b : α) : Prop := DatumOrd.lt b a = false
theorem le_tra {a b c : α} (h1 : Nlt a b) (h2 : Nlt b c) : Nlt a c := by
  unfold Nlt at *
  cases q : DatumOrd.lt c a with
  | false => rfl
  | true =>
    cases q2 : DatumOrd.lt b c with
    | true => rw [Lin.tra b c a q2 q] at h1; cases h1
    | false => rw [← Lin.tri b c q2 h2] at q; rw [q] at h1; cases h1
theorem le_of_lt {a b : α} (h : DatumOrd.lt a b = true) : Nlt a b := by
  unfold Nlt
  cases q : DatumOrd.lt b a with
  | false => rfl
  | true =>
    have := Lin.tra a b a h q
    rw [Lin.irr] at this
    cases this
theorem ins_perm (x : α) : ∀ ys : List α, (isIns x ys).Perm (x :: ys)
  | [] => List.Perm.refl _
  | y :: ys => by
    unfold isIns
    split
    · exact ((ins_perm x ys).cons y).trans (List.Perm.swap x y ys)
    · exact List.Perm.refl _
theorem isrt_perm : ∀ xs : List α, (isrt xs).Perm xs
  | [] => List.Perm.refl _
  | x :: xs => (ins_perm x _).trans ((isrt_perm xs).cons x)
theorem ins_sorted (x : α) : ∀ ys : List α, ys.Pairwise Nlt → (isIns x ys).Pairwise Nlt
  | [], _ => List.pairwise_singleton ..
  | y :: ys, h => by
    rw [List.pairwise_cons] at h
    unfold isIns
    split
    · rename_i q
      rw [List.pairwise_cons]
      refine ⟨fun z hz => ?_, ins_sorted x ys h.2⟩
      rcases List.mem_cons.mp ((ins_perm x ys).mem_iff.mp hz) with e | e
      · rw [e]; exact le_of_lt q
      · exact h.1 z e
    · rename_i q
      have q : Nlt x y := by unfold Nlt; exact Bool.eq_false_iff.mpr q
      rw [List.pairwise_cons, List.pairwise_cons]
      refine ⟨fun z hz => ?_, h⟩
      rcases List.mem_cons.mp hz with e | e
      · rw [e]; exact q
      · exact le_tra q (h.1 z e)
theorem isrt_sorted : ∀ xs : List α, (isrt xs).Pairwise Nlt
  | [] => List.Pairwise.nil
  | x :: xs => ins_sorted x _ (isrt_sorted xs)
theorem sorted_unique : ∀ {xs ys : List α}, xs.Perm ys → xs.Pairwise Nlt → ys.Pairwise Nlt → xs = ys
  | [], ys, p, _, _ => (List.Perm.nil_eq p)
  | x :: xs, [], p, _, _ => absurd p.symm (List.not_perm_nil_cons x xs)
  | x :: xs, y :: ys, p, h1, h2 => by
    have e : x = y := by
      rw [List.pairwise_cons] at h1 h2
      rcases List.mem_cons.mp (p.mem_iff.mp (List.mem_cons_self ..)) with e | e
      · exact e
      · rcases List.mem_cons.mp (p.mem_iff.mpr (List.mem_cons_self ..)) with e2 | e2
        · exact e2.symm
        · exact Lin.tri x y (h2.1 x e) (h1.1 y e2)
    subst e
    rw [sorted_unique (List.Perm.cons_inv p) (List.pairwise_cons.mp h1).2 (List.pairwise_cons.mp h2).2]
theorem srt_sorted (xs : List α) : (srt xs).Pairwise Nlt := by
  have h := List.pairwise_mergeSort (le := fun a b : α => !DatumOrd.lt b a) (fun a b c h1 h2 => by
    have h1 : Nlt a b := by unfold Nlt; simpa using h1
    have h2 : Nlt b c := by unfold Nlt; simpa using h2
    have := le_tra h1 h2
    unfold Nlt at this
    rw [this]; rfl) (fun a b => by
    cases q : DatumOrd.lt b a with
    | false => rfl
    | true =>
      have := le_of_lt q
      unfold Nlt at this
      rw [this]; rfl) xs
  refine List.Pairwise.imp (fun {a b} z => ?_) h
  unfold Nlt
  simpa using z
theorem srt_perm (xs : List α) : (srt xs).Perm xs := List.mergeSort_perm _ _
theorem srt_eq (xs : List α) : srt xs = isrt xs := sorted_unique ((srt_perm xs).trans (isrt_perm xs).symm) (srt_sorted xs) (isrt_sorted xs)
theorem srt_fun : (srt : List α → List α) = isrt := funext srt_eq
theorem srt_mem {x : α} {xs : List α} : x ∈ srt xs ↔ x ∈ xs := (srt_perm xs).mem_iff
theorem srt_len (xs : List α) : (srt xs).length = xs.length := (srt_perm xs).length_eq
/-- strictly rising -/
def Lss (a b : α) : Prop := DatumOrd.lt a b = true
theorem strict_of : ∀ {xs : List α}, xs.Nodup → xs.Pairwise Nlt → xs.Pairwise Lss
  | [], _, _ => List.Pairwise.nil
  | x :: xs, h1, h2 => by
    rw [List.nodup_cons] at h1
    rw [List.pairwise_cons] at h2 ⊢
    refine ⟨fun y hy => ?_, strict_of h1.2 h2.2⟩
    unfold Lss
    cases q : DatumOrd.lt x y with
    | true => rfl
    | false => exact absurd (Lin.tri x y q (h2.1 y hy) ▸ hy) h1.1
theorem lt_le {xs : List α} (h : xs.Pairwise Lss) : xs.Pairwise Nlt := h.imp fun z => le_of_lt z
theorem lt_nodup {xs : List α} (h : xs.Pairwise Lss) : xs.Nodup := h.imp fun {a b} z e => by
  unfold Lss at z
  rw [e, Lin.irr] at z
  cases z
theorem srt_self {xs : List α} (h : xs.Pairwise Lss) : srt xs = xs := sorted_unique (srt_perm xs) (srt_sorted xs) (lt_le h)
theorem srt_strict {xs : List α} (h : xs.Nodup) : (srt xs).Pairwise Lss := strict_of ((srt_perm xs).nodup_iff.mpr h) (srt_sorted xs)
/-- the same things, both strictly rising: the same -/
theorem strict_unique {xs ys : List α} (h : ∀ x, x ∈ xs ↔ x ∈ ys) (h1 : xs.Pairwise Lss) (h2 : ys.Pairwise Lss) : xs = ys :=
  sorted_unique ((List.perm_ext_iff_of_nodup (lt_nodup h1) (lt_nodup h2)).mpr h) (lt_le h1) (lt_le h2)
end
end G
set_option Elab.async false
set_option linter.all false
set_option maxRecDepth 100000
set_option maxHeartbeats 4000000
/-! GZ: sets of tuples with pairwise different hashes. -/
namespace G
open PySem PySem.Spec L2 PyProof.Rows
/-- a number, or a tuple of such -/
inductive NumKey : NestedKey → Prop
  | num (i : Int) : NumKey (.num i)
  | tup {ks : List NestedKey} : (∀ k ∈ ks, NumKey k) → NumKey (.tup ks)
theorem nested_mem {h : Heap} : ∀ {ks : List NestedKey} {vs : List Value}, NestedAll h ks vs → ∀ v ∈ vs, ∃ k ∈ ks, NestedIs h k v
  | _, _, .nil => fun v hv => nomatch hv
  | _, _, .cons h1 h2 => fun v hv => by
    rcases List.mem_cons.mp hv with e | e
    · exact ⟨_, List.mem_cons_self .., by rw [e]; exact h1⟩
    · obtain ⟨k, hk, hi⟩ := nested_mem h2 v e
      exact ⟨k, List.mem_cons_of_mem _ hk, hi⟩
theorem depth_in : ∀ {ks : List NestedKey} {k : NestedKey}, k ∈ ks → k.depth ≤ NestedKey.depthAll ks
  | _ :: _, _, .head _ => by rw [NestedKey.depthAll]; exact Nat.le_max_left _ _
  | _ :: _, _, .tail _ h => by rw [NestedKey.depthAll]; exact Nat.le_trans (depth_in h) (Nat.le_max_right _ _)
section
variable {P : Program} {w : World} {A : Around} {E : Value → Shared → Prop} {s : Shared}
theorem hashBy_key : ∀ (n : Nat) (k : NestedKey) (v : Value) {Q : Bool → Shared → Prop}, NestedIs s.heap k v → NumKey k → k.depth ≤ n → Q true s → wpAny (model P w) A (hashByValue n v) Q E s := by
  intro n
  induction n with
  | zero =>
    intro k v Q hi hk hd h
    cases hk with
    | num i => cases hi <;> exact wpAny_pure h
    | tup _ => rw [NestedKey.depth] at hd; omega
  | succ n ih =>
    intro k v Q hi hk hd h
    cases hk with
    | num i => cases hi <;> exact wpAny_pure h
    | @tup ks hks =>
      cases hi with
      | @tup a o vs m _ ho hc hdat hall =>
        rw [NestedKey.depth] at hd
        unfold hashByValue
        refine wpAny_bind (wpAny_specialOf (T := "tuple") ⟨o, ho, hc⟩ F.slot_tuple_hash.lookup ?_)
        show wpAny _ _ (seqItems? (.ref a) >>= _) _ _ s
        refine wpAny_bind (wpAny_seqItems ho hdat ?_)
        refine wpAny_bind ?_
        show wpAny _ _ (forIn vs _ _) _ _ s
        rw [← Array.forIn_toList]
        refine wpAny_forIn_list _ (fun rest r s' => r.1 = none ∧ s' = s ∧ ∀ v ∈ rest, ∃ k ∈ ks, NestedIs s.heap k v) _ ?_ ?_ _ _ ⟨rfl, rfl, nested_mem hall⟩
        · rintro v rest r s' ⟨hr, rfl, hal⟩
          obtain ⟨k, hk, hv⟩ := hal v List.mem_cons_self
          refine wpAny_bind (ih k v hv (hks k hk) (by have := depth_in hk; omega) ?_)
          simp only [Bool.not_true, Bool.false_eq_true, if_false]
          exact wpAny_pure ⟨rfl, rfl, fun u hu' => hal u (List.mem_cons_of_mem _ hu')⟩
        · rintro ⟨r1, r2⟩ s' ⟨hr, rfl, _⟩
          simp only at hr
          subst hr
          exact wpAny_pure h
/-! ### a set whose table is run by computing -/
abbrev SimSt := Array (Int × Nat) × SetTable
def simStep (st : SimSt) (x : Int × Nat) : Option SimSt :=
  if st.2.fits st.1.size = true ∧ st.2.gaveWay = false ∧ st.2.plain = true ∧ st.1.size + 1 < 100000 then
    match st.2.probe (fun i => (st.1[i]?.map (·.1)).getD 0) x.1 (st.2.probeStart x.1) with
    | some (.empty j none) =>
      let (t, p) := st.2.put j
      let es := SetTable.insertAt st.1 p x
      if t.plain = true ∧ es.size = st.1.size + 1 then
        if t.tooFull = true then
          match t.relaid (es.map (·.1)) (SetTable.grown (st.1.size + 1)) with
          | some (t', order) =>
            let es' := order.filterMap (es[·]?)
            if es'.size = es.size ∧ SetTable.sizeAbove (SetTable.grown (st.1.size + 1)) ≤ 100000 ∧ t.fits es.size = true then some (es', t') else none
          | none => none
        else some (es, t)
      else none
    | _ => none
  else none
def vals (val : Nat → Value) (es : Array (Int × Nat)) : Array (Int × Value) := es.map fun e => (e.1, val e.2)
structure SimAt (h : Heap) (a : Addr) (val : Nat → Value) (st : SimSt) : Prop where
  ob : ∃ o ep, h.get? a = some o ∧ o.ExactSet ∧ o.data = .set (vals val st.1) ep st.2
theorem vals_hash (val : Nat → Value) (es : Array (Int × Nat)) : (fun i => ((vals val es)[i]?.map (·.1)).getD 0) = fun i : Nat => (es[i]?.map (·.1)).getD 0 := by
  funext i
  unfold vals
  rw [Array.getElem?_map]
  cases es[i]? <;> rfl
theorem vals_size (val : Nat → Value) (es : Array (Int × Nat)) : (vals val es).size = es.size := by unfold vals; rw [Array.size_map]
theorem sim_search {val : Nat → Value} {st : SimSt} {a b : Addr} {h : Int} {j : Nat} (R : SimAt s.heap a val st) (hf : st.2.fits st.1.size = true) (hg : st.2.gaveWay = false) (hp : st.2.probe (fun i => (st.1[i]?.map (·.1)).getD 0) h (st.2.probeStart h) = some (.empty j none)) {Q : SetFound → Shared → Prop}
    (hQ : Q (.free j false) s) : wpAny (model P w) A (setSearch a (.ref b) h true) Q E s := by
  obtain ⟨o, ep, ho, hex, hd⟩ := R.ob
  unfold setSearch
  rw [show (100000 : Nat) = 99999 + 1 from rfl, setSearchFrom_succ]
  refine wpAny_bind (wpAny_setState_of ho hd (by rw [vals_size]; exact hf) ?_)
  dsimp only
  refine wp_if_neg (by rw [hg]; decide) ?_
  try refine wpAny_bind (wpAny_pure ?_)
  rw [vals_hash]
  rw [show (none : Option SetTable.Probe).getD (st.2.probeStart h) = st.2.probeStart h from rfl, hp]
  dsimp only
  exact wpAny_pure hQ
theorem vals_insert (val : Nat → Value) (es : Array (Int × Nat)) (p : Nat) (x : Int × Nat) : SetTable.insertAt (vals val es) p (x.1, val x.2) = vals val (SetTable.insertAt es p x) := by
  apply Array.ext'
  unfold vals
  rw [SetTable.toList_insertAt, Array.toList_map, Array.toList_map, SetTable.toList_insertAt, List.map_append, List.map_cons, List.map_take, List.map_drop]
theorem vals_pick (val : Nat → Value) (es : Array (Int × Nat)) (order : Array Nat) : order.filterMap ((vals val es)[·]?) = vals val (order.filterMap (es[·]?)) := by
  unfold vals
  rw [Array.map_filterMap]
  congr 1
  funext i
  rw [Array.getElem?_map]
theorem vals_hashes (val : Nat → Value) (es : Array (Int × Nat)) : (vals val es).map (·.1) = es.map (·.1) := by
  unfold vals
  rw [Array.map_map]
  rfl
theorem sim_relay {val : Nat → Value} {es : Array (Int × Nat)} {t t2 : SetTable} {a : Addr} {wanted : Nat} {order : Array Nat} (R : SimAt s.heap a val (es, t)) (hf : t.fits es.size = true) (hw : SetTable.sizeAbove wanted ≤ 100000) (hr : t.relaid (es.map (·.1)) wanted = some (t2, order))
    (hz : (order.filterMap (es[·]?)).size = es.size) (hz2 : es.size < 100000) {Q : Unit → Shared → Prop} (hQ : ∀ h', Heap.SameBut a s.heap h' → SimAt h' a val (order.filterMap (es[·]?), t2) → Q () { s with heap := h' }) : wpAny (model P w) A (setRelay a wanted) Q E s := by
  obtain ⟨o, ep, ho, hex, hd⟩ := R.ob
  rw [setRelay_eq]
  refine wpAny_bind (wpAny_setState_of ho hd (by rw [vals_size]; exact hf) ?_)
  dsimp only
  refine wp_if_neg (by rw [sizeLine_eq]; omega) ?_
  try refine wpAny_bind (wpAny_pure ?_)
  rw [vals_hashes, hr]
  dsimp only
  rw [vals_pick]
  refine wpAny_bind ?_
  refine wp_if_neg (by rw [vals_size, vals_size, hz]; simp) ?_
  try refine wpAny_bind (wpAny_pure ?_)
  refine wpAny_pure ?_
  dsimp only
  refine wpAny_storeSet_of ho hd ?_ (by rw [vals_size, hz, sizeLine_eq]; omega)
  exact hQ _ (Heap.SameBut.update ..) ⟨_, _, store_at ho hd, ⟨hex.1, hex.2.1, hex.2.2⟩, rfl⟩
theorem sim_add {val : Nat → Value} {st st' : SimSt} {x : Int × Nat} {a b : Addr} {k : NestedKey} (R : SimAt s.heap a val st) (hs : simStep st x = some st') (hv : val x.2 = .ref b) (hk : NestedIs s.heap k (.ref b)) (hn : NumKey k) (h8 : k.depth ≤ 8) {Q : Bool → Shared → Prop}
    (hQ : ∀ h', Heap.SameBut a s.heap h' → SimAt h' a val st' → Q true { s with heap := h' }) : wpAny (model P w) A (setAddHashed a (.ref b) x.1) Q E s := by
  unfold simStep at hs
  split at hs
  case isFalse => cases hs
  rename_i hc
  obtain ⟨hf, hg, hpl, hz⟩ := hc
  split at hs
  case h_2 => cases hs
  rename_i j hp
  obtain ⟨o, ep, ho, hex, hd⟩ := R.ob
  unfold setAddHashed
  refine wpAny_holding ?_
  rw [show (100000 : Nat) = 99999 + 1 from rfl, setAddHashedIn_succ]
  refine wpAny_bind (wpAny_setState_of ho hd (by rw [vals_size]; exact hf) ?_)
  dsimp only
  refine wp_if_neg (by simp [byScan, Value.scannable]) ?_
  try refine wpAny_bind (wpAny_pure ?_)
  refine wpAny_bind (sim_search R hf hg hp ?_)
  dsimp only
  refine wpAny_bind (wpAny_setState_of ho hd (by rw [vals_size]; exact hf) ?_)
  dsimp only
  generalize hpt : st.2.put j = pt at hs ⊢
  obtain ⟨t1, p⟩ := pt
  dsimp only at hs ⊢
  split at hs
  case isFalse => cases hs
  rename_i hc2
  obtain ⟨hp1, hsz⟩ := hc2
  first
    | (refine wpAny_bind ?_; refine wp_if_pos hp1 ?_; refine hashBy_key 8 k _ hk hn h8 ?_)
    | refine wp_if_pos hp1 (wpAny_bind (hashBy_key 8 k _ hk hn h8 ?_))
  simp only [if_true]
  rw [← hv, vals_insert, vals_size]
  refine wpAny_bind (wpAny_storeSet_of ho hd ?_ (by rw [vals_size, hsz, sizeLine_eq]; omega))
  have sb : Heap.SameBut a s.heap (s.heap.update a (Obj.putSet (vals val (SetTable.insertAt st.1 p x)) t1)) := Heap.SameBut.update ..
  have ho1 := store_at (es' := vals val (SetTable.insertAt st.1 p x)) (t' := t1) ho hd
  generalize s.heap.update a (Obj.putSet (vals val (SetTable.insertAt st.1 p x)) t1) = h1 at sb ho1 ⊢
  have R1 : SimAt h1 a val (SetTable.insertAt st.1 p x, t1) := ⟨_, _, ho1, ⟨hex.1, hex.2.1, hex.2.2⟩, rfl⟩
  generalize SetTable.insertAt st.1 p x = es1 at hs hsz ho1 R1
  split at hs
  case isFalse hf2 =>
    cases hs
    first
      | refine wp_if_neg (by simp [hf2]) ?_
      | (refine wpAny_bind ?_; refine wp_if_neg (by simp [hf2]) ?_; refine wpAny_pure ?_)
    exact wpAny_pure (hQ h1 sb R1)
  rename_i hf2
  split at hs
  case h_2 => cases hs
  rename_i t2 order hrel
  split at hs
  case isFalse => cases hs
  rename_i hc3
  cases hs
  first
    | (refine wpAny_bind ?_; refine wp_if_pos (by simp [hf2]) ?_)
    | (refine wp_if_pos (by simp [hf2]) ?_; refine wpAny_bind ?_)
  refine sim_relay (s := { s with heap := h1 }) R1 hc3.2.2 hc3.2.1 hrel hc3.1 (by omega) fun h' sb2 R2 => ?_
  exact wpAny_pure (hQ h' (sb.trans sb2) R2)
theorem SimAt.keep {h h' : Heap} {a : Addr} {val : Nat → Value} {st : SimSt} (R : SimAt h a val st) (ha : ∀ o, h.get? a = some o → h'.get? a = some o) : SimAt h' a val st := let ⟨o, ep, ho, r⟩ := R.ob; ⟨o, ep, ha o ho, r⟩
/-- set.update's loop -/
theorem sim_loop {I : Addr} {fp wr : List Addr} {G : Array GenState → Array GenState → Prop} {n : Nat} {Pv : Nat → Value → Prop} {St : Nat → Shared → Prop} {R : Result → Shared → Prop}
    (W : WalksS P w A.in1 I fp wr G n Pv St) (S : Addr) (hSf : S ∉ fp) (ks : List (NestedKey × Addr)) (hn : n = ks.length) (hval : ∀ i v, Pv i v → ∃ p, ks[i]? = some p ∧ v = .ref p.2) {val : Nat → Value} (hvl : ∀ i p, ks[i]? = some p → val i = .ref p.2)
    {sims : Nat → SimSt} (hsim : ∀ i p, ks[i]? = some p → simStep (sims i) (p.1.hash w, i) = some (sims (i + 1))) (h0 : Heap) (hk : ∀ p ∈ ks, NestedIs h0 p.1 (.ref p.2) ∧ NumKey p.1 ∧ p.1.depth ≤ 8) (hS0 : h0.get? S = none) (hw0 : ∀ b ∈ wr, h0.get? b = none) (hu : A.in1.units + 9 < cLine) :
    ∀ (k i : Nat) (s : Shared), n - i = k → i ≤ n → St i s → (∀ b o, h0.get? b = some o → s.heap.get? b = some o) → SimAt s.heap S val (sims i) →
      (∀ s', Moved (S :: wr) G s s' → SimAt s'.heap S val (sims n) → (∀ b o, h0.get? b = some o → s'.heap.get? b = some o) → R (.ok (.ret .none)) s') →
      codeAny (model P w) A (.builtin "set.update.loop" ⟨[.ref S, .ref I], []⟩) R s := by
  have hSw : S ∉ wr := fun h => hSf (W.sub _ h)
  have hsub : ∀ b ∈ wr, b ∈ S :: wr := fun b hb => List.mem_cons_of_mem _ hb
  have keepM : ∀ {s s' : Shared}, Moved wr G s s' → (∀ b o, h0.get? b = some o → s.heap.get? b = some o) → ∀ b o, h0.get? b = some o → s'.heap.get? b = some o := fun hm hkp b o e =>
    hm.heap b o (fun hb => by rw [hw0 b hb] at e; cases e) (hkp b o e)
  intro k
  induction k with
  | zero =>
    intro i s hk' hi hst hkp hS hR
    have hin : i = n := by omega
    subst hin
    refine codeAny_builtin F.entry_set_update_loop ?_
    rw [Around.under_plainId F.plain_set_update_loop _]
    show wpAny _ A.in1 (pyNext (.ref I) >>= _) _ _ s
    refine wpAny_bind (W.done s _ _ hst fun s' hm => ?_)
    exact wpAny_pure (hR s' (hm.mono hsub) (hS.keep fun o e => hm.heap S o hSw e) (keepM hm hkp))
  | succ k ih =>
    intro i s hk' hi hst hkp hS hR
    have hlt : i < n := by omega
    refine codeAny_builtin F.entry_set_update_loop ?_
    rw [Around.under_plainId F.plain_set_update_loop _]
    show wpAny _ A.in1 (pyNext (.ref I) >>= _) _ _ s
    refine wpAny_bind (W.item i s _ _ hlt hst fun v s' hP hst' hm => ?_)
    obtain ⟨p, hp, rfl⟩ := hval i v hP
    have hkp' := keepM hm hkp
    have hS' : SimAt s'.heap S val (sims i) := hS.keep fun o e => hm.heap S o hSw e
    obtain ⟨k1, k2, k3⟩ := hk p (List.mem_of_getElem? hp)
    have k1' : NestedIs s'.heap p.1 (.ref p.2) := NestedIs.at (fun a o vs n e _ => hkp' a o e) _ _ k1
    show wpAny _ A.in1 (holding [Value.ref p.2] (setAdd S (.ref p.2)) >>= _) _ _ s'
    refine wpAny_bind (wpAny_holding ?_)
    unfold setAdd
    refine wpAny_holding ?_
    refine wpAny_bind (pyHash_key p.1 (.ref p.2) _ _ _ k1' (by omega) ?_)
    refine sim_add (x := (p.1.hash w, i)) (s := { s' with toks := s'.toks + p.1.draws }) hS' (hsim i p hp) (hvl i p hp) k1' k2 k3 fun h' hsb hS2 => ?_
    have hkp2 : ∀ b o, h0.get? b = some o → h'.get? b = some o := fun b o e => (hsb.2 b (fun z => by rw [z, hS0] at e; cases e)).trans (hkp' b o e)
    refine wpAny_pure ⟨plainId_quiet F.plain_set_update_loop _, ih (i + 1) _ (by omega) hlt (W.frame _ s' _ _ hst' (Nat.le_add_right _ _) fun b hb o e => ?_) hkp2 hS2 fun s'' hm'' hS'' hkp'' => ?_⟩
    · rw [hsb.2 b (fun h : b = S => hSf (by rw [← h]; exact hb))]; exact e
    · refine hR s'' (Moved.trans W.gtrans ((hm.mono hsub).then_heap (Nat.le_add_right _ _) fun b o hb e => ?_) hm'') hS'' hkp''
      rw [hsb.2 b (fun h : b = S => hb (by rw [h]; exact List.mem_cons_self))]; exact e
/-- set(t) -/
theorem sim_set {l : Addr} {items : Array Value} (ks : List (NestedKey × Addr)) {val : Nat → Value} {sims : Nat → SimSt} {Q : Value → Shared → Prop} (hh : A.handled = none) (hl : s.heap.IsTuple l items) (hit : items.toList = ks.map fun p => Value.ref p.2) (hvl : ∀ i p, ks[i]? = some p → val i = .ref p.2)
    (hsim : ∀ i p, ks[i]? = some p → simStep (sims i) (p.1.hash w, i) = some (sims (i + 1))) (hs0 : sims 0 = (#[], .fresh 0 0 (!w.params.followText "set-order"))) (hk : ∀ p ∈ ks, NestedIs s.heap p.1 (.ref p.2) ∧ NumKey p.1 ∧ p.1.depth ≤ 8) (hu : A.units + 12 < cLine)
    (h : ∀ (h' : Heap) (tk : Nat), SimAt h' s.heap.objs.size val (sims ks.length) → (∀ b o, s.heap.get? b = some o → h'.get? b = some o) → Q (.ref s.heap.objs.size) { s with heap := h', toks := tk }) :
    wpAny (model P w) A (call (.type "set") [.ref l]) Q E s := by
  have hisz : items.size = ks.length := by
    have q := congrArg List.length hit
    rw [Array.length_toList, List.length_map] at q
    exact q
  obtain ⟨c, tl, hmro⟩ := F.called_set.mro
  have hmade := F.called_set.made
  have hsub := F.called_set.sub
  refine wpAny_call (codeAny_of_tree ?_)
  show wpAny _ _ (callAny (.type "set") _) _ _ _
  refine wpAny_pure ⟨Code.quiet_builtin _ (by decide +kernel), codeAny_builtin F.entry_type_call ?_⟩
  rw [Around.under_plain (weight_type_call_type "set" [.ref l] []) rfl]
  have h1 := F.called_set.notType
  have h2 := F.called_set.canCreate
  have hct := F.typeCall_set_1 (.ref l)
  repeat (any_goals (first | assumption | wp_step))
  refine codeAny_mono (code_set_led1 (.ref l) (E := E) (Q₁ := fun obj s₁ => obj = .ref s.heap.objs.size ∧ s₁ = { s with heap := s.heap.push { cls := .type "set", dict := none, data := .set #[] 0 (.fresh 0 0 (!w.params.followText "set-order")) } }) ⟨rfl, rfl⟩) fun r s₁ hr => ?_
  cases r with
  | error e => exact hr
  | ok fl =>
    cases fl with
    | ret obj =>
      obtain ⟨rfl, rfl⟩ := hr
      have hS : (s.heap.push { cls := .type "set", dict := none, data := .set #[] 0 (.fresh 0 0 (!w.params.followText "set-order")) }).get? s.heap.objs.size = some { cls := .type "set", dict := none, data := .set #[] 0 (.fresh 0 0 (!w.params.followText "set-order")) } := Heap.get?_push_size _ rfl
      have hT : Shared.TypeIs { s with heap := s.heap.push { cls := .type "set", dict := none, data := .set #[] 0 (.fresh 0 0 (!w.params.followText "set-order")) } } (.ref s.heap.objs.size) "set" := ⟨_, hS, rfl⟩
      have hli := F.called_set.init.lookup
      have hbi := F.called_set.init.bind (.ref s.heap.objs.size)
      repeat (any_goals (first | assumption | wp_step))
      refine codeAny_mono (codeAny_call_builtin (R := wants (fun r s₂ => r = .none ∧ ∃ h' tk, s₂ = { s with heap := h', toks := tk } ∧ SimAt h' s.heap.objs.size val (sims ks.length) ∧ (∀ b o, s.heap.get? b = some o → h'.get? b = some o)) E) F.called_set.init.plain F.entry_set_init (check_set_init_1 hT ?_)) fun r₂ s₂ hr₂ => ?_
      · obtain ⟨ol, hol, hcl, nl, hdl⟩ := hl
        obtain ⟨ocls, odict, odata, oslots⟩ := ol
        simp only at hcl hdl
        subst hcl; subst hdl
        have hol' : (s.heap.push { cls := .type "set", dict := none, data := .set #[] 0 (.fresh 0 0 (!w.params.followText "set-order")) }).get? l = some { cls := .type "tuple", dict := odict, data := .seq items nl, slots := oslots } := Heap.get?_push_of_some _ hol
        have hsls := F.sub_tuple_set
        have hslf := F.sub_tuple_frozenset
        have hne : (Value.type "tuple" == Value.type "dict") = false := by decide
        have hl1 : (s.heap.push { cls := .type "set", dict := none, data := .set #[] 0 (.fresh 0 0 (!w.params.followText "set-order")) }).IsTuple l items := ⟨_, hol', rfl, nl, rfl⟩
        unfold Builtin.«set.__init__» noKeywords Builtin.Frozenset.updateFrom
        generalize hPI : pyIter = PI
        wp_walk
        subst hPI
        refine wpAny_pyIter_tuple hl1 ?_
        refine wpAny_bind (wpAny_runValue ?_)
        have hlS : l < s.heap.objs.size := Heap.lt_size hol
        have hh3 : A.in1.in1.in1.handled = none := by simp [hh]
        have gone : ∀ b, s.heap.objs.size ≤ b → s.heap.get? b = none := fun b hb => by
          cases q : s.heap.get? b with
          | none => rfl
          | some o => exact absurd (Nat.lt_of_lt_of_le (Heap.lt_size q) hb) (Nat.lt_irrefl _)
        have hneI : l ≠ (s.heap.push { cls := .type "set", dict := none, data := .set #[] 0 (.fresh 0 0 (!w.params.followText "set-order")) }).objs.size := by
          rw [Heap.size_push]
          exact Nat.ne_of_lt (Nat.lt_succ_of_lt hlS)
        have hSf : s.heap.objs.size ∉ [(s.heap.push { cls := .type "set", dict := none, data := .set #[] 0 (.fresh 0 0 (!w.params.followText "set-order")) }).objs.size, l] := fun h => by
          rw [Heap.size_push, List.mem_cons, List.mem_singleton] at h
          rcases h with h | h
          · exact Nat.ne_of_lt (Nat.lt_succ_self _) h
          · exact Nat.ne_of_gt hlS h
        have hval : ∀ (i : Nat) (v : Value), items[i]? = some v → ∃ p, ks[i]? = some p ∧ v = .ref p.2 := fun i v hv => by
          have q : (ks.map fun p : NestedKey × Addr => Value.ref p.2)[i]? = some v := by rw [← hit, Array.getElem?_toList]; exact hv
          rw [List.getElem?_map] at q
          obtain ⟨p, h1, h2⟩ := Option.map_eq_some_iff.mp q
          exact ⟨p, h1, h2.symm⟩
        refine sim_loop (val := val) (sims := sims) ((Walks.tuple hh3 _ l hneI items).toS) s.heap.objs.size hSf ks hisz hval hvl hsim s.heap hk (gone _ (Nat.le_refl _))
          (fun b hb => gone b ?hb) ?hu (items.size - 0) 0 _ (by omega) (Nat.zero_le _) ⟨⟨_, Heap.get?_push_size _ rfl, rfl, rfl⟩, hl1.push _⟩ (fun b o e => Heap.get?_push_of_some _ (Heap.get?_push_of_some _ e)) ?hS0 ?hR
        case hb =>
          rw [List.mem_singleton.mp hb, Heap.size_push]
          exact Nat.le_succ _
        case hu =>
          show A.units + 1 + 1 + 1 + 9 < cLine
          omega
        case hS0 =>
          rw [hs0]
          exact ⟨_, 0, Heap.get?_push_of_some _ hS, ⟨rfl, rfl, rfl⟩, by simp [vals]⟩
        case hR =>
          intro s' hm hS' hkp
          obtain ⟨h', g2, d', tk', os'⟩ := s'
          cases (show g2 = s.gens from hm.gens)
          cases (show d' = s.drawn from hm.drawn)
          cases (show os' = s.os from hm.os)
          show wpAny _ _ _ _ _ _
          refine wpAny_pure ?_
          show wpAny _ _ (ret Value.none) _ _ _
          rw [hisz] at hS'
          exact wpAny_pure ⟨rfl, h', tk', rfl, hS', hkp⟩
      · cases r₂ with
        | error e => exact hr₂
        | ok fl₂ =>
          cases fl₂ with
          | ret r =>
            obtain ⟨rfl, h', tk, rfl, hS', hk'⟩ := hr₂
            repeat (any_goals (first | assumption | wp_step))
            exact h _ _ hS' hk'
          | _ => exact hr₂.elim
    | _ => exact hr.elim
end
end G
set_option Elab.async false
set_option linter.all false
set_option maxRecDepth 100000
set_option maxHeartbeats 4000000
/-! GZ4: sorted(set(t)), t a tuple of tuples whose table was run by computing. -/
namespace G
open PySem PySem.Spec L2 PyProof.Rows
open PySem.W (alike AllAlike dataKind SortsAt EachIs dataLe copyHeap sortingHeap sortVals Tup Datum DatumOrd)
/-! ### runs of the table -/
def simRun (st : SimSt) : List (Int × Nat) → Option SimSt
  | [] => some st
  | x :: xs => (simStep st x).bind fun st' => simRun st' xs
theorem simRun_app (xs ys : List (Int × Nat)) : ∀ st : SimSt, simRun st (xs ++ ys) = (simRun st xs).bind fun st' => simRun st' ys := by
  induction xs with
  | nil => exact fun st => rfl
  | cons x xs ih =>
    intro st
    show (simStep st x).bind (fun st' => simRun st' (xs ++ ys)) = ((simStep st x).bind fun st' => simRun st' xs).bind fun st' => simRun st' ys
    cases simStep st x with
    | none => rfl
    | some st' => exact ih st'
theorem simRun_sims : ∀ (xs : List (Int × Nat)) (st st' : SimSt), simRun st xs = some st' → ∃ sims : Nat → SimSt, sims 0 = st ∧ sims xs.length = st' ∧ ∀ i x, xs[i]? = some x → simStep (sims i) x = some (sims (i + 1))
  | [], st, st', h => by
    cases h
    exact ⟨fun _ => st, rfl, rfl, fun i x hx => by simp at hx⟩
  | x :: xs, st, st', h => by
    have h : (simStep st x).bind (fun st' => simRun st' xs) = some st' := h
    cases e : simStep st x with
    | none => rw [e] at h; cases h
    | some s1 =>
      rw [e] at h
      obtain ⟨sims, h1, h2, h3⟩ := simRun_sims xs s1 st' h
      refine ⟨fun i => match i with | 0 => st | i + 1 => sims i, rfl, h2, fun i y hy => ?_⟩
      cases i with
      | zero =>
        cases hy
        show simStep st x = some (sims 0)
        rw [h1]; exact e
      | succ i => exact h3 i y hy
structure SimEnd (w : World) (n : Nat) (st : SimSt) : Prop where
  fits : st.2.fits st.1.size = true
  size : st.1.size = n
  few : n < scanBound
  ris : Ris st.2.place.toList
  led : w.params.followText "set-order" = true ∨ st.2.led = true
  perm : (st.1.toList.map (·.2)).Perm (List.range n)
def valR (vs : List V) (i : Nat) : Value := match vs[i]? with
  | some (.ref a) => .ref a
  | _ => .none
def SimO (a : Addr) (val : Nat → Value) (st : SimSt) : HO := .ext fun h => SimAt h a val st
theorem simO_ok {P : Program} {w : World} {H : Hp} {h : Heap} {a : Addr} {val : Nat → Value} {st : SimSt} (R : SimAt h a val st) : ObjOk P w H h a (SimO a val st) :=
  ⟨R, let ⟨o, _, h1, _⟩ := R.ob; ⟨o, h1⟩, fun h1 h2 R k => R.keep fun o e => k o e⟩
theorem refs_valR {vs : List V} {us : List Value} (r : Vals vs us) (h : ∀ v ∈ vs, ∃ a, v = V.ref a) : us = (List.range vs.length).map (valR vs) ∧ ∀ (i : Nat) (u : Value), us[i]? = some u → valR vs i = u := by
  have key : ∀ (i : Nat) (u : Value), us[i]? = some u → valR vs i = u := by
    intro i u hu
    have hi : i < vs.length := by rw [r.length]; exact (List.getElem?_eq_some_iff.mp hu).1
    have hv : vs[i]? = some vs[i] := List.getElem?_eq_getElem hi
    obtain ⟨u', hu', rv⟩ := Vals.get r hv
    rw [hu] at hu'
    cases hu'
    generalize vs[i] = v at hv rv
    obtain ⟨a, rfl⟩ := h v (List.mem_of_getElem? hv)
    unfold valR
    rw [hv]
    cases rv
    rfl
  refine ⟨?_, key⟩
  apply List.ext_getElem?
  intro i
  have hl := r.length
  by_cases hi : i < us.length
  · rw [List.getElem?_eq_getElem hi, List.getElem?_map, List.getElem?_range (by omega)]
    show _ = some (valR vs i)
    rw [key i us[i] (List.getElem?_eq_getElem hi)]
  · rw [List.getElem?_eq_none (by omega), List.getElem?_eq_none (by rw [List.length_map, List.length_range]; omega)]
theorem perm_pre {α β : Type} (f : α → β) {vs us : List β} (p : vs.Perm us) : ∀ bs : List α, us = bs.map f → ∃ bs' : List α, bs'.Perm bs ∧ vs = bs'.map f := by
  induction p with
  | nil => exact fun bs e => ⟨bs, .refl _, e⟩
  | cons x p ih =>
    intro bs e
    cases bs with
    | nil => cases e
    | cons b bs =>
      rw [List.map_cons] at e
      injection e with e1 e2
      obtain ⟨bs', h1, h2⟩ := ih bs e2
      exact ⟨b :: bs', h1.cons b, by rw [List.map_cons, h2, e1]⟩
  | swap x y l =>
    intro bs e
    cases bs with
    | nil => cases e
    | cons b bs =>
      cases bs with
      | nil => cases e
      | cons c bs =>
        rw [List.map_cons, List.map_cons] at e
        injection e with e1 e2
        injection e2 with e2 e3
        exact ⟨c :: b :: bs, .swap .., by rw [List.map_cons, List.map_cons, e1, e2, e3]⟩
  | trans p q ih1 ih2 =>
    intro bs e
    obtain ⟨b1, h1, h2⟩ := ih2 bs e
    obtain ⟨b2, h3, h4⟩ := ih1 b1 h2
    exact ⟨b2, h3.trans h1, h4⟩
section
variable {X : Cx}
theorem nkAll_get : ∀ {ds : List PyData} {ks : List NestedKey}, nkAll ds = some ks → ks.length = ds.length ∧ ∀ (i : Nat) (k : NestedKey), ks[i]? = some k → ∃ d, ds[i]? = some d ∧ nk d = some k
  | [], ks, h => by
    simp only [nkAll] at h; cases h
    exact ⟨rfl, fun i k h => by simp at h⟩
  | d :: ds, ks, h => by
    simp only [nkAll] at h
    cases e1 : nk d with
    | none => rw [e1] at h; cases h
    | some k0 =>
      cases e2 : nkAll ds with
      | none => rw [e1, e2] at h; cases h
      | some ks0 =>
        rw [e1, e2] at h
        cases h
        obtain ⟨h1, h2⟩ := nkAll_get e2
        refine ⟨by rw [List.length_cons, List.length_cons, h1], fun i k hk => ?_⟩
        cases i with
        | zero => cases hk; exact ⟨d, rfl, e1⟩
        | succ i => exact h2 i k (by simpa using hk)
def rSetSim (K : PySem.W.Frag) (w : World) (u : Nat) : List V → Hp → VK → Prop := fun vs H Q => ∃ (p : Addr) (bs : List (V × PyData)) (ks : List NestedKey) (st : SimSt), vs = [.ref p] ∧ SqT K H p (bs.map (·.1)) ∧ (∀ b ∈ bs, Dp K H b.1 b.2) ∧ (∀ b ∈ bs, ∃ a, b.1 = .ref a) ∧
  nkAll (bs.map (·.2)) = some ks ∧ (∀ k ∈ ks, NumKey k ∧ k.depth ≤ 8) ∧ simRun (#[], .fresh 0 0 (!w.params.followText "set-order")) ((ks.map fun k => k.hash w).zipIdx) = some st ∧
  ∀ a, H a = none → Q (.ref a) (upd H a (SimO a (valR (bs.map (·.1))) st))
theorem cr_setSim (hc : X.calm = true) (hu : X.A.units + 64 < cLine) : CallR X (.type "set") (rSetSim X.K X.w X.A.units) := by
  intro pins s σ H vs us Q I r h
  obtain ⟨p, bs, ks, st, rfl, hq, hd, href, hnk, hnum, hrun, q⟩ := h
  rw [Vals.ref1 r]
  obtain ⟨its, rv, hl, hz⟩ := I.tuple hq
  obtain ⟨e1, e2⟩ := refs_valR rv fun v hv => by
    obtain ⟨b, hb, rfl⟩ := List.mem_map.mp hv
    exact href b hb
  obtain ⟨sims, s0, s1, s2⟩ := simRun_sims _ _ _ hrun
  obtain ⟨kl, kg⟩ := nkAll_get hnk
  rw [List.length_map] at kl
  have il : its.length = bs.length := by rw [← rv.length, List.length_map]
  -- the addresses
  have addr : ∀ i : Nat, i < bs.length → ∃ a, its[i]? = some (.ref a) ∧ bs[i]?.map (·.1) = some (V.ref a) := fun i hi => by
    obtain ⟨a, ha⟩ := href bs[i] (List.getElem_mem hi)
    have h1 : (bs.map (·.1))[i]? = some (V.ref a) := by rw [List.getElem?_map, List.getElem?_eq_getElem hi]; exact congrArg some ha
    obtain ⟨u, hu, ru⟩ := Vals.get rv h1
    cases ru
    exact ⟨a, hu, by rw [List.getElem?_eq_getElem hi]; exact congrArg some ha⟩
  let aOf : Nat → Addr := fun i => match its[i]? with
    | some (.ref a) => a
    | _ => 0
  have aOf_eq : ∀ i, i < bs.length → its[i]? = some (.ref (aOf i)) := fun i hi => by
    obtain ⟨a, ha, _⟩ := addr i hi
    have : aOf i = a := by simp only [aOf, ha]
    rw [this]; exact ha
  let kas : List (NestedKey × Addr) := ks.zipIdx.map fun x => (x.1, aOf x.2)
  have kasl : kas.length = ks.length := by simp [kas]
  have kget : ∀ i p, kas[i]? = some p → ks[i]? = some p.1 ∧ p.2 = aOf i ∧ i < bs.length := fun i p hp => by
    have hp : (ks.zipIdx.map fun x => (x.1, aOf x.2))[i]? = some p := hp
    rw [List.getElem?_map, List.getElem?_zipIdx] at hp
    cases hk : ks[i]? with
    | none => rw [hk] at hp; cases hp
    | some k =>
      rw [hk] at hp
      cases hp
      have := (List.getElem?_eq_some_iff.mp hk).1
      exact ⟨rfl, by show aOf (0 + i) = aOf i; rw [Nat.zero_add], by omega⟩
  refine sim_set (P := X.prog) (w := X.w) kas (val := valR (bs.map (·.1))) (sims := sims) (I.ok.hd hc) hl ?_ (fun i p hp => ?_) (fun i p hp => ?_) s0 (fun p hp => ?_) (by omega) fun h' tk R k => ?_
  · apply List.ext_getElem?
    intro i
    rw [List.getElem?_map]
    by_cases hi : i < bs.length
    · have hki : i < kas.length := by omega
      rw [List.getElem?_eq_getElem hki]
      obtain ⟨_, h2, _⟩ := kget i kas[i] (List.getElem?_eq_getElem hki)
      show its[i]? = some (Value.ref kas[i].2)
      rw [h2]; exact aOf_eq i hi
    · rw [List.getElem?_eq_none (by show its.length ≤ i; omega), List.getElem?_eq_none (by omega)]; rfl
  · obtain ⟨_, h2, h3⟩ := kget i p hp
    rw [h2]
    exact e2 i _ (aOf_eq i h3)
  · obtain ⟨h1, _, _⟩ := kget i p hp
    refine s2 i _ ?_
    rw [List.getElem?_zipIdx, List.getElem?_map, h1]
    show some (p.1.hash X.w, 0 + i) = _
    rw [Nat.zero_add]
  · obtain ⟨i, hi⟩ := List.mem_iff_getElem?.mp hp
    obtain ⟨h1, h2, h3⟩ := kget i p hi
    obtain ⟨n1, n2⟩ := hnum p.1 (List.mem_of_getElem? h1)
    refine ⟨?_, n1, n2⟩
    obtain ⟨d, hd1, hd2⟩ := kg i p.1 h1
    rw [List.getElem?_map, List.getElem?_eq_getElem h3] at hd1
    cases hd1
    obtain ⟨a, ha, hb⟩ := addr i h3
    rw [List.getElem?_eq_getElem h3] at hb
    have hb : bs[i].1 = V.ref a := Option.some.inj hb
    have : aOf i = a := by simp only [aOf, ha]
    rw [h2, this]
    have hdp := hd bs[i] (List.getElem_mem h3)
    rw [hb] at hdp
    exact nested_of I bs[i].2 (V.ref a) (Value.ref a) p.1 hdp hd2 rfl
  · have hn : H s.heap.objs.size = none := I.hok.fresh (Nat.le_refl _)
    have hlen : kas.length = ((ks.map fun k => k.hash X.w).zipIdx).length := by simp [kas]
    rw [hlen, s1] at R
    exact ⟨.ref s.heap.objs.size, upd H s.heap.objs.size (SimO s.heap.objs.size (valR (bs.map (·.1))) st), I.laid (t' := tk) k (Nat.le_refl _) (simO_ok R), rfl, q _ hn⟩
/-- sorted(s) -/
def rSortSim (K : PySem.W.Frag) (w : World) (u : Nat) : List V → Hp → VK → Prop := fun vs H Q => ∃ (a : Addr) (bs : List (V × PyData)) (st : SimSt), vs = [.ref a] ∧ H a = some (SimO a (valR (bs.map (·.1))) st) ∧ SimEnd w bs.length st ∧ (∀ b ∈ bs, Dp K H b.1 b.2) ∧ (∀ b ∈ bs, ∃ a, b.1 = .ref a) ∧
  AllAlike (bs.map (·.2)) ∧ (∀ bs' : List (V × PyData), bs'.Perm bs → SortKind (bs'.map (·.2))) ∧ (∀ b ∈ bs, u + 2 + b.2.depth < cLine) ∧
  ∀ bs' : List (V × PyData), bs'.Perm bs → ∀ l, H l = none → Q (.ref l) (upd H l (.lst ((bs'.mergeSort (dataLe false (·.2))).map (·.1))))
theorem cr_sortSim (hc : X.calm = true) : CallR X (.builtin "sorted") (rSortSim X.K X.w X.A.units) := by
  intro pins s σ H vs us Q I r h
  obtain ⟨a, bs, st, rfl, ha, S, hd, href, hal, hkd, hu, q⟩ := h
  rw [Vals.ref1 r]
  obtain ⟨o, ep, ho, hex, hdat⟩ := (show SimAt s.heap a (valR (bs.map (·.1))) st from (I.hok a _ ha).1).ob
  refine Calls.call_function_entry kind_sorted plain_sorted entry_sorted (args_sorted1 _) ?_
  unfold Builtin.«sorted»
  refine wpAny_bind (m := checkCount "sorted" 1 1 _) (wpAny_pure ?_)
  refine wpAny_bind (collect_set (A := X.A.in1) (I.ok.hd hc) ⟨o, ho, hex.1, hdat⟩ (by rw [vals_size]; exact S.fits) (by rw [vals_size, S.size]; exact S.few) S.ris S.led fun s1 out k1 hz g1 o1 pm => ?_)
  -- what was gathered
  have p1 : out.Perm ((List.range bs.length).map (valR (bs.map (·.1)))) := by
    have e : (vals (valR (bs.map (·.1))) st.1).toList.map (·.2) = (st.1.toList.map (·.2)).map (valR (bs.map (·.1))) := by
      unfold vals
      rw [Array.toList_map, List.map_map, List.map_map]
      rfl
    rw [e] at pm
    exact pm.trans (S.perm.map _)
  let fv : V × PyData → Value := fun b => match b.1 with
    | .ref a => .ref a
    | _ => .none
  have e2 : (List.range bs.length).map (valR (bs.map (·.1))) = bs.map fv := by
    apply List.ext_getElem?
    intro i
    rw [List.getElem?_map, List.getElem?_map]
    by_cases hi : i < bs.length
    · rw [List.getElem?_range hi, List.getElem?_eq_getElem hi]
      obtain ⟨a, h⟩ := href bs[i] (List.getElem_mem hi)
      show some (valR (bs.map (·.1)) i) = some (fv bs[i])
      unfold valR
      rw [List.getElem?_map, List.getElem?_eq_getElem hi]
      simp only [Option.map_some, fv, h]
    · rw [List.getElem?_eq_none (by rw [List.length_range]; omega), List.getElem?_eq_none (by omega)]
      rfl
  rw [e2] at p1
  obtain ⟨cs, pc, rfl⟩ := perm_pre fv p1 bs rfl
  have cmem : ∀ b, b ∈ cs → b ∈ bs := fun b hb => pc.mem_iff.mp hb
  have rv : Vals (cs.map (·.1)) (cs.map fv) := by
    have : ∀ l : List (V × PyData), (∀ b ∈ l, ∃ a, b.1 = V.ref a) → Vals (l.map (·.1)) (l.map fv) := by
      intro l
      induction l with
      | nil => exact fun _ => .nil
      | cons b l ih =>
        intro h
        obtain ⟨a, e⟩ := h b (List.mem_cons_self ..)
        refine .cons ?_ (ih fun b hb => h b (List.mem_cons_of_mem _ hb))
        show RelV b.1 (fv b)
        simp only [fv, e]
        exact rfl
    exact this cs fun b hb => href b (cmem b hb)
  have e := each_vals rv
  have I1 : ∀ b o, s.heap.get? b = some o → s1.heap.get? b = some o := k1
  have er := each_reads I (fun b hb => hd b (cmem b hb)) e
  have hL : (cs.map fv).length ≤ sizeLine := by
    rw [List.length_map, pc.length_eq, sizeLine_eq]
    have := S.few
    unfold scanBound at this
    omega
  refine wpAny_bind (wpAny_newList ?_ hL)
  have hoL : (s1.heap.push (seqObj "list" (cs.map fv).toArray 0)).get? s1.heap.objs.size = some (seqObj "list" (cs.map fv).toArray 0) := Heap.get?_push_size _ rfl
  have old : ∀ b o, s.heap.get? b = some o → (sortingHeap (s1.heap.push (seqObj "list" (cs.map fv).toArray 0)) s1.heap.objs.size (cs.map fv)).get? b = some o := fun b u hb =>
    PySem.W.sortingHeap_old (Nat.ne_of_lt (Heap.lt_size (I1 b u hb))) (Heap.get?_push_of_some _ (I1 b u hb))
  have er' : EachIs (fun v (b : V × PyData) => ∃ as, Reads (sortingHeap (s1.heap.push (seqObj "list" (cs.map fv).toArray 0)) s1.heap.objs.size (cs.map fv)) v b.2 as) (cs.map fv) cs := er.mono fun _ _ ⟨as, r⟩ => ⟨as, PyProof.Rows.Reads.keeps old r⟩
  have hal' : AllAlike (cs.map fun b => b.2) := fun d h1 d' h2 => by
    obtain ⟨b, hb, rfl⟩ := List.mem_map.mp h1
    obtain ⟨b', hb', rfl⟩ := List.mem_map.mp h2
    exact hal _ (List.mem_map.mpr ⟨b, cmem b hb, rfl⟩) _ (List.mem_map.mpr ⟨b', cmem b' hb', rfl⟩)
  refine wpAny_bind (wpAny_holding (PyProof.Rows.wpAny_call_entry_kw PyProof.Rows.slot_list_sort ⟨_, hoL, rfl⟩ PyProof.Rows.entry_list_sort ?body (PyProof.Rows.args_list_sort _)))
  case body =>
    refine PySem.W.list_sort_vals (s := { s1 with heap := s1.heap.push (seqObj "list" (cs.map fv).toArray 0) }) hoL
      (sortsAt_kind (s := { s1 with heap := sortingHeap (s1.heap.push (seqObj "list" (cs.map fv).toArray 0)) s1.heap.objs.size (cs.map fv) }) (PySem.W.each_map (R := fun v d => ∃ as, Reads (sortingHeap (s1.heap.push (seqObj "list" (cs.map fv).toArray 0)) s1.heap.objs.size (cs.map fv)) v d as) (fun b : V × PyData => b.2) er') hal' (hkd cs pc) (PySem.W.bound_map (A := X.A.in1.in1) fun b hb => hu b (cmem b hb))) hL ⟨_, rfl, wpAny_pure ⟨_, rfl, ?_⟩⟩
    have eo := PySem.W.sortVals_data (enc := fun b : V × PyData => b.2) false e er' hal'
    obtain ⟨c, hc'⟩ := sortedHeap_at (vs := cs.map fv) (out := (sortVals (dataKind (sortingHeap (s1.heap.push (seqObj "list" (cs.map fv).toArray 0)) s1.heap.objs.size (cs.map fv)) (cs.map fun b => b.2)) false (cs.map fv) (cs.map fv)).toArray) hoL
    have hn : H s1.heap.objs.size = none := I.hok.fresh hz
    have kk : ∀ b o, s.heap.get? b = some o → (sortedHeap (s1.heap.push (seqObj "list" (cs.map fv).toArray 0)) s1.heap.objs.size (cs.map fv) (sortVals (dataKind (sortingHeap (s1.heap.push (seqObj "list" (cs.map fv).toArray 0)) s1.heap.objs.size (cs.map fv)) (cs.map fun b => b.2)) false (cs.map fv) (cs.map fv)).toArray).get? b = some o := fun b u hb => by
      have q := I1 b u hb
      have hlt := Heap.lt_size q
      rw [sortedHeap_old (Nat.ne_of_lt hlt) (by rw [size_push']; exact Nat.lt_succ_of_lt hlt)]
      exact Heap.get?_push_of_some _ q
    have ok : ObjOk X.prog X.w H (sortedHeap (s1.heap.push (seqObj "list" (cs.map fv).toArray 0)) s1.heap.objs.size (cs.map fv) (sortVals (dataKind (sortingHeap (s1.heap.push (seqObj "list" (cs.map fv).toArray 0)) s1.heap.objs.size (cs.map fv)) (cs.map fun b => b.2)) false (cs.map fv) (cs.map fv)).toArray) s1.heap.objs.size (.lst ((cs.mergeSort (dataLe false fun b : V × PyData => b.2)).map fun b : V × PyData => b.1)) :=
      ⟨by rw [List.length_map, List.length_mergeSort]; rw [List.length_map] at hL; exact hL, _, c, vals_each eo, hc'⟩
    have J : Inv X pins σ (upd H s1.heap.objs.size (.lst ((cs.mergeSort (dataLe false fun b : V × PyData => b.2)).map fun b : V × PyData => b.1))) { s with heap := sortedHeap (s1.heap.push (seqObj "list" (cs.map fv).toArray 0)) s1.heap.objs.size (cs.map fv) (sortVals (dataKind (sortingHeap (s1.heap.push (seqObj "list" (cs.map fv).toArray 0)) s1.heap.objs.size (cs.map fv)) (cs.map fun b => b.2)) false (cs.map fv) (cs.map fv)).toArray, gens := s1.gens, drawn := s1.drawn, toks := s1.toks } :=
      I.call (ch := []) (Un.laid kk hz hn) (I.hok.laid kk hz ok) (by rw [g1]; exact I.bare) (fun _ z => nomatch z)
    have es : { s1 with heap := sortedHeap (s1.heap.push (seqObj "list" (cs.map fv).toArray 0)) s1.heap.objs.size (cs.map fv) (sortVals (dataKind (sortingHeap (s1.heap.push (seqObj "list" (cs.map fv).toArray 0)) s1.heap.objs.size (cs.map fv)) (cs.map fun b : V × PyData => b.2)) false (cs.map fv) (cs.map fv)).toArray } = { s with heap := sortedHeap (s1.heap.push (seqObj "list" (cs.map fv).toArray 0)) s1.heap.objs.size (cs.map fv) (sortVals (dataKind (sortingHeap (s1.heap.push (seqObj "list" (cs.map fv).toArray 0)) s1.heap.objs.size (cs.map fv)) (cs.map fun b : V × PyData => b.2)) false (cs.map fv) (cs.map fv)).toArray, gens := s1.gens, drawn := s1.drawn, toks := s1.toks } := by
      cases s1
      cases s
      cases o1
      rfl
    rw [es]
    exact ⟨.ref s1.heap.objs.size, _, J, rfl, q cs pc _ hn⟩
end
/-! ### sorted(set(t)) of a typed tuple -/
section
variable {α : Type} [DecidableEq α] [DatumOrd α] {X : Cx} {a : Expr} {δ δ1 : Dl} {pos p' p2 p3 : Pos} {t : Tup α}
theorem tf_sortSet [Sk α] [Lin α] (ha : TE X a δ t δ1) (hc : X.calm = true) (hu : X.A.units + 70 < cLine) {ks : List NestedKey} {st : SimSt} (href : ∀ x ∈ t.items, ∃ ds, toD x = .tuple ds) (hnk : nkAll (t.items.map toD) = some ks) (hnum : ∀ k ∈ ks, NumKey k ∧ k.depth ≤ 8)
    (hrun : simRun (#[], .fresh 0 0 (!X.w.params.followText "set-order")) ((ks.map fun k => k.hash X.w).zipIdx) = some st) (S : SimEnd X.w t.items.length st) (hst : t.items.Pairwise Lss) (hm : X.mg "sorted" = none) (hm2 : X.mg "set" = none) (hd : Datum.depth α ≤ 60 := by decide) (hg : Gl X "sorted" := by rfl) (hg2 : Gl X "set" := by rfl)
    (he : starEach [a] X.env = (false, eval a X.env) :: starEach [] X.env := by rfl) (he2 : starEach [Expr.Call (.Name "set" p2) [a] [] p3] X.env = (false, eval (Expr.Call (.Name "set" p2) [a] [] p3) X.env) :: starEach [] X.env := by rfl) :
    TF X (.Call (.Name "sorted" p') [.Call (.Name "set" p2) [a] [] p3] [] pos) δ t.items δ1 :=
  PE.szd (pe_callB (cr_sortSim hc) hg hm (by decide +kernel) (pa_cons (pe_callTy (cr_setSim hc (by omega)) hg2 hm2 (by decide +kernel) (pa_1 ha he) (by decide) (by decide) he) pa_nil he2) (by decide) (by decide) he2) fun σ H Q z ⟨β, O, W, E, k⟩ => ⟨β, O, W, E, fun v H1 z1 E1 f1 h1 => by
    obtain ⟨p, xs, rfl, h2, h3⟩ := (Iw.is h1).tup
    obtain ⟨bs, rfl, hbs, hb⟩ := h3.zip
    have hlen : bs.length = t.items.length := by rw [← List.length_map (f := fun b : V × PyData => b.2), hbs, List.length_map]
    have dtup : ∀ b ∈ bs, ∃ x ∈ t.items, b.2 = toD x := fun b q => by
      have : b.2 ∈ t.items.map toD := by rw [← hbs]; exact List.mem_map.mpr ⟨b, q, rfl⟩
      obtain ⟨x, hx, e⟩ := List.mem_map.mp this
      exact ⟨x, hx, e.symm⟩
    have hrefs : ∀ b ∈ bs, ∃ a, b.1 = V.ref a := fun b q => by
      obtain ⟨x, hx, e⟩ := dtup b q
      obtain ⟨ds, e2⟩ := href x hx
      have i := hb b q
      rw [e, e2] at i
      obtain ⟨a, _, e3, _⟩ := (Iw.is i).tup
      exact ⟨a, e3⟩
    refine ⟨p, bs, ks, st, rfl, h2.sq, fun b q => (hb b q).dp, hrefs, by rw [hbs]; exact hnk, hnum, hrun, fun a hA => ?_⟩
    have nO : ¬ O a := E1.new0 hA
    have fr : ∀ (d : PyData) (v : V), Is X.K O H1 v d → Is X.K O (upd H1 a (SimO a (valR (bs.map (·.1))) st)) v d := fun d v i => i.ex (Ex.new hA)
    refine ⟨a, bs, st, rfl, upd_same, by rw [hlen]; exact S, fun b q => (fr _ _ (hb b q)).dp, hrefs, ?_, fun bs' pm => ?_, fun b q => ?_, fun bs' pm l hl z2 => ?_⟩
    · rw [hbs]; exact alike_of t.items
    · obtain ⟨xs', px, e⟩ := perm_pre (toD : α → PyData) ((pm.map (·.2)).trans (.refl _)) t.items hbs
      rw [e]
      exact sk_of xs'
    · obtain ⟨x, hx, e⟩ := dtup b q
      have := Datum.depth_le x
      rw [e]
      show X.A.units + 2 + (Datum.toD x).depth < cLine
      omega
    · have hl1 : H1 l = none := by
        by_cases e : l = a
        · rw [e, upd_same] at hl; cases hl
        · rw [upd_ne e] at hl; exact hl
      obtain ⟨xs', px, e⟩ := perm_pre (toD : α → PyData) ((pm.map (·.2)).trans (.refl _)) t.items hbs
      have ee : sortD (bs'.map (·.2)) = t.items.map toD := by
        rw [e, sort_map]
        have : srt xs' = t.items := sorted_unique ((srt_perm xs').trans px) (srt_sorted xs') (lt_le hst)
        rw [this]
      have ex2 : Ex H1 (upd (upd H1 a (SimO a (valR (bs.map (·.1))) st)) l (.lst ((bs'.mergeSort (dataLe false (·.2))).map (·.1)))) := (Ex.new hA).tr (Ex.new hl)
      refine k l _ _ z2 (E.wasNew E1 f1 hl1) (E1.insN hl1 upd_same ex2) (f1.tr ex2.fr) upd_same ?_ (E1.newB hl1)
      show IsAll X.K (ins l O) _ _ _
      rw [← ee]
      exact IsAll.sort fun b q => ((hb b (pm.mem_iff.mp q)).ins hl1).ex ex2⟩
end
end G
set_option Elab.async false
set_option linter.all false
set_option maxRecDepth 100000
set_option maxHeartbeats 4000000
/-! KSa: the table's steps, over lists. -/
namespace G
open PySem
def insL {α : Type} (xs : List α) (p : Nat) (x : α) : List α := xs.take p ++ x :: xs.drop p
theorem insertAt_L {α : Type} (xs : Array α) (p : Nat) (x : α) : SetTable.insertAt xs p x = (insL xs.toList p x).toArray := by
  apply Array.ext'
  rw [SetTable.toList_insertAt]
  rfl
def putL (t : SetTable) (j : Nat) : SetTable × Nat :=
  let p := SetTable.below t.place j
  ({ t with place := (insL t.place.toList p j).toArray, dummies := if SetTable.has t.dummies j then SetTable.eraseAt t.dummies (SetTable.below t.dummies j) else t.dummies }, p)
theorem putL_eq (t : SetTable) (j : Nat) : t.put j = putL t j := by
  unfold SetTable.put putL
  simp only [insertAt_L]
def stepL (st : SimSt) (x : Int × Nat) : Option SimSt :=
  if st.2.fits st.1.size = true ∧ st.2.gaveWay = false ∧ st.2.plain = true ∧ st.1.size + 1 < 100000 then
    match st.2.probe (fun i => (st.1[i]?.map (·.1)).getD 0) x.1 (st.2.probeStart x.1) with
    | some (.empty j none) =>
      let (t, p) := putL st.2 j
      let es := (insL st.1.toList p x).toArray
      if t.plain = true ∧ es.size = st.1.size + 1 then
        if t.tooFull = true then
          match t.relaid (es.map (·.1)) (SetTable.grown (st.1.size + 1)) with
          | some (t', order) =>
            let es' := order.filterMap (es[·]?)
            if es'.size = es.size ∧ SetTable.sizeAbove (SetTable.grown (st.1.size + 1)) ≤ 100000 ∧ t.fits es.size = true then some (es', t') else none
          | none => none
        else some (es, t)
      else none
    | _ => none
  else none
theorem stepL_eq (st : SimSt) (x : Int × Nat) : simStep st x = stepL st x := by
  unfold simStep stepL
  simp only [putL_eq, insertAt_L] <;> rfl
def runL (st : SimSt) : List (Int × Nat) → Option SimSt
  | [] => some st
  | x :: xs => (stepL st x).bind fun st' => runL st' xs
theorem runL_eq : ∀ (xs : List (Int × Nat)) (st : SimSt), simRun st xs = runL st xs
  | [], st => rfl
  | x :: xs, st => by
    show (simStep st x).bind (fun st' => simRun st' xs) = (stepL st x).bind fun st' => runL st' xs
    rw [stepL_eq]
    cases stepL st x with
    | none => rfl
    | some st' => exact runL_eq xs st'
end G
set_option Elab.async false
set_option linter.all false
set_option maxRecDepth 100000
set_option maxHeartbeats 4000000
namespace K75
open PySem PySem.Spec L2 G
open PySem.W (Datum DatumOrd Tup)
def topS (i : Nat) : Stmt := PySem.Challenge.pw_orderslaid_k75_whole_rising_families.main.body.getD i (.Pass ⟨0, 0, 0, 0⟩)
structure Bi (mg : Str → Option Value) : Prop where
  isinstance : mg "isinstance" = none
  int : mg "int" = none
  bool : mg "bool" = none
  all : mg "all" = none
  any : mg "any" = none
  zip : mg "zip" = none
  range : mg "range" = none
  len : mg "len" = none
  tuple : mg "tuple" = none
  list : mg "list" = none
  dict : mg "dict" = none
  sorted : mg "sorted" = none
  set : mg "set" = none
  abs : mg "abs" = none
  str : mg "str" = none
  THINGS : ∃ t, mg "THINGS" = some (.int 8 t)
  COUNTED : ∃ t, mg "COUNTED" = some (.int 5 t)
  LISTED : ∃ t, mg "LISTED" = some (.int 4 t)
section
variable {P : Program} {w : World} {K : PySem.W.Frag} {mg : Str → Option Value} {base : Heap} {f : Addr} {fd : FuncData}
abbrev Lot := Tup Int
theorem ok_is_integer (B : Bi mg) (Fn : L2.Fun K "is_integer" "is_integer" (topS 5) f fd) (mgf : mg "is_integer" = some (.ref f)) (b : Binds K fd ["value"] []) : Cl P w K mg base 1 "is_integer" (spP K (F1 (fun _ : Int => True) fun _ => true)) :=
  fn_1 (N := ["value"]) Fn mgf b (C8.fnScope_by (by decide +kernel)) rfl 0 rfl fun v _ cdv A outer s H E hr =>
    ⟨_, dss_one (ds_ret (te_and2 (de_isin kit_int (te_var 0) B.isinstance B.int (by decide +kernel)) fun _ => te_not (de_isin kit_bool (te_var 0) B.isinstance B.bool (by decide +kernel)))), .inl ⟨_, rfl⟩⟩
abbrev T_is_integer (P : Program) (w : World) (K : PySem.W.Frag) (mg : Str → Option Value) (base : Heap) : Prop := Cl P w K mg base 1 "is_integer" (spP K (F1 (fun _ : Int => True) fun _ => true))
def isWhole (v lo hi : Int) : Bool := decide (lo ≤ v) && decide (v ≤ hi)
theorem ok_is_whole (B : Bi mg) (c1 : Cl P w K mg base 1 "is_integer" (spP K (F1 (fun _ : Int => True) fun _ => true))) (Fn : L2.Fun K "is_whole" "is_whole" (topS 6) f fd) (mgf : mg "is_whole" = some (.ref f)) (b : Binds K fd ["value", "low", "high"] []) :
    Cl P w K mg base 2 "is_whole" (spP K (F3 (fun _ _ _ : Int => True) isWhole)) :=
  fn_3 (N := ["value", "low", "high"]) Fn mgf b (C8.fnScope_by (by decide +kernel)) rfl 0 rfl fun v lo hi _ cdv A outer s H E hr =>
    ⟨_, dss_one (ds_ret (te_and2 (te_call1 c1 hr (by decide) (te_var 0) trivial) fun _ => te_lele (te_var 1) (te_var 0) (te_var 2))), .inl ⟨_, rfl⟩⟩
theorem ok_need_whole (B : Bi mg) (c1 : Cl P w K mg base 2 "is_whole" (spP K (F3 (fun _ _ _ : Int => True) isWhole))) (Fn : L2.Fun K "need_whole" "need_whole" (topS 7) f fd) (mgf : mg "need_whole" = some (.ref f)) (b : Binds K fd ["value", "low", "high"] []) :
    Cl P w K mg base 3 "need_whole" (spP K (F3 (fun v lo hi : Int => isWhole v lo hi = true) fun _ _ _ => ())) :=
  fn_3 (N := ["value", "low", "high"]) Fn mgf b (C8.fnScope_by (by decide +kernel)) rfl 0 rfl fun v lo hi hp cdv A outer s H E hr => by
    refine ⟨_, dss_if (p := !isWhole v lo hi) (δ1 := [sD v, sD lo, sD hi]) ?_ (fun h => by rw [hp] at h; cases h) (fun _ => db_nil dss_nil), .inr ⟨rfl, _, rfl⟩⟩
    exact dt_not (tt_val (te_call3 c1 hr (by decide) (te_var 0) (te_var 1) (te_var 2) trivial))
abbrev T_is_whole (P : Program) (w : World) (K : PySem.W.Frag) (mg : Str → Option Value) (base : Heap) : Prop := Cl P w K mg base 2 "is_whole" (spP K (F3 (fun _ _ _ : Int => True) isWhole))
abbrev T_need_whole (P : Program) (w : World) (K : PySem.W.Frag) (mg : Str → Option Value) (base : Heap) : Prop := Cl P w K mg base 3 "need_whole" (spP K (F3 (fun v lo hi : Int => isWhole v lo hi = true) fun _ _ _ => ()))
def isRising {α : Type} [DecidableEq α] [DatumOrd α] (t : Tup α) : Bool := ((t.items.zip (cutL t.items (some 1) none)).map fun p => DatumOrd.lt p.1 p.2).all fun x => x
theorem ok_is_rising {α : Type} [DecidableEq α] [DatumOrd α] (hd : Datum.depth α ≤ 60) (B : Bi mg) (Fn : L2.Fun K "is_rising" "is_rising" (topS 8) f fd) (mgf : mg "is_rising" = some (.ref f)) (b : Binds K fd ["things"] []) :
    Cl P w K mg base 1 "is_rising" (spP K (F1 (fun _ : Tup α => True) isRising)) :=
  fn_1 (N := ["things", "one", "other"]) Fn mgf b (C8.fnScope_by (by decide +kernel)) rfl 2 rfl fun t _ cdv A outer s H E hr => by
    have hN : (["things", "one", "other"] : List Str).Nodup := by decide +kernel
    have hu : (bA "is_rising" (topS 8) f cdv A s).units + 70 < cLine := by have := hr.un; omega
    exact ⟨_, dss_one (ds_ret (te_all rfl (te_new (t_lc2 (fun p => DatumOrd.lt p.1 p.2) 1 2 rfl hN (by decide) (ti_zipT (te_var 0) (te_slT (te_var 0) (do_i te_int) do_none) B.zip) (blkOk_by (by kernel_rfl)) (fun _ _ _ _ _ _ _ => dg_two 1 2 rfl hN) (fun p _ s H C cl fp => te_ltO hu (te_var 1) (te_var 2) hd))) B.all)), .inl ⟨_, rfl⟩⟩
abbrev T_is_rising (P : Program) (w : World) (K : PySem.W.Frag) (mg : Str → Option Value) (base : Heap) : Prop := Cl P w K mg base 1 "is_rising" (spP K (F1 (fun _ : Tup Int => True) isRising))
abbrev T_is_rising2 (P : Program) (w : World) (K : PySem.W.Frag) (mg : Str → Option Value) (base : Heap) : Prop := Cl P w K mg base 1 "is_rising" (spP K (F1 (fun _ : Tup (Tup Int) => True) isRising))
theorem cutL_len {α : Type} (xs : List α) (a b : Option Int) : (cutL xs a b).length ≤ xs.length := by
  unfold cutL
  rw [List.length_take, List.length_drop]
  omega
theorem whole_mem {many lo hi : Int} (h : isWhole many lo hi = true) : lo ≤ many ∧ many ≤ hi := by
  unfold isWhole at h
  rw [Bool.and_eq_true, decide_eq_true_eq, decide_eq_true_eq] at h
  exact h
/-- all lots, in the order they are made -/
def lotsOf {α : Type} (xs : List α) : List (Tup α) := xs.foldl (fun found x => found ++ found.map fun l => Tup.mk (l.items ++ [x])) [Tup.mk []]
def allLots (many : Int) : List Lot := srt (lotsOf (rangeI 0 many.toNat))
abbrev T_all_lots (P : Program) (w : World) (K : PySem.W.Frag) (mg : Str → Option Value) (base : Heap) : Prop := Cl P w K mg base 1 "all_lots" (spF K (L1 (fun v_many : Int => 0 ≤ v_many ∧ v_many ≤ 8) allLots))
def m_fits_lot (v_many : Int) (v_value : (Tup Int)) : Bool :=
  ((isTup (toD v_value)) && (((v_value.items.map fun x1 => (isWhole x1 (0 : Int) (v_many - (1 : Int)))).all fun x => x) && (isRising v_value)))
abbrev T_fits_lot (P : Program) (w : World) (K : PySem.W.Frag) (mg : Str → Option Value) (base : Heap) : Prop := Cl P w K mg base 3 "fits_lot" (spP K (F2 (fun (v_many : Int) (v_value : (Tup Int)) => True) m_fits_lot))
theorem ok_fits_lot (B : Bi mg) (c_is_whole : T_is_whole P w K mg base) (c_is_rising : T_is_rising P w K mg base) (Fn : L2.Fun K "fits_lot" "fits_lot" (topS 11) f fd) (mgf : mg "fits_lot" = some (.ref f)) (b : Binds K fd ["many", "value"] []) : T_fits_lot P w K mg base :=
  fn_2 (N := ["many", "value", "thing"]) Fn mgf b (C8.fnScope_by (by decide +kernel)) rfl 1 rfl fun v_many v_value hp cdv A outer s H E hr => by
    have hN : (["many", "value", "thing"] : List Str).Nodup := by decide +kernel
    have hu : (bA "fits_lot" (topS 11) f cdv A s).units + 70 < cLine := by have := hr.un; omega
    exact (rt_ret (te_and (de_isin kit_tuple (te_var 1) B.isinstance B.tuple (by decide +kernel)) fun _h0 => (te_and (te_all rfl (te_new (t_lc1 (fun x1 => (isWhole x1 (0 : Int) (v_many - (1 : Int)))) 2 rfl hN (ti_tup (te_var 1)) (blkOk_by (by kernel_rfl)) (fun _ _ _ _ _ _ _ => dg_name 2 hN) fun x1 hx1 _ _ _ _ _ => (te_call3 c_is_whole hr (by decide) (te_var 2) te_int (te_sub (te_var 0) te_int) trivial))) B.all) fun _h1 => (te_one (te_call1 c_is_rising hr (by decide) (te_var 1) trivial)))))

def m_fits_family (v_many : Int) (v_value : (Tup (Tup Int))) : Bool :=
  ((isTup (toD v_value)) && (((v_value.items.map fun x1 => (m_fits_lot v_many x1)).all fun x => x) && (isRising v_value)))
abbrev T_fits_family (P : Program) (w : World) (K : PySem.W.Frag) (mg : Str → Option Value) (base : Heap) : Prop := Cl P w K mg base 4 "fits_family" (spP K (F2 (fun (v_many : Int) (v_value : (Tup (Tup Int))) => True) m_fits_family))
theorem ok_fits_family (B : Bi mg) (c_fits_lot : T_fits_lot P w K mg base) (c_is_rising2 : T_is_rising2 P w K mg base) (Fn : L2.Fun K "fits_family" "fits_family" (topS 12) f fd) (mgf : mg "fits_family" = some (.ref f)) (b : Binds K fd ["many", "value"] []) : T_fits_family P w K mg base :=
  fn_2 (N := ["many", "value", "lot"]) Fn mgf b (C8.fnScope_by (by decide +kernel)) rfl 1 rfl fun v_many v_value hp cdv A outer s H E hr => by
    have hN : (["many", "value", "lot"] : List Str).Nodup := by decide +kernel
    have hu : (bA "fits_family" (topS 12) f cdv A s).units + 70 < cLine := by have := hr.un; omega
    exact (rt_ret (te_and (de_isin kit_tuple (te_var 1) B.isinstance B.tuple (by decide +kernel)) fun _h0 => (te_and (te_all rfl (te_new (t_lc1 (fun x1 => (m_fits_lot v_many x1)) 2 rfl hN (ti_tup (te_var 1)) (blkOk_by (by kernel_rfl)) (fun _ _ _ _ _ _ _ => dg_name 2 hN) fun x1 hx1 _ _ _ _ _ => (te_call2 c_fits_lot hr (by decide) (te_var 0) (te_var 2) trivial))) B.all) fun _h1 => (te_one (te_call1 c_is_rising2 hr (by decide) (te_var 1) trivial)))))

def m_need_things_number (v_many : Int) : Unit :=
  ()
abbrev T_need_things_number (P : Program) (w : World) (K : PySem.W.Frag) (mg : Str → Option Value) (base : Heap) : Prop := Cl P w K mg base 4 "need_things_number" (spP K (F1 (fun (v_many : Int) => isWhole v_many 0 8 = true) m_need_things_number))
theorem ok_need_things_number (B : Bi mg) (c_need_whole : T_need_whole P w K mg base) (Fn : L2.Fun K "need_things_number" "need_things_number" (topS 13) f fd) (mgf : mg "need_things_number" = some (.ref f)) (b : Binds K fd ["many"] []) : T_need_things_number P w K mg base :=
  fn_1 (N := ["many"]) Fn mgf b (C8.fnScope_by (by decide +kernel)) rfl 0 rfl fun v_many hp cdv A outer s H E hr => by
    have hN : (["many"] : List Str).Nodup := by decide +kernel
    have hu : (bA "need_things_number" (topS 13) f cdv A s).units + 70 < cLine := by have := hr.un; omega
    exact (rt_cons (ts_expr (te_call3 c_need_whole hr (by decide) (te_var 0) te_int (te_glob B.THINGS) hp)) rt_nil)

def m_need_family (v_many : Int) (v_family : (Tup (Tup Int))) : Unit :=
  ()
abbrev T_need_family (P : Program) (w : World) (K : PySem.W.Frag) (mg : Str → Option Value) (base : Heap) : Prop := Cl P w K mg base 5 "need_family" (spP K (F2 (fun (v_many : Int) (v_family : (Tup (Tup Int))) => isWhole v_many 0 8 = true ∧ m_fits_family v_many v_family = true) m_need_family))
theorem ok_need_family (B : Bi mg) (c_need_things_number : T_need_things_number P w K mg base) (c_fits_family : T_fits_family P w K mg base) (Fn : L2.Fun K "need_family" "need_family" (topS 14) f fd) (mgf : mg "need_family" = some (.ref f)) (b : Binds K fd ["many", "family"] []) : T_need_family P w K mg base :=
  fn_2 (N := ["many", "family"]) Fn mgf b (C8.fnScope_by (by decide +kernel)) rfl 0 rfl fun v_many v_family hp cdv A outer s H E hr => by
    have hN : (["many", "family"] : List Str).Nodup := by decide +kernel
    have hu : (bA "need_family" (topS 14) f cdv A s).units + 70 < cLine := by have := hr.un; omega
    exact (rt_cons (ts_expr (te_call1 c_need_things_number hr (by decide) (te_var 0) hp.1)) (rt_need (dt_not (tt_val (te_call2 c_fits_family hr (by decide) (te_var 0) (te_var 1) trivial))) (by rw [hp.2]; rfl) rt_nil))

def m_lies_in (v_one : (Tup Int)) (v_other : (Tup Int)) : Bool :=
  ((v_one.items.map fun x1 => (decide (x1 ∈ v_other.items))).all fun x => x)
abbrev T_lies_in (P : Program) (w : World) (K : PySem.W.Frag) (mg : Str → Option Value) (base : Heap) : Prop := Cl P w K mg base 1 "lies_in" (spP K (F2 (fun (v_one : (Tup Int)) (v_other : (Tup Int)) => True) m_lies_in))
theorem ok_lies_in (B : Bi mg)  (Fn : L2.Fun K "lies_in" "lies_in" (topS 16) f fd) (mgf : mg "lies_in" = some (.ref f)) (b : Binds K fd ["one", "other"] []) : T_lies_in P w K mg base :=
  fn_2 (N := ["one", "other", "thing"]) Fn mgf b (C8.fnScope_by (by decide +kernel)) rfl 1 rfl fun v_one v_other hp cdv A outer s H E hr => by
    have hN : (["one", "other", "thing"] : List Str).Nodup := by decide +kernel
    have hu : (bA "lies_in" (topS 16) f cdv A s).units + 70 < cLine := by have := hr.un; omega
    exact (rt_ret (te_all rfl (te_new (t_lc1 (fun x1 => (decide (x1 ∈ v_other.items))) 2 rfl hN (ti_tup (te_var 0)) (blkOk_by (by kernel_rfl)) (fun _ _ _ _ _ _ _ => dg_name 2 hN) fun x1 hx1 _ _ _ _ _ => (te_inT hu (te_var 2) (te_var 1)))) B.all))

def m_lowered (v_lot : (Tup Int)) : (List (Tup Int)) :=
  ((rangeI 0 ((v_lot.items.length : Int)).toNat).map fun x1 => (Tup.mk ((Tup.mk (cutL v_lot.items none (some x1))).items ++ (Tup.mk (cutL v_lot.items (some (x1 + (1 : Int))) none)).items)))
abbrev T_lowered (P : Program) (w : World) (K : PySem.W.Frag) (mg : Str → Option Value) (base : Heap) : Prop := Cl P w K mg base 1 "lowered" (spF K (L1 (fun (v_lot : (Tup Int)) => v_lot.items.length ≤ 1000) m_lowered))
theorem ok_lowered (B : Bi mg)  (Fn : L2.Fun K "lowered" "lowered" (topS 17) f fd) (mgf : mg "lowered" = some (.ref f)) (b : Binds K fd ["lot"] []) : T_lowered P w K mg base :=
  fl_1 (N := ["lot", "at"]) Fn mgf b (C8.fnScope_by (by decide +kernel)) rfl 1 rfl fun v_lot hp cdv A outer s H E hr => by
    have hN : (["lot", "at"] : List Str).Nodup := by decide +kernel
    have hu : (bA "lowered" (topS 17) f cdv A s).units + 70 < cLine := by have := hr.un; omega
    exact (rf_ret (t_lc1 (fun x1 => (Tup.mk ((Tup.mk (cutL v_lot.items none (some x1))).items ++ (Tup.mk (cutL v_lot.items (some (x1 + (1 : Int))) none)).items))) 1 rfl hN (ti_range1 (te_lenT (te_var 0) B.len) B.range (by rw [sizeLine_eq]; omega) (by omega)) (blkOk_by (by kernel_rfl)) (fun _ _ _ _ _ _ _ => dg_name 1 hN) fun x1 hx1 _ _ _ _ _ => (te_catT (te_slT (te_var 0) do_none (do_i (te_var 1))) (te_slT (te_var 0) (do_i (te_add (te_var 1) te_int)) do_none) (by have h1 := cutL_len v_lot.items none (some x1); have h2 := cutL_len v_lot.items (some (x1 + 1)) none; rw [sizeLine_eq]; show (cutL _ _ _).length + (cutL _ _ _).length ≤ _; omega))))

def m_is_quiet_family (v_many : Int) (v_family : (Tup (Tup Int))) : Bool :=
  (!((v_family.items.map fun x1 => ((v_family.items.map fun x2 => ((decide (x1 ≠ x2)) && (m_lies_in x1 x2))).any fun x => x)).any fun x => x))
abbrev T_is_quiet_family (P : Program) (w : World) (K : PySem.W.Frag) (mg : Str → Option Value) (base : Heap) : Prop := Cl P w K mg base 6 "is_quiet_family" (spP K (F2 (fun (v_many : Int) (v_family : (Tup (Tup Int))) => isWhole v_many 0 8 = true ∧ m_fits_family v_many v_family = true) m_is_quiet_family))
theorem ok_is_quiet_family (B : Bi mg) (c_need_family : T_need_family P w K mg base) (c_lies_in : T_lies_in P w K mg base) (Fn : L2.Fun K "is_quiet_family" "is_quiet_family" (topS 18) f fd) (mgf : mg "is_quiet_family" = some (.ref f)) (b : Binds K fd ["many", "family"] []) : T_is_quiet_family P w K mg base :=
  fn_2 (N := ["many", "family", "one", "other"]) Fn mgf b (C8.fnScope_by (by decide +kernel)) rfl 2 rfl fun v_many v_family hp cdv A outer s H E hr => by
    have hN : (["many", "family", "one", "other"] : List Str).Nodup := by decide +kernel
    have hu : (bA "is_quiet_family" (topS 18) f cdv A s).units + 70 < cLine := by have := hr.un; omega
    exact (rt_cons (ts_expr (te_call2 c_need_family hr (by decide) (te_var 0) (te_var 1) hp)) (rt_ret (te_not (te_any rfl (te_new (t_lc1 (fun x1 => ((v_family.items.map fun x2 => ((decide (x1 ≠ x2)) && (m_lies_in x1 x2))).any fun x => x)) 2 rfl hN (ti_tup (te_var 1)) (blkOk_by (by kernel_rfl)) (fun _ _ _ _ _ _ _ => dg_name 2 hN) fun x1 hx1 _ _ _ _ _ => (te_any rfl (te_new (t_lc1 (fun x2 => ((decide (x1 ≠ x2)) && (m_lies_in x1 x2))) 3 rfl hN (ti_tup (te_var 1)) (blkOk_by (by kernel_rfl)) (fun _ _ _ _ _ _ _ => dg_name 3 hN) fun x2 hx2 _ _ _ _ _ => (te_and2 (te_ne hu (te_var 2) (te_var 3)) fun _h0 => (te_call2 c_lies_in hr (by decide) (te_var 2) (te_var 3) trivial)))) B.any))) B.any))))

def m_raised (v_many : Int) (v_lot : (Tup Int)) : (List (Tup Int)) :=
  (((rangeI 0 (v_many).toNat).filter fun x1 => (decide (x1 ∉ v_lot.items))).map fun x1 => (Tup.mk (srt (Tup.mk (v_lot.items ++ (Tup.mk [x1]).items)).items)))
abbrev T_raised (P : Program) (w : World) (K : PySem.W.Frag) (mg : Str → Option Value) (base : Heap) : Prop := Cl P w K mg base 1 "raised" (spF K (L2' (fun (v_many : Int) (v_lot : (Tup Int)) => 0 ≤ v_many ∧ v_many ≤ 1000 ∧ v_lot.items.length ≤ 1000) m_raised))
theorem ok_raised (B : Bi mg)  (Fn : L2.Fun K "raised" "raised" (topS 23) f fd) (mgf : mg "raised" = some (.ref f)) (b : Binds K fd ["many", "lot"] []) : T_raised P w K mg base :=
  fl_2 (N := ["many", "lot", "thing"]) Fn mgf b (C8.fnScope_by (by decide +kernel)) rfl 1 rfl fun v_many v_lot hp cdv A outer s H E hr => by
    have hN : (["many", "lot", "thing"] : List Str).Nodup := by decide +kernel
    have hu : (bA "raised" (topS 23) f cdv A s).units + 70 < cLine := by have := hr.un; omega
    exact (rf_ret (t_lc1if (fun x1 => (decide (x1 ∉ v_lot.items))) (fun x1 => (Tup.mk (srt (Tup.mk (v_lot.items ++ (Tup.mk [x1]).items)).items))) 2 rfl hN (ti_range1 (te_var 0) B.range (by rw [sizeLine_eq]; omega) (by omega)) (blkOk_by (by kernel_rfl)) (fun _ _ _ _ _ _ _ => dg_name 2 hN) (fun x1 hx1 _ _ _ _ _ => (tt_notInT hu (te_var 2) (te_var 1))) fun x1 hx1 px1 _ _ _ _ _ => (te_tupN (tf_sortT hu (te_catT (te_var 1) (te_tup1 (te_var 2)) (by rw [sizeLine_eq]; show v_lot.items.length + 1 ≤ _; omega)) B.sorted) B.tuple)))

def m_least_in_family (v_family : (Tup (Tup Int))) : (List (Tup Int)) :=
  ((v_family.items.filter fun x1 => (!((v_family.items.map fun x2 => ((decide (x2 ≠ x1)) && (m_lies_in x2 x1))).any fun x => x))).map fun x1 => x1)
abbrev T_least_in_family (P : Program) (w : World) (K : PySem.W.Frag) (mg : Str → Option Value) (base : Heap) : Prop := Cl P w K mg base 2 "least_in_family" (spF K (L1 (fun (v_family : (Tup (Tup Int))) => True) m_least_in_family))
theorem ok_least_in_family (B : Bi mg) (c_lies_in : T_lies_in P w K mg base) (Fn : L2.Fun K "least_in_family" "least_in_family" (topS 24) f fd) (mgf : mg "least_in_family" = some (.ref f)) (b : Binds K fd ["family"] []) : T_least_in_family P w K mg base :=
  fl_1 (N := ["family", "lot", "other"]) Fn mgf b (C8.fnScope_by (by decide +kernel)) rfl 2 rfl fun v_family hp cdv A outer s H E hr => by
    have hN : (["family", "lot", "other"] : List Str).Nodup := by decide +kernel
    have hu : (bA "least_in_family" (topS 24) f cdv A s).units + 70 < cLine := by have := hr.un; omega
    exact (rf_ret (t_lc1if (fun x1 => (!((v_family.items.map fun x2 => ((decide (x2 ≠ x1)) && (m_lies_in x2 x1))).any fun x => x))) (fun x1 => x1) 1 rfl hN (ti_tup (te_var 0)) (blkOk_by (by kernel_rfl)) (fun _ _ _ _ _ _ _ => dg_name 1 hN) (fun x1 hx1 _ _ _ _ _ => (dt_not (tt_val (te_any rfl (te_new (t_lc1 (fun x2 => ((decide (x2 ≠ x1)) && (m_lies_in x2 x1))) 2 rfl hN (ti_tup (te_var 0)) (blkOk_by (by kernel_rfl)) (fun _ _ _ _ _ _ _ => dg_name 2 hN) fun x2 hx2 _ _ _ _ _ => (te_and2 (te_ne hu (te_var 2) (te_var 1)) fun _h0 => (te_call2 c_lies_in hr (by decide) (te_var 2) (te_var 1) trivial)))) B.any)))) fun x1 hx1 px1 _ _ _ _ _ => (te_var 1)))

def m_risen_in (v_many : Int) (v_family : (Tup (Tup Int))) : (List (Tup Int)) :=
  (((allLots v_many).filter fun x1 => ((v_family.items.map fun x2 => (m_lies_in x2 x1)).any fun x => x)).map fun x1 => x1)
abbrev T_risen_in (P : Program) (w : World) (K : PySem.W.Frag) (mg : Str → Option Value) (base : Heap) : Prop := Cl P w K mg base 2 "risen_in" (spF K (L2' (fun (v_many : Int) (v_family : (Tup (Tup Int))) => 0 ≤ v_many ∧ v_many ≤ 8) m_risen_in))
theorem ok_risen_in (B : Bi mg) (c_all_lots : T_all_lots P w K mg base) (c_lies_in : T_lies_in P w K mg base) (Fn : L2.Fun K "risen_in" "risen_in" (topS 25) f fd) (mgf : mg "risen_in" = some (.ref f)) (b : Binds K fd ["many", "family"] []) : T_risen_in P w K mg base :=
  fl_2 (N := ["many", "family", "lot", "other"]) Fn mgf b (C8.fnScope_by (by decide +kernel)) rfl 2 rfl fun v_many v_family hp cdv A outer s H E hr => by
    have hN : (["many", "family", "lot", "other"] : List Str).Nodup := by decide +kernel
    have hu : (bA "risen_in" (topS 25) f cdv A s).units + 70 < cLine := by have := hr.un; omega
    exact (rf_ret (t_lc1if (fun x1 => ((v_family.items.map fun x2 => (m_lies_in x2 x1)).any fun x => x)) (fun x1 => x1) 2 rfl hN (ti_list (te_new (tf_call1 c_all_lots hr (by decide) (te_var 0) hp))) (blkOk_by (by kernel_rfl)) (fun _ _ _ _ _ _ _ => dg_name 2 hN) (fun x1 hx1 _ _ _ _ _ => (tt_val (te_any rfl (te_new (t_lc1 (fun x2 => (m_lies_in x2 x1)) 3 rfl hN (ti_tup (te_var 1)) (blkOk_by (by kernel_rfl)) (fun _ _ _ _ _ _ _ => dg_name 3 hN) fun x2 hx2 _ _ _ _ _ => (te_call2 c_lies_in hr (by decide) (te_var 3) (te_var 2) trivial))) B.any))) fun x1 hx1 px1 _ _ _ _ _ => (te_var 2)))

def m_least_lots (v_many : Int) (v_family : (Tup (Tup Int))) : (Tup (Tup Int)) :=
  (Tup.mk (m_least_in_family v_family))
abbrev T_least_lots (P : Program) (w : World) (K : PySem.W.Frag) (mg : Str → Option Value) (base : Heap) : Prop := Cl P w K mg base 6 "least_lots" (spP K (F2 (fun (v_many : Int) (v_family : (Tup (Tup Int))) => isWhole v_many 0 8 = true ∧ m_fits_family v_many v_family = true) m_least_lots))
theorem ok_least_lots (B : Bi mg) (c_need_family : T_need_family P w K mg base) (c_least_in_family : T_least_in_family P w K mg base) (Fn : L2.Fun K "least_lots" "least_lots" (topS 29) f fd) (mgf : mg "least_lots" = some (.ref f)) (b : Binds K fd ["many", "family"] []) : T_least_lots P w K mg base :=
  fn_2 (N := ["many", "family"]) Fn mgf b (C8.fnScope_by (by decide +kernel)) rfl 0 rfl fun v_many v_family hp cdv A outer s H E hr => by
    have hN : (["many", "family"] : List Str).Nodup := by decide +kernel
    have hu : (bA "least_lots" (topS 29) f cdv A s).units + 70 < cLine := by have := hr.un; omega
    exact (rt_cons (ts_expr (te_call2 c_need_family hr (by decide) (te_var 0) (te_var 1) hp)) (rt_ret (te_tupN (tf_call1 c_least_in_family hr (by decide) (te_var 1) trivial) B.tuple)))

def m_risen_family (v_many : Int) (v_family : (Tup (Tup Int))) : (Tup (Tup Int)) :=
  (Tup.mk (m_risen_in v_many v_family))
abbrev T_risen_family (P : Program) (w : World) (K : PySem.W.Frag) (mg : Str → Option Value) (base : Heap) : Prop := Cl P w K mg base 6 "risen_family" (spP K (F2 (fun (v_many : Int) (v_family : (Tup (Tup Int))) => isWhole v_many 0 8 = true ∧ m_fits_family v_many v_family = true) m_risen_family))
theorem ok_risen_family (B : Bi mg) (c_need_family : T_need_family P w K mg base) (c_risen_in : T_risen_in P w K mg base) (Fn : L2.Fun K "risen_family" "risen_family" (topS 30) f fd) (mgf : mg "risen_family" = some (.ref f)) (b : Binds K fd ["many", "family"] []) : T_risen_family P w K mg base :=
  fn_2 (N := ["many", "family"]) Fn mgf b (C8.fnScope_by (by decide +kernel)) rfl 0 rfl fun v_many v_family hp cdv A outer s H E hr => by
    have hN : (["many", "family"] : List Str).Nodup := by decide +kernel
    have hu : (bA "risen_family" (topS 30) f cdv A s).units + 70 < cLine := by have := hr.un; omega
    exact (rt_cons (ts_expr (te_call2 c_need_family hr (by decide) (te_var 0) (te_var 1) hp)) (rt_ret (te_tupN (tf_call2 c_risen_in hr (by decide) (te_var 0) (te_var 1) (whole_mem hp.1)) B.tuple)))

theorem foldl_lots {α : Type} (f : List (Tup α) → α → List (Tup α)) (hf : ∀ st x, f st x = st ++ st.map fun l => Tup.mk (l.items ++ [x])) : ∀ (xs : List α) (st : List (Tup α)) (k : Nat), (∀ l ∈ st, l.items.length ≤ k) → (xs.foldl f st).length = st.length * 2 ^ xs.length ∧ ∀ l ∈ xs.foldl f st, l.items.length ≤ k + xs.length
  | [], st, k, h => ⟨by simp, fun l hl => h l hl⟩
  | x :: xs, st, k, h => by
    obtain ⟨h1, h2⟩ := foldl_lots f hf xs (f st x) (k + 1) (fun l hl => by
      rw [hf, List.mem_append] at hl
      rcases hl with hl | hl
      · have := h l hl; omega
      · obtain ⟨l', hl', rfl⟩ := List.mem_map.mp hl
        have := h l' hl'
        show (l'.items ++ [x]).length ≤ _
        rw [List.length_append, List.length_singleton]
        omega)
    refine ⟨?_, fun l hl => ?_⟩
    · show (xs.foldl f (f st x)).length = _
      rw [h1, hf, List.length_append, List.length_map, List.length_cons, Nat.pow_succ, ← Nat.two_mul, Nat.mul_comm 2 st.length, Nat.mul_assoc, Nat.mul_comm 2 (2 ^ _)]
    · have := h2 l hl
      rw [List.length_cons]
      omega
theorem two_small {n k : Nat} (h : n ≤ k) (hk : 2 ^ k ≤ 2 ^ 23 := by decide) : 2 ^ n + 2 ^ n ≤ sizeLine := by
  have : 2 ^ n ≤ 2 ^ k := Nat.pow_le_pow_right (by decide) h
  rw [sizeLine_eq]
  omega
theorem rangeI_len (lo : Int) (n : Nat) : (rangeI lo n).length = n := by unfold rangeI; rw [List.length_map, List.length_range]
theorem ok_all_lots (B : Bi mg) (Fn : L2.Fun K "all_lots" "all_lots" (topS 15) f fd) (mgf : mg "all_lots" = some (.ref f)) (b : Binds K fd ["many"] []) : T_all_lots P w K mg base :=
  fl_1 (N := ["many", "found", "thing", "lot"]) Fn mgf b (C8.fnScope_by (by decide +kernel)) rfl 3 rfl fun v_many hp cdv A outer s H E hr => by
    have hN : (["many", "found", "thing", "lot"] : List Str).Nodup := by decide +kernel
    have hu : (bA "all_lots" (topS 15) f cdv A s).units + 70 < cLine := by have := hr.un; omega
    refine rf_cons (ts_set 1 hN (te_new (tf_lst1 (te_tup0 (α := Int))))) (rf_cons (ts_for (rangeI 0 v_many.toNat) [Tup.mk []] (fun st x => st ++ st.map fun l => Tup.mk (l.items ++ [x])) (fun st => [sD v_many, sD st, none, none]) 2 .never rfl (ti_range1 (te_var 0) B.range (by rw [sizeLine_eq]; omega) (by omega)) rfl (fun _ _ => dg_name 2 hN) (fun st x hx => ?_)) (rf_ret (tf_sortL hu (te_var 1) B.sorted)))
    obtain ⟨pre, post, e, hst⟩ := hx
    have hlen : pre.length ≤ 8 := by
      have := congrArg List.length e
      rw [rangeI_len, List.length_append] at this
      omega
    obtain ⟨h1, h2⟩ := foldl_lots (fun st x => st ++ st.map fun l => Tup.mk (l.items ++ [x])) (fun _ _ => rfl) pre [Tup.mk ([] : List Int)] 0 (fun l hl => by rw [List.mem_singleton.mp hl]; exact Nat.le_refl _)
    rw [← hst, List.length_singleton, Nat.one_mul] at h1
    rw [← hst] at h2
    refine ⟨[sD v_many, sD (st ++ st.map fun l => Tup.mk (l.items ++ [x])), sD x, none], dss_one (ts_set 1 hN (te_new (tf_catL (te_var 1) (te_new (t_lc1 (fun l : Tup Int => Tup.mk (l.items ++ [x])) 3 rfl hN (ti_list (te_var 1)) (blkOk_by (by kernel_rfl)) (fun _ _ _ _ _ _ _ => dg_name 3 hN) fun l hl _ _ _ _ _ => te_catT (te_var 3) (te_tup1 (te_var 2)) ?_)) ?_))), le_of [false, false, true] rfl⟩
    · have := h2 l hl
      show l.items.length + 1 ≤ _
      rw [sizeLine_eq]
      omega
    · rw [List.length_map, h1]
      exact two_small hlen
end
end K75
set_option Elab.async false
set_option linter.all false
set_option maxRecDepth 100000
set_option maxHeartbeats 4000000
namespace K75
open PySem PySem.Spec L2 G
open PySem.W (Datum DatumOrd Tup)
section
variable {P : Program} {w : World} {K : PySem.W.Frag} {mg : Str → Option Value} {base : Heap} {f : Addr} {fd : FuncData}
abbrev T_roll (P : Program) (w : World) (K : PySem.W.Frag) (mg : Str → Option Value) (base : Heap) : Prop := Cl P w K mg base 1 "_law_roll" (spB K FRoll)
theorem ok_roll (B : Bi mg) (Fn : L2.Fun K "_law_roll" "_law_roll" (topS 35) f fd) (mgf : mg "_law_roll" = some (.ref f)) (b : Binds K fd ["cup", "many"] []) : T_roll P w K mg base := by
  refine fn_B (N := ["cup", "many", "found", "deep"]) Fn mgf b (C8.fnScope_by (by decide +kernel)) (fun c ds d c' ⟨u, many, _, _, _, _, h, _, _⟩ => by rw [h]; rfl) ?_
  rintro c ds d c' ⟨⟨x, y⟩, many, hu, h1, h2, rfl, rfl, rfl, rfl⟩ cdv A outer s H E hr
  have hN : (["cup", "many", "found", "deep"] : List Str).Nodup := by decide +kernel
  obtain ⟨y0, y1⟩ := hu
  simp only at y0 y1
  suffices h : RK (bX P w K mg base ["cup", "many", "found", "deep"] "_law_roll" (topS 35) f cdv A outer s H E) (defBody (topS 35)) [some (.o true (cupL (x, y))), sD many, none, none] (toD (rollV (x, y) many)) (cupL (rollC (x, y) many)) by
    obtain ⟨δ', h1, h2⟩ := h
    exact ⟨δ', _, h1, .inl rfl, h2⟩
  refine rc_if (tt_gt (te_ixL (xs := [x, y]) (de_own 0 rfl) te_int rfl) te_int) (fun hp => ?_) (fun hp => ?_)
  · have hx : 0 < x := of_decide_eq_true hp
    rw [show rollV (x, y) many = x % many from if_pos hx, show rollC (x, y) many = (x / many, y) from if_pos hx]
    exact rc_cons (ts_set 2 hN (te_mod (te_intI (te_ixL (xs := [x, y]) (de_own 0 rfl) te_int rfl) B.int) (te_var 1) h1)) (rc_cons (ds_setItem 0 rfl (te_div (te_ixL (xs := [x, y]) (de_own 0 rfl) te_int rfl) (te_var 1) ⟨h1, h2⟩) (te_int (i := 0)) ⟨_, _, rfl⟩ rfl) (rk_ret 0 (te_var 2)))
  · have hx : ¬ 0 < x := of_decide_eq_false hp
    rw [show rollV (x, y) many = (step y * (step y + 229) % 2147483587 / 821) % many from if_neg hx, show rollC (x, y) many = (x, step y) from if_neg hx]
    have hs := step_ok y
    exact rc_cons (ds_setItem 0 rfl (te_mod (te_intI (te_add (te_mul (te_ixL (xs := [x, y]) (de_own 0 rfl) te_int rfl) te_int (.inr (by omega))) te_int) B.int) te_int (by omega)) (te_int (i := 1)) ⟨_, _, rfl⟩ rfl)
      (rc_cons (ts_set 3 hN (te_mod (te_intI (te_mul (te_ixL (xs := [x, step y]) (de_own 0 rfl) te_int rfl) (te_add (te_ixL (xs := [x, step y]) (de_own 0 rfl) te_int rfl) te_int) (.inl (by omega))) B.int) te_int (by omega)))
      (rk_ret 0 (te_mod (te_intI (te_div (te_var 3) te_int ⟨by decide, by decide⟩) B.int) (te_var 1) h1)))
abbrev T_cup (P : Program) (w : World) (K : PySem.W.Frag) (mg : Str → Option Value) (base : Heap) : Prop := Cl P w K mg base 1 "_law_cup" (spCup K)
theorem ok_cup (B : Bi mg) (Fn : L2.Fun K "_law_cup" "_law_cup" (topS 34) f fd) (mgf : mg "_law_cup" = some (.ref f)) (b : Binds K fd ["script"] []) : T_cup P w K mg base := by
  refine ⟨f, fd, ["script"], Fn.ok (N := ["script", "cell"]) (C8.fnScope_by (by decide +kernel)) (fun vs H Q E h => ?_) (fun cdv A outer s H vs Q E hr h => ?_), mgf, Fn.kp, b⟩
  · obtain ⟨a, ns, rfl, _⟩ := h
    rfl
  obtain ⟨a, ns, rfl, hS, hz, q⟩ := h
  have hN : (["script", "cell"] : List Str).Nodup := by decide +kernel
  have cell0 : (0 : Int) ≤ (((ns ++ [0]).headD 0).natAbs : Int) := Int.natCast_nonneg _
  refine ⟨_, pss_cons (ps_set (i := 1) hN rfl (Or.inl rfl) (pe_cell (X := bX P w K mg base ["script", "cell"] "_law_cup" (topS 34) f cdv A outer s H E) 0 B.abs B.list rfl (Or.inl rfl) (by decide) (by decide) rfl rfl) rfl (.inl rfl)) (PSs.any fun ns : List Int =>
    (dss_one (ds_retF (df_eq (tf_lst2 (te_if (tt_ge (te_var 1) (te_pow te_int te_int ⟨by decide, by decide, by decide⟩)) (fun _ => te_div (te_var 1) te_int ⟨by decide, by decide⟩) (fun _ => te_int)) (te_add (te_mod (te_intI (te_add (te_mul (te_var 1) te_int (.inr (by omega))) te_int) B.int) te_int (by omega)) te_int)) (cup_eq ns))) :
      DSs (bX P w K mg base ["script", "cell"] "_law_cup" (topS 34) f cdv A outer s H E) _ [none, sD (cellG ns)] (.rf (cupL (cupOf ns)) [none, sD (cellG ns)]))), ?_⟩
  refine ⟨a, ns, rfl, hS, hz, fun H1 e1 => ⟨ns, ⟨H, none0, none⟩, none0, none0, ?_, fun O' W' σ' p o H' E' hp hc hn => ?_⟩⟩
  · refine ⟨rfl, fun i d q => ?_, fun i b c q => ?_, fun i v q => ?_, fun i j b b' c e p q1 _ _ _ => ?_, fun a o q _ => e1 a o q, fun a h => h, fun a h => h.elim, (fun p h => nomatch h), (fun a h => h.elim), fun a h => ?_⟩
    · match i, q with
      | 1, q => cases q; exact ⟨_, rfl, .int _⟩
    · match i, q with
      | 1, q => cases q
    · match i, q with
      | 1, q => cases q
    · match i, q1 with
      | 1, q => cases q
    · rcases h with h | h
      · exact h.elim
      · cases h
  · refine q p H' hn (fun a o z => E'.keep a o z (fun y => nomatch y)) ?_
    obtain ⟨xs, rfl, hx⟩ := hc.lst
    cases hx with
    | cons a1 a2 =>
      cases a2 with
      | cons b1 b2 =>
        cases b2
        cases a1
        cases b1
        exact hp
end
end K75
set_option Elab.async false
set_option linter.all false
set_option maxRecDepth 100000
set_option maxHeartbeats 4000000
namespace K75
open PySem PySem.Spec L2 G
open PySem.W (Datum DatumOrd Tup)
section
variable {P : Program} {w : World} {K : PySem.W.Frag} {mg : Str → Option Value} {base : Heap} {f : Addr} {fd : FuncData}
def FSort : List PyData → PyData → Prop := fun ds d => ∃ x, noDict x ∧ ds = [x] ∧ d = .int (sortOf x)
abbrev T_sort (P : Program) (w : World) (K : PySem.W.Frag) (mg : Str → Option Value) (base : Heap) : Prop := Cl P w K mg base 1 "_law_sort" (spP K FSort)
theorem ok_sort (B : Bi mg) (Fn : L2.Fun K "_law_sort" "_law_sort" (topS 37) f fd) (mgf : mg "_law_sort" = some (.ref f)) (b : Binds K fd ["value"] []) : T_sort P w K mg base := by
  refine fn_P (N := ["value"]) Fn mgf b (C8.fnScope_by (by decide +kernel)) (fun ds d ⟨x, _, h, _⟩ => by rw [h]; rfl) ?_
  rintro ds d ⟨x, hx, rfl, rfl⟩ cdv A outer s H E hr
  show RT _ _ [some (.d x)] _
  refine rt_ifD (p := isNone x || isBool x) (δ1 := [some (.d x)]) (tt_orS (tt_isN (de_var 0 rfl) de_non) fun _ => dt_val (de_isin kit_bool (de_var 0 rfl) B.isinstance B.bool (by decide +kernel))) (fun h1 => ?_) (fun h1 => rtb_nil (rt_ifD (p := isInt x || isStr x) (δ1 := [some (.d x)]) (tt_orS (dt_val (de_isin kit_int (de_var 0 rfl) B.isinstance B.int (by decide +kernel))) fun _ => dt_val (de_isin kit_str (de_var 0 rfl) B.isinstance B.str (by decide +kernel))) (fun h2 => ?_) (fun h2 => rtb_nil ?_)))
  · cases x with
    | none => show RTB _ _ _ _ (toD (0 : Int)); exact rtb_ret (de_if (p := true) (tt_isN (d := .none) (de_var 0 rfl) de_non) (fun _ => te_int) (fun z => nomatch z))
    | bool b => show RTB _ _ _ _ (toD (1 : Int)); exact rtb_ret (de_if (p := false) (tt_isN (d := .bool b) (de_var 0 rfl) de_non) (fun z => nomatch z) (fun _ => te_int))
    | _ => cases h1
  · cases x with
    | int b => show RTB _ _ _ _ (toD (2 : Int)); exact rtb_ret (de_if (p := true) (dt_val (de_isin (d := .int b) kit_int (de_var 0 rfl) B.isinstance B.int (by decide +kernel))) (fun _ => te_int) (fun z => nomatch z))
    | str b => show RTB _ _ _ _ (toD (3 : Int)); exact rtb_ret (de_if (p := false) (dt_val (de_isin (d := .str b) kit_int (de_var 0 rfl) B.isinstance B.int (by decide +kernel))) (fun z => nomatch z) (fun _ => te_int))
    | bool b => cases h1
    | _ => cases h2
  · cases x with
    | tuple b => show RT _ _ _ (toD (4 : Int)); exact rt_ret (de_if (p := true) (dt_val (de_isin (d := .tuple b) kit_tuple (de_var 0 rfl) B.isinstance B.tuple (by decide +kernel))) (fun _ => te_int) (fun z => nomatch z))
    | list b => show RT _ _ _ (toD (5 : Int)); exact rt_ret (de_if (p := false) (dt_val (de_isin (d := .list b) kit_tuple (de_var 0 rfl) B.isinstance B.tuple (by decide +kernel))) (fun z => nomatch z) (fun _ => de_if (p := true) (dt_val (de_isin (d := .list b) kit_list (de_var 0 rfl) B.isinstance B.list (by decide +kernel))) (fun _ => te_int) (fun z => nomatch z)))
    | dict b => exact absurd rfl (hx b)
    | none => cases h1
    | bool => cases h1
    | int => cases h2
    | str => cases h2
/-- dicts nowhere -/
def NoD (d : PyData) : Prop := d.plain = true
theorem NoD.top {d : PyData} (h : NoD d) : noDict d := fun kvs e => by
  subst e
  unfold NoD at h
  simp [PyData.plain] at h
theorem plain_mem : ∀ {ds : List PyData} {d : PyData}, PyData.plainAll ds = true → d ∈ ds → d.plain = true
  | _ :: _, _, h, .head _ => by simp only [PyData.plainAll, Bool.and_eq_true] at h; exact h.1
  | _ :: _, _, h, .tail _ q => by simp only [PyData.plainAll, Bool.and_eq_true] at h; exact plain_mem h.2 q
theorem depth_mem : ∀ {ds : List PyData} {d : PyData}, d ∈ ds → d.depth ≤ PyData.depthAll ds
  | _ :: _, _, .head _ => by simp only [PyData.depthAll]; exact Nat.le_max_left _ _
  | _ :: _, _, .tail _ q => by simp only [PyData.depthAll]; exact Nat.le_trans (depth_mem q) (Nat.le_max_right _ _)
def FLike (n : Nat) : List PyData → PyData → Prop := fun ds d => ∃ x y, NoD x ∧ NoD y ∧ x.depth ≤ n ∧ n ≤ 60 ∧ ds = [x, y] ∧ d = .bool (likeB x y)
abbrev T_like (n : Nat) (P : Program) (w : World) (K : PySem.W.Frag) (mg : Str → Option Value) (base : Heap) : Prop := Cl P w K mg base (n + 2) "_law_like" (spP K (FLike n))
theorem ok_like (B : Bi mg) (cs : T_sort P w K mg base) (Fn : L2.Fun K "_law_like" "_law_like" (topS 38) f fd) (mgf : mg "_law_like" = some (.ref f)) (b : Binds K fd ["one", "other"] []) : ∀ n : Nat, T_like n P w K mg base := by
  have step : ∀ n : Nat, (n = 0 ∨ ∃ m, n = m + 1 ∧ T_like m P w K mg base) → T_like n P w K mg base := by
    intro n hn
    refine fn_P (N := ["one", "other", "sort", "first", "second"]) Fn mgf b (C8.fnScope_by (by decide +kernel)) (fun ds d ⟨x, y, _, _, _, _, h, _⟩ => by rw [h]; rfl) ?_
    rintro ds d ⟨x, y, hx, hy, hd, h60, rfl, rfl⟩ cdv A outer s H E hr
    have hN : (["one", "other", "sort", "first", "second"] : List Str).Nodup := by decide +kernel
    have hu : (bA "_law_like" (topS 38) f cdv A s).units + 70 < cLine := by have := hr.un; omega
    show RT _ _ [some (.d x), some (.d y), none, none, none] _
    refine rt_cons (ts_set (x := sortOf y) 2 hN (de_call cs hr (by omega) (da_cons (de_var 1 rfl) da_nil) ⟨y, hy.top, rfl, rfl⟩)) ?_
    refine rt_ifD (p := decide (sortOf x ≠ sortOf y) || decide (sortOf y = 6)) (δ1 := [some (.d x), some (.d y), sD (sortOf y), none, none]) (tt_orS (tt_ne hu (de_call cs hr (by omega) (da_cons (de_var 0 rfl) da_nil) ⟨x, hx.top, rfl, rfl⟩) (te_var 2)) fun _ => tt_eq hu (te_var 2) te_int) (fun h => ?_) (fun h => rtb_nil ?_)
    · have e : likeB x y = false := by
        rcases Bool.or_eq_true_iff.mp h with h | h
        · exact likeB_sort (of_decide_eq_true h)
        · have h := of_decide_eq_true h
          cases y <;> first | exact absurd rfl (hy.top _) | (simp [sortOf] at h)
      rw [e]
      exact rtb_ret (x := false) te_bool
    · rw [Bool.or_eq_false_iff] at h
      have e1 : sortOf x = sortOf y := Classical.byContradiction fun z => by rw [decide_eq_true z] at h; cases h.1
      refine rt_ifD (p := decide (sortOf y ∈ ([4, 5] : List Int))) (δ1 := [some (.d x), some (.d y), sD (sortOf y), none, none]) (tt_inT (t := Tup.mk [4, 5]) hu (te_var 2) (de_tup (da_cons (te_int (i := 4)) (da_cons (te_int (i := 5)) da_nil)) (show 2 ≤ sizeLine by decide))) (fun h2 => ?_) (fun h2 => rtb_nil ?_)
      · have h2 := of_decide_eq_true h2
        cases y with
        | list ys =>
          cases x with
          | list xs =>
            obtain ⟨m, rfl, ih⟩ : ∃ m, n = m + 1 ∧ T_like m P w K mg base := by
              rcases hn with rfl | hn
              · simp only [PyData.depth] at hd
                omega
              · exact hn
            have hx' : PyData.plainAll xs = true := by unfold NoD at hx; simpa only [PyData.plain] using hx
            have hy' : PyData.plainAll ys = true := by unfold NoD at hy; simpa only [PyData.plain] using hy
            have hd' : PyData.depthAll xs ≤ m := by simp only [PyData.depth] at hd; omega
            rw [show likeB (.list xs) (.list ys) = (decide ((xs.length : Int) = (ys.length : Int)) && decide ((((xs.zip ys).filter fun p => !likeB p.1 p.2).map fun _ => (1 : Int)) = [])) from by rw [likeB_zip]; exact eqC_iff ⟨fun e => by cases e; rfl, fun e => by rw [e]⟩]
            refine rtb_ret (α := Bool) (te_and2 (δ := [some (.d _), some (.d _), sD (sortOf _), none, none]) (p := decide ((xs.length : Int) = (ys.length : Int))) (q := decide ((((xs.zip ys).filter fun p => !likeB p.1 p.2).map fun _ => (1 : Int)) = [])) ?_ fun _ => ?_)
            · exact te_eq hu (de_lenL (de_var 0 rfl) B.len) (de_lenL (de_var 1 rfl) B.len)
            · exact te_eq hu (te_new (d_lc2if (fun p => !likeB p.1 p.2) (fun _ => (1 : Int)) 3 4 rfl hN (by decide) (di_zipL (de_var 0 rfl) (de_var 1 rfl) B.zip) (blkOk_by (by kernel_rfl)) (fun _ _ _ _ _ _ _ => dg_two 3 4 rfl hN)
              (fun p hp _ _ _ _ _ => dt_not (dt_val (de_call ih hr (by omega) (da_cons (de_var 3 rfl) (da_cons (de_var 4 rfl) da_nil)) ⟨p.1, p.2, plain_mem hx' (List.of_mem_zip hp).1, plain_mem hy' (List.of_mem_zip hp).2, Nat.le_trans (depth_mem (List.of_mem_zip hp).1) hd', by omega, rfl, rfl⟩))) (fun _ _ _ _ _ _ _ _ => te_int))) (te_new tf_lst0)

          | _ => simp [sortOf] at e1
        | tuple ys =>
          cases x with
          | tuple xs =>
            obtain ⟨m, rfl, ih⟩ : ∃ m, n = m + 1 ∧ T_like m P w K mg base := by
              rcases hn with rfl | hn
              · simp only [PyData.depth] at hd
                omega
              · exact hn
            have hx' : PyData.plainAll xs = true := by unfold NoD at hx; simpa only [PyData.plain] using hx
            have hy' : PyData.plainAll ys = true := by unfold NoD at hy; simpa only [PyData.plain] using hy
            have hd' : PyData.depthAll xs ≤ m := by simp only [PyData.depth] at hd; omega
            rw [show likeB (.tuple xs) (.tuple ys) = (decide ((xs.length : Int) = (ys.length : Int)) && decide ((((xs.zip ys).filter fun p => !likeB p.1 p.2).map fun _ => (1 : Int)) = [])) from by rw [likeB_zip]; exact eqC_iff ⟨fun e => by cases e; rfl, fun e => by rw [e]⟩]
            refine rtb_ret (α := Bool) (te_and2 (δ := [some (.d _), some (.d _), sD (sortOf _), none, none]) (p := decide ((xs.length : Int) = (ys.length : Int))) (q := decide ((((xs.zip ys).filter fun p => !likeB p.1 p.2).map fun _ => (1 : Int)) = [])) ?_ fun _ => ?_)
            · exact te_eq hu (de_lenT (de_var 0 rfl) B.len) (de_lenT (de_var 1 rfl) B.len)
            · exact te_eq hu (te_new (d_lc2if (fun p => !likeB p.1 p.2) (fun _ => (1 : Int)) 3 4 rfl hN (by decide) (di_zipT (de_var 0 rfl) (de_var 1 rfl) B.zip) (blkOk_by (by kernel_rfl)) (fun _ _ _ _ _ _ _ => dg_two 3 4 rfl hN)
              (fun p hp _ _ _ _ _ => dt_not (dt_val (de_call ih hr (by omega) (da_cons (de_var 3 rfl) (da_cons (de_var 4 rfl) da_nil)) ⟨p.1, p.2, plain_mem hx' (List.of_mem_zip hp).1, plain_mem hy' (List.of_mem_zip hp).2, Nat.le_trans (depth_mem (List.of_mem_zip hp).1) hd', by omega, rfl, rfl⟩))) (fun _ _ _ _ _ _ _ _ => te_int))) (te_new tf_lst0)

          | _ => simp [sortOf] at e1
        | _ => simp [sortOf] at h2
      · have h2 := of_decide_eq_false h2
        have de0 : x.depth = 0 := by
          cases x <;> first | rfl | exact absurd rfl (hx.top _) | (rw [← e1] at h2; simp [sortOf] at h2)
        have eq : PyData.eqv x y = likeB x y := by
          cases x <;> cases y <;> first | (simp [sortOf] at e1; done) | (simp [sortOf] at h2; done) | exact absurd rfl (hx.top _) | skip
          all_goals (rw [Bool.eq_iff_iff, eqC_true]; simp [PyData.eqv])
        rw [← eq]
        exact rt_retD (de_cmp or_eqP (de_var 0 rfl) (de_var 1 rfl) (fun O H u v Q z hx1 hy1 k => ⟨x, y, hx1.dp, hy1.dp, hx, hy, by show (bA "_law_like" (topS 38) f cdv A s).units + min x.depth y.depth < cLine; rw [de0]; omega, k.here (.bl _)⟩) (nomark _))
  exact fun n => by
    induction n with
    | zero => exact step 0 (.inl rfl)
    | succ n ih => exact step (n + 1) (.inr ⟨n, rfl, ih⟩)
end
end K75
set_option Elab.async false
set_option linter.all false
set_option maxRecDepth 100000
set_option maxHeartbeats 4000000
namespace K75
open PySem PySem.Spec L2 G
open PySem.W (Datum DatumOrd Tup)
section
variable {P : Program} {w : World} {K : PySem.W.Frag} {mg : Str → Option Value} {base : Heap} {f : Addr} {fd : FuncData}
abbrev T_lots (α : Type) [DecidableEq α] [Datum α] (P : Program) (w : World) (K : PySem.W.Frag) (mg : Str → Option Value) (base : Heap) : Prop := Cl P w K mg base 1 "_law_lots" (spP K (F1 (fun v_things : List α => v_things.length ≤ 16) lotsOf))
abbrev T__law_lots := T_lots Int
theorem ok_lots (α : Type) [DecidableEq α] [Datum α] (B : Bi mg) (Fn : L2.Fun K "_law_lots" "_law_lots" (topS 39) f fd) (mgf : mg "_law_lots" = some (.ref f)) (b : Binds K fd ["things"] []) : T_lots α P w K mg base :=
  fn_1 (N := ["things", "found", "thing", "some"]) Fn mgf b (C8.fnScope_by (by decide +kernel)) rfl 3 rfl fun things hp cdv A outer s H E hr => by
    have hN : (["things", "found", "thing", "some"] : List Str).Nodup := by decide +kernel
    refine rt_cons (ts_set 1 hN (te_new (tf_lst1 (te_tup0 (α := α))))) (rt_cons (ts_for things [Tup.mk []] (fun st x => st ++ st.map fun l => Tup.mk (l.items ++ [x])) (fun st => [sD things, sD st, none, none]) 2 .never rfl (ti_list (te_var 0)) rfl (fun _ _ => dg_name 2 hN) (fun st x hx => ?_)) (rt_ret (te_var 1)))
    obtain ⟨pre, post, e, hst⟩ := hx
    have hlen : pre.length ≤ 16 := by
      have := congrArg List.length e
      rw [List.length_append] at this
      omega
    obtain ⟨h1, h2⟩ := foldl_lots (fun st x => st ++ st.map fun l => Tup.mk (l.items ++ [x])) (fun _ _ => rfl) pre [Tup.mk ([] : List α)] 0 (fun l hl => by rw [List.mem_singleton.mp hl]; exact Nat.le_refl _)
    rw [← hst, List.length_singleton, Nat.one_mul] at h1
    rw [← hst] at h2
    refine ⟨[sD things, sD (st ++ st.map fun l => Tup.mk (l.items ++ [x])), sD x, none], dss_one (ts_set 1 hN (te_new (tf_catL (te_var 1) (te_new (t_lc1 (fun l : Tup α => Tup.mk (l.items ++ [x])) 3 rfl hN (ti_list (te_var 1)) (blkOk_by (by kernel_rfl)) (fun _ _ _ _ _ _ _ => dg_name 3 hN) fun l hl _ _ _ _ _ => te_catT (te_var 3) (te_tup1 (te_var 2)) ?_)) ?_))), le_of [false, false, true] rfl⟩
    · have := h2 l hl
      show l.items.length + 1 ≤ _
      rw [sizeLine_eq]
      omega
    · rw [List.length_map, h1]
      exact two_small hlen
def m__law_all (v_many : Int) : (List (Tup Int)) :=
  (srt (lotsOf (rangeI 0 (v_many).toNat)))
abbrev T__law_all (P : Program) (w : World) (K : PySem.W.Frag) (mg : Str → Option Value) (base : Heap) : Prop := Cl P w K mg base 2 "_law_all" (spF K (L1 (fun (v_many : Int) => 0 ≤ v_many ∧ v_many ≤ 8) m__law_all))
theorem ok__law_all (B : Bi mg) (c__law_lots : T__law_lots P w K mg base) (Fn : L2.Fun K "_law_all" "_law_all" (topS 40) f fd) (mgf : mg "_law_all" = some (.ref f)) (b : Binds K fd ["many"] []) : T__law_all P w K mg base :=
  fl_1 (N := ["many"]) Fn mgf b (C8.fnScope_by (by decide +kernel)) rfl 0 rfl fun v_many hp cdv A outer s H E hr => by
    have hN : (["many"] : List Str).Nodup := by decide +kernel
    have hu : (bA "_law_all" (topS 40) f cdv A s).units + 70 < cLine := by have := hr.un; omega
    exact (rf_ret (tf_sortL hu (te_call1 c__law_lots hr (by decide) (te_new (tf_listRg rfl (te_var 0) B.list B.range (by omega) (by omega))) (by rw [rangeI_len]; omega)) B.sorted))

def m__law_in (v_one : (Tup Int)) (v_other : (Tup Int)) : Bool :=
  (decide (((v_one.items.filter fun x1 => (decide (x1 ∉ v_other.items))).map fun x1 => x1) = []))
abbrev T__law_in (P : Program) (w : World) (K : PySem.W.Frag) (mg : Str → Option Value) (base : Heap) : Prop := Cl P w K mg base 1 "_law_in" (spP K (F2 (fun (v_one : (Tup Int)) (v_other : (Tup Int)) => True) m__law_in))
theorem ok__law_in (B : Bi mg)  (Fn : L2.Fun K "_law_in" "_law_in" (topS 41) f fd) (mgf : mg "_law_in" = some (.ref f)) (b : Binds K fd ["one", "other"] []) : T__law_in P w K mg base :=
  fn_2 (N := ["one", "other", "thing"]) Fn mgf b (C8.fnScope_by (by decide +kernel)) rfl 1 rfl fun v_one v_other hp cdv A outer s H E hr => by
    have hN : (["one", "other", "thing"] : List Str).Nodup := by decide +kernel
    have hu : (bA "_law_in" (topS 41) f cdv A s).units + 70 < cLine := by have := hr.un; omega
    exact (rt_ret (te_eq hu (te_new (t_lc1if (fun x1 => (decide (x1 ∉ v_other.items))) (fun x1 => x1) 2 rfl hN (ti_tup (te_var 0)) (blkOk_by (by kernel_rfl)) (fun _ _ _ _ _ _ _ => dg_name 2 hN) (fun x1 hx1 _ _ _ _ _ => (tt_notInT hu (te_var 2) (te_var 1))) fun x1 hx1 px1 _ _ _ _ _ => (te_var 2))) (te_new tf_lst0)))

def m__law_risen (v_many : Int) (v_family : (Tup (Tup Int))) : (Tup (Tup Int)) :=
  (Tup.mk (((m__law_all v_many).filter fun x1 => (decide (((v_family.items.filter fun x2 => (m__law_in x2 x1)).map fun x2 => x2) ≠ []))).map fun x1 => x1))
abbrev T__law_risen (P : Program) (w : World) (K : PySem.W.Frag) (mg : Str → Option Value) (base : Heap) : Prop := Cl P w K mg base 3 "_law_risen" (spP K (F2 (fun (v_many : Int) (v_family : (Tup (Tup Int))) => 0 ≤ v_many ∧ v_many ≤ 8) m__law_risen))
theorem ok__law_risen (B : Bi mg) (c__law_all : T__law_all P w K mg base) (c__law_in : T__law_in P w K mg base) (Fn : L2.Fun K "_law_risen" "_law_risen" (topS 43) f fd) (mgf : mg "_law_risen" = some (.ref f)) (b : Binds K fd ["many", "family"] []) : T__law_risen P w K mg base :=
  fn_2 (N := ["many", "family", "lot", "own"]) Fn mgf b (C8.fnScope_by (by decide +kernel)) rfl 2 rfl fun v_many v_family hp cdv A outer s H E hr => by
    have hN : (["many", "family", "lot", "own"] : List Str).Nodup := by decide +kernel
    have hu : (bA "_law_risen" (topS 43) f cdv A s).units + 70 < cLine := by have := hr.un; omega
    exact (rt_ret (te_tupN (t_lc1if (fun x1 => (decide (((v_family.items.filter fun x2 => (m__law_in x2 x1)).map fun x2 => x2) ≠ []))) (fun x1 => x1) 2 rfl hN (ti_list (te_new (tf_call1 c__law_all hr (by decide) (te_var 0) hp))) (blkOk_by (by kernel_rfl)) (fun _ _ _ _ _ _ _ => dg_name 2 hN) (fun x1 hx1 _ _ _ _ _ => (tt_ne hu (te_new (t_lc1if (fun x2 => (m__law_in x2 x1)) (fun x2 => x2) 3 rfl hN (ti_tup (te_var 1)) (blkOk_by (by kernel_rfl)) (fun _ _ _ _ _ _ _ => dg_name 3 hN) (fun x2 hx2 _ _ _ _ _ => (tt_val (te_call2 c__law_in hr (by decide) (te_var 3) (te_var 2) trivial))) fun x2 hx2 px2 _ _ _ _ _ => (te_var 3))) (te_new tf_lst0))) fun x1 hx1 px1 _ _ _ _ _ => (te_var 2)) B.tuple))

end
end K75
set_option Elab.async false
set_option linter.all false
set_option maxRecDepth 100000
set_option maxHeartbeats 4000000
namespace K75
open PySem PySem.Spec L2 G
open PySem.W (Datum DatumOrd Tup)
section
variable {P : Program} {w : World} {K : PySem.W.Frag} {mg : Str → Option Value} {base : Heap} {f : Addr} {fd : FuncData}
theorem rangeI_split {lo : Int} {n : Nat} {pre post : List Int} {x : Int} (h : rangeI lo n = pre ++ x :: post) : pre = rangeI lo pre.length ∧ x = lo + (pre.length : Int) ∧ pre.length < n := by
  have hl := congrArg List.length h
  rw [rangeI_len, List.length_append, List.length_cons] at hl
  have h1 : (rangeI lo n).take pre.length = pre := by rw [h, List.take_left]
  have h2 : (rangeI lo n)[pre.length]? = some x := by rw [h, List.getElem?_append_right (Nat.le_refl _), Nat.sub_self]; rfl
  refine ⟨?_, ?_, by omega⟩
  · conv => lhs; rw [← h1]
    unfold rangeI
    rw [← List.map_take, List.take_range, Nat.min_eq_left (by omega)]
  · unfold rangeI at h2
    rw [List.getElem?_map, List.getElem?_range (by omega)] at h2
    exact (Option.some.inj h2).symm
theorem pow_int {n : Nat} (h : n ≤ 4) : ∃ m : Nat, (1 * 2 ^ n : Int) = (m : Int) ∧ m ≤ 16 := by
  refine ⟨2 ^ n, ?_, Nat.pow_le_pow_right (by decide) h⟩
  rw [Int.one_mul]
  simp
/-! ### families as bits -/
def bitsStep (found : List Int) (thing : Int) : List Int :=
  found.flatMap (row2 (fun _ => true) (fun _ => found) (fun low high => decide (Builtin.bitAnd low (Builtin.bitNot high) = 0)) fun low high => Builtin.bitOr low (high * 2 ^ (1 * 2 ^ thing.toNat : Int).toNat))
def famBits (many : Int) : List Int := (rangeI 0 many.toNat).foldl bitsStep [0, 1]
def smallBits (st : List Int) : Bool := (st.all fun v => decide (0 ≤ v) && decide (v < 65536)) && decide (st.length ≤ 168)
theorem bits_small : ∀ j : Nat, j < 5 → smallBits ((rangeI 0 j).foldl bitsStep [0, 1]) = true := by decide +kernel
theorem row2_len {α β γ : Type} (p0 : α → Bool) (src1 : α → List β) (p : α → β → Bool) (g : α → β → γ) (n : Nat) (h : ∀ x, (src1 x).length ≤ n) : ∀ src : List α, (src.flatMap (row2 p0 src1 p g)).length ≤ src.length * n
  | [] => by simp
  | x :: src => by
    have ih := row2_len p0 src1 p g n h src
    rw [List.flatMap_cons, List.length_append, List.length_cons, Nat.add_mul, Nat.one_mul]
    have : (row2 p0 src1 p g x).length ≤ n := by
      unfold row2
      split
      · rw [List.length_map]
        exact Nat.le_trans (List.length_filter_le _ _) (h x)
      · exact Nat.zero_le _
    omega
abbrev T_families_as_bits (P : Program) (w : World) (K : PySem.W.Frag) (mg : Str → Option Value) (base : Heap) : Prop := Cl P w K mg base 1 "families_as_bits" (spP K (F1 (fun (v_many : Int) => 0 ≤ v_many ∧ v_many ≤ 5) famBits))
theorem ok_families_as_bits (B : Bi mg) (Fn : L2.Fun K "families_as_bits" "families_as_bits" (topS 26) f fd) (mgf : mg "families_as_bits" = some (.ref f)) (b : Binds K fd ["many"] []) : T_families_as_bits P w K mg base :=
  fn_1 (N := ["many", "found", "thing", "width", "low", "high"]) Fn mgf b (C8.fnScope_by (by decide +kernel)) rfl 5 rfl fun many hp cdv A outer s H E hr => by
    have hN : (["many", "found", "thing", "width", "low", "high"] : List Str).Nodup := by decide +kernel
    have hu : (bA "families_as_bits" (topS 26) f cdv A s).units + 70 < cLine := by have := hr.un; omega
    refine rt_cons (ts_set 1 hN (te_new (tf_lst2 te_int te_int))) (rt_cons (ts_for (rangeI 0 many.toNat) [0, 1] bitsStep (fun st => [sD many, sD st, none, none, none, none]) 2 .never rfl (ti_range1 (te_var 0) B.range (by rw [sizeLine_eq]; omega) (by omega)) rfl (fun _ _ => dg_name 2 hN) (fun st x hx => ?_)) (rt_ret (te_var 1)))
    obtain ⟨pre, post, e, hst⟩ := hx
    obtain ⟨e1, e2, e3⟩ := rangeI_split e
    have sm : smallBits st = true := by rw [hst, e1]; exact bits_small _ (by omega)
    unfold smallBits at sm
    rw [Bool.and_eq_true, List.all_eq_true, decide_eq_true_eq] at sm
    obtain ⟨s1, s2⟩ := sm
    refine ⟨[sD many, sD (bitsStep st x), sD x, sD (1 * 2 ^ x.toNat : Int), none, none], dss_cons (ts_set 3 hN (te_shl te_int (te_var 2) ⟨by omega, by omega, by decide⟩)) (dss_one (ts_set (δ1 := [sD many, sD st, sD x, sD (1 * 2 ^ x.toNat : Int), none, none]) 1 hN (te_new ?_))), le_of [false, false, true, true] rfl⟩
    refine t_lcc (fun _ => true) (fun _ => st) (fun low high => decide (Builtin.bitAnd low (Builtin.bitNot high) = 0)) (fun low high => Builtin.bitOr low (high * 2 ^ (1 * 2 ^ x.toNat : Int).toNat)) (fun low => [sD many, sD st, sD x, sD (1 * 2 ^ x.toNat : Int), sD low, none]) (fun low high => [sD many, sD st, sD x, sD (1 * 2 ^ x.toNat : Int), sD low, sD high]) [5] [4] [5] rfl hN (ti_list (te_var 1)) (own := [("low", 4), ("high", 5)]) (blkOk_by (by kernel_rfl)) ?_ (by decide) (by decide) (by decide) (fun _ _ => rfl) (fun _ => rfl) (fun _ => rfl) (fun j hj => ?_)
      (fun _ _ _ _ _ _ _ => dg_name 4 hN) (fun _ _ _ _ _ _ _ => dts_nil) (fun _ _ _ _ _ _ _ => ti_list (te_var 1)) (fun _ _ _ _ _ _ _ _ _ => dg_name 5 hN) (fun _ _ _ _ _ _ _ _ _ => dts_one (tt_eq hu (te_band (te_var 4) (te_inv (te_var 5))) te_int)) (fun low hl high hh _ _ _ _ _ _ => te_bor (te_var 4) (te_shl (te_var 5) (te_var 3) ?_))
    · refine Nat.le_trans (row2_len _ _ _ _ 168 (fun _ => s2) st) ?_
      rw [sizeLine_eq]
      omega
    · simp only [List.map_cons, List.map_nil, List.mem_cons, List.not_mem_nil, or_false] at hj
      rcases hj with rfl | rfl <;> rfl
    · have h := s1 high hh
      rw [Bool.and_eq_true, decide_eq_true_eq, decide_eq_true_eq] at h
      have hx5 : x.toNat ≤ 4 := by omega
      obtain ⟨m, h2, h3⟩ := pow_int hx5
      rw [h2]
      exact ⟨by omega, by omega, by omega⟩
/-! ### a family told by bits -/
def bitSet (v : Int) (i : Int) : Bool := Builtin.bitAnd (v / 2 ^ i.toNat) 1 != 0
def lotAt (many pos : Int) : Lot := Tup.mk (((rangeI 0 many.toNat).filter fun i => bitSet pos i).map fun i => i)
def famOf (many bits : Int) : Tup Lot := Tup.mk (srt ((rangeI 0 (1 * 2 ^ many.toNat : Int).toNat).foldl (fun st at_ => if bitSet bits at_ = true then st ++ [lotAt many at_] else st) []))
abbrev T_family_of_bits (P : Program) (w : World) (K : PySem.W.Frag) (mg : Str → Option Value) (base : Heap) : Prop := Cl P w K mg base 1 "family_of_bits" (spP K (F2 (fun (v_many v_bits : Int) => 0 ≤ v_many ∧ v_many ≤ 4) famOf))
theorem foldl_grow {α β : Type} (p : α → Bool) (g : α → β) : ∀ (l : List α) (st : List β), (l.foldl (fun st x => if p x = true then st ++ [g x] else st) st).length ≤ st.length + l.length
  | [], st => Nat.le_refl _
  | x :: l, st => by
    have ih := foldl_grow p g l (if p x = true then st ++ [g x] else st)
    rw [List.foldl_cons, List.length_cons]
    have : (if p x = true then st ++ [g x] else st).length ≤ st.length + 1 := by
      split
      · rw [List.length_append]; exact Nat.le_refl _
      · omega
    omega
theorem ok_family_of_bits (B : Bi mg) (Fn : L2.Fun K "family_of_bits" "family_of_bits" (topS 27) f fd) (mgf : mg "family_of_bits" = some (.ref f)) (b : Binds K fd ["many", "bits"] []) : T_family_of_bits P w K mg base :=
  fn_2 (N := ["many", "bits", "lots", "at", "thing"]) Fn mgf b (C8.fnScope_by (by decide +kernel)) rfl 3 rfl fun many bits hp cdv A outer s H E hr => by
    have hN : (["many", "bits", "lots", "at", "thing"] : List Str).Nodup := by decide +kernel
    have hu : (bA "family_of_bits" (topS 27) f cdv A s).units + 70 < cLine := by have := hr.un; omega
    obtain ⟨m16, hm, hm16⟩ := pow_int (n := many.toNat) (by omega)
    have h16 : (1 * 2 ^ many.toNat : Int).toNat ≤ 16 := by rw [hm]; omega
    have h0 : (1 * 2 ^ many.toNat : Int) = (m16 : Int) := hm
    refine rt_cons (ts_own 2 hN (tf_lst0 (α := Lot))) (rt_cons (ts_for (rangeI 0 (1 * 2 ^ many.toNat : Int).toNat) ([] : List Lot) (fun st at_ => if bitSet bits at_ = true then st ++ [lotAt many at_] else st) (fun st => [sD many, sD bits, sL st, none, none]) 3 .never rfl
      (ti_range1 (te_shl te_int (te_var 0) ⟨by omega, by omega, by decide⟩) B.range (by rw [h0, sizeLine_eq]; omega) (by rw [h0]; omega)) rfl (fun _ _ => dg_name 3 hN) (fun st x hx => ?_)) (rt_ret (te_tupN (tf_sortL (xs := (rangeI 0 (1 * 2 ^ many.toNat : Int).toNat).foldl (fun st at_ => if bitSet bits at_ = true then st ++ [lotAt many at_] else st) []) hu (te_own 2) B.sorted) B.tuple)))
    obtain ⟨pre, post, e, hst⟩ := hx
    obtain ⟨e1, e2, e3⟩ := rangeI_split e
    have hl : st.length ≤ 16 := by
      have := foldl_grow (fun at_ => bitSet bits at_) (fun at_ => lotAt many at_) pre []
      rw [← hst] at this
      have h : pre.length < 16 := by omega
      simp only [List.length_nil] at this
      omega
    refine ⟨[sD many, sD bits, sL (if bitSet bits x = true then st ++ [lotAt many x] else st), sD x, none], dss_one (ds_if (p := bitSet bits x) (δ1 := [sD many, sD bits, sL st, sD x, none]) (tt_int (te_band (te_shr (te_var 1) (te_var 3) (by omega)) te_int)) (fun h => ?_) (fun h => ?_)), le_of [false, false, false, true] rfl⟩
    · rw [if_pos h]
      exact dss_one (ts_append 2 (te_tupN (t_lc1if (fun i => bitSet x i) (fun i => i) 4 rfl hN (ti_range1 (te_var 0) B.range (by rw [sizeLine_eq]; omega) (by omega)) (blkOk_by (by kernel_rfl)) (fun _ _ _ _ _ _ _ => dg_name 4 hN) (fun i hi _ _ _ _ _ => tt_int (te_band (te_shr (te_var 3) (te_var 4) (by
        obtain ⟨j, _, rfl⟩ := List.mem_map.mp hi
        omega)) te_int)) (fun _ _ _ _ _ _ _ _ => te_var 4)) B.tuple) (by rw [sizeLine_eq]; omega))
    · rw [if_neg (by rw [h]; decide)]
      exact dss_nil
def m_count_rising_families (v_many : Int) : Int :=
  ((famBits v_many).length : Int)
abbrev T_count_rising_families (P : Program) (w : World) (K : PySem.W.Frag) (mg : Str → Option Value) (base : Heap) : Prop := Cl P w K mg base 4 "count_rising_families" (spP K (F1 (fun (v_many : Int) => isWhole v_many 0 5 = true) m_count_rising_families))
theorem ok_count_rising_families (B : Bi mg) (c_need_whole : T_need_whole P w K mg base) (c_families_as_bits : T_families_as_bits P w K mg base) (Fn : L2.Fun K "count_rising_families" "count_rising_families" (topS 31) f fd) (mgf : mg "count_rising_families" = some (.ref f)) (b : Binds K fd ["many"] []) : T_count_rising_families P w K mg base :=
  fn_1 (N := ["many"]) Fn mgf b (C8.fnScope_by (by decide +kernel)) rfl 0 rfl fun v_many hp cdv A outer s H E hr => by
    have hN : (["many"] : List Str).Nodup := by decide +kernel
    have hu : (bA "count_rising_families" (topS 31) f cdv A s).units + 70 < cLine := by have := hr.un; omega
    exact (rt_cons (ts_expr (te_call3 c_need_whole hr (by decide) (te_var 0) te_int (te_glob B.COUNTED) hp)) (rt_ret (te_lenL (te_call1 c_families_as_bits hr (by decide) (te_var 0) (whole_mem hp)) B.len)))

def m_rising_families (v_many : Int) : (Tup (Tup (Tup Int))) :=
  (Tup.mk (srt ((famBits v_many).map fun x1 => (famOf v_many x1))))
abbrev T_rising_families (P : Program) (w : World) (K : PySem.W.Frag) (mg : Str → Option Value) (base : Heap) : Prop := Cl P w K mg base 4 "rising_families" (spP K (F1 (fun (v_many : Int) => isWhole v_many 0 4 = true) m_rising_families))
theorem ok_rising_families (B : Bi mg) (c_need_whole : T_need_whole P w K mg base) (c_families_as_bits : T_families_as_bits P w K mg base) (c_family_of_bits : T_family_of_bits P w K mg base) (Fn : L2.Fun K "rising_families" "rising_families" (topS 32) f fd) (mgf : mg "rising_families" = some (.ref f)) (b : Binds K fd ["many"] []) : T_rising_families P w K mg base :=
  fn_1 (N := ["many", "bits"]) Fn mgf b (C8.fnScope_by (by decide +kernel)) rfl 1 rfl fun v_many hp cdv A outer s H E hr => by
    have hN : (["many", "bits"] : List Str).Nodup := by decide +kernel
    have hu : (bA "rising_families" (topS 32) f cdv A s).units + 70 < cLine := by have := hr.un; omega
    exact (rt_cons (ts_expr (te_call3 c_need_whole hr (by decide) (te_var 0) te_int (te_glob B.LISTED) hp)) (rt_ret (te_tupN (tf_sortL hu (te_new (t_lc1 (fun x1 => (famOf v_many x1)) 1 rfl hN (ti_list (te_call1 c_families_as_bits hr (by decide) (te_var 0) (by have := whole_mem hp; omega))) (blkOk_by (by kernel_rfl)) (fun _ _ _ _ _ _ _ => dg_name 1 hN) fun x1 hx1 _ _ _ _ _ => (te_call2 c_family_of_bits hr (by decide) (te_var 0) (te_var 1) (whole_mem hp)))) B.sorted) B.tuple)))

end
end K75
set_option Elab.async false
set_option linter.all false
set_option maxRecDepth 100000
set_option maxHeartbeats 4000000
namespace K75
open PySem PySem.Spec L2 G
open PySem.W (Datum DatumOrd Tup)
section
variable {P : Program} {w : World} {K : PySem.W.Frag} {mg : Str → Option Value} {base : Heap} {f : Addr} {fd : FuncData}
def keysOf (fam : Tup Lot) : List (Lot × Bool) := fam.items.map fun l => (l, true)
def m_is_falling (many : Int) (fam : Tup Lot) : Bool := (fam.items.map fun lot => ((m_lowered lot).map fun less => decide (less ∈ (keysOf fam).map (·.1))).all fun x => x).all fun x => x
def m_is_rising (many : Int) (fam : Tup Lot) : Bool := (fam.items.map fun lot => ((m_raised many lot).map fun more => decide (more ∈ (keysOf fam).map (·.1))).all fun x => x).all fun x => x
def FamPre (many : Int) (fam : Tup Lot) : Prop := (isWhole many 0 8 = true ∧ m_fits_family many fam = true) ∧ ∀ l ∈ fam.items, l.items.length ≤ 1000
abbrev T_is_falling_family (P : Program) (w : World) (K : PySem.W.Frag) (mg : Str → Option Value) (base : Heap) : Prop := Cl P w K mg base 6 "is_falling_family" (spP K (F2 FamPre m_is_falling))
abbrev T_is_rising_family (P : Program) (w : World) (K : PySem.W.Frag) (mg : Str → Option Value) (base : Heap) : Prop := Cl P w K mg base 6 "is_rising_family" (spP K (F2 FamPre m_is_rising))
theorem ok_is_falling_family (B : Bi mg) (c_need_family : T_need_family P w K mg base) (c_lowered : T_lowered P w K mg base) (Fn : L2.Fun K "is_falling_family" "is_falling_family" (topS 19) f fd) (mgf : mg "is_falling_family" = some (.ref f)) (b : Binds K fd ["many", "family"] []) : T_is_falling_family P w K mg base :=
  fn_2 (N := ["many", "family", "known", "lot", "less"]) Fn mgf b (C8.fnScope_by (by decide +kernel)) rfl 3 rfl fun many fam hp cdv A outer s H E hr => by
    have hN : (["many", "family", "known", "lot", "less"] : List Str).Nodup := by decide +kernel
    have hu : (bA "is_falling_family" (topS 19) f cdv A s).units + 70 < cLine := by have := hr.un; omega
    refine rt_cons (ts_expr (te_call2 c_need_family hr (by decide) (te_var 0) (te_var 1) hp.1)) (rt_cons (ds_setF 2 hN (df_dict rfl hu (t_lc1 (fun l : Lot => (l, true)) 3 rfl hN (ti_tup (te_var 1)) (blkOk_by (by kernel_rfl)) (fun _ _ _ _ _ _ _ => dg_name 3 hN) fun l hl _ _ _ _ _ => te_pair (te_var 3) te_bool) B.dict)) ?_)
    exact rt_ret (te_all rfl (te_new (t_lc1 (fun lot : Lot => ((m_lowered lot).map fun less => decide (less ∈ (keysOf fam).map (·.1))).all fun x => x) 3 rfl hN (ti_tup (te_var 1)) (blkOk_by (by kernel_rfl)) (fun _ _ _ _ _ _ _ => dg_name 3 hN) fun lot hl _ _ _ _ _ =>
      te_all rfl (te_new (t_lc1 (fun less : Lot => decide (less ∈ (keysOf fam).map (·.1))) 4 rfl hN (ti_new (tf_call1 c_lowered hr (by decide) (te_var 3) (by exact hp.2 lot hl))) (blkOk_by (by kernel_rfl)) (fun _ _ _ _ _ _ _ => dg_name 4 hN) fun less _ _ _ _ _ _ => te_inLots (xs := keysOf fam) 2 hu rfl (te_var 4) (de_own 2 rfl))) B.all)) B.all)
theorem ok_is_rising_family (B : Bi mg) (c_need_family : T_need_family P w K mg base) (c_raised : T_raised P w K mg base) (Fn : L2.Fun K "is_rising_family" "is_rising_family" (topS 28) f fd) (mgf : mg "is_rising_family" = some (.ref f)) (b : Binds K fd ["many", "family"] []) : T_is_rising_family P w K mg base :=
  fn_2 (N := ["many", "family", "known", "lot", "more"]) Fn mgf b (C8.fnScope_by (by decide +kernel)) rfl 3 rfl fun many fam hp cdv A outer s H E hr => by
    have hN : (["many", "family", "known", "lot", "more"] : List Str).Nodup := by decide +kernel
    have hu : (bA "is_rising_family" (topS 28) f cdv A s).units + 70 < cLine := by have := hr.un; omega
    have hm := whole_mem hp.1.1
    refine rt_cons (ts_expr (te_call2 c_need_family hr (by decide) (te_var 0) (te_var 1) hp.1)) (rt_cons (ds_setF 2 hN (df_dict rfl hu (t_lc1 (fun l : Lot => (l, true)) 3 rfl hN (ti_tup (te_var 1)) (blkOk_by (by kernel_rfl)) (fun _ _ _ _ _ _ _ => dg_name 3 hN) fun l hl _ _ _ _ _ => te_pair (te_var 3) te_bool) B.dict)) ?_)
    exact rt_ret (te_all rfl (te_new (t_lc1 (fun lot : Lot => ((m_raised many lot).map fun more => decide (more ∈ (keysOf fam).map (·.1))).all fun x => x) 3 rfl hN (ti_tup (te_var 1)) (blkOk_by (by kernel_rfl)) (fun _ _ _ _ _ _ _ => dg_name 3 hN) fun lot hl _ _ _ _ _ =>
      te_all rfl (te_new (t_lc1 (fun more : Lot => decide (more ∈ (keysOf fam).map (·.1))) 4 rfl hN (ti_new (tf_call2 c_raised hr (by decide) (te_var 0) (te_var 3) (by exact ⟨hm.1, by omega, hp.2 lot hl⟩))) (blkOk_by (by kernel_rfl)) (fun _ _ _ _ _ _ _ => dg_name 4 hN) fun more _ _ _ _ _ _ => te_inLots (xs := keysOf fam) 2 hu rfl (te_var 4) (de_own 2 rfl))) B.all)) B.all)
end
end K75
set_option Elab.async false
set_option linter.all false
set_option maxRecDepth 100000
set_option maxHeartbeats 4000000
namespace K75
open PySem PySem.Spec L2 G
open PySem.W (Datum DatumOrd Tup)
section
variable {X : Cx} {a : Expr} {δ : Dl} {pos p' py : Pos} {nm : Str} {u : Cup} {many : Int} {j : Nat}
/-- _law_roll(cup, many) -/
theorem te_roll (i : Nat) {kb : Bool} (c : T_roll X.prog X.w X.K X.mg X.base) (hr : Room j X.A) (hk : 1 ≤ j) (hq : δ[i]? = some (some (.o kb (cupL u)))) (ha : TE X a δ many δ) (hu : CupOk u) (h1 : 0 < many) (h2 : many < 1073741824) (hg : Gl X "_law_roll" := by rfl)
    (hN : X.N[i]? = some nm := by rfl) (hv : Vis X.env.scope nm := by first | exact Or.inl rfl | exact Or.inr (Or.inl rfl) | exact Or.inr (Or.inr rfl)) (hd : (nm == ("__debug__" : Str)) = false := by decide) (hcd : (nm == ("__classdict__" : Str)) = false := by decide)
    (he : starEach [.Name nm py, a] X.env = (false, eval (.Name nm py) X.env) :: starEach [a] X.env := by rfl) (he2 : starEach [a] X.env = (false, eval a X.env) :: starEach [] X.env := by rfl) (hpl : (backTo pos (starEach [a] X.env)).any (·.1) = false := by rfl) :
    TE X (.Call (.Name "_law_roll" p') [.Name nm py, a] [] pos) δ (rollV u many) (δ.set i (some (.o kb (cupL (rollC u many))))) :=
  de_callB i c hr hk hq ⟨_, _, hq⟩ (da_cons ha da_nil he2) ⟨u, many, hu, h1, h2, rfl, rfl, rfl, rfl⟩ hg (by decide) hN hv hd hcd he hpl
end
section
variable {P : Program} {w : World} {K : PySem.W.Frag} {mg : Str → Option Value} {base : Heap} {f : Addr} {fd : FuncData}
/-! ### one of some things -/
def someV (u : Cup) (t : Tup Lot) : Lot := t.items.getD (rollV u t.items.length).toNat (Tup.mk [])
def someC (u : Cup) (t : Tup Lot) : Cup := rollC u t.items.length
def FSome : Co → List PyData → PyData → Co → Prop := fun c ds d c' => ∃ (u : Cup) (t : Tup Lot), CupOk u ∧ t.items ≠ [] ∧ t.items.length < 1000000 ∧ c = cupL u ∧ ds = [toD t] ∧ d = toD (someV u t) ∧ c' = cupL (someC u t)
abbrev T_some (P : Program) (w : World) (K : PySem.W.Frag) (mg : Str → Option Value) (base : Heap) : Prop := Cl P w K mg base 2 "_law_some" (spB K FSome)
theorem some_at {u : Cup} {t : Tup Lot} (h : t.items ≠ []) : atI t.items (rollV u t.items.length) = some (someV u t) := by
  have hl : 0 < t.items.length := List.length_pos_iff.mpr h
  have h1 := rollV_ge u (many := t.items.length) (by omega)
  have h2 := rollV_lt u (many := t.items.length) (by omega)
  unfold atI ixN
  rw [if_pos h1, if_pos h2]
  show t.items[(rollV u t.items.length).toNat]? = some (t.items.getD _ _)
  rw [List.getD_eq_getElem?_getD, List.getElem?_eq_getElem (by omega)]
  rfl
theorem ok_some (B : Bi mg) (cr : T_roll P w K mg base) (Fn : L2.Fun K "_law_some" "_law_some" (topS 36) f fd) (mgf : mg "_law_some" = some (.ref f)) (b : Binds K fd ["cup", "things"] []) : T_some P w K mg base := by
  refine fn_B (N := ["cup", "things"]) Fn mgf b (C8.fnScope_by (by decide +kernel)) (fun c ds d c' ⟨u, t, _, _, _, _, h, _, _⟩ => by rw [h]; rfl) ?_
  rintro c ds d c' ⟨u, t, hu, h1, h2, rfl, rfl, rfl, rfl⟩ cdv A outer s H E hr
  suffices h : RK (bX P w K mg base ["cup", "things"] "_law_some" (topS 36) f cdv A outer s H E) (defBody (topS 36)) [some (.o true (cupL u)), sD t] (toD (someV u t)) (cupL (someC u t)) by
    obtain ⟨δ', h1, h2⟩ := h
    exact ⟨δ', _, h1, .inl rfl, h2⟩
  have hl : 0 < t.items.length := List.length_pos_iff.mpr h1
  exact rk_ret 0 (te_ixT (te_var 1) (te_roll 0 cr hr (by decide) rfl (te_lenT (te_var 1) B.len) hu (by omega) (by omega)) (some_at h1))
/-! ### a family drawn -/
def drawF : Cup → List Lot → Int → List Lot
  | _, [], _ => []
  | u, l :: ls, s => if rollV u s = 0 then l :: drawF (rollC u s) ls s else drawF (rollC u s) ls s
def rollN (s : Int) : Nat → Cup → Cup
  | 0, u => u
  | n + 1, u => rollN s n (rollC u s)
def drawC (u : Cup) (ls : List Lot) (s : Int) : Cup := rollN s ls.length u
theorem rollN_succ (s : Int) : ∀ (n : Nat) (u : Cup), rollN s (n + 1) u = rollC (rollN s n u) s
  | 0, u => rfl
  | n + 1, u => rollN_succ s n (rollC u s)
theorem rollN_ok (s : Int) : ∀ (n : Nat) {u : Cup}, CupOk u → CupOk (rollN s n u)
  | 0, _, h => h
  | n + 1, _, h => rollN_ok s n (rollC_ok h s)
theorem draw_coll (s : Int) (z : Lot) : ∀ (ls : List Lot) (u : Cup), ((List.range ls.length).filter fun i => decide (rollV (rollN s i u) s = 0)).map (fun i => toD (ls.getD i z)) = (drawF u ls s).map toD
  | [], u => rfl
  | l :: ls, u => by
    have ih := draw_coll s z ls (rollC u s)
    rw [List.length_cons, List.range_succ_eq_map, List.filter_cons, List.filter_map, ]
    unfold drawF
    by_cases h : rollV u s = 0
    · rw [if_pos (show decide (rollV (rollN s 0 u) s = 0) = true from decide_eq_true h), if_pos h, List.map_cons, List.map_cons, List.map_map, ← ih]
      rfl
    · rw [if_neg (show ¬ decide (rollV (rollN s 0 u) s = 0) = true from fun z => h (of_decide_eq_true z)), if_neg h, List.map_map, ← ih]
      rfl
theorem drawF_sub (s : Int) : ∀ (ls : List Lot) (u : Cup), (drawF u ls s).Sublist ls
  | [], u => List.Sublist.refl _
  | l :: ls, u => by
    unfold drawF
    split
    · exact (drawF_sub s ls _).cons₂ l
    · exact (drawF_sub s ls _).cons l
def FDraw : Co → List PyData → PyData → Co → Prop := fun c ds d c' => ∃ (u : Cup) (many share : Int), CupOk u ∧ 0 ≤ many ∧ many ≤ 8 ∧ 0 < share ∧ share < 1000000 ∧ c = cupL u ∧ ds = [toD many, toD share] ∧ d = toD (Tup.mk (drawF u (m__law_all many) share)) ∧ c' = cupL (drawC u (m__law_all many) share)
abbrev T_family (P : Program) (w : World) (K : PySem.W.Frag) (mg : Str → Option Value) (base : Heap) : Prop := Cl P w K mg base 3 "_law_family" (spB K FDraw)
theorem ok_family (B : Bi mg) (cr : T_roll P w K mg base) (ca : T__law_all P w K mg base) (Fn : L2.Fun K "_law_family" "_law_family" (topS 42) f fd) (mgf : mg "_law_family" = some (.ref f)) (b : Binds K fd ["cup", "many", "share"] []) : T_family P w K mg base := by
  refine fn_B (N := ["cup", "many", "share", "lot"]) Fn mgf b (C8.fnScope_by (by decide +kernel)) (fun c ds d c' ⟨u, m, s, _, _, _, _, _, _, h, _, _⟩ => by rw [h]; rfl) ?_
  rintro c ds d c' ⟨u, many, share, hu, h1, h2, h3, h4, rfl, rfl, rfl, rfl⟩ cdv A outer s H E hr
  have hN : (["cup", "many", "share", "lot"] : List Str).Nodup := by decide +kernel
  have hu0 : (bA "_law_family" (topS 42) f cdv A s).units + 70 < cLine := by have := hr.un; omega
  suffices h : RK (bX P w K mg base ["cup", "many", "share", "lot"] "_law_family" (topS 42) f cdv A outer s H E) (defBody (topS 42)) [some (.o true (cupL u)), sD many, sD share, none] (toD (Tup.mk (drawF u (m__law_all many) share))) (cupL (drawC u (m__law_all many) share)) by
    obtain ⟨δ', h1, h2⟩ := h
    exact ⟨δ', _, h1, .inl rfl, h2⟩
  refine rk_ret (δ1 := [some (.o true (cupL (drawC u (m__law_all many) share))), sD many, sD share, none]) 0 (te_tupN (df_eq (df_lcS (X := bX P w K mg base ["cup", "many", "share", "lot"] "_law_family" (topS 42) f cdv A outer s H E) (n := (m__law_all many).length) (own := [("lot", 3)]) (is := [3]) (δ' := [some (.o true (cupL (drawC u (m__law_all many) share))), sD many, sD share, none])
    ⟨fun i => [some (.o true (cupL (rollN share i u))), sD many, sD share, none], fun i => [some (.o true (cupL (rollN share i u))), sD many, sD share, sD ((m__law_all many).getD i (Tup.mk []))],
      fun i => [some (.o true (cupL (rollC (rollN share i u) share))), sD many, sD share, sD ((m__law_all many).getD i (Tup.mk []))], fun i => [some (.o true (cupL (rollC (rollN share i u) share))), sD many, sD share, sD ((m__law_all many).getD i (Tup.mk []))],
      fun i => decide (rollV (rollN share i u) share = 0), fun i => toD ((m__law_all many).getD i (Tup.mk []))⟩
    rfl hN (ti_new (tf_call1 ca hr (by decide) (te_var 1) (by exact ⟨h1, h2⟩))) (blkOk_by (by kernel_rfl)) (List.length_map ..) rfl (fun j hj => hj) (fun i d hi hd _ _ _ _ _ => ?_) (fun i hi _ _ _ _ _ => ?_) (fun i hi hp _ _ _ _ _ => te_var 3) (fun i hi => ?_) rfl (fun j hj => ?_) (fun j hj => ?_)) (congrArg Co.l (draw_coll share (Tup.mk []) (m__law_all many) u))) B.tuple)
  · have e : d = toD ((m__law_all many).getD i (Tup.mk [])) := by
      rw [List.getElem?_map, List.getElem?_eq_getElem hi] at hd
      rw [List.getD_eq_getElem?_getD, List.getElem?_eq_getElem hi]
      exact (Option.some.inj hd).symm
    rw [e]
    exact dg_name 3 hN
  · refine dts_one ?_
    exact tt_eq hu0 (te_roll (u := rollN share i u) (many := share) 0 cr hr (by decide) rfl (te_var 2) (rollN_ok share i hu) h3 (by omega)) te_int
  · show wipeD (if decide (rollV (rollN share i u) share = 0) = true then _ else _) [3] = [some (.o true (cupL (rollN share (i + 1) u))), sD many, sD share, none]
    rw [rollN_succ, ite_self]
    rfl
  · simp only [List.map_cons, List.map_nil, List.mem_singleton] at hj
    subst hj
    rfl
  · simp only [List.map_cons, List.map_nil, List.mem_singleton] at hj
    subst hj
    rfl
end
end K75
set_option Elab.async false
set_option linter.all false
set_option maxRecDepth 100000
set_option maxHeartbeats 4000000
namespace K75
open PySem PySem.Spec L2 G
open PySem.W (Datum DatumOrd Tup)
section
variable {X : Cx} {a b : Expr} {δ δ1 δ2 : Dl} {pos p' py : Pos} {nm : Str} {u : Cup} {j : Nat} {x y : PyData} {t : Tup Lot}
/-- _law_like(a, b) of equal data -/
theorem te_like {n : Nat} (c : T_like n X.prog X.w X.K X.mg X.base) (hr : Room j X.A) (hk : n + 2 ≤ j) (ha : DE X a δ (.d x) δ1) (hb : DE X b δ1 (.d y) δ2) (e : x = y) (hp : x.plain = true) (hd : x.depth ≤ n) (hn : n ≤ 60) (hg : Gl X "_law_like" := by rfl)
    (he : starEach [a, b] X.env = (false, eval a X.env) :: starEach [b] X.env := by rfl) (he2 : starEach [b] X.env = (false, eval b X.env) :: starEach [] X.env := by rfl) (hpl : (backTo pos (starEach [b] X.env)).any (·.1) = false := by rfl) :
    TE X (.Call (.Name "_law_like" p') [a, b] [] pos) δ true δ2 := by
  have k := de_call (pos := pos) (p' := p') c hr hk (da_cons ha (da_cons hb da_nil he2) he) ⟨x, y, hp, by subst e; exact hp, hd, hn, rfl, rfl⟩ hg (by decide) he hpl
  rw [e, likeB_refl] at k
  exact k
/-- _law_some(cup, things) -/
theorem te_some (i : Nat) {kb : Bool} (c : T_some X.prog X.w X.K X.mg X.base) (hr : Room j X.A) (hk : 2 ≤ j) (hq : δ[i]? = some (some (.o kb (cupL u)))) (ha : TE X a δ t δ) (hu : CupOk u) (h1 : t.items ≠ []) (h2 : t.items.length < 1000000) (hg : Gl X "_law_some" := by rfl)
    (hN : X.N[i]? = some nm := by rfl) (hv : Vis X.env.scope nm := by first | exact Or.inl rfl | exact Or.inr (Or.inl rfl) | exact Or.inr (Or.inr rfl)) (hd : (nm == ("__debug__" : Str)) = false := by decide) (hcd : (nm == ("__classdict__" : Str)) = false := by decide)
    (he : starEach [.Name nm py, a] X.env = (false, eval (.Name nm py) X.env) :: starEach [a] X.env := by rfl) (he2 : starEach [a] X.env = (false, eval a X.env) :: starEach [] X.env := by rfl) (hpl : (backTo pos (starEach [a] X.env)).any (·.1) = false := by rfl) :
    TE X (.Call (.Name "_law_some" p') [.Name nm py, a] [] pos) δ (someV u t) (δ.set i (some (.o kb (cupL (someC u t))))) :=
  de_callB i c hr hk hq ⟨_, _, hq⟩ (da_cons ha da_nil he2) ⟨u, t, hu, h1, h2, rfl, rfl, rfl, rfl⟩ hg (by decide) hN hv hd hcd he hpl
end
section
variable {P : Program} {w : World} {K : PySem.W.Frag} {mg : Str → Option Value} {base : Heap} {f : Addr} {fd : FuncData}
def leastT (fam : Tup Lot) : Tup Lot := Tup.mk ((fam.items.filter fun lot => decide (((fam.items.filter fun own => decide (own ≠ lot) && m__law_in own lot).map fun own => own) = [])).map fun lot => lot)
def restT (many : Int) (risen : Tup Lot) : Tup Lot := Tup.mk (((m__law_all many).filter fun lot => decide (lot ∉ risen.items)).map fun lot => lot)
def lessT (risen : Tup Lot) (lot : Lot) : Tup Lot := Tup.mk ((risen.items.filter fun own => decide (own ≠ lot)).map fun own => own)
theorem depth_fam (x : Tup Lot) : (toD x).depth ≤ 2 := Datum.depth_le x
theorem plain_d {α : Type} [DecidableEq α] [Datum α] (x : α) : (toD x).plain = true := Datum.plain x
theorem depth_b (x : Bool) : (toD x).depth = 0 := rfl
structure RightPre (many : Int) (fam : Tup Lot) : Prop where
  hm : 0 ≤ many ∧ many ≤ 8
  pf : FamPre many fam
  pr : FamPre many (m__law_risen many fam)
  pl : FamPre many (leastT fam)
  pt : FamPre many (restT many (m__law_risen many fam))
  pless : ∀ lot ∈ (m__law_risen many fam).items, FamPre many (lessT (m__law_risen many fam) lot)
  size : (m__law_risen many fam).items.length < 1000000
  e1 : m_is_rising many fam = decide (m__law_risen many fam = fam)
  e2 : m_least_lots many fam = leastT fam
  e3 : m_risen_family many fam = m__law_risen many fam
  e4 : m_is_rising many (m__law_risen many fam) = true
  e5 : m_risen_family many (leastT fam) = m__law_risen many fam
  e6 : m_is_quiet_family many (leastT fam) = true
  e7 : m_least_lots many (m__law_risen many fam) = leastT fam
  e8 : m_is_falling many (restT many (m__law_risen many fam)) = true
  e9 : ∀ lot ∈ (m__law_risen many fam).items, m_is_rising many (lessT (m__law_risen many fam) lot) = decide (lot ∈ (leastT fam).items)
def rightC (u : Cup) (many : Int) (fam : Tup Lot) : Cup := if m__law_risen many fam = Tup.mk [] then u else someC u (m__law_risen many fam)
def FRight : Co → List PyData → PyData → Co → Prop := fun c ds d c' => ∃ (u : Cup) (many : Int) (fam : Tup Lot), CupOk u ∧ RightPre many fam ∧ c = cupL u ∧ ds = [toD many, toD fam] ∧ d = toD true ∧ c' = cupL (rightC u many fam)
abbrev T_right (P : Program) (w : World) (K : PySem.W.Frag) (mg : Str → Option Value) (base : Heap) : Prop := Cl P w K mg base 8 "_law_right" (spB K FRight)
theorem ok_right (B : Bi mg) (c_risen : T__law_risen P w K mg base) (c_in : T__law_in P w K mg base) (c_ir : T_is_rising_family P w K mg base) (c_ll : T_least_lots P w K mg base) (c_rf : T_risen_family P w K mg base) (c_like : T_like 4 P w K mg base)
    (c_all : T__law_all P w K mg base) (c_q : T_is_quiet_family P w K mg base) (c_if : T_is_falling_family P w K mg base) (c_some : T_some P w K mg base)
    (Fn : L2.Fun K "_law_right" "_law_right" (topS 44) f fd) (mgf : mg "_law_right" = some (.ref f)) (b : Binds K fd ["cup", "many", "family"] []) : T_right P w K mg base := by
  refine fn_B (N := ["cup", "many", "family", "risen", "least", "lot", "own", "told", "rest", "less"]) Fn mgf b (C8.fnScope_by (by decide +kernel)) (fun c ds d c' ⟨u, m, s, _, _, _, h, _, _⟩ => by rw [h]; rfl) ?_
  rintro c ds d c' ⟨u, many, fam, hcu, R, rfl, rfl, rfl, rfl⟩ cdv A outer s H E hr
  have hN : (["cup", "many", "family", "risen", "least", "lot", "own", "told", "rest", "less"] : List Str).Nodup := by decide +kernel
  have hu : (bA "_law_right" (topS 44) f cdv A s).units + 70 < cLine := by have := hr.un; omega
  suffices h : RK (bX P w K mg base ["cup", "many", "family", "risen", "least", "lot", "own", "told", "rest", "less"] "_law_right" (topS 44) f cdv A outer s H E) (defBody (topS 44)) [some (.o true (cupL u)), sD many, sD fam, none, none, none, none, none, none, none] (toD true) (cupL (rightC u many fam)) by
    obtain ⟨δ', h1, h2⟩ := h
    exact ⟨δ', _, h1, .inl rfl, h2⟩
  obtain ⟨hm, pf, pr, pl, pt, pless, size, e1, e2, e3, e4, e5, e6, e7, e8, e9⟩ := R
  unfold rightC
  generalize hri : m__law_risen many fam = risen at *
  refine rc_cons (ts_set (x := risen) 3 hN (te_eqv (te_call2 c_risen hr (by decide) (te_var 1) (te_var 2) (by exact hm)) hri)) ?_
  refine rc_cons (ts_set (x := leastT fam) 4 hN (te_tupN (t_lc1if (fun lot : Lot => decide (((fam.items.filter fun own => decide (own ≠ lot) && m__law_in own lot).map fun own => own) = [])) (fun lot => lot) 5 rfl hN (ti_tup (te_var 2)) (blkOk_by (by kernel_rfl)) (fun _ _ _ _ _ _ _ => dg_name 5 hN)
    (fun lot _ _ _ _ _ _ => tt_eq hu (te_new (t_lc1if (fun own : Lot => decide (own ≠ lot) && m__law_in own lot) (fun own => own) 6 rfl hN (ti_tup (te_var 2)) (blkOk_by (by kernel_rfl)) (fun _ _ _ _ _ _ _ => dg_name 6 hN) (fun own _ _ _ _ _ _ => tt_andS (tt_ne hu (te_var 6) (te_var 5)) fun _ => tt_val (te_call2 c_in hr (by decide) (te_var 6) (te_var 5) trivial)) (fun _ _ _ _ _ _ _ _ => te_var 6))) (te_new tf_lst0))
    (fun _ _ _ _ _ _ _ _ => te_var 5)) B.tuple)) ?_
  refine rc_cons (ds_set (d := .list [toD (m_is_rising many fam), toD (m_least_lots many fam), toD (m_risen_family many fam), toD (m_is_rising many risen), toD (m_risen_family many (leastT fam))]) 7 hN (de_new (df_lst (da_cons (te_call2 c_ir hr (by decide) (te_var 1) (te_var 2) (by exact pf)) (da_cons (te_call2 c_ll hr (by decide) (te_var 1) (te_var 2) (by exact pf.1)) (da_cons (te_call2 c_rf hr (by decide) (te_var 1) (te_var 2) (by exact pf.1))
    (da_cons (te_call2 c_ir hr (by decide) (te_var 1) (te_var 3) (by exact pr)) (da_cons (te_call2 c_rf hr (by decide) (te_var 1) (te_var 4) (by exact pl.1)) da_nil))))) (show 5 ≤ sizeLine by decide)))) ?_
  refine rc_if (p := false) (tt_eqv (dt_not (tt_val (te_like (y := .list [toD (decide (risen = fam)), toD (leastT fam), toD risen, toD true, toD risen]) c_like hr (by decide) (de_var 7 rfl) (de_new (df_lst (da_cons (te_eq hu (te_var 3) (te_var 2)) (da_cons (te_var 4) (da_cons (te_var 3) (da_cons te_bool (da_cons (te_var 3) da_nil))))) (show 5 ≤ sizeLine by decide))) (by rw [e1, e2, e3, e4, e5]) ?_ ?_ (by decide)))) rfl) (fun z => nomatch z) (fun _ => ?_)
  · simp only [PyData.plain, PyData.plainAll, plain_d, Bool.and_self]
  · have h1 := depth_fam (m_least_lots many fam)
    have h2 := depth_fam (m_risen_family many fam)
    have h3 := depth_fam (m_risen_family many (leastT fam))
    simp only [PyData.depth, PyData.depthAll, depth_b]
    omega
  refine rc_cons (ts_set (x := restT many risen) 8 hN (te_tupN (t_lc1if (fun lot : Lot => decide (lot ∉ risen.items)) (fun lot => lot) 5 rfl hN (ti_new (tf_call1 c_all hr (by decide) (te_var 1) (by exact hm))) (blkOk_by (by kernel_rfl)) (fun _ _ _ _ _ _ _ => dg_name 5 hN) (fun lot _ _ _ _ _ _ => tt_notInT hu (te_var 5) (te_var 3)) (fun _ _ _ _ _ _ _ _ => te_var 5)) B.tuple)) ?_
  refine rc_cons (ds_set (d := .list [toD (m_is_quiet_family many (leastT fam)), toD (m_least_lots many risen), toD (m_is_falling many (restT many risen))]) 7 hN (de_new (df_lst (da_cons (te_call2 c_q hr (by decide) (te_var 1) (te_var 4) (by exact pl.1)) (da_cons (te_call2 c_ll hr (by decide) (te_var 1) (te_var 3) (by exact pr.1)) (da_cons (te_call2 c_if hr (by decide) (te_var 1) (te_var 8) (by exact pt)) da_nil))) (show 3 ≤ sizeLine by decide)))) ?_
  refine rc_if (p := false) (tt_eqv (dt_not (tt_val (te_like (y := .list [toD true, toD (leastT fam), toD true]) c_like hr (by decide) (de_var 7 rfl) (de_new (df_lst (da_cons te_bool (da_cons (te_var 4) (da_cons te_bool da_nil))) (show 3 ≤ sizeLine by decide))) (by rw [e6, e7, e8]) ?_ ?_ (by decide)))) rfl) (fun z => nomatch z) (fun _ => ?_)
  · simp only [PyData.plain, PyData.plainAll, plain_d, Bool.and_self]
  · have h1 := depth_fam (m_least_lots many risen)
    simp only [PyData.depth, PyData.depthAll, depth_b]
    omega
  refine rc_if (p := decide (risen = Tup.mk [])) (tt_eq hu (te_var 3) te_tup0) (fun h => ?_) (fun h => ?_)
  · rw [if_pos (of_decide_eq_true h)]
    exact rk_ret 0 te_bool
  have hne : risen ≠ Tup.mk [] := of_decide_eq_false h
  rw [if_neg hne]
  have hne' : risen.items ≠ [] := fun z => hne (by cases risen; exact congrArg Tup.mk z)
  have hin : someV u risen ∈ risen.items := by
    have := some_at (u := u) hne'
    unfold atI at this
    cases q : ixN risen.items.length (rollV u risen.items.length) with
    | none => rw [q] at this; cases this
    | some k => rw [q] at this; exact List.mem_of_getElem? this
  refine rc_cons (ts_set 5 hN (te_some 0 c_some hr (by decide) rfl (te_var 3) hcu hne' size)) ?_
  refine rc_cons (ts_set (x := lessT risen (someV u risen)) 9 hN (te_tupN (t_lc1if (fun own : Lot => decide (own ≠ someV u risen)) (fun own => own) 6 rfl hN (ti_tup (te_var 3)) (blkOk_by (by kernel_rfl)) (fun _ _ _ _ _ _ _ => dg_name 6 hN) (fun own _ _ _ _ _ _ => tt_ne hu (te_var 6) (te_var 5)) (fun _ _ _ _ _ _ _ _ => te_var 6)) B.tuple)) ?_
  exact rk_ret 0 (te_like c_like hr (by decide) (te_call2 c_ir hr (by decide) (te_var 1) (te_var 9) (by exact pless _ hin)) (te_inT hu (te_var 5) (te_var 4)) (congrArg toD (e9 _ hin)) (plain_d _) (by rw [depth_b]; decide) (by decide))
end
end K75
set_option Elab.async false
set_option linter.all false
set_option maxRecDepth 100000
set_option maxHeartbeats 4000000
namespace K75
open PySem PySem.Spec G
open PySem.W (Datum DatumOrd Tup)
/-! ### lots -/
def good (n : Int) (l : Lot) : Prop := l.items.Pairwise Lss ∧ ∀ x ∈ l.items, 0 ≤ x ∧ x < n
theorem lss_int {a b : Int} : Lss a b ↔ a < b := decide_eq_true_iff
def Sub (a b : Lot) : Prop := ∀ x ∈ a.items, x ∈ b.items
theorem lot_eq {a b : Lot} (h : a.items = b.items) : a = b := by cases a; cases b; exact congrArg Tup.mk h
theorem good_eq {n : Int} {a b : Lot} (ha : good n a) (hb : good n b) (h1 : Sub a b) (h2 : Sub b a) : a = b := lot_eq (strict_unique (fun x => ⟨h1 x, h2 x⟩) ha.1 hb.1)
theorem rangeI_succ (n : Nat) : rangeI 0 (n + 1) = rangeI 0 n ++ [(n : Int)] := by
  unfold rangeI
  rw [List.range_succ, List.map_append, List.map_singleton, Int.zero_add]
theorem rangeI_mem {n : Nat} {x : Int} : x ∈ rangeI 0 n ↔ 0 ≤ x ∧ x < n := by
  unfold rangeI
  rw [List.mem_map]
  refine ⟨fun ⟨i, hi, e⟩ => ?_, fun h => ⟨x.toNat, ?_, by omega⟩⟩
  · rw [List.mem_range] at hi
    omega
  · rw [List.mem_range]
    omega
def app (x : Int) (l : Lot) : Lot := Tup.mk (l.items ++ [x])
theorem lotsOf_app (xs : List Int) (x : Int) : lotsOf (xs ++ [x]) = lotsOf xs ++ (lotsOf xs).map (app x) := by
  unfold lotsOf
  rw [List.foldl_append]
  rfl
theorem lots_mem : ∀ (n : Nat) (l : Lot), l ∈ lotsOf (rangeI 0 n) ↔ good n l
  | 0, l => by
    show l ∈ [Tup.mk []] ↔ _
    rw [List.mem_singleton]
    refine ⟨fun e => by rw [e]; exact ⟨List.Pairwise.nil, fun x h => nomatch h⟩, fun h => lot_eq ?_⟩
    cases q : l.items with
    | nil => rfl
    | cons x xs =>
      have := h.2 x (by rw [q]; exact List.mem_cons_self ..)
      omega
  | n + 1, l => by
    have ih := lots_mem n
    rw [rangeI_succ, lotsOf_app, List.mem_append, List.mem_map, ih]
    refine ⟨fun h => ?_, fun h => ?_⟩
    · rcases h with h | ⟨l', h, rfl⟩
      · exact ⟨h.1, fun x hx => by have := h.2 x hx; omega⟩
      · have h := (ih l').mp h
        refine ⟨?_, fun x hx => ?_⟩
        · show (l'.items ++ [(n : Int)]).Pairwise Lss
          rw [List.pairwise_append]
          refine ⟨h.1, List.pairwise_singleton .., fun a ha b hb => ?_⟩
          rw [List.mem_singleton.mp hb, lss_int]
          exact (h.2 a ha).2
        · rcases List.mem_append.mp (show x ∈ l'.items ++ [(n : Int)] from hx) with hx | hx
          · have := h.2 x hx; omega
          · rw [List.mem_singleton.mp hx]; omega
    · by_cases hn : (n : Int) ∈ l.items
      · right
        obtain ⟨as, bs, e⟩ := List.append_of_mem hn
        have hp := h.1
        rw [e, List.pairwise_append, List.pairwise_cons] at hp
        have hb : bs = [] := by
          cases bs with
          | nil => rfl
          | cons b bs =>
            have h1 := lss_int.mp (hp.2.1.1 b (List.mem_cons_self ..))
            have h2 := h.2 b (by rw [e]; simp)
            omega
        subst hb
        refine ⟨Tup.mk as, (ih _).mpr ⟨hp.1, fun x hx => ?_⟩, lot_eq e.symm⟩
        have h1 := lss_int.mp (hp.2.2 x hx n (List.mem_singleton.mpr rfl))
        have h2 := h.2 x (by rw [e]; simp [show x ∈ as from hx])
        omega
      · left
        refine ⟨h.1, fun x hx => ?_⟩
        have h1 := h.2 x hx
        have : x ≠ n := fun z => hn (z ▸ hx)
        omega
theorem lots_nodup : ∀ n : Nat, (lotsOf (rangeI 0 n)).Nodup
  | 0 => by
    show [Tup.mk []].Nodup
    simp
  | n + 1 => by
    rw [rangeI_succ, lotsOf_app, List.nodup_append]
    refine ⟨lots_nodup n, ?_, fun a ha b hb e => ?_⟩
    · refine List.Pairwise.map _ (fun a b hne e => hne ?_) (lots_nodup n)
      have := congrArg Tup.items e
      exact lot_eq (List.append_cancel_right this)
    · obtain ⟨l, hl, rfl⟩ := List.mem_map.mp hb
      have h := ((lots_mem n a).mp ha).2 n (by rw [e]; show (n : Int) ∈ l.items ++ [(n : Int)]; simp)
      omega
theorem all_mem {many : Int} (h : 0 ≤ many) (l : Lot) : l ∈ allLots many ↔ good many l := by
  unfold allLots
  rw [srt_mem, lots_mem, show ((many.toNat : Nat) : Int) = many by omega]
theorem all_strict (many : Int) : (allLots many).Pairwise Lss := srt_strict (lots_nodup _)
/-! ### what the helpers say -/
theorem cut1 {α : Type} (l : List α) : cutL l (some 1) none = l.drop 1 := by
  unfold cutL
  cases l with
  | nil => simp
  | cons x l =>
    have h1 : HT.sIx (x :: l).length 0 (some 1) = 1 := by unfold HT.sIx; simp
    have h2 : HT.sIx (x :: l).length (x :: l).length none = (x :: l).length := by unfold HT.sIx; rfl
    rw [h1, h2, List.take_of_length_le (by simp)]
theorem rising_of {α : Type} [DecidableEq α] [DatumOrd α] : ∀ {l : List α}, l.Pairwise Lss → isRising (Tup.mk l) = true := by
  intro l h
  unfold isRising
  rw [cut1, List.all_map, List.all_eq_true]
  intro p hp
  induction l with
  | nil => simp at hp
  | cons x l ih =>
    rw [List.pairwise_cons] at h
    cases l with
    | nil => simp at hp
    | cons y l =>
      rw [List.drop_one, List.tail_cons, List.zip_cons_cons] at hp
      rcases List.mem_cons.mp hp with e | e
      · rw [e]; exact h.1 y (List.mem_cons_self ..)
      · exact ih h.2 (by rw [List.drop_one, List.tail_cons]; exact e)
theorem whole_iff {x lo hi : Int} : isWhole x lo hi = true ↔ lo ≤ x ∧ x ≤ hi := by
  unfold isWhole
  rw [Bool.and_eq_true, decide_eq_true_eq, decide_eq_true_eq]
theorem fits_lot {many : Int} {l : Lot} (h : good many l) : m_fits_lot many l = true := by
  unfold m_fits_lot
  rw [show isTup (toD l) = true from rfl, Bool.true_and, Bool.and_eq_true]
  refine ⟨?_, rising_of h.1⟩
  rw [List.all_map, List.all_eq_true]
  intro x hx
  exact whole_iff.mpr (by have := h.2 x hx; omega)
theorem good_len {many : Int} {l : Lot} (hm : 0 ≤ many ∧ many ≤ 8) (h : good many l) : l.items.length ≤ 1000 := by
  have h1 := (lots_mem many.toNat l).mpr (by rw [show ((many.toNat : Nat) : Int) = many by omega]; exact h)
  obtain ⟨_, h2⟩ := foldl_lots (fun st x => st ++ st.map fun l => Tup.mk (l.items ++ [x])) (fun _ _ => rfl) (rangeI 0 many.toNat) [Tup.mk ([] : List Int)] 0 (fun l hl => by rw [List.mem_singleton.mp hl]; exact Nat.le_refl _)
  have := h2 l h1
  rw [rangeI_len] at this
  omega
/-- a family as it should be -/
def okF (many : Int) (fam : Tup Lot) : Prop := fam.items.Pairwise Lss ∧ ∀ l ∈ fam.items, good many l
theorem okF_pre {many : Int} {fam : Tup Lot} (hm : 0 ≤ many ∧ many ≤ 8) (h : okF many fam) : FamPre many fam := by
  refine ⟨⟨whole_iff.mpr hm, ?_⟩, fun l hl => good_len hm (h.2 l hl)⟩
  unfold m_fits_family
  rw [show isTup (toD fam) = true from rfl, Bool.true_and, Bool.and_eq_true]
  refine ⟨?_, rising_of h.1⟩
  rw [List.all_map, List.all_eq_true]
  exact fun l hl => fits_lot (h.2 l hl)
theorem okF_sub {many : Int} (hm : 0 ≤ many) {xs : List Lot} (h : xs.Sublist (allLots many)) : okF many (Tup.mk xs) :=
  ⟨(all_strict many).sublist h, fun l hl => (all_mem hm l).mp (h.subset hl)⟩
theorem okF_filter {many : Int} {fam : Tup Lot} (h : okF many fam) (p : Lot → Bool) : okF many (Tup.mk (fam.items.filter p)) := ⟨h.1.filter p, fun l hl => h.2 l (List.mem_filter.mp hl).1⟩
theorem okF_eq {many : Int} {a b : Tup Lot} (ha : okF many a) (hb : okF many b) (h : ∀ l, l ∈ a.items ↔ l ∈ b.items) : a = b := by
  cases a; cases b
  exact congrArg Tup.mk (strict_unique h ha.1 hb.1)
theorem map_same {α : Type} (xs : List α) : (xs.map fun x => x) = xs := List.map_id' xs
theorem in_iff {a b : Lot} : m__law_in a b = true ↔ Sub a b := by
  unfold m__law_in Sub
  rw [map_same, decide_eq_true_eq, List.filter_eq_nil_iff]
  refine ⟨fun h x hx => ?_, fun h x hx => by simp [h x hx]⟩
  have := h x hx
  simpa using this
theorem lies_iff {a b : Lot} : m_lies_in a b = true ↔ Sub a b := by
  unfold m_lies_in Sub
  rw [List.all_map, List.all_eq_true]
  refine ⟨fun h x hx => of_decide_eq_true (h x hx), fun h x hx => decide_eq_true (h x hx)⟩
theorem lies_in_eq (a b : Lot) : m_lies_in a b = m__law_in a b := by rw [Bool.eq_iff_iff, lies_iff, in_iff]
end K75
set_option Elab.async false
set_option linter.all false
set_option maxRecDepth 100000
set_option maxHeartbeats 4000000
namespace K75
open PySem PySem.Spec G
open PySem.W (Datum DatumOrd Tup)
section
variable {many : Int} {fam : Tup Lot}
theorem Sub.rfl' (a : Lot) : Sub a a := fun x h => h
theorem Sub.tr {a b c : Lot} (h1 : Sub a b) (h2 : Sub b c) : Sub a c := fun x h => h2 x (h1 x h)
/-! ### risen -/
theorem risen_filter (many : Int) (fam : Tup Lot) : (m__law_risen many fam).items = (allLots many).filter fun lot => decide (((fam.items.filter fun own => m__law_in own lot).map fun own => own) ≠ []) := map_same _
theorem risen_mem (hm : 0 ≤ many) (lot : Lot) : lot ∈ (m__law_risen many fam).items ↔ good many lot ∧ ∃ own ∈ fam.items, Sub own lot := by
  rw [risen_filter, List.mem_filter, all_mem hm, decide_eq_true_eq, map_same]
  refine and_congr_right fun _ => ?_
  rw [ne_eq, List.filter_eq_nil_iff]
  refine ⟨fun h => ?_, fun ⟨own, h1, h2⟩ h => h own h1 (in_iff.mpr h2)⟩
  refine Classical.byContradiction fun z => h fun own h1 h2 => z ⟨own, h1, in_iff.mp h2⟩
theorem risen_ok (hm : 0 ≤ many) : okF many (m__law_risen many fam) := by
  have e : m__law_risen many fam = Tup.mk ((allLots many).filter fun lot => decide (((fam.items.filter fun own => m__law_in own lot).map fun own => own) ≠ [])) := congrArg Tup.mk (map_same _)
  rw [e]
  exact okF_sub hm List.filter_sublist
theorem risen_up (hm : 0 ≤ many) {a b : Lot} (ha : a ∈ (m__law_risen many fam).items) (hb : good many b) (h : Sub a b) : b ∈ (m__law_risen many fam).items := by
  rw [risen_mem hm] at ha ⊢
  obtain ⟨_, own, h1, h2⟩ := ha
  exact ⟨hb, own, h1, h2.tr h⟩
theorem fam_risen (hm : 0 ≤ many) (ok : okF many fam) {l : Lot} (h : l ∈ fam.items) : l ∈ (m__law_risen many fam).items := (risen_mem hm l).mpr ⟨ok.2 l h, l, h, Sub.rfl' l⟩
theorem risen_risen (hm : 0 ≤ many) : m__law_risen many (m__law_risen many fam) = m__law_risen many fam := by
  refine okF_eq (risen_ok hm) (risen_ok hm) fun l => ⟨fun h => ?_, fun h => fam_risen hm (risen_ok hm) h⟩
  obtain ⟨h1, own, h2, h3⟩ := (risen_mem hm l).mp h
  exact risen_up hm h2 h1 h3
theorem e3 (hm : 0 ≤ many) : m_risen_family many fam = m__law_risen many fam := by
  refine congrArg Tup.mk ?_
  show m_risen_in many fam = ((m__law_all many).filter _).map _
  unfold m_risen_in
  rw [map_same, map_same]
  refine List.filter_congr fun lot _ => ?_
  rw [Bool.eq_iff_iff, List.any_map, List.any_eq_true, decide_eq_true_eq, ne_eq, map_same, List.filter_eq_nil_iff]
  refine ⟨fun ⟨own, h1, h2⟩ h => h own h1 (by rw [← lies_in_eq]; exact h2), fun h => ?_⟩
  refine Classical.byContradiction fun z => h fun own h1 h2 => z ⟨own, h1, by rw [← lies_in_eq] at h2; exact h2⟩
/-! ### least -/
def isLeast (fam : Tup Lot) (l : Lot) : Prop := l ∈ fam.items ∧ ∀ o ∈ fam.items, Sub o l → o = l
theorem least_mem (l : Lot) : l ∈ (leastT fam).items ↔ isLeast fam l := by
  unfold leastT isLeast
  show l ∈ ((fam.items.filter _).map fun lot => lot) ↔ _
  rw [map_same, List.mem_filter, decide_eq_true_eq, map_same, List.filter_eq_nil_iff]
  refine and_congr_right fun _ => ⟨fun h o ho hs => ?_, fun h o ho hs => ?_⟩
  · have := h o ho
    refine Classical.byContradiction fun z => this ?_
    rw [Bool.and_eq_true, decide_eq_true_eq]
    exact ⟨z, in_iff.mpr hs⟩
  · rw [Bool.and_eq_true, decide_eq_true_eq] at hs
    exact hs.1 (h o ho (in_iff.mp hs.2))
theorem least_ok (ok : okF many fam) : okF many (leastT fam) := by
  have e : leastT fam = Tup.mk (fam.items.filter fun lot => decide (((fam.items.filter fun own => decide (own ≠ lot) && m__law_in own lot).map fun own => own) = [])) := congrArg Tup.mk (map_same _)
  rw [e]
  exact okF_filter ok _
theorem e2 : m_least_lots many fam = leastT fam := by
  refine congrArg Tup.mk ?_
  show m_least_in_family fam = _
  unfold m_least_in_family
  rw [map_same, map_same]
  refine List.filter_congr fun lot _ => ?_
  rw [Bool.eq_iff_iff, Bool.not_eq_true', ← Bool.not_eq_true, List.any_map, List.any_eq_true, decide_eq_true_eq, map_same, List.filter_eq_nil_iff]
  refine ⟨fun h o ho hs => h ⟨o, ho, ?_⟩, fun h ⟨o, ho, hs⟩ => h o ho ?_⟩
  · show (decide (o ≠ lot) && m_lies_in o lot) = true
    rw [lies_in_eq]
    exact hs
  · have hs : (decide (o ≠ lot) && m_lies_in o lot) = true := hs
    rw [lies_in_eq] at hs
    exact hs
theorem sub_len : ∀ {xs ys : List Int}, xs.Nodup → (∀ x ∈ xs, x ∈ ys) → xs.length ≤ ys.length
  | [], _, _, _ => Nat.zero_le _
  | x :: xs, ys, hn, h => by
    rw [List.nodup_cons] at hn
    have h1 : x ∈ ys := h x (List.mem_cons_self ..)
    have h2 := sub_len (ys := ys.erase x) hn.2 fun z hz => (List.mem_erase_of_ne (fun e : z = x => hn.1 (by rw [← e]; exact hz))).mpr (h z (List.mem_cons_of_mem _ hz))
    rw [List.length_erase_of_mem h1] at h2
    have := List.length_pos_of_mem h1
    rw [List.length_cons]
    omega
/-- a part that is no whole is shorter -/
theorem sub_lt {a b : Lot} (ha : good many a) (hb : good many b) (h : Sub a b) (ne : a ≠ b) : a.items.length < b.items.length := by
  obtain ⟨t, h1, h2⟩ : ∃ t ∈ b.items, t ∉ a.items := Classical.byContradiction fun z => ne (good_eq ha hb h fun x hx => Classical.byContradiction fun y => z ⟨x, hx, y⟩)
  have := sub_len (xs := t :: a.items) (ys := b.items) (List.nodup_cons.mpr ⟨h2, lt_nodup ha.1⟩) fun x hx => by
    rcases List.mem_cons.mp hx with e | e
    · rw [e]; exact h1
    · exact h x e
  rw [List.length_cons] at this
  omega
theorem least_below (ok : okF many fam) : ∀ (n : Nat) (l : Lot), l.items.length ≤ n → l ∈ fam.items → ∃ o, isLeast fam o ∧ Sub o l
  | n, l, hn, hl => by
    by_cases h : isLeast fam l
    · exact ⟨l, h, Sub.rfl' l⟩
    · obtain ⟨o, h1, h2, h3⟩ : ∃ o ∈ fam.items, Sub o l ∧ o ≠ l := Classical.byContradiction fun z => h ⟨hl, fun o ho hs => Classical.byContradiction fun y => z ⟨o, ho, hs, y⟩⟩
      have hlt := sub_lt (ok.2 o h1) (ok.2 l hl) h2 h3
      match n, hn with
      | 0, hn => omega
      | n + 1, hn =>
        obtain ⟨o', h4, h5⟩ := least_below ok n o (by omega) h1
        exact ⟨o', h4, h5.tr h2⟩
theorem risen_least (hm : 0 ≤ many) (ok : okF many fam) : m__law_risen many (leastT fam) = m__law_risen many fam := by
  refine okF_eq (risen_ok hm) (risen_ok hm) fun l => ?_
  rw [risen_mem hm, risen_mem hm]
  refine and_congr_right fun _ => ⟨fun ⟨own, h1, h2⟩ => ⟨own, ((least_mem own).mp h1).1, h2⟩, fun ⟨own, h1, h2⟩ => ?_⟩
  obtain ⟨o, h3, h4⟩ := least_below ok _ own (Nat.le_refl _) h1
  exact ⟨o, (least_mem o).mpr h3, h4.tr h2⟩
theorem e6 (ok : okF many fam) : m_is_quiet_family many (leastT fam) = true := by
  unfold m_is_quiet_family
  rw [Bool.not_eq_true', ← Bool.not_eq_true, List.any_map, List.any_eq_true]
  rintro ⟨one, h1, h2⟩
  have h2 : (((leastT fam).items.map fun other => decide (one ≠ other) && m_lies_in one other).any fun x => x) = true := h2
  rw [List.any_map, List.any_eq_true] at h2
  obtain ⟨other, h3, h4⟩ := h2
  have h4 : (decide (one ≠ other) && m_lies_in one other) = true := h4
  rw [Bool.and_eq_true, decide_eq_true_eq, lies_iff] at h4
  exact h4.1 (((least_mem other).mp h3).2 one ((least_mem one).mp h1).1 h4.2)
theorem e7 (hm : 0 ≤ many) (ok : okF many fam) : leastT (m__law_risen many fam) = leastT fam := by
  refine okF_eq (least_ok (risen_ok hm)) (least_ok ok) fun l => ?_
  rw [least_mem, least_mem]
  constructor
  · rintro ⟨h1, h2⟩
    obtain ⟨hg, own, h3, h4⟩ := (risen_mem hm l).mp h1
    have e := h2 own (fam_risen hm ok h3) h4
    subst e
    exact ⟨h3, fun o ho hs => h2 o (fam_risen hm ok ho) hs⟩
  · rintro ⟨h1, h2⟩
    refine ⟨fam_risen hm ok h1, fun o ho hs => ?_⟩
    obtain ⟨hg, own, h3, h4⟩ := (risen_mem hm o).mp ho
    have e := h2 own h3 (h4.tr hs)
    subst e
    exact good_eq hg (ok.2 _ h1) hs h4
end
end K75
set_option Elab.async false
set_option linter.all false
set_option maxRecDepth 100000
set_option maxHeartbeats 4000000
namespace K75
open PySem PySem.Spec G
open PySem.W (Datum DatumOrd Tup)
section
variable {many : Int} {fam : Tup Lot}
def raise (a : Lot) (t : Int) : Lot := Tup.mk (srt (a.items ++ [t]))
theorem raise_mem {a : Lot} {t x : Int} : x ∈ (raise a t).items ↔ x ∈ a.items ∨ x = t := by
  show x ∈ srt (a.items ++ [t]) ↔ _
  rw [srt_mem, List.mem_append, List.mem_singleton]
theorem raise_good {a : Lot} {t : Int} (ha : good many a) (h0 : 0 ≤ t ∧ t < many) (hn : t ∉ a.items) : good many (raise a t) := by
  refine ⟨srt_strict ?_, fun x hx => ?_⟩
  · rw [List.nodup_append]
    exact ⟨lt_nodup ha.1, by simp, fun x hx y hy e => hn (by rw [← List.mem_singleton.mp hy, ← e]; exact hx)⟩
  · rcases raise_mem.mp hx with h | h
    · exact ha.2 x h
    · rw [h]; exact h0
theorem raised_mem (hm : 0 ≤ many) {a l : Lot} : l ∈ m_raised many a ↔ ∃ t, (0 ≤ t ∧ t < many) ∧ t ∉ a.items ∧ l = raise a t := by
  unfold m_raised
  rw [List.mem_map]
  constructor
  · rintro ⟨t, h1, rfl⟩
    rw [List.mem_filter, rangeI_mem, decide_eq_true_eq] at h1
    exact ⟨t, by omega, h1.2, rfl⟩
  · rintro ⟨t, h1, h2, rfl⟩
    refine ⟨t, ?_, rfl⟩
    rw [List.mem_filter, rangeI_mem, decide_eq_true_eq]
    exact ⟨by omega, h2⟩
theorem keys_fam (fam : Tup Lot) : (keysOf fam).map (·.1) = fam.items := by
  unfold keysOf
  rw [List.map_map]
  exact List.map_id' _
def Up (many : Int) (fam : Tup Lot) : Prop := ∀ a ∈ fam.items, ∀ t, 0 ≤ t ∧ t < many → t ∉ a.items → raise a t ∈ fam.items
theorem rising_iff (hm : 0 ≤ many) : m_is_rising many fam = true ↔ Up many fam := by
  unfold m_is_rising Up
  rw [keys_fam, List.all_map, List.all_eq_true]
  refine forall_congr' fun a => forall_congr' fun _ => ?_
  show ((m_raised many a).map _).all _ = true ↔ _
  rw [List.all_map, List.all_eq_true]
  constructor
  · intro h t h1 h2
    exact of_decide_eq_true (h _ ((raised_mem hm).mpr ⟨t, h1, h2, rfl⟩))
  · intro h l hl
    obtain ⟨t, h1, h2, rfl⟩ := (raised_mem hm).mp hl
    exact decide_eq_true (h t h1 h2)
/-- from a lot up to a greater one, thing by thing -/
theorem up_to (hm : 0 ≤ many) (ok : okF many fam) (up : Up many fam) {b : Lot} (hb : good many b) : ∀ (n : Nat) (a : Lot), b.items.length ≤ a.items.length + n → a ∈ fam.items → Sub a b → b ∈ fam.items
  | n, a, hn, ha, hs => by
    by_cases e : a = b
    · rw [← e]; exact ha
    · have hlt := sub_lt (ok.2 a ha) hb hs e
      match n, hn with
      | 0, hn => omega
      | n + 1, hn =>
        obtain ⟨t, h1, h2⟩ : ∃ t ∈ b.items, t ∉ a.items := Classical.byContradiction fun z => e (good_eq (ok.2 a ha) hb hs fun x hx => Classical.byContradiction fun y => z ⟨x, hx, y⟩)
        have hr := up a ha t (hb.2 t h1) h2
        refine up_to hm ok up hb n (raise a t) ?_ hr fun x hx => ?_
        · show _ ≤ (srt (a.items ++ [t])).length + n
          rw [srt_len, List.length_append, List.length_singleton]
          omega
        · rcases raise_mem.mp hx with h | h
          · exact hs x h
          · rw [h]; exact h1
theorem sub_raise (a : Lot) (t : Int) : Sub a (raise a t) := fun x hx => raise_mem.mpr (.inl hx)
theorem up_risen (hm : 0 ≤ many) : Up many (m__law_risen many fam) := fun a ha t h1 h2 => risen_up hm ha (raise_good ((risen_ok hm).2 a ha) h1 h2) (sub_raise a t)
theorem e1 (hm : 0 ≤ many) (ok : okF many fam) : m_is_rising many fam = decide (m__law_risen many fam = fam) := by
  rw [Bool.eq_iff_iff, rising_iff hm, decide_eq_true_eq]
  constructor
  · intro up
    refine okF_eq (risen_ok hm) ok fun l => ⟨fun h => ?_, fam_risen hm ok⟩
    obtain ⟨h1, own, h2, h3⟩ := (risen_mem hm l).mp h
    exact up_to hm ok up h1 l.items.length own (by omega) h2 h3
  · intro e
    rw [← e]
    exact up_risen hm
theorem e4 (hm : 0 ≤ many) : m_is_rising many (m__law_risen many fam) = true := (rising_iff hm).mpr (up_risen hm)
/-! ### falling -/
theorem cut_to {α : Type} (l : List α) {i : Int} (h : 0 ≤ i ∧ i < l.length) : cutL l none (some i) = l.take i.toNat := by
  unfold cutL
  have h1 : HT.sIx l.length 0 none = 0 := rfl
  have h2 : HT.sIx l.length l.length (some i) = i.toNat := by
    unfold HT.sIx
    simp only
    split <;> omega
  rw [h1, h2, List.drop_zero, Nat.sub_zero]
theorem cut_from {α : Type} (l : List α) {i : Int} (h : 0 ≤ i ∧ i ≤ l.length) : cutL l (some i) none = l.drop i.toNat := by
  unfold cutL
  have h1 : HT.sIx l.length 0 (some i) = i.toNat := by
    unfold HT.sIx
    simp only
    split <;> omega
  have h2 : HT.sIx l.length l.length none = l.length := rfl
  rw [h1, h2, List.take_of_length_le (by rw [List.length_drop]; omega)]
theorem lowered_mem {l a : Lot} (h : a ∈ m_lowered l) : a.items.Sublist l.items := by
  unfold m_lowered at h
  obtain ⟨i, hi, rfl⟩ := List.mem_map.mp h
  rw [rangeI_mem] at hi
  show (cutL l.items none (some i) ++ cutL l.items (some (i + 1)) none).Sublist l.items
  rw [cut_to _ (by omega), cut_from _ (by omega)]
  have e : (i + 1).toNat = i.toNat + 1 := by omega
  rw [e]
  conv => rhs; rw [← List.take_append_drop i.toNat l.items]
  refine List.Sublist.append (List.Sublist.refl _) ?_
  rw [← List.drop_drop]
  exact List.drop_sublist _ _
theorem rest_mem (hm : 0 ≤ many) (ri : Tup Lot) (l : Lot) : l ∈ (restT many ri).items ↔ good many l ∧ l ∉ ri.items := by
  unfold restT
  show l ∈ ((m__law_all many).filter _).map _ ↔ _
  rw [map_same, List.mem_filter, decide_eq_true_eq]
  exact and_congr_left fun _ => all_mem hm l
theorem rest_ok (hm : 0 ≤ many) (ri : Tup Lot) : okF many (restT many ri) := by
  have e : restT many ri = Tup.mk ((allLots many).filter fun lot => decide (lot ∉ ri.items)) := congrArg Tup.mk (map_same _)
  rw [e]
  exact okF_sub hm List.filter_sublist
theorem e8 (hm : 0 ≤ many) : m_is_falling many (restT many (m__law_risen many fam)) = true := by
  unfold m_is_falling
  rw [keys_fam, List.all_map, List.all_eq_true]
  intro l hl
  show ((m_lowered l).map _).all _ = true
  rw [List.all_map, List.all_eq_true]
  intro a ha
  refine decide_eq_true ?_
  have hs := lowered_mem ha
  rw [rest_mem hm] at hl ⊢
  have hg : good many a := ⟨hl.1.1.sublist hs, fun x hx => hl.1.2 x (hs.subset hx)⟩
  exact ⟨hg, fun z => hl.2 (risen_up hm z hl.1 fun x hx => hs.subset hx)⟩
/-! ### without one -/
theorem less_mem (ri : Tup Lot) (lot l : Lot) : l ∈ (lessT ri lot).items ↔ l ∈ ri.items ∧ l ≠ lot := by
  unfold lessT
  show l ∈ ((ri.items.filter _).map _) ↔ _
  rw [map_same, List.mem_filter, decide_eq_true_eq]
theorem less_ok {ri : Tup Lot} (ok : okF many ri) (lot : Lot) : okF many (lessT ri lot) := by
  have e : lessT ri lot = Tup.mk (ri.items.filter fun own => decide (own ≠ lot)) := congrArg Tup.mk (map_same _)
  rw [e]
  exact okF_filter ok _
theorem e9 (hm : 0 ≤ many) (ok : okF many fam) {lot : Lot} (hl : lot ∈ (m__law_risen many fam).items) : m_is_rising many (lessT (m__law_risen many fam) lot) = decide (lot ∈ (leastT fam).items) := by
  have hg := (risen_ok (fam := fam) hm).2 lot hl
  rw [Bool.eq_iff_iff, rising_iff hm, decide_eq_true_eq, ← e7 hm ok, least_mem]
  constructor
  · intro up
    refine ⟨hl, fun o ho hs => Classical.byContradiction fun ne => ?_⟩
    have hgo := (risen_ok (fam := fam) hm).2 o ho
    have := up_to (fam := lessT (m__law_risen many fam) lot) hm (less_ok (risen_ok hm) lot) up hg lot.items.length o (by omega) ((less_mem _ _ _).mpr ⟨ho, ne⟩) hs
    exact ((less_mem _ _ _).mp this).2 rfl
  · intro ⟨_, h⟩ a ha t h1 h2
    rw [less_mem] at ha ⊢
    refine ⟨up_risen hm a ha.1 t h1 h2, fun e => ha.2 ?_⟩
    exact h a ha.1 (by rw [← e]; exact sub_raise a t)
/-- all that _law_right leans on -/
theorem right_pre (hm : 0 ≤ many ∧ many ≤ 8) (ok : okF many fam) : RightPre many fam where
  hm := hm
  pf := okF_pre hm ok
  pr := okF_pre hm (risen_ok hm.1)
  pl := okF_pre hm (least_ok ok)
  pt := okF_pre hm (rest_ok hm.1 _)
  pless := fun lot _ => okF_pre hm (less_ok (risen_ok hm.1) lot)
  size := by
    have h1 : (m__law_risen many fam).items.length ≤ (allLots many).length := by
      rw [risen_filter]
      exact List.length_filter_le _ _
    have h2 : (allLots many).length = 2 ^ many.toNat := by
      obtain ⟨h, _⟩ := foldl_lots (fun st x => st ++ st.map fun l => Tup.mk (l.items ++ [x])) (fun _ _ => rfl) (rangeI 0 many.toNat) [Tup.mk ([] : List Int)] 0 (fun l hl => by rw [List.mem_singleton.mp hl]; exact Nat.le_refl _)
      unfold allLots
      rw [srt_len]
      unfold lotsOf
      rw [h, rangeI_len, List.length_singleton, Nat.one_mul]
    have h3 : 2 ^ many.toNat ≤ 2 ^ 8 := Nat.pow_le_pow_right (by decide) (by omega)
    omega
  e1 := e1 hm.1 ok
  e2 := e2
  e3 := e3 hm.1
  e4 := e4 hm.1
  e5 := by rw [e3 hm.1, risen_least hm.1 ok]
  e6 := e6 ok
  e7 := by rw [e2, e7 hm.1 ok]
  e8 := e8 hm.1
  e9 := fun lot hl => e9 hm.1 ok hl
end
end K75
set_option Elab.async false
set_option linter.all false
set_option maxRecDepth 100000
set_option maxHeartbeats 4000000
namespace K75
open PySem PySem.Spec L2 G
open PySem.W (Datum DatumOrd Tup)
section
variable {α : Type} [DecidableEq α] [Datum α] {X : Cx} {a b e : Expr} {es : List Expr} {δ δ1 δ2 : Dl} {pos p' py : Pos} {nm : Str} {u : Cup} {j jj : Nat} {many share : Int} {fam : Tup Lot} {p q : Bool}
/-- a tuple display -/
theorem te_tupD (xs : List α) (h : DA X es δ (xs.map toD) δ1) (hz : xs.length ≤ 100 := by decide) : TE X (.Tuple es jj pos) δ (Tup.mk xs) δ1 := de_tup h (by show (xs.map toD).length ≤ sizeLine; rw [List.length_map, sizeLine_eq]; omega)
theorem tf_lstD (xs : List α) (h : DA X es δ (xs.map toD) δ1) (hz : xs.length ≤ 100 := by decide) : TF X (.List es pos) δ xs δ1 := df_lst h (by show (xs.map toD).length ≤ sizeLine; rw [List.length_map, sizeLine_eq]; omega)
theorem tt_isNotB (ha : TE X a δ p δ1) (hb : TE X b δ1 q δ2) : DT X (.Compare a [.IsNot] [b] pos) δ (!decide (p = q)) δ2 := dt_cmp op_isnot_bl ha hb (fun O H x y Q z hx hy k => ⟨p, q, hx.bl, hy.bl, k.here (.bl _)⟩) (nomark _)
theorem te_draw (i : Nat) {kb : Bool} (c : T_family X.prog X.w X.K X.mg X.base) (hr : Room j X.A) (hk : 3 ≤ j) (hq : δ[i]? = some (some (.o kb (cupL u)))) (ha : TE X a δ many δ) (hb : TE X b δ share δ) (hu : CupOk u) (h1 : (0 ≤ many ∧ many ≤ 8) ∧ 0 < share ∧ share < 1000000) (hg : Gl X "_law_family" := by rfl)
    (hN : X.N[i]? = some nm := by rfl) (hv : Vis X.env.scope nm := by first | exact Or.inl rfl | exact Or.inr (Or.inl rfl) | exact Or.inr (Or.inr rfl)) (hd : (nm == ("__debug__" : Str)) = false := by decide) (hcd : (nm == ("__classdict__" : Str)) = false := by decide)
    (he : starEach [.Name nm py, a, b] X.env = (false, eval (.Name nm py) X.env) :: starEach [a, b] X.env := by rfl) (he2 : starEach [a, b] X.env = (false, eval a X.env) :: starEach [b] X.env := by rfl) (he3 : starEach [b] X.env = (false, eval b X.env) :: starEach [] X.env := by rfl) (hpl : (backTo pos (starEach [a, b] X.env)).any (·.1) = false := by rfl) :
    TE X (.Call (.Name "_law_family" p') [.Name nm py, a, b] [] pos) δ (Tup.mk (drawF u (m__law_all many) share)) (δ.set i (some (.o kb (cupL (drawC u (m__law_all many) share))))) :=
  de_callB i c hr hk hq ⟨_, _, hq⟩ (da_cons ha (da_cons hb da_nil he3) he2) ⟨u, many, share, hu, h1.1.1, h1.1.2, h1.2.1, h1.2.2, rfl, rfl, rfl, rfl⟩ hg (by decide) hN hv hd hcd he hpl
theorem te_right (i : Nat) {kb : Bool} (c : T_right X.prog X.w X.K X.mg X.base) (hr : Room j X.A) (hk : 8 ≤ j) (h0 : ∃ b c, δ[i]? = some (some (S.o b c))) (ha : TE X a δ many δ) (hb : TE X b δ fam δ1) (hq : δ1[i]? = some (some (.o kb (cupL u)))) (hu : CupOk u) (h1 : RightPre many fam) (hg : Gl X "_law_right" := by rfl)
    (hN : X.N[i]? = some nm := by rfl) (hv : Vis X.env.scope nm := by first | exact Or.inl rfl | exact Or.inr (Or.inl rfl) | exact Or.inr (Or.inr rfl)) (hd : (nm == ("__debug__" : Str)) = false := by decide) (hcd : (nm == ("__classdict__" : Str)) = false := by decide)
    (he : starEach [.Name nm py, a, b] X.env = (false, eval (.Name nm py) X.env) :: starEach [a, b] X.env := by rfl) (he2 : starEach [a, b] X.env = (false, eval a X.env) :: starEach [b] X.env := by rfl) (he3 : starEach [b] X.env = (false, eval b X.env) :: starEach [] X.env := by rfl) (hpl : (backTo pos (starEach [a, b] X.env)).any (·.1) = false := by rfl) :
    TE X (.Call (.Name "_law_right" p') [.Name nm py, a, b] [] pos) δ true (δ1.set i (some (.o kb (cupL (rightC u many fam))))) :=
  de_callB i c hr hk hq h0 (da_cons ha (da_cons hb da_nil he3) he2) ⟨u, many, fam, hu, h1, rfl, rfl, rfl, rfl⟩ hg (by decide) hN hv hd hcd he hpl
end
theorem draw_ok {many : Int} (hm : 0 ≤ many ∧ many ≤ 8) (u : Cup) (s : Int) : okF many (Tup.mk (drawF u (m__law_all many) s)) := okF_sub hm.1 (drawF_sub s _ u)
theorem someC_ok {u : Cup} (h : CupOk u) (t : Tup Lot) : CupOk (someC u t) := rollC_ok h _
theorem rightC_ok {u : Cup} (h : CupOk u) (many : Int) (fam : Tup Lot) : CupOk (rightC u many fam) := by
  unfold rightC
  split
  · exact h
  · exact someC_ok h _
theorem drawC_ok {u : Cup} (h : CupOk u) (ls : List Lot) (s : Int) : CupOk (drawC u ls s) := rollN_ok s _ h
end K75
set_option Elab.async false
set_option linter.all false
set_option maxRecDepth 100000
set_option maxHeartbeats 4000000
/-! KS1: the families by sorting by insertion, their hashes. -/
namespace K75S
open PySem PySem.Spec G K75
open PySem.W (Datum DatumOrd Tup)
def famK (many bits : Int) : Tup Lot := Tup.mk (isrt ((rangeI 0 (1 * 2 ^ many.toNat : Int).toNat).foldl (fun st at_ => if bitSet bits at_ = true then st ++ [lotAt many at_] else st) []))
theorem famK_eq (many bits : Int) : famOf many bits = famK many bits := by unfold famOf famK; rw [srt_eq]
def famsK (many : Int) : List (Tup Lot) := isrt ((famBits many).map fun b => famK many b)
theorem famsK_eq (many : Int) : m_rising_families many = Tup.mk (famsK many) := by
  unfold m_rising_families famsK
  simp only [famK_eq, srt_eq]
def hLot (l : Lot) : Int := reduceHash (Builtin.Tuple.tupleHashOf (l.items.map hashInt))
def hFam (f : Tup Lot) : Int := reduceHash (Builtin.Tuple.tupleHashOf (f.items.map hLot))
def hs168 : List Int := (famsK 4).map hFam
end K75S
set_option Elab.async false
set_option linter.all false
set_option maxRecDepth 100000
set_option maxHeartbeats 4000000
/-! KS2: the set's table of the 168 families, run by computing in 21 parts. -/
namespace K75S
open PySem PySem.Spec G K75
def hashes : List Int := [5740354900026072187, 7088610649118931155, (-3041184016767426738), (-1861449428545361677), 3495859525528682488, (-3669536867275959004), 2464722558807915159, 7565702734599779969, (-7588914009143598611), 1283153971074905443, (-4195221733102688342), (-2239157138869344425), 1175838959018786189, (-125378524031590861), 5062879455842931607, (-121041641180038863), (-1670915893718185847), (-3524122966336508765), (-3167094588591478684), (-223721976081044344), (-529961195607084943), 3000001194492540634, 419273411284489750, (-5363880408475182069), 5468190277141325233, (-225364489807628188), (-2631594628236031922), 9130158990908055233, (-3201550569371387532), (-5316813789412351309), (-8530643575378971324), (-5502425232211235657), 934597903244020238, 1975966787561848960, (-8478611311774995001), 8042655138916968978, 8511904886075635986, 3668623796465017936, (-6965834220416663714), 5881437748712762718, 8863036856996448079, 3074356838947616933, 5747732033380497626, (-9215696767516180304), 4514900750298973412, 4632588994054523145, 5090942153841141424, 8329060600889234138, (-4790520744833835472), 3923839512171773243, 8085103924570565246, (-1707286443562517526), 1651350748226756166, (-2849798138561140192), 4645512518956179988, 4969188644619379121, (-4116977963984669612), 9132909932825431784, 8856949513703367846, (-9117239367346765324), (-157582821711065943), (-6767578302827339111), 5958738581201442004, 4795522635024457790, (-3773416532097915289), 6479892657790753750, 2591754130268989780, 6312285206440940357, 4541373724867208953, 1187558518014045474, 7510797305932129839, 8497672543938566456, 4796185949729770262, 1029106190998706599, (-8314244190261840464), (-375089421256237707), (-460383999072005069), 4462619609552491980, 2309432829140145174, 7456781380281915802, (-9220953816864683420), 4086779372432484240, 8763083089718918341, (-3766678298833662139), 8151570415239574086, 2644711513469350008, 2892507459290588395, (-8346757125560724707), (-6153599309198003484), 2442416432205044748, (-6020305718022950653), 7818544905531141235, (-2425438129735130565), 2106226425735345649, (-1714272474929429152), 4661049107736036493, 4019885341341329994, 8226021063202295863, (-6208961400889594320), (-3498337166743957184), 4717244650246774458, (-7613157013144538626), 811739157333489673, (-3343111666030560306), (-2618655420641767945), (-4531521476433854523), (-9022728083068020504), (-348949895301136484), (-2497005344285338941), 6208748014964034093, 4909432083056255865, 4804552402709089787, 6898153942434059582, 5563735572879667547, 4399814445026211984, 8037681207424913771, 2309538863552544804, 575918250585304940, (-7414901095555214023), (-8358212933657251153), 1418576199198445005, 96940915022632155, 2595406321418454662, 14380586943500699, 4006467049006948847, (-5857883213883240427), (-65615980906398625), 4182307845481040220, 9220329537792332090, 8071258091814038693, (-5909774390565256426), 6667062479559094387, (-5522070991498139009), (-2214556466854482805), (-1837713001018981678), (-614460121605640371), 5880239405770589218, 6337044420565092472, 5581124541132324961, 844566386860599313, (-8662062507048571613), (-8606284395506904812), 4758621832037815526, (-5176236321545478790), (-1021627699059202269), (-5557312962575191600), (-2515640890993333250), (-1852969418156111083), 7423469673659469057, 2173033692285828204, 1751247026877337791, 6524453090925291170, (-2411525700789898613), (-9079061659337196510), (-2663232201152976008), 3684182317393052908, 3085041729562516406, 2978601475226936511, 1245068264122765930, 2952051983149725208, 2785021695526002088, 5946213753879149030, 9189300932546944701, 1968173562714079468, 3617361399624564922, (-5931013814083960012), 7955841909046652206, (-5118505543828476338)]
def st0 (b : Bool) : SimSt := (#[], .fresh 0 0 b)
def ch0 : List (Int × Nat) := [(5740354900026072187, 0), (7088610649118931155, 1), ((-3041184016767426738), 2), ((-1861449428545361677), 3), (3495859525528682488, 4), ((-3669536867275959004), 5), (2464722558807915159, 6), (7565702734599779969, 7)]
def st1 (b : Bool) : SimSt := ([(7565702734599779969, 7), ((-3669536867275959004), 5), ((-3041184016767426738), 2), (7088610649118931155, 1), ((-1861449428545361677), 3), (2464722558807915159, 6), (3495859525528682488, 4), (5740354900026072187, 0)].toArray, ⟨31, [1, 4, 14, 19, 20, 23, 24, 27].toArray, #[], 0, b, 1, true⟩)
theorem runP0 (b : Bool) : runL (st0 b) ch0 = some (st1 b) := by cases b <;> decide +kernel
def ch1 : List (Int × Nat) := [((-7588914009143598611), 8), (1283153971074905443, 9), ((-4195221733102688342), 10), ((-2239157138869344425), 11), (1175838959018786189, 12), ((-125378524031590861), 13), (5062879455842931607, 14), ((-121041641180038863), 15)]
def st2 (b : Bool) : SimSt := ([(7565702734599779969, 7), (1283153971074905443, 9), ((-3669536867275959004), 5), ((-4195221733102688342), 10), ((-7588914009143598611), 8), ((-3041184016767426738), 2), ((-2239157138869344425), 11), (1175838959018786189, 12), (5062879455842931607, 14), ((-121041641180038863), 15), (7088610649118931155, 1), ((-1861449428545361677), 3), ((-125378524031590861), 13), (2464722558807915159, 6), (3495859525528682488, 4), (5740354900026072187, 0)].toArray, ⟨31, [1, 3, 4, 10, 13, 14, 15, 16, 17, 18, 19, 20, 21, 23, 24, 27].toArray, #[], 0, b, 1, true⟩)
theorem runP1 (b : Bool) : runL (st1 b) ch1 = some (st2 b) := by cases b <;> decide +kernel
def ch2 : List (Int × Nat) := [((-1670915893718185847), 16), ((-3524122966336508765), 17), ((-3167094588591478684), 18), ((-223721976081044344), 19), ((-529961195607084943), 20), (3000001194492540634, 21), (419273411284489750, 22), ((-5363880408475182069), 23)]
def st3 (b : Bool) : SimSt := ([(7565702734599779969, 7), ((-223721976081044344), 19), ((-1670915893718185847), 16), ((-5363880408475182069), 23), (1175838959018786189, 12), (419273411284489750, 22), (5062879455842931607, 14), (2464722558807915159, 6), ((-3524122966336508765), 17), ((-3669536867275959004), 5), ((-4195221733102688342), 10), ((-121041641180038863), 15), ((-125378524031590861), 13), ((-3041184016767426738), 2), (7088610649118931155, 1), ((-2239157138869344425), 11), (3000001194492540634, 21), (1283153971074905443, 9), ((-3167094588591478684), 18), ((-7588914009143598611), 8), ((-529961195607084943), 20), ((-1861449428545361677), 3), (3495859525528682488, 4), (5740354900026072187, 0)].toArray, ⟨127, [1, 8, 9, 11, 13, 22, 23, 24, 35, 36, 42, 49, 51, 78, 83, 87, 90, 99, 100, 109, 113, 115, 120, 123].toArray, #[], 0, b, 2, true⟩)
theorem runP2 (b : Bool) : runL (st2 b) ch2 = some (st3 b) := by cases b <;> decide +kernel
def ch3 : List (Int × Nat) := [(5468190277141325233, 24), ((-225364489807628188), 25), ((-2631594628236031922), 26), (9130158990908055233, 27), ((-3201550569371387532), 28), ((-5316813789412351309), 29), ((-8530643575378971324), 30), ((-5502425232211235657), 31)]
def st4 (b : Bool) : SimSt := ([(7565702734599779969, 7), ((-223721976081044344), 19), ((-1670915893718185847), 16), ((-5363880408475182069), 23), (1175838959018786189, 12), (419273411284489750, 22), (5062879455842931607, 14), (2464722558807915159, 6), ((-3524122966336508765), 17), ((-3669536867275959004), 5), ((-4195221733102688342), 10), ((-121041641180038863), 15), (5468190277141325233, 24), ((-125378524031590861), 13), ((-5316813789412351309), 29), ((-5502425232211235657), 31), (9130158990908055233, 27), ((-8530643575378971324), 30), ((-3041184016767426738), 2), ((-2631594628236031922), 26), (7088610649118931155, 1), ((-2239157138869344425), 11), (3000001194492540634, 21), (1283153971074905443, 9), ((-3167094588591478684), 18), ((-225364489807628188), 25), ((-7588914009143598611), 8), ((-529961195607084943), 20), ((-1861449428545361677), 3), ((-3201550569371387532), 28), (3495859525528682488, 4), (5740354900026072187, 0)].toArray, ⟨127, [1, 8, 9, 11, 13, 22, 23, 24, 35, 36, 42, 49, 50, 51, 52, 55, 65, 68, 78, 79, 83, 87, 90, 99, 100, 101, 109, 113, 115, 116, 120, 123].toArray, #[], 0, b, 2, true⟩)
theorem runP3 (b : Bool) : runL (st3 b) ch3 = some (st4 b) := by cases b <;> decide +kernel
def ch4 : List (Int × Nat) := [(934597903244020238, 32), (1975966787561848960, 33), ((-8478611311774995001), 34), (8042655138916968978, 35), (8511904886075635986, 36), (3668623796465017936, 37), ((-6965834220416663714), 38), (5881437748712762718, 39)]
def st5 (b : Bool) : SimSt := ([(1975966787561848960, 33), (7565702734599779969, 7), ((-223721976081044344), 19), ((-1670915893718185847), 16), ((-5363880408475182069), 23), (1175838959018786189, 12), (934597903244020238, 32), (8042655138916968978, 35), (8511904886075635986, 36), (419273411284489750, 22), (5062879455842931607, 14), (2464722558807915159, 6), ((-3524122966336508765), 17), ((-3669536867275959004), 5), ((-4195221733102688342), 10), ((-121041641180038863), 15), (5468190277141325233, 24), ((-125378524031590861), 13), ((-5316813789412351309), 29), ((-5502425232211235657), 31), (9130158990908055233, 27), ((-8530643575378971324), 30), ((-8478611311774995001), 34), ((-3041184016767426738), 2), ((-2631594628236031922), 26), (3668623796465017936, 37), (7088610649118931155, 1), ((-2239157138869344425), 11), (3000001194492540634, 21), ((-6965834220416663714), 38), (5881437748712762718, 39), (1283153971074905443, 9), ((-3167094588591478684), 18), ((-225364489807628188), 25), ((-7588914009143598611), 8), ((-529961195607084943), 20), ((-1861449428545361677), 3), ((-3201550569371387532), 28), (3495859525528682488, 4), (5740354900026072187, 0)].toArray, ⟨127, [0, 1, 8, 9, 11, 13, 14, 18, 19, 22, 23, 24, 35, 36, 42, 49, 50, 51, 52, 55, 65, 68, 71, 78, 79, 80, 83, 87, 90, 94, 95, 99, 100, 101, 109, 113, 115, 116, 120, 123].toArray, #[], 0, b, 2, true⟩)
theorem runP4 (b : Bool) : runL (st4 b) ch4 = some (st5 b) := by cases b <;> decide +kernel
def ch5 : List (Int × Nat) := [(8863036856996448079, 40), (3074356838947616933, 41), (5747732033380497626, 42), ((-9215696767516180304), 43), (4514900750298973412, 44), (4632588994054523145, 45), (5090942153841141424, 46), (8329060600889234138, 47)]
def st6 (b : Bool) : SimSt := ([(1975966787561848960, 33), (7565702734599779969, 7), ((-223721976081044344), 19), ((-1670915893718185847), 16), (4632588994054523145, 45), ((-5363880408475182069), 23), (1175838959018786189, 12), (934597903244020238, 32), (8042655138916968978, 35), (8511904886075635986, 36), (419273411284489750, 22), (5062879455842931607, 14), (2464722558807915159, 6), ((-3524122966336508765), 17), ((-3669536867275959004), 5), (3074356838947616933, 41), ((-4195221733102688342), 10), ((-9215696767516180304), 43), ((-121041641180038863), 15), (5468190277141325233, 24), ((-125378524031590861), 13), ((-5316813789412351309), 29), (5090942153841141424, 46), ((-5502425232211235657), 31), (9130158990908055233, 27), ((-8530643575378971324), 30), ((-8478611311774995001), 34), ((-3041184016767426738), 2), ((-2631594628236031922), 26), (3668623796465017936, 37), (8863036856996448079, 40), (7088610649118931155, 1), ((-2239157138869344425), 11), (3000001194492540634, 21), (5747732033380497626, 42), (8329060600889234138, 47), ((-6965834220416663714), 38), (5881437748712762718, 39), (1283153971074905443, 9), ((-3167094588591478684), 18), ((-225364489807628188), 25), (4514900750298973412, 44), ((-7588914009143598611), 8), ((-529961195607084943), 20), ((-1861449428545361677), 3), ((-3201550569371387532), 28), (3495859525528682488, 4), (5740354900026072187, 0)].toArray, ⟨127, [0, 1, 8, 9, 10, 11, 13, 14, 18, 19, 22, 23, 24, 35, 36, 37, 42, 48, 49, 50, 51, 52, 53, 55, 65, 68, 71, 78, 79, 80, 81, 83, 87, 90, 91, 92, 94, 95, 99, 100, 101, 102, 109, 113, 115, 116, 120, 123].toArray, #[], 0, b, 2, true⟩)
theorem runP5 (b : Bool) : runL (st5 b) ch5 = some (st6 b) := by cases b <;> decide +kernel
def ch6 : List (Int × Nat) := [((-4790520744833835472), 48), (3923839512171773243, 49), (8085103924570565246, 50), ((-1707286443562517526), 51), (1651350748226756166, 52), ((-2849798138561140192), 53), (4645512518956179988, 54), (4969188644619379121, 55)]
def st7 (b : Bool) : SimSt := ([(1975966787561848960, 33), (7565702734599779969, 7), ((-223721976081044344), 19), ((-1670915893718185847), 16), (4632588994054523145, 45), ((-5363880408475182069), 23), (1175838959018786189, 12), (934597903244020238, 32), (8042655138916968978, 35), (8511904886075635986, 36), (4645512518956179988, 54), (419273411284489750, 22), (5062879455842931607, 14), (2464722558807915159, 6), ((-2849798138561140192), 53), ((-3524122966336508765), 17), ((-3669536867275959004), 5), (3074356838947616933, 41), ((-4195221733102688342), 10), ((-9215696767516180304), 43), ((-121041641180038863), 15), (5468190277141325233, 24), ((-125378524031590861), 13), ((-5316813789412351309), 29), (5090942153841141424, 46), ((-4790520744833835472), 48), ((-5502425232211235657), 31), (4969188644619379121, 55), (3923839512171773243, 49), (9130158990908055233, 27), ((-8530643575378971324), 30), (1651350748226756166, 52), ((-8478611311774995001), 34), ((-3041184016767426738), 2), ((-2631594628236031922), 26), (3668623796465017936, 37), (8863036856996448079, 40), (7088610649118931155, 1), ((-2239157138869344425), 11), (3000001194492540634, 21), (5747732033380497626, 42), (8329060600889234138, 47), ((-6965834220416663714), 38), (5881437748712762718, 39), (1283153971074905443, 9), ((-3167094588591478684), 18), ((-225364489807628188), 25), (4514900750298973412, 44), ((-1707286443562517526), 51), ((-7588914009143598611), 8), ((-529961195607084943), 20), ((-1861449428545361677), 3), ((-3201550569371387532), 28), (3495859525528682488, 4), (5740354900026072187, 0), (8085103924570565246, 50)].toArray, ⟨127, [0, 1, 8, 9, 10, 11, 13, 14, 18, 19, 20, 22, 23, 24, 32, 35, 36, 37, 42, 48, 49, 50, 51, 52, 53, 54, 55, 56, 59, 65, 68, 70, 71, 78, 79, 80, 81, 83, 87, 90, 91, 92, 94, 95, 99, 100, 101, 102, 106, 109, 113, 115, 116, 120, 123, 126].toArray, #[], 0, b, 2, true⟩)
theorem runP6 (b : Bool) : runL (st6 b) ch6 = some (st7 b) := by cases b <;> decide +kernel
def ch7 : List (Int × Nat) := [((-4116977963984669612), 56), (9132909932825431784, 57), (8856949513703367846, 58), ((-9117239367346765324), 59), ((-157582821711065943), 60), ((-6767578302827339111), 61), (5958738581201442004, 62), (4795522635024457790, 63)]
def st8 (b : Bool) : SimSt := ([(1975966787561848960, 33), (7565702734599779969, 7), ((-223721976081044344), 19), ((-1670915893718185847), 16), (4632588994054523145, 45), ((-5363880408475182069), 23), (1175838959018786189, 12), (934597903244020238, 32), (8042655138916968978, 35), (8511904886075635986, 36), (4645512518956179988, 54), (419273411284489750, 22), (5062879455842931607, 14), (2464722558807915159, 6), ((-6767578302827339111), 61), ((-2849798138561140192), 53), ((-3524122966336508765), 17), ((-3669536867275959004), 5), (3074356838947616933, 41), (8856949513703367846, 58), ((-157582821711065943), 60), ((-4195221733102688342), 10), ((-9215696767516180304), 43), ((-121041641180038863), 15), (5468190277141325233, 24), ((-125378524031590861), 13), ((-5316813789412351309), 29), (5090942153841141424, 46), ((-4790520744833835472), 48), ((-5502425232211235657), 31), (4969188644619379121, 55), (3923839512171773243, 49), (4795522635024457790, 63), (9130158990908055233, 27), ((-8530643575378971324), 30), (1651350748226756166, 52), ((-8478611311774995001), 34), ((-3041184016767426738), 2), ((-2631594628236031922), 26), (3668623796465017936, 37), (8863036856996448079, 40), (7088610649118931155, 1), ((-4116977963984669612), 56), (5958738581201442004, 62), ((-2239157138869344425), 11), (3000001194492540634, 21), (5747732033380497626, 42), (8329060600889234138, 47), ((-6965834220416663714), 38), (5881437748712762718, 39), (1283153971074905443, 9), ((-3167094588591478684), 18), ((-225364489807628188), 25), (4514900750298973412, 44), (9132909932825431784, 57), ((-1707286443562517526), 51), ((-7588914009143598611), 8), ((-529961195607084943), 20), ((-1861449428545361677), 3), ((-3201550569371387532), 28), ((-9117239367346765324), 59), (3495859525528682488, 4), (5740354900026072187, 0), (8085103924570565246, 50)].toArray, ⟨127, [0, 1, 8, 9, 10, 11, 13, 14, 18, 19, 20, 22, 23, 24, 25, 32, 35, 36, 37, 38, 41, 42, 48, 49, 50, 51, 52, 53, 54, 55, 56, 59, 62, 65, 68, 70, 71, 78, 79, 80, 81, 83, 84, 85, 87, 90, 91, 92, 94, 95, 99, 100, 101, 102, 104, 106, 109, 113, 115, 116, 117, 120, 123, 126].toArray, #[], 0, b, 2, true⟩)
theorem runP7 (b : Bool) : runL (st7 b) ch7 = some (st8 b) := by cases b <;> decide +kernel
def ch8 : List (Int × Nat) := [((-3773416532097915289), 64), (6479892657790753750, 65), (2591754130268989780, 66), (6312285206440940357, 67), (4541373724867208953, 68), (1187558518014045474, 69), (7510797305932129839, 70), (8497672543938566456, 71)]
def st9 (b : Bool) : SimSt := ([(1975966787561848960, 33), (7565702734599779969, 7), ((-223721976081044344), 19), ((-1670915893718185847), 16), (4632588994054523145, 45), ((-5363880408475182069), 23), (1175838959018786189, 12), (934597903244020238, 32), (8042655138916968978, 35), (8511904886075635986, 36), (4645512518956179988, 54), (419273411284489750, 22), (5062879455842931607, 14), (2464722558807915159, 6), ((-6767578302827339111), 61), ((-2849798138561140192), 53), (1187558518014045474, 69), ((-3524122966336508765), 17), ((-3669536867275959004), 5), (3074356838947616933, 41), (8856949513703367846, 58), ((-157582821711065943), 60), ((-4195221733102688342), 10), (7510797305932129839, 70), ((-9215696767516180304), 43), ((-121041641180038863), 15), (5468190277141325233, 24), ((-125378524031590861), 13), ((-5316813789412351309), 29), (5090942153841141424, 46), ((-4790520744833835472), 48), ((-5502425232211235657), 31), (4969188644619379121, 55), (8497672543938566456, 71), (3923839512171773243, 49), (4795522635024457790, 63), (9130158990908055233, 27), ((-8530643575378971324), 30), (6312285206440940357, 67), (1651350748226756166, 52), ((-8478611311774995001), 34), ((-3041184016767426738), 2), ((-2631594628236031922), 26), (3668623796465017936, 37), (8863036856996448079, 40), (7088610649118931155, 1), ((-4116977963984669612), 56), (5958738581201442004, 62), (6479892657790753750, 65), ((-2239157138869344425), 11), (2591754130268989780, 66), (3000001194492540634, 21), (5747732033380497626, 42), (8329060600889234138, 47), ((-6965834220416663714), 38), (5881437748712762718, 39), (1283153971074905443, 9), ((-3167094588591478684), 18), ((-225364489807628188), 25), (4514900750298973412, 44), ((-3773416532097915289), 64), (9132909932825431784, 57), ((-1707286443562517526), 51), ((-7588914009143598611), 8), ((-529961195607084943), 20), ((-1861449428545361677), 3), ((-3201550569371387532), 28), ((-9117239367346765324), 59), (3495859525528682488, 4), (4541373724867208953, 68), (5740354900026072187, 0), (8085103924570565246, 50)].toArray, ⟨127, [0, 1, 8, 9, 10, 11, 13, 14, 18, 19, 20, 22, 23, 24, 25, 32, 34, 35, 36, 37, 38, 41, 42, 47, 48, 49, 50, 51, 52, 53, 54, 55, 56, 57, 59, 62, 65, 68, 69, 70, 71, 78, 79, 80, 81, 83, 84, 85, 86, 87, 88, 90, 91, 92, 94, 95, 99, 100, 101, 102, 103, 104, 106, 109, 113, 115, 116, 117, 120, 121, 123, 126].toArray, #[], 0, b, 2, true⟩)
theorem runP8 (b : Bool) : runL (st8 b) ch8 = some (st9 b) := by cases b <;> decide +kernel
def ch9 : List (Int × Nat) := [(4796185949729770262, 72), (1029106190998706599, 73), ((-8314244190261840464), 74), ((-375089421256237707), 75), ((-460383999072005069), 76), (4462619609552491980, 77), (2309432829140145174, 78), (7456781380281915802, 79)]
def st10 (b : Bool) : SimSt := ([((-5363880408475182069), 23), (934597903244020238, 32), (8042655138916968978, 35), (4645512518956179988, 54), (419273411284489750, 22), (2309432829140145174, 78), ((-2849798138561140192), 53), (7510797305932129839, 70), ((-4790520744833835472), 48), ((-125378524031590861), 13), ((-460383999072005069), 76), (4795522635024457790, 63), (1651350748226756166, 52), ((-2631594628236031922), 26), (3668623796465017936, 37), ((-4116977963984669612), 56), ((-3167094588591478684), 18), ((-225364489807628188), 25), ((-3773416532097915289), 64), ((-529961195607084943), 20), (5740354900026072187, 0), (8085103924570565246, 50), (1975966787561848960, 33), (7565702734599779969, 7), ((-223721976081044344), 19), ((-1670915893718185847), 16), (2464722558807915159, 6), ((-6767578302827339111), 61), ((-3524122966336508765), 17), (3074356838947616933, 41), (8856949513703367846, 58), ((-157582821711065943), 60), ((-9215696767516180304), 43), (5090942153841141424, 46), ((-5316813789412351309), 29), ((-5502425232211235657), 31), (9130158990908055233, 27), (7088610649118931155, 1), (5958738581201442004, 62), (3000001194492540634, 21), (5747732033380497626, 42), (8329060600889234138, 47), (4514900750298973412, 44), (9132909932825431784, 57), ((-1861449428545361677), 3), (4541373724867208953, 68), (4632588994054523145, 45), (8511904886075635986, 36), (4796185949729770262, 72), (1187558518014045474, 69), ((-3669536867275959004), 5), ((-121041641180038863), 15), (8497672543938566456, 71), (3923839512171773243, 49), ((-8530643575378971324), 30), (6312285206440940357, 67), ((-3041184016767426738), 2), (8863036856996448079, 40), (2591754130268989780, 66), ((-2239157138869344425), 11), ((-6965834220416663714), 38), (5881437748712762718, 39), (1283153971074905443, 9), ((-3201550569371387532), 28), ((-375089421256237707), 75), (1175838959018786189, 12), (5062879455842931607, 14), (7456781380281915802, 79), (1029106190998706599, 73), ((-4195221733102688342), 10), ((-8314244190261840464), 74), (5468190277141325233, 24), (4969188644619379121, 55), ((-8478611311774995001), 34), (4462619609552491980, 77), (6479892657790753750, 65), ((-1707286443562517526), 51), ((-7588914009143598611), 8), ((-9117239367346765324), 59), (3495859525528682488, 4)].toArray, ⟨511, [11, 14, 18, 20, 22, 23, 32, 47, 48, 51, 52, 62, 70, 78, 80, 84, 100, 101, 103, 113, 123, 126, 128, 129, 136, 137, 151, 153, 163, 165, 166, 169, 176, 177, 179, 183, 193, 211, 212, 218, 219, 220, 228, 232, 243, 249, 265, 274, 278, 290, 292, 305, 312, 315, 324, 325, 334, 335, 340, 343, 350, 351, 355, 372, 373, 397, 407, 410, 423, 426, 432, 433, 434, 455, 460, 470, 490, 493, 500, 504].toArray, #[], 0, b, 3, true⟩)
theorem runP9 (b : Bool) : runL (st9 b) ch9 = some (st10 b) := by cases b <;> decide +kernel
def ch10 : List (Int × Nat) := [((-9220953816864683420), 80), (4086779372432484240, 81), (8763083089718918341, 82), ((-3766678298833662139), 83), (8151570415239574086, 84), (2644711513469350008, 85), (2892507459290588395, 86), ((-8346757125560724707), 87)]
def st11 (b : Bool) : SimSt := ([((-5363880408475182069), 23), (934597903244020238, 32), (8042655138916968978, 35), (4645512518956179988, 54), (419273411284489750, 22), (2309432829140145174, 78), ((-2849798138561140192), 53), (7510797305932129839, 70), ((-4790520744833835472), 48), ((-125378524031590861), 13), ((-460383999072005069), 76), (4795522635024457790, 63), (1651350748226756166, 52), (8151570415239574086, 84), ((-2631594628236031922), 26), (3668623796465017936, 37), ((-4116977963984669612), 56), ((-3167094588591478684), 18), ((-225364489807628188), 25), ((-9220953816864683420), 80), ((-3773416532097915289), 64), ((-529961195607084943), 20), (2644711513469350008, 85), (5740354900026072187, 0), (8085103924570565246, 50), (1975966787561848960, 33), (7565702734599779969, 7), ((-223721976081044344), 19), ((-1670915893718185847), 16), (2464722558807915159, 6), ((-6767578302827339111), 61), ((-3524122966336508765), 17), (3074356838947616933, 41), (8856949513703367846, 58), ((-157582821711065943), 60), ((-9215696767516180304), 43), (5090942153841141424, 46), ((-5316813789412351309), 29), ((-5502425232211235657), 31), (9130158990908055233, 27), (8763083089718918341, 82), (7088610649118931155, 1), (5958738581201442004, 62), (3000001194492540634, 21), (5747732033380497626, 42), (8329060600889234138, 47), (4514900750298973412, 44), (9132909932825431784, 57), (2892507459290588395, 86), ((-1861449428545361677), 3), (4541373724867208953, 68), (4632588994054523145, 45), (8511904886075635986, 36), (4796185949729770262, 72), ((-8346757125560724707), 87), (1187558518014045474, 69), ((-3669536867275959004), 5), ((-121041641180038863), 15), (8497672543938566456, 71), (3923839512171773243, 49), ((-8530643575378971324), 30), (6312285206440940357, 67), ((-3766678298833662139), 83), ((-3041184016767426738), 2), (8863036856996448079, 40), (2591754130268989780, 66), ((-2239157138869344425), 11), ((-6965834220416663714), 38), (5881437748712762718, 39), (1283153971074905443, 9), ((-3201550569371387532), 28), ((-375089421256237707), 75), (1175838959018786189, 12), (4086779372432484240, 81), (5062879455842931607, 14), (7456781380281915802, 79), (1029106190998706599, 73), ((-4195221733102688342), 10), ((-8314244190261840464), 74), (5468190277141325233, 24), (4969188644619379121, 55), ((-8478611311774995001), 34), (4462619609552491980, 77), (6479892657790753750, 65), ((-1707286443562517526), 51), ((-7588914009143598611), 8), ((-9117239367346765324), 59), (3495859525528682488, 4)].toArray, ⟨511, [11, 14, 18, 20, 22, 23, 32, 47, 48, 51, 52, 62, 70, 71, 78, 80, 84, 100, 101, 102, 103, 113, 120, 123, 126, 128, 129, 136, 137, 151, 153, 163, 165, 166, 169, 176, 177, 179, 183, 193, 197, 211, 212, 218, 219, 220, 228, 232, 235, 243, 249, 265, 274, 278, 285, 290, 292, 305, 312, 315, 324, 325, 326, 334, 335, 340, 343, 350, 351, 355, 372, 373, 397, 400, 407, 410, 423, 426, 432, 433, 434, 455, 460, 470, 490, 493, 500, 504].toArray, #[], 0, b, 3, true⟩)
theorem runP10 (b : Bool) : runL (st10 b) ch10 = some (st11 b) := by cases b <;> decide +kernel
def ch11 : List (Int × Nat) := [((-6153599309198003484), 88), (2442416432205044748, 89), ((-6020305718022950653), 90), (7818544905531141235, 91), ((-2425438129735130565), 92), (2106226425735345649, 93), ((-1714272474929429152), 94), (4661049107736036493, 95)]
def st12 (b : Bool) : SimSt := ([((-5363880408475182069), 23), (2442416432205044748, 89), (934597903244020238, 32), (8042655138916968978, 35), (4645512518956179988, 54), (419273411284489750, 22), (2309432829140145174, 78), ((-2849798138561140192), 53), (7510797305932129839, 70), ((-4790520744833835472), 48), ((-125378524031590861), 13), ((-460383999072005069), 76), ((-2425438129735130565), 92), (4795522635024457790, 63), (1651350748226756166, 52), (8151570415239574086, 84), ((-2631594628236031922), 26), (3668623796465017936, 37), ((-4116977963984669612), 56), ((-3167094588591478684), 18), ((-225364489807628188), 25), ((-9220953816864683420), 80), ((-3773416532097915289), 64), ((-529961195607084943), 20), (7818544905531141235, 91), (2644711513469350008, 85), (5740354900026072187, 0), (8085103924570565246, 50), (1975966787561848960, 33), (7565702734599779969, 7), ((-223721976081044344), 19), ((-1670915893718185847), 16), (4661049107736036493, 95), (2464722558807915159, 6), ((-6767578302827339111), 61), ((-3524122966336508765), 17), (3074356838947616933, 41), (8856949513703367846, 58), ((-157582821711065943), 60), ((-9215696767516180304), 43), (5090942153841141424, 46), ((-5316813789412351309), 29), ((-5502425232211235657), 31), (9130158990908055233, 27), (8763083089718918341, 82), (7088610649118931155, 1), (5958738581201442004, 62), (3000001194492540634, 21), (5747732033380497626, 42), (8329060600889234138, 47), (4514900750298973412, 44), ((-6153599309198003484), 88), (9132909932825431784, 57), (2892507459290588395, 86), ((-1861449428545361677), 3), (4541373724867208953, 68), ((-6020305718022950653), 90), (4632588994054523145, 45), (8511904886075635986, 36), (4796185949729770262, 72), ((-8346757125560724707), 87), (1187558518014045474, 69), ((-3669536867275959004), 5), ((-121041641180038863), 15), (8497672543938566456, 71), (3923839512171773243, 49), ((-8530643575378971324), 30), (6312285206440940357, 67), ((-3766678298833662139), 83), ((-3041184016767426738), 2), (8863036856996448079, 40), (2591754130268989780, 66), ((-2239157138869344425), 11), ((-6965834220416663714), 38), (5881437748712762718, 39), ((-1714272474929429152), 94), (1283153971074905443, 9), ((-3201550569371387532), 28), ((-375089421256237707), 75), (1175838959018786189, 12), (4086779372432484240, 81), (5062879455842931607, 14), (7456781380281915802, 79), (1029106190998706599, 73), ((-4195221733102688342), 10), ((-8314244190261840464), 74), (5468190277141325233, 24), (4969188644619379121, 55), ((-8478611311774995001), 34), (4462619609552491980, 77), (6479892657790753750, 65), ((-1707286443562517526), 51), ((-7588914009143598611), 8), (2106226425735345649, 93), ((-9117239367346765324), 59), (3495859525528682488, 4)].toArray, ⟨511, [11, 12, 14, 18, 20, 22, 23, 32, 47, 48, 51, 52, 59, 62, 70, 71, 78, 80, 84, 100, 101, 102, 103, 113, 115, 120, 123, 126, 128, 129, 136, 137, 141, 151, 153, 163, 165, 166, 169, 176, 177, 179, 183, 193, 197, 211, 212, 218, 219, 220, 228, 229, 232, 235, 243, 249, 259, 265, 274, 278, 285, 290, 292, 305, 312, 315, 324, 325, 326, 334, 335, 340, 343, 350, 351, 352, 355, 372, 373, 397, 400, 407, 410, 423, 426, 432, 433, 434, 455, 460, 470, 490, 493, 497, 500, 504].toArray, #[], 0, b, 3, true⟩)
theorem runP11 (b : Bool) : runL (st11 b) ch11 = some (st12 b) := by cases b <;> decide +kernel
def ch12 : List (Int × Nat) := [(4019885341341329994, 96), (8226021063202295863, 97), ((-6208961400889594320), 98), ((-3498337166743957184), 99), (4717244650246774458, 100), ((-7613157013144538626), 101), (811739157333489673, 102), ((-3343111666030560306), 103)]
def st13 (b : Bool) : SimSt := ([(811739157333489673, 102), ((-5363880408475182069), 23), (2442416432205044748, 89), (934597903244020238, 32), (8042655138916968978, 35), (4645512518956179988, 54), (419273411284489750, 22), (2309432829140145174, 78), ((-2849798138561140192), 53), (7510797305932129839, 70), ((-4790520744833835472), 48), ((-6208961400889594320), 98), ((-125378524031590861), 13), ((-460383999072005069), 76), (8226021063202295863, 97), ((-2425438129735130565), 92), (4795522635024457790, 63), (1651350748226756166, 52), (8151570415239574086, 84), (4019885341341329994, 96), ((-2631594628236031922), 26), (3668623796465017936, 37), ((-4116977963984669612), 56), ((-3167094588591478684), 18), ((-225364489807628188), 25), ((-9220953816864683420), 80), ((-3773416532097915289), 64), ((-529961195607084943), 20), (7818544905531141235, 91), (2644711513469350008, 85), (5740354900026072187, 0), (8085103924570565246, 50), (1975966787561848960, 33), (7565702734599779969, 7), ((-223721976081044344), 19), ((-1670915893718185847), 16), (4661049107736036493, 95), (2464722558807915159, 6), ((-6767578302827339111), 61), ((-3524122966336508765), 17), (3074356838947616933, 41), (8856949513703367846, 58), ((-157582821711065943), 60), ((-9215696767516180304), 43), (5090942153841141424, 46), ((-5316813789412351309), 29), ((-5502425232211235657), 31), (4717244650246774458, 100), (9130158990908055233, 27), (8763083089718918341, 82), (7088610649118931155, 1), (5958738581201442004, 62), (3000001194492540634, 21), (5747732033380497626, 42), (8329060600889234138, 47), (4514900750298973412, 44), ((-6153599309198003484), 88), (9132909932825431784, 57), (2892507459290588395, 86), ((-1861449428545361677), 3), (4541373724867208953, 68), ((-6020305718022950653), 90), (4632588994054523145, 45), (8511904886075635986, 36), (4796185949729770262, 72), ((-8346757125560724707), 87), (1187558518014045474, 69), ((-3669536867275959004), 5), ((-121041641180038863), 15), (8497672543938566456, 71), (3923839512171773243, 49), ((-3498337166743957184), 99), ((-8530643575378971324), 30), (6312285206440940357, 67), ((-3766678298833662139), 83), ((-3041184016767426738), 2), (8863036856996448079, 40), (2591754130268989780, 66), ((-2239157138869344425), 11), ((-6965834220416663714), 38), (5881437748712762718, 39), ((-1714272474929429152), 94), (1283153971074905443, 9), ((-3201550569371387532), 28), ((-375089421256237707), 75), (1175838959018786189, 12), (4086779372432484240, 81), (5062879455842931607, 14), (7456781380281915802, 79), (1029106190998706599, 73), ((-4195221733102688342), 10), ((-8314244190261840464), 74), (5468190277141325233, 24), (4969188644619379121, 55), ((-8478611311774995001), 34), (4462619609552491980, 77), ((-3343111666030560306), 103), (6479892657790753750, 65), ((-1707286443562517526), 51), ((-7588914009143598611), 8), (2106226425735345649, 93), ((-9117239367346765324), 59), (3495859525528682488, 4), ((-7613157013144538626), 101)].toArray, ⟨511, [9, 11, 12, 14, 18, 20, 22, 23, 32, 47, 48, 49, 51, 52, 55, 59, 62, 70, 71, 74, 78, 80, 84, 100, 101, 102, 103, 113, 115, 120, 123, 126, 128, 129, 136, 137, 141, 151, 153, 163, 165, 166, 169, 176, 177, 179, 183, 186, 193, 197, 211, 212, 218, 219, 220, 228, 229, 232, 235, 243, 249, 259, 265, 274, 278, 285, 290, 292, 305, 312, 315, 320, 324, 325, 326, 334, 335, 340, 343, 350, 351, 352, 355, 372, 373, 397, 400, 407, 410, 423, 426, 432, 433, 434, 455, 460, 462, 470, 490, 493, 497, 500, 504, 510].toArray, #[], 0, b, 3, true⟩)
theorem runP12 (b : Bool) : runL (st12 b) ch12 = some (st13 b) := by cases b <;> decide +kernel
def ch13 : List (Int × Nat) := [((-2618655420641767945), 104), ((-4531521476433854523), 105), ((-9022728083068020504), 106), ((-348949895301136484), 107), ((-2497005344285338941), 108), (6208748014964034093, 109), (4909432083056255865, 110), (4804552402709089787, 111)]
def st14 (b : Bool) : SimSt := ([(811739157333489673, 102), ((-5363880408475182069), 23), (2442416432205044748, 89), (934597903244020238, 32), (8042655138916968978, 35), (4645512518956179988, 54), (419273411284489750, 22), (2309432829140145174, 78), ((-2849798138561140192), 53), (6208748014964034093, 109), (7510797305932129839, 70), ((-4790520744833835472), 48), ((-6208961400889594320), 98), ((-125378524031590861), 13), ((-460383999072005069), 76), (8226021063202295863, 97), ((-2425438129735130565), 92), (4795522635024457790, 63), (1651350748226756166, 52), (8151570415239574086, 84), (4019885341341329994, 96), ((-2631594628236031922), 26), (3668623796465017936, 37), ((-4116977963984669612), 56), ((-3167094588591478684), 18), ((-225364489807628188), 25), ((-9220953816864683420), 80), ((-3773416532097915289), 64), ((-529961195607084943), 20), (7818544905531141235, 91), (2644711513469350008, 85), (5740354900026072187, 0), (8085103924570565246, 50), (1975966787561848960, 33), (7565702734599779969, 7), ((-223721976081044344), 19), ((-1670915893718185847), 16), (4661049107736036493, 95), (2464722558807915159, 6), ((-6767578302827339111), 61), ((-3524122966336508765), 17), (3074356838947616933, 41), (8856949513703367846, 58), ((-157582821711065943), 60), ((-9215696767516180304), 43), (5090942153841141424, 46), ((-5316813789412351309), 29), ((-5502425232211235657), 31), (4717244650246774458, 100), (9130158990908055233, 27), ((-2497005344285338941), 108), (8763083089718918341, 82), (7088610649118931155, 1), (5958738581201442004, 62), (3000001194492540634, 21), (5747732033380497626, 42), (8329060600889234138, 47), (4514900750298973412, 44), ((-6153599309198003484), 88), (9132909932825431784, 57), ((-9022728083068020504), 106), (2892507459290588395, 86), ((-1861449428545361677), 3), (4541373724867208953, 68), ((-6020305718022950653), 90), (4632588994054523145, 45), (8511904886075635986, 36), (4796185949729770262, 72), ((-8346757125560724707), 87), (1187558518014045474, 69), ((-3669536867275959004), 5), ((-121041641180038863), 15), (8497672543938566456, 71), (3923839512171773243, 49), ((-3498337166743957184), 99), ((-8530643575378971324), 30), (6312285206440940357, 67), ((-3766678298833662139), 83), ((-3041184016767426738), 2), (8863036856996448079, 40), (2591754130268989780, 66), ((-2239157138869344425), 11), ((-6965834220416663714), 38), (5881437748712762718, 39), ((-1714272474929429152), 94), (1283153971074905443, 9), ((-3201550569371387532), 28), ((-375089421256237707), 75), (4909432083056255865, 110), (1175838959018786189, 12), (4086779372432484240, 81), (5062879455842931607, 14), (7456781380281915802, 79), ((-348949895301136484), 107), (1029106190998706599, 73), ((-4195221733102688342), 10), ((-8314244190261840464), 74), (5468190277141325233, 24), (4969188644619379121, 55), ((-4531521476433854523), 105), ((-8478611311774995001), 34), (4462619609552491980, 77), ((-3343111666030560306), 103), (6479892657790753750, 65), ((-1707286443562517526), 51), ((-7588914009143598611), 8), (2106226425735345649, 93), ((-9117239367346765324), 59), ((-2618655420641767945), 104), (3495859525528682488, 4), (4804552402709089787, 111), ((-7613157013144538626), 101)].toArray, ⟨511, [9, 11, 12, 14, 18, 20, 22, 23, 32, 45, 47, 48, 49, 51, 52, 55, 59, 62, 70, 71, 74, 78, 80, 84, 100, 101, 102, 103, 113, 115, 120, 123, 126, 128, 129, 136, 137, 141, 151, 153, 163, 165, 166, 169, 176, 177, 179, 183, 186, 193, 195, 197, 211, 212, 218, 219, 220, 228, 229, 232, 233, 235, 243, 249, 259, 265, 274, 278, 285, 290, 292, 305, 312, 315, 320, 324, 325, 326, 334, 335, 340, 343, 350, 351, 352, 355, 372, 373, 377, 397, 400, 407, 410, 412, 423, 426, 432, 433, 434, 453, 455, 460, 462, 470, 490, 493, 497, 500, 503, 504, 507, 510].toArray, #[], 0, b, 3, true⟩)
theorem runP13 (b : Bool) : runL (st13 b) ch13 = some (st14 b) := by cases b <;> decide +kernel
def ch14 : List (Int × Nat) := [(6898153942434059582, 112), (5563735572879667547, 113), (4399814445026211984, 114), (8037681207424913771, 115), (2309538863552544804, 116), (575918250585304940, 117), ((-7414901095555214023), 118), ((-8358212933657251153), 119)]
def st15 (b : Bool) : SimSt := ([(811739157333489673, 102), ((-5363880408475182069), 23), (2442416432205044748, 89), (934597903244020238, 32), (8042655138916968978, 35), (4645512518956179988, 54), (419273411284489750, 22), (2309432829140145174, 78), ((-2849798138561140192), 53), (2309538863552544804, 116), (6208748014964034093, 109), (7510797305932129839, 70), ((-4790520744833835472), 48), ((-6208961400889594320), 98), ((-125378524031590861), 13), ((-460383999072005069), 76), (8226021063202295863, 97), ((-2425438129735130565), 92), (4795522635024457790, 63), (1651350748226756166, 52), (8151570415239574086, 84), (4019885341341329994, 96), ((-2631594628236031922), 26), (3668623796465017936, 37), ((-4116977963984669612), 56), ((-3167094588591478684), 18), ((-225364489807628188), 25), ((-9220953816864683420), 80), ((-3773416532097915289), 64), ((-529961195607084943), 20), (7818544905531141235, 91), (2644711513469350008, 85), (5740354900026072187, 0), (8085103924570565246, 50), (1975966787561848960, 33), (7565702734599779969, 7), ((-223721976081044344), 19), ((-1670915893718185847), 16), (4661049107736036493, 95), (4399814445026211984, 114), (2464722558807915159, 6), ((-6767578302827339111), 61), ((-3524122966336508765), 17), (3074356838947616933, 41), (8856949513703367846, 58), ((-157582821711065943), 60), ((-8358212933657251153), 119), ((-9215696767516180304), 43), (5090942153841141424, 46), ((-5316813789412351309), 29), ((-5502425232211235657), 31), (4717244650246774458, 100), (9130158990908055233, 27), ((-2497005344285338941), 108), (8763083089718918341, 82), (7088610649118931155, 1), (5958738581201442004, 62), (3000001194492540634, 21), (5747732033380497626, 42), (8329060600889234138, 47), (4514900750298973412, 44), ((-6153599309198003484), 88), (9132909932825431784, 57), ((-9022728083068020504), 106), (2892507459290588395, 86), ((-1861449428545361677), 3), (4541373724867208953, 68), ((-6020305718022950653), 90), (4632588994054523145, 45), (8511904886075635986, 36), (4796185949729770262, 72), ((-8346757125560724707), 87), (1187558518014045474, 69), ((-3669536867275959004), 5), ((-121041641180038863), 15), (8497672543938566456, 71), ((-7414901095555214023), 118), (3923839512171773243, 49), (6898153942434059582, 112), ((-3498337166743957184), 99), ((-8530643575378971324), 30), (6312285206440940357, 67), ((-3766678298833662139), 83), ((-3041184016767426738), 2), (8863036856996448079, 40), (2591754130268989780, 66), ((-2239157138869344425), 11), (5563735572879667547, 113), ((-6965834220416663714), 38), (5881437748712762718, 39), ((-1714272474929429152), 94), (1283153971074905443, 9), (8037681207424913771, 115), (575918250585304940, 117), ((-3201550569371387532), 28), ((-375089421256237707), 75), (4909432083056255865, 110), (1175838959018786189, 12), (4086779372432484240, 81), (5062879455842931607, 14), (7456781380281915802, 79), ((-348949895301136484), 107), (1029106190998706599, 73), ((-4195221733102688342), 10), ((-8314244190261840464), 74), (5468190277141325233, 24), (4969188644619379121, 55), ((-4531521476433854523), 105), ((-8478611311774995001), 34), (4462619609552491980, 77), ((-3343111666030560306), 103), (6479892657790753750, 65), ((-1707286443562517526), 51), ((-7588914009143598611), 8), (2106226425735345649, 93), ((-9117239367346765324), 59), ((-2618655420641767945), 104), (3495859525528682488, 4), (4804552402709089787, 111), ((-7613157013144538626), 101)].toArray, ⟨511, [9, 11, 12, 14, 18, 20, 22, 23, 32, 36, 45, 47, 48, 49, 51, 52, 55, 59, 62, 70, 71, 74, 78, 80, 84, 100, 101, 102, 103, 113, 115, 120, 123, 126, 128, 129, 136, 137, 141, 144, 151, 153, 163, 165, 166, 169, 175, 176, 177, 179, 183, 186, 193, 195, 197, 211, 212, 218, 219, 220, 228, 229, 232, 233, 235, 243, 249, 259, 265, 274, 278, 285, 290, 292, 305, 312, 313, 315, 318, 320, 324, 325, 326, 334, 335, 340, 343, 347, 350, 351, 352, 355, 363, 364, 372, 373, 377, 397, 400, 407, 410, 412, 423, 426, 432, 433, 434, 453, 455, 460, 462, 470, 490, 493, 497, 500, 503, 504, 507, 510].toArray, #[], 0, b, 3, true⟩)
theorem runP14 (b : Bool) : runL (st14 b) ch14 = some (st15 b) := by cases b <;> decide +kernel
def ch15 : List (Int × Nat) := [(1418576199198445005, 120), (96940915022632155, 121), (2595406321418454662, 122), (14380586943500699, 123), (4006467049006948847, 124), ((-5857883213883240427), 125), ((-65615980906398625), 126), (4182307845481040220, 127)]
def st16 (b : Bool) : SimSt := ([(811739157333489673, 102), ((-5363880408475182069), 23), (2442416432205044748, 89), (934597903244020238, 32), (8042655138916968978, 35), (4645512518956179988, 54), ((-5857883213883240427), 125), (419273411284489750, 22), (2309432829140145174, 78), ((-2849798138561140192), 53), (2309538863552544804, 116), (6208748014964034093, 109), (7510797305932129839, 70), ((-4790520744833835472), 48), ((-6208961400889594320), 98), ((-125378524031590861), 13), ((-460383999072005069), 76), (8226021063202295863, 97), ((-2425438129735130565), 92), (4795522635024457790, 63), (1651350748226756166, 52), (8151570415239574086, 84), (4019885341341329994, 96), ((-2631594628236031922), 26), (3668623796465017936, 37), ((-4116977963984669612), 56), ((-65615980906398625), 126), ((-3167094588591478684), 18), ((-225364489807628188), 25), ((-9220953816864683420), 80), ((-3773416532097915289), 64), ((-529961195607084943), 20), (7818544905531141235, 91), (2644711513469350008, 85), (5740354900026072187, 0), (8085103924570565246, 50), (1975966787561848960, 33), (7565702734599779969, 7), (2595406321418454662, 122), ((-223721976081044344), 19), ((-1670915893718185847), 16), (4661049107736036493, 95), (4399814445026211984, 114), (2464722558807915159, 6), ((-6767578302827339111), 61), ((-3524122966336508765), 17), (3074356838947616933, 41), (8856949513703367846, 58), ((-157582821711065943), 60), ((-8358212933657251153), 119), ((-9215696767516180304), 43), (5090942153841141424, 46), ((-5316813789412351309), 29), ((-5502425232211235657), 31), (4717244650246774458, 100), (9130158990908055233, 27), ((-2497005344285338941), 108), (8763083089718918341, 82), (7088610649118931155, 1), (5958738581201442004, 62), (3000001194492540634, 21), (5747732033380497626, 42), (8329060600889234138, 47), (96940915022632155, 121), (4514900750298973412, 44), ((-6153599309198003484), 88), (9132909932825431784, 57), ((-9022728083068020504), 106), (2892507459290588395, 86), ((-1861449428545361677), 3), (4541373724867208953, 68), ((-6020305718022950653), 90), (4632588994054523145, 45), (8511904886075635986, 36), (4796185949729770262, 72), ((-8346757125560724707), 87), (1187558518014045474, 69), ((-3669536867275959004), 5), ((-121041641180038863), 15), (8497672543938566456, 71), ((-7414901095555214023), 118), (3923839512171773243, 49), (6898153942434059582, 112), ((-3498337166743957184), 99), ((-8530643575378971324), 30), (6312285206440940357, 67), ((-3766678298833662139), 83), ((-3041184016767426738), 2), (8863036856996448079, 40), (2591754130268989780, 66), ((-2239157138869344425), 11), (5563735572879667547, 113), (4182307845481040220, 127), ((-6965834220416663714), 38), (5881437748712762718, 39), ((-1714272474929429152), 94), (1283153971074905443, 9), (8037681207424913771, 115), (575918250585304940, 117), ((-3201550569371387532), 28), ((-375089421256237707), 75), (4909432083056255865, 110), (1175838959018786189, 12), (4086779372432484240, 81), (5062879455842931607, 14), (7456781380281915802, 79), (14380586943500699, 123), ((-348949895301136484), 107), (1029106190998706599, 73), ((-4195221733102688342), 10), ((-8314244190261840464), 74), (5468190277141325233, 24), (4969188644619379121, 55), ((-4531521476433854523), 105), ((-8478611311774995001), 34), (4462619609552491980, 77), (1418576199198445005, 120), ((-3343111666030560306), 103), (6479892657790753750, 65), ((-1707286443562517526), 51), ((-7588914009143598611), 8), (4006467049006948847, 124), (2106226425735345649, 93), ((-9117239367346765324), 59), ((-2618655420641767945), 104), (3495859525528682488, 4), (4804552402709089787, 111), ((-7613157013144538626), 101)].toArray, ⟨511, [9, 11, 12, 14, 18, 20, 21, 22, 23, 32, 36, 45, 47, 48, 49, 51, 52, 55, 59, 62, 70, 71, 74, 78, 80, 84, 95, 100, 101, 102, 103, 113, 115, 120, 123, 126, 128, 129, 134, 136, 137, 141, 144, 151, 153, 163, 165, 166, 169, 175, 176, 177, 179, 183, 186, 193, 195, 197, 211, 212, 218, 219, 220, 221, 228, 229, 232, 233, 235, 243, 249, 259, 265, 274, 278, 285, 290, 292, 305, 312, 313, 315, 318, 320, 324, 325, 326, 334, 335, 340, 343, 347, 348, 350, 351, 352, 355, 363, 364, 372, 373, 377, 397, 400, 407, 410, 411, 412, 423, 426, 432, 433, 434, 453, 455, 460, 461, 462, 470, 490, 493, 495, 497, 500, 503, 504, 507, 510].toArray, #[], 0, b, 3, true⟩)
theorem runP15 (b : Bool) : runL (st15 b) ch15 = some (st16 b) := by cases b <;> decide +kernel
def ch16 : List (Int × Nat) := [(9220329537792332090, 128), (8071258091814038693, 129), ((-5909774390565256426), 130), (6667062479559094387, 131), ((-5522070991498139009), 132), ((-2214556466854482805), 133), ((-1837713001018981678), 134), ((-614460121605640371), 135)]
def st17 (b : Bool) : SimSt := ([(811739157333489673, 102), ((-5363880408475182069), 23), (2442416432205044748, 89), (934597903244020238, 32), (8042655138916968978, 35), (4645512518956179988, 54), ((-5857883213883240427), 125), (419273411284489750, 22), (2309432829140145174, 78), ((-2849798138561140192), 53), (2309538863552544804, 116), (6208748014964034093, 109), (7510797305932129839, 70), ((-4790520744833835472), 48), ((-6208961400889594320), 98), ((-125378524031590861), 13), ((-460383999072005069), 76), (8226021063202295863, 97), ((-2425438129735130565), 92), (4795522635024457790, 63), (1651350748226756166, 52), (8151570415239574086, 84), (4019885341341329994, 96), ((-2631594628236031922), 26), (3668623796465017936, 37), ((-4116977963984669612), 56), ((-65615980906398625), 126), ((-3167094588591478684), 18), ((-225364489807628188), 25), ((-9220953816864683420), 80), ((-3773416532097915289), 64), ((-529961195607084943), 20), (7818544905531141235, 91), (6667062479559094387, 131), (2644711513469350008, 85), (5740354900026072187, 0), (8085103924570565246, 50), ((-5522070991498139009), 132), (1975966787561848960, 33), (7565702734599779969, 7), (2595406321418454662, 122), ((-223721976081044344), 19), ((-1670915893718185847), 16), ((-2214556466854482805), 133), (4661049107736036493, 95), (4399814445026211984, 114), (2464722558807915159, 6), ((-6767578302827339111), 61), ((-3524122966336508765), 17), (3074356838947616933, 41), (8856949513703367846, 58), (8071258091814038693, 129), ((-157582821711065943), 60), ((-8358212933657251153), 119), ((-9215696767516180304), 43), (5090942153841141424, 46), ((-5316813789412351309), 29), ((-5502425232211235657), 31), (4717244650246774458, 100), (9130158990908055233, 27), ((-2497005344285338941), 108), (8763083089718918341, 82), ((-1837713001018981678), 134), (7088610649118931155, 1), (5958738581201442004, 62), (3000001194492540634, 21), (5747732033380497626, 42), (8329060600889234138, 47), (96940915022632155, 121), (4514900750298973412, 44), ((-6153599309198003484), 88), (9132909932825431784, 57), ((-9022728083068020504), 106), (2892507459290588395, 86), ((-1861449428545361677), 3), (4541373724867208953, 68), ((-6020305718022950653), 90), (4632588994054523145, 45), (8511904886075635986, 36), (4796185949729770262, 72), ((-5909774390565256426), 130), ((-8346757125560724707), 87), (1187558518014045474, 69), ((-3669536867275959004), 5), ((-121041641180038863), 15), (8497672543938566456, 71), ((-7414901095555214023), 118), (9220329537792332090, 128), (3923839512171773243, 49), (6898153942434059582, 112), ((-3498337166743957184), 99), ((-8530643575378971324), 30), (6312285206440940357, 67), ((-3766678298833662139), 83), ((-614460121605640371), 135), ((-3041184016767426738), 2), (8863036856996448079, 40), (2591754130268989780, 66), ((-2239157138869344425), 11), (5563735572879667547, 113), (4182307845481040220, 127), ((-6965834220416663714), 38), (5881437748712762718, 39), ((-1714272474929429152), 94), (1283153971074905443, 9), (8037681207424913771, 115), (575918250585304940, 117), ((-3201550569371387532), 28), ((-375089421256237707), 75), (4909432083056255865, 110), (1175838959018786189, 12), (4086779372432484240, 81), (5062879455842931607, 14), (7456781380281915802, 79), (14380586943500699, 123), ((-348949895301136484), 107), (1029106190998706599, 73), ((-4195221733102688342), 10), ((-8314244190261840464), 74), (5468190277141325233, 24), (4969188644619379121, 55), ((-4531521476433854523), 105), ((-8478611311774995001), 34), (4462619609552491980, 77), (1418576199198445005, 120), ((-3343111666030560306), 103), (6479892657790753750, 65), ((-1707286443562517526), 51), ((-7588914009143598611), 8), (4006467049006948847, 124), (2106226425735345649, 93), ((-9117239367346765324), 59), ((-2618655420641767945), 104), (3495859525528682488, 4), (4804552402709089787, 111), ((-7613157013144538626), 101)].toArray, ⟨511, [9, 11, 12, 14, 18, 20, 21, 22, 23, 32, 36, 45, 47, 48, 49, 51, 52, 55, 59, 62, 70, 71, 74, 78, 80, 84, 95, 100, 101, 102, 103, 113, 115, 116, 120, 123, 126, 127, 128, 129, 134, 136, 137, 139, 141, 144, 151, 153, 163, 165, 166, 167, 169, 175, 176, 177, 179, 183, 186, 193, 195, 197, 210, 211, 212, 218, 219, 220, 221, 228, 229, 232, 233, 235, 243, 249, 259, 265, 274, 278, 279, 285, 290, 292, 305, 312, 313, 314, 315, 318, 320, 324, 325, 326, 333, 334, 335, 340, 343, 347, 348, 350, 351, 352, 355, 363, 364, 372, 373, 377, 397, 400, 407, 410, 411, 412, 423, 426, 432, 433, 434, 453, 455, 460, 461, 462, 470, 490, 493, 495, 497, 500, 503, 504, 507, 510].toArray, #[], 0, b, 3, true⟩)
theorem runP16 (b : Bool) : runL (st16 b) ch16 = some (st17 b) := by cases b <;> decide +kernel
def ch17 : List (Int × Nat) := [(5880239405770589218, 136), (6337044420565092472, 137), (5581124541132324961, 138), (844566386860599313, 139), ((-8662062507048571613), 140), ((-8606284395506904812), 141), (4758621832037815526, 142), ((-5176236321545478790), 143)]
def st18 (b : Bool) : SimSt := ([(811739157333489673, 102), ((-5363880408475182069), 23), (2442416432205044748, 89), (934597903244020238, 32), (844566386860599313, 139), (8042655138916968978, 35), (4645512518956179988, 54), ((-5857883213883240427), 125), (419273411284489750, 22), (2309432829140145174, 78), ((-2849798138561140192), 53), (5880239405770589218, 136), (2309538863552544804, 116), (6208748014964034093, 109), (7510797305932129839, 70), ((-4790520744833835472), 48), ((-6208961400889594320), 98), ((-125378524031590861), 13), ((-460383999072005069), 76), (8226021063202295863, 97), ((-2425438129735130565), 92), (4795522635024457790, 63), (1651350748226756166, 52), (8151570415239574086, 84), (4019885341341329994, 96), ((-2631594628236031922), 26), (3668623796465017936, 37), ((-4116977963984669612), 56), ((-65615980906398625), 126), (5581124541132324961, 138), ((-3167094588591478684), 18), ((-225364489807628188), 25), ((-9220953816864683420), 80), ((-3773416532097915289), 64), ((-529961195607084943), 20), (7818544905531141235, 91), (6667062479559094387, 131), (2644711513469350008, 85), (6337044420565092472, 137), (5740354900026072187, 0), (8085103924570565246, 50), ((-5522070991498139009), 132), (1975966787561848960, 33), (7565702734599779969, 7), (2595406321418454662, 122), ((-223721976081044344), 19), ((-1670915893718185847), 16), ((-2214556466854482805), 133), (4661049107736036493, 95), (4399814445026211984, 114), (2464722558807915159, 6), ((-6767578302827339111), 61), ((-3524122966336508765), 17), (3074356838947616933, 41), (8856949513703367846, 58), (8071258091814038693, 129), ((-157582821711065943), 60), ((-8358212933657251153), 119), ((-9215696767516180304), 43), (5090942153841141424, 46), ((-5316813789412351309), 29), ((-5502425232211235657), 31), (4717244650246774458, 100), (9130158990908055233, 27), ((-2497005344285338941), 108), (8763083089718918341, 82), ((-1837713001018981678), 134), (7088610649118931155, 1), (5958738581201442004, 62), (3000001194492540634, 21), (5747732033380497626, 42), (8329060600889234138, 47), (96940915022632155, 121), (4514900750298973412, 44), ((-6153599309198003484), 88), (4758621832037815526, 142), (9132909932825431784, 57), ((-9022728083068020504), 106), (2892507459290588395, 86), ((-1861449428545361677), 3), (4541373724867208953, 68), ((-6020305718022950653), 90), (4632588994054523145, 45), (8511904886075635986, 36), ((-8606284395506904812), 141), (4796185949729770262, 72), ((-5909774390565256426), 130), ((-8346757125560724707), 87), (1187558518014045474, 69), ((-8662062507048571613), 140), ((-3669536867275959004), 5), ((-121041641180038863), 15), (8497672543938566456, 71), ((-7414901095555214023), 118), (9220329537792332090, 128), (3923839512171773243, 49), (6898153942434059582, 112), ((-3498337166743957184), 99), ((-8530643575378971324), 30), (6312285206440940357, 67), ((-3766678298833662139), 83), ((-614460121605640371), 135), ((-3041184016767426738), 2), (8863036856996448079, 40), (2591754130268989780, 66), ((-2239157138869344425), 11), (5563735572879667547, 113), (4182307845481040220, 127), ((-6965834220416663714), 38), (5881437748712762718, 39), ((-1714272474929429152), 94), (1283153971074905443, 9), (8037681207424913771, 115), (575918250585304940, 117), ((-3201550569371387532), 28), ((-375089421256237707), 75), (4909432083056255865, 110), ((-5176236321545478790), 143), (1175838959018786189, 12), (4086779372432484240, 81), (5062879455842931607, 14), (7456781380281915802, 79), (14380586943500699, 123), ((-348949895301136484), 107), (1029106190998706599, 73), ((-4195221733102688342), 10), ((-8314244190261840464), 74), (5468190277141325233, 24), (4969188644619379121, 55), ((-4531521476433854523), 105), ((-8478611311774995001), 34), (4462619609552491980, 77), (1418576199198445005, 120), ((-3343111666030560306), 103), (6479892657790753750, 65), ((-1707286443562517526), 51), ((-7588914009143598611), 8), (4006467049006948847, 124), (2106226425735345649, 93), ((-9117239367346765324), 59), ((-2618655420641767945), 104), (3495859525528682488, 4), (4804552402709089787, 111), ((-7613157013144538626), 101)].toArray, ⟨511, [9, 11, 12, 14, 17, 18, 20, 21, 22, 23, 32, 34, 36, 45, 47, 48, 49, 51, 52, 55, 59, 62, 70, 71, 74, 78, 80, 84, 95, 97, 100, 101, 102, 103, 113, 115, 116, 120, 121, 123, 126, 127, 128, 129, 134, 136, 137, 139, 141, 144, 151, 153, 163, 165, 166, 167, 169, 175, 176, 177, 179, 183, 186, 193, 195, 197, 210, 211, 212, 218, 219, 220, 221, 228, 229, 230, 232, 233, 235, 243, 249, 259, 265, 274, 276, 278, 279, 285, 290, 291, 292, 305, 312, 313, 314, 315, 318, 320, 324, 325, 326, 333, 334, 335, 340, 343, 347, 348, 350, 351, 352, 355, 363, 364, 372, 373, 377, 378, 397, 400, 407, 410, 411, 412, 423, 426, 432, 433, 434, 453, 455, 460, 461, 462, 470, 490, 493, 495, 497, 500, 503, 504, 507, 510].toArray, #[], 0, b, 3, true⟩)
theorem runP17 (b : Bool) : runL (st17 b) ch17 = some (st18 b) := by cases b <;> decide +kernel
def ch18 : List (Int × Nat) := [((-1021627699059202269), 144), ((-5557312962575191600), 145), ((-2515640890993333250), 146), ((-1852969418156111083), 147), (7423469673659469057, 148), (2173033692285828204, 149), (1751247026877337791, 150), (6524453090925291170, 151)]
def st19 (b : Bool) : SimSt := ([(811739157333489673, 102), ((-5363880408475182069), 23), (2442416432205044748, 89), (934597903244020238, 32), (844566386860599313, 139), (8042655138916968978, 35), (4645512518956179988, 54), ((-5857883213883240427), 125), (419273411284489750, 22), (2309432829140145174, 78), ((-2849798138561140192), 53), (5880239405770589218, 136), (2309538863552544804, 116), (6208748014964034093, 109), (7510797305932129839, 70), ((-4790520744833835472), 48), ((-6208961400889594320), 98), ((-125378524031590861), 13), ((-460383999072005069), 76), (8226021063202295863, 97), ((-2425438129735130565), 92), (4795522635024457790, 63), (1651350748226756166, 52), (8151570415239574086, 84), (4019885341341329994, 96), ((-2631594628236031922), 26), (3668623796465017936, 37), ((-4116977963984669612), 56), ((-65615980906398625), 126), (5581124541132324961, 138), ((-3167094588591478684), 18), ((-225364489807628188), 25), ((-9220953816864683420), 80), ((-3773416532097915289), 64), (2173033692285828204, 149), ((-529961195607084943), 20), (7818544905531141235, 91), (6667062479559094387, 131), (2644711513469350008, 85), (6337044420565092472, 137), (5740354900026072187, 0), (8085103924570565246, 50), ((-5522070991498139009), 132), (1975966787561848960, 33), (7565702734599779969, 7), (2595406321418454662, 122), ((-223721976081044344), 19), ((-1670915893718185847), 16), ((-2214556466854482805), 133), (4661049107736036493, 95), (4399814445026211984, 114), (2464722558807915159, 6), ((-6767578302827339111), 61), (6524453090925291170, 151), ((-3524122966336508765), 17), (3074356838947616933, 41), (8856949513703367846, 58), (8071258091814038693, 129), ((-157582821711065943), 60), ((-8358212933657251153), 119), ((-9215696767516180304), 43), (5090942153841141424, 46), ((-5316813789412351309), 29), ((-5502425232211235657), 31), (4717244650246774458, 100), (1751247026877337791, 150), (9130158990908055233, 27), ((-2497005344285338941), 108), (8763083089718918341, 82), ((-1837713001018981678), 134), (7088610649118931155, 1), (5958738581201442004, 62), (3000001194492540634, 21), (5747732033380497626, 42), (8329060600889234138, 47), (96940915022632155, 121), (4514900750298973412, 44), ((-6153599309198003484), 88), (4758621832037815526, 142), (9132909932825431784, 57), ((-9022728083068020504), 106), (2892507459290588395, 86), ((-1861449428545361677), 3), (4541373724867208953, 68), (7423469673659469057, 148), ((-6020305718022950653), 90), (4632588994054523145, 45), (8511904886075635986, 36), ((-8606284395506904812), 141), ((-1852969418156111083), 147), (4796185949729770262, 72), ((-5909774390565256426), 130), ((-8346757125560724707), 87), (1187558518014045474, 69), ((-8662062507048571613), 140), ((-3669536867275959004), 5), ((-1021627699059202269), 144), ((-121041641180038863), 15), (8497672543938566456, 71), ((-7414901095555214023), 118), (9220329537792332090, 128), (3923839512171773243, 49), (6898153942434059582, 112), ((-3498337166743957184), 99), ((-8530643575378971324), 30), (6312285206440940357, 67), ((-3766678298833662139), 83), ((-614460121605640371), 135), ((-3041184016767426738), 2), (8863036856996448079, 40), (2591754130268989780, 66), ((-2515640890993333250), 146), ((-2239157138869344425), 11), (5563735572879667547, 113), (4182307845481040220, 127), ((-6965834220416663714), 38), (5881437748712762718, 39), ((-1714272474929429152), 94), (1283153971074905443, 9), (8037681207424913771, 115), (575918250585304940, 117), ((-3201550569371387532), 28), ((-375089421256237707), 75), (4909432083056255865, 110), ((-5176236321545478790), 143), (1175838959018786189, 12), (4086779372432484240, 81), (5062879455842931607, 14), (7456781380281915802, 79), (14380586943500699, 123), ((-348949895301136484), 107), (1029106190998706599, 73), ((-4195221733102688342), 10), ((-8314244190261840464), 74), (5468190277141325233, 24), (4969188644619379121, 55), ((-4531521476433854523), 105), ((-8478611311774995001), 34), (4462619609552491980, 77), (1418576199198445005, 120), ((-3343111666030560306), 103), ((-5557312962575191600), 145), (6479892657790753750, 65), ((-1707286443562517526), 51), ((-7588914009143598611), 8), (4006467049006948847, 124), (2106226425735345649, 93), ((-9117239367346765324), 59), ((-2618655420641767945), 104), (3495859525528682488, 4), (4804552402709089787, 111), ((-7613157013144538626), 101)].toArray, ⟨511, [9, 11, 12, 14, 17, 18, 20, 21, 22, 23, 32, 34, 36, 45, 47, 48, 49, 51, 52, 55, 59, 62, 70, 71, 74, 78, 80, 84, 95, 97, 100, 101, 102, 103, 108, 113, 115, 116, 120, 121, 123, 126, 127, 128, 129, 134, 136, 137, 139, 141, 144, 151, 153, 162, 163, 165, 166, 167, 169, 175, 176, 177, 179, 183, 186, 191, 193, 195, 197, 210, 211, 212, 218, 219, 220, 221, 228, 229, 230, 232, 233, 235, 243, 249, 257, 259, 265, 274, 276, 277, 278, 279, 285, 290, 291, 292, 293, 305, 312, 313, 314, 315, 318, 320, 324, 325, 326, 333, 334, 335, 340, 342, 343, 347, 348, 350, 351, 352, 355, 363, 364, 372, 373, 377, 378, 397, 400, 407, 410, 411, 412, 423, 426, 432, 433, 434, 453, 455, 460, 461, 462, 464, 470, 490, 493, 495, 497, 500, 503, 504, 507, 510].toArray, #[], 0, b, 3, true⟩)
theorem runP18 (b : Bool) : runL (st18 b) ch18 = some (st19 b) := by cases b <;> decide +kernel
def ch19 : List (Int × Nat) := [((-2411525700789898613), 152), ((-9079061659337196510), 153), ((-2663232201152976008), 154), (3684182317393052908, 155), (3085041729562516406, 156), (2978601475226936511, 157), (1245068264122765930, 158), (2952051983149725208, 159)]
def st20 (b : Bool) : SimSt := ([(811739157333489673, 102), ((-5363880408475182069), 23), (2442416432205044748, 89), (934597903244020238, 32), (844566386860599313, 139), (8042655138916968978, 35), (4645512518956179988, 54), ((-5857883213883240427), 125), (419273411284489750, 22), (2309432829140145174, 78), (2952051983149725208, 159), ((-2849798138561140192), 53), (5880239405770589218, 136), ((-9079061659337196510), 153), (2309538863552544804, 116), (6208748014964034093, 109), (7510797305932129839, 70), ((-4790520744833835472), 48), ((-6208961400889594320), 98), ((-125378524031590861), 13), ((-460383999072005069), 76), (8226021063202295863, 97), ((-2425438129735130565), 92), (4795522635024457790, 63), (1651350748226756166, 52), (8151570415239574086, 84), (4019885341341329994, 96), ((-2631594628236031922), 26), (3668623796465017936, 37), ((-4116977963984669612), 56), ((-65615980906398625), 126), (5581124541132324961, 138), ((-3167094588591478684), 18), ((-225364489807628188), 25), ((-9220953816864683420), 80), ((-3773416532097915289), 64), (1245068264122765930, 158), (2173033692285828204, 149), ((-529961195607084943), 20), (7818544905531141235, 91), (6667062479559094387, 131), (2644711513469350008, 85), (6337044420565092472, 137), (5740354900026072187, 0), (8085103924570565246, 50), ((-5522070991498139009), 132), (1975966787561848960, 33), (7565702734599779969, 7), (2595406321418454662, 122), ((-223721976081044344), 19), ((-1670915893718185847), 16), ((-2214556466854482805), 133), ((-2411525700789898613), 152), (4661049107736036493, 95), (4399814445026211984, 114), (2464722558807915159, 6), ((-6767578302827339111), 61), (6524453090925291170, 151), ((-3524122966336508765), 17), (3074356838947616933, 41), (8856949513703367846, 58), (8071258091814038693, 129), ((-157582821711065943), 60), ((-8358212933657251153), 119), ((-9215696767516180304), 43), (5090942153841141424, 46), ((-5316813789412351309), 29), ((-5502425232211235657), 31), (4717244650246774458, 100), (1751247026877337791, 150), (2978601475226936511, 157), (9130158990908055233, 27), ((-2497005344285338941), 108), (8763083089718918341, 82), ((-1837713001018981678), 134), (7088610649118931155, 1), (5958738581201442004, 62), (3000001194492540634, 21), (5747732033380497626, 42), (8329060600889234138, 47), (96940915022632155, 121), (4514900750298973412, 44), ((-6153599309198003484), 88), (4758621832037815526, 142), (9132909932825431784, 57), ((-9022728083068020504), 106), (2892507459290588395, 86), (3684182317393052908, 155), ((-1861449428545361677), 3), (4541373724867208953, 68), (7423469673659469057, 148), ((-6020305718022950653), 90), (4632588994054523145, 45), (8511904886075635986, 36), ((-8606284395506904812), 141), ((-1852969418156111083), 147), (4796185949729770262, 72), ((-5909774390565256426), 130), ((-8346757125560724707), 87), (1187558518014045474, 69), ((-8662062507048571613), 140), ((-3669536867275959004), 5), ((-1021627699059202269), 144), ((-121041641180038863), 15), (8497672543938566456, 71), ((-7414901095555214023), 118), (9220329537792332090, 128), (3923839512171773243, 49), (6898153942434059582, 112), ((-3498337166743957184), 99), ((-8530643575378971324), 30), (6312285206440940357, 67), ((-3766678298833662139), 83), ((-614460121605640371), 135), ((-3041184016767426738), 2), (8863036856996448079, 40), (2591754130268989780, 66), ((-2515640890993333250), 146), ((-2239157138869344425), 11), (5563735572879667547, 113), (4182307845481040220, 127), ((-6965834220416663714), 38), (5881437748712762718, 39), ((-1714272474929429152), 94), (1283153971074905443, 9), (8037681207424913771, 115), (575918250585304940, 117), ((-3201550569371387532), 28), ((-375089421256237707), 75), ((-2663232201152976008), 154), (4909432083056255865, 110), ((-5176236321545478790), 143), (1175838959018786189, 12), (4086779372432484240, 81), (5062879455842931607, 14), (7456781380281915802, 79), (14380586943500699, 123), ((-348949895301136484), 107), (1029106190998706599, 73), ((-4195221733102688342), 10), ((-8314244190261840464), 74), (5468190277141325233, 24), (4969188644619379121, 55), (3085041729562516406, 156), ((-4531521476433854523), 105), ((-8478611311774995001), 34), (4462619609552491980, 77), (1418576199198445005, 120), ((-3343111666030560306), 103), ((-5557312962575191600), 145), (6479892657790753750, 65), ((-1707286443562517526), 51), ((-7588914009143598611), 8), (4006467049006948847, 124), (2106226425735345649, 93), ((-9117239367346765324), 59), ((-2618655420641767945), 104), (3495859525528682488, 4), (4804552402709089787, 111), ((-7613157013144538626), 101)].toArray, ⟨511, [9, 11, 12, 14, 17, 18, 20, 21, 22, 23, 24, 32, 34, 35, 36, 45, 47, 48, 49, 51, 52, 55, 59, 62, 70, 71, 74, 78, 80, 84, 95, 97, 100, 101, 102, 103, 106, 108, 113, 115, 116, 120, 121, 123, 126, 127, 128, 129, 134, 136, 137, 139, 140, 141, 144, 151, 153, 162, 163, 165, 166, 167, 169, 175, 176, 177, 179, 183, 186, 191, 192, 193, 195, 197, 210, 211, 212, 218, 219, 220, 221, 228, 229, 230, 232, 233, 235, 236, 243, 249, 257, 259, 265, 274, 276, 277, 278, 279, 285, 290, 291, 292, 293, 305, 312, 313, 314, 315, 318, 320, 324, 325, 326, 333, 334, 335, 340, 342, 343, 347, 348, 350, 351, 352, 355, 363, 364, 372, 373, 376, 377, 378, 397, 400, 407, 410, 411, 412, 423, 426, 432, 433, 434, 438, 453, 455, 460, 461, 462, 464, 470, 490, 493, 495, 497, 500, 503, 504, 507, 510].toArray, #[], 0, b, 3, true⟩)
theorem runP19 (b : Bool) : runL (st19 b) ch19 = some (st20 b) := by cases b <;> decide +kernel
def ch20 : List (Int × Nat) := [(2785021695526002088, 160), (5946213753879149030, 161), (9189300932546944701, 162), (1968173562714079468, 163), (3617361399624564922, 164), ((-5931013814083960012), 165), (7955841909046652206, 166), ((-5118505543828476338), 167)]
def st21 (b : Bool) : SimSt := ([(811739157333489673, 102), ((-5363880408475182069), 23), (2442416432205044748, 89), (934597903244020238, 32), (844566386860599313, 139), (8042655138916968978, 35), (4645512518956179988, 54), ((-5857883213883240427), 125), (419273411284489750, 22), (2309432829140145174, 78), (2952051983149725208, 159), ((-2849798138561140192), 53), (5880239405770589218, 136), ((-9079061659337196510), 153), (2309538863552544804, 116), (6208748014964034093, 109), (7510797305932129839, 70), ((-4790520744833835472), 48), ((-6208961400889594320), 98), ((-125378524031590861), 13), ((-460383999072005069), 76), (8226021063202295863, 97), ((-2425438129735130565), 92), (4795522635024457790, 63), (1651350748226756166, 52), (8151570415239574086, 84), (4019885341341329994, 96), ((-2631594628236031922), 26), ((-5118505543828476338), 167), (3668623796465017936, 37), ((-4116977963984669612), 56), ((-65615980906398625), 126), (5581124541132324961, 138), ((-3167094588591478684), 18), ((-225364489807628188), 25), ((-9220953816864683420), 80), ((-3773416532097915289), 64), (1245068264122765930, 158), (2173033692285828204, 149), ((-529961195607084943), 20), (7818544905531141235, 91), (6667062479559094387, 131), (2644711513469350008, 85), (6337044420565092472, 137), (5740354900026072187, 0), (8085103924570565246, 50), ((-5522070991498139009), 132), (1975966787561848960, 33), (7565702734599779969, 7), (2595406321418454662, 122), ((-223721976081044344), 19), ((-1670915893718185847), 16), ((-2214556466854482805), 133), ((-2411525700789898613), 152), (4661049107736036493, 95), (4399814445026211984, 114), (2464722558807915159, 6), ((-6767578302827339111), 61), (6524453090925291170, 151), ((-3524122966336508765), 17), (3074356838947616933, 41), (8856949513703367846, 58), (8071258091814038693, 129), ((-157582821711065943), 60), ((-8358212933657251153), 119), ((-9215696767516180304), 43), (5090942153841141424, 46), ((-5316813789412351309), 29), ((-5502425232211235657), 31), (4717244650246774458, 100), (3617361399624564922, 164), (9189300932546944701, 162), (1751247026877337791, 150), (2978601475226936511, 157), (9130158990908055233, 27), ((-2497005344285338941), 108), (8763083089718918341, 82), ((-1837713001018981678), 134), (7088610649118931155, 1), (5958738581201442004, 62), (3000001194492540634, 21), (5747732033380497626, 42), (8329060600889234138, 47), (96940915022632155, 121), (4514900750298973412, 44), ((-6153599309198003484), 88), (4758621832037815526, 142), (9132909932825431784, 57), ((-9022728083068020504), 106), (2892507459290588395, 86), (3684182317393052908, 155), (1968173562714079468, 163), ((-1861449428545361677), 3), (4541373724867208953, 68), (7423469673659469057, 148), ((-6020305718022950653), 90), (4632588994054523145, 45), (8511904886075635986, 36), ((-8606284395506904812), 141), ((-1852969418156111083), 147), (4796185949729770262, 72), ((-5909774390565256426), 130), ((-8346757125560724707), 87), (1187558518014045474, 69), ((-8662062507048571613), 140), ((-3669536867275959004), 5), ((-1021627699059202269), 144), (7955841909046652206, 166), ((-121041641180038863), 15), ((-5931013814083960012), 165), (8497672543938566456, 71), ((-7414901095555214023), 118), (9220329537792332090, 128), (3923839512171773243, 49), (6898153942434059582, 112), ((-3498337166743957184), 99), ((-8530643575378971324), 30), (6312285206440940357, 67), ((-3766678298833662139), 83), ((-614460121605640371), 135), ((-3041184016767426738), 2), (8863036856996448079, 40), (2591754130268989780, 66), ((-2515640890993333250), 146), ((-2239157138869344425), 11), (5563735572879667547, 113), (4182307845481040220, 127), ((-6965834220416663714), 38), (5881437748712762718, 39), ((-1714272474929429152), 94), (1283153971074905443, 9), (8037681207424913771, 115), (575918250585304940, 117), ((-3201550569371387532), 28), ((-375089421256237707), 75), ((-2663232201152976008), 154), (4909432083056255865, 110), ((-5176236321545478790), 143), (1175838959018786189, 12), (4086779372432484240, 81), (5062879455842931607, 14), (7456781380281915802, 79), (14380586943500699, 123), ((-348949895301136484), 107), (1029106190998706599, 73), (2785021695526002088, 160), ((-4195221733102688342), 10), ((-8314244190261840464), 74), (5468190277141325233, 24), (4969188644619379121, 55), (3085041729562516406, 156), ((-4531521476433854523), 105), ((-8478611311774995001), 34), (4462619609552491980, 77), (1418576199198445005, 120), ((-3343111666030560306), 103), ((-5557312962575191600), 145), (6479892657790753750, 65), (5946213753879149030, 161), ((-1707286443562517526), 51), ((-7588914009143598611), 8), (4006467049006948847, 124), (2106226425735345649, 93), ((-9117239367346765324), 59), ((-2618655420641767945), 104), (3495859525528682488, 4), (4804552402709089787, 111), ((-7613157013144538626), 101)].toArray, ⟨511, [9, 11, 12, 14, 17, 18, 20, 21, 22, 23, 24, 32, 34, 35, 36, 45, 47, 48, 49, 51, 52, 55, 59, 62, 70, 71, 74, 78, 79, 80, 84, 95, 97, 100, 101, 102, 103, 106, 108, 113, 115, 116, 120, 121, 123, 126, 127, 128, 129, 134, 136, 137, 139, 140, 141, 144, 151, 153, 162, 163, 165, 166, 167, 169, 175, 176, 177, 179, 183, 186, 187, 189, 191, 192, 193, 195, 197, 210, 211, 212, 218, 219, 220, 221, 228, 229, 230, 232, 233, 235, 236, 237, 243, 249, 257, 259, 265, 274, 276, 277, 278, 279, 285, 290, 291, 292, 293, 302, 305, 308, 312, 313, 314, 315, 318, 320, 324, 325, 326, 333, 334, 335, 340, 342, 343, 347, 348, 350, 351, 352, 355, 363, 364, 372, 373, 376, 377, 378, 397, 400, 407, 410, 411, 412, 423, 424, 426, 432, 433, 434, 438, 453, 455, 460, 461, 462, 464, 470, 486, 490, 493, 495, 497, 500, 503, 504, 507, 510].toArray, #[], 0, b, 3, true⟩)
theorem runP20 (b : Bool) : runL (st20 b) ch20 = some (st21 b) := by cases b <;> decide +kernel
end K75S
set_option Elab.async false
set_option linter.all false
set_option maxRecDepth 100000
set_option maxHeartbeats 4000000
/-! KS3: sorted(set(told)) of the 168 families. -/
namespace K75S
open PySem PySem.Spec L2 G K75
open PySem.W (Datum DatumOrd Tup)
theorem hs_eq : hs168 = hashes := by decide +kernel
theorem zip_eq : hashes.zipIdx = ch0 ++ (ch1 ++ (ch2 ++ (ch3 ++ (ch4 ++ (ch5 ++ (ch6 ++ (ch7 ++ (ch8 ++ (ch9 ++ (ch10 ++ (ch11 ++ (ch12 ++ (ch13 ++ (ch14 ++ (ch15 ++ (ch16 ++ (ch17 ++ (ch18 ++ (ch19 ++ (ch20)))))))))))))))))))) := by decide +kernel
theorem part {st st' : SimSt} {xs ys : List (Int × Nat)} (h : runL st xs = some st') : simRun st (xs ++ ys) = simRun st' ys := by
  rw [simRun_app, runL_eq, h]
  rfl
theorem run_all (b : Bool) : simRun (st0 b) hashes.zipIdx = some (st21 b) := by
  rw [zip_eq]
  rw [part (runP0 b)]
  rw [part (runP1 b)]
  rw [part (runP2 b)]
  rw [part (runP3 b)]
  rw [part (runP4 b)]
  rw [part (runP5 b)]
  rw [part (runP6 b)]
  rw [part (runP7 b)]
  rw [part (runP8 b)]
  rw [part (runP9 b)]
  rw [part (runP10 b)]
  rw [part (runP11 b)]
  rw [part (runP12 b)]
  rw [part (runP13 b)]
  rw [part (runP14 b)]
  rw [part (runP15 b)]
  rw [part (runP16 b)]
  rw [part (runP17 b)]
  rw [part (runP18 b)]
  rw [part (runP19 b)]
  rw [runL_eq]
  exact runP20 b
theorem fin_fits (b : Bool) : (st21 b).2.fits (st21 b).1.size = true := by cases b <;> decide +kernel
theorem fin_size (b : Bool) : (st21 b).1.size = 168 := by cases b <;> decide +kernel
theorem fin_ris (b : Bool) : (st21 b).2.place.toList.Pairwise (· < ·) := by cases b <;> decide +kernel
theorem fin_perm (b : Bool) : ((st21 b).1.toList.map (·.2)).Perm (List.range 168) := by cases b <;> decide +kernel
theorem nodup_hs : hashes.Nodup := by decide +kernel
theorem fin_end (w : World) : SimEnd w 168 (st21 (!w.params.followText "set-order")) where
  fits := fin_fits _
  size := fin_size _
  few := by decide
  ris := fin_ris _
  led := by
    cases h : w.params.followText "set-order" with
    | true => exact .inl rfl
    | false => exact .inr rfl
  perm := fin_perm _
/-- a family as a key -/
def kLot (l : Lot) : NestedKey := .tup (l.items.map .num)
def kFam (f : Tup Lot) : NestedKey := .tup (f.items.map kLot)
theorem nk_lot (l : Lot) : nk (toD l) = some (kLot l) := by
  have : ∀ xs : List Int, nkAll (xs.map toD) = some (xs.map .num) := by
    intro xs
    induction xs with
    | nil => simp only [List.map_nil, nkAll]
    | cons x xs ih =>
      rw [List.map_cons, List.map_cons]
      show nkAll (PyData.int x :: _) = _
      simp only [nkAll, nk, ih]
  show nk (.tuple (l.items.map toD)) = _
  simp only [nk, this]
  rfl
theorem nkAll_of {α : Type} [DecidableEq α] [Datum α] {f : α → NestedKey} (h : ∀ x, nk (toD x) = some (f x)) : ∀ xs : List α, nkAll (xs.map toD) = some (xs.map f)
  | [] => by simp only [List.map_nil, nkAll]
  | x :: xs => by
    rw [List.map_cons, List.map_cons]
    simp only [nkAll, h, nkAll_of h xs]
theorem nk_fam (f : Tup Lot) : nk (toD f) = some (kFam f) := by
  show nk (.tuple (f.items.map toD)) = _
  simp only [nk, nkAll_of nk_lot]
  rfl
theorem hashes_map (w : World) {α : Type} {f : α → NestedKey} {g : α → Int} (h : ∀ x, (f x).hash w = g x) : ∀ xs : List α, NestedKey.hashes w (xs.map f) = xs.map g
  | [] => by simp only [List.map_nil, NestedKey.hashes]
  | x :: xs => by
    rw [List.map_cons, List.map_cons]
    simp only [NestedKey.hashes, h, hashes_map w h xs]
theorem hash_lot (w : World) (l : Lot) : (kLot l).hash w = hLot l := by
  unfold kLot hLot
  rw [NestedKey.hash, hashes_map w (g := hashInt) (fun i => by rw [NestedKey.hash])]
theorem hash_fam (w : World) (f : Tup Lot) : (kFam f).hash w = hFam f := by
  unfold kFam hFam
  rw [NestedKey.hash, hashes_map w (hash_lot w)]
theorem num_lot (l : Lot) : NumKey (kLot l) := .tup fun k hk => by
  obtain ⟨i, _, rfl⟩ := List.mem_map.mp hk
  exact .num i
theorem num_fam (f : Tup Lot) : NumKey (kFam f) := .tup fun k hk => by
  obtain ⟨l, _, rfl⟩ := List.mem_map.mp hk
  exact num_lot l
theorem depthAll_le {n : Nat} : ∀ {ks : List NestedKey}, (∀ k ∈ ks, k.depth ≤ n) → NestedKey.depthAll ks ≤ n
  | [], _ => by rw [NestedKey.depthAll]; exact Nat.zero_le _
  | k :: ks, h => by
    rw [NestedKey.depthAll]
    exact Nat.max_le.mpr ⟨h k (List.mem_cons_self ..), depthAll_le fun k hk => h k (List.mem_cons_of_mem _ hk)⟩
theorem depth_lot (l : Lot) : (kLot l).depth ≤ 1 := by
  unfold kLot
  rw [NestedKey.depth]
  have := depthAll_le (n := 0) (ks := l.items.map NestedKey.num) fun k hk => by
    obtain ⟨i, _, rfl⟩ := List.mem_map.mp hk
    rw [NestedKey.depth]
    exact Nat.le_refl _
  omega
theorem depth_fam (f : Tup Lot) : (kFam f).depth ≤ 8 := by
  unfold kFam
  rw [NestedKey.depth]
  have := depthAll_le (n := 1) (ks := f.items.map kLot) fun k hk => by
    obtain ⟨l, _, rfl⟩ := List.mem_map.mp hk
    exact depth_lot l
  omega
theorem items_eq : (m_rising_families 4).items = famsK 4 := by rw [famsK_eq]
theorem fams_nodup : (famsK 4).Nodup := by
  have h : (hs168).Nodup := by rw [hs_eq]; exact nodup_hs
  exact List.Pairwise.of_map hFam (fun _ _ hne e => hne (congrArg hFam e)) h
theorem fams_len : (m_rising_families 4).items.length = 168 := by
  rw [items_eq, ← List.length_map (f := hFam)]
  show hs168.length = 168
  rw [hs_eq]
  decide +kernel
theorem fams_strict : (m_rising_families 4).items.Pairwise Lss := by
  rw [items_eq]
  exact strict_of fams_nodup (isrt_sorted _)
theorem tf_sset {X : Cx} {a : Expr} {δ δ1 : Dl} {pos p' p2 p3 : Pos} (ha : TE X a δ (m_rising_families 4) δ1) (hu : X.A.units + 70 < cLine) (hc : X.calm = true) (hm : X.mg "sorted" = none) (hm2 : X.mg "set" = none) (hg : Gl X "sorted" := by rfl) (hg2 : Gl X "set" := by rfl) (he : starEach [a] X.env = (false, eval a X.env) :: starEach [] X.env := by rfl)
    (he2 : starEach [Expr.Call (.Name "set" p2) [a] [] p3] X.env = (false, eval (Expr.Call (.Name "set" p2) [a] [] p3) X.env) :: starEach [] X.env := by rfl) : TF X (.Call (.Name "sorted" p') [.Call (.Name "set" p2) [a] [] p3] [] pos) δ (m_rising_families 4).items δ1 := by
  have hh : ((((m_rising_families 4).items.map kFam).map fun k => k.hash X.w).zipIdx) = hashes.zipIdx := by
    rw [List.map_map, ← hs_eq, items_eq]
    unfold hs168
    exact congrArg List.zipIdx (List.map_congr_left fun f _ => hash_fam X.w f)
  refine tf_sortSet ha hc hu (ks := (m_rising_families 4).items.map kFam) (st := st21 (!X.w.params.followText "set-order")) (fun x _ => ⟨_, rfl⟩) (nkAll_of nk_fam _) (fun k hk => ?_) ?_ ?_ fams_strict hm hm2 (by decide) hg hg2 he he2
  · obtain ⟨f, _, rfl⟩ := List.mem_map.mp hk
    exact ⟨num_fam f, depth_fam f⟩
  · rw [hh]
    exact run_all _
  · rw [fams_len]
    exact fin_end _
end K75S
set_option Elab.async false
set_option linter.all false
set_option maxRecDepth 100000
set_option maxHeartbeats 4000000
namespace K75
open PySem PySem.Spec L2 G
open PySem.W (Datum DatumOrd Tup)
theorem tf_sset {X : Cx} {a : Expr} {δ δ1 : Dl} {pos p' p2 p3 : Pos} (ha : TE X a δ (m_rising_families 4) δ1) (hu : X.A.units + 70 < cLine) (hc : X.calm = true) (hm : X.mg "sorted" = none) (hm2 : X.mg "set" = none) (hg : Gl X "sorted" := by rfl) (hg2 : Gl X "set" := by rfl) (he : starEach [a] X.env = (false, eval a X.env) :: starEach [] X.env := by rfl)
    (he2 : starEach [Expr.Call (.Name "set" p2) [a] [] p3] X.env = (false, eval (Expr.Call (.Name "set" p2) [a] [] p3) X.env) :: starEach [] X.env := by rfl) : TF X (.Call (.Name "sorted" p') [.Call (.Name "set" p2) [a] [] p3] [] pos) δ (m_rising_families 4).items δ1 := K75S.tf_sset ha hu hc hm hm2 hg hg2 he he2
end K75
set_option Elab.async false
set_option linter.all false
set_option maxRecDepth 100000
set_option maxHeartbeats 4000000
namespace K75
open PySem PySem.Spec L2 G
open PySem.W (Datum DatumOrd Tup)
def F1a : Tup Lot := Tup.mk [Tup.mk [0, 1]]
def F1b : Tup Lot := Tup.mk [Tup.mk [0]]
def F1c : Tup Lot := Tup.mk [Tup.mk [0], Tup.mk [0, 1], Tup.mk [1, 2]]
def F1d : Tup Lot := Tup.mk [Tup.mk [1]]
def everyL (many : Int) : List (Tup Lot) := ((lotsOf (m__law_all many)).filter fun fam => decide (m__law_risen many fam = fam)).map fun fam => fam
def quietL (many : Int) : List (Tup Lot) := ((lotsOf (m__law_all many)).filter fun fam => m_is_quiet_family many fam).map fun fam => fam
structure Facts : Prop where
  a1 : m_is_rising 2 F1a = true
  a2 : m_is_rising 2 F1b = false
  a3 : m_least_lots 3 F1c = Tup.mk [Tup.mk [0], Tup.mk [1, 2]]
  a4 : m_risen_family 2 F1d = Tup.mk [Tup.mk [0, 1], Tup.mk [1]]
  a5 : m_rising_families 1 = Tup.mk [Tup.mk [], Tup.mk [Tup.mk [], Tup.mk [0]], Tup.mk [Tup.mk [0]]]
  p1 : FamPre 2 F1a
  p2 : FamPre 2 F1b
  p3 : FamPre 3 F1c
  p4 : FamPre 2 F1d
  g1 : (m_rising_families 4).items.length = 168
  g3 : ∀ fam ∈ (m_rising_families 4).items, FamPre 4 fam ∧ m_is_rising 4 fam = true
  h : (rangeI 0 5).map m_count_rising_families = [2, 3, 6, 20, 168]
  k1 : ∀ many : Int, 0 ≤ many ∧ many < 4 → m_rising_families many = Tup.mk (srt (everyL many)) ∧ m_count_rising_families many = (everyL many).length ∧ (quietL many).length = (everyL many).length
theorem lots_sub {α : Type} : ∀ (xs : List α) (st : List (Tup α)) (ys : List α), (∀ l ∈ st, l.items.Sublist ys) → ∀ l ∈ xs.foldl (fun found x => found ++ found.map fun l => Tup.mk (l.items ++ [x])) st, l.items.Sublist (ys ++ xs)
  | [], st, ys, h, l, hl => by rw [List.append_nil]; exact h l hl
  | x :: xs, st, ys, h, l, hl => by
    have := lots_sub xs (st ++ st.map fun l => Tup.mk (l.items ++ [x])) (ys ++ [x]) (fun l hl => by
      rcases List.mem_append.mp hl with h1 | h1
      · exact (h l h1).trans (List.sublist_append_left ..)
      · obtain ⟨l', h2, rfl⟩ := List.mem_map.mp h1
        exact (h l' h2).append (List.Sublist.refl [x])) l hl
    rw [List.append_assoc] at this
    exact this
theorem lots_okF {many : Int} (hm : 0 ≤ many) {fam : Tup Lot} (h : fam ∈ lotsOf (m__law_all many)) : okF many fam := by
  have := lots_sub (m__law_all many) [Tup.mk []] [] (fun l hl => by rw [List.mem_singleton.mp hl]; exact List.Sublist.refl _) fam h
  exact okF_sub hm this
theorem all_len {many : Int} (hm : 0 ≤ many ∧ many < 4) : (m__law_all many).length ≤ 16 := by
  obtain ⟨h, _⟩ := foldl_lots (fun st x => st ++ st.map fun l => Tup.mk (l.items ++ [x])) (fun _ _ => rfl) (rangeI 0 many.toNat) [Tup.mk ([] : List Int)] 0 (fun l hl => by rw [List.mem_singleton.mp hl]; exact Nat.le_refl _)
  show (srt (lotsOf (rangeI 0 many.toNat))).length ≤ 16
  rw [srt_len]
  unfold lotsOf
  rw [h, rangeI_len, List.length_singleton, Nat.one_mul]
  exact Nat.pow_le_pow_right (by decide) (show many.toNat ≤ 4 by omega)
section
variable {P : Program} {w : World} {K : PySem.W.Frag} {mg : Str → Option Value} {base : Heap} {f : Addr} {fd : FuncData}
abbrev lawN : List Str := ["script", "cup", "told", "family", "many", "share", "size", "both", "lot", "every", "quiet"]
abbrev lX (P : Program) (w : World) (K : PySem.W.Frag) (mg : Str → Option Value) (base : Heap) (f : Addr) (cdv : Value) (A : Around) (outer : List PySem.Env) (s : Shared) (H : Hp) (E : XK) : Cx := bX P w K mg base lawN "law" (topS 45) f cdv A outer s H E
/-- the law's rest, from its i-th statement on -/
def rest (i : Nat) : List Stmt := (defBody (topS 45)).drop i
structure Calls (P : Program) (w : World) (K : PySem.W.Frag) (mg : Str → Option Value) (base : Heap) : Prop where
  roll : T_roll P w K mg base
  fam : T_family P w K mg base
  right : T_right P w K mg base
  like : T_like 4 P w K mg base
  ir : T_is_rising_family P w K mg base
  ll : T_least_lots P w K mg base
  rf : T_risen_family P w K mg base
  rfs : T_rising_families P w K mg base
  cnt : T_count_rising_families P w K mg base
  all : T__law_all P w K mg base
  lots2 : T_lots Lot P w K mg base
  risen : T__law_risen P w K mg base
  quiet : T_is_quiet_family P w K mg base
theorem depth_fams (x : Tup (Tup Lot)) : (toD x).depth ≤ 3 := Datum.depth_le x
variable {cdv : Value} {A : Around} {outer : List PySem.Env} {s : Shared} {H : Hp} {E : XK}
/-- from many = _law_roll(cup, 4) on -/
theorem law4 (B : Bi mg) (C : Calls P w K mg base) (Fa : Facts) (hr : Room 9 (bA "law" (topS 45) f cdv A s)) {u : Cup} (hu : CupOk u) : RT (lX P w K mg base f cdv A outer s H E) (rest 10) [none, some (.o false (cupL u)), none, none, none, none, none, none, none, none, none] (toD true) := by
  have hN : lawN.Nodup := by decide +kernel
  have hu0 : (bA "law" (topS 45) f cdv A s).units + 70 < cLine := by have := hr.un; omega
  have h1 := rollV_ge u (many := 4) (by decide)
  have h2 := rollV_lt u (many := 4) (by decide)
  refine rt_cons (ts_set 4 hN (te_roll 1 C.roll hr (by decide) rfl te_int hu (by decide) (by decide))) ?_
  generalize rollV u 4 = many at *
  generalize rollC u 4 = u2 at *
  obtain ⟨k1, k2, k3⟩ := Fa.k1 many ⟨h1, h2⟩
  refine rt_cons (ts_lc1if (src := lotsOf (m__law_all many)) 9 (fun fam => decide (m__law_risen many fam = fam)) (fun fam => fam) 3 rfl hN (ti_list (te_call1 C.lots2 hr (by decide) (te_new (tf_call1 C.all hr (by decide) (te_var 4) (by exact ⟨h1, by omega⟩))) (by exact all_len ⟨h1, h2⟩))) (blkOk_by (by kernel_rfl)) (fun _ _ _ _ _ _ _ => dg_name 3 hN)
    (fun fam _ _ _ _ _ _ => tt_eq hu0 (te_call2 C.risen hr (by decide) (te_var 4) (te_var 3) (by exact ⟨h1, by omega⟩)) (te_var 3)) (fun _ _ _ _ _ _ _ _ => te_var 3)) ?_
  refine rt_ifD (p := false) (δ1 := [none, some (.o false (cupL u2)), none, none, sD many, none, none, none, none, sD (everyL many), none]) (tt_eqv (dt_not (tt_val (te_like (y := .list [toD (Tup.mk (srt (everyL many))), toD ((everyL many).length : Int)]) (x := .list [toD (m_rising_families many), toD (m_count_rising_families many)]) C.like hr (by decide)
    (de_new (df_lst (da_cons (te_call1 C.rfs hr (by decide) (te_var 4) (by exact whole_iff.mpr ⟨h1, by omega⟩)) (da_cons (te_call1 C.cnt hr (by decide) (te_var 4) (by exact whole_iff.mpr ⟨h1, by omega⟩)) da_nil)) (show 2 ≤ sizeLine by decide)))
    (de_new (df_lst (da_cons (te_tupN (tf_sortL (xs := everyL many) hu0 (te_var 9) B.sorted) B.tuple) (da_cons (te_lenL (xs := everyL many) (te_var 9) B.len) da_nil)) (show 2 ≤ sizeLine by decide))) (by rw [k1, k2]) ?_ ?_ (by decide)))) rfl) (fun z => nomatch z) (fun _ => rtb_nil ?_)
  · simp only [PyData.plain, PyData.plainAll, plain_d, Bool.and_self]
  · have h1 := depth_fams (m_rising_families many)
    have h2 : (toD (m_count_rising_families many)).depth = 0 := rfl
    simp only [PyData.depth, PyData.depthAll, h2]
    omega
  refine rt_cons (ts_lc1if (src := lotsOf (m__law_all many)) 10 (fun fam => m_is_quiet_family many fam) (fun fam => fam) 3 rfl hN (ti_list (te_call1 C.lots2 hr (by decide) (te_new (tf_call1 C.all hr (by decide) (te_var 4) (by exact ⟨h1, by omega⟩))) (by exact all_len ⟨h1, h2⟩))) (blkOk_by (by kernel_rfl)) (fun _ _ _ _ _ _ _ => dg_name 3 hN)
    (fun fam hf _ _ _ _ _ => tt_val (te_call2 C.quiet hr (by decide) (te_var 4) (te_var 3) (by exact (okF_pre ⟨h1, by omega⟩ (lots_okF h1 hf)).1))) (fun _ _ _ _ _ _ _ _ => te_var 3)) ?_
  exact rt_ifD (p := false) (δ1 := [none, some (.o false (cupL u2)), none, none, sD many, none, none, none, none, sD (everyL many), sD (quietL many)]) (tt_eqv (tt_ne hu0 (te_lenL (xs := quietL many) (te_var 10) B.len) (te_lenL (xs := everyL many) (te_var 9) B.len)) (by rw [k3]; simp)) (fun z => nomatch z) (fun _ => rtb_nil (rt_ret te_bool))
end
end K75
set_option Elab.async false
set_option linter.all false
set_option maxRecDepth 100000
set_option maxHeartbeats 4000000
namespace K75
open PySem PySem.Spec L2 G
open PySem.W (Datum DatumOrd Tup)
section
variable {P : Program} {w : World} {K : PySem.W.Frag} {mg : Str → Option Value} {base : Heap} {f : Addr} {fd : FuncData}
variable {cdv : Value} {A : Around} {outer : List PySem.Env} {s : Shared} {H : Hp} {E : XK}
/-- from the numbers of the great family on -/
theorem law3 (B : Bi mg) (C : Calls P w K mg base) (Fa : Facts) (hr : Room 9 (bA "law" (topS 45) f cdv A s)) {u : Cup} (hu : CupOk u) : RT (lX P w K mg base f cdv A outer s H E) (rest 7) [none, some (.o false (cupL u)), none, none, none, none, none, none, none, none, none] (toD true) := by
  have hN : lawN.Nodup := by decide +kernel
  have hu0 : (bA "law" (topS 45) f cdv A s).units + 70 < cLine := by have := hr.un; omega
  have a1 := rollV_ge u (many := 2) (by decide)
  have a2 := rollV_lt u (many := 2) (by decide)
  have b1 := rollV_ge (rollC u 2) (many := 4) (by decide)
  have b2 := rollV_lt (rollC u 2) (many := 4) (by decide)
  refine rt_cons (ds_asgG (d := toD (6 + rollV u 2, 1 + rollV (rollC u 2) 4)) (δ1 := [none, some (.o false (cupL (rollC (rollC u 2) 4))), none, none, none, none, none, none, none, none, none]) (te_pair (te_add te_int (te_roll 1 C.roll hr (by decide) rfl te_int hu (by decide) (by decide))) (te_add te_int (te_roll 1 C.roll hr (by decide) rfl te_int (rollC_ok hu 2) (by decide) (by decide)))) (dg_two 4 6 rfl hN)) ?_
  have hu2 := rollC_ok (rollC_ok hu 2) 4
  generalize rollC (rollC u 2) 4 = u2 at *
  have hm : 0 ≤ 6 + rollV u 2 ∧ 6 + rollV u 2 ≤ 8 := by omega
  generalize 6 + rollV u 2 = many at *
  generalize 1 + rollV (rollC u 2) 4 = size at *
  refine rt_cons (ts_set (x := Tup.mk (((m__law_all many).filter fun lot => decide ((lot.items.length : Int) ∈ ([size, size + 2] : List Int))).map fun lot => lot)) 7 hN (te_tupN (t_lc1if (fun lot : Lot => decide ((lot.items.length : Int) ∈ ([size, size + 2] : List Int))) (fun lot => lot) 8 rfl hN (ti_new (tf_call1 C.all hr (by decide) (te_var 4) (by exact hm))) (blkOk_by (by kernel_rfl)) (fun _ _ _ _ _ _ _ => dg_name 8 hN)
    (fun lot _ _ _ _ _ _ => tt_inT (t := Tup.mk [size, size + 2]) hu0 (te_lenT (te_var 8) B.len) (te_tupD [size, size + 2] (da_cons (te_var 6) (da_cons (te_add (te_var 6) te_int) da_nil)) (show 2 ≤ 100 by decide))) (fun _ _ _ _ _ _ _ _ => te_var 8)) B.tuple)) ?_
  have okb : okF many (Tup.mk (((m__law_all many).filter fun lot => decide ((lot.items.length : Int) ∈ ([size, size + 2] : List Int))).map fun lot => lot)) := by
    rw [map_same]
    exact okF_sub hm.1 List.filter_sublist
  generalize (Tup.mk (((m__law_all many).filter fun lot => decide ((lot.items.length : Int) ∈ ([size, size + 2] : List Int))).map fun lot => lot)) = both at *
  have go : ∀ u3, CupOk u3 → RT (lX P w K mg base f cdv A outer s H E) (rest 10) [none, some (.o false (cupL u3)), none, none, sD many, none, sD size, sD both, none, none, none] (toD true) := fun u3 h3 => rt_from (law4 B C Fa hr h3) (le_of [false, false, false, false, true, false, true, true] rfl)
  by_cases q : rollV u2 3 = 0
  · let u3 := rollC u2 3
    have h3 : CupOk u3 := rollC_ok hu2 3
    let f1 := Tup.mk (drawF u3 (m__law_all many) 2)
    let u4 := rightC (drawC u3 (m__law_all many) 2) many f1
    have h4 : CupOk u4 := rightC_ok (drawC_ok h3 _ _) _ _
    let u5 := rightC u4 many both
    have h5 : CupOk u5 := rightC_ok h4 _ _
    refine rt_ifD (p := decide (rollV u2 3 = 0) && (!true || !true)) (δ1 := [none, some (.o false (cupL u5)), none, none, sD many, none, sD size, sD both, none, none, none])
      (tt_and2 (δ1 := [none, some (.o false (cupL u3)), none, none, sD many, none, sD size, sD both, none, none, none]) (tt_eq hu0 (te_roll 1 C.roll hr (by decide) rfl te_int hu2 (by decide) (by decide)) te_int) (fun _ => tt_or2 (δ1 := [none, some (.o false (cupL u4)), none, none, sD many, none, sD size, sD both, none, none, none])
        (dt_not (tt_val (te_right (u := drawC u3 (m__law_all many) 2) (fam := f1) 1 C.right hr (by decide) ⟨_, _, rfl⟩ (te_var 4) (te_draw (u := u3) 1 C.fam hr (by decide) rfl (te_var 4) te_int h3 (by exact ⟨hm, by decide, by decide⟩)) rfl (drawC_ok h3 _ _) (right_pre hm (draw_ok hm _ _)))))
        (fun _ => dt_not (tt_val (te_right (u := u4) (fam := both) 1 C.right hr (by decide) ⟨_, _, rfl⟩ (te_var 4) (te_var 7) rfl h4 (right_pre hm okb)))) (fun z => nomatch z)) (fun z => absurd (decide_eq_true q) (by rw [z]; decide))) (fun z => by simp at z) (fun _ => rtb_nil (go u5 h5))
  · refine rt_ifD (p := decide (rollV u2 3 = 0) && false) (δ1 := [none, some (.o false (cupL (rollC u2 3))), none, none, sD many, none, sD size, sD both, none, none, none])
      (tt_and2 (tt_eq hu0 (te_roll 1 C.roll hr (by decide) rfl te_int hu2 (by decide) (by decide)) te_int) (fun z => absurd (of_decide_eq_true z) q) (fun _ => rfl)) (fun z => by simp at z) (fun _ => rtb_nil (go _ (rollC_ok hu2 3)))
end
end K75
set_option Elab.async false
set_option linter.all false
set_option maxRecDepth 100000
set_option maxHeartbeats 4000000
namespace K75
open PySem PySem.Spec L2 G
open PySem.W (Datum DatumOrd Tup)
section
variable {P : Program} {w : World} {K : PySem.W.Frag} {mg : Str → Option Value} {base : Heap} {f : Addr} {fd : FuncData}
variable {cdv : Value} {A : Around} {outer : List PySem.Env} {s : Shared} {H : Hp} {E : XK}
abbrev PairI := Int × Int
def turnC (u : Cup) (x : Int × Int) : Cup := rightC (drawC u (m__law_all x.1) x.2) x.1 (Tup.mk (drawF u (m__law_all x.1) x.2))
theorem turnC_ok {u : Cup} (h : CupOk u) (x : Int × Int) : CupOk (turnC u x) := rightC_ok (drawC_ok h _ _) _ _
theorem turns_ok : ∀ (l : List (Int × Int)) {u : Cup}, CupOk u → CupOk (l.foldl turnC u)
  | [], _, h => h
  | x :: l, _, h => turns_ok l (turnC_ok h x)
/-- from the turns on -/
theorem law2 (B : Bi mg) (C : Calls P w K mg base) (Fa : Facts) (hr : Room 9 (bA "law" (topS 45) f cdv A s)) {u : Cup} (hu : CupOk u) : RT (lX P w K mg base f cdv A outer s H E) (rest 6) [none, some (.o false (cupL u)), none, none, none, none, none, none, none, none, none] (toD true) := by
  have hN : lawN.Nodup := by decide +kernel
  have hu0 : (bA "law" (topS 45) f cdv A s).units + 70 < cLine := by have := hr.un; omega
  have a1 := rollV_ge u (many := 3) (by decide)
  have a2 := rollV_lt u (many := 3) (by decide)
  refine rt_cons (ts_for2 (δ1 := [none, some (.o false (cupL (rollC u 3))), none, none, none, none, none, none, none, none, none]) [(rollV u 3, 2), (3, 4), (4, 6), (5, 8), (7, 30)] (rollC u 3) turnC (fun st => [none, some (.o false (cupL st)), none, none, none, none, none, none, none, none, none]) 4 5 .never rfl
    (ti_tup (t := Tup.mk [(rollV u 3, 2), (3, 4), (4, 6), (5, 8), (7, 30)]) (te_tupD [(rollV u 3, 2), (3, 4), (4, 6), (5, 8), (7, 30)] (da_cons (te_pair (te_roll 1 C.roll hr (by decide) rfl te_int hu (by decide) (by decide)) te_int) (da_cons (te_pair te_int te_int) (da_cons (te_pair te_int te_int) (da_cons (te_pair te_int te_int) (da_cons (te_pair te_int te_int) da_nil))))) (show 5 ≤ 100 by decide))) rfl (fun _ _ => dg_two 4 5 rfl hN) (fun st x hx => ?_)) (law3 B C Fa hr (turns_ok _ (rollC_ok hu 3)))
  obtain ⟨pre, post, e, rfl⟩ := hx
  have hst := turns_ok pre (rollC_ok hu 3)
  generalize pre.foldl turnC (rollC u 3) = st at *
  have hx : (0 ≤ x.1 ∧ x.1 ≤ 8) ∧ 0 < x.2 ∧ x.2 < 1000000 := by
    have hm : x ∈ ([(rollV u 3, 2), (3, 4), (4, 6), (5, 8), (7, 30)] : List (Int × Int)) := by rw [e]; simp
    simp only [List.mem_cons, List.not_mem_nil, or_false] at hm
    rcases hm with rfl | rfl | rfl | rfl | rfl <;> simp only <;> omega
  obtain ⟨m, sh⟩ := x
  refine ⟨[none, some (.o false (cupL (turnC st (m, sh)))), none, none, sD m, sD sh, none, none, none, none, none], dss_one (ds_if (p := false) (δ1 := [none, some (.o false (cupL (turnC st (m, sh)))), none, none, sD m, sD sh, none, none, none, none, none]) ?_ (fun z => nomatch z) (fun _ => dss_nil)), le_of [false, false, false, false, true, true] rfl⟩
  exact tt_eqv (dt_not (tt_val (te_right (u := drawC st (m__law_all m) sh) (fam := Tup.mk (drawF st (m__law_all m) sh)) 1 C.right hr (by decide) ⟨_, _, rfl⟩ (te_var 4) (te_draw (u := st) 1 C.fam hr (by decide) rfl (te_var 4) (te_var 5) hst (by exact hx)) rfl (drawC_ok hst _ _) (right_pre hx.1 (draw_ok hx.1 _ _))))) rfl
/-- from the numbers of all rising families on -/
theorem law1 (B : Bi mg) (C : Calls P w K mg base) (Fa : Facts) (hr : Room 9 (bA "law" (topS 45) f cdv A s)) {u : Cup} (hu : CupOk u) : RT (lX P w K mg base f cdv A outer s H E) (rest 3) [none, some (.o false (cupL u)), none, none, none, none, none, none, none, none, none] (toD true) := by
  have hN : lawN.Nodup := by decide +kernel
  have hu0 : (bA "law" (topS 45) f cdv A s).units + 70 < cLine := by have := hr.un; omega
  refine rt_cons (ts_set 2 hN (te_call1 C.rfs hr (by decide) te_int (by exact whole_iff.mpr (by decide)))) ?_
  have e0 : (((m_rising_families 4).items.filter fun fam => !decide (m_is_rising 4 fam = true)).map fun fam => fam) = [] := by
    rw [map_same, List.filter_eq_nil_iff]
    intro fam hf
    rw [(Fa.g3 fam hf).2]
    decide
  refine rt_ifD (p := decide (((m_rising_families 4).items.length : Int) ≠ 168) || (decide ((m_rising_families 4).items ≠ (m_rising_families 4).items) || decide ((((m_rising_families 4).items.filter fun fam => !decide (m_is_rising 4 fam = true)).map fun fam => fam) ≠ []))) (δ1 := [none, some (.o false (cupL u)), sD (m_rising_families 4), none, none, none, none, none, none, none, none])
    (dt_or (tt_ne hu0 (te_lenT (te_var 2) B.len) te_int) (fun _ => dw_or (tt_ne hu0 (te_new (tf_listT (te_var 2) B.list)) (te_new (tf_sset (te_var 2) hu0 rfl B.sorted B.set))) (fun _ => dw_one' (tt_ne hu0 (te_new (t_lc1if (fun fam : Tup Lot => !decide (m_is_rising 4 fam = true)) (fun fam => fam) 3 rfl hN (ti_tup (te_var 2)) (blkOk_by (by kernel_rfl)) (fun _ _ _ _ _ _ _ => dg_name 3 hN)
      (fun fam hf _ _ _ _ _ => tt_isNotB (te_call2 C.ir hr (by decide) te_int (te_var 3) (by exact (Fa.g3 fam hf).1)) te_bool) (fun _ _ _ _ _ _ _ _ => te_var 3))) (te_new tf_lst0))) (fun _ => rfl)) (fun _ => rfl)) (fun z => ?_) (fun _ => rtb_nil ?_)
  · rw [e0, Fa.g1] at z
    simp at z
  refine rt_ifD (p := false) (δ1 := [none, some (.o false (cupL u)), sD (m_rising_families 4), none, none, none, none, none, none, none, none]) (tt_eqv (dt_not (tt_val (te_like (x := toD ((rangeI 0 5).map m_count_rising_families)) (y := toD ([2, 3, 6, 20, 168] : List Int)) C.like hr (by decide)
    (te_new (t_lc1 (fun many => m_count_rising_families many) 4 rfl hN (ti_range1 (te_int (i := 5)) B.range (by decide) (by decide)) (blkOk_by (by kernel_rfl)) (fun _ _ _ _ _ _ _ => dg_name 4 hN) (fun m hm _ _ _ _ _ => te_call1 C.cnt hr (by decide) (te_var 4) (by
      rw [rangeI_mem] at hm
      exact whole_iff.mpr (by omega)))))
    (te_new (tf_lstD [2, 3, 6, 20, 168] (da_cons te_int (da_cons te_int (da_cons te_int (da_cons te_int (da_cons te_int da_nil))))) (show 5 ≤ 100 by decide))) (congrArg toD Fa.h) (plain_d _) (Nat.le_trans (Datum.depth_le _) (by decide)) (by decide)))) rfl) (fun z => nomatch z) (fun _ => rtb_nil ?_)
  exact rt_from (law2 B C Fa hr hu) (le_of [false, false, true] rfl)
/-- from the written examples on -/
theorem law0 (B : Bi mg) (C : Calls P w K mg base) (Fa : Facts) (hr : Room 9 (bA "law" (topS 45) f cdv A s)) {u : Cup} (hu : CupOk u) : RT (lX P w K mg base f cdv A outer s H E) (rest 1) [none, some (.o false (cupL u)), none, none, none, none, none, none, none, none, none] (toD true) := by
  have hN : lawN.Nodup := by decide +kernel
  have hu0 : (bA "law" (topS 45) f cdv A s).units + 70 < cLine := by have := hr.un; omega
  refine rt_cons (ds_set (d := .list [toD (m_is_rising 2 F1a), toD (m_is_rising 2 F1b), toD (m_least_lots 3 F1c), toD (m_risen_family 2 F1d), toD (m_rising_families 1)]) 2 hN (de_new (df_lst (da_cons (te_call2 C.ir hr (by decide) te_int (te_tupD [Tup.mk [0, 1]] (da_cons (te_tupD [0, 1] (da_cons te_int (da_cons te_int da_nil))) da_nil)) (by exact Fa.p1))
    (da_cons (te_call2 C.ir hr (by decide) te_int (te_tupD [Tup.mk [0]] (da_cons (te_tupD [0] (da_cons te_int da_nil)) da_nil)) (by exact Fa.p2))
    (da_cons (te_call2 C.ll hr (by decide) te_int (te_tupD [Tup.mk [0], Tup.mk [0, 1], Tup.mk [1, 2]] (da_cons (te_tupD [0] (da_cons te_int da_nil)) (da_cons (te_tupD [0, 1] (da_cons te_int (da_cons te_int da_nil))) (da_cons (te_tupD [1, 2] (da_cons te_int (da_cons te_int da_nil))) da_nil)))) (by exact Fa.p3.1))
    (da_cons (te_call2 C.rf hr (by decide) te_int (te_tupD [Tup.mk [1]] (da_cons (te_tupD [1] (da_cons te_int da_nil)) da_nil)) (by exact Fa.p4.1))
    (da_cons (te_call1 C.rfs hr (by decide) te_int (by exact whole_iff.mpr (by decide))) da_nil))))) (show 5 ≤ sizeLine by decide)))) ?_
  refine rt_ifD (p := false) (δ1 := [none, some (.o false (cupL u)), some (.d (.list [toD (m_is_rising 2 F1a), toD (m_is_rising 2 F1b), toD (m_least_lots 3 F1c), toD (m_risen_family 2 F1d), toD (m_rising_families 1)])), none, none, none, none, none, none, none, none]) (tt_eqv (dt_not (tt_val (te_like (y := .list [toD true, toD false, toD (Tup.mk [Tup.mk [0], Tup.mk [1, 2]] : Tup Lot), toD (Tup.mk [Tup.mk [0, 1], Tup.mk [1]] : Tup Lot), toD (Tup.mk [Tup.mk [], Tup.mk [Tup.mk [], Tup.mk [0]], Tup.mk [Tup.mk [0]]] : Tup (Tup Lot))]) C.like hr (by decide) (de_var 2 rfl)
    (de_new (df_lst (da_cons te_bool (da_cons te_bool (da_cons (te_tupD [Tup.mk [0], Tup.mk [1, 2]] (da_cons (te_tupD [0] (da_cons te_int da_nil)) (da_cons (te_tupD [1, 2] (da_cons te_int (da_cons te_int da_nil))) da_nil))) (da_cons (te_tupD [Tup.mk [0, 1], Tup.mk [1]] (da_cons (te_tupD [0, 1] (da_cons te_int (da_cons te_int da_nil))) (da_cons (te_tupD [1] (da_cons te_int da_nil)) da_nil)))
      (da_cons (te_tupD [Tup.mk [], Tup.mk [Tup.mk [], Tup.mk [0]], Tup.mk [Tup.mk [0]]] (da_cons (te_tup0 (α := Lot)) (da_cons (te_tupD [Tup.mk [], Tup.mk [0]] (da_cons (te_tup0 (α := Int)) (da_cons (te_tupD [0] (da_cons te_int da_nil)) da_nil))) (da_cons (te_tupD [Tup.mk [0]] (da_cons (te_tupD [0] (da_cons te_int da_nil)) da_nil)) da_nil)))) da_nil))))) (show 5 ≤ sizeLine by decide))) (by rw [Fa.a1, Fa.a2, Fa.a3, Fa.a4, Fa.a5]) ?_ ?_ (by decide)))) rfl) (fun z => nomatch z) (fun _ => rtb_nil ?_)
  · simp only [PyData.plain, PyData.plainAll, plain_d, Bool.and_self]
  · have h1 := depth_fam (m_least_lots 3 F1c)
    have h2 := depth_fam (m_risen_family 2 F1d)
    have h3 := depth_fams (m_rising_families 1)
    simp only [PyData.depth, PyData.depthAll, depth_b]
    omega
  exact rt_from (law1 B C Fa hr hu) (le_of [false, false, true] rfl)
end
end K75
set_option Elab.async false
set_option linter.all false
set_option maxRecDepth 100000
set_option maxHeartbeats 4000000
namespace K75
open PySem PySem.Spec G
open PySem.W (Datum DatumOrd Tup)
/-! the facts, by computing: sorting by insertion stands for Python's -/
def raisedK (many : Int) (lot : Lot) : List Lot := ((rangeI 0 many.toNat).filter fun t => decide (t ∉ lot.items)).map fun t => Tup.mk (isrt (lot.items ++ [t]))
theorem raisedK_eq (many : Int) (lot : Lot) : m_raised many lot = raisedK many lot := by unfold m_raised raisedK; simp only [srt_eq]
def risingK (many : Int) (fam : Tup Lot) : Bool := fam.items.all fun lot => (raisedK many lot).all fun more => decide (more ∈ fam.items)
theorem risingK_eq (many : Int) (fam : Tup Lot) : m_is_rising many fam = risingK many fam := by
  unfold m_is_rising risingK
  rw [keys_fam, List.all_map]
  simp only [List.all_map, raisedK_eq]
  rfl
def famK (many bits : Int) : Tup Lot := Tup.mk (isrt ((rangeI 0 (1 * 2 ^ many.toNat : Int).toNat).foldl (fun st at_ => if bitSet bits at_ = true then st ++ [lotAt many at_] else st) []))
theorem famK_eq (many bits : Int) : famOf many bits = famK many bits := by unfold famOf famK; rw [srt_eq]
def preK (many : Int) (fam : Tup Lot) : Bool := isWhole many 0 8 && m_fits_family many fam && fam.items.all fun l => decide (l.items.length ≤ 1000)
theorem preK_of {many : Int} {fam : Tup Lot} (h : preK many fam = true) : FamPre many fam := by
  unfold preK at h
  rw [Bool.and_eq_true, Bool.and_eq_true, List.all_eq_true] at h
  exact ⟨h.1, fun l hl => of_decide_eq_true (h.2 l hl)⟩
theorem bits4_len : (famBits 4).length = 168 := by decide +kernel
theorem bits_lens : (rangeI 0 5).map m_count_rising_families = [2, 3, 6, 20, 168] := by decide +kernel
theorem bits4_ok : ((famBits 4).all fun b => preK 4 (famK 4 b) && risingK 4 (famK 4 b)) = true := by decide +kernel
theorem fams_mem {many : Int} {fam : Tup Lot} : fam ∈ (m_rising_families many).items ↔ ∃ b ∈ famBits many, famOf many b = fam := by
  unfold m_rising_families
  show fam ∈ srt ((famBits many).map fun b => famOf many b) ↔ _
  rw [srt_mem, List.mem_map]
theorem fa_a1 : m_is_rising 2 F1a = true := by rw [risingK_eq]; decide +kernel
theorem fa_a2 : m_is_rising 2 F1b = false := by rw [risingK_eq]; decide +kernel
theorem fa_a3 : m_least_lots 3 F1c = Tup.mk [Tup.mk [0], Tup.mk [1, 2]] := by decide +kernel
def allK (many : Int) : List Lot := isrt (lotsOf (rangeI 0 many.toNat))
theorem allK_eq (many : Int) : allLots many = allK many := by unfold allLots allK; rw [srt_eq]
theorem allK_eq' (many : Int) : m__law_all many = allK many := allK_eq many
theorem fa_a4 : m_risen_family 2 F1d = Tup.mk [Tup.mk [0, 1], Tup.mk [1]] := by
  unfold m_risen_family m_risen_in
  rw [allK_eq]
  decide +kernel
def famsK (many : Int) : List (Tup Lot) := isrt ((famBits many).map fun b => famK many b)
theorem famsK_eq (many : Int) : m_rising_families many = Tup.mk (famsK many) := by
  unfold m_rising_families famsK
  simp only [famK_eq, srt_eq]
theorem fa_a5 : m_rising_families 1 = Tup.mk [Tup.mk [], Tup.mk [Tup.mk [], Tup.mk [0]], Tup.mk [Tup.mk [0]]] := by
  rw [famsK_eq]
  decide +kernel
def risenK (many : Int) (fam : Tup Lot) : List Lot := (allK many).filter fun lot => fam.items.any fun own => m__law_in own lot
theorem risenK_eq (many : Int) (fam : Tup Lot) : m__law_risen many fam = Tup.mk (risenK many fam) := by
  refine congrArg Tup.mk ?_
  show ((m__law_all many).filter _).map _ = _
  rw [map_same, allK_eq']
  unfold risenK
  refine List.filter_congr fun lot _ => ?_
  rw [Bool.eq_iff_iff, decide_eq_true_eq, map_same, ne_eq, List.filter_eq_nil_iff, List.any_eq_true]
  refine ⟨fun h => Classical.byContradiction fun z => h fun own h1 h2 => z ⟨own, h1, h2⟩, fun ⟨own, h1, h2⟩ h => h own h1 h2⟩
def everyK (many : Int) : List (Tup Lot) := (lotsOf (allK many)).filter fun fam => decide (risenK many fam = fam.items)
theorem everyK_eq (many : Int) : everyL many = everyK many := by
  unfold everyL everyK
  rw [map_same, allK_eq']
  refine List.filter_congr fun fam _ => ?_
  rw [risenK_eq]
  refine decide_eq_decide.mpr ⟨fun e => congrArg Tup.items e, fun e => by cases fam; exact congrArg Tup.mk e⟩
def quietK (many : Int) : List (Tup Lot) := (lotsOf (allK many)).filter fun fam => m_is_quiet_family many fam
theorem quietK_eq (many : Int) : quietL many = quietK many := by
  unfold quietL quietK
  rw [map_same, allK_eq']
def fourK (many : Int) : Bool := decide (famsK many = isrt (everyK many)) && decide ((famBits many).length = (everyK many).length) && decide ((quietK many).length = (everyK many).length)
theorem four_ok : ([0, 1, 2, 3] : List Int).all fourK = true := by decide +kernel
theorem facts : Facts where
  a1 := fa_a1
  a2 := fa_a2
  a3 := fa_a3
  a4 := fa_a4
  a5 := fa_a5
  p1 := preK_of (by decide +kernel)
  p2 := preK_of (by decide +kernel)
  p3 := preK_of (by decide +kernel)
  p4 := preK_of (by decide +kernel)
  g1 := by
    unfold m_rising_families
    show (srt ((famBits 4).map fun b => famOf 4 b)).length = 168
    rw [srt_len, List.length_map, bits4_len]
  g3 := fun fam hf => by
    obtain ⟨b, hb, rfl⟩ := fams_mem.mp hf
    have := List.all_eq_true.mp bits4_ok b hb
    rw [Bool.and_eq_true] at this
    rw [famK_eq]
    exact ⟨preK_of this.1, by rw [risingK_eq]; exact this.2⟩
  h := bits_lens
  k1 := fun many hm => by
    have hk : many ∈ ([0, 1, 2, 3] : List Int) := by
      simp only [List.mem_cons, List.not_mem_nil, or_false]
      omega
    have := List.all_eq_true.mp four_ok many hk
    unfold fourK at this
    rw [Bool.and_eq_true, Bool.and_eq_true, decide_eq_true_eq, decide_eq_true_eq, decide_eq_true_eq] at this
    rw [everyK_eq, quietK_eq, famsK_eq, srt_eq]
    refine ⟨congrArg Tup.mk this.1.1, ?_, this.2⟩
    show ((famBits many).length : Int) = _
    rw [this.1.2]
end K75
set_option Elab.async false
set_option linter.all false
set_option maxRecDepth 100000
set_option maxHeartbeats 4000000
namespace K75
open PySem PySem.Spec L2 G
open PySem.W (Datum DatumOrd Tup)
def spLaw (K : PySem.W.Frag) : Sp := fun vs H Q _ => ∃ (a : Addr) (ns : List Int), vs = [.ref a] ∧ SqL K H a (ns.map V.int) ∧ ns.length ≤ 63 ∧ ∀ H', Q (.bl true) H'
theorem ok_law {P : Program} {w : World} {K : PySem.W.Frag} {mg : Str → Option Value} {base : Heap} {f : Addr} {fd : FuncData} (B : Bi mg) (C : Calls P w K mg base) (cc : T_cup P w K mg base) (Fa : Facts) (Fn : L2.Fun K "law" "law" (topS 45) f fd) : FnOk P w K mg base CX0 10 f fd ["script"] (spLaw K) := by
  obtain ⟨f1, fd1, ps, G1, m1, k1, b1⟩ := cc.ex
  refine Fn.ok (N := lawN) (C8.fnScope_by (by decide +kernel)) (fun vs H Q E h => ?_) (fun cdv A outer s H vs Q E hr h => ?_)
  · obtain ⟨a, ns, rfl, _⟩ := h
    rfl
  obtain ⟨a, ns, rfl, hS, hl, q⟩ := h
  have hN : lawN.Nodup := by decide +kernel
  have R : ∀ u : {u : Cup // CupOk u}, RT (lX P w K mg base f cdv A outer s H E) (rest 1) [none, some (.o false (cupL u.1)), none, none, none, none, none, none, none, none, none] (toD true) := fun u => law0 B C Fa hr u.2
  refine ⟨_, pss_cons (ps_set (i := 1) hN rfl (by first | exact Or.inl rfl | exact Or.inr rfl) (pe_call G1 (hr.mono (by decide)) rfl m1 k1 b1 .nil pass0 (pa_cons (pe_var (i := 0) rfl (Or.inl rfl) (by decide) (by decide)) pa_nil rfl) (by decide) rfl rfl) rfl (.inl rfl)) (PSs.any fun u : {u : Cup // CupOk u} => (Classical.choose_spec (R u)).1), ?_⟩
  refine ⟨_, rfl, a, ns, rfl, hS, by omega, fun p H1 hp e1 hp1 => ?_⟩
  refine ⟨⟨cupOf ns, cupOf_ok ns⟩, ⟨H, none0, none⟩, ins p none0, ins p none0, ?_, ?_⟩
  · refine ⟨rfl, fun i d z => ?_, fun i b c z => ?_, fun i v z => ?_, fun i j b b' c e p' z1 z2 z3 z4 => ?_, fun a o z _ => e1 a o z, fun a h => h.elim, fun a h => ?_, (fun p h => nomatch h), (fun a h => h), fun a h => ?_⟩
    · match i, z with
      | 0, z => cases z
      | 1, z => cases z
      | i + 2, z =>
        have : ([none, none, none, none, none, none, none, none, none] : Dl)[i]? = some (some (S.d d)) := z
        have := List.mem_of_getElem? this
        simp at this
    · match i, z with
      | 0, z => cases z
      | 1, z => cases z; exact ⟨p, _, rfl, .inl rfl, hp1, .cons (.int _) (.cons (.int _) .nil), hp⟩
      | i + 2, z =>
        have : ([none, none, none, none, none, none, none, none, none] : Dl)[i]? = some (some (S.o b c)) := z
        have := List.mem_of_getElem? this
        simp at this
    · match i, z with
      | 0, z => cases z
      | 1, z => cases z
      | i + 2, z =>
        have : ([none, none, none, none, none, none, none, none, none] : Dl)[i]? = some (some (S.v v)) := z
        have := List.mem_of_getElem? this
        simp at this
    · have one : ∀ (i : Nat) (b : Bool) (c : Co), ([none, some (.o false (cupL (cupOf ns))), none, none, none, none, none, none, none, none, none] : Dl)[i]? = some (some (S.o b c)) → i = 1 := fun i b c z => by
        match i, z with
        | 0, z => cases z
        | 1, z => rfl
        | i + 2, z =>
          have : ([none, none, none, none, none, none, none, none, none] : Dl)[i]? = some (some (S.o b c)) := z
          have := List.mem_of_getElem? this
          simp at this
      rw [one i b c z1, one j b' e z2]
    · rcases h with h | h
      · exact ⟨_, by rw [h]; exact hp1⟩
      · exact h.elim
    · rcases h with h | h
      · exact h.elim
      · cases h
  · rcases (Classical.choose_spec (R ⟨cupOf ns, cupOf_ok ns⟩)).2 with ⟨δ', e⟩ | ⟨e, _⟩
    · rw [e]
      intro O' W' σ' v H' E' hi
      rw [show v = .bl true from hi.bl']
      exact q H'
    · cases e
structure HasDef (K : PySem.W.Frag) (x : Str) (st : Stmt) : Prop where
  ex : ∃ (f : Addr) (oc : Value) (od : Option Addr) (sl : Array (Option Value)) (kV dc pm : Value) (an : Option Addr) (cd ct : Value), PySem.W.nsIn K mainGlobals x = some (some (.ref f)) ∧ K.lookup f = some ⟨oc, od, .func (PySem.W.fnOf x x (defArgs st) (defBody st) (defScope st) .none kV dc pm an cd ct), sl⟩ ∧ PySem.W.codeIn K cd x = true ∧ PySem.W.keepIn K (.ref f) = true
theorem hd_mk {K : PySem.W.Frag} {x : Str} {st : Stmt} {f : Addr} {od an : Option Addr} {sl : Array (Option Value)} {oc kV dc pm cd ct : Value} (a : PySem.W.nsIn K mainGlobals x = some (some (.ref f))) (l : K.lookup f = some ⟨oc, od, .func (PySem.W.fnOf x x (defArgs st) (defBody st) (defScope st) .none kV dc pm an cd ct), sl⟩) (c : PySem.W.codeIn K cd x = true) (k : PySem.W.keepIn K (.ref f) = true) : HasDef K x st := ⟨f, oc, od, sl, kV, dc, pm, an, cd, ct, a, l, c, k⟩
theorem HasDef.fn {K : PySem.W.Frag} {x : Str} {st : Stmt} {h : Heap} {mg : Str → Option Value} (X : K.In h) (G : h.Ns mainGlobals mg) (d : HasDef K x st) : ∃ f fd, L2.Fun K x x st f fd ∧ mg x = some (.ref f) := by
  obtain ⟨f, oc, od, sl, kV, dc, pm, an, cd, ct, a, l, c, k⟩ := d.ex
  exact ⟨f, _, fun_mk (st := st) l c k, PySem.W.mg_of X G a⟩
theorem all_mk {l : PySem.W.OpenLaw} {w : World} {K : PySem.W.Frag} {h : Heap} {mg : Str → Option Value} {fa : Addr} {t1 t2 t3 : Tok} (X : K.In h) (G : h.Ns mainGlobals mg) (hfa : mg "law" = some (.ref fa))
    {fL : Addr} {odL anL : Option Addr} {slL : Array (Option Value)} {ocL kVL dcL pmL cdL ctL : Value}
    (aL : PySem.W.nsIn K mainGlobals "law" = some (some (.ref fL))) (lL : K.lookup fL = some ⟨ocL, odL, .func (PySem.W.fnOf "law" "law" (defArgs (topS 45)) (defBody (topS 45)) (defScope (topS 45)) .none kVL dcL pmL anL cdL ctL), slL⟩) (cL : PySem.W.codeIn K cdL "law" = true) (kL : PySem.W.keepIn K (.ref fL) = true)
    (h_is_integer : HasDef K "is_integer" (topS 5))
    (h_is_whole : HasDef K "is_whole" (topS 6))
    (h_need_whole : HasDef K "need_whole" (topS 7))
    (h_is_rising : HasDef K "is_rising" (topS 8))
    (h_fits_lot : HasDef K "fits_lot" (topS 11))
    (h_fits_family : HasDef K "fits_family" (topS 12))
    (h_need_things_number : HasDef K "need_things_number" (topS 13))
    (h_need_family : HasDef K "need_family" (topS 14))
    (h_all_lots : HasDef K "all_lots" (topS 15))
    (h_lies_in : HasDef K "lies_in" (topS 16))
    (h_lowered : HasDef K "lowered" (topS 17))
    (h_is_quiet_family : HasDef K "is_quiet_family" (topS 18))
    (h_is_falling_family : HasDef K "is_falling_family" (topS 19))
    (h_raised : HasDef K "raised" (topS 23))
    (h_least_in_family : HasDef K "least_in_family" (topS 24))
    (h_risen_in : HasDef K "risen_in" (topS 25))
    (h_families_as_bits : HasDef K "families_as_bits" (topS 26))
    (h_family_of_bits : HasDef K "family_of_bits" (topS 27))
    (h_is_rising_family : HasDef K "is_rising_family" (topS 28))
    (h_least_lots : HasDef K "least_lots" (topS 29))
    (h_risen_family : HasDef K "risen_family" (topS 30))
    (h_count_rising_families : HasDef K "count_rising_families" (topS 31))
    (h_rising_families : HasDef K "rising_families" (topS 32))
    (h__law_cup : HasDef K "_law_cup" (topS 34))
    (h__law_roll : HasDef K "_law_roll" (topS 35))
    (h__law_some : HasDef K "_law_some" (topS 36))
    (h__law_sort : HasDef K "_law_sort" (topS 37))
    (h__law_like : HasDef K "_law_like" (topS 38))
    (h__law_lots : HasDef K "_law_lots" (topS 39))
    (h__law_all : HasDef K "_law_all" (topS 40))
    (h__law_in : HasDef K "_law_in" (topS 41))
    (h__law_family : HasDef K "_law_family" (topS 42))
    (h__law_risen : HasDef K "_law_risen" (topS 43))
    (h__law_right : HasDef K "_law_right" (topS 44))
    (g_THINGS : PySem.W.nsIn K mainGlobals "THINGS" = some (some (.int 8 t1)))
    (g_COUNTED : PySem.W.nsIn K mainGlobals "COUNTED" = some (some (.int 5 t2)))
    (g_LISTED : PySem.W.nsIn K mainGlobals "LISTED" = some (some (.int 4 t3)))
    (z_isinstance : PySem.W.nsIn K mainGlobals "isinstance" = some none)
    (z_int : PySem.W.nsIn K mainGlobals "int" = some none)
    (z_bool : PySem.W.nsIn K mainGlobals "bool" = some none)
    (z_all : PySem.W.nsIn K mainGlobals "all" = some none)
    (z_any : PySem.W.nsIn K mainGlobals "any" = some none)
    (z_zip : PySem.W.nsIn K mainGlobals "zip" = some none)
    (z_range : PySem.W.nsIn K mainGlobals "range" = some none)
    (z_len : PySem.W.nsIn K mainGlobals "len" = some none)
    (z_tuple : PySem.W.nsIn K mainGlobals "tuple" = some none)
    (z_list : PySem.W.nsIn K mainGlobals "list" = some none)
    (z_dict : PySem.W.nsIn K mainGlobals "dict" = some none)
    (z_sorted : PySem.W.nsIn K mainGlobals "sorted" = some none)
    (z_set : PySem.W.nsIn K mainGlobals "set" = some none)
    (z_abs : PySem.W.nsIn K mainGlobals "abs" = some none)
    (z_str : PySem.W.nsIn K mainGlobals "str" = some none)
    : ∃ fd : FuncData, (∀ (s : Shared) (v : Value), BindsTo s fd ⟨[v], []⟩ [("script", v)]) ∧ ∀ base : Heap, K.In base → base.Ns mainGlobals mg → FnOk l.prog w K mg base CX0 10 fa fd ["script"] (spLaw K) := by
  have e := hfa.symm.trans (PySem.W.mg_of X G aL)
  cases e
  have FL := fun_mk (st := topS 45) lL cL kL
  have B : Bi mg := ⟨PySem.W.mg_none_of X G z_isinstance, PySem.W.mg_none_of X G z_int, PySem.W.mg_none_of X G z_bool, PySem.W.mg_none_of X G z_all, PySem.W.mg_none_of X G z_any, PySem.W.mg_none_of X G z_zip, PySem.W.mg_none_of X G z_range, PySem.W.mg_none_of X G z_len, PySem.W.mg_none_of X G z_tuple, PySem.W.mg_none_of X G z_list, PySem.W.mg_none_of X G z_dict, PySem.W.mg_none_of X G z_sorted, PySem.W.mg_none_of X G z_set, PySem.W.mg_none_of X G z_abs, PySem.W.mg_none_of X G z_str, ⟨_, PySem.W.mg_of X G g_THINGS⟩, ⟨_, PySem.W.mg_of X G g_COUNTED⟩, ⟨_, PySem.W.mg_of X G g_LISTED⟩⟩
  obtain ⟨f_is_integer, d_is_integer, F_is_integer, m_is_integer'⟩ := h_is_integer.fn X G
  have b_is_integer := F_is_integer.binds (ps := ["value"]) fun _ _ _ _ _ _ us hl => match us, hl with | [_], _ => rfl
  obtain ⟨f_is_whole, d_is_whole, F_is_whole, m_is_whole'⟩ := h_is_whole.fn X G
  have b_is_whole := F_is_whole.binds (ps := ["value", "low", "high"]) fun _ _ _ _ _ _ us hl => match us, hl with | [_, _, _], _ => rfl
  obtain ⟨f_need_whole, d_need_whole, F_need_whole, m_need_whole'⟩ := h_need_whole.fn X G
  have b_need_whole := F_need_whole.binds (ps := ["value", "low", "high"]) fun _ _ _ _ _ _ us hl => match us, hl with | [_, _, _], _ => rfl
  obtain ⟨f_is_rising, d_is_rising, F_is_rising, m_is_rising'⟩ := h_is_rising.fn X G
  have b_is_rising := F_is_rising.binds (ps := ["things"]) fun _ _ _ _ _ _ us hl => match us, hl with | [_], _ => rfl
  obtain ⟨f_fits_lot, d_fits_lot, F_fits_lot, m_fits_lot'⟩ := h_fits_lot.fn X G
  have b_fits_lot := F_fits_lot.binds (ps := ["many", "value"]) fun _ _ _ _ _ _ us hl => match us, hl with | [_, _], _ => rfl
  obtain ⟨f_fits_family, d_fits_family, F_fits_family, m_fits_family'⟩ := h_fits_family.fn X G
  have b_fits_family := F_fits_family.binds (ps := ["many", "value"]) fun _ _ _ _ _ _ us hl => match us, hl with | [_, _], _ => rfl
  obtain ⟨f_need_things_number, d_need_things_number, F_need_things_number, m_need_things_number'⟩ := h_need_things_number.fn X G
  have b_need_things_number := F_need_things_number.binds (ps := ["many"]) fun _ _ _ _ _ _ us hl => match us, hl with | [_], _ => rfl
  obtain ⟨f_need_family, d_need_family, F_need_family, m_need_family'⟩ := h_need_family.fn X G
  have b_need_family := F_need_family.binds (ps := ["many", "family"]) fun _ _ _ _ _ _ us hl => match us, hl with | [_, _], _ => rfl
  obtain ⟨f_all_lots, d_all_lots, F_all_lots, m_all_lots'⟩ := h_all_lots.fn X G
  have b_all_lots := F_all_lots.binds (ps := ["many"]) fun _ _ _ _ _ _ us hl => match us, hl with | [_], _ => rfl
  obtain ⟨f_lies_in, d_lies_in, F_lies_in, m_lies_in'⟩ := h_lies_in.fn X G
  have b_lies_in := F_lies_in.binds (ps := ["one", "other"]) fun _ _ _ _ _ _ us hl => match us, hl with | [_, _], _ => rfl
  obtain ⟨f_lowered, d_lowered, F_lowered, m_lowered'⟩ := h_lowered.fn X G
  have b_lowered := F_lowered.binds (ps := ["lot"]) fun _ _ _ _ _ _ us hl => match us, hl with | [_], _ => rfl
  obtain ⟨f_is_quiet_family, d_is_quiet_family, F_is_quiet_family, m_is_quiet_family'⟩ := h_is_quiet_family.fn X G
  have b_is_quiet_family := F_is_quiet_family.binds (ps := ["many", "family"]) fun _ _ _ _ _ _ us hl => match us, hl with | [_, _], _ => rfl
  obtain ⟨f_is_falling_family, d_is_falling_family, F_is_falling_family, m_is_falling_family'⟩ := h_is_falling_family.fn X G
  have b_is_falling_family := F_is_falling_family.binds (ps := ["many", "family"]) fun _ _ _ _ _ _ us hl => match us, hl with | [_, _], _ => rfl
  obtain ⟨f_raised, d_raised, F_raised, m_raised'⟩ := h_raised.fn X G
  have b_raised := F_raised.binds (ps := ["many", "lot"]) fun _ _ _ _ _ _ us hl => match us, hl with | [_, _], _ => rfl
  obtain ⟨f_least_in_family, d_least_in_family, F_least_in_family, m_least_in_family'⟩ := h_least_in_family.fn X G
  have b_least_in_family := F_least_in_family.binds (ps := ["family"]) fun _ _ _ _ _ _ us hl => match us, hl with | [_], _ => rfl
  obtain ⟨f_risen_in, d_risen_in, F_risen_in, m_risen_in'⟩ := h_risen_in.fn X G
  have b_risen_in := F_risen_in.binds (ps := ["many", "family"]) fun _ _ _ _ _ _ us hl => match us, hl with | [_, _], _ => rfl
  obtain ⟨f_families_as_bits, d_families_as_bits, F_families_as_bits, m_families_as_bits'⟩ := h_families_as_bits.fn X G
  have b_families_as_bits := F_families_as_bits.binds (ps := ["many"]) fun _ _ _ _ _ _ us hl => match us, hl with | [_], _ => rfl
  obtain ⟨f_family_of_bits, d_family_of_bits, F_family_of_bits, m_family_of_bits'⟩ := h_family_of_bits.fn X G
  have b_family_of_bits := F_family_of_bits.binds (ps := ["many", "bits"]) fun _ _ _ _ _ _ us hl => match us, hl with | [_, _], _ => rfl
  obtain ⟨f_is_rising_family, d_is_rising_family, F_is_rising_family, m_is_rising_family'⟩ := h_is_rising_family.fn X G
  have b_is_rising_family := F_is_rising_family.binds (ps := ["many", "family"]) fun _ _ _ _ _ _ us hl => match us, hl with | [_, _], _ => rfl
  obtain ⟨f_least_lots, d_least_lots, F_least_lots, m_least_lots'⟩ := h_least_lots.fn X G
  have b_least_lots := F_least_lots.binds (ps := ["many", "family"]) fun _ _ _ _ _ _ us hl => match us, hl with | [_, _], _ => rfl
  obtain ⟨f_risen_family, d_risen_family, F_risen_family, m_risen_family'⟩ := h_risen_family.fn X G
  have b_risen_family := F_risen_family.binds (ps := ["many", "family"]) fun _ _ _ _ _ _ us hl => match us, hl with | [_, _], _ => rfl
  obtain ⟨f_count_rising_families, d_count_rising_families, F_count_rising_families, m_count_rising_families'⟩ := h_count_rising_families.fn X G
  have b_count_rising_families := F_count_rising_families.binds (ps := ["many"]) fun _ _ _ _ _ _ us hl => match us, hl with | [_], _ => rfl
  obtain ⟨f_rising_families, d_rising_families, F_rising_families, m_rising_families'⟩ := h_rising_families.fn X G
  have b_rising_families := F_rising_families.binds (ps := ["many"]) fun _ _ _ _ _ _ us hl => match us, hl with | [_], _ => rfl
  obtain ⟨f__law_cup, d__law_cup, F__law_cup, m__law_cup'⟩ := h__law_cup.fn X G
  have b__law_cup := F__law_cup.binds (ps := ["script"]) fun _ _ _ _ _ _ us hl => match us, hl with | [_], _ => rfl
  obtain ⟨f__law_roll, d__law_roll, F__law_roll, m__law_roll'⟩ := h__law_roll.fn X G
  have b__law_roll := F__law_roll.binds (ps := ["cup", "many"]) fun _ _ _ _ _ _ us hl => match us, hl with | [_, _], _ => rfl
  obtain ⟨f__law_some, d__law_some, F__law_some, m__law_some'⟩ := h__law_some.fn X G
  have b__law_some := F__law_some.binds (ps := ["cup", "things"]) fun _ _ _ _ _ _ us hl => match us, hl with | [_, _], _ => rfl
  obtain ⟨f__law_sort, d__law_sort, F__law_sort, m__law_sort'⟩ := h__law_sort.fn X G
  have b__law_sort := F__law_sort.binds (ps := ["value"]) fun _ _ _ _ _ _ us hl => match us, hl with | [_], _ => rfl
  obtain ⟨f__law_like, d__law_like, F__law_like, m__law_like'⟩ := h__law_like.fn X G
  have b__law_like := F__law_like.binds (ps := ["one", "other"]) fun _ _ _ _ _ _ us hl => match us, hl with | [_, _], _ => rfl
  obtain ⟨f__law_lots, d__law_lots, F__law_lots, m__law_lots'⟩ := h__law_lots.fn X G
  have b__law_lots := F__law_lots.binds (ps := ["things"]) fun _ _ _ _ _ _ us hl => match us, hl with | [_], _ => rfl
  obtain ⟨f__law_all, d__law_all, F__law_all, m__law_all'⟩ := h__law_all.fn X G
  have b__law_all := F__law_all.binds (ps := ["many"]) fun _ _ _ _ _ _ us hl => match us, hl with | [_], _ => rfl
  obtain ⟨f__law_in, d__law_in, F__law_in, m__law_in'⟩ := h__law_in.fn X G
  have b__law_in := F__law_in.binds (ps := ["one", "other"]) fun _ _ _ _ _ _ us hl => match us, hl with | [_, _], _ => rfl
  obtain ⟨f__law_family, d__law_family, F__law_family, m__law_family'⟩ := h__law_family.fn X G
  have b__law_family := F__law_family.binds (ps := ["cup", "many", "share"]) fun _ _ _ _ _ _ us hl => match us, hl with | [_, _, _], _ => rfl
  obtain ⟨f__law_risen, d__law_risen, F__law_risen, m__law_risen'⟩ := h__law_risen.fn X G
  have b__law_risen := F__law_risen.binds (ps := ["many", "family"]) fun _ _ _ _ _ _ us hl => match us, hl with | [_, _], _ => rfl
  obtain ⟨f__law_right, d__law_right, F__law_right, m__law_right'⟩ := h__law_right.fn X G
  have b__law_right := F__law_right.binds (ps := ["cup", "many", "family"]) fun _ _ _ _ _ _ us hl => match us, hl with | [_, _, _], _ => rfl
  refine ⟨PySem.W.fnOf "law" "law" (defArgs (topS 45)) (defBody (topS 45)) (defScope (topS 45)) .none kVL dcL pmL anL cdL ctL, fun s v => .of_eq rfl, fun base _ _ => ?_⟩
  have c_is_integer := ok_is_integer (P := l.prog) (w := w) (base := base) B F_is_integer m_is_integer' b_is_integer
  have c_is_whole := ok_is_whole (P := l.prog) (w := w) (base := base) B c_is_integer F_is_whole m_is_whole' b_is_whole
  have c_need_whole := ok_need_whole (P := l.prog) (w := w) (base := base) B c_is_whole F_need_whole m_need_whole' b_need_whole
  have c_is_rising := ok_is_rising (P := l.prog) (w := w) (base := base) (α := Int) (by decide) B F_is_rising m_is_rising' b_is_rising
  have c_is_rising2 := ok_is_rising (P := l.prog) (w := w) (base := base) (α := Tup Int) (by decide) B F_is_rising m_is_rising' b_is_rising
  have c_fits_lot := ok_fits_lot (P := l.prog) (w := w) (base := base) B c_is_whole c_is_rising F_fits_lot m_fits_lot' b_fits_lot
  have c_fits_family := ok_fits_family (P := l.prog) (w := w) (base := base) B c_fits_lot c_is_rising2 F_fits_family m_fits_family' b_fits_family
  have c_need_things_number := ok_need_things_number (P := l.prog) (w := w) (base := base) B c_need_whole F_need_things_number m_need_things_number' b_need_things_number
  have c_need_family := ok_need_family (P := l.prog) (w := w) (base := base) B c_need_things_number c_fits_family F_need_family m_need_family' b_need_family
  have c_all_lots := ok_all_lots (P := l.prog) (w := w) (base := base) B  F_all_lots m_all_lots' b_all_lots
  have c_lies_in := ok_lies_in (P := l.prog) (w := w) (base := base) B  F_lies_in m_lies_in' b_lies_in
  have c_lowered := ok_lowered (P := l.prog) (w := w) (base := base) B  F_lowered m_lowered' b_lowered
  have c_is_quiet_family := ok_is_quiet_family (P := l.prog) (w := w) (base := base) B c_need_family c_lies_in F_is_quiet_family m_is_quiet_family' b_is_quiet_family
  have c_is_falling_family := ok_is_falling_family (P := l.prog) (w := w) (base := base) B c_need_family c_lowered F_is_falling_family m_is_falling_family' b_is_falling_family
  have c_raised := ok_raised (P := l.prog) (w := w) (base := base) B  F_raised m_raised' b_raised
  have c_least_in_family := ok_least_in_family (P := l.prog) (w := w) (base := base) B c_lies_in F_least_in_family m_least_in_family' b_least_in_family
  have c_risen_in := ok_risen_in (P := l.prog) (w := w) (base := base) B c_all_lots c_lies_in F_risen_in m_risen_in' b_risen_in
  have c_families_as_bits := ok_families_as_bits (P := l.prog) (w := w) (base := base) B  F_families_as_bits m_families_as_bits' b_families_as_bits
  have c_family_of_bits := ok_family_of_bits (P := l.prog) (w := w) (base := base) B  F_family_of_bits m_family_of_bits' b_family_of_bits
  have c_is_rising_family := ok_is_rising_family (P := l.prog) (w := w) (base := base) B c_need_family c_raised F_is_rising_family m_is_rising_family' b_is_rising_family
  have c_least_lots := ok_least_lots (P := l.prog) (w := w) (base := base) B c_need_family c_least_in_family F_least_lots m_least_lots' b_least_lots
  have c_risen_family := ok_risen_family (P := l.prog) (w := w) (base := base) B c_need_family c_risen_in F_risen_family m_risen_family' b_risen_family
  have c_count_rising_families := ok_count_rising_families (P := l.prog) (w := w) (base := base) B c_need_whole c_families_as_bits F_count_rising_families m_count_rising_families' b_count_rising_families
  have c_rising_families := ok_rising_families (P := l.prog) (w := w) (base := base) B c_need_whole c_families_as_bits c_family_of_bits F_rising_families m_rising_families' b_rising_families
  have cc := ok_cup (P := l.prog) (w := w) (base := base) B F__law_cup m__law_cup' b__law_cup
  have croll := ok_roll (P := l.prog) (w := w) (base := base) B F__law_roll m__law_roll' b__law_roll
  have csome := ok_some (P := l.prog) (w := w) (base := base) B croll F__law_some m__law_some' b__law_some
  have csort := ok_sort (P := l.prog) (w := w) (base := base) B F__law_sort m__law_sort' b__law_sort
  have clike := ok_like (P := l.prog) (w := w) (base := base) B csort F__law_like m__law_like' b__law_like 4
  have c__law_lots := ok_lots (P := l.prog) (w := w) (base := base) Int B F__law_lots m__law_lots' b__law_lots
  have clots2 := ok_lots (P := l.prog) (w := w) (base := base) Lot B F__law_lots m__law_lots' b__law_lots
  have c__law_all := ok__law_all (P := l.prog) (w := w) (base := base) B c__law_lots F__law_all m__law_all' b__law_all
  have c__law_in := ok__law_in (P := l.prog) (w := w) (base := base) B  F__law_in m__law_in' b__law_in
  have cfam := ok_family (P := l.prog) (w := w) (base := base) B croll c__law_all F__law_family m__law_family' b__law_family
  have c__law_risen := ok__law_risen (P := l.prog) (w := w) (base := base) B c__law_all c__law_in F__law_risen m__law_risen' b__law_risen
  have cright := ok_right (P := l.prog) (w := w) (base := base) B c__law_risen c__law_in c_is_rising_family c_least_lots c_risen_family clike c__law_all c_is_quiet_family c_is_falling_family csome F__law_right m__law_right' b__law_right
  exact ok_law B ⟨croll, cfam, cright, clike, c_is_rising_family, c_least_lots, c_risen_family, c_rising_families, c_count_rising_families, c__law_all, clots2, c__law_risen, c_is_quiet_family⟩ cc facts FL
theorem walk {l : PySem.W.OpenLaw} {q : Program} {loose : List Str} {XP : (Str → Option Value) → Heap → Prop} {YP : World → Heap → Prop} {d : DefRec} {K : Params → PySem.W.Frag} (hn : l.most = some 63) (hdf : d.params.defaults = [])
    (hY : ∀ (w : World) (h : Heap), YP w h → (K w.params).In h)
    (F : ∀ (w : World) (mg : Str → Option Value) (fa : Addr) (h : Heap), (K w.params).In h → h.Ns mainGlobals mg → mg d.name = some (.ref fa) →
      ∃ fd : FuncData, (∀ (s : Shared) (u : Value), BindsTo s fd ⟨[u], []⟩ [("script", u)]) ∧ ∀ base : Heap, (K w.params).In base → base.Ns mainGlobals mg → FnOk l.prog w (K w.params) mg base CX0 10 fa fd ["script"] (spLaw (K w.params))) :
    PySem.W.WalkO q loose XP YP l.row.toRowW d [] (fun f vs => PySem.call f vs) :=
  L2.walk_of (n := 63) (k := 10) (x := "script") (CX := fun _ => CX0) (sp := fun w => spLaw (K w.params)) hn (by decide) hdf ⟨rfl, by decide, by decide⟩ hY F (fun _ _ a ns hl _ hS => ⟨a, ns, rfl, hS, hl, fun _ => rfl⟩) fun _ _ _ _ _ z => z
end K75
set_option Elab.async false
set_option linter.all false
open PySem PySem.W PyProof.Rows
set_option maxRecDepth 100000 in
set_option maxHeartbeats 0 in
theorem PySem.Challenge.cw_orderslaid_k75_whole_rising_families_holds : PySem.Challenge.rw_orderslaid_k75_whole_rising_families.Holds := by
  w_on; o_law; k_head; (case hw => w_witness2)
  k_fill
  refine K75.walk (l := PySem.Challenge.rw_orderslaid_k75_whole_rising_families) rfl rfl (fun w h Y => PySem.W.kIn_of Y) ?F
  case F =>
    intro w mg fa h KX G hmg
    refine' K75.all_mk KX G hmg ?aL ?lL ?cL ?kL (K75.hd_mk ?a_is_integer ?l_is_integer ?c_is_integer ?k_is_integer) (K75.hd_mk ?a_is_whole ?l_is_whole ?c_is_whole ?k_is_whole) (K75.hd_mk ?a_need_whole ?l_need_whole ?c_need_whole ?k_need_whole) (K75.hd_mk ?a_is_rising ?l_is_rising ?c_is_rising ?k_is_rising) (K75.hd_mk ?a_fits_lot ?l_fits_lot ?c_fits_lot ?k_fits_lot) (K75.hd_mk ?a_fits_family ?l_fits_family ?c_fits_family ?k_fits_family) (K75.hd_mk ?a_need_things_number ?l_need_things_number ?c_need_things_number ?k_need_things_number) (K75.hd_mk ?a_need_family ?l_need_family ?c_need_family ?k_need_family) (K75.hd_mk ?a_all_lots ?l_all_lots ?c_all_lots ?k_all_lots) (K75.hd_mk ?a_lies_in ?l_lies_in ?c_lies_in ?k_lies_in) (K75.hd_mk ?a_lowered ?l_lowered ?c_lowered ?k_lowered) (K75.hd_mk ?a_is_quiet_family ?l_is_quiet_family ?c_is_quiet_family ?k_is_quiet_family) (K75.hd_mk ?a_is_falling_family ?l_is_falling_family ?c_is_falling_family ?k_is_falling_family) (K75.hd_mk ?a_raised ?l_raised ?c_raised ?k_raised) (K75.hd_mk ?a_least_in_family ?l_least_in_family ?c_least_in_family ?k_least_in_family) (K75.hd_mk ?a_risen_in ?l_risen_in ?c_risen_in ?k_risen_in) (K75.hd_mk ?a_families_as_bits ?l_families_as_bits ?c_families_as_bits ?k_families_as_bits) (K75.hd_mk ?a_family_of_bits ?l_family_of_bits ?c_family_of_bits ?k_family_of_bits) (K75.hd_mk ?a_is_rising_family ?l_is_rising_family ?c_is_rising_family ?k_is_rising_family) (K75.hd_mk ?a_least_lots ?l_least_lots ?c_least_lots ?k_least_lots) (K75.hd_mk ?a_risen_family ?l_risen_family ?c_risen_family ?k_risen_family) (K75.hd_mk ?a_count_rising_families ?l_count_rising_families ?c_count_rising_families ?k_count_rising_families) (K75.hd_mk ?a_rising_families ?l_rising_families ?c_rising_families ?k_rising_families) (K75.hd_mk ?a__law_cup ?l__law_cup ?c__law_cup ?k__law_cup) (K75.hd_mk ?a__law_roll ?l__law_roll ?c__law_roll ?k__law_roll) (K75.hd_mk ?a__law_some ?l__law_some ?c__law_some ?k__law_some) (K75.hd_mk ?a__law_sort ?l__law_sort ?c__law_sort ?k__law_sort) (K75.hd_mk ?a__law_like ?l__law_like ?c__law_like ?k__law_like) (K75.hd_mk ?a__law_lots ?l__law_lots ?c__law_lots ?k__law_lots) (K75.hd_mk ?a__law_all ?l__law_all ?c__law_all ?k__law_all) (K75.hd_mk ?a__law_in ?l__law_in ?c__law_in ?k__law_in) (K75.hd_mk ?a__law_family ?l__law_family ?c__law_family ?k__law_family) (K75.hd_mk ?a__law_risen ?l__law_risen ?c__law_risen ?k__law_risen) (K75.hd_mk ?a__law_right ?l__law_right ?c__law_right ?k__law_right) ?g_THINGS ?g_COUNTED ?g_LISTED ?z_isinstance ?z_int ?z_bool ?z_all ?z_any ?z_zip ?z_range ?z_len ?z_tuple ?z_list ?z_dict ?z_sorted ?z_set ?z_abs ?z_str
    (case aL => k_is); (case lL => k_is); (case cL => k_is); (case kL => k_is)
    (case a_is_integer => k_is); (case l_is_integer => k_is); (case c_is_integer => k_is); (case k_is_integer => k_is)
    (case a_is_whole => k_is); (case l_is_whole => k_is); (case c_is_whole => k_is); (case k_is_whole => k_is)
    (case a_need_whole => k_is); (case l_need_whole => k_is); (case c_need_whole => k_is); (case k_need_whole => k_is)
    (case a_is_rising => k_is); (case l_is_rising => k_is); (case c_is_rising => k_is); (case k_is_rising => k_is)
    (case a_fits_lot => k_is); (case l_fits_lot => k_is); (case c_fits_lot => k_is); (case k_fits_lot => k_is)
    (case a_fits_family => k_is); (case l_fits_family => k_is); (case c_fits_family => k_is); (case k_fits_family => k_is)
    (case a_need_things_number => k_is); (case l_need_things_number => k_is); (case c_need_things_number => k_is); (case k_need_things_number => k_is)
    (case a_need_family => k_is); (case l_need_family => k_is); (case c_need_family => k_is); (case k_need_family => k_is)
    (case a_all_lots => k_is); (case l_all_lots => k_is); (case c_all_lots => k_is); (case k_all_lots => k_is)
    (case a_lies_in => k_is); (case l_lies_in => k_is); (case c_lies_in => k_is); (case k_lies_in => k_is)
    (case a_lowered => k_is); (case l_lowered => k_is); (case c_lowered => k_is); (case k_lowered => k_is)
    (case a_is_quiet_family => k_is); (case l_is_quiet_family => k_is); (case c_is_quiet_family => k_is); (case k_is_quiet_family => k_is)
    (case a_is_falling_family => k_is); (case l_is_falling_family => k_is); (case c_is_falling_family => k_is); (case k_is_falling_family => k_is)
    (case a_raised => k_is); (case l_raised => k_is); (case c_raised => k_is); (case k_raised => k_is)
    (case a_least_in_family => k_is); (case l_least_in_family => k_is); (case c_least_in_family => k_is); (case k_least_in_family => k_is)
    (case a_risen_in => k_is); (case l_risen_in => k_is); (case c_risen_in => k_is); (case k_risen_in => k_is)
    (case a_families_as_bits => k_is); (case l_families_as_bits => k_is); (case c_families_as_bits => k_is); (case k_families_as_bits => k_is)
    (case a_family_of_bits => k_is); (case l_family_of_bits => k_is); (case c_family_of_bits => k_is); (case k_family_of_bits => k_is)
    (case a_is_rising_family => k_is); (case l_is_rising_family => k_is); (case c_is_rising_family => k_is); (case k_is_rising_family => k_is)
    (case a_least_lots => k_is); (case l_least_lots => k_is); (case c_least_lots => k_is); (case k_least_lots => k_is)
    (case a_risen_family => k_is); (case l_risen_family => k_is); (case c_risen_family => k_is); (case k_risen_family => k_is)
    (case a_count_rising_families => k_is); (case l_count_rising_families => k_is); (case c_count_rising_families => k_is); (case k_count_rising_families => k_is)
    (case a_rising_families => k_is); (case l_rising_families => k_is); (case c_rising_families => k_is); (case k_rising_families => k_is)
    (case a__law_cup => k_is); (case l__law_cup => k_is); (case c__law_cup => k_is); (case k__law_cup => k_is)
    (case a__law_roll => k_is); (case l__law_roll => k_is); (case c__law_roll => k_is); (case k__law_roll => k_is)
    (case a__law_some => k_is); (case l__law_some => k_is); (case c__law_some => k_is); (case k__law_some => k_is)
    (case a__law_sort => k_is); (case l__law_sort => k_is); (case c__law_sort => k_is); (case k__law_sort => k_is)
    (case a__law_like => k_is); (case l__law_like => k_is); (case c__law_like => k_is); (case k__law_like => k_is)
    (case a__law_lots => k_is); (case l__law_lots => k_is); (case c__law_lots => k_is); (case k__law_lots => k_is)
    (case a__law_all => k_is); (case l__law_all => k_is); (case c__law_all => k_is); (case k__law_all => k_is)
    (case a__law_in => k_is); (case l__law_in => k_is); (case c__law_in => k_is); (case k__law_in => k_is)
    (case a__law_family => k_is); (case l__law_family => k_is); (case c__law_family => k_is); (case k__law_family => k_is)
    (case a__law_risen => k_is); (case l__law_risen => k_is); (case c__law_risen => k_is); (case k__law_risen => k_is)
    (case a__law_right => k_is); (case l__law_right => k_is); (case c__law_right => k_is); (case k__law_right => k_is)
    (case g_THINGS => k_is); (case g_COUNTED => k_is); (case g_LISTED => k_is)
    (case z_isinstance => k_is); (case z_int => k_is); (case z_bool => k_is); (case z_all => k_is); (case z_any => k_is); (case z_zip => k_is); (case z_range => k_is); (case z_len => k_is); (case z_tuple => k_is); (case z_list => k_is); (case z_dict => k_is); (case z_sorted => k_is); (case z_set => k_is); (case z_abs => k_is); (case z_str => k_is)
