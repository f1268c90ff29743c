import PyProof.Rows.All
import Wide.All
import OpenK.AllK
import Wide.FinOn
import HandS.ForMost
import HandS.ForExc
import HandS.Evl
import HandS.EndBits
import HandS.Wide
import HandS.IsInst
import HandS.Iter
import HandS.Style
import HandS.SetFor
import HandS.ExcIs
import HandS.ExcValue
import HandS.TupSets
import HandS.SortInts
import HandS.Strs
import HandS.Deep
import HandS.Text
import HandS.FStr
import HandS.Small
import KE.IntTextLaws
import KE.SortKeyed
import KE.SortData
import PySem.Challenge.RW_wheelcurves_k06_whole_chords
set_option Elab.async false
set_option linter.all false
set_option maxRecDepth 100000
set_option maxHeartbeats 4000000
/-! values as data, what is owned, and what a piece of the text gives -/
namespace WC
open PySem L2
open Evl (Ex)

mutual
inductive Dv (F : Hp) : V → PyData → Prop
  | non : Dv F .non .none
  | bl (b : Bool) : Dv F (.bl b) (.bool b)
  | int (i : Int) : Dv F (.int i) (.int i)
  | str (x : Str) : Dv F (.str x) (.str x)
  | lst {a : Addr} {xs : List V} {ds : List PyData} : F a = some (.lst xs) → DvAll F xs ds → Dv F (.ref a) (.list ds)
  | tup {a : Addr} {xs : List V} {ds : List PyData} : F a = some (.tup xs) → DvAll F xs ds → Dv F (.ref a) (.tuple ds)
inductive DvAll (F : Hp) : List V → List PyData → Prop
  | nil : DvAll F [] []
  | cons {v : V} {vs : List V} {d : PyData} {ds : List PyData} : Dv F v d → DvAll F vs ds → DvAll F (v :: vs) (d :: ds)
end

mutual
theorem Dv.mono {F F' : Hp} (e : Ex F F') {v : V} {d : PyData} : Dv F v d → Dv F' v d
  | .non => .non
  | .bl b => .bl b
  | .int i => .int i
  | .str x => .str x
  | .lst h hs => .lst (e _ _ h) (DvAll.mono e hs)
  | .tup h hs => .tup (e _ _ h) (DvAll.mono e hs)
theorem DvAll.mono {F F' : Hp} (e : Ex F F') {vs : List V} {ds : List PyData} : DvAll F vs ds → DvAll F' vs ds
  | .nil => .nil
  | .cons h hs => .cons (Dv.mono e h) (DvAll.mono e hs)
end
mutual
theorem Dv.dp {K : PySem.W.Frag} {F : Hp} {v : V} {d : PyData} : Dv F v d → Dp K F v d
  | .non => .non
  | .bl b => .bl b
  | .int i => .int i
  | .str x => .str x
  | .lst h hs => .lst (SqL.of h) (DvAll.dp hs)
  | .tup h hs => .tup (SqT.of h) (DvAll.dp hs)
theorem DvAll.dp {K : PySem.W.Frag} {F : Hp} {vs : List V} {ds : List PyData} : DvAll F vs ds → DpAll K F vs ds
  | .nil => .nil
  | .cons h hs => .cons (Dv.dp h) (DvAll.dp hs)
end
theorem DvAll.length {F : Hp} : ∀ {vs : List V} {ds : List PyData}, DvAll F vs ds → vs.length = ds.length
  | _, _, .nil => rfl
  | _, _, .cons _ hs => by rw [List.length_cons, List.length_cons, DvAll.length hs]
theorem DvAll.get {F : Hp} : ∀ {vs : List V} {ds : List PyData} {i : Nat} {d : PyData}, DvAll F vs ds → ds[i]? = some d → ∃ v, vs[i]? = some v ∧ Dv F v d
  | _, _, _, _, .nil, e => by simp at e
  | _, _, 0, _, .cons h _, e => by simp at e; subst e; exact ⟨_, rfl, h⟩
  | _, _, i + 1, d, .cons _ hs, e => by
    obtain ⟨v, h1, h2⟩ := DvAll.get (i := i) (d := d) hs (by simpa using e)
    exact ⟨v, by simpa using h1, h2⟩
theorem DvAll.getV {F : Hp} : ∀ {vs : List V} {ds : List PyData} {i : Nat} {v : V}, DvAll F vs ds → vs[i]? = some v → ∃ d, ds[i]? = some d ∧ Dv F v d
  | _, _, _, _, .nil, e => by simp at e
  | _, _, 0, _, .cons h _, e => by simp at e; subst e; exact ⟨_, rfl, h⟩
  | _, _, i + 1, d, .cons _ hs, e => by
    obtain ⟨v, h1, h2⟩ := DvAll.getV (i := i) (v := d) hs (by simpa using e)
    exact ⟨v, by simpa using h1, h2⟩
theorem DvAll.append {F : Hp} : ∀ {vs ws : List V} {ds es : List PyData}, DvAll F vs ds → DvAll F ws es → DvAll F (vs ++ ws) (ds ++ es)
  | _, _, _, _, .nil, s => s
  | _, _, _, _, .cons r t, s => .cons r (DvAll.append t s)
theorem DvAll.take {F : Hp} : ∀ {vs : List V} {ds : List PyData} (n : Nat), DvAll F vs ds → DvAll F (vs.take n) (ds.take n)
  | _, _, 0, _ => .nil
  | _, _, _ + 1, .nil => .nil
  | _, _, n + 1, .cons r t => .cons r (DvAll.take n t)
theorem DvAll.drop {F : Hp} : ∀ {vs : List V} {ds : List PyData} (n : Nat), DvAll F vs ds → DvAll F (vs.drop n) (ds.drop n)
  | _, _, 0, r => r
  | _, _, _ + 1, .nil => .nil
  | _, _, n + 1, .cons _ t => DvAll.drop n t
theorem DvAll.set {F : Hp} {x : V} {d : PyData} (r : Dv F x d) : ∀ {vs : List V} {ds : List PyData} (i : Nat), DvAll F vs ds → DvAll F (vs.set i x) (ds.set i d)
  | _, _, _, .nil => .nil
  | _, _, 0, .cons _ t => .cons r t
  | _, _, i + 1, .cons q t => .cons q (DvAll.set r i t)
theorem DvAll.snoc {F : Hp} {vs : List V} {ds : List PyData} {v : V} {d : PyData} (h : DvAll F vs ds) (hv : Dv F v d) : DvAll F (vs ++ [v]) (ds ++ [d]) := h.append (.cons hv .nil)
theorem DvAll.reverse {F : Hp} : ∀ {vs : List V} {ds : List PyData}, DvAll F vs ds → DvAll F vs.reverse ds.reverse
  | _, _, .nil => .nil
  | _, _, .cons r t => by rw [List.reverse_cons, List.reverse_cons]; exact (DvAll.reverse t).snoc r
theorem DvAll.rep {F : Hp} {vs : List V} {ds : List PyData} (h : DvAll F vs ds) : ∀ k : Nat, DvAll F (List.replicate k vs).flatten (List.replicate k ds).flatten
  | 0 => .nil
  | k + 1 => by rw [List.replicate_succ, List.replicate_succ, List.flatten_cons, List.flatten_cons]; exact h.append (DvAll.rep h k)
theorem DvAll.ints {F : Hp} : ∀ (ns : List Int), DvAll F (ns.map V.int) (ns.map PyData.int)
  | [] => .nil
  | n :: r => .cons (.int n) (DvAll.ints r)
theorem DvAll.ints_of {F : Hp} : ∀ {ns : List Int} {vs : List V}, DvAll F vs (ns.map PyData.int) → vs = ns.map V.int
  | [], _, h => by cases h; rfl
  | n :: r, _, h => by
    cases h with
    | cons a b => cases a; rw [DvAll.ints_of b]; rfl
theorem DvAll.strs_of {F : Hp} : ∀ {ns : List Str} {vs : List V}, DvAll F vs (ns.map PyData.str) → vs = ns.map V.str
  | [], _, h => by cases h; rfl
  | n :: r, _, h => by
    cases h with
    | cons a b => cases a; rw [DvAll.strs_of b]; rfl
theorem DvAll.bls_of {F : Hp} : ∀ {ns : List Bool} {vs : List V}, DvAll F vs (ns.map PyData.bool) → vs = ns.map V.bl
  | [], _, h => by cases h; rfl
  | n :: r, _, h => by
    cases h with
    | cons a b => cases a; rw [DvAll.bls_of b]; rfl
theorem Dv.lst_of {F : Hp} {v : V} {ds : List PyData} (h : Dv F v (.list ds)) : ∃ a xs, v = .ref a ∧ F a = some (.lst xs) ∧ DvAll F xs ds := by
  cases h with
  | lst a b => exact ⟨_, _, rfl, a, b⟩
theorem Dv.tup_of {F : Hp} {v : V} {ds : List PyData} (h : Dv F v (.tuple ds)) : ∃ a xs, v = .ref a ∧ F a = some (.tup xs) ∧ DvAll F xs ds := by
  cases h with
  | tup a b => exact ⟨_, _, rfl, a, b⟩

/-! ### what is owned -/
inductive MO where
  | lst (ds : List PyData)
  | dra (b : Addr) (c : Int)
  | drb (b : Addr) (ns : List Int)
  | gone
  | pin (b : Addr) (f : List V → HO) (ds : List PyData)
inductive Slot where
  | d (x : PyData)
  | own (j : Nat)
  | exc (D : Addr)
/-- a caught exception of the class D, kept -/
def ExK (D a : Addr) : HO := .ext fun h => ∃ (oe : Obj) (vs : Array Value), h.get? a = some oe ∧ Zc (.ref D) none oe ∧ oe.data = .fields vs
abbrev REnv := List (Option Slot)
def MOk (F H : Hp) (a : Addr) : MO → Prop
  | .lst ds => ∃ xs, H a = some (.lst xs) ∧ DvAll F xs ds
  | .dra b c => H a = some (.lst [.ref b, .int c])
  | .drb b ns => a = b ∧ H a = some (.lst (ns.map V.int))
  | .gone => True
  | .pin b f ds => a = b ∧ ∃ xs, H a = some (f xs) ∧ DvAll F xs ds
def SlotOk (As : List Addr) (F : Hp) (v : V) : Slot → Prop
  | .d x => Dv F v x
  | .own j => ∃ a, As[j]? = some a ∧ v = .ref a
  | .exc D => ∃ a, v = .ref a ∧ F a = some (ExK D a)
structure RepM (As : List Addr) (F H : Hp) (M : List MO) : Prop where
  ex : Ex F H
  nd : As.Nodup
  len : As.length = M.length
  ne : ∀ a ∈ As, H a ≠ none
  fr : ∀ (j : Nat) a o, As[j]? = some a → M[j]? = some o → o ≠ MO.gone → F a = none
  mem : ∀ (j : Nat) a o, As[j]? = some a → M[j]? = some o → MOk F H a o
structure RepE (As : List Addr) (F : Hp) (σ : St) (ρ : REnv) : Prop where
  len : σ.length = ρ.length
  env : ∀ (i : Nat) r, ρ[i]? = some (some r) → ∃ v, σ[i]? = some (some v) ∧ SlotOk As F v r
structure Step (As : List Addr) (F H : Hp) (As' : List Addr) (F' H' : Hp) : Prop where
  fe : Ex F F'
  keep : ∀ x o, x ∉ As → H x = some o → H' x = some o
  ne : ∀ x, H x ≠ none → H' x ≠ none
  cap : ∀ x, x ∉ As → F x = none → H x ≠ none → F' x = none
  grow : ∃ more, As' = As ++ more ∧ ∀ x ∈ more, H x = none
theorem Step.refl (As : List Addr) (F H : Hp) : Step As F H As F H :=
  ⟨Ex.refl F, fun _ _ _ h => h, fun _ h => h, fun _ _ h _ => h, [], by simp, by simp⟩
theorem Step.trans {As As1 As2 : List Addr} {F F1 F2 H H1 H2 : Hp} (a : Step As F H As1 F1 H1) (b : Step As1 F1 H1 As2 F2 H2) : Step As F H As2 F2 H2 := by
  obtain ⟨m1, e1, n1⟩ := a.grow
  obtain ⟨m2, e2, n2⟩ := b.grow
  have out : ∀ x, x ∉ As → H x ≠ none → x ∉ As1 := fun x h1 h2 h3 => by
    rw [e1] at h3
    rcases List.mem_append.mp h3 with z | z
    · exact h1 z
    · exact h2 (n1 x z)
  refine ⟨a.fe.trans b.fe, fun x o hx h => ?_, fun x h => b.ne x (a.ne x h), fun x hx hf hh => ?_, m1 ++ m2, by rw [e2, e1, List.append_assoc], fun x hx => ?_⟩
  · exact b.keep x o (out x hx (by rw [h]; simp)) (a.keep x o hx h)
  · exact b.cap x (out x hx hh) (a.cap x hx hf hh) (a.ne x hh)
  · rcases List.mem_append.mp hx with z | z
    · exact n1 x z
    · cases q : H x with
      | none => rfl
      | some o => exact absurd (n2 x z) (a.ne x (by rw [q]; simp))
theorem Step.pre {As As' : List Addr} {F F' H H' : Hp} (s : Step As F H As' F' H') {j : Nat} {a : Addr} (h : As[j]? = some a) : As'[j]? = some a := by
  obtain ⟨m, e, _⟩ := s.grow
  rw [e, List.getElem?_append_left (List.getElem?_eq_some_iff.mp h).1]
  exact h
theorem SlotOk.step {As As' : List Addr} {F F' H H' : Hp} (s : Step As F H As' F' H') {v : V} {r : Slot} (h : SlotOk As F v r) : SlotOk As' F' v r := by
  cases r with
  | d x => exact Dv.mono s.fe h
  | own j =>
    obtain ⟨a, h1, h2⟩ := h
    exact ⟨a, s.pre h1, h2⟩
  | exc D =>
    obtain ⟨a, h1, h2⟩ := h
    exact ⟨a, h1, s.fe _ _ h2⟩
theorem RepE.step {As As' : List Addr} {F F' H H' : Hp} (s : Step As F H As' F' H') {σ : St} {ρ : REnv} (h : RepE As F σ ρ) : RepE As' F' σ ρ :=
  ⟨h.len, fun i r e => by
    obtain ⟨v, h1, h2⟩ := h.env i r e
    exact ⟨v, h1, h2.step s⟩⟩
/-- lengths alike: nothing was added -/
theorem Step.same {As As' : List Addr} {F F' H H' : Hp} (s : Step As F H As' F' H') (h : As.length = As'.length) : As' = As := by
  obtain ⟨m, e, _⟩ := s.grow
  rw [e, List.length_append] at h
  have : m = [] := List.length_eq_zero_iff.mp (by omega)
  rw [e, this, List.append_nil]
/-- H grows, F grows by new things: what is owned stays -/
theorem RepM.grow {As : List Addr} {F F' H H' : Hp} {M : List MO} (h : RepM As F H M) (fe : Ex F F') (he : Ex H H') (fh : Ex F' H') (cap : ∀ x, F x = none → H x ≠ none → F' x = none) : RepM As F' H' M := by
  refine ⟨fh, h.nd, h.len, fun a ha z => ?_, fun j a o h1 h2 h3 => cap a (h.fr j a o h1 h2 h3) (h.ne a (List.mem_of_getElem? h1)), fun j a o h1 h2 => ?_⟩
  · cases q : H a with
    | none => exact h.ne a ha q
    | some o => rw [he a o q] at z; cases z
  · have q := h.mem j a o h1 h2
    cases o with
    | lst ds =>
      obtain ⟨xs, e1, e2⟩ := q
      exact ⟨xs, he _ _ e1, e2.mono fe⟩
    | dra b c => exact he _ _ q
    | drb b ns => exact ⟨q.1, he _ _ q.2⟩
    | gone => trivial
    | pin b f ds => obtain ⟨e0, xs, e1, e2⟩ := q; exact ⟨e0, xs, he _ _ e1, e2.mono fe⟩
/-- a new thing at p, known for good -/
theorem newF {As : List Addr} {F H : Hp} {M : List MO} (h : RepM As F H M) {p : Addr} (hp : H p = none) (o : HO) : Step As F H As (upd F p o) (upd H p o) ∧ RepM As (upd F p o) (upd H p o) M := by
  have fp : F p = none := by
    cases q : F p with
    | none => rfl
    | some u => rw [h.ex p u q] at hp; cases hp
  have np : ∀ x, H x ≠ none → x ≠ p := fun x hx e => hx (by rw [e]; exact hp)
  have cap : ∀ x, F x = none → H x ≠ none → upd F p o x = none := fun x h1 h2 => by rw [upd_ne (np x h2)]; exact h1
  have eh : Ex (upd F p o) (upd H p o) := fun a u e => by
    by_cases z : a = p
    · subst z; rw [upd_same] at e; rw [upd_same]; exact e
    · rw [upd_ne z] at e; rw [upd_ne z]; exact h.ex a u e
  refine ⟨⟨Evl.Ex.new fp, fun x u _ hx => Evl.Ex.new hp x u hx, fun x hx => ?_, fun x _ => cap x, [], by simp, by simp⟩, h.grow (Evl.Ex.new fp) (Evl.Ex.new hp) eh cap⟩
  rw [upd_ne (np x hx)]; exact hx
/-- a new thing at p that is no part of the data (an owned list) -/
theorem newM {As : List Addr} {F H : Hp} {M : List MO} (h : RepM As F H M) {p : Addr} (hp : H p = none) {xs : List V} {ds : List PyData} (hd : DvAll F xs ds) :
    Step As F H (As ++ [p]) F (upd H p (.lst xs)) ∧ RepM (As ++ [p]) F (upd H p (.lst xs)) (M ++ [.lst ds]) := by
  have fp : F p = none := by
    cases q : F p with
    | none => rfl
    | some u => rw [h.ex p u q] at hp; cases hp
  have np : ∀ x, H x ≠ none → x ≠ p := fun x hx e => hx (by rw [e]; exact hp)
  have pa : p ∉ As := fun z => h.ne p z hp
  have G := h.grow (Ex.refl F) (Evl.Ex.new (o := .lst xs) hp) (fun a u e => Evl.Ex.new hp a u (h.ex a u e)) (fun x a _ => a)
  refine ⟨⟨Ex.refl F, fun x u _ hx => Evl.Ex.new hp x u hx, fun x hx => by rw [upd_ne (np x hx)]; exact hx, fun x _ a _ => a, [p], rfl, by simpa using hp⟩, ⟨G.ex, ?_, by simp [h.len], fun a ha => ?_, fun j a o h1 h2 h3 => ?_, fun j a o h1 h2 => ?_⟩⟩
  · exact List.nodup_append.mpr ⟨h.nd, by simp, fun a ha b hb e => by simp at hb; exact pa (by rw [← hb, ← e]; exact ha)⟩
  · rcases List.mem_append.mp ha with z | z
    · exact G.ne a z
    · simp at z; subst z; rw [upd_same]; simp
  · by_cases hj : j < As.length
    · rw [List.getElem?_append_left hj] at h1
      rw [List.getElem?_append_left (by rw [← h.len]; exact hj)] at h2
      exact G.fr j a o h1 h2 h3
    · have e : j = As.length := by
        have := (List.getElem?_eq_some_iff.mp h1).1
        simp at this; omega
      subst e
      simp at h1; subst h1; exact fp
  · by_cases hj : j < As.length
    · rw [List.getElem?_append_left hj] at h1
      rw [List.getElem?_append_left (by rw [← h.len]; exact hj)] at h2
      have q := G.mem j a o h1 h2
      cases o with
      | lst ds => exact q
      | dra b c => exact q
      | drb b ns => exact q
      | gone => trivial
      | pin b f ds => exact q
    · have e : j = As.length := by
        have := (List.getElem?_eq_some_iff.mp h1).1
        simp at this; omega
      subst e
      simp at h1; subst h1
      rw [h.len] at h2
      simp at h2; subst h2
      exact ⟨xs, upd_same, hd⟩
/-- an owned list becomes data for good; its place is empty -/
theorem relM {As : List Addr} {F H : Hp} {M : List MO} (h : RepM As F H M) {j : Nat} {a : Addr} {ds : List PyData} (ha : As[j]? = some a) (hm : M[j]? = some (.lst ds)) :
    ∃ F', Step As F H As F' H ∧ RepM As F' H (M.set j .gone) ∧ Dv F' (.ref a) (.list ds) := by
  obtain ⟨xs, e1, e2⟩ := h.mem j a _ ha hm
  have fa : F a = none := h.fr j a _ ha hm (by simp)
  have fe : Ex F (upd F a (.lst xs)) := Evl.Ex.new fa
  have mem : a ∈ As := List.mem_of_getElem? ha
  refine ⟨upd F a (.lst xs), ⟨fe, fun _ _ _ q => q, fun _ q => q, fun x hx q _ => ?_, [], by simp, by simp⟩, ⟨fun x o q => ?_, h.nd, by simp [h.len], h.ne, fun i b o h1 h2 h3 => ?_, fun i b o h1 h2 => ?_⟩, .lst upd_same (e2.mono fe)⟩
  · rw [upd_ne (fun z => hx (by rw [z]; exact mem))]; exact q
  · by_cases z : x = a
    · subst z; rw [upd_same] at q; rw [e1]; exact q
    · rw [upd_ne z] at q; exact h.ex x o q
  · by_cases hij : i = j
    · subst hij
      rw [List.getElem?_set_self (List.getElem?_eq_some_iff.mp hm).1] at h2
      cases h2; exact absurd rfl h3
    · rw [List.getElem?_set_ne (Ne.symm hij)] at h2
      have nb : b ≠ a := fun z => by
        subst z
        exact hij (nd_ix h.nd h1 ha)
      rw [upd_ne nb]
      exact h.fr i b o h1 h2 h3
  · by_cases hij : i = j
    · subst hij
      rw [List.getElem?_set_self (List.getElem?_eq_some_iff.mp hm).1] at h2
      cases h2; trivial
    · rw [List.getElem?_set_ne (Ne.symm hij)] at h2
      have q := h.mem i b o h1 h2
      cases o with
      | lst ds =>
        obtain ⟨ys, k1, k2⟩ := q
        exact ⟨ys, k1, k2.mono fe⟩
      | dra b c => exact q
      | drb b ns => exact q
      | gone => trivial
      | pin b f ds => obtain ⟨e0, ys, k1, k2⟩ := q; exact ⟨e0, ys, k1, k2.mono fe⟩
/-- the last owned list becomes data, its place is dropped -/
theorem relLast {As : List Addr} {F H : Hp} {M : List MO} {a : Addr} {ds : List PyData} (h : RepM (As ++ [a]) F H (M ++ [.lst ds])) (hl : As.length = M.length) :
    ∃ F', Ex F F' ∧ (∀ x, x ≠ a → F' x = F x) ∧ RepM As F' H M ∧ Dv F' (.ref a) (.list ds) := by
  have ha : (As ++ [a])[As.length]? = some a := by simp
  have hm : (M ++ [.lst ds])[As.length]? = some (.lst ds) := by rw [hl]; simp
  obtain ⟨xs, e1, e2⟩ := h.mem _ a _ ha hm
  have fa : F a = none := h.fr _ a _ ha hm (by simp)
  have fe : Ex F (upd F a (.lst xs)) := Evl.Ex.new fa
  have nda := List.nodup_append.mp h.nd
  have nm : ∀ x ∈ As, x ≠ a := fun x hx e => nda.2.2 x hx a (by simp) e
  refine ⟨upd F a (.lst xs), fe, fun x hx => upd_ne hx, ⟨fun x o q => ?_, nda.1, hl, fun x hx => h.ne x (List.mem_append_left _ hx), fun i b o h1 h2 h3 => ?_, fun i b o h1 h2 => ?_⟩, .lst upd_same (e2.mono fe)⟩
  · by_cases z : x = a
    · subst z; rw [upd_same] at q; rw [e1]; exact q
    · rw [upd_ne z] at q; exact h.ex x o q
  · have hi := (List.getElem?_eq_some_iff.mp h1).1
    rw [upd_ne (nm b (List.mem_of_getElem? h1))]
    exact h.fr i b o (by rw [List.getElem?_append_left hi]; exact h1) (by rw [List.getElem?_append_left (by rw [← hl]; exact hi)]; exact h2) h3
  · have hi := (List.getElem?_eq_some_iff.mp h1).1
    have q := h.mem i b o (by rw [List.getElem?_append_left hi]; exact h1) (by rw [List.getElem?_append_left (by rw [← hl]; exact hi)]; exact h2)
    cases o with
    | lst ds =>
      obtain ⟨ys, k1, k2⟩ := q
      exact ⟨ys, k1, k2.mono fe⟩
    | dra b c => exact q
    | drb b ns => exact q
    | gone => trivial
    | pin b f ds => obtain ⟨e0, ys, k1, k2⟩ := q; exact ⟨e0, ys, k1, k2.mono fe⟩
end WC

/-! what a piece of the text gives, by data -/
namespace WC
open PySem L2
open Evl (Ex)

/-! ### any rule that holds -/
def wE (X : Cx) (e : Expr) : TE := fun σ H Q => ∃ t, PE X e t ∧ t σ H Q
def wT (X : Cx) (e : Expr) : TT := fun σ H Q => ∃ t, PT X e t ∧ t σ H Q
def wW (X : Cx) (e : Expr) : TT := fun σ H Q => ∃ t, PW X e t ∧ t σ H Q
def wTs (X : Cx) (es : List Expr) : TT := fun σ H Q => ∃ t, PTs X es t ∧ t σ H Q
def wA (X : Cx) (es : List Expr) : TA := fun σ H Q => ∃ t, PA X es t ∧ t σ H Q
def wS (X : Cx) (st : Stmt) : TS := fun D σ H => ∃ t, PS X st t ∧ t D σ H
def wSs (X : Cx) (sts : List Stmt) : TS := fun D σ H => ∃ t, PSs X sts t ∧ t D σ H
def wG (X : Cx) (tg : Expr) : TG := fun v σ H Q => ∃ t, PG X tg t ∧ t v σ H Q
def wGs (X : Cx) (tg : List Expr) : TGs := fun v σ H Q => ∃ t, PGs X tg t ∧ t v σ H Q
def wI (X : Cx) (tg iter : Expr) : TI := fun σ H R => ∃ t, PI X tg iter t ∧ t σ H R
theorem pe_w (X : Cx) (e : Expr) : PE X e (wE X e) := ⟨fun pins s σ H Q I ⟨_, h, q⟩ => h.run pins s σ H Q I q⟩
theorem pt_w (X : Cx) (e : Expr) : PT X e (wT X e) := ⟨fun pins s σ H Q I ⟨_, h, q⟩ => h.run pins s σ H Q I q⟩
theorem pw_w (X : Cx) (e : Expr) : PW X e (wW X e) := ⟨fun wh pins s σ H Q I ⟨_, h, q⟩ => h.run wh pins s σ H Q I q⟩
theorem pts_w (X : Cx) (e : List Expr) : PTs X e (wTs X e) := ⟨fun pins s σ H Q I ⟨_, h, q⟩ => h.run pins s σ H Q I q⟩
theorem pa_w (X : Cx) (es : List Expr) : PA X es (wA X es) := ⟨fun pos pins s σ H Q I ⟨_, h, q⟩ => h.run pos pins s σ H Q I q⟩
theorem ps_w (X : Cx) (st : Stmt) : PS X st (wS X st) := ⟨fun pins s σ H D I ⟨_, h, q⟩ => h.run pins s σ H D I q⟩
theorem pss_w (X : Cx) (sts : List Stmt) : PSs X sts (wSs X sts) := ⟨fun pins s σ H D I ⟨_, h, q⟩ => h.run pins s σ H D I q⟩
theorem pg_w (X : Cx) (tg : Expr) : PG X tg (wG X tg) := ⟨fun pins s σ H v u Q I r ⟨_, h, q⟩ => h.run pins s σ H v u Q I r q⟩
theorem pgs_w (X : Cx) (tg : List Expr) : PGs X tg (wGs X tg) := ⟨fun pins s σ H v u Q I r ⟨_, h, q⟩ => h.run pins s σ H v u Q I r q⟩
theorem pi_w (X : Cx) (tg iter : Expr) : PI X tg iter (wI X tg iter) := ⟨fun pins s σ H R I ⟨_, h, q⟩ => h.run pins s σ H R I q⟩

/-! ### the judgements -/
inductive SlotsOk (As : List Addr) (F : Hp) : List V → List Slot → Prop
  | nil : SlotsOk As F [] []
  | cons {v : V} {r : Slot} {vs : List V} {rs : List Slot} : SlotOk As F v r → SlotsOk As F vs rs → SlotsOk As F (v :: vs) (r :: rs)
theorem SlotsOk.step {As As' : List Addr} {F F' H H' : Hp} (s : Step As F H As' F' H') : ∀ {vs : List V} {rs : List Slot}, SlotsOk As F vs rs → SlotsOk As' F' vs rs
  | _, _, .nil => .nil
  | _, _, .cons h t => .cons (h.step s) (SlotsOk.step s t)
theorem SlotsOk.data {As : List Addr} {F : Hp} : ∀ {vs : List V} {ds : List PyData}, SlotsOk As F vs (ds.map Slot.d) → DvAll F vs ds
  | _, [], h => by cases h; exact .nil
  | _, d :: r, h => by
    cases h with
    | cons a b => exact .cons a (SlotsOk.data b)
def ED (X : Cx) (ρ : REnv) (M : List MO) (e : Expr) (r : Slot) (M' : List MO) : Prop :=
  ∀ (As : List Addr) (σ : St) (F H : Hp), RepM As F H M → RepE As F σ ρ → ∀ Q : VK,
    (∀ v As' F' H', Step As F H As' F' H' → RepM As' F' H' M' → SlotOk As' F' v r → Q v H') → wE X e σ H Q
def BT (X : Cx) (ρ : REnv) (M : List MO) (e : Expr) (b : Bool) (M' : List MO) : Prop :=
  ∀ (As : List Addr) (σ : St) (F H : Hp), RepM As F H M → RepE As F σ ρ → ∀ Q : Bool → Hp → Prop,
    (∀ As' F' H', Step As F H As' F' H' → RepM As' F' H' M' → Q b H') → wT X e σ H Q
def BW (X : Cx) (ρ : REnv) (M : List MO) (e : Expr) (b : Bool) (M' : List MO) : Prop :=
  ∀ (As : List Addr) (σ : St) (F H : Hp), RepM As F H M → RepE As F σ ρ → ∀ Q : Bool → Hp → Prop,
    (∀ As' F' H', Step As F H As' F' H' → RepM As' F' H' M' → Q b H') → wW X e σ H Q
def BTs (X : Cx) (ρ : REnv) (M : List MO) (es : List Expr) (b : Bool) (M' : List MO) : Prop :=
  ∀ (As : List Addr) (σ : St) (F H : Hp), RepM As F H M → RepE As F σ ρ → ∀ Q : Bool → Hp → Prop,
    (∀ As' F' H', Step As F H As' F' H' → RepM As' F' H' M' → Q b H') → wTs X es σ H Q
def AD (X : Cx) (ρ : REnv) (M : List MO) (es : List Expr) (rs : List Slot) (M' : List MO) : Prop :=
  ∀ (As : List Addr) (σ : St) (F H : Hp), RepM As F H M → RepE As F σ ρ → ∀ Q : List V → Hp → Prop,
    (∀ vs As' F' H', Step As F H As' F' H' → RepM As' F' H' M' → SlotsOk As' F' vs rs → Q vs H') → wA X es σ H Q
/-- what is read of a slot -/
inductive Rds (M : List MO) : Slot → PyData → Prop
  | d (x : PyData) : Rds M (.d x) x
  | own {j : Nat} {ds : List PyData} : M[j]? = some (.lst ds) → Rds M (.own j) (.list ds)
  | pin {j : Nat} {b : Addr} {ds : List PyData} : M[j]? = some (.pin b HO.lst ds) → Rds M (.own j) (.list ds)
theorem Rds.dv {M : List MO} {As : List Addr} {F H : Hp} (h : RepM As F H M) {v : V} {r : Slot} {x : PyData} (o : SlotOk As F v r) (d : Rds M r x) : Dv H v x := by
  cases d with
  | d x => exact Dv.mono h.ex o
  | own e =>
    obtain ⟨a, h1, rfl⟩ := o
    obtain ⟨xs, k1, k2⟩ := h.mem _ a _ h1 e
    exact .lst k1 (k2.mono h.ex)
  | pin e =>
    obtain ⟨a, h1, rfl⟩ := o
    obtain ⟨_, xs, k1, k2⟩ := h.mem _ a _ h1 e
    exact .lst k1 (k2.mono h.ex)

section
variable {X : Cx} {ρ : REnv} {M M1 M2 M3 : List MO} {a b c e : Expr} {r r1 r2 : Slot} {pos : Pos} {k k1 k2 : Bool}

/-! ### names, constants -/
theorem ed_var {i : Nat} {x : Str} (h : ρ[i]? = some (some r) := by rfl) (hN : X.N[i]? = some x := by rfl) (hv : Vis X.env.scope x := by first | exact Or.inl rfl | exact Or.inr (Or.inl rfl) | exact Or.inr (Or.inr rfl)) (hd : (x == ("__debug__" : Str)) = false := by decide)
    (hcd : (x == ("__classdict__" : Str)) = false := by decide) : ED X ρ M (.Name x pos) r M := fun As σ F H hM hE Q q => by
  obtain ⟨v, h1, h2⟩ := hE.env i r h
  exact ⟨_, pe_var hN hv hd hcd, v, h1, q v As F H (Step.refl ..) hM h2⟩
theorem ed_int {i j} : ED X ρ M (.Constant (.int i) j pos) (.d (.int i)) M := fun As σ F H hM hE Q q => ⟨_, pe_int, q _ As F H (Step.refl ..) hM (.int i)⟩
theorem ed_bl {i j} : ED X ρ M (.Constant (.bool i) j pos) (.d (.bool i)) M := fun As σ F H hM hE Q q => ⟨_, pe_bl, q _ As F H (Step.refl ..) hM (.bl i)⟩
theorem ed_non {j} : ED X ρ M (.Constant .none j pos) (.d .none) M := fun As σ F H hM hE Q q => ⟨_, pe_non, q _ As F H (Step.refl ..) hM .non⟩
theorem ed_str {x j} : ED X ρ M (.Constant (.str x) j pos) (.d (.str x)) M := fun As σ F H hM hE Q q => ⟨_, pe_str, q _ As F H (Step.refl ..) hM (.str x)⟩
theorem ed_globI {x : Str} {i : Int} {t : Tok} (hg : Gl X x) (hm : X.mg x = some (.int i t)) (hd : (x == ("__debug__" : Str)) = false := by decide) : ED X ρ M (.Name x pos) (.d (.int i)) M := fun As σ F H hM hE Q q =>
  ⟨_, pe_glob (v := .int i) hg hm ⟨_, rfl⟩ hd, q _ As F H (Step.refl ..) hM (.int i)⟩
theorem ed_globS {x : Str} {z : Str} {t} (hg : Gl X x) (hm : X.mg x = some (.str z t)) (hd : (x == ("__debug__" : Str)) = false := by decide) : ED X ρ M (.Name x pos) (.d (.str z)) M := fun As σ F H hM hE Q q =>
  ⟨_, pe_glob (v := .str z) hg hm ⟨_, rfl⟩ hd, q _ As F H (Step.refl ..) hM (.str z)⟩

/-! ### operators -/
theorem ed_bin {op : Operator} {rr : R2} (ho : OpR X (binaryOp op) rr) (ha : ED X ρ M a r1 M1) (hb : ED X ρ M1 b r2 M2)
    (hr : ∀ As F H v1 v2 (Q : VK), RepM As F H M2 → SlotOk As F v1 r1 → SlotOk As F v2 r2 → (∀ v As' F' H', Step As F H As' F' H' → RepM As' F' H' M3 → SlotOk As' F' v r → Q v H') → rr v1 v2 H Q) :
    ED X ρ M (.BinOp a op b pos) r M3 := fun As σ F H hM hE Q q =>
  ⟨_, pe_op ho (pe_w X a) (pe_w X b), ha As σ F H hM hE _ fun v1 As1 F1 H1 s1 m1 o1 => hb As1 σ F1 H1 m1 (hE.step s1) _ fun v2 As2 F2 H2 s2 m2 o2 =>
    hr As2 F2 H2 v1 v2 Q m2 (o1.step s2) o2 fun v As3 F3 H3 s3 m3 o3 => q v As3 F3 H3 ((s1.trans s2).trans s3) m3 o3⟩
theorem ed_binI {op : Operator} {C : Int → Int → Prop} {g : Int → Int → Int} {i j : Int} (ho : OpR X (binaryOp op) (rI C fun i j => .int (g i j))) (ha : ED X ρ M a (.d (.int i)) M1) (hb : ED X ρ M1 b (.d (.int j)) M2) (hc : C i j) :
    ED X ρ M (.BinOp a op b pos) (.d (.int (g i j))) M2 := ed_bin ho ha hb fun As F H v1 v2 Q m o1 o2 q => by
  cases o1; cases o2
  exact ⟨i, j, rfl, rfl, hc, q _ As F H (Step.refl ..) m (.int _)⟩
theorem ed_binI0 {op : Operator} {g : Int → Int → Int} {i j : Int} (ho : OpR X (binaryOp op) (rI0 fun i j => .int (g i j))) (ha : ED X ρ M a (.d (.int i)) M1) (hb : ED X ρ M1 b (.d (.int j)) M2) :
    ED X ρ M (.BinOp a op b pos) (.d (.int (g i j))) M2 := ed_bin ho ha hb fun As F H v1 v2 Q m o1 o2 q => by
  cases o1; cases o2
  exact ⟨i, j, rfl, rfl, q _ As F H (Step.refl ..) m (.int _)⟩
variable {i j : Int}
theorem ed_add (ha : ED X ρ M a (.d (.int i)) M1) (hb : ED X ρ M1 b (.d (.int j)) M2) : ED X ρ M (.BinOp a .Add b pos) (.d (.int (i + j))) M2 := ed_binI0 (g := fun i j => i + j) op_add ha hb
theorem ed_sub (ha : ED X ρ M a (.d (.int i)) M1) (hb : ED X ρ M1 b (.d (.int j)) M2) : ED X ρ M (.BinOp a .Sub b pos) (.d (.int (i - j))) M2 := ed_binI0 (g := fun i j => i - j) op_sub ha hb
theorem ed_mul (ha : ED X ρ M a (.d (.int i)) M1) (hb : ED X ρ M1 b (.d (.int j)) M2) (hc : (-(2 ^ 64) < i ∧ i < 2 ^ 64) ∨ (-(2 ^ 64) < j ∧ j < 2 ^ 64)) : ED X ρ M (.BinOp a .Mult b pos) (.d (.int (i * j))) M2 := ed_binI (g := fun i j => i * j) op_mul ha hb hc
theorem ed_mod (ha : ED X ρ M a (.d (.int i)) M1) (hb : ED X ρ M1 b (.d (.int j)) M2) (hc : 0 < j) : ED X ρ M (.BinOp a .Mod b pos) (.d (.int (i % j))) M2 := ed_binI (C := fun _ j => 0 < j) (g := fun i j => i % j) op_mod ha hb hc
theorem ed_div (ha : ED X ρ M a (.d (.int i)) M1) (hb : ED X ρ M1 b (.d (.int j)) M2) (hc : 0 < j ∧ j < 1073741824) : ED X ρ M (.BinOp a .FloorDiv b pos) (.d (.int (i / j))) M2 := ed_binI (C := CDiv) (g := fun i j => i / j) op_fdiv ha hb hc
theorem ed_pow (ha : ED X ρ M a (.d (.int i)) M1) (hb : ED X ρ M1 b (.d (.int j)) M2) (hc : CPow i j) : ED X ρ M (.BinOp a .Pow b pos) (.d (.int (i ^ j.toNat))) M2 := ed_binI (C := CPow) (g := fun i j => i ^ j.toNat) op_pow ha hb hc
theorem ed_neg (ha : ED X ρ M a (.d (.int i)) M1) : ED X ρ M (.UnaryOp .USub a pos) (.d (.int (-i))) M1 := fun As σ F H hM hE Q q =>
  ⟨_, pe_un un_neg (pe_w X a), ha As σ F H hM hE _ fun v1 As1 F1 H1 s1 m1 o1 => by
    cases o1
    exact ⟨i, rfl, q _ As1 F1 H1 s1 m1 (.int _)⟩⟩

/-! ### comparisons, tests -/
theorem ed_cmp {op : CmpOp} {rr : R2} (ho : OpR X (compareOp op) rr) (hm : behindInMarks op b = false) (ha : ED X ρ M a r1 M1) (hb : ED X ρ M1 b r2 M2)
    (hr : ∀ As F H v1 v2 (Q : VK), RepM As F H M2 → SlotOk As F v1 r1 → SlotOk As F v2 r2 → Q (.bl k) H → rr v1 v2 H Q) : ED X ρ M (.Compare a [op] [b] pos) (.d (.bool k)) M2 := fun As σ F H hM hE Q q =>
  ⟨_, pe_cmpR ho (pe_w X a) (pe_w X b) hm, ha As σ F H hM hE _ fun v1 As1 F1 H1 s1 m1 o1 => hb As1 σ F1 H1 m1 (hE.step s1) _ fun v2 As2 F2 H2 s2 m2 o2 =>
    hr As2 F2 H2 v1 v2 Q m2 (o1.step s2) o2 (q _ As2 F2 H2 (s1.trans s2) m2 (.bl k))⟩
theorem bt_cmp {op : CmpOp} {rr : R2} (ho : OpR X (compareOp op) rr) (hm : behindInMarks op b = false) (ha : ED X ρ M a r1 M1) (hb : ED X ρ M1 b r2 M2)
    (hr : ∀ As F H v1 v2 (Q : VK), RepM As F H M2 → SlotOk As F v1 r1 → SlotOk As F v2 r2 → Q (.bl k) H → rr v1 v2 H Q) : BT X ρ M (.Compare a [op] [b] pos) k M2 := fun As σ F H hM hE Q q =>
  ⟨_, pt_cmpR ho (pe_w X a) (pe_w X b) hm, ha As σ F H hM hE _ fun v1 As1 F1 H1 s1 m1 o1 => hb As1 σ F1 H1 m1 (hE.step s1) _ fun v2 As2 F2 H2 s2 m2 o2 =>
    hr As2 F2 H2 v1 v2 _ m2 (o1.step s2) o2 ⟨k, rfl, q As2 F2 H2 (s1.trans s2) m2⟩⟩
/-- what a comparison of two data says -/
structure CmpD (X : Cx) (op : CmpOp) (M : List MO) (r1 r2 : Slot) (k : Bool) : Prop where
  ex : ∃ rr, OpR X (compareOp op) rr ∧ ∀ As F H v1 v2 (Q : VK), RepM As F H M → SlotOk As F v1 r1 → SlotOk As F v2 r2 → Q (.bl k) H → rr v1 v2 H Q
theorem ed_cmpD {op : CmpOp} (ha : ED X ρ M a r1 M1) (hb : ED X ρ M1 b r2 M2) (h : CmpD X op M2 r1 r2 k) (hm : behindInMarks op b = false) : ED X ρ M (.Compare a [op] [b] pos) (.d (.bool k)) M2 := by
  obtain ⟨rr, ho, hr⟩ := h.ex
  exact ed_cmp ho hm ha hb hr
theorem bt_cmpD {op : CmpOp} (ha : ED X ρ M a r1 M1) (hb : ED X ρ M1 b r2 M2) (h : CmpD X op M2 r1 r2 k) (hm : behindInMarks op b = false) : BT X ρ M (.Compare a [op] [b] pos) k M2 := by
  obtain ⟨rr, ho, hr⟩ := h.ex
  exact bt_cmp ho hm ha hb hr
theorem cd_lt : CmpD X .Lt M (.d (.int i)) (.d (.int j)) (decide (i < j)) := ⟨_, op_lt, fun As F H v1 v2 Q m o1 o2 q => by cases o1; cases o2; exact ⟨i, j, rfl, rfl, q⟩⟩
theorem cd_le : CmpD X .LtE M (.d (.int i)) (.d (.int j)) (decide (i ≤ j)) := ⟨_, op_le, fun As F H v1 v2 Q m o1 o2 q => by cases o1; cases o2; exact ⟨i, j, rfl, rfl, q⟩⟩
theorem cd_gt : CmpD X .Gt M (.d (.int i)) (.d (.int j)) (decide (j < i)) := ⟨_, op_gt, fun As F H v1 v2 Q m o1 o2 q => by cases o1; cases o2; exact ⟨i, j, rfl, rfl, q⟩⟩
theorem cd_ge : CmpD X .GtE M (.d (.int i)) (.d (.int j)) (decide (j ≤ i)) := ⟨_, op_ge, fun As F H v1 v2 Q m o1 o2 q => by cases o1; cases o2; exact ⟨i, j, rfl, rfl, q⟩⟩
/-- == and != of data of any depth -/
theorem cd_eq {d1 d2 : PyData} (hu : X.A.units + 64 < cLine) (h1 : Rds M r1 d1) (h2 : Rds M r2 d2) (s1 : SeqAt.shaped d1 = true) (s2 : SeqAt.shaped d2 = true) : CmpD X .Eq M r1 r2 (PyData.eqv d1 d2) :=
  ⟨_, op_eqD hu, fun As F H v1 v2 Q m o1 o2 q => ⟨d1, d2, (h1.dv m o1).dp, (h2.dv m o2).dp, s1, s2, q⟩⟩
theorem cd_ne {d1 d2 : PyData} (hu : X.A.units + 64 < cLine) (h1 : Rds M r1 d1) (h2 : Rds M r2 d2) (s1 : SeqAt.shaped d1 = true) (s2 : SeqAt.shaped d2 = true) : CmpD X .NotEq M r1 r2 (!PyData.eqv d1 d2) :=
  ⟨_, op_neD hu, fun As F H v1 v2 Q m o1 o2 q => ⟨d1, d2, (h1.dv m o1).dp, (h2.dv m o2).dp, s1, s2, q⟩⟩
theorem cd_eqI : CmpD X .Eq M (.d (.int i)) (.d (.int j)) (decide (i = j)) := ⟨_, op_eq, fun As F H v1 v2 Q m o1 o2 q => by
  cases o1; cases o2
  exact ⟨rfl, by rw [show decide (V.int i = V.int j) = decide (i = j) by simp]; exact q⟩⟩
theorem cd_neI : CmpD X .NotEq M (.d (.int i)) (.d (.int j)) (!decide (i = j)) := ⟨_, op_ne, fun As F H v1 v2 Q m o1 o2 q => by
  cases o1; cases o2
  exact ⟨rfl, by rw [show decide (V.int i = V.int j) = decide (i = j) by simp]; exact q⟩⟩
theorem cd_eqS {x y : Str} : CmpD X .Eq M (.d (.str x)) (.d (.str y)) (decide (x = y)) := ⟨_, op_eq, fun As F H v1 v2 Q m o1 o2 q => by
  cases o1; cases o2
  exact ⟨rfl, by rw [show decide (V.str x = V.str y) = decide (x = y) by simp]; exact q⟩⟩
theorem cd_neS {x y : Str} : CmpD X .NotEq M (.d (.str x)) (.d (.str y)) (!decide (x = y)) := ⟨_, op_ne, fun As F H v1 v2 Q m o1 o2 q => by
  cases o1; cases o2
  exact ⟨rfl, by rw [show decide (V.str x = V.str y) = decide (x = y) by simp]; exact q⟩⟩
def isNoneD : PyData → Bool
  | .none => true
  | _ => false
theorem dv_none {F : Hp} {v : V} {d : PyData} (h : Dv F v d) : decide (v = .non) = isNoneD d := by cases h <;> rfl
theorem cd_isN {d : PyData} : CmpD X .Is M (.d d) (.d .none) (isNoneD d) := ⟨_, op_isN, fun As F H v1 v2 Q m o1 o2 q => by
  cases o2
  exact ⟨rfl, by rw [dv_none o1]; exact q⟩⟩
theorem cd_notN {d : PyData} : CmpD X .IsNot M (.d d) (.d .none) (!isNoneD d) := ⟨_, op_notN, fun As F H v1 v2 Q m o1 o2 q => by
  cases o2
  exact ⟨rfl, by rw [dv_none o1]; exact q⟩⟩
/-- a value that is a bool, as a test -/
theorem bt_val (h : ED X ρ M e (.d (.bool k)) M1) (he : ∀ whole, isTrue e X.env whole = (do let v ← whole; standAt e.pos; holding [v] (truthy v)) := by intro _; rfl) : BT X ρ M e k M1 := fun As σ F H hM hE Q q =>
  ⟨_, pt_val (pe_w X e) he, h As σ F H hM hE _ fun v As1 F1 H1 s1 m1 o1 => by
    cases o1
    exact ⟨k, rfl, q As1 F1 H1 s1 m1⟩⟩
theorem bt_not (h : BT X ρ M a k M1) : BT X ρ M (.UnaryOp .Not a pos) (!k) M1 := fun As σ F H hM hE Q q =>
  ⟨_, pt_not (pt_w X a), h As σ F H hM hE _ fun As1 F1 H1 s1 m1 => q As1 F1 H1 s1 m1⟩
theorem bw_bt (h : BW X ρ M e k M1) : BT X ρ M e k M1 := fun As σ F H hM hE Q q => ⟨_, (pw_w X e).pt, h As σ F H hM hE Q q⟩
variable {rest : List Expr}
theorem bw_and1 (h : BT X ρ M a k M1) : BW X ρ M (.BoolOp .And [a] pos) k M1 := fun As σ F H hM hE Q q => ⟨_, pw_and1 (pt_w X a), h As σ F H hM hE Q q⟩
theorem bw_or1 (h : BT X ρ M a k M1) : BW X ρ M (.BoolOp .Or [a] pos) k M1 := fun As σ F H hM hE Q q => ⟨_, pw_or1 (pt_w X a), h As σ F H hM hE Q q⟩
theorem bw_and (ha : BT X ρ M a true M1) (hb : BW X ρ M1 (.BoolOp .And (b :: rest) pos) k M2) : BW X ρ M (.BoolOp .And (a :: b :: rest) pos) k M2 := fun As σ F H hM hE Q q =>
  ⟨_, pw_and (pt_w X a) (pw_w X _), ha As σ F H hM hE _ fun As1 F1 H1 s1 m1 => iteT (hb As1 σ F1 H1 m1 (hE.step s1) Q fun As2 F2 H2 s2 m2 => q As2 F2 H2 (s1.trans s2) m2)⟩
theorem bw_and0 (ha : BT X ρ M a false M1) : BW X ρ M (.BoolOp .And (a :: b :: rest) pos) false M1 := fun As σ F H hM hE Q q =>
  ⟨_, pw_and (pt_w X a) (pw_w X _), ha As σ F H hM hE _ fun As1 F1 H1 s1 m1 => iteF (q As1 F1 H1 s1 m1)⟩
theorem bw_or (ha : BT X ρ M a false M1) (hb : BW X ρ M1 (.BoolOp .Or (b :: rest) pos) k M2) : BW X ρ M (.BoolOp .Or (a :: b :: rest) pos) k M2 := fun As σ F H hM hE Q q =>
  ⟨_, pw_or (pt_w X a) (pw_w X _), ha As σ F H hM hE _ fun As1 F1 H1 s1 m1 => iteF (hb As1 σ F1 H1 m1 (hE.step s1) Q fun As2 F2 H2 s2 m2 => q As2 F2 H2 (s1.trans s2) m2)⟩
theorem bw_or1t (ha : BT X ρ M a true M1) : BW X ρ M (.BoolOp .Or (a :: b :: rest) pos) true M1 := fun As σ F H hM hE Q q =>
  ⟨_, pw_or (pt_w X a) (pw_w X _), ha As σ F H hM hE _ fun As1 F1 H1 s1 m1 => iteT (q As1 F1 H1 s1 m1)⟩
/-- both at once, where nothing that is owned changes -/
theorem bw_andB (ha : BT X ρ M a k1 M) (hb : k1 = true → BW X ρ M (.BoolOp .And (b :: rest) pos) k2 M) : BW X ρ M (.BoolOp .And (a :: b :: rest) pos) (k1 && k2) M := by
  cases k1 with
  | true => exact bw_and ha (hb rfl)
  | false => exact bw_and0 ha
theorem bw_orB (ha : BT X ρ M a k1 M) (hb : k1 = false → BW X ρ M (.BoolOp .Or (b :: rest) pos) k2 M) : BW X ρ M (.BoolOp .Or (a :: b :: rest) pos) (k1 || k2) M := by
  cases k1 with
  | true => exact bw_or1t ha
  | false => exact bw_or ha (hb rfl)
/-- as values (bools) -/
theorem ed_one {op : BoolOp} (h : ED X ρ M a r M1) : ED X ρ M (.BoolOp op [a] pos) r M1 := fun As σ F H hM hE Q q => ⟨_, pe_one (pe_w X a), h As σ F H hM hE Q q⟩
theorem ed_andB (ha : ED X ρ M a (.d (.bool k1)) M) (hb : k1 = true → ED X ρ M (.BoolOp .And (b :: rest) pos) (.d (.bool k2)) M) : ED X ρ M (.BoolOp .And (a :: b :: rest) pos) (.d (.bool (k1 && k2))) M := fun As σ F H hM hE Q q =>
  ⟨_, pe_and (pe_w X a) (pe_w X _), ha As σ F H hM hE _ fun v As1 F1 H1 s1 m1 o1 => by
    cases o1
    refine ⟨k1, rfl, ?_⟩
    cases k1 with
    | true => exact iteT (hb rfl As1 σ F1 H1 m1 (hE.step s1) Q fun v As2 F2 H2 s2 m2 o2 => q v As2 F2 H2 (s1.trans s2) m2 o2)
    | false => exact iteF (q _ As1 F1 H1 s1 m1 (.bl false))⟩
theorem ed_orB (ha : ED X ρ M a (.d (.bool k1)) M) (hb : k1 = false → ED X ρ M (.BoolOp .Or (b :: rest) pos) (.d (.bool k2)) M) : ED X ρ M (.BoolOp .Or (a :: b :: rest) pos) (.d (.bool (k1 || k2))) M := fun As σ F H hM hE Q q =>
  ⟨_, pe_or (pe_w X a) (pe_w X _), ha As σ F H hM hE _ fun v As1 F1 H1 s1 m1 o1 => by
    cases o1
    refine ⟨k1, rfl, ?_⟩
    cases k1 with
    | true => exact iteT (q _ As1 F1 H1 s1 m1 (.bl true))
    | false => exact iteF (hb rfl As1 σ F1 H1 m1 (hE.step s1) Q fun v As2 F2 H2 s2 m2 o2 => q v As2 F2 H2 (s1.trans s2) m2 o2)⟩
theorem ed_not (ha : ED X ρ M a (.d (.bool k)) M1) : ED X ρ M (.UnaryOp .Not a pos) (.d (.bool (!k))) M1 := fun As σ F H hM hE Q q =>
  ⟨_, pe_not (pe_w X a), ha As σ F H hM hE _ fun v As1 F1 H1 s1 m1 o1 => by
    cases o1
    exact ⟨k, rfl, q _ As1 F1 H1 s1 m1 (.bl (!k))⟩⟩
theorem ed_ifT (hc : BT X ρ M c true M1) (ha : ED X ρ M1 a r M2) : ED X ρ M (.IfExp c a b pos) r M2 := fun As σ F H hM hE Q q =>
  ⟨_, pe_ifExp (pt_w X c) (pe_w X a) (pe_w X b), hc As σ F H hM hE _ fun As1 F1 H1 s1 m1 => iteT (ha As1 σ F1 H1 m1 (hE.step s1) Q fun v As2 F2 H2 s2 m2 o2 => q v As2 F2 H2 (s1.trans s2) m2 o2)⟩
theorem ed_ifF (hc : BT X ρ M c false M1) (hb : ED X ρ M1 b r M2) : ED X ρ M (.IfExp c a b pos) r M2 := fun As σ F H hM hE Q q =>
  ⟨_, pe_ifExp (pt_w X c) (pe_w X a) (pe_w X b), hc As σ F H hM hE _ fun As1 F1 H1 s1 m1 => iteF (hb As1 σ F1 H1 m1 (hE.step s1) Q fun v As2 F2 H2 s2 m2 o2 => q v As2 F2 H2 (s1.trans s2) m2 o2)⟩
theorem ed_if (hc : BT X ρ M c k M1) (ha : k = true → ED X ρ M1 a r M2) (hb : k = false → ED X ρ M1 b r M2) : ED X ρ M (.IfExp c a b pos) r M2 := by
  cases k with
  | true => exact ed_ifT hc (ha rfl)
  | false => exact ed_ifF hc (hb rfl)
/-- two comparisons in a row -/
theorem ed_chain {op op' : CmpOp} {r3 : Slot} (ha : ED X ρ M a r1 M) (hb : ED X ρ M b r2 M) (hc : ED X ρ M c r3 M) (h1 : CmpD X op M r1 r2 k1) (h2 : CmpD X op' M r2 r3 k2) (hm : lastMarks [op, op'] [b, c] = false := by with_unfolding_all rfl) :
    ED X ρ M (.Compare a [op, op'] [b, c] pos) (.d (.bool (k1 && k2))) M := fun As σ F H hM hE Q q => by
  obtain ⟨rr, ho, hr⟩ := h1.ex
  obtain ⟨rr', ho', hr'⟩ := h2.ex
  refine ⟨_, pe_chain ho ho' (pe_w X a) (pe_w X b) (pe_w X c) hm, ha As σ F H hM hE _ fun v1 As1 F1 H1 s1 m1 o1 => hb As1 σ F1 H1 m1 (hE.step s1) _ fun v2 As2 F2 H2 s2 m2 o2 => hr As2 F2 H2 v1 v2 _ m2 (o1.step s2) o2 ⟨k1, rfl, ?_⟩⟩
  cases k1 with
  | true => exact iteT (hc As2 σ F2 H2 m2 ((hE.step s1).step s2) _ fun v3 As3 F3 H3 s3 m3 o3 => hr' As3 F3 H3 v2 v3 _ m3 (o2.step s3) o3 (q _ As3 F3 H3 ((s1.trans s2).trans s3) m3 (.bl _)))
  | false => exact iteF (q _ As2 F2 H2 (s1.trans s2) m2 (.bl false))
theorem bt_chain {op op' : CmpOp} {r3 : Slot} (ha : ED X ρ M a r1 M) (hb : ED X ρ M b r2 M) (hc : ED X ρ M c r3 M) (h1 : CmpD X op M r1 r2 k1) (h2 : CmpD X op' M r2 r3 k2) (hm : lastMarks [op, op'] [b, c] = false := by with_unfolding_all rfl) :
    BT X ρ M (.Compare a [op, op'] [b, c] pos) (k1 && k2) M := fun As σ F H hM hE Q q => by
  obtain ⟨rr, ho, hr⟩ := h1.ex
  obtain ⟨rr', ho', hr'⟩ := h2.ex
  refine ⟨_, pt_chain ho ho' (pe_w X a) (pe_w X b) (pe_w X c) hm, ha As σ F H hM hE _ fun v1 As1 F1 H1 s1 m1 o1 => hb As1 σ F1 H1 m1 (hE.step s1) _ fun v2 As2 F2 H2 s2 m2 o2 => hr As2 F2 H2 v1 v2 _ m2 (o1.step s2) o2 ⟨k1, rfl, ?_⟩⟩
  cases k1 with
  | true => exact iteT (hc As2 σ F2 H2 m2 ((hE.step s1).step s2) _ fun v3 As3 F3 H3 s3 m3 o3 => hr' As3 F3 H3 v2 v3 _ m3 (o2.step s3) o3 ⟨_, rfl, q As3 F3 H3 ((s1.trans s2).trans s3) m3⟩)
  | false => exact iteF ⟨_, rfl, q As2 F2 H2 (s1.trans s2) m2⟩

/-! ### arguments, calls -/
variable {es : List Expr} {rs : List Slot}
theorem ad_nil : AD X ρ M [] [] M := fun As σ F H hM hE Q q => ⟨_, pa_nil, q [] As F H (Step.refl ..) hM .nil⟩
theorem ad_cons (ha : ED X ρ M e r M1) (hr : AD X ρ M1 es rs M2) (hs : starEach (e :: es) X.env = (false, eval e X.env) :: starEach es X.env := by rfl) : AD X ρ M (e :: es) (r :: rs) M2 := fun As σ F H hM hE Q q =>
  ⟨_, pa_cons (pe_w X e) (pa_w X es) hs, ha As σ F H hM hE _ fun v As1 F1 H1 s1 m1 o1 => hr As1 σ F1 H1 m1 (hE.step s1) _ fun vs As2 F2 H2 s2 m2 o2 => q _ As2 F2 H2 (s1.trans s2) m2 (.cons (o1.step s2) o2)⟩
/-- a tuple, a list -/
theorem ed_tup {ds : List PyData} {x1} (h : AD X ρ M es (ds.map Slot.d) M1) (hz : ds.length ≤ 1000) : ED X ρ M (.Tuple es x1 pos) (.d (.tuple ds)) M1 := fun As σ F H hM hE Q q =>
  ⟨_, pe_tup (pa_w X es), h As σ F H hM hE _ fun vs As1 F1 H1 s1 m1 o1 => ⟨by rw [o1.data.length]; exact Nat.le_of_lt (small1000 hz), fun p hp => by
    obtain ⟨s2, m2⟩ := newF m1 hp (.tup vs)
    exact q _ As1 _ _ (s1.trans s2) m2 (.tup upd_same (o1.data.mono s2.fe))⟩⟩
theorem ed_lstO {ds : List PyData} (h : AD X ρ M es (ds.map Slot.d) M1) (hz : ds.length ≤ 1000) : ED X ρ M (.List es pos) (.own M1.length) (M1 ++ [.lst ds]) := fun As σ F H hM hE Q q =>
  ⟨_, pe_lst (pa_w X es), h As σ F H hM hE _ fun vs As1 F1 H1 s1 m1 o1 => ⟨by rw [o1.data.length]; exact Nat.le_of_lt (small1000 hz), fun p hp => by
    obtain ⟨s2, m2⟩ := newM m1 hp o1.data
    exact q _ _ _ _ (s1.trans s2) m2 ⟨p, by rw [← m1.len]; simp, rfl⟩⟩⟩
/-- a new list as data -/
theorem ed_rel {ds : List PyData} (h : ED X ρ M e (.own M.length) (M ++ [.lst ds])) : ED X ρ M e (.d (.list ds)) M := fun As σ F H hM hE Q q =>
  h As σ F H hM hE Q fun v As1 F1 H1 s1 m1 o1 => by
    obtain ⟨more, e1, n1⟩ := s1.grow
    have l1 := m1.len
    rw [e1, List.length_append, List.length_append, hM.len] at l1
    obtain ⟨p, rfl⟩ : ∃ p, more = [p] := List.length_eq_one_iff.mp (by simpa using l1)
    subst e1
    obtain ⟨a, h1, rfl⟩ := o1
    rw [← hM.len] at h1
    simp at h1; subst h1
    obtain ⟨F', fe, fo, m2, dv⟩ := relLast m1 hM.len
    have hp : H p = none := n1 p (by simp)
    refine q _ As F' H1 ⟨s1.fe.trans fe, s1.keep, s1.ne, fun x hx hf hh => ?_, [], by simp, by simp⟩ m2 dv
    rw [fo x (fun z => hh (by rw [z]; exact hp))]
    exact s1.cap x hx hf hh
/-- .. at a later place of what is owned -/
theorem ed_relAt {ds : List PyData} (h : ED X ρ M e (.own M1.length) (M1 ++ [.lst ds])) : ED X ρ M e (.d (.list ds)) (M1 ++ [.gone]) := fun As σ F H hM hE Q q =>
  h As σ F H hM hE Q fun v As1 F1 H1 s1 m1 o1 => by
    obtain ⟨a, h1, rfl⟩ := o1
    obtain ⟨F', s2, m2, dv⟩ := relM m1 h1 (ds := ds) (by simp)
    refine q _ _ _ _ (s1.trans s2) ?_ dv
    simpa using m2
theorem ed_callB {x : Str} {p : Pos} {id : String} {rr : List V → Hp → VK → Prop} (hc : CallR X (.builtin id) rr) (hg : Gl X x) (hm : X.mg x = none) (hv : bootBuiltins x = some (.builtin id)) (ha : AD X ρ M (e :: es) rs M1)
    (hr : ∀ As F H vs (Q : VK), RepM As F H M1 → SlotsOk As F vs rs → (∀ v As' F' H', Step As F H As' F' H' → RepM As' F' H' M2 → SlotOk As' F' v r → Q v H') → rr vs H Q)
    (hn : x ≠ "__name__" := by decide) (hdb : (x == ("__debug__" : Str)) = false := by decide)
    (he : starEach (e :: es) X.env = (false, eval e X.env) :: starEach es X.env := by rfl) (hpl : (backTo pos (starEach es X.env)).any (·.1) = false := by rfl) : ED X ρ M (.Call (.Name x p) (e :: es) [] pos) r M2 := fun As σ F H hM hE Q q =>
  ⟨_, pe_callB hc hg hm hv (pa_w X _) hn hdb he hpl, ha As σ F H hM hE _ fun vs As1 F1 H1 s1 m1 o1 => hr As1 F1 H1 vs Q m1 o1 fun v As2 F2 H2 s2 m2 o2 => q v As2 F2 H2 (s1.trans s2) m2 o2⟩
theorem ed_callTy {x : Str} {p : Pos} {T : String} {rr : List V → Hp → VK → Prop} (hc : CallR X (.type T) rr) (hg : Gl X x) (hm : X.mg x = none) (hv : bootBuiltins x = some (.type T)) (ha : AD X ρ M (e :: es) rs M1)
    (hr : ∀ As F H vs (Q : VK), RepM As F H M1 → SlotsOk As F vs rs → (∀ v As' F' H', Step As F H As' F' H' → RepM As' F' H' M2 → SlotOk As' F' v r → Q v H') → rr vs H Q)
    (hn : x ≠ "__name__" := by decide) (hdb : (x == ("__debug__" : Str)) = false := by decide)
    (he : starEach (e :: es) X.env = (false, eval e X.env) :: starEach es X.env := by rfl) (hpl : (backTo pos (starEach es X.env)).any (·.1) = false := by rfl) : ED X ρ M (.Call (.Name x p) (e :: es) [] pos) r M2 := fun As σ F H hM hE Q q =>
  ⟨_, pe_callTy hc hg hm hv (pa_w X _) hn hdb he hpl, ha As σ F H hM hE _ fun vs As1 F1 H1 s1 m1 o1 => hr As1 F1 H1 vs Q m1 o1 fun v As2 F2 H2 s2 m2 o2 => q v As2 F2 H2 (s1.trans s2) m2 o2⟩
end
end WC

/-! items, lengths, calls, statements, loops -/
namespace WC
open PySem L2
open Evl (Ex)

theorem DvAll.atI {F : Hp} {xs : List V} {ds : List PyData} (h : DvAll F xs ds) {i : Int} {d : PyData} (e : L2.atI ds i = some d) : ∃ v, L2.atI xs i = some v ∧ Dv F v d := by
  unfold L2.atI at e ⊢
  rw [h.length]
  cases q : ixN ds.length i with
  | none => rw [q] at e; cases e
  | some j =>
    rw [q] at e
    exact h.get e
/-- xs[lo:hi] of data -/
def cutD (ds : List PyData) (lo hi : Option Int) : List PyData := (ds.drop (HT.sIx ds.length 0 lo)).take (HT.sIx ds.length ds.length hi - HT.sIx ds.length 0 lo)
theorem DvAll.cut {F : Hp} {xs : List V} {ds : List PyData} (h : DvAll F xs ds) (lo hi : Option Int) : DvAll F (cutV xs lo hi) (cutD ds lo hi) := by
  unfold cutV cutD
  rw [h.length]
  exact (h.drop _).take _
def tyD : PyData → String
  | .none => "NoneType"
  | .bool _ => "bool"
  | .int _ => "int"
  | .str _ => "str"
  | .list _ => "list"
  | .tuple _ => "tuple"
  | .dict _ => "dict"
theorem Dv.ty {K : PySem.W.Frag} {H : Hp} {v : V} {d : PyData} (h : Dv H v d) : TyX K H v (.type (tyD d)) := by
  cases h with
  | non => exact .base .non
  | bl b => exact .base (.bl b)
  | int i => exact .base (.int i)
  | str x => exact .base (.str x)
  | lst h _ => exact .base (.lst h)
  | tup h _ => exact .base (.tup h)

section
variable {X : Cx} {ρ : REnv} {M M1 M2 M3 : List MO} {a b c e : Expr} {r r1 r2 : Slot} {pos : Pos} {k k1 k2 : Bool} {i j : Int} {es : List Expr} {rs : List Slot}

theorem ed_isi {p p2 : Pos} {T : Str} {Tn : String} {d : PyData} (hg : Gl X "isinstance") (hm : X.mg "isinstance" = none) (hgT : Gl X T) (hmT : X.mg T = none) (hT : bootBuiltins T = some (.type Tn)) (h : ED X ρ M e r M1) (rd : Rds M1 r d) (hk : kitB (tyD d) Tn = some k)
    (hnT : T ≠ "__name__" := by decide) (hdT : (T == ("__debug__" : Str)) = false := by decide)
    (hs : starEach (e :: [.Name T p2]) X.env = (false, eval e X.env) :: starEach [.Name T p2] X.env := by rfl) (hs2 : starEach (Expr.Name T p2 :: []) X.env = (false, eval (.Name T p2) X.env) :: starEach [] X.env := by rfl) (hpl : (backTo pos (starEach [Expr.Name T p2] X.env)).any (·.1) = false := by rfl) :
    ED X ρ M (.Call (.Name "isinstance" p) [e, .Name T p2] [] pos) (.d (.bool k)) M1 := fun As σ F H hM hE Q q =>
  ⟨_, pe_callB call_isi hg hm (by decide +kernel) (pa_cons (pe_w X e) (pa_cons (pe_bltn (v := .ty Tn) hgT hmT hT rfl hnT hdT) pa_nil hs2) hs) (by decide) (by decide) hs hpl, h As σ F H hM hE _ fun v As1 F1 H1 s1 m1 o1 =>
    ⟨v, .ty Tn, .type (tyD d), .type Tn, k, rfl, .ty Tn, (rd.dv m1 o1).ty, kit_ty hk, q _ As1 F1 H1 s1 m1 (.bl k)⟩⟩

/-! ### items -/
theorem ed_ixT {ds : List PyData} {d : PyData} (ha : ED X ρ M a (.d (.tuple ds)) M1) (hb : ED X ρ M1 b (.d (.int i)) M2) (hx : atI ds i = some d := by rfl) (hs : PlainIx b := by exact fun _ _ => rfl) : ED X ρ M (.Subscript a b pos) (.d d) M2 := fun As σ F H hM hE Q q =>
  ⟨_, pe_ix ix_tup (pe_w X a) (pe_w X b) hs, ha As σ F H hM hE _ fun v1 As1 F1 H1 s1 m1 o1 => hb As1 σ F1 H1 m1 (hE.step s1) _ fun v2 As2 F2 H2 s2 m2 o2 => by
    obtain ⟨p, xs, rfl, hp, hd⟩ := (o1.step s2 : Dv F2 v1 (.tuple ds)).tup_of
    obtain ⟨v, hv, dv⟩ := hd.atI hx
    cases o2
    exact ⟨p, xs, i, v, rfl, rfl, SqT.of (m2.ex _ _ hp), hv, q v As2 F2 H2 (s1.trans s2) m2 dv⟩⟩
theorem ed_ixL {ds : List PyData} {d : PyData} (ha : ED X ρ M a (.d (.list ds)) M1) (hb : ED X ρ M1 b (.d (.int i)) M2) (hx : atI ds i = some d := by rfl) (hs : PlainIx b := by exact fun _ _ => rfl) : ED X ρ M (.Subscript a b pos) (.d d) M2 := fun As σ F H hM hE Q q =>
  ⟨_, pe_ix ix_list (pe_w X a) (pe_w X b) hs, ha As σ F H hM hE _ fun v1 As1 F1 H1 s1 m1 o1 => hb As1 σ F1 H1 m1 (hE.step s1) _ fun v2 As2 F2 H2 s2 m2 o2 => by
    obtain ⟨p, xs, rfl, hp, hd⟩ := (o1.step s2 : Dv F2 v1 (.list ds)).lst_of
    obtain ⟨v, hv, dv⟩ := hd.atI hx
    cases o2
    exact ⟨p, xs, i, v, rfl, rfl, SqL.of (m2.ex _ _ hp), hv, q v As2 F2 H2 (s1.trans s2) m2 dv⟩⟩
theorem ed_ixO {jj : Nat} {ds : List PyData} {d : PyData} (ha : ED X ρ M a (.own jj) M1) (hb : ED X ρ M1 b (.d (.int i)) M2) (hj : M2[jj]? = some (.lst ds) := by rfl) (hx : atI ds i = some d := by rfl) (hs : PlainIx b := by exact fun _ _ => rfl) : ED X ρ M (.Subscript a b pos) (.d d) M2 := fun As σ F H hM hE Q q =>
  ⟨_, pe_ix ix_list (pe_w X a) (pe_w X b) hs, ha As σ F H hM hE _ fun v1 As1 F1 H1 s1 m1 o1 => hb As1 σ F1 H1 m1 (hE.step s1) _ fun v2 As2 F2 H2 s2 m2 o2 => by
    obtain ⟨p, hp, rfl⟩ := (o1.step s2 : SlotOk As2 F2 v1 (.own jj))
    obtain ⟨xs, hh, hd⟩ := m2.mem jj p _ hp hj
    obtain ⟨v, hv, dv⟩ := hd.atI hx
    cases o2
    exact ⟨p, xs, i, v, rfl, rfl, SqL.of hh, hv, q v As2 F2 H2 (s1.trans s2) m2 dv⟩⟩
/-- e[lo:hi], a new list -/
def OD (X : Cx) (ρ : REnv) (M : List MO) (e : Option Expr) (o : Option Int) : Prop :=
  ∀ (As : List Addr) (σ : St) (F H : Hp), RepM As F H M → RepE As F σ ρ → ∀ Q : Option Int → Hp → Prop,
    (∀ As' F' H', Step As F H As' F' H' → RepM As' F' H' M → Q o H') → ∃ t, PO X e t ∧ t σ H Q
theorem od_none : OD X ρ M none none := fun As σ F H hM hE Q q => ⟨_, po_none, q As F H (Step.refl ..) hM⟩
theorem od_some (h : ED X ρ M e (.d (.int i)) M) : OD X ρ M (some e) (some i) := fun As σ F H hM hE Q q => ⟨_, po_some (pe_w X e), h As σ F H hM hE _ fun v As1 F1 H1 s1 m1 o1 => by
  cases o1
  exact ⟨i, rfl, q As1 F1 H1 s1 m1⟩⟩
theorem po_w {X : Cx} {e : Option Expr} : PO X e (fun σ H Q => ∃ t, PO X e t ∧ t σ H Q) := ⟨fun pins s σ H Q I ⟨_, h, q⟩ => h.run pins s σ H Q I q⟩
theorem ed_sliceO {ds : List PyData} {lo hi : Option Expr} {l u : Option Int} {p2 : Pos} (he : ED X ρ M e r M1) (hl : OD X ρ M1 lo l) (hh : OD X ρ M1 hi u) (rd : Rds M1 r (.list ds)) (hF : ∀ (j : Nat), r = .own j → True) :
    ED X ρ M (.Subscript e (.Slice lo hi none p2) pos) (.own M1.length) (M1 ++ [.lst (cutD ds l u)]) := fun As σ F H hM hE Q q =>
  ⟨_, pe_slice sl_list (pe_w X e) po_w po_w, he As σ F H hM hE _ fun v As1 F1 H1 s1 m1 o1 => hl As1 σ F1 H1 m1 (hE.step s1) _ fun As2 F2 H2 s2 m2 => hh As2 σ F2 H2 m2 ((hE.step s1).step s2) _ fun As3 F3 H3 s3 m3 => by
    have o3 : SlotOk As3 F3 v r := (o1.step s2).step s3
    obtain ⟨p, xs, rfl, hp, hd⟩ : ∃ p xs, v = .ref p ∧ H3 p = some (.lst xs) ∧ DvAll F3 xs ds := by
      cases rd with
      | d => obtain ⟨p, xs, rfl, hp, hd⟩ := Dv.lst_of (show Dv F3 v (.list ds) from o3); exact ⟨p, xs, rfl, m3.ex _ _ hp, hd⟩
      | own e =>
        obtain ⟨p, h1, rfl⟩ := o3
        obtain ⟨xs, h2, h3⟩ := m3.mem _ p _ h1 e
        exact ⟨p, xs, rfl, h2, h3⟩
      | pin e =>
        obtain ⟨p, h1, rfl⟩ := o3
        obtain ⟨_, xs, h2, h3⟩ := m3.mem _ p _ h1 e
        exact ⟨p, xs, rfl, h2, h3⟩
    refine ⟨p, xs, rfl, SqL.of hp, fun n hn => ?_⟩
    obtain ⟨s4, m4⟩ := newM m3 hn (hd.cut l u)
    exact q _ _ _ _ (((s1.trans s2).trans s3).trans s4) m4 ⟨n, by rw [← m3.len]; simp, rfl⟩⟩
/-- a slot that is a list, as it stands in the heap -/
theorem rd_list {As : List Addr} {F H : Hp} (m : RepM As F H M) {v : V} {ds : List PyData} (o : SlotOk As F v r) (rd : Rds M r (.list ds)) : ∃ p xs, v = .ref p ∧ H p = some (.lst xs) ∧ DvAll F xs ds := by
  cases rd with
  | d => obtain ⟨p, xs, rfl, hp, hd⟩ := Dv.lst_of (show Dv F v (.list ds) from o); exact ⟨p, xs, rfl, m.ex _ _ hp, hd⟩
  | own e =>
    obtain ⟨p, h1, rfl⟩ := o
    obtain ⟨xs, h2, h3⟩ := m.mem _ p _ h1 e
    exact ⟨p, xs, rfl, h2, h3⟩
  | pin e =>
    obtain ⟨p, h1, rfl⟩ := o
    obtain ⟨_, xs, h2, h3⟩ := m.mem _ p _ h1 e
    exact ⟨p, xs, rfl, h2, h3⟩
/-- xs + ys, xs * k -/
theorem ed_catO {ds es' : List PyData} (ha : ED X ρ M a r1 M1) (hb : ED X ρ M1 b r2 M2) (d1 : Rds M2 r1 (.list ds)) (d2 : Rds M2 r2 (.list es')) (hz : ds.length + es'.length ≤ 100000) : ED X ρ M (.BinOp a .Add b pos) (.own M2.length) (M2 ++ [.lst (ds ++ es')]) :=
  ed_bin op_cat ha hb fun As F H v1 v2 Q m o1 o2 q => by
    obtain ⟨p, xs, rfl, hp, hd⟩ := rd_list m o1 d1
    obtain ⟨p2, ys, rfl, hp2, hd2⟩ := rd_list m o2 d2
    refine ⟨p, p2, xs, ys, rfl, rfl, hp, hp2, by rw [hd.length, hd2.length]; exact Evl.sz_of hz, fun n hn => ?_⟩
    obtain ⟨s4, m4⟩ := newM m hn (hd.append hd2)
    exact q _ _ _ _ s4 m4 ⟨n, by rw [← m.len]; simp, rfl⟩
theorem ed_repO {ds : List PyData} (ha : ED X ρ M a r1 M1) (hb : ED X ρ M1 b (.d (.int i)) M2) (d1 : Rds M2 r1 (.list ds)) (hi : -100000 ≤ i ∧ i ≤ 100000) (hz : ds.length * i.toNat ≤ 100000) :
    ED X ρ M (.BinOp a .Mult b pos) (.own M2.length) (M2 ++ [.lst (List.replicate i.toNat ds).flatten]) :=
  ed_bin op_rep ha hb fun As F H v1 v2 Q m o1 o2 q => by
    obtain ⟨p, xs, rfl, hp, hd⟩ := rd_list m o1 d1
    cases o2
    refine ⟨p, i, xs, rfl, rfl, hp, by omega, by omega, by rw [hd.length]; exact Evl.sz_of hz, fun n hn => ?_⟩
    obtain ⟨s4, m4⟩ := newM m hn (hd.rep i.toNat)
    exact q _ _ _ _ s4 m4 ⟨n, by rw [← m.len]; simp, rfl⟩

/-! ### built-ins -/
theorem ed_len {p : Pos} {ds : List PyData} (hg : Gl X "len") (hm : X.mg "len" = none) (h : ED X ρ M e r M1) (rd : Rds M1 r (.list ds)) (hs : starEach (e :: []) X.env = (false, eval e X.env) :: starEach [] X.env := by rfl) :
    ED X ρ M (.Call (.Name "len" p) [e] [] pos) (.d (.int (ds.length : Int))) M1 :=
  ed_callB call_len_seq hg hm PySem.boot_len (ad_cons h ad_nil hs) (fun As F H vs Q m o q => by
    cases o with
    | cons o1 o2 =>
      cases o2
      obtain ⟨p, xs, rfl, hp, hd⟩ := rd_list m o1 rd
      refine ⟨p, xs, rfl, .inl (SqL.of hp), ?_⟩
      rw [hd.length]
      exact q _ As F H (Step.refl ..) m (.int _)) (he := hs)
theorem ed_lenT {p : Pos} {ds : List PyData} (hg : Gl X "len") (hm : X.mg "len" = none) (h : ED X ρ M e (.d (.tuple ds)) M1) (hs : starEach (e :: []) X.env = (false, eval e X.env) :: starEach [] X.env := by rfl) :
    ED X ρ M (.Call (.Name "len" p) [e] [] pos) (.d (.int (ds.length : Int))) M1 :=
  ed_callB call_len_seq hg hm PySem.boot_len (ad_cons h ad_nil hs) (fun As F H vs Q m o q => by
    cases o with
    | cons o1 o2 =>
      cases o2
      obtain ⟨p, xs, rfl, hp, hd⟩ := Dv.tup_of o1
      refine ⟨p, xs, rfl, .inr (SqT.of (m.ex _ _ hp)), ?_⟩
      rw [hd.length]
      exact q _ As F H (Step.refl ..) m (.int _)) (he := hs)
theorem ed_min2 {p : Pos} (hc : X.calm = true) (hg : Gl X "min") (hm : X.mg "min" = none) (h : AD X ρ M [a, b] [.d (.int i), .d (.int j)] M1) (hs : starEach (a :: [b]) X.env = (false, eval a X.env) :: starEach [b] X.env := by rfl) (hpl : (backTo pos (starEach [b] X.env)).any (·.1) = false := by rfl) :
    ED X ρ M (.Call (.Name "min" p) [a, b] [] pos) (.d (.int (min i j))) M1 :=
  ed_callB (call_min2 hc) hg hm (by decide +kernel) h (fun As F H vs Q m o q => by
    cases o with
    | cons o1 o2 =>
      cases o2 with
      | cons o2 o3 =>
        cases o3; cases o1; cases o2
        refine ⟨i, j, rfl, ?_⟩
        rw [show (if j < i then j else i) = min i j by omega]
        exact q _ As F H (Step.refl ..) m (.int _)) (he := hs) (hpl := hpl)
theorem ed_max2 {p : Pos} (hc : X.calm = true) (hg : Gl X "max") (hm : X.mg "max" = none) (h : AD X ρ M [a, b] [.d (.int i), .d (.int j)] M1) (hs : starEach (a :: [b]) X.env = (false, eval a X.env) :: starEach [b] X.env := by rfl) (hpl : (backTo pos (starEach [b] X.env)).any (·.1) = false := by rfl) :
    ED X ρ M (.Call (.Name "max" p) [a, b] [] pos) (.d (.int (max i j))) M1 :=
  ed_callB (call_max2 hc) hg hm (by decide +kernel) h (fun As F H vs Q m o q => by
    cases o with
    | cons o1 o2 =>
      cases o2 with
      | cons o2 o3 =>
        cases o3; cases o1; cases o2
        refine ⟨i, j, rfl, ?_⟩
        rw [show (if j > i then j else i) = max i j by omega]
        exact q _ As F H (Step.refl ..) m (.int _)) (he := hs) (hpl := hpl)
theorem ed_abs {p : Pos} (hg : Gl X "abs") (hm : X.mg "abs" = none) (h : ED X ρ M e (.d (.int i)) M1) (hs : starEach (e :: []) X.env = (false, eval e X.env) :: starEach [] X.env := by rfl) :
    ED X ρ M (.Call (.Name "abs" p) [e] [] pos) (.d (.int (if i < 0 then -i else i))) M1 :=
  ed_callB call_abs hg hm (by decide +kernel) (ad_cons h ad_nil hs) (fun As F H vs Q m o q => by
    cases o with
    | cons o1 o2 =>
      cases o2; cases o1
      exact ⟨i, rfl, q _ As F H (Step.refl ..) m (.int _)⟩) (he := hs)
theorem ed_sum {p : Pos} {ns : List Int} (hc : X.calm = true) (hg : Gl X "sum") (hm : X.mg "sum" = none) (h : ED X ρ M e r M1) (rd : Rds M1 r (.list (ns.map .int))) (hs : starEach (e :: []) X.env = (false, eval e X.env) :: starEach [] X.env := by rfl) :
    ED X ρ M (.Call (.Name "sum" p) [e] [] pos) (.d (.int ns.sum)) M1 :=
  ed_callB (cr_sum hc) hg hm (by decide +kernel) (ad_cons h ad_nil hs) (fun As F H vs Q m o q => by
    cases o with
    | cons o1 o2 =>
      cases o2
      obtain ⟨p, xs, rfl, hp, hd⟩ := rd_list m o1 rd
      rw [hd.ints_of] at hp
      exact ⟨p, ns, rfl, SqL.of hp, q _ As F H (Step.refl ..) m (.int _)⟩) (he := hs)
/-- max(xs), min(xs): z is the greatest (least) one -/
theorem ed_maxL {p : Pos} {ns : List Int} {z : Int} (hc : X.calm = true) (hg : Gl X "max") (hm : X.mg "max" = none) (h : ED X ρ M e r M1) (rd : Rds M1 r (.list (ns.map .int))) (hz : z ∈ ns) (hle : ∀ y ∈ ns, y ≤ z) (hs : starEach (e :: []) X.env = (false, eval e X.env) :: starEach [] X.env := by rfl) :
    ED X ρ M (.Call (.Name "max" p) [e] [] pos) (.d (.int z)) M1 :=
  ed_callB (cr_max hc) hg hm (by decide +kernel) (ad_cons h ad_nil hs) (fun As F H vs Q m o q => by
    cases o with
    | cons o1 o2 =>
      cases o2
      obtain ⟨p, xs, rfl, hp, hd⟩ := rd_list m o1 rd
      rw [hd.ints_of] at hp
      refine ⟨p, ns, rfl, SqL.of hp, List.length_pos_of_mem hz, fun w hw hl => ?_⟩
      have e1 := hle w hw
      have e2 := hl z hz
      rw [show w = z by omega]
      exact q _ As F H (Step.refl ..) m (.int _)) (he := hs)
theorem ed_minL {p : Pos} {ns : List Int} {z : Int} (hc : X.calm = true) (hg : Gl X "min") (hm : X.mg "min" = none) (h : ED X ρ M e r M1) (rd : Rds M1 r (.list (ns.map .int))) (hz : z ∈ ns) (hle : ∀ y ∈ ns, z ≤ y) (hs : starEach (e :: []) X.env = (false, eval e X.env) :: starEach [] X.env := by rfl) :
    ED X ρ M (.Call (.Name "min" p) [e] [] pos) (.d (.int z)) M1 :=
  ed_callB (cr_min hc) hg hm (by decide +kernel) (ad_cons h ad_nil hs) (fun As F H vs Q m o q => by
    cases o with
    | cons o1 o2 =>
      cases o2
      obtain ⟨p, xs, rfl, hp, hd⟩ := rd_list m o1 rd
      rw [hd.ints_of] at hp
      refine ⟨p, ns, rfl, SqL.of hp, List.length_pos_of_mem hz, fun w hw hl => ?_⟩
      have e1 := hle w hw
      have e2 := hl z hz
      rw [show w = z by omega]
      exact q _ As F H (Step.refl ..) m (.int _)) (he := hs)
theorem ed_all {p : Pos} {bs : List Bool} (hc : X.calm = true) (hg : Gl X "all") (hm : X.mg "all" = none) (h : ED X ρ M e r M1) (rd : Rds M1 r (.list (bs.map .bool))) (hs : starEach (e :: []) X.env = (false, eval e X.env) :: starEach [] X.env := by rfl) :
    ED X ρ M (.Call (.Name "all" p) [e] [] pos) (.d (.bool (bs.all id))) M1 :=
  ed_callB (cr_all hc) hg hm (by decide +kernel) (ad_cons h ad_nil hs) (fun As F H vs Q m o q => by
    cases o with
    | cons o1 o2 =>
      cases o2
      obtain ⟨p, xs, rfl, hp, hd⟩ := rd_list m o1 rd
      rw [hd.bls_of] at hp
      exact ⟨p, bs, rfl, SqL.of hp, q _ As F H (Step.refl ..) m (.bl _)⟩) (he := hs)
theorem ed_listO {p : Pos} {ds : List PyData} (hg : Gl X "list") (hm : X.mg "list" = none) (h : ED X ρ M e r M1) (rd : Rds M1 r (.list ds)) (hs : starEach (e :: []) X.env = (false, eval e X.env) :: starEach [] X.env := by rfl) :
    ED X ρ M (.Call (.Name "list" p) [e] [] pos) (.own M1.length) (M1 ++ [.lst ds]) :=
  ed_callTy call_list_of hg hm (by decide +kernel) (ad_cons h ad_nil hs) (fun As F H vs Q m o q => by
    cases o with
    | cons o1 o2 =>
      cases o2
      obtain ⟨p, xs, rfl, hp, hd⟩ := rd_list m o1 rd
      refine ⟨p, xs, rfl, .inl (SqL.of hp), fun n hn => ?_⟩
      obtain ⟨s4, m4⟩ := newM m hn hd
      exact q _ _ _ _ s4 m4 ⟨n, by rw [← m.len]; simp, rfl⟩) (he := hs)
end
end WC

/-! defs, statements, loops, comprehensions -/
namespace WC
open PySem L2
open Evl (Ex)

/-- one more owned list -/
theorem RepM.add {As : List Addr} {F H : Hp} {M : List MO} (h : RepM As F H M) {p : Addr} (pa : p ∉ As) (fp : F p = none) {xs : List V} {ds : List PyData} (hp : H p = some (.lst xs)) (hd : DvAll F xs ds) : RepM (As ++ [p]) F H (M ++ [.lst ds]) := by
  refine ⟨h.ex, ?_, by simp [h.len], fun a ha => ?_, fun j a o h1 h2 h3 => ?_, fun j a o h1 h2 => ?_⟩
  · exact List.nodup_append.mpr ⟨h.nd, by simp, fun a ha b hb e => by simp at hb; exact pa (by rw [← hb, ← e]; exact ha)⟩
  · rcases List.mem_append.mp ha with z | z
    · exact h.ne a z
    · simp at z; subst z; rw [hp]; simp
  · by_cases hj : j < As.length
    · rw [List.getElem?_append_left hj] at h1
      rw [List.getElem?_append_left (by rw [← h.len]; exact hj)] at h2
      exact h.fr j a o h1 h2 h3
    · have e : j = As.length := by
        have := (List.getElem?_eq_some_iff.mp h1).1
        simp at this; omega
      subst e
      simp at h1; subst h1; exact fp
  · by_cases hj : j < As.length
    · rw [List.getElem?_append_left hj] at h1
      rw [List.getElem?_append_left (by rw [← h.len]; exact hj)] at h2
      exact h.mem j a o h1 h2
    · have e : j = As.length := by
        have := (List.getElem?_eq_some_iff.mp h1).1
        simp at this; omega
      subst e
      simp at h1; subst h1
      rw [h.len] at h2
      simp at h2; subst h2
      exact ⟨xs, hp, hd⟩

/-! ### a def's promise -/
inductive Res where
  | val (d : PyData)
  | new (ds : List PyData)
  | err (c : Value)
structure StepF (F H F' H' : Hp) : Prop where
  fe : Ex F F'
  he : Ex H H'
  fh : Ex F' H'
  cap : ∀ x, F x = none → H x ≠ none → F' x = none
theorem StepF.ne {F H F' H' : Hp} (s : StepF F H F' H') (x : Addr) (h : H x ≠ none) : H' x ≠ none := by
  cases q : H x with
  | none => exact absurd q h
  | some o => rw [s.he x o q]; simp
theorem StepF.step {F H F' H' : Hp} (s : StepF F H F' H') (As : List Addr) : Step As F H As F' H' := ⟨s.fe, fun x o _ h => s.he x o h, s.ne, fun x _ => s.cap x, [], by simp, by simp⟩
theorem StepF.rep {F H F' H' : Hp} (s : StepF F H F' H') {As : List Addr} {M : List MO} (m : RepM As F H M) : RepM As F' H' M := m.grow s.fe s.he s.fh s.cap
theorem Step.toF {As' : List Addr} {F H F' H' : Hp} {M' : List MO} (s : Step [] F H As' F' H') (m : RepM As' F' H' M') : StepF F H F' H' := ⟨s.fe, fun x o h => s.keep x o (by simp) h, m.ex, fun x => s.cap x (by simp)⟩
/-- what comes back, what is wished -/
def Gives (F H : Hp) (Q : VK) (E : XK) : Res → Prop
  | .val d => ∀ v F' H', StepF F H F' H' → Dv F' v d → Q v H'
  | .new ds => ∀ p xs F' H', StepF F H F' H' → H p = none → F' p = none → H' p = some (.lst xs) → DvAll F' xs ds → Q (.ref p) H'
  | .err c => ∀ F' H', StepF F H F' H' → E c none H'
def Pr (Sig : List PyData → Res → Prop) : Sp := fun vs H Q E => ∃ (F : Hp) (ds : List PyData) (r : Res), Ex F H ∧ DvAll F vs ds ∧ Sig ds r ∧ Gives F H Q E r

/-! ### statements -/
inductive Out where
  | nx (ρ : REnv) (M : List MO)
  | rt (r : Slot) (M : List MO)
  | er (c : Value) (M : List MO)
def OutOk (E : XK) (D : Ends) (As : List Addr) (F H : Hp) : Out → Prop
  | .nx ρ' M' => ∀ As' σ' F' H', Step As F H As' F' H' → RepM As' F' H' M' → RepE As' F' σ' ρ' → D.nx σ' H'
  | .rt r M' => ∀ v As' F' H', Step As F H As' F' H' → RepM As' F' H' M' → SlotOk As' F' v r → D.rt v H'
  | .er c M' => ∀ As' F' H', Step As F H As' F' H' → RepM As' F' H' M' → E c none H'
theorem OutOk.step {E : XK} {D : Ends} {As As1 : List Addr} {F H F1 H1 : Hp} {o : Out} (s : Step As F H As1 F1 H1) (h : OutOk E D As F H o) : OutOk E D As1 F1 H1 o := by
  cases o with
  | nx ρ' M' => exact fun As' σ' F' H' s2 m r => h As' σ' F' H' (s.trans s2) m r
  | rt r M' => exact fun v As' F' H' s2 m r => h v As' F' H' (s.trans s2) m r
  | er c M' => exact fun As' F' H' s2 m => h As' F' H' (s.trans s2) m
/-- one statement; a block -/
def S1 (X : Cx) (E : XK) (ρ : REnv) (M : List MO) (st : Stmt) (o : Out) : Prop :=
  ∀ (As : List Addr) (σ : St) (F H : Hp), RepM As F H M → RepE As F σ ρ → ∀ D : Ends, OutOk E D As F H o → wS X st D σ H
def SD (X : Cx) (E : XK) (ρ : REnv) (M : List MO) (sts : List Stmt) (o : Out) : Prop :=
  ∀ (As : List Addr) (σ : St) (F H : Hp), RepM As F H M → RepE As F σ ρ → ∀ D : Ends, OutOk E D As F H o → wSs X sts D σ H
/-- an expression that raises -/
def EX (X : Cx) (E : XK) (ρ : REnv) (M : List MO) (e : Expr) (c : Value) (M' : List MO) : Prop :=
  ∀ (As : List Addr) (σ : St) (F H : Hp), RepM As F H M → RepE As F σ ρ → ∀ Q : VK, (∀ As' F' H', Step As F H As' F' H' → RepM As' F' H' M' → E c none H') → wE X e σ H Q

section
variable {X : Cx} {E : XK} {ρ ρ1 ρ2 : REnv} {M M1 M2 : List MO} {st : Stmt} {rest sts : List Stmt} {o : Out} {e : Expr} {pos : Pos} {r : Slot} {c : Value} {k : Bool}
theorem sd_nil : SD X E ρ M [] (.nx ρ M) := fun As σ F H hM hE D h => ⟨_, pss_nil, h As σ F H (Step.refl ..) hM hE⟩
theorem sd_cons (h1 : S1 X E ρ M st (.nx ρ1 M1)) (h2 : SD X E ρ1 M1 rest o) : SD X E ρ M (st :: rest) o := fun As σ F H hM hE D h =>
  ⟨_, pss_cons (ps_w X st) (pss_w X rest), h1 As σ F H hM hE { D with nx := wSs X rest D } fun As1 σ1 F1 H1 s1 m1 e1 => h2 As1 σ1 F1 H1 m1 e1 D (h.step s1)⟩
theorem sd_rt (h1 : S1 X E ρ M st (.rt r M1)) : SD X E ρ M (st :: rest) (.rt r M1) := fun As σ F H hM hE D h =>
  ⟨_, pss_cons (ps_w X st) pss_never, h1 As σ F H hM hE _ h⟩
theorem sd_er (h1 : S1 X E ρ M st (.er c M1)) : SD X E ρ M (st :: rest) (.er c M1) := fun As σ F H hM hE D h =>
  ⟨_, pss_cons (ps_w X st) pss_never, h1 As σ F H hM hE _ h⟩
theorem sd_one (h1 : S1 X E ρ M st o) : SD X E ρ M [st] o := fun As σ F H hM hE D h => ⟨_, pss_one (ps_w X st), h1 As σ F H hM hE D h⟩
theorem sd_ifT {cd : Expr} {sa sb : List Stmt} (hc : BT X ρ M cd true M1) (ha : SD X E ρ M1 sa o) : S1 X E ρ M (.If cd sa sb pos) o := fun As σ F H hM hE D h =>
  ⟨_, ps_if (pt_w X cd) (pss_w X sa) (pss_w X sb), hc As σ F H hM hE _ fun As1 F1 H1 s1 m1 => iteT (ha As1 σ F1 H1 m1 (hE.step s1) D (h.step s1))⟩
theorem sd_ifF {cd : Expr} {sa sb : List Stmt} (hc : BT X ρ M cd false M1) (hb : SD X E ρ M1 sb o) : S1 X E ρ M (.If cd sa sb pos) o := fun As σ F H hM hE D h =>
  ⟨_, ps_if (pt_w X cd) (pss_w X sa) (pss_w X sb), hc As σ F H hM hE _ fun As1 F1 H1 s1 m1 => iteF (hb As1 σ F1 H1 m1 (hE.step s1) D (h.step s1))⟩
theorem sd_if {cd : Expr} {sa sb : List Stmt} (hc : BT X ρ M cd k M1) (ha : k = true → SD X E ρ M1 sa o) (hb : k = false → SD X E ρ M1 sb o) : S1 X E ρ M (.If cd sa sb pos) o := by
  cases k with
  | true => exact sd_ifT hc (ha rfl)
  | false => exact sd_ifF hc (hb rfl)
theorem sd_ret (h : ED X ρ M e r M1) : S1 X E ρ M (.Return (some e) pos) (.rt r M1) := fun As σ F H hM hE D q =>
  ⟨_, ps_ret (pe_w X e), h As σ F H hM hE _ fun v As1 F1 H1 s1 m1 o1 => q v As1 F1 H1 s1 m1 o1⟩
theorem sd_expr (h : ED X ρ M e r M1) (hs : swapsWith e none pos.line X.env = pure false := by rfl) : S1 X E ρ M (.Expr e pos) (.nx ρ M1) := fun As σ F H hM hE D q =>
  ⟨_, ps_expr (pe_w X e) hs, h As σ F H hM hE _ fun v As1 F1 H1 s1 m1 o1 => q As1 σ F1 H1 s1 m1 (hE.step s1)⟩
theorem sd_exprX (h : EX X E ρ M e c M1) (hs : swapsWith e none pos.line X.env = pure false := by rfl) : S1 X E ρ M (.Expr e pos) (.er c M1) := fun As σ F H hM hE D q =>
  ⟨_, ps_expr (pe_w X e) hs, h As σ F H hM hE _ fun As1 F1 H1 s1 m1 => q As1 F1 H1 s1 m1⟩
theorem sd_retX (h : EX X E ρ M e c M1) : S1 X E ρ M (.Return (some e) pos) (.er c M1) := fun As σ F H hM hE D q =>
  ⟨_, ps_ret (pe_w X e), h As σ F H hM hE _ fun As1 F1 H1 s1 m1 => q As1 F1 H1 s1 m1⟩
theorem RepE.set {As : List Addr} {F : Hp} {σ : St} {ρ : REnv} (h : RepE As F σ ρ) {v : V} {r : Slot} (o : SlotOk As F v r) (i : Nat) : RepE As F (σ.set i (some v)) (ρ.set i (some r)) := by
  refine ⟨by simp [h.len], fun j r' e => ?_⟩
  by_cases hj : j = i
  · subst hj
    have hl : j < ρ.length := by
      have := (List.getElem?_eq_some_iff.mp e).1
      simpa using this
    rw [List.getElem?_set_self hl] at e
    cases e
    exact ⟨v, by rw [List.getElem?_set_self (by rw [h.len]; exact hl)], o⟩
  · rw [List.getElem?_set_ne (Ne.symm hj)] at e
    obtain ⟨v', h1, h2⟩ := h.env j r' e
    exact ⟨v', by rw [List.getElem?_set_ne (Ne.symm hj)]; exact h1, h2⟩
theorem sd_set {i : Nat} {x : Str} {p : Pos} (hN : X.N.Nodup) (h : ED X ρ M e r M1) (hi : X.N[i]? = some x := by rfl) (hx : Loc X.env.scope x := by first | exact Or.inl rfl | exact Or.inr rfl) (hs : swapsWith e (some (.Name x p)) pos.line X.env = pure false := by rfl)
    (hf : X.fn x = true ∨ X.env.scope.names.lookup x = some .local := by first | exact .inl rfl | exact .inr rfl) : S1 X E ρ M (.Assign [.Name x p] e pos) (.nx (ρ.set i (some r)) M1) := fun As σ F H hM hE D q =>
  ⟨_, ps_set hN hi hx (pe_w X e) hs hf, h As σ F H hM hE _ fun v As1 F1 H1 s1 m1 o1 => q As1 _ F1 H1 s1 m1 ((hE.step s1).set o1 i)⟩
theorem sd_aug {i : Nat} {x : Str} {p : Pos} {a b : Int} (hN : X.N.Nodup) (h : ED X ρ M e (.d (.int b)) M1) (hv : ρ[i]? = some (some (.d (.int a))) := by rfl) (hi : X.N[i]? = some x := by rfl) (hx : Loc X.env.scope x := by first | exact Or.inl rfl | exact Or.inr rfl)
    (hf : X.fn x = true ∨ X.env.scope.names.lookup x = some .local := by first | exact .inl rfl | exact .inr rfl) : S1 X E ρ M (.AugAssign (.Name x p) .Add e pos) (.nx (ρ.set i (some (.d (.int (a + b))))) M1) := fun As σ F H hM hE D q => by
  obtain ⟨v, h1, h2⟩ := hE.env i _ hv
  cases h2
  refine ⟨_, ps_aug hN hi hx (pe_w X e) ip_add hf, .int a, h1, h As σ F H hM hE _ fun v As1 F1 H1 s1 m1 o1 => ?_⟩
  cases o1
  exact ⟨a, b, rfl, rfl, q As1 _ F1 H1 s1 m1 ((hE.step s1).set (r := .d (.int (a + b))) (Dv.int (a + b)) i)⟩
/-- a, b = x, y -/
theorem sd_par {i j : Nat} {x y : Str} {e1 e2 : Expr} {px py pt : Pos} {kt k2 pt2} {r1 r2 : Slot} (hN : X.N.Nodup) (h : AD X ρ M [e1, e2] [r1, r2] M1) (hc : X.calm = true := by rfl) (hi : X.N[i]? = some x := by rfl) (hj : X.N[j]? = some y := by rfl) (hij : i ≠ j := by decide)
    (hx : X.env.scope.names.lookup x = some .local := by rfl) (hy : X.env.scope.names.lookup y = some .local := by rfl)
    (hw : swappedStores [.Tuple [.Name x px, .Name y py] kt pt] (.Tuple [e1, e2] k2 pt2) X.env = pure (some [x, y]) := by rfl)
    (hs : swapsWithSole [.Tuple [.Name x px, .Name y py] kt pt] (.Tuple [e1, e2] k2 pt2) pos.line X.env = pure false := by rfl) :
    S1 X E ρ M (.Assign [.Tuple [.Name x px, .Name y py] kt pt] (.Tuple [e1, e2] k2 pt2) pos) (.nx ((ρ.set i (some r1)).set j (some r2)) M1) := fun As σ F H hM hE D q =>
  ⟨_, ps_par hc hN hi hj hij hx hy (pa_w X _) hw hs, h As σ F H hM hE _ fun vs As1 F1 H1 s1 m1 o1 => by
    cases o1 with
    | cons o1 o2 =>
      cases o2 with
      | cons o2 o3 =>
        cases o3
        exact ⟨_, _, rfl, q As1 _ F1 H1 s1 m1 (((hE.step s1).set o1 i).set o2 j)⟩⟩
/-- an owned list becomes data -/
theorem sd_rel {i j : Nat} {ds : List PyData} (hi : ρ[i]? = some (some (.own j))) (hm : M[j]? = some (.lst ds)) (h : SD X E (ρ.set i (some (.d (.list ds)))) (M.set j .gone) sts o) : SD X E ρ M sts o := fun As σ F H hM hE D q => by
  obtain ⟨v, h1, a, h2, rfl⟩ := hE.env i _ hi
  obtain ⟨F', s1, m1, dv⟩ := relM hM h2 hm
  have e1 : RepE As F' (σ.set i (some (.ref a))) (ρ.set i (some (.d (.list ds)))) := (hE.step s1).set (r := .d (.list ds)) dv i
  have e2 : σ.set i (some (.ref a)) = σ := by
    have hl := (List.getElem?_eq_some_iff.mp h1).1
    refine List.ext_getElem? fun n => ?_
    by_cases hn : n = i
    · subst hn; rw [List.getElem?_set_self hl, h1]
    · rw [List.getElem?_set_ne (Ne.symm hn)]
  rw [e2] at e1
  exact h As σ F' H m1 e1 D (q.step s1)
/-- xs.append(e), xs owned -/
theorem upM {As : List Addr} {F H : Hp} (hM : RepM As F H M) {j : Nat} {p : Addr} (hp : As[j]? = some p) (hm : ∃ ds, M[j]? = some (.lst ds)) {xs : List V} {ds' : List PyData} (hd : DvAll F xs ds') :
    Step As F H As F (upd H p (.lst xs)) ∧ RepM As F (upd H p (.lst xs)) (M.set j (.lst ds')) := by
  obtain ⟨ds, hm⟩ := hm
  have fp : F p = none := hM.fr j p _ hp hm (by simp)
  have mem : p ∈ As := List.mem_of_getElem? hp
  refine ⟨⟨Ex.refl F, fun x u hx q => by rw [upd_ne (fun z => hx (by rw [z]; exact mem))]; exact q, fun x hx => ?_, fun x _ q _ => q, [], by simp, by simp⟩, ⟨fun a u q => ?_, hM.nd, by simp [hM.len], fun a ha => ?_, fun i a u h1 h2 h3 => ?_, fun i a u h1 h2 => ?_⟩⟩
  · by_cases z : x = p
    · rw [z, upd_same]; simp
    · rw [upd_ne z]; exact hx
  · rw [upd_ne (ne_of_none q fp)]; exact hM.ex a u q
  · by_cases z : a = p
    · rw [z, upd_same]; simp
    · rw [upd_ne z]; exact hM.ne a ha
  · by_cases hij : i = j
    · subst hij
      rw [hp] at h1; cases h1
      exact fp
    · rw [List.getElem?_set_ne (Ne.symm hij)] at h2
      exact hM.fr i a u h1 h2 h3
  · by_cases hij : i = j
    · subst hij
      rw [hp] at h1; cases h1
      rw [List.getElem?_set_self (List.getElem?_eq_some_iff.mp hm).1] at h2
      cases h2
      exact ⟨xs, upd_same, hd⟩
    · rw [List.getElem?_set_ne (Ne.symm hij)] at h2
      have na : a ≠ p := fun z => by subst z; exact hij (nd_ix hM.nd h1 hp)
      have q := hM.mem i a u h1 h2
      cases u with
      | lst es => obtain ⟨ys, k1, k2⟩ := q; exact ⟨ys, by rw [upd_ne na]; exact k1, k2⟩
      | dra b c => exact (show upd H p (.lst xs) a = _ by rw [upd_ne na]; exact q)
      | drb b ns => exact ⟨q.1, by rw [upd_ne na]; exact q.2⟩
      | gone => trivial
      | pin b f ds => obtain ⟨e0, ys, k1, k2⟩ := q; exact ⟨e0, ys, by rw [upd_ne na]; exact k1, k2⟩
theorem ed_app {i j : Nat} {x : Str} {px apos : Pos} {a : Expr} {ds : List PyData} {d : PyData} (h : ED X ρ M a (.d d) M) (hi : ρ[i]? = some (some (.own j)) := by rfl) (hm : M[j]? = some (.lst ds) := by rfl) (hz : ds.length < 100000) (hN : X.N[i]? = some x := by rfl) (hv : Vis X.env.scope x := by first | exact Or.inl rfl | exact Or.inr (Or.inl rfl) | exact Or.inr (Or.inr rfl)) (hd : (x == ("__debug__" : Str)) = false := by decide)
    (hcd : (x == ("__classdict__" : Str)) = false := by decide) (hb : attributeBase (.Name x px) "append" X.env (eval (.Name x px) X.env) = eval (.Name x px) X.env := by rfl)
    (hfew : ((backTo pos (starEach (a :: []) X.env)).all (fun x => !x.1) && (backToKw pos (keywordEach [] X.env)).all (fun x => x.1.isSome)
      && decide ((a :: []).length + ([] : List Keyword).length + (if ([] : List Keyword).isEmpty then 0 else 1) < 30)) = true := by rfl)
    (hline : (apos.endLine == pos.line) = true := by rfl) (hs : starEach (a :: []) X.env = (false, eval a X.env) :: starEach [] X.env := by rfl) :
    ED X ρ M (.Call (.Attribute (.Name x px) "append" apos) [a] [] pos) (.d .none) (M.set j (.lst (ds ++ [d]))) := fun As σ F H hM hE Q q => by
  obtain ⟨v, h1, p, h2, rfl⟩ := hE.env i _ hi
  obtain ⟨ys, k1, k2⟩ := hM.mem j p _ h2 hm
  refine ⟨_, pe_bm PySem.F.plainAttrs_list PySem.F.slot_list_append PySem.F.type_list_append mt_append (pe_var hN hv hd hcd) (pa_cons (pe_w X a) pa_nil hs) hb hfew hline hs rfl, .ref p, h1, .inl ⟨rfl, _, SqL.of k1⟩, h As σ F H hM hE _ fun w As1 F1 H1 s1 m1 o1 => ?_⟩
  have h3 := s1.pre h2
  obtain ⟨zs, k3, k4⟩ := m1.mem j p _ h3 hm
  obtain ⟨s2, m2⟩ := upM m1 h3 ⟨_, hm⟩ (k4.snoc o1)
  exact ⟨p, zs, w, rfl, rfl, k3, by rw [k4.length]; exact Evl.sz_lt hz, q _ _ _ _ (s1.trans s2) m2 .non⟩
end
end WC

/-! defs and their calls, loops, comprehensions -/
namespace WC
open PySem L2
open Evl (Ex)

/-! ### a def of the text -/
def startR (N : List Str) (ds : List PyData) : REnv := ds.map (fun d => some (Slot.d d)) ++ List.replicate (N.length - ds.length) none
theorem start_rep {F : Hp} {N : List Str} {vs : List V} {ds : List PyData} (h : DvAll F vs ds) : RepE [] F (L2.start N vs) (startR N ds) := by
  have hl := h.length
  refine ⟨by simp [L2.start, startR, hl], fun i r e => ?_⟩
  unfold startR at e
  unfold L2.start
  by_cases hi : i < ds.length
  · rw [List.getElem?_append_left (by simpa using hi), List.getElem?_map] at e
    obtain ⟨d, hd⟩ : ∃ d, ds[i]? = some d := ⟨ds[i], by simp [hi]⟩
    rw [hd] at e
    cases e
    obtain ⟨v, h1, h2⟩ := h.get hd
    exact ⟨v, by rw [List.getElem?_append_left (by simp; omega), List.getElem?_map, h1]; rfl, h2⟩
  · rw [List.getElem?_append_right (by simp; omega)] at e
    obtain ⟨hlt, he⟩ := List.getElem?_eq_some_iff.mp e
    simp at he
def BodyOk (X : Cx) (E : XK) (N : List Str) (ds : List PyData) (body : List Stmt) : Res → Prop
  | .val d => (∃ M', SD X E (startR N ds) [] body (.rt (.d d) M')) ∨ (d = .none ∧ ∃ ρ' M', SD X E (startR N ds) [] body (.nx ρ' M'))
  | .new es => ∃ j M', SD X E (startR N ds) [] body (.rt (.own j) M') ∧ M'[j]? = some (.lst es)
  | .err c => ∃ M', SD X E (startR N ds) [] body (.er c M')
theorem repM_nil {F H : Hp} (h : Ex F H) : RepM [] F H [] := ⟨h, by simp, rfl, by simp, by simp, by simp⟩
section
variable {P : Program} {w : World} {K : PySem.W.Frag} {mg : Str → Option Value} {base : Heap}
theorem fn_ok {x qual : Str} {st : Stmt} {f : Addr} {fd : FuncData} {N ps : List Str} {k : Nat} {Sig : List PyData → Res → Prop} (Fn : Fun K x qual st f fd) (S : FnScope N ps (defScope st)) (hl : ∀ ds r, Sig ds r → ds.length = ps.length)
    (body : ∀ (cdv : Value) (A : Around) (outer : List Env) (s : Shared) (H : Hp) (E : XK), Room k (A.deeper (PyProof.Rows.envOfC qual (defScope st) s.heap.objs.size f cdv)) → ∀ ds r, Sig ds r →
      BodyOk (cxOf (L2.CX P w) P w K mg base N qual (defScope st) f cdv A outer s H E) E N ds (defBody st) r) : FnOk P w K mg base (L2.CX P w) (k + 1) f fd ps (Pr Sig) := by
  refine Fn.okX S (fun vs H Q E h => ?_) (fun cdv A outer s H vs Q E hr h => ?_)
  · obtain ⟨F, ds, r, _, h1, h2, _⟩ := h
    rw [h1.length]; exact hl ds r h2
  · obtain ⟨F, ds, r, hF, h1, h2, h3⟩ := h
    have b := body cdv A outer s H E hr ds r h2
    have e0 := start_rep (N := N) h1
    cases r with
    | val d =>
      rcases b with ⟨M', b⟩ | ⟨rfl, ρ', M', b⟩
      · exact b [] _ F H (repM_nil hF) e0 _ fun v As' F' H' s1 m1 o1 => h3 v F' H' (s1.toF m1) o1
      · exact b [] _ F H (repM_nil hF) e0 _ fun As' σ' F' H' s1 m1 o1 => h3 .non F' H' (s1.toF m1) .non
    | new es =>
      obtain ⟨j, M', b, hj⟩ := b
      refine b [] _ F H (repM_nil hF) e0 _ fun v As' F' H' s1 m1 o1 => ?_
      obtain ⟨a, ha, rfl⟩ := o1
      obtain ⟨xs, k1, k2⟩ := m1.mem j a _ ha hj
      obtain ⟨more, e1, n1⟩ := s1.grow
      have ma : a ∈ more := by
        have := List.mem_of_getElem? ha
        rw [e1] at this; simpa using this
      exact h3 a xs F' H' (s1.toF m1) (n1 a ma) (m1.fr j a _ ha hj (by simp)) k1 k2
    | err c =>
      obtain ⟨M', b⟩ := b
      exact b [] _ F H (repM_nil hF) e0 _ fun As' F' H' s1 m1 => h3 F' H' (s1.toF m1)
/-- a def that is called by its name -/
structure Fn (P : Program) (w : World) (K : PySem.W.Frag) (mg : Str → Option Value) (base : Heap) (x : Str) (k : Nat) (ps : List Str) (Sig : List PyData → Res → Prop) : Prop where
  ex : ∃ f fd, FnOk P w K mg base (L2.CX P w) k f fd ps (Pr Sig) ∧ mg x = some (.ref f) ∧ PySem.W.keepIn K (.ref f) = true ∧ Binds K fd ps []
theorem Fn.mono {x : Str} {j k : Nat} {ps : List Str} {Sig : List PyData → Res → Prop} (h : Fn P w K mg base x j ps Sig) (hk : j ≤ k) : Fn P w K mg base x k ps Sig := by
  obtain ⟨f, fd, a, b⟩ := h.ex
  exact ⟨f, fd, a.mono hk, b⟩
end
section
variable {X : Cx} {E : XK} {ρ ρ1 ρ2 : REnv} {M M1 M2 : List MO} {st : Stmt} {rest sts : List Stmt} {o : Out} {e : Expr} {es : List Expr} {pos p : Pos} {r : Slot} {c : Value} {kk : Bool} {x : Str} {k : Nat} {ps : List Str} {Sig : List PyData → Res → Prop} {ds : List PyData}
theorem ed_call {d : PyData} (G : Fn X.prog X.w X.K X.mg X.base x k ps Sig) (hr : Room k X.A) (ha : AD X ρ M (e :: es) (ds.map Slot.d) M1) (hs : Sig ds (.val d)) (hg : Gl X x := by rfl)
    (hdb : (x == ("__debug__" : Str)) = false := by decide) (he : starEach (e :: es) X.env = (false, eval e X.env) :: starEach es X.env := by rfl) (hpl : (backTo pos (starEach es X.env)).any (·.1) = false := by rfl) :
    ED X ρ M (.Call (.Name x p) (e :: es) [] pos) (.d d) M1 := fun As σ F H hM hE Q q => by
  obtain ⟨f, fd, F1, hm, hk, hb⟩ := G.ex
  refine ⟨_, pe_call F1 hr hg hm hk hb .nil passL (pa_w X _) hdb he hpl, ha As σ F H hM hE _ fun vs As1 F1 H1 s1 m1 o1 => ⟨F1, ds, .val d, m1.ex, by rw [List.append_nil]; exact o1.data, hs, fun v F' H' s2 dv => q v As1 F' H' (s1.trans (s2.step As1)) (s2.rep m1) dv⟩⟩
theorem ed_callO {ds' : List PyData} (G : Fn X.prog X.w X.K X.mg X.base x k ps Sig) (hr : Room k X.A) (ha : AD X ρ M (e :: es) (ds.map Slot.d) M1) (hs : Sig ds (.new ds')) (hg : Gl X x := by rfl)
    (hdb : (x == ("__debug__" : Str)) = false := by decide) (he : starEach (e :: es) X.env = (false, eval e X.env) :: starEach es X.env := by rfl) (hpl : (backTo pos (starEach es X.env)).any (·.1) = false := by rfl) :
    ED X ρ M (.Call (.Name x p) (e :: es) [] pos) (.own M1.length) (M1 ++ [.lst ds']) := fun As σ F H hM hE Q q => by
  obtain ⟨f, fd, F1, hm, hk, hb⟩ := G.ex
  refine ⟨_, pe_call F1 hr hg hm hk hb .nil passL (pa_w X _) hdb he hpl, ha As σ F H hM hE _ fun vs As1 F1 H1 s1 m1 o1 => ⟨F1, ds, .new ds', m1.ex, by rw [List.append_nil]; exact o1.data, hs, fun n xs F' H' s2 hn fn hx dv => ?_⟩⟩
  have m2 := (s2.rep m1).add (p := n) (fun z => m1.ne n z hn) fn hx dv
  have s3 := s2.step As1
  exact q _ (As1 ++ [n]) F' H' (s1.trans ⟨s3.fe, s3.keep, s3.ne, s3.cap, [n], rfl, by simpa using hn⟩) m2 ⟨n, by rw [← m1.len]; simp, rfl⟩
/-- a call that raises -/
theorem ex_call (G : Fn X.prog X.w X.K X.mg X.base x k ps Sig) (hr : Room k X.A) (tk : Takes X (fun cls d _ H => E cls d H)) (ha : AD X ρ M (e :: es) (ds.map Slot.d) M1) (hs : Sig ds (.err c)) (hg : Gl X x := by rfl)
    (hdb : (x == ("__debug__" : Str)) = false := by decide) (he : starEach (e :: es) X.env = (false, eval e X.env) :: starEach es X.env := by rfl) (hpl : (backTo pos (starEach es X.env)).any (·.1) = false := by rfl) :
    EX X E ρ M (.Call (.Name x p) (e :: es) [] pos) c M1 := fun As σ F H hM hE Q q => by
  obtain ⟨f, fd, F1, hm, hk, hb⟩ := G.ex
  refine ⟨_, pe_call F1 hr hg hm hk hb .nil (passes_call tk fun _ _ _ _ h => h) (pa_w X _) hdb he hpl, ha As σ F H hM hE _ fun vs As1 F1 H1 s1 m1 o1 => ⟨F1, ds, .err c, m1.ex, by rw [List.append_nil]; exact o1.data, hs, fun F' H' s2 => q As1 F' H' (s1.trans (s2.step As1)) (s2.rep m1)⟩⟩
/-- an own exception class, as raise wants it -/
structure Exc (K : PySem.W.Frag) (mg : Str → Option Value) (x : Str) (C : Addr) : Prop where
  q : PySem.W.excIn K C [.type "ValueError", .type "Exception", .type "BaseException", .type "object"] "ValueError.__new__" = true
  g : mg x = some (.ref C)
  kp : PySem.W.keepIn K (.ref C) = true
  b : PySem.W.subIn K (.ref C) (.type "BaseException") = some true
  t : PySem.W.typeIn K (.ref C) = some (.type "type")
theorem sd_raise {C : Addr} {m : Str} {jj : Nat} {p2 pos' : Pos} (T : Exc X.K X.mg x C) (tk : Takes X (fun cls d _ H => E cls d H)) (hg : Gl X x := by rfl) (hc : X.calm = true := by rfl) (hdb : (x == ("__debug__" : Str)) = false := by decide) :
    S1 X E ρ M (.Raise (some (.Call (.Name x p) [.Constant (.str m) jj p2] [] pos')) none pos) (.er (.ref C) M) := fun As σ F H hM hE D q =>
  ⟨_, ps_raise hc tk (pmk_own PySem.F.excBase_ValueError T.q T.g T.kp (raises_own T.b T.t) hg hdb), q As F H (Step.refl ..) hM⟩

/-! ### while -/
theorem sd_while {cd : Expr} {body : List Stmt} (n : Nat) (ρs : Nat → REnv) (Ms : Nat → List MO) (hp : PassesOwn (model X.prog X.w) X.A X.env X.xe)
    (hc : ∀ i, i < n → BT X (ρs i) (Ms i) cd true (Ms i)) (hb : ∀ i, i < n → SD X E (ρs i) (Ms i) body (.nx (ρs (i + 1)) (Ms (i + 1)))) (hd : BT X (ρs n) (Ms n) cd false (Ms n)) (h0 : ρ = ρs 0) (h1 : M = Ms 0) :
    S1 X E ρ M (.While cd body [] pos) (.nx (ρs n) (Ms n)) := fun As σ F H hM hE D q => by
  subst h0 h1
  refine ⟨_, ps_while hp (pt_w X cd) (pss_w X body), fun m σ' H' => ∃ i As' F', m = n - i ∧ i ≤ n ∧ Step As F H As' F' H' ∧ RepM As' F' H' (Ms i) ∧ RepE As' F' σ' (ρs i), ⟨n, 0, As, F, by omega, by omega, Step.refl .., hM, hE⟩, ?_⟩
  rintro m σ' H' ⟨i, As1, F1, rfl, hi, s1, m1, e1⟩
  by_cases hlt : i < n
  · refine hc i hlt As1 σ' F1 H' m1 e1 _ fun As2 F2 H2 s2 m2 => iteT ⟨fun σ'' H'' => ∃ As' F', Step As F H As' F' H'' ∧ RepM As' F' H'' (Ms (i + 1)) ∧ RepE As' F' σ'' (ρs (i + 1)), fun σ'' H'' ⟨As3, F3, s3, m3, e3⟩ => ⟨n - (i + 1), by omega, i + 1, As3, F3, rfl, hlt, s3, m3, e3⟩, ?_⟩
    exact hb i hlt As2 σ' F2 H2 m2 (e1.step s2) _ fun As3 σ3 F3 H3 s3 m3 e3 => ⟨As3, F3, (s1.trans s2).trans s3, m3, e3⟩
  · have e : i = n := by omega
    subst e
    exact hd As1 σ' F1 H' m1 e1 _ fun As2 F2 H2 s2 m2 => iteF (q As2 σ' F2 H2 (s1.trans s2) m2 (e1.step s2))

/-! ### targets -/
def TD (X : Cx) (ρ : REnv) (tg : Expr) (d : PyData) (js : List Nat) (ρ' : REnv) : Prop :=
  ∀ (As : List Addr) (σ : St) (F H : Hp) (v : V), RepE As F σ ρ → Ex F H → Dv F v d → ∀ Q : St → Hp → Prop,
    (∀ σ', RepE As F σ' ρ' → σ'.length = σ.length → (∀ i : Nat, i ∉ js → σ'[i]? = σ[i]?) → Q σ' H) → wG X tg v σ H Q
def TDs (X : Cx) (ρ : REnv) (tgs : List Expr) (ds : List PyData) (js : List Nat) (ρ' : REnv) : Prop :=
  ∀ (As : List Addr) (σ : St) (F H : Hp) (vs : List V), RepE As F σ ρ → Ex F H → DvAll F vs ds → ∀ Q : St → Hp → Prop,
    (∀ σ', RepE As F σ' ρ' → σ'.length = σ.length → (∀ i : Nat, i ∉ js → σ'[i]? = σ[i]?) → Q σ' H) → wGs X tgs vs σ H Q
theorem td_name {i : Nat} {d : PyData} (hN : X.N.Nodup) (hi : X.N[i]? = some x := by rfl) (hx : Loc X.env.scope x := by first | exact Or.inl rfl | exact Or.inr rfl) (hf : X.fn x = true ∨ X.env.scope.names.lookup x = some .local := by first | exact .inl rfl | exact .inr rfl) :
    TD X ρ (.Name x pos) d [i] (ρ.set i (some (.d d))) := fun As σ F H v hE hF dv Q q =>
  ⟨_, pg_name hN hi hx hf, q _ (hE.set (r := .d d) dv i) (by simp) fun j hj => by
    rw [List.getElem?_set_ne (fun z => hj (by simp [z]))]⟩
theorem tds_nil : TDs X ρ [] [] [] ρ := fun As σ F H vs hE hF dv Q q => by
  cases dv
  exact ⟨_, pgs_nil, rfl, q σ hE rfl fun _ _ => rfl⟩
theorem tds_cons {tg : Expr} {tgs : List Expr} {d : PyData} {js js' : List Nat} (h1 : TD X ρ tg d js ρ1) (h2 : TDs X ρ1 tgs ds js' ρ2) (hs : (assignEach (tg :: tgs) X.env).map (·.2) = assign tg X.env :: (assignEach tgs X.env).map (·.2) := by rfl) : TDs X ρ (tg :: tgs) (d :: ds) (js ++ js') ρ2 := fun As σ F H vs hE hF dv Q q => by
  cases dv with
  | cons dv dvs =>
    exact ⟨_, pgs_cons (pg_w X tg) (pgs_w X tgs) hs, _, _, rfl, h1 As σ F H _ hE hF dv _ fun σ1 e1 l1 k1 => h2 As σ1 F H _ e1 hF dvs Q fun σ2 e2 l2 k2 => q σ2 e2 (l2.trans l1) fun i hi => by
      rw [k2 i (fun z => hi (List.mem_append_right _ z)), k1 i (fun z => hi (List.mem_append_left _ z))]⟩
theorem td_tup {tgs : List Expr} {kt : Nat} {js : List Nat} {n : Nat} (h : TDs X ρ tgs ds js ρ1) (hl : ds.length = n := by rfl) (hc : X.calm = true := by rfl) (hn : (assignEach tgs X.env).length = n := by rfl) (hst : (assignEach tgs X.env).findIdx? (·.1) = none := by rfl) :
    TD X ρ (.Tuple tgs kt pos) (.tuple ds) js ρ1 := fun As σ F H v hE hF dv Q q => by
  obtain ⟨a, xs, rfl, h1, h2⟩ := dv.tup_of
  exact ⟨_, pg_tup hc (pgs_w X tgs) hn hst, a, xs, rfl, SqT.of (hF _ _ h1), by rw [h2.length]; exact hl, h As σ F H xs hE hF h2 Q q⟩
/-- any target, of a value that is data -/
theorem sd_asg {tg : Expr} {d : PyData} {js : List Nat} (h : ED X ρ M e (.d d) M1) (ht : TD X ρ tg d js ρ1) (hs : swapsWithSole [tg] e pos.line X.env = pure false := by rfl) (hw : swappedStores [tg] e X.env = pure none := by rfl)
    (h1 : (assignEach [tg] X.env).map (·.2) = [assign tg X.env] := by rfl) : S1 X E ρ M (.Assign [tg] e pos) (.nx ρ1 M1) := fun As σ F H hM hE D q =>
  ⟨_, ps_asg (pe_w X e) (pg_w X tg) hs hw h1, h As σ F H hM hE _ fun v As1 F1 H1 s1 m1 o1 => ht As1 σ F1 H1 v (hE.step s1) m1.ex o1 _ fun σ' e' _ _ => q As1 σ' F1 H1 s1 m1 e'⟩

/-! ### what is walked -/
structure WalkD (J : It) (F H : Hp) (n : Nat) (item : Nat → PyData) : Prop where
  go : ∀ F2 H2 i, Ex F F2 → Ex F2 H2 → i < n → J.go i H2
  yld : ∀ F2 H2 i x H3, Ex F F2 → Ex F2 H2 → i < n → J.yld i H2 x H3 → (H3 = H2 ∧ Dv F2 x (item i)) ∨ ∃ T ob, H2 T = none ∧ H3 = upd H2 T ob ∧ Dv (upd F2 T ob) x (item i)
  stop : ∀ F2 H2 i, Ex F F2 → Ex F2 H2 → n ≤ i → J.stop i H2
def ITR (X : Cx) (ρ : REnv) (M : List MO) (tg iter : Expr) (n : Nat) (item : Nat → PyData) (M1 : List MO) : Prop :=
  ∀ (As : List Addr) (σ : St) (F H : Hp), RepM As F H M → RepE As F σ ρ → ∀ R : It → Hp → Prop, (∀ J As' F' H', Step As F H As' F' H' → RepM As' F' H' M1 → WalkD J F' H' n item → R J H') → wI X tg iter σ H R
theorem it_list {tg : Expr} (item : Nat → PyData) (h : ED X ρ M e (.d (.list ds)) M1) (hi : ∀ i d, ds[i]? = some d → item i = d) : ITR X ρ M tg e ds.length item M1 := fun As σ F H hM hE R q =>
  ⟨_, pi_list (pe_w X e), h As σ F H hM hE _ fun v As1 F1 H1 s1 m1 o1 => by
    obtain ⟨a, xs, rfl, h1, h2⟩ := Dv.lst_of o1
    have sq : ∀ F2 H2, Ex F1 F2 → Ex F2 H2 → SqL X.K H2 a xs := fun F2 H2 a1 a2 => SqL.of (a2 _ _ (a1 _ _ h1))
    refine ⟨a, rfl, ⟨xs, sq F1 H1 (Ex.refl F1) m1.ex⟩, q _ As1 F1 H1 s1 m1 ⟨fun F2 H2 i a1 a2 hi => ?_, fun F2 H2 i x H3 a1 a2 hlt y => ?_, fun F2 H2 i a1 a2 hi => ⟨xs, sq F2 H2 a1 a2, by rw [h2.length]; exact hi⟩⟩⟩
    · obtain ⟨v, hv, _⟩ := h2.get (i := i) (d := ds[i]) (by simp [hi])
      exact ⟨xs, v, sq F2 H2 a1 a2, hv⟩
    · obtain ⟨rfl, y⟩ := y
      obtain ⟨d, hd, dv⟩ := h2.getV (y xs (sq F2 H3 a1 a2))
      rw [hi i d hd]
      exact .inl ⟨rfl, dv.mono a1⟩⟩
theorem it_tup {tg : Expr} (item : Nat → PyData) (h : ED X ρ M e (.d (.tuple ds)) M1) (hi : ∀ i d, ds[i]? = some d → item i = d) : ITR X ρ M tg e ds.length item M1 := fun As σ F H hM hE R q =>
  ⟨_, pi_tup (pe_w X e), h As σ F H hM hE _ fun v As1 F1 H1 s1 m1 o1 => by
    obtain ⟨a, xs, rfl, h1, h2⟩ := Dv.tup_of o1
    have sq : ∀ F2 H2, Ex F1 F2 → Ex F2 H2 → SqT X.K H2 a xs := fun F2 H2 a1 a2 => SqT.of (a2 _ _ (a1 _ _ h1))
    refine ⟨a, rfl, ⟨xs, sq F1 H1 (Ex.refl F1) m1.ex⟩, q _ As1 F1 H1 s1 m1 ⟨fun F2 H2 i a1 a2 hi => ?_, fun F2 H2 i x H3 a1 a2 hlt y => ?_, fun F2 H2 i a1 a2 hi => ⟨xs, sq F2 H2 a1 a2, by rw [h2.length]; exact hi⟩⟩⟩
    · obtain ⟨v, hv, _⟩ := h2.get (i := i) (d := ds[i]) (by simp [hi])
      exact ⟨xs, v, sq F2 H2 a1 a2, hv⟩
    · obtain ⟨rfl, y⟩ := y
      obtain ⟨d, hd, dv⟩ := h2.getV (y xs (sq F2 H3 a1 a2))
      rw [hi i d hd]
      exact .inl ⟨rfl, dv.mono a1⟩⟩
theorem it_range1 {tg : Expr} {n : Int} (hg : Gl X "range") (hm : X.mg "range" = none) (h : ED X ρ M e (.d (.int n)) M1) (hn : -1000000 ≤ n ∧ n ≤ 1000000) (hs : starEach [e] X.env = [(false, eval e X.env)] := by rfl) : ITR X ρ M tg (.Call (.Name "range" p) [e] [] pos) n.toNat (fun i => .int (i : Int)) M1 := fun As σ F H hM hE R q =>
  ⟨_, pi_range1 hg hm (pa_cons (pe_w X e) pa_nil hs) hs, h As σ F H hM hE _ fun v As1 F1 H1 s1 m1 o1 => by
    cases o1
    refine ⟨n, rfl, by omega, by omega, q _ As1 F1 H1 s1 m1 ⟨fun F2 H2 i a1 a2 hi => hi, fun F2 H2 i x H3 a1 a2 hlt y => ?_, fun F2 H2 i a1 a2 hi => hi⟩⟩
    obtain ⟨rfl, rfl⟩ := y
    rw [Int.zero_add]
    exact .inl ⟨rfl, .int _⟩⟩
theorem it_range2 {tg e2 : Expr} {lo n : Int} (hg : Gl X "range") (hm : X.mg "range" = none) (h : AD X ρ M [e, e2] [.d (.int lo), .d (.int n)] M1) (hn : -1000000 ≤ lo ∧ lo ≤ 1000000 ∧ -1000000 ≤ n ∧ n ≤ 1000000) (hs : starEach [e, e2] X.env = [(false, eval e X.env), (false, eval e2 X.env)] := by rfl) (hs2 : starEach [e2] X.env = [(false, eval e2 X.env)] := by rfl) :
    ITR X ρ M tg (.Call (.Name "range" p) [e, e2] [] pos) (n - lo).toNat (fun i => .int (lo + (i : Int))) M1 := fun As σ F H hM hE R q =>
  ⟨_, pi_range2 hg hm (pa_w X _) hs hs2, h As σ F H hM hE _ fun vs As1 F1 H1 s1 m1 o1 => by
    cases o1 with
    | cons o1 o2 =>
      cases o2 with
      | cons o2 o3 =>
        cases o3; cases o1; cases o2
        refine ⟨lo, n, rfl, by omega, q _ As1 F1 H1 s1 m1 ⟨fun F2 H2 i a1 a2 hi => hi, fun F2 H2 i x H3 a1 a2 hlt y => ?_, fun F2 H2 i a1 a2 hi => hi⟩⟩
        obtain ⟨rfl, rfl⟩ := y
        exact .inl ⟨rfl, .int _⟩⟩
theorem it_zip {elts : List Expr} {kt : Nat} {tpos : Pos} {e2 : Expr} {ds2 : List PyData} (item : Nat → PyData) (hg : Gl X "zip") (hm : X.mg "zip" = none) (h : AD X ρ M [e, e2] [.d (.list ds), .d (.list ds2)] M1) (n : Nat) (hn : n = min ds.length ds2.length) (hi : ∀ i d d2, ds[i]? = some d → ds2[i]? = some d2 → item i = .tuple [d, d2])
    (hs : starEach [e, e2] X.env = (false, eval e X.env) :: starEach [e2] X.env := by rfl) (hpl : (backTo pos (starEach [e2] X.env)).any (·.1) = false := by rfl) :
    ITR X ρ M (.Tuple elts kt tpos) (.Call (.Name "zip" p) [e, e2] [] pos) n item M1 := fun As σ F H hM hE R q =>
  ⟨_, pi_zip hg hm (pa_w X _) hs hpl, h As σ F H hM hE _ fun vs As1 F1 H1 s1 m1 o1 => by
    cases o1 with
    | cons o1 o2 =>
      cases o2 with
      | cons o2 o3 =>
        cases o3
        obtain ⟨a, xs, rfl, h1, h2⟩ := Dv.lst_of o1
        obtain ⟨b, ys, rfl, k1, k2⟩ := Dv.lst_of o2
        have sq : ∀ F2 H2, Ex F1 F2 → Ex F2 H2 → SqL X.K H2 a xs := fun F2 H2 a1 a2 => SqL.of (a2 _ _ (a1 _ _ h1))
        have sq2 : ∀ F2 H2, Ex F1 F2 → Ex F2 H2 → SqL X.K H2 b ys := fun F2 H2 a1 a2 => SqL.of (a2 _ _ (a1 _ _ k1))
        refine ⟨a, b, xs, ys, rfl, sq F1 H1 (Ex.refl F1) m1.ex, sq2 F1 H1 (Ex.refl F1) m1.ex, q _ As1 F1 H1 s1 m1 ⟨fun F2 H2 i a1 a2 hi => ?_, fun F2 H2 i x H3 a1 a2 hlt y => ?_, fun F2 H2 i a1 a2 hi => ⟨xs, ys, sq F2 H2 a1 a2, sq2 F2 H2 a1 a2, by rw [h2.length, k2.length]; omega⟩⟩⟩
        · obtain ⟨v, hv, _⟩ := h2.get (i := i) (d := ds[i]'(by omega)) (by simp)
          obtain ⟨v2, hv2, _⟩ := k2.get (i := i) (d := ds2[i]'(by omega)) (by simp)
          exact ⟨xs, ys, v, v2, sq F2 H2 a1 a2, sq2 F2 H2 a1 a2, hv, hv2⟩
        · obtain ⟨T, x1, y1, rfl, nT, rfl, f1, f2⟩ := y
          obtain ⟨d, hd, dv⟩ := h2.getV (f1 xs (sq F2 H2 a1 a2))
          obtain ⟨d2, hd2, dv2⟩ := k2.getV (f2 ys (sq2 F2 H2 a1 a2))
          rw [hi i d d2 hd hd2]
          have fT : F2 T = none := Evl.fresh_back a2 nT
          have ee := a1.trans (Evl.Ex.new (o := .tup [x1, y1]) fT)
          exact .inr ⟨T, _, nT, rfl, .tup upd_same (.cons (dv.mono ee) (.cons (dv2.mono ee) .nil))⟩⟩
theorem it_enum {elts : List Expr} {kt : Nat} {tpos : Pos} (item : Nat → PyData) (hg : Gl X "enumerate") (hm : X.mg "enumerate" = none) (h : ED X ρ M e (.d (.list ds)) M1) (hi : ∀ i d, ds[i]? = some d → item i = .tuple [.int (i : Int), d])
    (hs : starEach [e] X.env = [(false, eval e X.env)] := by rfl) :
    ITR X ρ M (.Tuple elts kt tpos) (.Call (.Name "enumerate" p) [e] [] pos) ds.length item M1 := fun As σ F H hM hE R q =>
  ⟨_, pi_enum hg hm (pa_cons (pe_w X e) pa_nil hs) hs, h As σ F H hM hE _ fun v As1 F1 H1 s1 m1 o1 => by
    obtain ⟨a, xs, rfl, h1, h2⟩ := Dv.lst_of o1
    have sq : ∀ F2 H2, Ex F1 F2 → Ex F2 H2 → SqL X.K H2 a xs := fun F2 H2 a1 a2 => SqL.of (a2 _ _ (a1 _ _ h1))
    refine ⟨a, xs, rfl, sq F1 H1 (Ex.refl F1) m1.ex, q _ As1 F1 H1 s1 m1 ⟨fun F2 H2 i a1 a2 hi => ?_, fun F2 H2 i x H3 a1 a2 hlt y => ?_, fun F2 H2 i a1 a2 hi => ⟨xs, sq F2 H2 a1 a2, by rw [h2.length]; omega⟩⟩⟩
    · obtain ⟨v, hv, _⟩ := h2.get (i := i) (d := ds[i]'(by omega)) (by simp)
      exact ⟨xs, v, sq F2 H2 a1 a2, hv⟩
    · obtain ⟨T, x1, rfl, nT, rfl, f1⟩ := y
      obtain ⟨d, hd, dv⟩ := h2.getV (f1 xs (sq F2 H2 a1 a2))
      rw [hi i d hd]
      have fT : F2 T = none := Evl.fresh_back a2 nT
      have ee := a1.trans (Evl.Ex.new (o := .tup [.int (i : Nat), x1]) fT)
      exact .inr ⟨T, _, nT, rfl, .tup upd_same (.cons (.int _) (.cons (dv.mono ee) .nil))⟩⟩
/-- one item has come -/
theorem walk_turn {J : It} {As : List Addr} {F0 H0 F H : Hp} {n i : Nat} {item : Nat → PyData} (W : WalkD J F0 H0 n item) (fe : Ex F0 F) (m : RepM As F H M) (hi : i < n) {xv : V} {H3 : Hp} (y : J.yld i H xv H3) :
    ∃ F3, Step As F H As F3 H3 ∧ RepM As F3 H3 M ∧ Dv F3 xv (item i) ∧ (∀ b, H b ≠ none → H3 b = H b) := by
  rcases W.yld F H i xv H3 fe m.ex hi y with ⟨rfl, dv⟩ | ⟨T, ob, nT, rfl, dv⟩
  · exact ⟨F, Step.refl .., m, dv, fun _ _ => rfl⟩
  · obtain ⟨s, m2⟩ := newF m nT ob
    exact ⟨_, s, m2, dv, fun b hb => upd_ne fun z => hb (by rw [z]; exact nT)⟩
theorem sd_for {tg iter : Expr} {body : List Stmt} {n : Nat} {item : Nat → PyData} {js : List Nat} (ρs ρt : Nat → REnv) (Ms : Nat → List MO) (hp : PassesOwn (model X.prog X.w) X.A X.env X.xe) (it : ITR X ρ M tg iter n item (Ms 0)) (h0 : ρ = ρs 0)
    (ht : ∀ i, i < n → TD X (ρs i) tg (item i) js (ρt i)) (hb : ∀ i, i < n → SD X E (ρt i) (Ms i) body (.nx (ρs (i + 1)) (Ms (i + 1)))) (hc : X.calm = true := by rfl) (hs : ∀ x, foldedSetIterable iter X.env x = pure x := by intro _; rfl) :
    S1 X E ρ M (.For tg iter body [] pos) (.nx (ρs n) (Ms n)) := fun As σ F H hM hE D q => by
  subst h0
  refine ⟨_, ps_for hp hc (pi_w X tg iter) (pg_w X tg) (pss_w X body) hs, it As σ F H hM hE _ fun J As0 F0 H0 s0 m0 W => ⟨fun i m σ' H' => ∃ As' F', m = n - i ∧ i ≤ n ∧ Step As0 F0 H0 As' F' H' ∧ RepM As' F' H' (Ms i) ∧ RepE As' F' σ' (ρs i), ⟨n, As0, F0, by omega, by omega, Step.refl .., m0, hE.step s0⟩, ?_⟩⟩
  rintro i m σ' H' ⟨As1, F1, rfl, hi, s1, m1, e1⟩
  by_cases hlt : i < n
  · refine .inr ⟨W.go F1 H' i s1.fe m1.ex hlt, fun σ'' H'' => ∃ As' F', Step As0 F0 H0 As' F' H'' ∧ RepM As' F' H'' (Ms (i + 1)) ∧ RepE As' F' σ'' (ρs (i + 1)), fun σ'' H'' ⟨As3, F3, s3, m3, e3⟩ => ⟨n - (i + 1), by omega, As3, F3, rfl, hlt, s3, m3, e3⟩, fun xv H2 y => ?_⟩
    obtain ⟨F2, s2, m2, dv, _⟩ := walk_turn W s1.fe m1 hlt y
    refine ht i hlt As1 σ' F2 H2 xv (e1.step s2) m2.ex dv _ fun σ2 e2 _ _ => ?_
    exact hb i hlt As1 σ2 F2 H2 m2 e2 _ fun As3 σ3 F3 H3 s3 m3 e3 => ⟨As3, F3, (s1.trans s2).trans s3, m3, e3⟩
  · have e : i = n := by omega
    subst e
    exact .inl ⟨W.stop F1 H' i s1.fe m1.ex (Nat.le_refl _), q As1 σ' F1 H' (s0.trans s1) m1 e1⟩

/-! ### comprehensions -/
def wipeR (ρ : REnv) : List Nat → REnv
  | [] => ρ
  | v :: vs => (wipeR ρ vs).set v none
theorem wipe_rep {As : List Addr} {F : Hp} {σ : St} (h : RepE As F σ ρ) : ∀ vs : List Nat, RepE As F (wipe σ vs) (wipeR ρ vs)
  | [] => h
  | v :: vs => by
    have ih := wipe_rep h vs
    refine ⟨by simp [wipe, wipeR, ih.len], fun i r e => ?_⟩
    unfold wipeR at e
    unfold wipe
    by_cases hi : i = v
    · subst hi
      by_cases hl : i < (wipeR ρ vs).length
      · rw [List.getElem?_set_self hl] at e; cases e
      · rw [List.getElem?_eq_none (by simpa using hl)] at e; cases e
    · rw [List.getElem?_set_ne (Ne.symm hi)] at e ⊢
      exact ih.env i r e
theorem wipe_out' {σ : St} {i : Nat} : ∀ {vs : List Nat}, i ∉ vs → (wipe σ vs)[i]? = σ[i]?
  | [], _ => rfl
  | v :: vs, h => by
    unfold wipe
    rw [List.getElem?_set_ne (fun e => h (by simp [e]))]
    exact wipe_out' fun z => h (List.mem_cons_of_mem _ z)
theorem wipe_in {σ : St} {i : Nat} : ∀ {vs : List Nat}, i ∈ vs → i < σ.length → (wipe σ vs)[i]? = some none
  | [], h, _ => by simp at h
  | v :: vs, h, hl => by
    unfold wipe
    by_cases e : i = v
    · subst e; rw [List.getElem?_set_self (by rw [wipe_length]; exact hl)]
    · rw [List.getElem?_set_ne (Ne.symm e)]
      exact wipe_in (by simpa [e] using h) hl
theorem wipe_eq {σ σ2 : St} {vs js : List Nat} (hl : σ2.length = (wipe σ vs).length) (hj : ∀ j ∈ js, j ∈ vs) (h : ∀ i : Nat, i ∉ js → σ2[i]? = (wipe σ vs)[i]?) : wipe σ2 vs = wipe σ vs := by
  refine List.ext_getElem? fun i => ?_
  rw [wipe_length] at hl
  by_cases hi : i ∈ vs
  · by_cases hlt : i < σ.length
    · rw [wipe_in hi hlt, wipe_in hi (by omega)]
    · rw [List.getElem?_eq_none (by rw [wipe_length]; omega), List.getElem?_eq_none (by rw [wipe_length]; omega)]
  · rw [wipe_out' hi, h i fun z => hi (hj i z)]
/-- what a comprehension gathers -/
def gath (n : Nat) (f : Nat → Bool) (g : Nat → PyData) : List PyData := ((List.range n).filter f).map g
theorem gath_yes {n : Nat} {f : Nat → Bool} {g : Nat → PyData} (h : f n = true) : gath (n + 1) f g = gath n f g ++ [g n] := by
  unfold gath
  rw [List.range_succ, List.filter_append, List.map_append, List.filter_cons, if_pos h] <;> rfl
theorem gath_no {n : Nat} {f : Nat → Bool} {g : Nat → PyData} (h : f n = false) : gath (n + 1) f g = gath n f g := by
  unfold gath
  rw [List.range_succ, List.filter_append, List.map_append, List.filter_cons, if_neg (by rw [h]; decide)]
  show _ ++ [] = _
  rw [List.append_nil]
theorem gath_len (n : Nat) (f : Nat → Bool) (g : Nat → PyData) : (gath n f g).length ≤ n := by
  unfold gath
  rw [List.length_map]
  have h := List.length_filter_le f (List.range n)
  rw [List.length_range] at h
  exact h
/-- the invariant of the gathering -/
structure Cwd (As0 : List Addr) (F0 H0 : Hp) (σ : St) (ρ : REnv) (L : Addr) (Mi : List MO) (acc : List PyData) (H : Hp) : Prop where
  ex : ∃ F, Step As0 F0 H0 As0 F H ∧ RepM As0 F H Mi ∧ (∃ xs, H L = some (.lst xs) ∧ DvAll F xs acc)
end
section
variable {X : Cx} {ρ : REnv} {M : List MO} {elt tg iter : Expr} {ifs : List Expr} {scope : Scope} {own : List (Str × Nat)} {pos : Pos} {n : Nat} {item : Nat → PyData}
/-- the reading of a comprehension -/
theorem lc_read (Ms : Nat → List MO) (ρt : Nat → REnv) (js : List Nat) (f : Nat → Bool) (g : Nat → PyData) (it : ITR X ρ M tg iter n item (Ms 0)) (hj : ∀ j ∈ js, j ∈ own.map (·.2)) (hn : n ≤ 90000) (hlen : ∀ i, (Ms i).length = (Ms 0).length)
    {wg : TG} {wt : TT} {we : TE}
    (ht : ∀ i, i < n → ∀ As σ F H v, RepE As F σ (wipeR ρ (own.map (·.2))) → Ex F H → Dv F v (item i) → ∀ Q : St → Hp → Prop, (∀ σ', RepE As F σ' (ρt i) → σ'.length = σ.length → (∀ i : Nat, i ∉ js → σ'[i]? = σ[i]?) → Q σ' H) → wg v σ H Q)
    (hf : ∀ i, i < n → ∀ As σ F H, RepM As F H (Ms i) → RepE As F σ (ρt i) → ∀ Q : Bool → Hp → Prop, (∀ As' F' H', Step As F H As' F' H' → RepM As' F' H' (Ms i) → Q (f i) H') → wt σ H Q)
    (he : ∀ i, i < n → f i = true → ∀ As σ F H, RepM As F H (Ms i) → RepE As F σ (ρt i) → ∀ Q : VK, (∀ v As' F' H', Step As F H As' F' H' → RepM As' F' H' (Ms (i + 1)) → SlotOk As' F' v (.d (g i)) → Q v H') → we σ H Q)
    (hno : ∀ i, i < n → f i = false → Ms (i + 1) = Ms i)
    (As : List Addr) (σ : St) (F H : Hp) (hM : RepM As F H M) (hE : RepE As F σ ρ) (Q : VK)
    (q : ∀ v As' F' H', Step As F H As' F' H' → RepM As' F' H' (Ms n ++ [.lst (gath n f g)]) → SlotOk As' F' v (.own (Ms n).length) → Q v H') :
    tLc (wI X tg iter) wg wt we (own.map (·.2)) σ H Q := by
  refine it As σ F H hM hE _ fun J As0 F0 H0 s0 m0 W L hL => ?_
  have LA : L ∉ As0 := fun z => m0.ne L z hL
  have FL : F0 L = none := Evl.fresh_back m0.ex hL
  refine ⟨fun i m H' => m = n - i ∧ i ≤ n ∧ ∃ F', Ex F0 F' ∧ (∀ x o, x ∉ As0 → H0 x = some o → H' x = some o) ∧ (∀ x, H0 x ≠ none → H' x ≠ none) ∧ (∀ x, x ∉ As0 → F0 x = none → H0 x ≠ none → F' x = none) ∧ RepM As0 F' H' (Ms i) ∧ F' L = none ∧ (∃ xs, H' L = some (.lst xs) ∧ DvAll F' xs (gath i f g)), ⟨n, by omega, by omega, F0, Ex.refl F0, ?_, ?_, fun x _ a _ => a, ?_, FL, [], upd_same, .nil⟩, ?_⟩
  · exact fun x o _ h => Evl.Ex.new hL x o h
  · intro x hx
    rw [upd_ne (fun z => hx (by rw [z]; exact hL))]; exact hx
  · exact m0.grow (Ex.refl F0) (Evl.Ex.new hL) (fun a u e => Evl.Ex.new hL a u (m0.ex a u e)) fun x a _ => a
  · rintro i m H' ⟨rfl, hi, F1, fe, keep, ne, cap, m1, L1, xs, hx, dx⟩
    by_cases hlt : i < n
    · refine .inr ⟨W.go F1 H' i fe m1.ex hlt, fun H'' => ∃ F', Ex F0 F' ∧ (∀ x o, x ∉ As0 → H0 x = some o → H'' x = some o) ∧ (∀ x, H0 x ≠ none → H'' x ≠ none) ∧ (∀ x, x ∉ As0 → F0 x = none → H0 x ≠ none → F' x = none) ∧ RepM As0 F' H'' (Ms (i + 1)) ∧ F' L = none ∧ (∃ xs, H'' L = some (.lst xs) ∧ DvAll F' xs (gath (i + 1) f g)),
        fun H'' z => ⟨n - (i + 1), by omega, rfl, hlt, z⟩, fun xv H2 y => ?_⟩
      obtain ⟨F2, s2, m2, dv, k2⟩ := walk_turn W fe m1 hlt y
      have eW : RepE As0 F2 (wipe σ (own.map (·.2))) (wipeR ρ (own.map (·.2))) := by
        have e0 : RepE As0 F0 σ ρ := hE.step s0
        have e1 : RepE As0 F2 σ ρ := ⟨e0.len, fun i r h => by
          obtain ⟨v, a, b⟩ := e0.env i r h
          refine ⟨v, a, ?_⟩
          cases r with
          | d x => exact Dv.mono (fe.trans s2.fe) b
          | own j => exact b
          | exc D =>
            obtain ⟨z, h1, h2⟩ := b
            exact ⟨z, h1, (fe.trans s2.fe) _ _ h2⟩⟩
        exact wipe_rep e1 _
      have L2' : H2 L = some (.lst xs) := by rw [k2 L (by rw [hx]; simp)]; exact hx
      have FL2 : F2 L = none := s2.cap L LA L1 (by rw [hx]; simp)
      refine ht i hlt As0 _ F2 H2 xv eW m2.ex dv _ fun σ2 e2 l2 o2 => ⟨wipe_eq l2 hj o2, ?_⟩
      refine hf i hlt As0 σ2 F2 H2 m2 e2 _ fun As3 F3 H3 s3 m3 => ?_
      have eA : As3 = As0 := s3.same (by rw [m2.len, m3.len])
      subst eA
      have FL3 : F3 L = none := s3.cap L LA FL2 (by rw [L2']; simp)
      have L3 : H3 L = some (.lst xs) := s3.keep L _ LA L2'
      have S13 : Step As3 F1 H' As3 F3 H3 := s2.trans s3
      have keep3 : ∀ x o, x ∉ As3 → H0 x = some o → H3 x = some o := fun x o a b => S13.keep x o a (keep x o a b)
      have ne3 : ∀ x, H0 x ≠ none → H3 x ≠ none := fun x a => S13.ne x (ne x a)
      have cap3 : ∀ x, x ∉ As3 → F0 x = none → H0 x ≠ none → F3 x = none := fun x a b c => S13.cap x a (cap x a b c) (ne x c)
      cases hfi : f i with
      | true =>
        refine iteT (he i hlt hfi As3 σ2 F3 H3 m3 (e2.step s3) _ fun yv As4 F4 H4 s4 m4 o4 => ?_)
        have eA4 : As4 = As3 := s4.same (by rw [m3.len, m4.len, hlen i, hlen (i + 1)])
        subst eA4
        have L4 : H4 L = some (.lst xs) := s4.keep L _ LA L3
        have FL4 : F4 L = none := s4.cap L LA FL3 (by rw [L3]; simp)
        have d4 : DvAll F4 xs (gath i f g) := dx.mono (S13.fe.trans s4.fe)
        refine ⟨xs, L4, ?_, F4, (fe.trans S13.fe).trans s4.fe, ?_, ?_, fun x a b c => s4.cap x a (cap3 x a b c) (ne3 x c), ?_, FL4, xs ++ [yv], upd_same, ?_⟩
        · rw [d4.length]
          exact Evl.sz_lt (by have := gath_len i f g; omega)
        · intro x o a b
          rw [upd_ne (ne_of_none b hL)]
          exact s4.keep x o a (keep3 x o a b)
        · intro x a
          by_cases z : x = L
          · rw [z, upd_same]; simp
          · rw [upd_ne z]; exact s4.ne x (ne3 x a)
        · refine ⟨fun a u e => ?_, m4.nd, m4.len, fun a ha => ?_, m4.fr, fun j a u h1 h2 => ?_⟩
          · rw [upd_ne (ne_of_none e FL4)]; exact m4.ex a u e
          · rw [upd_ne (fun z => LA (by rw [← z]; exact ha))]; exact m4.ne a ha
          · have na : a ≠ L := fun z => LA (by rw [← z]; exact List.mem_of_getElem? h1)
            have qq := m4.mem j a u h1 h2
            cases u with
            | lst es => obtain ⟨ys, z1, z2⟩ := qq; exact ⟨ys, by rw [upd_ne na]; exact z1, z2⟩
            | dra b c => exact (show upd H4 L _ a = _ by rw [upd_ne na]; exact qq)
            | drb b ns => exact ⟨qq.1, by rw [upd_ne na]; exact qq.2⟩
            | gone => trivial
            | pin b f ds => obtain ⟨e0, ys, k1, k2⟩ := qq; exact ⟨e0, ys, by rw [upd_ne na]; exact k1, k2⟩
        · rw [gath_yes hfi]
          exact d4.snoc o4
      | false =>
        refine iteF ⟨F3, fe.trans S13.fe, keep3, ne3, cap3, ?_, FL3, xs, L3, ?_⟩
        · rw [hno i hlt hfi]; exact m3
        · rw [gath_no hfi]; exact dx.mono S13.fe
    · have e : i = n := by omega
      subst e
      refine .inl ⟨W.stop F1 H' i fe m1.ex (Nat.le_refl _), q _ (As0 ++ [L]) F1 H' (s0.trans ⟨fe, keep, ne, cap, [L], rfl, by simpa using hL⟩) (m1.add LA L1 hx dx) ⟨L, by rw [← m1.len]; simp, rfl⟩⟩
abbrev Blk (X : Cx) (scope : Scope) (s : Shared) (H : Hp) (C : Addr) (cl : List (Str × Addr)) (fp : List Addr) : Cx := X.blk s H scope (PySem.compEnvC scope cl C X.env) fp
def uG (X : Cx) (scope : Scope) (tg : Expr) : TG := fun v σ H Q => ∀ s H0 C cl fp, wG (Blk X scope s H0 C cl fp) tg v σ H Q
def uT (X : Cx) (scope : Scope) (es : List Expr) : TT := fun σ H Q => ∀ s H0 C cl fp, wTs (Blk X scope s H0 C cl fp) es σ H Q
def uE (X : Cx) (scope : Scope) (e : Expr) : TE := fun σ H Q => ∀ s H0 C cl fp, wE (Blk X scope s H0 C cl fp) e σ H Q
theorem bts_nil : BTs X ρ M [] true M := fun As σ F H hM hE Q q => ⟨_, pts_nil, q As F H (Step.refl ..) hM⟩
theorem bts_one {c : Expr} {k : Bool} {M1 : List MO} (h : BT X ρ M c k M1) : BTs X ρ M [c] k M1 := fun As σ F H hM hE Q q => ⟨_, pts_one (pt_w X c), h As σ F H hM hE Q q⟩
/-- [elt for tg in iter if ..], a new list -/
theorem ed_lcM (hN : X.N.Nodup) (own : List (Str × Nat)) (Ms : Nat → List MO) (ρt : Nat → REnv) (js : List Nat) (f : Nat → Bool) (g : Nat → PyData) (it : ITR X ρ M tg iter n item (Ms 0)) (hlen : ∀ i, (Ms i).length = (Ms 0).length)
    (ht : ∀ i, i < n → ∀ s H C cl fp, TD (Blk X scope s H C cl fp) (wipeR ρ (own.map (·.2))) tg (item i) js (ρt i))
    (hf : ∀ i, i < n → ∀ s H C cl fp, BTs (Blk X scope s H C cl fp) (ρt i) (Ms i) ifs (f i) (Ms i))
    (he : ∀ i, i < n → f i = true → ∀ s H C cl fp, ED (Blk X scope s H C cl fp) (ρt i) (Ms i) elt (.d (g i)) (Ms (i + 1)))
    (hno : ∀ i, i < n → f i = false → Ms (i + 1) = Ms i) (hn : n ≤ 90000)
    (ok : blkC X.N X.env.scope scope own = true := by first | decide +kernel | (dsimp only [cxOf, PyProof.Rows.envOfC, Cx.blk, PySem.compEnvC]; decide +kernel) | rfl) (hj : ∀ j ∈ js, j ∈ own.map (·.2) := by decide) (hc : X.calm = true := by rfl) (hs : ∀ x, foldedSetIterable iter X.env x = pure x := by intro _; rfl) :
    ED X ρ M (.ListComp elt [⟨tg, iter, ifs, 0⟩] scope pos) (.own (Ms n).length) (Ms n ++ [.lst (gath n f g)]) := fun As σ F H hM hE Q q =>
  ⟨_, pe_lc (wi := wI X tg iter) (g := uG X scope tg) (tt := uT X scope ifs) (te := uE X scope elt) hc hN (pi_w X tg iter) (blkOk_by ok) (fun s H C cl fp => ⟨fun pins s1 σ H1 v u Q I r h => (pg_w _ tg).run pins s1 σ H1 v u Q I r (h s H C cl fp)⟩) (fun s H C cl fp => ⟨fun pins s1 σ H1 Q I h => (pts_w _ ifs).run pins s1 σ H1 Q I (h s H C cl fp)⟩)
      (fun s H C cl fp => ⟨fun pins s1 σ H1 Q I h => (pe_w _ elt).run pins s1 σ H1 Q I (h s H C cl fp)⟩) hs,
    lc_read Ms ρt js f g it hj hn hlen (fun i hi As σ F H v a b c Q q s H0 C cl fp => ht i hi s H0 C cl fp As σ F H v a b c Q q) (fun i hi As σ F H a b Q q s H0 C cl fp => hf i hi s H0 C cl fp As σ F H a b Q q)
      (fun i hi hfi As σ F H a b Q q s H0 C cl fp => he i hi hfi s H0 C cl fp As σ F H a b Q q) hno As σ F H hM hE Q q⟩
/-- .. where nothing that is owned changes -/
theorem ed_lcO {M1 : List MO} (hN : X.N.Nodup) (own : List (Str × Nat)) (ρt : Nat → REnv) (js : List Nat) (f : Nat → Bool) (g : Nat → PyData) (it : ITR X ρ M tg iter n item M1)
    (ht : ∀ i, i < n → ∀ s H C cl fp, TD (Blk X scope s H C cl fp) (wipeR ρ (own.map (·.2))) tg (item i) js (ρt i))
    (hf : ∀ i, i < n → ∀ s H C cl fp, BTs (Blk X scope s H C cl fp) (ρt i) M1 ifs (f i) M1)
    (he : ∀ i, i < n → f i = true → ∀ s H C cl fp, ED (Blk X scope s H C cl fp) (ρt i) M1 elt (.d (g i)) M1) (hn : n ≤ 90000)
    (ok : blkC X.N X.env.scope scope own = true := by first | decide +kernel | (dsimp only [cxOf, PyProof.Rows.envOfC, Cx.blk, PySem.compEnvC]; decide +kernel) | rfl) (hj : ∀ j ∈ js, j ∈ own.map (·.2) := by decide) (hc : X.calm = true := by rfl) (hs : ∀ x, foldedSetIterable iter X.env x = pure x := by intro _; rfl) :
    ED X ρ M (.ListComp elt [⟨tg, iter, ifs, 0⟩] scope pos) (.own M1.length) (M1 ++ [.lst (gath n f g)]) :=
  ed_lcM hN own (fun _ => M1) ρt js f g it (fun _ => rfl) ht hf he (fun _ _ _ => rfl) hn ok hj hc hs
/-- name = [..] of a local name -/
theorem sd_setLc {E : XK} {M1 : List MO} (hN : X.N.Nodup) (own : List (Str × Nat)) (ρt : Nat → REnv) (js : List Nat) (f : Nat → Bool) (g : Nat → PyData) {i0 : Nat} {y : Str} {py spos : Pos} (it : ITR X ρ M tg iter n item M1)
    (ht : ∀ i, i < n → ∀ s H C cl fp, TD (Blk X scope s H C cl fp) (wipeR ρ (own.map (·.2))) tg (item i) js (ρt i))
    (hf : ∀ i, i < n → ∀ s H C cl fp, BTs (Blk X scope s H C cl fp) (ρt i) M1 ifs (f i) M1)
    (he : ∀ i, i < n → f i = true → ∀ s H C cl fp, ED (Blk X scope s H C cl fp) (ρt i) M1 elt (.d (g i)) M1) (hn : n ≤ 90000)
    (hsw : swapsWith (.ListComp elt [⟨tg, iter, ifs, 0⟩] scope pos) (some (.Name y py)) spos.line X.env = pure true)
    (ok : blkC X.N X.env.scope scope own = true := by first | decide +kernel | (dsimp only [cxOf, PyProof.Rows.envOfC, Cx.blk, PySem.compEnvC]; decide +kernel) | rfl) (hj : ∀ j ∈ js, j ∈ own.map (·.2) := by decide) (hc : X.calm = true := by rfl) (hs : ∀ x, foldedSetIterable iter X.env x = pure x := by intro _; rfl) (hy : X.N[i0]? = some y := by rfl) (hyl : X.env.scope.names.lookup y = some .local := by rfl) :
    S1 X E ρ M (.Assign [.Name y py] (.ListComp elt [⟨tg, iter, ifs, 0⟩] scope pos) spos) (.nx (ρ.set i0 (some (.own M1.length))) (M1 ++ [.lst (gath n f g)])) := fun As σ F H hM hE D q =>
  ⟨_, ps_setLc (wi := wI X tg iter) (g := uG X scope tg) (tt := uT X scope ifs) (te := uE X scope elt) hc hN hy hyl hsw (pi_w X tg iter) (blkOk_by ok) (fun s H C cl fp => ⟨fun pins s1 σ H1 v u Q I r h => (pg_w _ tg).run pins s1 σ H1 v u Q I r (h s H C cl fp)⟩) (fun s H C cl fp => ⟨fun pins s1 σ H1 Q I h => (pts_w _ ifs).run pins s1 σ H1 Q I (h s H C cl fp)⟩)
      (fun s H C cl fp => ⟨fun pins s1 σ H1 Q I h => (pe_w _ elt).run pins s1 σ H1 Q I (h s H C cl fp)⟩) hs,
    lc_read (fun _ => M1) ρt js f g it hj hn (fun _ => rfl) (fun i hi As σ F H v a b c Q q s H0 C cl fp => ht i hi s H0 C cl fp As σ F H v a b c Q q) (fun i hi As σ F H a b Q q s H0 C cl fp => hf i hi s H0 C cl fp As σ F H a b Q q)
      (fun i hi hfi As σ F H a b Q q s H0 C cl fp => he i hi hfi s H0 C cl fp As σ F H a b Q q) (fun _ _ _ => rfl) As σ F H hM hE _ fun v As1 F1 H1 s1 m1 o1 => q As1 _ F1 H1 s1 m1 ((hE.step s1).set o1 i0)⟩
end
end WC

/-! the law's draws -/
namespace WC
open PySem L2
open Evl (Ex)

/-- the counter and the numbers -/
structure DS where
  c : Int
  ns : List Int
structure DS.Ok (s : DS) : Prop where
  ne : s.ns ≠ []
  le : s.ns.length ≤ 1000
def drM (b : Addr) (s : DS) : List MO := [.dra b s.c, .drb b s.ns]
def drAt (s : DS) : Nat := ((s.c + 1) % (s.ns.length : Int)).toNat
def drCell (s : DS) : Int := s.ns.getD (drAt s) 0
def drMix (z : Int) : Int := z ^ 5 % 4294967279
def drHash (s : DS) : Int := drMix ((drCell s + 104729 * (s.c + 1)) % 4294967291)
/-- what is drawn, what is left -/
def drw (s : DS) (limit : Int) : Int := if 1000000000000000000 ≤ drCell s then drCell s % limit else (drHash s / 64 * 69621 + drHash s) % 4294967231 / 8 % limit
def drS (s : DS) (limit : Int) : DS := if 1000000000000000000 ≤ drCell s then ⟨s.c + 1, s.ns.set (drAt s) (drCell s / limit)⟩ else ⟨s.c + 1, s.ns⟩
theorem drw_bnd (s : DS) {limit : Int} (h : 0 < limit) : 0 ≤ drw s limit ∧ drw s limit < limit := by
  unfold drw
  split
  · exact ⟨Int.emod_nonneg _ (by omega), Int.emod_lt_of_pos _ h⟩
  · exact ⟨Int.emod_nonneg _ (by omega), Int.emod_lt_of_pos _ h⟩
theorem DS.Ok.drS {s : DS} (h : s.Ok) (limit : Int) : (drS s limit).Ok := by
  unfold WC.drS
  split
  · refine ⟨fun z => h.ne ?_, by simpa using h.le⟩
    have := congrArg List.length z
    simp at this
    exact List.length_eq_zero_iff.mp (by simpa using this)
  · exact ⟨h.ne, h.le⟩
theorem drAt_lt {s : DS} (h : s.Ok) : drAt s < s.ns.length := by
  have h0 : 0 < s.ns.length := List.length_pos_iff.mpr h.ne
  have h1 : (s.c + 1) % (s.ns.length : Int) < (s.ns.length : Int) := Int.emod_lt_of_pos _ (by omega)
  have h2 : 0 ≤ (s.c + 1) % (s.ns.length : Int) := Int.emod_nonneg _ (by omega)
  unfold drAt
  omega

/-! ### defs that draw -/
def startD (N : List Str) (ds : List PyData) : REnv := some (.own 0) :: (ds.map (fun d => some (Slot.d d)) ++ List.replicate (N.length - ds.length - 1) none)
def GivesD (a b : Addr) (F H : Hp) (Q : VK) (s' : DS) : Res → Prop
  | .val d => ∀ v F' H', Step [a, b] F H [a, b] F' H' → RepM [a, b] F' H' (drM b s') → Dv F' v d → Q v H'
  | _ => False
def PrD (Sig : DS → List PyData → Res → DS → Prop) : Sp := fun vs H Q E => ∃ (F : Hp) (a b : Addr) (s s' : DS) (vs' : List V) (ds : List PyData) (r : Res), vs = .ref a :: vs' ∧ RepM [a, b] F H (drM b s) ∧ DvAll F vs' ds ∧ Sig s ds r s' ∧ GivesD a b F H Q s' r
theorem repM_two {As : List Addr} {F H : Hp} {b : Addr} {s : DS} {Mr : List MO} (m : RepM As F H (drM b s ++ Mr)) : ∃ a rest, As = a :: b :: rest ∧ RepM [a, b] F H (drM b s) := by
  have hl := m.len
  match As, hl with
  | a :: b' :: rest, _ =>
    have e : b' = b := (m.mem 1 b' (.drb b s.ns) rfl rfl).1
    subst e
    refine ⟨a, rest, rfl, m.ex, ?_, rfl, fun x hx => m.ne x ?_, fun j x o h1 h2 h3 => ?_, fun j x o h1 h2 => ?_⟩
    · have := m.nd
      rw [show a :: b' :: rest = [a, b'] ++ rest from rfl] at this
      exact (List.nodup_append.mp this).1
    · rcases List.mem_cons.mp hx with z | z
      · rw [z]; simp
      · simp at z; rw [z]; simp
    · have hj : j < 2 := (List.getElem?_eq_some_iff.mp h1).1
      refine m.fr j x o ?_ ?_ h3
      · rw [show a :: b' :: rest = [a, b'] ++ rest from rfl, List.getElem?_append_left hj]; exact h1
      · rw [List.getElem?_append_left (by simpa [drM] using hj)]; exact h2
    · have hj : j < 2 := (List.getElem?_eq_some_iff.mp h1).1
      refine m.mem j x o ?_ ?_
      · rw [show a :: b' :: rest = [a, b'] ++ rest from rfl, List.getElem?_append_left hj]; exact h1
      · rw [List.getElem?_append_left (by simpa [drM] using hj)]; exact h2
/-- behind a call that drew -/
theorem repM_back {a b : Addr} {rest : List Addr} {F H F' H' : Hp} {s s' : DS} {Mr : List MO} (m : RepM (a :: b :: rest) F H (drM b s ++ Mr)) (st : Step [a, b] F H [a, b] F' H') (m' : RepM [a, b] F' H' (drM b s')) :
    Step (a :: b :: rest) F H (a :: b :: rest) F' H' ∧ RepM (a :: b :: rest) F' H' (drM b s' ++ Mr) := by
  have nd := m.nd
  have na : ∀ x ∈ rest, x ∉ [a, b] := fun x hx z => by
    rw [show a :: b :: rest = [a, b] ++ rest from rfl] at nd
    exact (List.nodup_append.mp nd).2.2 x z x hx rfl
  have lenD : ∀ t : DS, (drM b t).length = 2 := fun _ => rfl
  refine ⟨⟨st.fe, fun x o hx h => st.keep x o (fun z => hx ?_) h, st.ne, fun x hx => st.cap x (fun z => hx ?_), [], by simp, by simp⟩, ⟨m'.ex, nd, by have := m.len; simpa [drM] using this, fun x hx => st.ne x (m.ne x hx), fun j x o h1 h2 h3 => ?_, fun j x o h1 h2 => ?_⟩⟩
  · rcases List.mem_cons.mp z with z | z
    · rw [z]; simp
    · simp at z; rw [z]; simp
  · rcases List.mem_cons.mp z with z | z
    · rw [z]; simp
    · simp at z; rw [z]; simp
  · by_cases hj : j < 2
    · rw [show a :: b :: rest = [a, b] ++ rest from rfl, List.getElem?_append_left hj] at h1
      rw [List.getElem?_append_left (by rw [lenD]; exact hj)] at h2
      exact m'.fr j x o h1 h2 h3
    · have h1' := h1
      rw [show a :: b :: rest = [a, b] ++ rest from rfl, List.getElem?_append_right (by simpa using hj)] at h1
      have h2' : (drM b s ++ Mr)[j]? = some o := by
        rw [List.getElem?_append_right (by rw [lenD]; omega), lenD] at h2 ⊢; exact h2
      exact st.cap x (na x (List.mem_of_getElem? h1)) (m.fr j x o h1' h2' h3) (m.ne x (List.mem_of_getElem? h1'))
  · by_cases hj : j < 2
    · rw [show a :: b :: rest = [a, b] ++ rest from rfl, List.getElem?_append_left hj] at h1
      rw [List.getElem?_append_left (by rw [lenD]; exact hj)] at h2
      exact m'.mem j x o h1 h2
    · have h1' := h1
      rw [show a :: b :: rest = [a, b] ++ rest from rfl, List.getElem?_append_right (by simpa using hj)] at h1
      have h2' : (drM b s ++ Mr)[j]? = some o := by
        rw [List.getElem?_append_right (by rw [lenD]; omega), lenD] at h2 ⊢; exact h2
      have q := m.mem j x o h1' h2'
      have nx := na x (List.mem_of_getElem? h1)
      cases o with
      | lst ds => obtain ⟨xs, k1, k2⟩ := q; exact ⟨xs, st.keep x _ nx k1, k2.mono st.fe⟩
      | dra b c => exact st.keep x _ nx q
      | drb b ns => exact ⟨q.1, st.keep x _ nx q.2⟩
      | gone => trivial
      | pin b f ds => obtain ⟨e0, ys, k1, k2⟩ := q; exact ⟨e0, ys, st.keep x _ nx k1, k2.mono st.fe⟩
section
variable {P : Program} {w : World} {K : PySem.W.Frag} {mg : Str → Option Value} {base : Heap}
theorem startD_rep {a b : Addr} {F : Hp} {N : List Str} {vs : List V} {ds : List PyData} (h : DvAll F vs ds) : RepE [a, b] F (L2.start N (.ref a :: vs)) (startD N ds) := by
  have hl := h.length
  refine ⟨by simp [L2.start, startD, hl]; omega, fun i r e => ?_⟩
  unfold startD at e
  unfold L2.start
  cases i with
  | zero =>
    simp at e; subst e
    exact ⟨.ref a, rfl, a, rfl, rfl⟩
  | succ i =>
    rw [List.getElem?_cons_succ] at e
    rw [List.map_cons, List.cons_append, List.getElem?_cons_succ]
    by_cases hi : i < ds.length
    · rw [List.getElem?_append_left (by simpa using hi), List.getElem?_map] at e
      obtain ⟨d, hd⟩ : ∃ d, ds[i]? = some d := ⟨ds[i], by simp [hi]⟩
      rw [hd] at e
      cases e
      obtain ⟨v, h1, h2⟩ := h.get hd
      exact ⟨v, by rw [List.getElem?_append_left (by simp; omega), List.getElem?_map, h1]; rfl, h2⟩
    · rw [List.getElem?_append_right (by simp; omega)] at e
      obtain ⟨hlt, he⟩ := List.getElem?_eq_some_iff.mp e
      simp at he
theorem fn_okD {x qual : Str} {st : Stmt} {f : Addr} {fd : FuncData} {N ps : List Str} {k : Nat} {Sig : DS → List PyData → Res → DS → Prop} (Fn : Fun K x qual st f fd) (S : FnScope N ps (defScope st)) (hl : ∀ s ds r s', Sig s ds r s' → ds.length + 1 = ps.length)
    (body : ∀ (cdv : Value) (A : Around) (outer : List Env) (sh : Shared) (H : Hp) (E : XK), Room k (A.deeper (PyProof.Rows.envOfC qual (defScope st) sh.heap.objs.size f cdv)) → ∀ b s ds d s', Sig s ds (.val d) s' →
      ∃ Mr, SD (cxOf (L2.CX P w) P w K mg base N qual (defScope st) f cdv A outer sh H E) E (startD N ds) (drM b s) (defBody st) (.rt (.d d) (drM b s' ++ Mr))) : FnOk P w K mg base (L2.CX P w) (k + 1) f fd ps (PrD Sig) := by
  refine Fn.okX S (fun vs H Q E h => ?_) (fun cdv A outer sh H vs Q E hr h => ?_)
  · obtain ⟨F, a, b, s, s', vs', ds, r, rfl, _, h1, h2, _⟩ := h
    rw [List.length_cons, h1.length]; exact hl s ds r s' h2
  · obtain ⟨F, a, b, s, s', vs', ds, r, rfl, hM, h1, h2, h3⟩ := h
    cases r with
    | val d =>
      obtain ⟨Mr, bd⟩ := body cdv A outer sh H E hr b s ds d s' h2
      refine bd [a, b] _ F H hM (startD_rep h1) _ fun v As' F' H' s1 m1 o1 => ?_
      obtain ⟨a', rest, rfl, m2⟩ := repM_two m1
      obtain ⟨more, e1, n1⟩ := s1.grow
      have ea : a' = a := by simpa using (congrArg List.head? e1)
      subst ea
      exact h3 v F' H' ⟨s1.fe, s1.keep, s1.ne, s1.cap, [], by simp, by simp⟩ m2 o1
    | new es => exact h3.elim
    | err c => exact h3.elim
structure FnD (P : Program) (w : World) (K : PySem.W.Frag) (mg : Str → Option Value) (base : Heap) (x : Str) (k : Nat) (ps : List Str) (Sig : DS → List PyData → Res → DS → Prop) : Prop where
  ex : ∃ f fd, FnOk P w K mg base (L2.CX P w) k f fd ps (PrD Sig) ∧ mg x = some (.ref f) ∧ PySem.W.keepIn K (.ref f) = true ∧ Binds K fd ps []
end
section
variable {X : Cx} {E : XK} {ρ ρ1 ρ2 : REnv} {M M1 M2 Mr : List MO} {st : Stmt} {rest sts : List Stmt} {o : Out} {e : Expr} {es : List Expr} {pos p : Pos} {r : Slot} {kk : Bool} {x : Str} {k : Nat} {ps : List Str} {Sig : DS → List PyData → Res → DS → Prop} {ds : List PyData} {b : Addr} {s s' : DS}
theorem ed_callD {d : PyData} (G : FnD X.prog X.w X.K X.mg X.base x k ps Sig) (hr : Room k X.A) (ha : AD X ρ M (e :: es) (.own 0 :: ds.map Slot.d) (drM b s ++ Mr)) (hs : Sig s ds (.val d) s') (hg : Gl X x := by rfl)
    (hdb : (x == ("__debug__" : Str)) = false := by decide) (he : starEach (e :: es) X.env = (false, eval e X.env) :: starEach es X.env := by rfl) (hpl : (backTo pos (starEach es X.env)).any (·.1) = false := by rfl) :
    ED X ρ M (.Call (.Name x p) (e :: es) [] pos) (.d d) (drM b s' ++ Mr) := fun As σ F H hM hE Q q => by
  obtain ⟨f, fd, F1, hm, hk, hb⟩ := G.ex
  refine ⟨_, pe_call F1 hr hg hm hk hb .nil passL (pa_w X _) hdb he hpl, ha As σ F H hM hE _ fun vs As1 F1 H1 s1 m1 o1 => ?_⟩
  obtain ⟨a, rst, rfl, m2⟩ := repM_two m1
  cases o1 with
  | cons o1 o2 =>
    obtain ⟨a', ha', rfl⟩ := o1
    have ea : a = a' := by simpa using ha'
    subst ea
    refine ⟨F1, a, b, s, s', _, ds, .val d, by rw [List.append_nil], m2, o2.data, hs, fun v F' H' st m' dv => ?_⟩
    obtain ⟨st3, m3⟩ := repM_back m1 st m'
    exact q v _ F' H' (s1.trans st3) m3 dv

/-! ### what _law_draw itself does -/
theorem drM_get0 {As : List Addr} {F H : Hp} (m : RepM As F H (drM b s ++ Mr)) : ∃ a rest, As = a :: b :: rest ∧ H a = some (.lst [.ref b, .int s.c]) ∧ H b = some (.lst (s.ns.map V.int)) ∧ F a = none ∧ F b = none ∧ a ≠ b := by
  obtain ⟨a, rest, rfl, m2⟩ := repM_two m
  have nd := m2.nd
  simp at nd
  exact ⟨a, rest, rfl, m2.mem 0 a _ rfl rfl, (m2.mem 1 b _ rfl rfl).2, m2.fr 0 a _ rfl rfl (by simp), m2.fr 1 b _ rfl rfl (by simp), nd⟩
/-- draws[0] -/
theorem ed_dr0 {a0 : Expr} {pp : Pos} {jj : Nat} (h : ED X ρ (drM b s ++ Mr) a0 (.own 0) (drM b s ++ Mr)) : ED X ρ (drM b s ++ Mr) (.Subscript a0 (.Constant (.int 0) jj pp) pos) (.own 1) (drM b s ++ Mr) := fun As σ F H hM hE Q q =>
  ⟨_, pe_ix ix_list (pe_w X a0) pe_int (fun _ _ => rfl), h As σ F H hM hE _ fun v As1 F1 H1 s1 m1 o1 => by
    obtain ⟨a, rst, rfl, h1, h2, _⟩ := drM_get0 m1
    obtain ⟨a', ha', rfl⟩ := o1
    have ea : a = a' := by simpa using ha'
    subst ea
    exact ⟨a, _, 0, .ref b, rfl, rfl, SqL.of h1, rfl, q _ _ F1 H1 s1 m1 ⟨b, rfl, rfl⟩⟩⟩
/-- draws[1] -/
theorem ed_dr1 {a0 : Expr} {pp : Pos} {jj : Nat} (h : ED X ρ (drM b s ++ Mr) a0 (.own 0) (drM b s ++ Mr)) : ED X ρ (drM b s ++ Mr) (.Subscript a0 (.Constant (.int 1) jj pp) pos) (.d (.int s.c)) (drM b s ++ Mr) := fun As σ F H hM hE Q q =>
  ⟨_, pe_ix ix_list (pe_w X a0) pe_int (fun _ _ => rfl), h As σ F H hM hE _ fun v As1 F1 H1 s1 m1 o1 => by
    obtain ⟨a, rst, rfl, h1, h2, _⟩ := drM_get0 m1
    obtain ⟨a', ha', rfl⟩ := o1
    have ea : a = a' := by simpa using ha'
    subst ea
    exact ⟨a, _, 1, .int s.c, rfl, rfl, SqL.of h1, rfl, q _ _ F1 H1 s1 m1 (.int _)⟩⟩
/-- the numbers -/
theorem ed_drLen {a0 : Expr} {pp : Pos} (hg : Gl X "len") (hm : X.mg "len" = none) (h : ED X ρ (drM b s ++ Mr) a0 (.own 1) (drM b s ++ Mr)) (hs : starEach (a0 :: []) X.env = (false, eval a0 X.env) :: starEach [] X.env := by rfl) :
    ED X ρ (drM b s ++ Mr) (.Call (.Name "len" pp) [a0] [] pos) (.d (.int (s.ns.length : Int))) (drM b s ++ Mr) :=
  ed_callB call_len_seq hg hm PySem.boot_len (ad_cons h ad_nil hs) (fun As F H vs Q m o q => by
    cases o with
    | cons o1 o2 =>
      cases o2
      obtain ⟨a, rst, rfl, h1, h2, _⟩ := drM_get0 m
      obtain ⟨a', ha', rfl⟩ := o1
      have ea : b = a' := by simpa using ha'
      subst ea
      refine ⟨b, _, rfl, .inl (SqL.of h2), ?_⟩
      rw [List.length_map]
      exact q _ _ F H (Step.refl ..) m (.int _)) (he := hs)
theorem ed_drIx {a0 a1 : Expr} {i : Int} {z : Int} (h : ED X ρ (drM b s ++ Mr) a0 (.own 1) (drM b s ++ Mr)) (hi : ED X ρ (drM b s ++ Mr) a1 (.d (.int i)) (drM b s ++ Mr)) (hx : atI s.ns i = some z) (hs : PlainIx a1 := by exact fun _ _ => rfl) :
    ED X ρ (drM b s ++ Mr) (.Subscript a0 a1 pos) (.d (.int z)) (drM b s ++ Mr) := fun As σ F H hM hE Q q =>
  ⟨_, pe_ix ix_list (pe_w X a0) (pe_w X a1) hs, h As σ F H hM hE _ fun v As1 F1 H1 s1 m1 o1 => hi As1 σ F1 H1 m1 (hE.step s1) _ fun v2 As2 F2 H2 s2 m2 o2 => by
    have o1' := o1.step s2
    obtain ⟨a, rst, rfl, h1, h2, _⟩ := drM_get0 m2
    obtain ⟨a', ha', rfl⟩ := o1'
    have ea : b = a' := by simpa using ha'
    subst ea
    cases o2
    refine ⟨b, _, i, .int z, rfl, rfl, SqL.of h2, ?_, q _ _ F2 H2 (s1.trans s2) m2 (.int _)⟩
    unfold atI at hx ⊢
    rw [List.length_map]
    cases hq : ixN s.ns.length i with
    | none => rw [hq] at hx; cases hx
    | some j =>
      rw [hq] at hx
      show (s.ns.map V.int)[j]? = some (.int z)
      have hx' : s.ns[j]? = some z := hx
      rw [List.getElem?_map, hx']; rfl⟩
/-- a change of the draws' own two lists -/
theorem drM_upd {a : Addr} {rest : List Addr} {F H : Hp} (m : RepM (a :: b :: rest) F H (drM b s ++ Mr)) {s' : DS} {H' : Hp} (hk : ∀ x, x ≠ a → x ≠ b → H' x = H x) (ha : H' a = some (.lst [.ref b, .int s'.c])) (hb : H' b = some (.lst (s'.ns.map V.int))) :
    Step (a :: b :: rest) F H (a :: b :: rest) F H' ∧ RepM (a :: b :: rest) F H' (drM b s' ++ Mr) := by
  obtain ⟨a', rest', e, m2⟩ := repM_two m
  obtain ⟨rfl, rfl⟩ : a' = a ∧ rest' = rest := by simp at e; exact ⟨e.1.symm, e.2.symm⟩
  have fa := m2.fr 0 a' _ rfl rfl (by simp)
  have fb := m2.fr 1 b _ rfl rfl (by simp)
  have ne : ∀ x, H x ≠ none → H' x ≠ none := fun x hx => by
    by_cases z : x = a'
    · rw [z, ha]; simp
    · by_cases z2 : x = b
      · rw [z2, hb]; simp
      · rw [hk x z z2]; exact hx
  refine repM_back m (F' := F) (H' := H') ⟨Ex.refl F, fun x o hx h => ?_, ne, fun x _ q _ => q, [], by simp, by simp⟩ ⟨fun x o q => ?_, m2.nd, rfl, fun x hx => ?_, m2.fr |> fun _ => ?_, fun j x o h1 h2 => ?_⟩
  · rw [hk x (fun z => hx (by simp [z])) (fun z => hx (by simp [z]))]; exact h
  · rw [hk x (ne_of_none q fa) (ne_of_none q fb)]; exact m.ex x o q
  · exact ne x (m2.ne x hx)
  · intro j x o h1 h2 h3
    match j, h1, h2 with
    | 0, h1, _ => simp at h1; subst h1; exact fa
    | 1, h1, _ => simp at h1; subst h1; exact fb
    | j + 2, h1, _ => simp at h1
  · match j, h1, h2 with
    | 0, h1, h2 => simp at h1; subst h1; simp [drM] at h2; subst h2; exact ha
    | 1, h1, h2 => simp at h1; subst h1; simp [drM] at h2; subst h2; exact ⟨rfl, hb⟩
    | j + 2, h1, _ => simp at h1
/-- draws[1] = e -/
theorem sd_dr1 {a0 : Expr} {pp sp : Pos} {jj : Nat} {z : Int} (hv : ED X ρ (drM b s ++ Mr) e (.d (.int z)) (drM b s ++ Mr)) (h : ED X ρ (drM b s ++ Mr) a0 (.own 0) (drM b s ++ Mr))
    (hs : swapsWithSole [.Subscript a0 (.Constant (.int 1) jj pp) sp] e pos.line X.env = pure false := by rfl) (hw : swappedStores [.Subscript a0 (.Constant (.int 1) jj pp) sp] e X.env = pure none := by rfl)
    (h1 : (assignEach [.Subscript a0 (.Constant (.int 1) jj pp) sp] X.env).map (·.2) = [assign (.Subscript a0 (.Constant (.int 1) jj pp) sp) X.env] := by rfl) :
    S1 X E ρ (drM b s ++ Mr) (.Assign [.Subscript a0 (.Constant (.int 1) jj pp) sp] e pos) (.nx ρ (drM b ⟨z, s.ns⟩ ++ Mr)) := fun As σ F H hM hE D q =>
  ⟨_, ps_asg (pe_w X e) (pg_sub (pe_w X a0) pe_int set_list) hs hw h1, hv As σ F H hM hE _ fun v As1 F1 H1 s1 m1 o1 => h As1 σ F1 H1 m1 (hE.step s1) _ fun v2 As2 F2 H2 s2 m2 o2 => by
    cases o1
    obtain ⟨a, rst, rfl, k1, k2, fa, fb, nab⟩ := drM_get0 m2
    obtain ⟨a', ha', rfl⟩ := o2
    have ea : a = a' := by simpa using ha'
    subst ea
    obtain ⟨s3, m3⟩ := drM_upd m2 (s' := ⟨z, s.ns⟩) (H' := upd H2 a (.lst [.ref b, .int z])) (fun x h1 _ => upd_ne h1) upd_same (by rw [upd_ne (Ne.symm nab)]; exact k2)
    exact ⟨a, _, 1, 1, rfl, rfl, k1, rfl, q _ _ _ _ ((s1.trans s2).trans s3) m3 (((hE.step s1).step s2).step s3)⟩⟩
/-- numbers[i] = e -/
theorem sd_drSet {a0 a1 : Expr} {sp : Pos} {i z : Int} {j : Nat} (hv : ED X ρ (drM b s ++ Mr) e (.d (.int z)) (drM b s ++ Mr)) (h : ED X ρ (drM b s ++ Mr) a0 (.own 1) (drM b s ++ Mr)) (hi : ED X ρ (drM b s ++ Mr) a1 (.d (.int i)) (drM b s ++ Mr)) (hj : ixN s.ns.length i = some j)
    (hpi : ∀ (x : Str) (pp : Pos), a1 = .Name x pp → True := by intros; trivial)
    (hg : PG X (.Subscript a0 a1 sp) (gSub (wE X a0) (wE X a1) rSetL))
    (hs : swapsWithSole [.Subscript a0 a1 sp] e pos.line X.env = pure false := by rfl) (hw : swappedStores [.Subscript a0 a1 sp] e X.env = pure none := by rfl)
    (h1 : (assignEach [.Subscript a0 a1 sp] X.env).map (·.2) = [assign (.Subscript a0 a1 sp) X.env] := by rfl) :
    S1 X E ρ (drM b s ++ Mr) (.Assign [.Subscript a0 a1 sp] e pos) (.nx ρ (drM b ⟨s.c, s.ns.set j z⟩ ++ Mr)) := fun As σ F H hM hE D q =>
  ⟨_, ps_asg (pe_w X e) hg hs hw h1, hv As σ F H hM hE _ fun v As1 F1 H1 s1 m1 o1 => h As1 σ F1 H1 m1 (hE.step s1) _ fun v2 As2 F2 H2 s2 m2 o2 => hi As2 σ F2 H2 m2 ((hE.step s1).step s2) _ fun v3 As3 F3 H3 s3 m3 o3 => by
    cases o1; cases o3
    have o2' := o2.step s3
    obtain ⟨a, rst, rfl, k1, k2, fa, fb, nab⟩ := drM_get0 m3
    obtain ⟨a', ha', rfl⟩ := o2'
    have ea : b = a' := by simpa using ha'
    subst ea
    obtain ⟨s4, m4⟩ := drM_upd m3 (s' := ⟨s.c, s.ns.set j z⟩) (H' := upd H3 b (.lst ((s.ns.map V.int).set j (.int z)))) (fun x _ h2 => upd_ne h2) (by rw [upd_ne nab]; exact k1) (by rw [upd_same, List.map_set])
    exact ⟨b, _, i, j, rfl, rfl, k2, by rw [List.length_map]; exact hj, q _ _ _ _ (((s1.trans s2).trans s3).trans s4) m4 ((((hE.step s1).step s2).step s3).step s4)⟩⟩
end
end WC

/-! equality of data; the law itself; what the head gives -/
namespace WC
open PySem L2
open Evl (Ex)

/-! ### data that may be compared -/
structure Gd (k : Nat) (d : PyData) : Prop where
  lay : d.canLay0 = true
  dep : d.depth ≤ k
theorem Gd.mono {j k : Nat} {d : PyData} (h : Gd j d) (hk : j ≤ k) : Gd k d := ⟨h.lay, Nat.le_trans h.dep hk⟩
theorem Gd.shaped {k : Nat} {d : PyData} (h : Gd k d) (hk : k ≤ 64 := by decide) : SeqAt.shaped d = true := by
  unfold SeqAt.shaped
  rw [h.lay, decide_eq_true (Nat.le_trans h.dep hk)]; rfl
theorem Gd.non : Gd 0 .none := ⟨by simp [PyData.canLay0], by simp [PyData.depth]⟩
theorem Gd.int (i : Int) : Gd 0 (.int i) := ⟨by simp [PyData.canLay0], by simp [PyData.depth]⟩
theorem Gd.bl (i : Bool) : Gd 0 (.bool i) := ⟨by simp [PyData.canLay0], by simp [PyData.depth]⟩
theorem Gd.str {x : Str} (h : (PyData.str x).canLay0 = true) : Gd 0 (.str x) := ⟨h, by simp [PyData.depth]⟩
theorem gd_all {k : Nat} : ∀ {ds : List PyData}, (∀ d ∈ ds, Gd k d) → PyData.canLayAll0 ds = true ∧ PyData.depthAll ds ≤ k
  | [], _ => ⟨by simp [PyData.canLayAll0], by simp [PyData.depthAll]⟩
  | d :: r, h => by
    obtain ⟨h1, h2⟩ := gd_all (k := k) (ds := r) fun d hd => h d (List.mem_cons_of_mem _ hd)
    have h3 := h d (by simp)
    refine ⟨by simp [PyData.canLayAll0, h1, h3.lay], ?_⟩
    have := h3.dep
    simp [PyData.depthAll]
    omega
theorem Gd.list {k : Nat} {ds : List PyData} (h : ∀ d ∈ ds, Gd k d) : Gd (k + 1) (.list ds) := by
  obtain ⟨h1, h2⟩ := gd_all h
  exact ⟨by simpa [PyData.canLay0] using h1, by simp [PyData.depth]; omega⟩
theorem Gd.tuple {k : Nat} {ds : List PyData} (h : ∀ d ∈ ds, Gd k d) : Gd (k + 1) (.tuple ds) := by
  obtain ⟨h1, h2⟩ := gd_all h
  exact ⟨by simpa [PyData.canLay0] using h1, by simp [PyData.depth]; omega⟩
theorem gd_nil {k : Nat} : ∀ d ∈ ([] : List PyData), Gd k d := fun d h => by simp at h
theorem gd_cons {k : Nat} {x : PyData} {ds : List PyData} (h : Gd k x) (t : ∀ d ∈ ds, Gd k d) : ∀ d ∈ x :: ds, Gd k d := fun d hd => by
  rcases List.mem_cons.mp hd with z | z
  · rw [z]; exact h
  · exact t d z
theorem Gd.ints (ns : List Int) : Gd 1 (.list (ns.map .int)) := Gd.list fun d hd => by
  obtain ⟨n, _, rfl⟩ := List.mem_map.mp hd
  exact Gd.int n
theorem gd_in : Gd 0 (.str "in") := Gd.str (by decide +kernel)
theorem gd_out : Gd 0 (.str "out") := Gd.str (by decide +kernel)
theorem eqv_self {k : Nat} {d : PyData} (h : Gd k d) : PyData.eqv d d = true := SeqAt.eqv_refl d h.lay
/-- no truth value within -/
def nbD : PyData → Bool
  | .bool _ => false
  | .list xs => nbAll xs
  | .tuple xs => nbAll xs
  | .dict _ => false
  | _ => true
where nbAll : List PyData → Bool
  | [] => true
  | x :: xs => nbD x && nbAll xs
mutual
theorem eqv_eq : ∀ {d e : PyData}, nbD d = true → nbD e = true → PyData.eqv d e = true → d = e
  | .none, e, _, h2, h => by cases e <;> simp [PyData.eqv] at h; rfl
  | .bool _, _, h1, _, _ => by simp [nbD] at h1
  | .int i, e, _, h2, h => by cases e <;> simp [PyData.eqv, nbD] at h h2; rw [h]
  | .str i, e, _, h2, h => by cases e <;> simp [PyData.eqv] at h; rw [h]
  | .list xs, e, h1, h2, h => by
    cases e <;> simp [PyData.eqv] at h
    rw [eqvAll_eq' (by simpa [nbD] using h1) (by simpa [nbD] using h2) h]
  | .tuple xs, e, h1, h2, h => by
    cases e <;> simp [PyData.eqv] at h
    rw [eqvAll_eq' (by simpa [nbD] using h1) (by simpa [nbD] using h2) h]
  | .dict _, _, h1, _, _ => by simp [nbD] at h1
theorem eqvAll_eq' : ∀ {ds es : List PyData}, nbD.nbAll ds = true → nbD.nbAll es = true → PyData.eqvAll ds es = true → ds = es
  | [], [], _, _, _ => rfl
  | [], _ :: _, _, _, h => by simp [PyData.eqvAll] at h
  | _ :: _, [], _, _, h => by simp [PyData.eqvAll] at h
  | d :: r, e :: t, h1, h2, h => by
    simp [PyData.eqvAll] at h
    simp [nbD.nbAll] at h1 h2
    rw [eqv_eq h1.1 h2.1 h.1, eqvAll_eq' h1.2 h2.2 h.2]
end
theorem nb_ints : ∀ ns : List Int, nbD.nbAll (ns.map .int) = true
  | [] => rfl
  | n :: r => by simp [nbD.nbAll, nbD, nb_ints r]
section
variable {X : Cx} {M : List MO} {r1 r2 : Slot} {k : Bool}
theorem cd_neT {d1 d2 : PyData} {g : Nat} (hu : X.A.units + 64 < cLine) (h1 : Rds M r1 d1) (h2 : Rds M r2 d2) (hd : Gd g d1) (e : d1 = d2) (hg : g ≤ 64 := by decide) : CmpD X .NotEq M r1 r2 false := by
  subst e
  have := cd_ne hu h1 h2 (hd.shaped hg) (hd.shaped hg)
  rwa [eqv_self hd] at this
theorem cd_eqT {d1 d2 : PyData} {g : Nat} (hu : X.A.units + 64 < cLine) (h1 : Rds M r1 d1) (h2 : Rds M r2 d2) (hd : Gd g d1) (e : d1 = d2) (hg : g ≤ 64 := by decide) : CmpD X .Eq M r1 r2 true := by
  subst e
  have := cd_eq hu h1 h2 (hd.shaped hg) (hd.shaped hg)
  rwa [eqv_self hd] at this
theorem cd_eqP {d1 d2 : PyData} {g1 g2 : Nat} (hu : X.A.units + 64 < cLine) (h1 : Rds M r1 d1) (h2 : Rds M r2 d2) (hd1 : Gd g1 d1) (hd2 : Gd g2 d2) (n1 : nbD d1 = true) (n2 : nbD d2 = true) (hk : k = true ↔ d1 = d2) (hg : g1 ≤ 64 := by decide) (hg2 : g2 ≤ 64 := by decide) : CmpD X .Eq M r1 r2 k := by
  have := cd_eq hu h1 h2 (hd1.shaped hg) (hd2.shaped hg2)
  have e : PyData.eqv d1 d2 = k := by
    cases q : PyData.eqv d1 d2 with
    | true => exact (hk.mpr (eqv_eq n1 n2 q)).symm
    | false =>
      cases k with
      | false => rfl
      | true =>
        have := hk.mp rfl
        subst this
        rw [eqv_self hd1] at q; cases q
  rwa [e] at this
theorem cd_neP {d1 d2 : PyData} {g1 g2 : Nat} (hu : X.A.units + 64 < cLine) (h1 : Rds M r1 d1) (h2 : Rds M r2 d2) (hd1 : Gd g1 d1) (hd2 : Gd g2 d2) (n1 : nbD d1 = true) (n2 : nbD d2 = true) (hk : k = false ↔ d1 = d2) (hg : g1 ≤ 64 := by decide) (hg2 : g2 ≤ 64 := by decide) : CmpD X .NotEq M r1 r2 k := by
  have := cd_ne hu h1 h2 (hd1.shaped hg) (hd2.shaped hg2)
  have e : (!PyData.eqv d1 d2) = k := by
    cases q : PyData.eqv d1 d2 with
    | true => exact (hk.mpr (eqv_eq n1 n2 q)).symm
    | false =>
      cases k with
      | true => rfl
      | false =>
        have := hk.mp rfl
        subst this
        rw [eqv_self hd1] at q; cases q
  rwa [e] at this
end

/-! ### what the head gives -/
structure FunAt (K : PySem.W.Frag) (mg : Str → Option Value) (x qual : Str) (st : Stmt) : Prop where
  ex : ∃ f fd, Fun K x qual st f fd ∧ mg x = some (.ref f)
theorem funAt_mk {K : PySem.W.Frag} {h : Heap} {mg : Str → Option Value} (X : K.In h) (G : h.Ns mainGlobals mg) {x qual : Str} {st : Stmt} {f : Addr} {oc : Value} {od an : Option Addr} {osl : Array (Option Value)} {kV doc pm cdv ct : Value}
    (a : PySem.W.nsIn K mainGlobals x = some (some (.ref f))) (l : K.lookup f = some ⟨oc, od, .func (PySem.W.fnOf x qual (defArgs st) (defBody st) (defScope st) .none kV doc pm an cdv ct), osl⟩)
    (c : PySem.W.codeIn K cdv qual = true) (k : PySem.W.keepIn K (.ref f) = true) : FunAt K mg x qual st := ⟨f, _, fun_mk l c k, PySem.W.mg_of X G a⟩
theorem intAt_mk {K : PySem.W.Frag} {h : Heap} {mg : Str → Option Value} (X : K.In h) (G : h.Ns mainGlobals mg) {x : Str} {i : Int} {t : Tok} (a : PySem.W.nsIn K mainGlobals x = some (some (.int i t))) : ∃ t, mg x = some (.int i t) := ⟨t, PySem.W.mg_of X G a⟩
theorem strAt_mk {K : PySem.W.Frag} {h : Heap} {mg : Str → Option Value} (X : K.In h) (G : h.Ns mainGlobals mg) {x : Str} {i : Str} {t : Tok} (a : PySem.W.nsIn K mainGlobals x = some (some (.str i t))) : ∃ t, mg x = some (.str i t) := ⟨t, PySem.W.mg_of X G a⟩
theorem exc_mk {K : PySem.W.Frag} {h : Heap} {mg : Str → Option Value} (X : K.In h) (G : h.Ns mainGlobals mg) {x : Str} {C : Addr} (a : PySem.W.nsIn K mainGlobals x = some (some (.ref C)))
    (q : PySem.W.excIn K C [.type "ValueError", .type "Exception", .type "BaseException", .type "object"] "ValueError.__new__" = true) (kp : PySem.W.keepIn K (.ref C) = true) (b : PySem.W.subIn K (.ref C) (.type "BaseException") = some true) (t : PySem.W.typeIn K (.ref C) = some (.type "type")) : ∃ C, Exc K mg x C :=
  ⟨C, q, PySem.W.mg_of X G a, kp, b, t⟩
section
variable {P : Program} {w : World} {K : PySem.W.Frag} {mg : Str → Option Value} {base : Heap}
theorem fn_mk {x qual : Str} {st : Stmt} {N ps : List Str} {k : Nat} {Sig : List PyData → Res → Prop} (F : FunAt K mg x qual st) (S : FnScope N ps (defScope st))
    (hb : ∀ (kV doc pm : Value) (an : Option Addr) (cdv ct : Value) (us : List Value), us.length = ps.length → bindArgs (PySem.W.fnOf x qual (defArgs st) (defBody st) (defScope st) .none kV doc pm an cdv ct) ⟨us, []⟩ = pure (ps.zip us))
    (hl : ∀ ds r, Sig ds r → ds.length = ps.length)
    (body : ∀ (f : Addr) (cdv : Value) (A : Around) (outer : List Env) (s : Shared) (H : Hp) (E : XK), Room k (A.deeper (PyProof.Rows.envOfC qual (defScope st) s.heap.objs.size f cdv)) → ∀ ds r, Sig ds r →
      BodyOk (cxOf (L2.CX P w) P w K mg base N qual (defScope st) f cdv A outer s H E) E N ds (defBody st) r) : Fn P w K mg base x (k + 1) ps Sig := by
  obtain ⟨f, fd, h1, h2⟩ := F.ex
  exact ⟨f, fd, fn_ok h1 S hl (body f), h2, h1.kp, h1.binds hb⟩
theorem fn_mkD {x qual : Str} {st : Stmt} {N ps : List Str} {k : Nat} {Sig : DS → List PyData → Res → DS → Prop} (F : FunAt K mg x qual st) (S : FnScope N ps (defScope st))
    (hb : ∀ (kV doc pm : Value) (an : Option Addr) (cdv ct : Value) (us : List Value), us.length = ps.length → bindArgs (PySem.W.fnOf x qual (defArgs st) (defBody st) (defScope st) .none kV doc pm an cdv ct) ⟨us, []⟩ = pure (ps.zip us))
    (hl : ∀ s ds r s', Sig s ds r s' → ds.length + 1 = ps.length)
    (body : ∀ (f : Addr) (cdv : Value) (A : Around) (outer : List Env) (sh : Shared) (H : Hp) (E : XK), Room k (A.deeper (PyProof.Rows.envOfC qual (defScope st) sh.heap.objs.size f cdv)) → ∀ b s ds d s', Sig s ds (.val d) s' →
      ∃ Mr, SD (cxOf (L2.CX P w) P w K mg base N qual (defScope st) f cdv A outer sh H E) E (startD N ds) (drM b s) (defBody st) (.rt (.d d) (drM b s' ++ Mr))) : FnD P w K mg base x (k + 1) ps Sig := by
  obtain ⟨f, fd, h1, h2⟩ := F.ex
  exact ⟨f, fd, fn_okD h1 S hl (body f), h2, h1.kp, h1.binds hb⟩

/-! ### the script -/
def spStart (K : PySem.W.Frag) : Sp := fun vs H Q _ => ∃ (a : Addr) (ns : List Int), vs = [.ref a] ∧ SqL K H a (ns.map V.int) ∧ ns.length ≤ 63 ∧
  ∀ p q ms H', Ex H H' → H p = none → H q = none → p ≠ q → H' p = some (.lst [.ref q, .int 0]) → H' q = some (.lst (ms.map V.int)) → ms ≠ [] → ms.length ≤ 1000 → Q (.ref p) H'
def spLaw (K : PySem.W.Frag) : Sp := fun vs H Q _ => ∃ (a : Addr) (ns : List Int), vs = [.ref a] ∧ SqL K H a (ns.map V.int) ∧ ns.length ≤ 63 ∧ ∀ H', Q (.bl true) H'
structure FnS (P : Program) (w : World) (K : PySem.W.Frag) (mg : Str → Option Value) (base : Heap) (x : Str) : Prop where
  ex : ∃ f fd, FnOk P w K mg base (L2.CX P w) 1 f fd ["script"] (spStart K) ∧ mg x = some (.ref f) ∧ PySem.W.keepIn K (.ref f) = true ∧ Binds K fd ["script"] []
theorem dp_ints {H : Hp} : ∀ ns : List Int, DpAll K H (ns.map V.int) (ns.map .int)
  | [] => .nil
  | n :: r => .cons (.int n) (dp_ints r)
/-- [list(script) if script != [] else [0], 0] -/
theorem start_body {X : Cx} {px1 px2 p1 p2 p3 p4 p5 p6 p7 p8 p9 p10 : Pos} {j0 j1 : Nat} (hNN : X.N[0]? = some ("script" : Str)) (hv : Vis X.env.scope "script") (hg : Gl X "list") (hm : X.mg "list" = none) (hu : X.A.units + 64 < cLine)
    {a : Addr} {ns : List Int} {H : Hp} (hS : SqL X.K H a (ns.map V.int)) (hz : ns.length ≤ 63) {σ : St} (hσ : σ[0]? = some (some (.ref a))) {D : Ends}
    (q : ∀ p q ms H', Ex H H' → H p = none → H q = none → p ≠ q → H' p = some (.lst [.ref q, .int 0]) → H' q = some (.lst (ms.map V.int)) → ms ≠ [] → ms.length ≤ 1000 → D.rt (.ref p) H')
    (hs1 : starEach ((Expr.IfExp (.Compare (.Name "script" px1) [.NotEq] [.List [] p1] p2) (.Call (.Name "list" p3) [.Name "script" px2] [] p4) (.List [.Constant (.int 0) j0 p5] p6) p7) :: [.Constant (.int 0) j1 p8]) X.env = (false, eval (Expr.IfExp (.Compare (.Name "script" px1) [.NotEq] [.List [] p1] p2) (.Call (.Name "list" p3) [.Name "script" px2] [] p4) (.List [.Constant (.int 0) j0 p5] p6) p7) X.env) :: starEach [.Constant (.int 0) j1 p8] X.env := by rfl) :
    ∃ t, PSs X [.Return (some (.List [.IfExp (.Compare (.Name "script" px1) [.NotEq] [.List [] p1] p2) (.Call (.Name "list" p3) [.Name "script" px2] [] p4) (.List [.Constant (.int 0) j0 p5] p6) p7, .Constant (.int 0) j1 p8] p9)) p10] t ∧ t D σ H := by
  refine ⟨_, pss_one (ps_ret (pe_lst (pa_cons (pe_ifExp (pt_cmpR (op_neD hu) (pe_var hNN hv) (pe_lst pa_nil) (nomark _)) (pe_callTy call_list_of hg hm (by decide +kernel) (pa_cons (pe_var hNN hv) pa_nil)) (pe_lst (pa_cons pe_int pa_nil))) (pa_cons pe_int pa_nil) hs1))), ?_⟩
  refine ⟨_, hσ, Nat.zero_le _, fun l hl => ?_⟩
  have e1 : Ex H (upd H l (.lst [])) := Evl.Ex.new hl
  have hS1 : SqL X.K (upd H l (.lst [])) a (ns.map V.int) := Evl.ex_l e1 hS
  refine ⟨.list (ns.map .int), .list [], .lst hS1 (dp_ints ns), .lst (SqL.of upd_same) .nil, (Gd.ints ns).shaped, (Gd.list (k := 0) gd_nil).shaped, _, rfl, ?_⟩
  have last : ∀ (v : V) (H2 : Hp) (qq : Addr) (ms : List Int), Ex H H2 → H qq = none → v = .ref qq → H2 qq = some (.lst (ms.map V.int)) → ms ≠ [] → ms.length ≤ 1000 → ([v, V.int 0].length ≤ sizeLine ∧ ∀ p, H2 p = none → D.rt (.ref p) (upd H2 p (.lst [v, .int 0]))) := by
    intro v H2 qq ms e2 hq rfl' h2 hms hml
    refine ⟨by show 2 ≤ sizeLine; decide, fun p hp => ?_⟩
    subst rfl'
    have hpq : p ≠ qq := fun z => by rw [z, h2] at hp; cases hp
    exact q p qq ms _ (e2.trans (Evl.Ex.new hp)) (Evl.fresh_back e2 hp) hq hpq upd_same (by rw [upd_ne (Ne.symm hpq)]; exact h2) hms hml
  cases ns with
  | nil =>
    refine iteF ?_
    refine ⟨by show 1 ≤ sizeLine; decide, fun n hn => ?_⟩
    have e2 : Ex H (upd (upd H l (.lst [])) n (.lst [.int 0])) := e1.trans (Evl.Ex.new hn)
    exact last _ _ n [0] e2 (Evl.fresh_back e1 hn) rfl upd_same (by simp) (by simp)
  | cons x r =>
    refine iteT ?_
    refine ⟨_, hσ, a, _, rfl, .inl hS1, fun n hn => ?_⟩
    have e2 : Ex H (upd (upd H l (.lst [])) n (.lst ((x :: r).map V.int))) := e1.trans (Evl.Ex.new hn)
    exact last _ _ n (x :: r) e2 (Evl.fresh_back e1 hn) rfl upd_same (by simp) (by omega)
/-- the law: its first row draws up the script, the rest by data -/
theorem law_ok {x : Str} {stm : Stmt} {f : Addr} {fd : FuncData} {N : List Str} {k : Nat} {rest : List Stmt} {pd ps1 ps2 pc pa : Pos} (F : Fun K x x stm f fd) (S : FnScope ("script" :: "draws" :: N) ["script"] (defScope stm)) (G : FnS P w K mg base "_law_start")
    (hbd : defBody stm = .Assign [.Name "draws" pd] (.Call (.Name "_law_start" ps1) [.Name "script" ps2] [] pc) pa :: rest) (hv : Vis (defScope stm) "script") (hld : Loc (defScope stm) "draws") (hgl : (defScope stm).names.lookup ("_law_start" : Str) = some NameKind.globalImplicit)
    (body : ∀ (cdv : Value) (A : Around) (outer : List Env) (sh : Shared) (H : Hp) (E : XK), Room k (A.deeper (PyProof.Rows.envOfC x (defScope stm) sh.heap.objs.size f cdv)) → ∀ b s, DS.Ok s →
      ∃ M', SD (cxOf (L2.CX P w) P w K mg base ("script" :: "draws" :: N) x (defScope stm) f cdv A outer sh H E) E (none :: some (.own 0) :: List.replicate N.length none) (drM b s) rest (.rt (.d (.bool true)) M'))
    (hk : 1 ≤ k)
    (hsw : ∀ (cdv : Value) (A : Around) (outer : List Env) (sh : Shared) (H : Hp) (E : XK), swapsWith (.Call (.Name "_law_start" ps1) [.Name "script" ps2] [] pc) (some (.Name "draws" pd)) pa.line (cxOf (L2.CX P w) P w K mg base ("script" :: "draws" :: N) x (defScope stm) f cdv A outer sh H E).env = pure false := by intros; rfl) :
    FnOk P w K mg base (L2.CX P w) (k + 1) f fd ["script"] (spLaw K) := by
  obtain ⟨fs, fds, G1, gm, gk, gb⟩ := G.ex
  refine F.okX S (fun vs H Q E h => ?_) (fun cdv A outer sh H vs Q E hr h => ?_)
  · obtain ⟨a, ns, rfl, _⟩ := h
    rfl
  · obtain ⟨a, ns, rfl, hS, hz, q⟩ := h
    rw [hbd]
    refine ⟨_, pss_cons (ps_set (i := 1) S.nd rfl hld (pe_call G1 (hr.mono hk) hgl gm gk gb .nil passL (pa_cons (pv 0 (hv := hv)) pa_nil)) (hsw cdv A outer sh H E)) (pss_w _ rest), ?_⟩
    refine ⟨.ref a, rfl, a, ns, rfl, hS, hz, fun p qq ms H' e1 hp hq hpq h1 h2 hms hml => ?_⟩
    have fresh : (fun _ => none : Hp) p = none := rfl
    obtain ⟨M', bd⟩ := body cdv A outer sh H E hr qq ⟨0, ms⟩ ⟨hms, hml⟩
    refine bd [p, qq] _ (fun _ => none) H' ⟨fun x o z => (by simp at z), by simpa using hpq, rfl, ?_, fun _ _ _ _ _ _ => rfl, ?_⟩ ⟨by simp [L2.start], ?_⟩ _ fun v As' F' H2 s2 m2 o2 => ?_
    · intro x hx
      rcases List.mem_cons.mp hx with z | z
      · rw [z, h1]; simp
      · simp at z; rw [z, h2]; simp
    · intro j x o e2 e3
      match j, e2, e3 with
      | 0, e2, e3 => simp at e2; subst e2; simp [drM] at e3; subst e3; exact h1
      | 1, e2, e3 => simp at e2; subst e2; simp [drM] at e3; subst e3; exact ⟨rfl, h2⟩
      | j + 2, e2, _ => simp at e2
    · intro i r e2
      match i, e2 with
      | 0, e2 => simp at e2
      | 1, e2 => simp at e2; subst e2; exact ⟨.ref p, rfl, p, rfl, rfl⟩
      | i + 2, e2 =>
        simp at e2
        rw [List.getElem?_replicate] at e2
        split at e2 <;> simp at e2
    · cases o2
      exact q H2
theorem cx_false {w : World} {H : Hp} {s : Shared} {e : Value} {s' : Shared} (h : L2.CX P w [] H s (fun _ _ _ => False) e s') : False := by
  obtain ⟨_, _, _, _, _, _, _, _, _, _, _, _, z⟩ := h
  exact z
end
end WC

/-! what each def promises -/
namespace WC
open PySem L2
open Evl (Ex)
section
variable {X : Cx} {ρ : REnv} {M M' : List MO} {e : Expr} {r r' : Slot}
theorem ed_conv (h : ED X ρ M e r M') (q : r = r') : ED X ρ M e r' M' := q ▸ h
theorem bt_conv {k k' : Bool} (h : BT X ρ M e k M') (q : k = k') : BT X ρ M e k' M' := q ▸ h
/-- a while, turn by turn -/
inductive WH (X : Cx) (E : XK) (cd : Expr) (body : List Stmt) : REnv → List MO → REnv → List MO → Prop
  | stop {ρ : REnv} {M : List MO} : BT X ρ M cd false M → WH X E cd body ρ M ρ M
  | turn {ρ ρ1 ρ2 : REnv} {M M1 M2 : List MO} : BT X ρ M cd true M → SD X E ρ M body (.nx ρ1 M1) → WH X E cd body ρ1 M1 ρ2 M2 → WH X E cd body ρ M ρ2 M2
theorem WH.seq {E : XK} {cd : Expr} {body : List Stmt} {ρ ρ' : REnv} {M M' : List MO} (h : WH X E cd body ρ M ρ' M') : ∃ (n : Nat) (ρs : Nat → REnv) (Ms : Nat → List MO), ρs 0 = ρ ∧ Ms 0 = M ∧ ρs n = ρ' ∧ Ms n = M' ∧
    (∀ i, i < n → BT X (ρs i) (Ms i) cd true (Ms i)) ∧ (∀ i, i < n → SD X E (ρs i) (Ms i) body (.nx (ρs (i + 1)) (Ms (i + 1)))) ∧ BT X (ρs n) (Ms n) cd false (Ms n) := by
  induction h with
  | stop h => exact ⟨0, fun _ => _, fun _ => _, rfl, rfl, rfl, rfl, fun i hi => absurd hi (by omega), fun i hi => absurd hi (by omega), h⟩
  | @turn ρ ρ1 ρ2 M M1 M2 h1 h2 h3 ih =>
    obtain ⟨n, ρs, Ms, a, b, c, d, e, f, g⟩ := ih
    refine ⟨n + 1, fun i => match i with | 0 => ρ | i + 1 => ρs i, fun i => match i with | 0 => M | i + 1 => Ms i, rfl, rfl, c, d, fun i hi => ?_, fun i hi => ?_, g⟩
    · cases i with
      | zero => exact h1
      | succ i => exact e i (by omega)
    · cases i with
      | zero => show SD X E ρ M body (.nx (ρs 0) (Ms 0)); rw [a, b]; exact h2
      | succ i => exact f i (by omega)
theorem sd_wh {E : XK} {cd : Expr} {body : List Stmt} {ρ ρ' : REnv} {M M' : List MO} {pos : Pos} (h : WH X E cd body ρ M ρ' M') (hp : PassesOwn (model X.prog X.w) X.A X.env X.xe) : S1 X E ρ M (.While cd body [] pos) (.nx ρ' M') := by
  obtain ⟨n, ρs, Ms, rfl, rfl, rfl, rfl, e, f, g⟩ := h.seq
  exact sd_while n ρs Ms hp e f g rfl rfl
def Out.isStop : Out → Bool
  | .nx _ _ => false
  | _ => true
theorem sd_stop {E : XK} {ρ : REnv} {M : List MO} {st : Stmt} {rest : List Stmt} {o : Out} (h : S1 X E ρ M st o) (ho : o.isStop = true := by rfl) : SD X E ρ M (st :: rest) o := by
  cases o with
  | nx _ _ => cases ho
  | rt r M1 => exact sd_rt h
  | er c M1 => exact sd_er h
/-- if c: .. that leaves, then the rest -/
theorem sd_ifE {E : XK} {ρ : REnv} {M M1 : List MO} {cd : Expr} {sa rest : List Stmt} {o : Out} {pos : Pos} {k : Bool} (hc : BT X ρ M cd k M1) (ha : k = true → SD X E ρ M1 sa o) (hb : k = false → SD X E ρ M1 rest o) (ho : o.isStop = true := by rfl) : SD X E ρ M (.If cd sa [] pos :: rest) o := by
  cases k with
  | true => exact sd_stop (sd_ifT hc (ha rfl)) ho
  | false => exact sd_cons (sd_ifF hc sd_nil) (hb rfl)
theorem sd_ifEF {E : XK} {ρ : REnv} {M M1 : List MO} {cd : Expr} {sa rest : List Stmt} {o : Out} {pos : Pos} (hc : BT X ρ M cd false M1) (hb : SD X E ρ M1 rest o) : SD X E ρ M (.If cd sa [] pos :: rest) o := sd_cons (sd_ifF hc sd_nil) hb
theorem sd_ifET {E : XK} {ρ : REnv} {M M1 : List MO} {cd : Expr} {sa rest : List Stmt} {o : Out} {pos : Pos} (hc : BT X ρ M cd true M1) (ha : SD X E ρ M1 sa o) (ho : o.isStop = true := by rfl) : SD X E ρ M (.If cd sa [] pos :: rest) o := sd_stop (sd_ifT hc ha) ho
end

def dInt : PyData → Bool
  | .int _ => true
  | .bool _ => true
  | _ => false
def dBool : PyData → Bool
  | .bool _ => true
  | _ => false
def dStr : PyData → Bool
  | .str _ => true
  | _ => false
def dList : PyData → Bool
  | .list _ => true
  | _ => false
def dTup : PyData → Bool
  | .tuple _ => true
  | _ => false
theorem kit_int (d : PyData) : kitB (tyD d) "int" = some (dInt d) := by cases d <;> simp only [tyD, dInt, dBool, dStr, dList, dTup] <;> decide +kernel
theorem kit_bool (d : PyData) : kitB (tyD d) "bool" = some (dBool d) := by cases d <;> simp only [tyD, dInt, dBool, dStr, dList, dTup] <;> decide +kernel
theorem kit_str (d : PyData) : kitB (tyD d) "str" = some (dStr d) := by cases d <;> simp only [tyD, dInt, dBool, dStr, dList, dTup] <;> decide +kernel
theorem kit_list (d : PyData) : kitB (tyD d) "list" = some (dList d) := by cases d <;> simp only [tyD, dInt, dBool, dStr, dList, dTup] <;> decide +kernel
theorem kit_tup (d : PyData) : kitB (tyD d) "tuple" = some (dTup d) := by cases d <;> simp only [tyD, dInt, dBool, dStr, dList, dTup] <;> decide +kernel
section
variable {X : Cx} {ρ : REnv} {M M1 : List MO} {e : Expr} {r : Slot} {p p2 pos : Pos} {d : PyData}
theorem ed_isInt (hm : X.mg "isinstance" = none) (hmT : X.mg "int" = none) (h : ED X ρ M e (.d d) M1) (hg : Gl X "isinstance" := by rfl) (hgT : Gl X "int" := by rfl)
    (hs : starEach (e :: [.Name "int" p2]) X.env = (false, eval e X.env) :: starEach [.Name "int" p2] X.env := by rfl) : ED X ρ M (.Call (.Name "isinstance" p) [e, .Name "int" p2] [] pos) (.d (.bool (dInt d))) M1 := ed_isi hg hm hgT hmT (by decide +kernel) h (.d d) (kit_int d) (hs := hs)
theorem ed_isBool (hm : X.mg "isinstance" = none) (hmT : X.mg "bool" = none) (h : ED X ρ M e (.d d) M1) (hg : Gl X "isinstance" := by rfl) (hgT : Gl X "bool" := by rfl)
    (hs : starEach (e :: [.Name "bool" p2]) X.env = (false, eval e X.env) :: starEach [.Name "bool" p2] X.env := by rfl) : ED X ρ M (.Call (.Name "isinstance" p) [e, .Name "bool" p2] [] pos) (.d (.bool (dBool d))) M1 := ed_isi hg hm hgT hmT (by decide +kernel) h (.d d) (kit_bool d) (hs := hs)
theorem ed_isStr (hm : X.mg "isinstance" = none) (hmT : X.mg "str" = none) (h : ED X ρ M e (.d d) M1) (hg : Gl X "isinstance" := by rfl) (hgT : Gl X "str" := by rfl)
    (hs : starEach (e :: [.Name "str" p2]) X.env = (false, eval e X.env) :: starEach [.Name "str" p2] X.env := by rfl) : ED X ρ M (.Call (.Name "isinstance" p) [e, .Name "str" p2] [] pos) (.d (.bool (dStr d))) M1 := ed_isi hg hm hgT hmT (by decide +kernel) h (.d d) (kit_str d) (hs := hs)
theorem ed_isList (hm : X.mg "isinstance" = none) (hmT : X.mg "list" = none) (h : ED X ρ M e (.d d) M1) (hg : Gl X "isinstance" := by rfl) (hgT : Gl X "list" := by rfl)
    (hs : starEach (e :: [.Name "list" p2]) X.env = (false, eval e X.env) :: starEach [.Name "list" p2] X.env := by rfl) : ED X ρ M (.Call (.Name "isinstance" p) [e, .Name "list" p2] [] pos) (.d (.bool (dList d))) M1 := ed_isi hg hm hgT hmT (by decide +kernel) h (.d d) (kit_list d) (hs := hs)
theorem ed_isTup (hm : X.mg "isinstance" = none) (hmT : X.mg "tuple" = none) (h : ED X ρ M e (.d d) M1) (hg : Gl X "isinstance" := by rfl) (hgT : Gl X "tuple" := by rfl)
    (hs : starEach (e :: [.Name "tuple" p2]) X.env = (false, eval e X.env) :: starEach [.Name "tuple" p2] X.env := by rfl) : ED X ρ M (.Call (.Name "isinstance" p) [e, .Name "tuple" p2] [] pos) (.d (.bool (dTup d))) M1 := ed_isi hg hm hgT hmT (by decide +kernel) h (.d d) (kit_tup d) (hs := hs)
end

/-! ### in, not in -/
theorem inV_ints (i : Int) : ∀ ns : List Int, inV (.int i) (ns.map V.int) = decide (i ∈ ns)
  | [] => by simp [inV]
  | n :: r => by
    have ih := inV_ints i r
    unfold inV at ih ⊢
    rw [List.map_cons, List.any_cons, ih]
    by_cases h : n = i
    · subst h; simp [eqV]
    · by_cases h2 : i ∈ r
      · simp [h2]
      · have h3 : ¬ i = n := fun e => h e.symm
        simp [h2, h3, eqV, h]
theorem flat_ints : ∀ ns : List Int, (ns.map V.int).all flatV = true
  | [] => rfl
  | n :: r => by rw [List.map_cons, List.all_cons, flat_ints r]; rfl
section
variable {X : Cx} {M : List MO} {r2 : Slot}
theorem cd_in {i : Int} {ns : List Int} (h : Rds M r2 (.list (ns.map .int))) : CmpD X .In M (.d (.int i)) r2 (decide (i ∈ ns)) := ⟨_, op_in_seq, fun As F H v1 v2 Q m o1 o2 q => by
  cases o1
  obtain ⟨p, xs, rfl, hp, hd⟩ := rd_list m o2 h
  rw [hd.ints_of] at hp
  exact ⟨p, _, rfl, .inl (SqL.of hp), rfl, flat_ints ns, by rw [inV_ints]; exact q⟩⟩
theorem cd_notIn {i : Int} {ns : List Int} (h : Rds M r2 (.list (ns.map .int))) : CmpD X .NotIn M (.d (.int i)) r2 (!decide (i ∈ ns)) := ⟨_, op_notIn_seq, fun As F H v1 v2 Q m o1 o2 q => by
  cases o1
  obtain ⟨p, xs, rfl, hp, hd⟩ := rd_list m o2 h
  rw [hd.ints_of] at hp
  exact ⟨p, _, rfl, .inl (SqL.of hp), rfl, flat_ints ns, by rw [inV_ints]; exact q⟩⟩
theorem cd_notIn2 {z a b : Str} : CmpD X .NotIn M (.d (.str z)) (.d (.tuple [.str a, .str b])) (!(decide (z = a) || decide (z = b))) := ⟨_, op_notIn_seq, fun As F H v1 v2 Q m o1 o2 q => by
  cases o1
  obtain ⟨p, xs, rfl, hp, hd⟩ := Dv.tup_of o2
  cases hd with
  | cons d1 d2 =>
    cases d2 with
    | cons d2 d3 =>
      cases d1; cases d2; cases d3
      refine ⟨p, _, rfl, .inr (SqT.of (m.ex _ _ hp)), rfl, rfl, ?_⟩
      have e : inV (.str z) [.str a, .str b] = (decide (z = a) || decide (z = b)) := by
        simp only [inV, List.any_cons, List.any_nil, Bool.or_false, eqV]
        by_cases h1 : z = a
        · subst h1; simp
        · by_cases h2 : z = b
          · subst h2; simp
          · have h3 : ¬ a = z := fun e => h1 e.symm
            have h4 : ¬ b = z := fun e => h2 e.symm
            simp [h1, h2, h3, h4]
      rw [e]; exact q⟩
end

/-! ### three names at once -/
section
variable {X : Cx} {pos : Pos}
theorem sd_par3 {E : XK} {ρ : REnv} {M M1 : List MO} {i j l : Nat} {x y z : Str} {e1 e2 e3 : Expr} {px py pz pt : Pos} {kt k2 pt2} {r1 r2 r3 : Slot} (hN : X.N.Nodup) (h : AD X ρ M [e1, e2, e3] [r1, r2, r3] M1) (hc : X.calm = true := by rfl) (hi : X.N[i]? = some x := by rfl) (hj : X.N[j]? = some y := by rfl) (hl : X.N[l]? = some z := by rfl) (hij : i ≠ j := by decide) (hil : i ≠ l := by decide) (hjl : j ≠ l := by decide)
    (hx : X.env.scope.names.lookup x = some .local := by rfl) (hy : X.env.scope.names.lookup y = some .local := by rfl) (hz : X.env.scope.names.lookup z = some .local := by rfl)
    (hw : swappedStores [.Tuple [.Name x px, .Name y py, .Name z pz] kt pt] (.Tuple [e1, e2, e3] k2 pt2) X.env = pure (some [x, y, z]) := by rfl)
    (hs : swapsWithSole [.Tuple [.Name x px, .Name y py, .Name z pz] kt pt] (.Tuple [e1, e2, e3] k2 pt2) pos.line X.env = pure false := by rfl) :
    S1 X E ρ M (.Assign [.Tuple [.Name x px, .Name y py, .Name z pz] kt pt] (.Tuple [e1, e2, e3] k2 pt2) pos) (.nx (((ρ.set i (some r1)).set j (some r2)).set l (some r3)) M1) := fun As σ F H hM hE D q =>
  ⟨_, ps_par3 hc hN hi hj hl hij hil hjl hx hy hz (pa_w X _) hw hs, h As σ F H hM hE _ fun vs As1 F1 H1 s1 m1 o1 => by
    cases o1 with
    | cons o1 o2 => cases o2 with
      | cons o2 o3 => cases o3 with
        | cons o3 o4 =>
          cases o4
          exact ⟨_, _, _, rfl, q As1 _ F1 H1 s1 m1 ((((hE.step s1).set o1 i).set o2 j).set o3 l)⟩⟩
end

/-! ### gears -/
def gD (N n : Nat) (s : Str) : PyData := .tuple [.int N, .int n, .str s]
structure GOk (N n : Nat) (s : Str) : Prop where
  N3 : 3 ≤ N
  N150 : N ≤ 150
  n2 : 2 ≤ n
  n150 : n ≤ 150
  side : (s = "in" ∧ n < N) ∨ s = "out"
def isIntB (d : PyData) (lo hi : Int) : Bool := match d with
  | .int i => decide (lo ≤ i) && decide (i ≤ hi)
  | _ => false
def isSideB (d : PyData) : Bool := match d with
  | .str s => decide (s = "in") || decide (s = "out")
  | _ => false
def ltB (a b : PyData) : Bool := match a, b with
  | .int i, .int j => decide (i < j)
  | _, _ => false
def isOutB (d : PyData) : Bool := match d with
  | .str s => decide (s = "out")
  | _ => false
def isGearB (d : PyData) : Bool := match d with
  | .tuple [a, b, c] => isIntB a 3 150 && isIntB b 2 150 && isSideB c && (isOutB c || ltB b a)
  | _ => false
theorem GOk.is {N n : Nat} {s : Str} (h : GOk N n s) : isGearB (gD N n s) = true := by
  obtain ⟨h1, h2, h3, h4, h5⟩ := h
  simp only [isGearB, gD, isIntB, isSideB, isOutB, ltB]
  have a1 : decide ((3 : Int) ≤ (N : Int)) = true := decide_eq_true (by omega)
  have a2 : decide ((N : Int) ≤ 150) = true := decide_eq_true (by omega)
  have a3 : decide ((2 : Int) ≤ (n : Int)) = true := decide_eq_true (by omega)
  have a4 : decide ((n : Int) ≤ 150) = true := decide_eq_true (by omega)
  rw [a1, a2, a3, a4]
  rcases h5 with ⟨rfl, h6⟩ | rfl
  · rw [decide_eq_true (rfl : ("in" : Str) = "in"), decide_eq_true (show (n : Int) < (N : Int) by omega)]; simp
  · rw [decide_eq_true (rfl : ("out" : Str) = "out")]; simp
theorem GOk.of {N n : Nat} {s : Str} (h : isGearB (gD N n s) = true) : GOk N n s := by
  simp only [isGearB, gD, isIntB, isSideB, isOutB, ltB, Bool.and_eq_true, Bool.or_eq_true, decide_eq_true_eq] at h
  obtain ⟨⟨⟨⟨a1, a2⟩, a3, a4⟩, a5⟩, a6⟩ := h
  refine ⟨by omega, by omega, by omega, by omega, ?_⟩
  rcases a5 with rfl | rfl
  · rcases a6 with a6 | a6
    · exact .inr a6
    · exact .inl ⟨rfl, by omega⟩
  · exact .inr rfl
/-- the addresses of the exception classes -/
structure Cl where
  gear : Addr
  tooth : Addr
  num : Addr
  box : Addr
  text : Addr
  non : Addr
def Sig_is_int : List PyData → Res → Prop := fun ds r => ∃ v lo hi, ds = [v, .int lo, .int hi] ∧ r = .val (.bool (isIntB v lo hi))
def Sig_common : List PyData → Res → Prop := fun ds r => ∃ a b : Nat, ds = [.int a, .int b] ∧ r = .val (.int (Nat.gcd a b : Nat))
def Sig_is_gear : List PyData → Res → Prop := fun ds r => ∃ v, ds = [v] ∧ r = .val (.bool (isGearB v))
def Sig_check_gear (c : Cl) : List PyData → Res → Prop := fun ds r => ∃ v, ds = [v] ∧ ((isGearB v = true ∧ r = .val .none) ∨ (isGearB v = false ∧ r = .err (.ref c.gear)))
/-- defs that take a gear that was not looked at -/
def SigG (f : Nat → Nat → Str → Res) : List PyData → Res → Prop := fun ds r => ∃ N n s, 0 < N ∧ N ≤ 1000 ∧ 0 < n ∧ n ≤ 1000 ∧ ds = [gD N n s] ∧ r = f N n s
/-- defs that take a gear -/
def SigV (f : Nat → Nat → Str → Res) : List PyData → Res → Prop := fun ds r => ∃ N n s, GOk N n s ∧ ds = [gD N n s] ∧ r = f N n s
def lenN (N n : Nat) : Nat := Nat.lcm N n
def petN (N n : Nat) : Nat := N / Nat.gcd N n
def rndN (N n : Nat) : Nat := n / Nat.gcd N n
def vI (i : Int) : Res := .val (.int i)
def vB (b : Bool) : Res := .val (.bool b)
def turnsI (N n : Nat) (s : Str) : Int := if s = "in" then (petN N n : Int) - rndN N n else (petN N n : Int) + rndN N n
theorem GOk.pos {N n : Nat} {s : Str} (h : GOk N n s) : 0 < N ∧ N ≤ 1000 ∧ 0 < n ∧ n ≤ 1000 := by
  obtain ⟨a, b, c, d, _⟩ := h; omega
theorem gcd_le {N n : Nat} (h : 0 < N) : 0 < Nat.gcd N n ∧ Nat.gcd N n ≤ N := ⟨Nat.gcd_pos_of_pos_left _ h, Nat.gcd_le_left _ h⟩
def Sig_same_shape : List PyData → Res → Prop := fun ds r => ∃ N n s N' n' s', GOk N n s ∧ GOk N' n' s' ∧ ds = [gD N n s, gD N' n' s'] ∧ r = vB (decide (s = s') && (decide (petN N n = petN N' n') && decide (rndN N n = rndN N' n')))
def Sig_law_true : List PyData → Res → Prop := fun ds r => ∃ a b, ds = [.bool a, .bool b] ∧ r = vB (decide (a = b))
def Sig_law_draw : DS → List PyData → Res → DS → Prop := fun s ds r s' => ∃ l : Int, (0 < l ∧ l < 1073741824) ∧ s.Ok ∧ ds = [.int l] ∧ r = vI (drw s l) ∧ s' = drS s l
def Sig_law_pick : DS → List PyData → Res → DS → Prop := fun s ds r s' => ∃ (es : List PyData) (d : PyData), (0 < es.length ∧ es.length < 1000000) ∧ s.Ok ∧ ds = [.list es] ∧ atI es (drw s es.length) = some d ∧ r = .val d ∧ s' = drS s es.length
theorem cd_eqB {X : Cx} {M : List MO} {a b : Bool} : CmpD X .Eq M (.d (.bool a)) (.d (.bool b)) (decide (a = b)) := ⟨_, op_eq, fun As F H v1 v2 Q m o1 o2 q => by
  cases o1; cases o2
  exact ⟨rfl, by rw [show decide (V.bl a = V.bl b) = decide (a = b) by simp]; exact q⟩⟩
theorem cd_isB {X : Cx} {M : List MO} {a b : Bool} : CmpD X .Is M (.d (.bool a)) (.d (.bool b)) (decide (a = b)) := ⟨_, op_isBl, fun As F H v1 v2 Q m o1 o2 q => by
  cases o1; cases o2
  exact ⟨a, b, rfl, rfl, q⟩⟩
theorem cd_notB {X : Cx} {M : List MO} {a b : Bool} : CmpD X .IsNot M (.d (.bool a)) (.d (.bool b)) (!decide (a = b)) := ⟨_, op_notBl, fun As F H v1 v2 Q m o1 o2 q => by
  cases o1; cases o2
  exact ⟨a, b, rfl, rfl, q⟩⟩

/-! ### draws -/
theorem draw_ex {s : DS} (hs : s.Ok) {l : Int} (h : 0 < l ∧ l < 1073741824) : ∃ (k : Int) (s' : DS), 0 ≤ k ∧ k < l ∧ s'.Ok ∧ Sig_law_draw s [.int l] (.val (.int k)) s' :=
  ⟨drw s l, drS s l, (drw_bnd s h.1).1, (drw_bnd s h.1).2, hs.drS l, l, h, hs, rfl, rfl, rfl⟩
theorem pick_ex {s : DS} (hs : s.Ok) {es : List PyData} (h : 0 < es.length ∧ es.length < 1000000) : ∃ (d : PyData) (s' : DS), d ∈ es ∧ s'.Ok ∧ Sig_law_pick s [.list es] (.val d) s' := by
  obtain ⟨h1, h2⟩ := drw_bnd s (limit := es.length) (by omega)
  have hlt : (drw s es.length).toNat < es.length := by omega
  refine ⟨es[(drw s es.length).toNat], drS s es.length, List.getElem_mem _, hs.drS _, es, _, h, hs, rfl, ?_, rfl, rfl⟩
  unfold atI ixN
  rw [if_pos h1, if_pos h2]
  simp [hlt]
def Sig_law_gear : DS → List PyData → Res → DS → Prop := fun s ds r s' => ∃ (w k1 k2 : Int) (sd : Str) (s1 s2 s3 : DS), ds = [] ∧ (w = 6 ∨ w = 14 ∨ w = 40 ∨ w = 150) ∧ (0 ≤ k1 ∧ k1 < w - 2) ∧
  Sig_law_pick s [.list [.int 6, .int 14, .int 40, .int 150]] (.val (.int w)) s1 ∧ Sig_law_pick s1 [.list [.str "in", .str "out"]] (.val (.str sd)) s2 ∧ Sig_law_draw s2 [.int (w - 3 + 1)] (.val (.int k1)) s3 ∧
  ((sd = "in" ∧ Sig_law_draw s3 [.int (min (3 + k1) 150 - 2)] (.val (.int k2)) s') ∨ (sd ≠ "in" ∧ Sig_law_draw s3 [.int (min 149 (w + 5))] (.val (.int k2)) s')) ∧ r = .val (.tuple [.int (min (3 + k1) 150), .int (2 + k2), .str sd])
theorem gear_ex {s : DS} (hs : s.Ok) : ∃ (N n : Nat) (sd : Str) (s' : DS), GOk N n sd ∧ s'.Ok ∧ Sig_law_gear s [] (.val (gD N n sd)) s' := by
  obtain ⟨d, s1, hd, hs1, g1⟩ := pick_ex hs (es := [.int 6, .int 14, .int 40, .int 150]) (by simp)
  obtain ⟨w, hw, rfl⟩ : ∃ w : Int, (w = 6 ∨ w = 14 ∨ w = 40 ∨ w = 150) ∧ d = .int w := by
    simp only [List.mem_cons, List.not_mem_nil, or_false] at hd
    rcases hd with rfl | rfl | rfl | rfl
    · exact ⟨6, by omega, rfl⟩
    · exact ⟨14, by omega, rfl⟩
    · exact ⟨40, by omega, rfl⟩
    · exact ⟨150, by omega, rfl⟩
  obtain ⟨d2, s2, hd2, hs2, g2⟩ := pick_ex hs1 (es := [.str "in", .str "out"]) (by simp)
  obtain ⟨sd, hsd, rfl⟩ : ∃ sd : Str, (sd = "in" ∨ sd = "out") ∧ d2 = .str sd := by
    simp only [List.mem_cons, List.not_mem_nil, or_false] at hd2
    rcases hd2 with rfl | rfl
    · exact ⟨_, .inl rfl, rfl⟩
    · exact ⟨_, .inr rfl, rfl⟩
  obtain ⟨k1, s3, a1, a2, hs3, g3⟩ := draw_ex hs2 (l := w - 3 + 1) (by omega)
  have nio : ("out" : Str) ≠ "in" := by decide
  rcases hsd with rfl | rfl
  · obtain ⟨k2, s4, b1, b2, hs4, g4⟩ := draw_ex hs3 (l := min (3 + k1) 150 - 2) (by omega)
    refine ⟨(min (3 + k1) 150).toNat, (2 + k2).toNat, "in", s4, ⟨by omega, by omega, by omega, by omega, .inl ⟨rfl, by omega⟩⟩, hs4, w, k1, k2, "in", s1, s2, s3, rfl, hw, ⟨a1, by omega⟩, g1, g2, g3, .inl ⟨rfl, g4⟩, ?_⟩
    rw [gD, Int.toNat_of_nonneg (by omega), Int.toNat_of_nonneg (by omega)]
  · obtain ⟨k2, s4, b1, b2, hs4, g4⟩ := draw_ex hs3 (l := min 149 (w + 5)) (by omega)
    refine ⟨(min (3 + k1) 150).toNat, (2 + k2).toNat, "out", s4, ⟨by omega, by omega, by omega, by omega, .inr rfl⟩, hs4, w, k1, k2, "out", s1, s2, s3, rfl, hw, ⟨a1, by omega⟩, g1, g2, g3, .inr ⟨nio, g4⟩, ?_⟩
    rw [gD, Int.toNat_of_nonneg (by omega), Int.toNat_of_nonneg (by omega)]
/-- the rows of a roll -/
def rollD (N n st L : Nat) : List PyData := (List.range L).map fun i => .tuple [.int ((st + i) % N : Nat), .int (i % n : Nat)]
theorem rollD_len (N n st L : Nat) : (rollD N n st L).length = L := by simp [rollD]
theorem rollD_succ (N n st L : Nat) : rollD N n st (L + 1) = rollD N n st L ++ [.tuple [.int ((st + L) % N : Nat), .int (L % n : Nat)]] := by
  unfold rollD; rw [List.range_succ, List.map_append]; rfl
def Sig_law_roll : List PyData → Res → Prop := fun ds r => ∃ N n s st, 0 < N ∧ N ≤ 1000 ∧ 0 < n ∧ n ≤ 1000 ∧ N * n ≤ 40000 ∧ st < N ∧ ds = [gD N n s, .int (st : Nat)] ∧ r = .new (rollD N n st (lenN N n))
theorem roll_back {N n st i : Nat} (hN : 0 < N) (hst : st < N) (h1 : (st + i) % N = st) (h2 : i % n = 0) : lenN N n ∣ i := by
  refine Nat.lcm_dvd ?_ (Nat.dvd_of_mod_eq_zero h2)
  have : (st + i - st) % N = 0 := Nat.sub_mod_eq_zero_of_mod_eq (by rw [h1, Nat.mod_eq_of_lt hst])
  exact Nat.dvd_of_mod_eq_zero (by simpa using this)
theorem roll_end {N n st : Nat} (hst : st < N) : (st + lenN N n) % N = st ∧ lenN N n % n = 0 := by
  refine ⟨?_, Nat.mod_eq_zero_of_dvd (Nat.dvd_lcm_right N n)⟩
  rw [Nat.add_mod, show lenN N n % N = 0 from Nat.mod_eq_zero_of_dvd (Nat.dvd_lcm_left N n), Nat.add_zero, Nat.mod_mod, Nat.mod_eq_of_lt hst]
theorem lenN_pos {N n : Nat} (h1 : 0 < N) (h2 : 0 < n) : 0 < lenN N n := Nat.lcm_pos h1 h2
theorem lenN_le (N n : Nat) (h : 0 < N) : lenN N n ≤ N * n := by
  unfold lenN Nat.lcm
  exact Nat.div_le_self _ _
theorem gd_pair (a b : Int) : Gd 1 (.tuple [.int a, .int b]) := Gd.tuple (gd_cons (Gd.int a) (gd_cons (Gd.int b) gd_nil))
theorem gd_roll (N n st L : Nat) : Gd 2 (.list (rollD N n st L)) := Gd.list fun d hd => by
  obtain ⟨i, _, rfl⟩ := List.mem_map.mp hd
  exact gd_pair _ _
theorem nb_map {α : Type} (f : α → PyData) (h : ∀ a, nbD (f a) = true) : ∀ l : List α, nbD.nbAll (l.map f) = true
  | [] => rfl
  | a :: r => by rw [List.map_cons]; simp [nbD.nbAll, h a, nb_map f h r]
theorem nb_roll (N n st L : Nat) : nbD (.list (rollD N n st L)) = true := by
  show nbD.nbAll (rollD N n st L) = true
  exact nb_map _ (fun _ => rfl) _
theorem sd_conv {X : Cx} {E : XK} {ρ : REnv} {M : List MO} {sts : List Stmt} {o o' : Out} (h : SD X E ρ M sts o) (e : o = o') : SD X E ρ M sts o' := e ▸ h
/-! ### comparisons whose answer is known -/
section
variable {X : Cx} {M : List MO} {i j : Int}
theorem cd_neIT (h : i = j) : CmpD X .NotEq M (.d (.int i)) (.d (.int j)) false := by
  have := cd_neI (X := X) (M := M) (i := i) (j := j)
  rwa [decide_eq_true h] at this
theorem cd_neIF (h : i ≠ j) : CmpD X .NotEq M (.d (.int i)) (.d (.int j)) true := by
  have := cd_neI (X := X) (M := M) (i := i) (j := j)
  rwa [decide_eq_false h] at this
theorem cd_eqIT (h : i = j) : CmpD X .Eq M (.d (.int i)) (.d (.int j)) true := by
  have := cd_eqI (X := X) (M := M) (i := i) (j := j)
  rwa [decide_eq_true h] at this
theorem cd_eqIF (h : i ≠ j) : CmpD X .Eq M (.d (.int i)) (.d (.int j)) false := by
  have := cd_eqI (X := X) (M := M) (i := i) (j := j)
  rwa [decide_eq_false h] at this
theorem cd_ltT (h : i < j) : CmpD X .Lt M (.d (.int i)) (.d (.int j)) true := by
  have := cd_lt (X := X) (M := M) (i := i) (j := j)
  rwa [decide_eq_true h] at this
theorem cd_ltF (h : ¬ i < j) : CmpD X .Lt M (.d (.int i)) (.d (.int j)) false := by
  have := cd_lt (X := X) (M := M) (i := i) (j := j)
  rwa [decide_eq_false h] at this
theorem cd_leT (h : i ≤ j) : CmpD X .LtE M (.d (.int i)) (.d (.int j)) true := by
  have := cd_le (X := X) (M := M) (i := i) (j := j)
  rwa [decide_eq_true h] at this
theorem cd_leF (h : ¬ i ≤ j) : CmpD X .LtE M (.d (.int i)) (.d (.int j)) false := by
  have := cd_le (X := X) (M := M) (i := i) (j := j)
  rwa [decide_eq_false h] at this
theorem cd_gtT (h : j < i) : CmpD X .Gt M (.d (.int i)) (.d (.int j)) true := by
  have := cd_gt (X := X) (M := M) (i := i) (j := j)
  rwa [decide_eq_true h] at this
theorem cd_gtF (h : ¬ j < i) : CmpD X .Gt M (.d (.int i)) (.d (.int j)) false := by
  have := cd_gt (X := X) (M := M) (i := i) (j := j)
  rwa [decide_eq_false h] at this
theorem cd_geT (h : j ≤ i) : CmpD X .GtE M (.d (.int i)) (.d (.int j)) true := by
  have := cd_ge (X := X) (M := M) (i := i) (j := j)
  rwa [decide_eq_true h] at this
theorem cd_geF (h : ¬ j ≤ i) : CmpD X .GtE M (.d (.int i)) (.d (.int j)) false := by
  have := cd_ge (X := X) (M := M) (i := i) (j := j)
  rwa [decide_eq_false h] at this
theorem cd_eqST {x y : Str} (h : x = y) : CmpD X .Eq M (.d (.str x)) (.d (.str y)) true := by
  have := cd_eqS (X := X) (M := M) (x := x) (y := y)
  rwa [decide_eq_true h] at this
theorem cd_eqSF {x y : Str} (h : x ≠ y) : CmpD X .Eq M (.d (.str x)) (.d (.str y)) false := by
  have := cd_eqS (X := X) (M := M) (x := x) (y := y)
  rwa [decide_eq_false h] at this
theorem cd_isTT {a : Bool} (h : a = true) : CmpD X .Is M (.d (.bool a)) (.d (.bool true)) true := by
  subst h; exact cd_isB
theorem cd_isTF {a : Bool} (h : a = false) : CmpD X .Is M (.d (.bool a)) (.d (.bool true)) false := by
  subst h; exact cd_isB
theorem cd_notTT {a : Bool} (h : a = true) : CmpD X .IsNot M (.d (.bool a)) (.d (.bool true)) false := by
  subst h; exact cd_notB
theorem cd_notFT {a : Bool} (h : a = false) : CmpD X .IsNot M (.d (.bool a)) (.d (.bool false)) false := by
  subst h; exact cd_notB
end
section
variable {X : Cx} {ρ : REnv} {M M1 M2 : List MO} {e c : Expr} {pos : Pos}
theorem bt_notF (h : BT X ρ M e true M1) : BT X ρ M (.UnaryOp .Not e pos) false M1 := bt_not h
theorem bt_notT (h : BT X ρ M e false M1) : BT X ρ M (.UnaryOp .Not e pos) true M1 := bt_not h
/-- if c: .., then the rest -/
theorem sd_ifC {E : XK} {cd : Expr} {sa rest : List Stmt} {o : Out} {k : Bool} (hc : BT X ρ M cd k M1) (ha : k = true → ∃ ρ1 M2, SD X E ρ M1 sa (.nx ρ1 M2) ∧ SD X E ρ1 M2 rest o) (hb : k = false → SD X E ρ M1 rest o) : SD X E ρ M (.If cd sa [] pos :: rest) o := by
  cases k with
  | true =>
    obtain ⟨ρ1, M2, h1, h2⟩ := ha rfl
    exact sd_cons (sd_ifT hc h1) h2
  | false => exact sd_cons (sd_ifF hc sd_nil) (hb rfl)
end
/-! ### more promises -/
def Sig_check_tooth (c : Cl) : List PyData → Res → Prop := fun ds r => ∃ (N n : Nat) (s : Str) (v : PyData), ds = [gD N n s, v] ∧ ((isIntB v 0 ((N : Int) - 1) = true ∧ r = .val .none) ∨ (isIntB v 0 ((N : Int) - 1) = false ∧ r = .err (.ref c.tooth)))
def Sig_check_wheel_tooth (c : Cl) : List PyData → Res → Prop := fun ds r => ∃ (N n : Nat) (s : Str) (v : PyData), ds = [gD N n s, v] ∧ ((isIntB v 0 ((n : Int) - 1) = true ∧ r = .val .none) ∨ (isIntB v 0 ((n : Int) - 1) = false ∧ r = .err (.ref c.tooth)))
def Sig_check_int (c : Cl) (lo hi : Int) : List PyData → Res → Prop := fun ds r => ∃ (v : PyData), ds = [v] ∧ ((isIntB v lo hi = true ∧ r = .val .none) ∨ (isIntB v lo hi = false ∧ r = .err (.ref c.num)))
theorem isInt_ok {i lo hi : Int} (h1 : lo ≤ i) (h2 : i ≤ hi) : isIntB (.int i) lo hi = true := by
  simp [isIntB, h1, h2]
/-- a gear, a start, a number up to m -/
def SigSK (m : Nat) (f : Nat → Nat → Str → Nat → Nat → Res) : List PyData → Res → Prop := fun ds r => ∃ N n s st k, GOk N n s ∧ st < N ∧ k ≤ m ∧ ds = [gD N n s, .int (st : Nat), .int (k : Nat)] ∧ r = f N n s st k
def Sig_wheel_tooth : List PyData → Res → Prop := fun ds r => ∃ N n s k, GOk N n s ∧ k ≤ 1000000 ∧ ds = [gD N n s, .int (k : Nat)] ∧ r = vI (k % n : Nat)
/-- fractions in lowest terms, within a turn -/
def lowA (t : Int) (d : Nat) : Nat := (t % (d : Int)).toNat / Nat.gcd (t % (d : Int)).toNat d
def lowB (t : Int) (d : Nat) : Nat := d / Nat.gcd (t % (d : Int)).toNat d
def lowD (t : Int) (d : Nat) : PyData := .tuple [.int (lowA t d), .int (lowB t d)]
def Sig_lowest : List PyData → Res → Prop := fun ds r => ∃ (t : Int) (d : Nat), 0 < d ∧ d < 1073741824 ∧ ds = [.int t, .int (d : Nat)] ∧ r = .val (lowD t d)
def markT (N n : Nat) (s : Str) (st k : Nat) : Int := if s = "in" then ((st : Int) + k) * n - (k : Int) * N else ((st : Int) + k) * n * 2 + (N * n : Nat) + 2 * (k : Int) * N
def markW (N n : Nat) (s : Str) : Nat := if s = "in" then N * n else 2 * (N * n)
def markD (N n : Nat) (s : Str) (st k : Nat) : PyData := if s = "in" then lowD (((st : Int) + k) * n - (k : Int) * N) (N * n) else lowD (((st : Int) + k) * n * 2 + (N * n : Nat) + 2 * (k : Int) * N) (2 * (N * n))
theorem markD_eq (N n : Nat) (s : Str) (st k : Nat) : markD N n s st k = lowD (markT N n s st k) (markW N n s) := by
  unfold markD markT markW; split <;> rfl
/-! ### forgetting names -/
inductive Sub : REnv → REnv → Prop
  | nil : Sub [] []
  | no {x : Option Slot} {a b : REnv} : Sub a b → Sub (none :: a) (x :: b)
  | same {r : Slot} {a b : REnv} : Sub a b → Sub (some r :: a) (some r :: b)
theorem Sub.len : ∀ {a b : REnv}, Sub a b → a.length = b.length
  | _, _, .nil => rfl
  | _, _, .no h => by rw [List.length_cons, List.length_cons, h.len]
  | _, _, .same h => by rw [List.length_cons, List.length_cons, h.len]
theorem Sub.get : ∀ {a b : REnv}, Sub a b → ∀ (i : Nat) (r : Slot), a[i]? = some (some r) → b[i]? = some (some r)
  | _, _, .nil, i, r, h => by simp at h
  | _, _, .no s, 0, r, h => by simp at h
  | _, _, .no s, i + 1, r, h => s.get i r h
  | _, _, .same s, 0, r, h => h
  | _, _, .same s, i + 1, r, h => s.get i r h
theorem RepE.sub {As : List Addr} {F : Hp} {σ : St} {ρ ρ' : REnv} (h : RepE As F σ ρ) (s : Sub ρ' ρ) : RepE As F σ ρ' :=
  ⟨h.len.trans s.len.symm, fun i r e => h.env i r (s.get i r e)⟩
section
variable {X : Cx} {E : XK} {ρ ρ' : REnv} {M M1 : List MO} {sts : List Stmt} {st : Stmt} {o : Out} {pos : Pos}
theorem sd_fg (h : SD X E ρ M sts (.nx ρ' M1)) {ρ2 : REnv} (s : Sub ρ2 ρ') : SD X E ρ M sts (.nx ρ2 M1) := fun As σ F H hM hE D q =>
  h As σ F H hM hE D fun As' σ' F' H' s1 m1 e1 => q As' σ' F' H' s1 m1 (e1.sub s)
theorem sd_wk (h : SD X E ρ' M sts o) (s : Sub ρ' ρ) : SD X E ρ M sts o := fun As σ F H hM hE D q => h As σ F H hM (hE.sub s) D q
theorem s1_wk (h : S1 X E ρ' M st o) (s : Sub ρ' ρ) : S1 X E ρ M st o := fun As σ F H hM hE D q => h As σ F H hM (hE.sub s) D q
theorem it_wk {tg iter : Expr} {n : Nat} {item : Nat → PyData} (h : ITR X ρ' M tg iter n item M1) (s : Sub ρ' ρ) : ITR X ρ M tg iter n item M1 := fun As σ F H hM hE R q => h As σ F H hM (hE.sub s) R q
theorem sd_forW {tg iter : Expr} {body : List Stmt} {n : Nat} {item : Nat → PyData} {js : List Nat} (ρs ρt : Nat → REnv) (Ms : Nat → List MO) (hp : PassesOwn (model X.prog X.w) X.A X.env X.xe) (it : ITR X (ρs 0) M tg iter n item (Ms 0)) (h0 : Sub (ρs 0) ρ)
    (ht : ∀ i, i < n → TD X (ρs i) tg (item i) js (ρt i)) (hb : ∀ i, i < n → ∃ ρ2, SD X E (ρt i) (Ms i) body (.nx ρ2 (Ms (i + 1))) ∧ Sub (ρs (i + 1)) ρ2) (hc : X.calm = true := by rfl) (hs : ∀ x, foldedSetIterable iter X.env x = pure x := by intro _; rfl) :
    S1 X E ρ M (.For tg iter body [] pos) (.nx (ρs n) (Ms n)) :=
  s1_wk (sd_for ρs ρt Ms hp it rfl ht (fun i hi => by
    obtain ⟨ρ2, h1, h2⟩ := hb i hi
    exact sd_fg h1 h2) hc hs) h0
end
end WC

/-! the mathematics of gears -/
namespace WC
open PySem

theorem cnt_eq (r : Nat) : ∀ n : Nat, ((List.range n).filter fun j => decide (j = r)).length = if r < n then 1 else 0
  | 0 => by simp
  | n + 1 => by
    rw [List.range_succ, List.filter_append, List.length_append, cnt_eq r n]
    by_cases h : n = r
    · subst h; simp
    · have h2 : ([n].filter fun j => decide (j = r)) = [] := by simp [h]
      rw [h2]
      by_cases h3 : r < n
      · rw [if_pos h3, if_pos (by omega)]; rfl
      · rw [if_neg h3, if_neg (by omega)]; rfl
theorem cnt_mod {n r : Nat} (hr : r < n) : ∀ p : Nat, ((List.range (p * n)).filter fun i => decide (i % n = r)).length = p
  | 0 => by simp
  | p + 1 => by
    rw [Nat.succ_mul, List.range_add, List.filter_append, List.length_append, cnt_mod hr p, List.filter_map, List.length_map]
    have e : ((List.range n).filter ((fun i => decide (i % n = r)) ∘ fun x => p * n + x)) = (List.range n).filter fun j => decide (j = r) := by
      refine List.filter_congr fun j hj => ?_
      have hj := List.mem_range.mp hj
      show decide ((p * n + j) % n = r) = decide (j = r)
      rw [Nat.mul_comm p n, Nat.mul_add_mod, Nat.mod_eq_of_lt hj]
    rw [e, cnt_eq, if_pos hr]
/-- a shift, then a remainder -/
theorem gath_length (n : Nat) (f : Nat → Bool) (g : Nat → PyData) : (gath n f g).length = ((List.range n).filter f).length := by simp [gath]

section
variable {N n : Nat}
theorem pet_mul (hN : 0 < N) : petN N n * Nat.gcd N n = N := Nat.div_mul_cancel (Nat.gcd_dvd_left N n)
theorem rnd_mul (hN : 0 < N) : rndN N n * Nat.gcd N n = n := Nat.div_mul_cancel (Nat.gcd_dvd_right N n)
theorem len_pet (hN : 0 < N) : lenN N n = petN N n * n := by
  have hg := (gcd_le (n := n) hN).1
  refine Nat.eq_of_mul_eq_mul_left hg ?_
  rw [show Nat.gcd N n * lenN N n = N * n from Nat.gcd_mul_lcm N n, ← Nat.mul_assoc, Nat.mul_comm (Nat.gcd N n), pet_mul hN]
theorem len_rnd (hN : 0 < N) : lenN N n = rndN N n * N := by
  have hg := (gcd_le (n := n) hN).1
  refine Nat.eq_of_mul_eq_mul_left hg ?_
  rw [show Nat.gcd N n * lenN N n = N * n from Nat.gcd_mul_lcm N n, ← Nat.mul_assoc, Nat.mul_comm (Nat.gcd N n), rnd_mul hN, Nat.mul_comm]
theorem pet_pos (hN : 0 < N) : 0 < petN N n := Nat.div_pos (gcd_le hN).2 (gcd_le hN).1
theorem rnd_pos (hN : 0 < N) (hn : 0 < n) : 0 < rndN N n := Nat.div_pos (Nat.gcd_le_right _ hn) (gcd_le hN).1
theorem pet_le : petN N n ≤ N := Nat.div_le_self _ _
theorem rnd_le : rndN N n ≤ n := Nat.div_le_self _ _
theorem pet_lt (hN : 0 < N) (h : n < N) : rndN N n < petN N n := by
  have h1 := pet_mul (n := n) hN
  have h2 := rnd_mul (n := n) hN
  refine Nat.lt_of_mul_lt_mul_right (a := Nat.gcd N n) ?_
  rw [h1, h2]; exact h
theorem pet_plain (hN : 0 < N) : petN N n = N ↔ Nat.gcd N n = 1 := by
  have h1 := pet_mul (n := n) hN
  constructor
  · intro h
    rw [h] at h1
    refine Nat.eq_of_mul_eq_mul_left hN ?_
    rw [h1, Nat.mul_one]
  · intro h; rw [h, Nat.mul_one] at h1; exact h1
theorem pet_wide {b : Nat} (hb : 0 < b) : petN (N * b) (n * b) = petN N n := by
  unfold petN; rw [Nat.gcd_mul_right, Nat.mul_div_mul_right _ _ hb]
theorem rnd_wide {b : Nat} (hb : 0 < b) : rndN (N * b) (n * b) = rndN N n := by
  unfold rndN; rw [Nat.gcd_mul_right, Nat.mul_div_mul_right _ _ hb]
theorem len_wide {b : Nat} : lenN (N * b) (n * b) = lenN N n * b := Nat.lcm_mul_right N b n
theorem pet_comm : petN n N = rndN N n := by unfold petN rndN; rw [Nat.gcd_comm]
theorem rnd_comm : rndN n N = petN N n := by unfold petN rndN; rw [Nat.gcd_comm]
theorem len_comm : lenN n N = lenN N n := Nat.lcm_comm n N
end
theorem roll_item {N n st L i : Nat} {d : PyData} (h : (rollD N n st L)[i]? = some d) : (PyData.tuple [.int ((st + i) % N : Nat), .int (i % n : Nat)]) = d := by
  unfold rollD at h
  rw [List.getElem?_map] at h
  cases q : (List.range L)[i]? with
  | none => rw [q] at h; cases h
  | some j =>
    rw [q] at h
    obtain ⟨hlt, e⟩ := List.getElem?_eq_some_iff.mp q
    rw [List.getElem_range] at e
    subst e
    exact Option.some.inj h
theorem dec_nat (a b : Nat) : decide ((a : Int) = (b : Int)) = decide (a = b) := decide_eq_decide.mpr (by omega)
/-! ### fractions of a turn -/
def FrEq (t : Int) (d : Nat) (t' : Int) (d' : Nat) : Prop := ∃ z : Int, t * d' - t' * d = z * (d * d')
theorem FrEq.of {t t' : Int} {d d' : Nat} (z : Int) (h : t * d' - t' * d = z * (d * d')) : FrEq t d t' d' := ⟨z, h⟩
theorem FrEq.trans {t t' t2 : Int} {d d' d2 : Nat} (hd : 0 < d') (a : FrEq t d t' d') (b : FrEq t' d' t2 d2) : FrEq t d t2 d2 := by
  obtain ⟨z, hz⟩ := a
  obtain ⟨z', hz'⟩ := b
  refine ⟨z + z', Int.eq_of_mul_eq_mul_left (a := (d' : Int)) (by omega) ?_⟩
  grind
theorem FrEq.symm {t t' : Int} {d d' : Nat} (a : FrEq t d t' d') : FrEq t' d' t d := by
  obtain ⟨z, hz⟩ := a
  exact ⟨-z, by grind⟩
theorem FrEq.add {t t' : Int} {d d' : Nat} (T : Int) (W : Nat) (a : FrEq t d t' d') : FrEq (t * W + T * d) (d * W) (t' * W + T * d') (d' * W) := by
  obtain ⟨z, hz⟩ := a
  refine ⟨z, ?_⟩
  rw [Int.natCast_mul, Int.natCast_mul]
  grind
/-- equal fractions have equal lowest terms -/
theorem low_nat {m d m' d' : Nat} (hd : 0 < d) (hd' : 0 < d') (h : m * d' = m' * d) : m / Nat.gcd m d = m' / Nat.gcd m' d' ∧ d / Nat.gcd m d = d' / Nat.gcd m' d' := by
  have g1 : 0 < Nat.gcd m d := Nat.gcd_pos_of_pos_right _ hd
  have g2 : 0 < Nat.gcd m' d' := Nat.gcd_pos_of_pos_right _ hd'
  have c1 := Nat.coprime_div_gcd_div_gcd g1
  have c2 := Nat.coprime_div_gcd_div_gcd g2
  have e1 := Nat.div_mul_cancel (Nat.gcd_dvd_left m d)
  have e2 := Nat.div_mul_cancel (Nat.gcd_dvd_right m d)
  have e3 := Nat.div_mul_cancel (Nat.gcd_dvd_left m' d')
  have e4 := Nat.div_mul_cancel (Nat.gcd_dvd_right m' d')
  generalize hp : m / Nat.gcd m d = p at *
  generalize hq : d / Nat.gcd m d = q at *
  generalize hp' : m' / Nat.gcd m' d' = p' at *
  generalize hq' : d' / Nat.gcd m' d' = q' at *
  generalize Nat.gcd m d = g at *
  generalize Nat.gcd m' d' = g' at *
  have k : p * q' = p' * q := by
    refine Nat.eq_of_mul_eq_mul_right (Nat.mul_pos g1 g2) ?_
    grind
  have q0 : 0 < q := by
    rcases Nat.eq_zero_or_pos q with z | z
    · rw [z] at e2; omega
    · exact z
  have d1 : q ∣ q' := c1.symm.dvd_of_dvd_mul_left ⟨p', by rw [k, Nat.mul_comm]⟩
  have d2 : q' ∣ q := c2.symm.dvd_of_dvd_mul_left ⟨p, by rw [← k, Nat.mul_comm]⟩
  have eq : q = q' := Nat.dvd_antisymm d1 d2
  subst eq
  exact ⟨Nat.eq_of_mul_eq_mul_right q0 k, rfl⟩
theorem emod_nat (t : Int) {d : Nat} (hd : 0 < d) : ((t % (d : Int)).toNat : Int) = t - d * (t / d) ∧ (t % (d : Int)).toNat < d := by
  have h1 := Int.emod_nonneg t (show (d : Int) ≠ 0 by omega)
  have h2 := Int.emod_lt_of_pos t (show 0 < (d : Int) by omega)
  have h3 := Int.mul_ediv_add_emod t d
  refine ⟨by rw [Int.toNat_of_nonneg h1]; omega, by omega⟩
theorem low_eq {t t' : Int} {d d' : Nat} (hd : 0 < d) (hd' : 0 < d') (h : FrEq t d t' d') : lowD t d = lowD t' d' := by
  obtain ⟨e1, l1⟩ := emod_nat t hd
  obtain ⟨e2, l2⟩ := emod_nat t' hd'
  obtain ⟨z, hz⟩ := h
  have key : (t % (d : Int)).toNat * d' = (t' % (d' : Int)).toNat * d := by
    generalize (t % (d : Int)).toNat = m at *
    generalize (t' % (d' : Int)).toNat = m' at *
    generalize t / (d : Int) = y at *
    generalize t' / (d' : Int) = y' at *
    have b1 : m * d' < d * d' := Nat.mul_lt_mul_of_pos_right l1 hd'
    have b2 : m' * d < d * d' := by rw [Nat.mul_comm d d']; exact Nat.mul_lt_mul_of_pos_right l2 hd
    have e3 : (m : Int) * d' - (m' : Int) * d = (z - y + y') * ((d : Int) * d') := by grind
    have b1' : (m : Int) * d' < (d : Int) * d' := by rw [← Int.natCast_mul, ← Int.natCast_mul]; omega
    have b2' : (m' : Int) * d < (d : Int) * d' := by rw [← Int.natCast_mul, ← Int.natCast_mul]; omega
    have n1 : 0 ≤ (m : Int) * d' := by rw [← Int.natCast_mul]; omega
    have n2 : 0 ≤ (m' : Int) * d := by rw [← Int.natCast_mul]; omega
    have P : 0 < (d : Int) * d' := Int.mul_pos (by omega) (by omega)
    have w : z - y + y' = 0 := by
      generalize z - y + y' = u at *
      rcases Int.lt_trichotomy u 0 with h | h | h
      · have : u * ((d : Int) * d') ≤ (-1) * ((d : Int) * d') := Int.mul_le_mul_of_nonneg_right (by omega) (by omega)
        omega
      · exact h
      · have : 1 * ((d : Int) * d') ≤ u * ((d : Int) * d') := Int.mul_le_mul_of_nonneg_right (by omega) (by omega)
        omega
    rw [w, Int.zero_mul] at e3
    have : ((m * d' : Nat) : Int) = ((m' * d : Nat) : Int) := by rw [Int.natCast_mul, Int.natCast_mul]; omega
    omega
  obtain ⟨r1, r2⟩ := low_nat hd hd' key
  unfold lowD lowA lowB
  rw [r1, r2]
theorem low_fr (t : Int) {d : Nat} (hd : 0 < d) : FrEq (lowA t d) (lowB t d) t d ∧ 0 < lowB t d ∧ lowB t d ≤ d ∧ lowA t d ≤ d := by
  obtain ⟨e1, l1⟩ := emod_nat t hd
  have g1 : 0 < Nat.gcd (t % (d : Int)).toNat d := Nat.gcd_pos_of_pos_right _ hd
  have k1 := Nat.div_mul_cancel (Nat.gcd_dvd_left (t % (d : Int)).toNat d)
  have k2 := Nat.div_mul_cancel (Nat.gcd_dvd_right (t % (d : Int)).toNat d)
  refine ⟨⟨-(t / d), ?_⟩, Nat.div_pos (Nat.gcd_le_right _ hd) g1, Nat.div_le_self _ _, Nat.le_trans (Nat.div_le_self _ _) (by omega)⟩
  unfold lowA lowB
  generalize (t % (d : Int)).toNat / Nat.gcd (t % (d : Int)).toNat d = a at *
  generalize d / Nat.gcd (t % (d : Int)).toNat d = b at *
  generalize Nat.gcd (t % (d : Int)).toNat d = g at *
  have k1' : (a : Int) * g = ((t % (d : Int)).toNat : Int) := by rw [← k1, Int.natCast_mul]
  have k2' : (b : Int) * g = (d : Int) := by rw [← Int.natCast_mul, k2]
  generalize ((t % (d : Int)).toNat : Int) = m at *
  generalize t / (d : Int) = y at *
  grind
section
variable {N n : Nat} {s : Str}
theorem markW_pos (hN : 0 < N) (hn : 0 < n) : 0 < markW N n s := by
  have := Nat.mul_pos hN hn
  unfold markW; split <;> omega
theorem markW_le (hN : N ≤ 150) (hn : n ≤ 150) : markW N n s ≤ 45000 := by
  have : N * n ≤ 22500 := Nat.le_trans (Nat.mul_le_mul hN hn) (by decide)
  unfold markW; split <;> omega
/-- a part of a turn more -/
theorem low_more {t t2 : Int} {d d2 W : Nat} {T : Int} (hd : 0 < d) (hd2 : 0 < d2) (hW : 0 < W) (h : FrEq (t * W + T * d) (d * W) t2 d2) : lowD ((lowA t d : Int) * W + T * (lowB t d : Int)) (lowB t d * W) = lowD t2 d2 := by
  obtain ⟨a, b, _, _⟩ := low_fr t hd
  exact low_eq (Nat.mul_pos b hW) hd2 ((a.add T W).trans (Nat.mul_pos hd hW) h)
end
section
variable {N n : Nat} {s : Str}
def turnT (N n : Nat) (s : Str) : Int := if s = "out" then (N : Int) + n else (n : Int) - N
theorem out_ne : ("out" : Str) ≠ "in" := by decide
theorem in_ne : ("in" : Str) ≠ "out" := by decide
theorem mark_next (hg : GOk N n s) (st k : Nat) : FrEq (markT N n s st k * (N * n : Nat) + turnT N n s * (markW N n s : Nat)) (markW N n s * (N * n)) (markT N n s st (k + 1)) (markW N n s) := by
  unfold markT markW turnT
  refine .of 0 ?_
  rcases hg.side with ⟨rfl, _⟩ | rfl
  · rw [if_pos rfl, if_pos rfl, if_pos rfl, if_neg in_ne]
    simp only [Int.natCast_mul, Int.natCast_add]; grind
  · rw [if_neg out_ne, if_neg out_ne, if_neg out_ne, if_pos rfl]
    simp only [Int.natCast_mul, Int.natCast_add]; grind
theorem mark_round (hg : GOk N n s) (st k : Nat) : FrEq (markT N n s st (k + lenN N n)) (markW N n s) (markT N n s st k) (markW N n s) := by
  have e1 := len_pet (n := n) hg.pos.1
  have e2 := len_rnd (n := n) hg.pos.1
  have e1' : (lenN N n : Int) = (petN N n : Int) * n := by rw [e1]; exact Int.natCast_mul _ _
  have e2' : (lenN N n : Int) = (rndN N n : Int) * N := by rw [e2]; exact Int.natCast_mul _ _
  clear e1 e2
  unfold markT markW
  rcases hg.side with ⟨rfl, _⟩ | rfl
  · rw [if_pos rfl, if_pos rfl, if_pos rfl]
    refine .of ((rndN N n : Int) - petN N n) ?_
    simp only [Int.natCast_mul, Int.natCast_add]
    generalize (lenN N n : Int) = L at *
    generalize (petN N n : Int) = p at *
    generalize (rndN N n : Int) = q at *
    grind
  · rw [if_neg out_ne, if_neg out_ne, if_neg out_ne]
    refine .of ((rndN N n : Int) + petN N n) ?_
    simp only [Int.natCast_mul, Int.natCast_add]
    generalize (lenN N n : Int) = L at *
    generalize (petN N n : Int) = p at *
    generalize (rndN N n : Int) = q at *
    grind
theorem centre_round (hg : GOk N n s) (x : Nat) : FrEq ((x + lenN N n : Nat) : Int) N (x : Int) N := by
  have e2 := len_rnd (n := n) hg.pos.1
  refine .of (rndN N n) ?_
  rw [e2]; simp only [Int.natCast_mul, Int.natCast_add]; grind
theorem centre_next (x : Nat) : FrEq ((x : Int) * N + 1 * N) (N * N) ((x + 1 : Nat) : Int) N := by
  refine .of 0 ?_
  simp only [Int.natCast_mul, Int.natCast_add]; grind
theorem mark_tip_in (st k : Nat) : FrEq (((st : Int) + (k * n : Nat)) * n - ((k * n : Nat) : Int) * N) (N * n) ((st + k * n : Nat) : Int) N := by
  refine .of (-k) ?_
  simp only [Int.natCast_mul, Int.natCast_add]; grind
theorem mark_tip_out (st k : Nat) : FrEq (((st : Int) + (k * n : Nat)) * n * 2 + (N * n : Nat) + 2 * ((k * n : Nat) : Int) * N) (2 * (N * n)) (2 * ((st + k * n : Nat) : Int) + N) (2 * N) := by
  refine .of k ?_
  simp only [Int.natCast_mul, Int.natCast_add]; grind
theorem fr_half {t t' : Int} {d d' : Nat} (h : FrEq t d t' d') : FrEq (2 * t + d) (2 * d) (2 * t' + d') (2 * d') := by
  obtain ⟨z, hz⟩ := h
  refine .of z ?_
  simp only [Int.natCast_mul]; grind
theorem fr_mod (x : Nat) : FrEq ((x % N : Nat) : Int) N (x : Int) N := by
  refine .of (-((x / N : Nat) : Int)) ?_
  have h : ((x % N : Nat) : Int) = (x : Int) - N * ((x / N : Nat) : Int) := by
    have := Nat.div_add_mod x N
    have h2 : ((N * (x / N) + x % N : Nat) : Int) = (x : Int) := by rw [this]
    simp only [Int.natCast_mul, Int.natCast_add] at h2
    omega
  rw [h]; grind
theorem mark_moved (hg : GOk N n s) {st : Nat} (hst : st < N) (k : Nat) : FrEq (markT N n s st k * (N : Nat) + 1 * (markW N n s : Nat)) (markW N n s * N) (markT N n s ((st + 1) % N) k) (markW N n s) := by
  have h : (((st + 1) % N : Nat) : Int) = (st : Int) + 1 - N * (((st + 1) / N : Nat) : Int) := by
    have := Nat.div_add_mod (st + 1) N
    have h2 : ((N * ((st + 1) / N) + (st + 1) % N : Nat) : Int) = ((st + 1 : Nat) : Int) := by rw [this]
    simp only [Int.natCast_mul, Int.natCast_add] at h2
    omega
  unfold markT markW
  rw [h]
  generalize (((st + 1) / N : Nat) : Int) = c
  rcases hg.side with ⟨rfl, _⟩ | rfl
  · rw [if_pos rfl, if_pos rfl, if_pos rfl]
    refine .of c ?_
    simp only [Int.natCast_mul]; grind
  · rw [if_neg out_ne, if_neg out_ne, if_neg out_ne]
    refine .of c ?_
    simp only [Int.natCast_mul]; grind
theorem mark_zero_in (st : Nat) : FrEq (((st : Int) + (0 : Nat)) * n - ((0 : Nat) : Int) * N) (N * n) (st : Int) N := by
  refine .of 0 ?_
  simp only [Int.natCast_mul]; grind
theorem mark_zero_out (st : Nat) : FrEq (((st : Int) + (0 : Nat)) * n * 2 + (N * n : Nat) + 2 * ((0 : Nat) : Int) * N) (2 * (N * n)) (2 * (st : Int) + N) (2 * N) := by
  refine .of 0 ?_
  simp only [Int.natCast_mul]; grind
theorem turns_len (hg : GOk N n s) : turnsI N n s * (N * n : Nat) = (lenN N n : Int) * (if turnT N n s < 0 then -turnT N n s else turnT N n s) := by
  have e1 := len_pet (n := n) hg.pos.1
  have e2 := len_rnd (n := n) hg.pos.1
  have e1' : (lenN N n : Int) = (petN N n : Int) * n := by rw [e1]; exact Int.natCast_mul _ _
  have e2' : (lenN N n : Int) = (rndN N n : Int) * N := by rw [e2]; exact Int.natCast_mul _ _
  generalize (lenN N n : Int) = L at *
  generalize hp : (petN N n : Int) = p at *
  generalize hq : (rndN N n : Int) = q at *
  unfold turnsI turnT
  rcases hg.side with ⟨rfl, h⟩ | rfl
  · rw [if_pos rfl, if_neg in_ne, if_pos (by omega), hp, hq]
    simp only [Int.natCast_mul]; grind
  · rw [if_neg out_ne, if_pos rfl, if_neg (by omega), hp, hq]
    simp only [Int.natCast_mul]; grind
end
theorem gd_low (t : Int) (d : Nat) : Gd 1 (lowD t d) := gd_pair _ _
theorem gd_mark (N n : Nat) (s : Str) (st k : Nat) : Gd 1 (markD N n s st k) := by rw [markD_eq]; exact gd_low _ _
def Sig_law_moved : List PyData → Res → Prop := fun ds r => ∃ N n s st k, GOk N n s ∧ st < N ∧ k ≤ 1000000 ∧ ds = [gD N n s, .int (st : Nat), .int (k : Nat), lowD (markT N n s st k) (markW N n s), .int (lenN N n), .int (N * n : Nat), .int (turnT N n s)] ∧ r = vB true
end WC

/-! methods of lists -/
namespace WC
open PySem L2
open Evl (Ex)
theorem flat_of_ints : ∀ ns : List Int, (ns.map V.int).all flatV = true
  | [] => rfl
  | n :: r => by rw [List.map_cons, List.all_cons, flat_of_ints r]; rfl
section
variable {X : Cx} {ρ : REnv} {M M1 M2 : List MO} {o a : Expr} {r : Slot} {apos pos : Pos} {ns : List Int} {i : Int} {j : Nat}
theorem ed_indexI (h : ED X ρ M o r M1) (ha : ED X ρ M1 a (.d (.int i)) M2) (rd1 : Rds M1 r (.list (ns.map .int))) (rd : Rds M2 r (.list (ns.map .int))) (hj : ns[j]? = some i) (hno : ∀ m, m < j → ns[m]? ≠ some i)
    (hbase : attributeBase o "index" X.env (eval o X.env) = eval o X.env := by rfl)
    (hfew : ((backTo pos (starEach (a :: []) X.env)).all (fun x => !x.1) && (backToKw pos (keywordEach [] X.env)).all (fun x => x.1.isSome) && decide ((a :: []).length + ([] : List Keyword).length + (if ([] : List Keyword).isEmpty then 0 else 1) < 30)) = true := by rfl)
    (hline : (apos.endLine == pos.line) = true := by rfl) (hs : starEach (a :: []) X.env = (false, eval a X.env) :: starEach [] X.env := by rfl) (hplain : (backTo pos (starEach [] X.env)).any (·.1) = false := by rfl) :
    ED X ρ M (.Call (.Attribute o "index" apos) [a] [] pos) (.d (.int j)) M2 := fun As σ F H hM hE Q q =>
  ⟨_, pe_bm PySem.F.plainAttrs_list PySem.F.slot_list_index PySem.F.type_list_index mt_index (pe_w X o) (pa_cons (pe_w X a) pa_nil hs) hbase hfew hline hs hplain, h As σ F H hM hE _ fun v As1 F1 H1 s1 m1 o1 => by
    obtain ⟨l, xs, rfl, k1, k2⟩ := rd_list m1 o1 rd1
    refine ⟨.inl ⟨rfl, _, SqL.of k1⟩, ha As1 σ F1 H1 m1 (hE.step s1) _ fun w As2 F2 H2 s2 m2 o2 => ?_⟩
    obtain ⟨l', xs', e, k3, k4⟩ := rd_list m2 (o1.step s2) rd
    cases e; cases o2
    rw [k4.ints_of] at k3
    refine ⟨l, ns.map V.int, .int i, j, .int i, rfl, rfl, SqL.of k3, rfl, flat_of_ints ns, by rw [List.getElem?_map, hj]; rfl, by simp [eqV], fun m z hm hz => ?_, q _ _ _ _ (s1.trans s2) m2 (.int _)⟩
    rw [List.getElem?_map] at hz
    obtain ⟨y, e1, e2⟩ := Option.map_eq_some_iff.mp hz
    subst e2
    have : y ≠ i := fun e => hno m hm (e ▸ e1)
    simp [eqV, this]⟩
theorem ed_countI (h : ED X ρ M o r M1) (ha : ED X ρ M1 a (.d (.int i)) M2) (rd1 : Rds M1 r (.list (ns.map .int))) (rd : Rds M2 r (.list (ns.map .int)))
    (hbase : attributeBase o "count" X.env (eval o X.env) = eval o X.env := by rfl)
    (hfew : ((backTo pos (starEach (a :: []) X.env)).all (fun x => !x.1) && (backToKw pos (keywordEach [] X.env)).all (fun x => x.1.isSome) && decide ((a :: []).length + ([] : List Keyword).length + (if ([] : List Keyword).isEmpty then 0 else 1) < 30)) = true := by rfl)
    (hline : (apos.endLine == pos.line) = true := by rfl) (hs : starEach (a :: []) X.env = (false, eval a X.env) :: starEach [] X.env := by rfl) (hplain : (backTo pos (starEach [] X.env)).any (·.1) = false := by rfl) :
    ED X ρ M (.Call (.Attribute o "count" apos) [a] [] pos) (.d (.int (ns.count i : Nat))) M2 := fun As σ F H hM hE Q q =>
  ⟨_, pe_bm PySem.F.plainAttrs_list PySem.F.slot_list_count PySem.F.type_list_count mt_lcount (pe_w X o) (pa_cons (pe_w X a) pa_nil hs) hbase hfew hline hs hplain, h As σ F H hM hE _ fun v As1 F1 H1 s1 m1 o1 => by
    obtain ⟨l, xs, rfl, k1, k2⟩ := rd_list m1 o1 rd1
    refine ⟨.inl ⟨rfl, _, SqL.of k1⟩, ha As1 σ F1 H1 m1 (hE.step s1) _ fun w As2 F2 H2 s2 m2 o2 => ?_⟩
    obtain ⟨l', xs', e, k3, k4⟩ := rd_list m2 (o1.step s2) rd
    cases e; cases o2
    rw [k4.ints_of] at k3
    exact ⟨l, ns, i, rfl, rfl, SqL.of k3, q _ _ _ _ (s1.trans s2) m2 (.int _)⟩⟩
end
/-! lists of ints -/
def gathI (n : Nat) (f : Nat → Bool) (g : Nat → Int) : List Int := ((List.range n).filter f).map g
theorem gath_int (n : Nat) (f : Nat → Bool) (g : Nat → Int) : gath n f (fun i => .int (g i)) = (gathI n f g).map .int := by simp [gath, gathI]
theorem gathI_true (n : Nat) (g : Nat → Int) : gathI n (fun _ => true) g = (List.range n).map g := by
  unfold gathI; rw [List.filter_eq_self.mpr (fun _ _ => rfl)]
theorem gathI_none {n : Nat} {f : Nat → Bool} {g : Nat → Int} (h : ∀ i, i < n → f i = false) : gathI n f g = [] := by
  unfold gathI
  rw [List.filter_eq_nil_iff.mpr (fun i hi => by rw [h i (List.mem_range.mp hi)]; simp)]; rfl
section
variable {X : Cx} {ρ : REnv} {M M1 M2 : List MO} {tg iter e a b elt : Expr} {ifs : List Expr} {scope : Scope} {p pos : Pos} {n : Nat} {item : Nat → PyData} {r : Slot} {ns : List Int} {i z : Int}
theorem ed_lcI (hN : X.N.Nodup) (own : List (Str × Nat)) (ρt : Nat → REnv) (js : List Nat) (f : Nat → Bool) (g : Nat → Int) (it : ITR X ρ M tg iter n item M1)
    (ht : ∀ i, i < n → ∀ s H C cl fp, TD (Blk X scope s H C cl fp) (wipeR ρ (own.map (·.2))) tg (item i) js (ρt i))
    (hf : ∀ i, i < n → ∀ s H C cl fp, BTs (Blk X scope s H C cl fp) (ρt i) M1 ifs (f i) M1)
    (he : ∀ i, i < n → f i = true → ∀ s H C cl fp, ED (Blk X scope s H C cl fp) (ρt i) M1 elt (.d (.int (g i))) M1) (hn : n ≤ 90000)
    (ok : blkC X.N X.env.scope scope own = true := by first | decide +kernel | (dsimp only [cxOf, PyProof.Rows.envOfC, Cx.blk, PySem.compEnvC]; decide +kernel) | rfl) (hj : ∀ j ∈ js, j ∈ own.map (·.2) := by decide) (hc : X.calm = true := by rfl) (hs : ∀ x, foldedSetIterable iter X.env x = pure x := by intro _; rfl) :
    ED X ρ M (.ListComp elt [⟨tg, iter, ifs, 0⟩] scope pos) (.own M1.length) (M1 ++ [.lst ((gathI n f g).map .int)]) := by
  rw [← gath_int]
  exact ed_lcO hN own ρt js f (fun i => .int (g i)) it ht hf he hn ok hj hc hs
theorem it_ints (h : ED X ρ M e (.d (.list (ns.map .int))) M1) : ITR X ρ M tg e ns.length (fun i => .int (ns.getD i 0)) M1 := by
  have q := it_list (tg := tg) (fun i => .int (ns.getD i 0)) h (fun i d hd => by
    rw [List.getElem?_map] at hd
    obtain ⟨x, h1, h2⟩ := Option.map_eq_some_iff.mp hd
    subst h2
    rw [List.getD_eq_getElem?_getD, h1]; rfl)
  rw [List.length_map] at q; exact q
theorem atI_int (h : atI ns i = some z) : atI (ns.map PyData.int) i = some (.int z) := by
  unfold atI at h ⊢
  rw [List.length_map]
  cases q : ixN ns.length i with
  | none => rw [q] at h; cases h
  | some j =>
    rw [q] at h
    have h : ns[j]? = some z := h
    show (ns.map PyData.int)[j]? = _
    rw [List.getElem?_map, h]; rfl
theorem atI_pos {α : Type} {l : List α} {k : Nat} {z : α} (h : l[k]? = some z) : atI l (k : Int) = some z := by
  have hk := (List.getElem?_eq_some_iff.mp h).1
  unfold atI ixN
  rw [if_pos (by omega), if_pos (by omega)]
  simpa using h
theorem ed_ixI (ha : ED X ρ M a (.d (.list (ns.map .int))) M1) (hb : ED X ρ M1 b (.d (.int i)) M2) (hx : atI ns i = some z) (hs : PlainIx b := by exact fun _ _ => rfl) : ED X ρ M (.Subscript a b pos) (.d (.int z)) M2 := ed_ixL ha hb (atI_int hx) hs
theorem ed_lenI (hm : X.mg "len" = none) (h : ED X ρ M e r M1) (rd : Rds M1 r (.list (ns.map .int))) (hg : Gl X "len" := by rfl) (hs : starEach (e :: []) X.env = (false, eval e X.env) :: starEach [] X.env := by rfl) :
    ED X ρ M (.Call (.Name "len" p) [e] [] pos) (.d (.int ns.length)) M1 := by
  have q := ed_len (p := p) (pos := pos) hg hm h rd hs
  rw [List.length_map] at q; exact q
theorem cd_neB {a b : Bool} : CmpD X .NotEq M (.d (.bool a)) (.d (.bool b)) (!decide (a = b)) := ⟨_, op_ne, fun As F H v1 v2 Q m o1 o2 q => by
  cases o1; cases o2
  exact ⟨rfl, by rw [show decide (V.bl a = V.bl b) = decide (a = b) by simp]; exact q⟩⟩
theorem cd_neBT {a b : Bool} (h : a = b) : CmpD X .NotEq M (.d (.bool a)) (.d (.bool b)) false := by
  have q := cd_neB (X := X) (M := M) (a := a) (b := b)
  rw [decide_eq_true h] at q; exact q
theorem cd_eqBT {a b : Bool} (h : a = b) : CmpD X .Eq M (.d (.bool a)) (.d (.bool b)) true := by
  have q := cd_eqB (X := X) (M := M) (a := a) (b := b)
  rw [decide_eq_true h] at q; exact q
theorem cd_isNK {d : PyData} {k : Bool} (e : isNoneD d = k) : CmpD X .Is M (.d d) (.d .none) k := e ▸ cd_isN
theorem cd_notNK {d : PyData} {k : Bool} (e : (!isNoneD d) = k) : CmpD X .IsNot M (.d d) (.d .none) k := e ▸ cd_notN
theorem cd_inK {k : Bool} (h : Rds M r (.list (ns.map .int))) (e : decide (i ∈ ns) = k) : CmpD X .In M (.d (.int i)) r k := e ▸ cd_in h
theorem cd_notInK {k : Bool} (h : Rds M r (.list (ns.map .int))) (e : (!decide (i ∈ ns)) = k) : CmpD X .NotIn M (.d (.int i)) r k := e ▸ cd_notIn h
theorem cut_to (ds : List PyData) (k : Nat) : cutD ds none (some (k : Int)) = ds.take k := by
  unfold cutD
  rw [HT.sIx_none, HT.sIx_nat, List.drop_zero, Nat.sub_zero]
  rcases Nat.le_total k ds.length with h | h
  · rw [Nat.min_eq_left h]
  · rw [Nat.min_eq_right h, List.take_of_length_le h, List.take_of_length_le (Nat.le_refl _)]
theorem cut_from (ds : List PyData) (k : Nat) : cutD ds (some (k : Int)) none = ds.drop k := by
  unfold cutD
  rw [HT.sIx_none, HT.sIx_nat]
  rcases Nat.le_total k ds.length with h | h
  · rw [Nat.min_eq_left h, List.take_of_length_le (by rw [List.length_drop]; omega)]
  · rw [Nat.min_eq_right h, List.drop_of_length_le (Nat.le_refl _), List.drop_of_length_le h]; simp
theorem ed_takeD {ds : List PyData} {hi : Expr} {p2 : Pos} (k : Nat) (he : ED X ρ M e r M1) (hh : ED X ρ M1 hi (.d (.int i)) M1) (rd : Rds M1 r (.list ds)) (hk : i = (k : Int) := by rfl) : ED X ρ M (.Subscript e (.Slice none (some hi) none p2) pos) (.own M1.length) (M1 ++ [.lst (ds.take k)]) := by
  subst hk; rw [← cut_to]
  exact ed_sliceO he od_none (od_some hh) rd (fun _ _ => trivial)
theorem ed_dropD {ds : List PyData} {lo : Expr} {p2 : Pos} (k : Nat) (he : ED X ρ M e r M1) (hh : ED X ρ M1 lo (.d (.int i)) M1) (rd : Rds M1 r (.list ds)) (hk : i = (k : Int) := by rfl) : ED X ρ M (.Subscript e (.Slice (some lo) none none p2) pos) (.own M1.length) (M1 ++ [.lst (ds.drop k)]) := by
  subst hk; rw [← cut_from]
  exact ed_sliceO he (od_some hh) od_none rd (fun _ _ => trivial)
theorem ed_takeI {hi : Expr} {p2 : Pos} (k : Nat) (he : ED X ρ M e r M1) (hh : ED X ρ M1 hi (.d (.int i)) M1) (rd : Rds M1 r (.list (ns.map .int))) (hk : i = (k : Int) := by rfl) : ED X ρ M (.Subscript e (.Slice none (some hi) none p2) pos) (.own M1.length) (M1 ++ [.lst ((ns.take k).map .int)]) := by
  rw [List.map_take]; exact ed_takeD k he hh rd hk
theorem ed_dropI {lo : Expr} {p2 : Pos} (k : Nat) (he : ED X ρ M e r M1) (hh : ED X ρ M1 lo (.d (.int i)) M1) (rd : Rds M1 r (.list (ns.map .int))) (hk : i = (k : Int) := by rfl) : ED X ρ M (.Subscript e (.Slice (some lo) none none p2) pos) (.own M1.length) (M1 ++ [.lst ((ns.drop k).map .int)]) := by
  rw [List.map_drop]; exact ed_dropD k he hh rd hk
theorem it_rangeN (k : Nat) (hm : X.mg "range" = none) (h : ED X ρ M e (.d (.int (k : Nat))) M1) (hk : k ≤ 1000000) (hg : Gl X "range" := by rfl) (hs : starEach [e] X.env = [(false, eval e X.env)] := by rfl) : ITR X ρ M tg (.Call (.Name "range" p) [e] [] pos) k (fun i => .int (i : Int)) M1 :=
  it_range1 hg hm h (by omega) hs
theorem sd_relSet {E : XK} {st : Stmt} {i0 : Nat} {ds : List PyData} (h : S1 X E ρ M st (.nx (ρ.set i0 (some (.own M.length))) (M ++ [.lst ds]))) : S1 X E ρ M st (.nx (ρ.set i0 (some (.d (.list ds)))) M) := fun As σ F H hM hE D q =>
  h As σ F H hM hE D fun As1 σ1 F1 H1 s1 m1 e1 => by
    obtain ⟨more, ea, n1⟩ := s1.grow
    have l1 := m1.len
    rw [ea, List.length_append, List.length_append, hM.len] at l1
    obtain ⟨p, rfl⟩ : ∃ p, more = [p] := List.length_eq_one_iff.mp (by simpa using l1)
    subst ea
    obtain ⟨F', fe, fo, m2, dv⟩ := relLast m1 hM.len
    have hp : H p = none := n1 p (by simp)
    refine q As σ1 F' H1 ⟨s1.fe.trans fe, s1.keep, s1.ne, fun x hx hf hh => ?_, [], by simp, by simp⟩ m2 ⟨by rw [e1.len, List.length_set, List.length_set], fun i r e => ?_⟩
    · rw [fo x (fun z => hh (by rw [z]; exact hp))]
      exact s1.cap x hx hf hh
    · by_cases hi : i = i0
      · subst hi
        have lt : i < ρ.length := by
          rw [List.getElem?_set] at e
          split at e
          · split at e
            · assumption
            · cases e
          · contradiction
        rw [List.getElem?_set_self lt] at e
        injection e with e; injection e with e; subst e
        obtain ⟨v, h1, a, h2, rfl⟩ := e1.env i (.own M.length) (List.getElem?_set_self lt)
        rw [← hM.len] at h2
        simp at h2; subst h2
        exact ⟨_, h1, dv⟩
      · rw [List.getElem?_set_ne (Ne.symm hi)] at e
        obtain ⟨v, h1, h2⟩ := e1.env i r (by rw [List.getElem?_set_ne (Ne.symm hi)]; exact e)
        refine ⟨v, h1, ?_⟩
        cases r with
        | d x => exact Dv.mono fe h2
        | own j =>
          obtain ⟨a, h3, h4⟩ := h2
          obtain ⟨_, _, b, hb, _⟩ := hE.env i (.own j) e
          have lt := (List.getElem?_eq_some_iff.mp hb).1
          rw [List.getElem?_append_left lt] at h3
          exact ⟨a, h3, h4⟩
        | exc D =>
          obtain ⟨a, h3, h4⟩ := h2
          exact ⟨a, h3, fe _ _ h4⟩
theorem sd_setLcD {E : XK} (hN : X.N.Nodup) (own : List (Str × Nat)) (ρt : Nat → REnv) (js : List Nat) (f : Nat → Bool) (g : Nat → PyData) {i0 : Nat} {y : Str} {py spos : Pos} (it : ITR X ρ M tg iter n item M)
    (ht : ∀ i, i < n → ∀ s H C cl fp, TD (Blk X scope s H C cl fp) (wipeR ρ (own.map (·.2))) tg (item i) js (ρt i))
    (hf : ∀ i, i < n → ∀ s H C cl fp, BTs (Blk X scope s H C cl fp) (ρt i) M ifs (f i) M)
    (he : ∀ i, i < n → f i = true → ∀ s H C cl fp, ED (Blk X scope s H C cl fp) (ρt i) M elt (.d (g i)) M) (hn : n ≤ 90000)
    (hsw : swapsWith (.ListComp elt [⟨tg, iter, ifs, 0⟩] scope pos) (some (.Name y py)) spos.line X.env = pure true := by rfl)
    (ok : blkC X.N X.env.scope scope own = true := by first | decide +kernel | (dsimp only [cxOf, PyProof.Rows.envOfC, Cx.blk, PySem.compEnvC]; decide +kernel) | rfl) (hj : ∀ j ∈ js, j ∈ own.map (·.2) := by decide) (hc : X.calm = true := by rfl) (hs : ∀ x, foldedSetIterable iter X.env x = pure x := by intro _; rfl) (hy : X.N[i0]? = some y := by rfl) (hyl : X.env.scope.names.lookup y = some .local := by rfl) :
    S1 X E ρ M (.Assign [.Name y py] (.ListComp elt [⟨tg, iter, ifs, 0⟩] scope pos) spos) (.nx (ρ.set i0 (some (.d (.list (gath n f g))))) M) :=
  sd_relSet (sd_setLc hN own ρt js f g it ht hf he hn hsw ok hj hc hs hy hyl)
theorem sd_setLcI {E : XK} (hN : X.N.Nodup) (own : List (Str × Nat)) (ρt : Nat → REnv) (js : List Nat) (f : Nat → Bool) (g : Nat → Int) {i0 : Nat} {y : Str} {py spos : Pos} (it : ITR X ρ M tg iter n item M)
    (ht : ∀ i, i < n → ∀ s H C cl fp, TD (Blk X scope s H C cl fp) (wipeR ρ (own.map (·.2))) tg (item i) js (ρt i))
    (hf : ∀ i, i < n → ∀ s H C cl fp, BTs (Blk X scope s H C cl fp) (ρt i) M ifs (f i) M)
    (he : ∀ i, i < n → f i = true → ∀ s H C cl fp, ED (Blk X scope s H C cl fp) (ρt i) M elt (.d (.int (g i))) M) (hn : n ≤ 90000)
    (hsw : swapsWith (.ListComp elt [⟨tg, iter, ifs, 0⟩] scope pos) (some (.Name y py)) spos.line X.env = pure true := by rfl)
    (ok : blkC X.N X.env.scope scope own = true := by first | decide +kernel | (dsimp only [cxOf, PyProof.Rows.envOfC, Cx.blk, PySem.compEnvC]; decide +kernel) | rfl) (hj : ∀ j ∈ js, j ∈ own.map (·.2) := by decide) (hc : X.calm = true := by rfl) (hs : ∀ x, foldedSetIterable iter X.env x = pure x := by intro _; rfl) (hy : X.N[i0]? = some y := by rfl) (hyl : X.env.scope.names.lookup y = some .local := by rfl) :
    S1 X E ρ M (.Assign [.Name y py] (.ListComp elt [⟨tg, iter, ifs, 0⟩] scope pos) spos) (.nx (ρ.set i0 (some (.d (.list ((gathI n f g).map .int))))) M) := by
  rw [← gath_int]
  exact sd_setLcD hN own ρt js f (fun i => .int (g i)) it ht hf he hn hsw ok hj hc hs hy hyl
end
end WC

/-! meetings, tips: what is promised, and what it comes to -/
namespace WC
open PySem L2
def intsI (l : List Nat) : List Int := l.map fun (x : Nat) => (x : Int)
def intsD (l : List Nat) : List PyData := (intsI l).map .int
theorem intsI_len (l : List Nat) : (intsI l).length = l.length := by simp [intsI]
theorem intsD_len (l : List Nat) : (intsD l).length = l.length := by simp [intsD, intsI]
theorem mem_intsI {l : List Nat} {x : Nat} : (x : Int) ∈ intsI l ↔ x ∈ l := by
  unfold intsI; rw [List.mem_map]
  constructor
  · rintro ⟨y, h, e⟩
    have : y = x := by omega
    exact this ▸ h
  · exact fun h => ⟨x, h, rfl⟩
theorem intsI_get {l : List Nat} {i x : Nat} (h : l[i]? = some x) : (intsI l)[i]? = some (x : Int) := by
  unfold intsI; rw [List.getElem?_map, h]; rfl
theorem intsI_getD {l : List Nat} {i x : Nat} (h : l[i]? = some x) : (intsI l).getD i 0 = (x : Int) := by
  rw [List.getD_eq_getElem?_getD, intsI_get h]; rfl
theorem gd_ints (l : List Nat) : Gd 1 (.list (intsD l)) := Gd.ints _
theorem nb_intsD (l : List Nat) : nbD (.list (intsD l)) = true := nb_ints _
/-- the first step at which tooth and own meet -/
def metO (N n st tooth own : Nat) : Option Nat := ((List.range N).find? fun k => decide ((((k * n : Nat) : Int) - ((tooth : Int) - st - own)) % (N : Int) = 0)).map fun k => own + k * n
def mbN (N n st tooth own step : Nat) : Nat := match metO N n st tooth own with
  | none => 0
  | some f => if step < f then 0 else (step - f) / lenN N n + 1
def partL (N n st tooth : Nat) : List Nat := (List.range n).filter fun (own : Nat) => decide (((tooth : Int) - st - own) % (Nat.gcd N n : Int) = 0)
def tipsN (N n st m : Nat) : List Nat := (List.range m).map fun k => (st + k * n) % N
def optI : Option Nat → Res
  | none => .val .none
  | some k => vI k
def Sig_meeting_of : List PyData → Res → Prop := fun ds r => ∃ N n s st tooth own, 0 < N ∧ N ≤ 1000 ∧ 0 < n ∧ n ≤ 1000 ∧ tooth < N ∧ ds = [gD N n s, .int (st : Nat), .int (tooth : Nat), .int (own : Nat)] ∧ r = optI (metO N n st tooth own)
def Sig_meeting (c : Cl) : List PyData → Res → Prop := fun ds r => ∃ N n s st tooth own, GOk N n s ∧ st < N ∧ tooth < N ∧ own < n ∧ ds = [gD N n s, .int (st : Nat), .int (tooth : Nat), .int (own : Nat)] ∧ ((∃ k, metO N n st tooth own = some k ∧ r = vI k) ∨ (metO N n st tooth own = none ∧ r = .err (.ref c.non)))
def Sig_meetings_by : List PyData → Res → Prop := fun ds r => ∃ N n s st tooth own step, GOk N n s ∧ st < N ∧ tooth < N ∧ own < n ∧ step ≤ 1000000 ∧ ds = [gD N n s, .int (st : Nat), .int (tooth : Nat), .int (own : Nat), .int (step : Nat)] ∧ r = vI (mbN N n st tooth own step)
def Sig_partners : List PyData → Res → Prop := fun ds r => ∃ N n s st tooth, GOk N n s ∧ st < N ∧ tooth < N ∧ ds = [gD N n s, .int (st : Nat), .int (tooth : Nat)] ∧ r = .new (intsD (partL N n st tooth))
def Sig_tips_of : List PyData → Res → Prop := fun ds r => ∃ N n s st m, 0 < N ∧ N ≤ 1000 ∧ 0 < n ∧ n ≤ 1000 ∧ m ≤ 80000 ∧ ds = [gD N n s, .int (st : Nat), .int (m : Nat)] ∧ r = .new (intsD (tipsN N n st m))
/-- defs that take a gear and a tooth -/
def SigS (f : Nat → Nat → Str → Nat → Res) : List PyData → Res → Prop := fun ds r => ∃ N n s st, GOk N n s ∧ st < N ∧ ds = [gD N n s, .int (st : Nat)] ∧ r = f N n s st
def Sig_number_of (c : Cl) : List PyData → Res → Prop := fun ds r => ∃ N n s st t, GOk N n s ∧ st < N ∧ t < N ∧ ds = [gD N n s, .int (st : Nat), .int (t : Nat)] ∧ ((t ∈ tipsN N n st (petN N n) ∧ r = vI ((tipsN N n st (petN N n)).idxOf t : Nat)) ∨ (t ∉ tipsN N n st (petN N n) ∧ r = .err (.ref c.non)))
def Sig_law_meet : List PyData → Res → Prop := fun ds r => ∃ N n s st tooth own, GOk N n s ∧ st < N ∧ tooth < N ∧ own < n ∧ ds = [gD N n s, .int (st : Nat), .int (tooth : Nat), .int (own : Nat)] ∧ r = (match metO N n st tooth own with | none => .val (.str "none") | some k => vI k)
def SigST (f : Nat → Nat → Str → Nat → Nat → Res → Prop) : List PyData → Res → Prop := fun ds r => ∃ N n s st t, GOk N n s ∧ st < N ∧ t < N ∧ ds = [gD N n s, .int (st : Nat), .int (t : Nat)] ∧ f N n s st t r
end WC

/-! tips and meetings: plain mathematics -/
namespace WC
open PySem L2
section
variable {N n : Nat}
theorem pet_rnd_cop (hN : 0 < N) : (petN N n).Coprime (rndN N n) := Nat.coprime_div_gcd_div_gcd (gcd_le hN).1
theorem mod_of_dvd_sub {a b L : Nat} (h : a ≤ b) (e : a % L = b % L) : L ∣ b - a := Nat.dvd_of_mod_eq_zero (Nat.sub_mod_eq_zero_of_mod_eq e.symm)
/-- N divides k * n only where the tips come round -/
theorem pet_dvd (hN : 0 < N) {k : Nat} (h : N ∣ k * n) : petN N n ∣ k := by
  have e1 := pet_mul (n := n) hN
  have e2 := rnd_mul (n := n) hN
  have hg := (gcd_le (n := n) hN).1
  have h2 : petN N n * Nat.gcd N n ∣ (k * rndN N n) * Nat.gcd N n := by rw [e1, Nat.mul_assoc, e2]; exact h
  exact (pet_rnd_cop (n := n) hN).dvd_of_dvd_mul_right (Nat.dvd_of_mul_dvd_mul_right hg h2)
theorem tip_inj (hN : 0 < N) {x i j : Nat} (hi : i < petN N n) (hj : j < petN N n) (h : (x + i * n) % N = (x + j * n) % N) : i = j := by
  have main : ∀ i j : Nat, i < j → j < petN N n → (x + i * n) % N = (x + j * n) % N → False := fun i j hij hj h => by
    have d := mod_of_dvd_sub (Nat.add_le_add_left (Nat.mul_le_mul_right n (Nat.le_of_lt hij)) x) h
    rw [show x + j * n - (x + i * n) = (j - i) * n by rw [Nat.sub_mul]; omega] at d
    have := Nat.le_of_dvd (by omega) (pet_dvd hN d)
    omega
  rcases Nat.lt_trichotomy i j with c | c | c
  · exact (main i j c hj h).elim
  · exact c
  · exact (main j i c hi h.symm).elim
theorem tips_len (N n st m : Nat) : (tipsN N n st m).length = m := by simp [tipsN]
theorem tips_get {N n st m k : Nat} (h : k < m) : (tipsN N n st m)[k]? = some ((st + k * n) % N) := by
  unfold tipsN; rw [List.getElem?_map, List.getElem?_range h]; rfl
theorem nodup_map_of {α β : Type} {f : α → β} {l : List α} (h : l.Nodup) (inj : ∀ a ∈ l, ∀ b ∈ l, f a = f b → a = b) : (l.map f).Nodup := by
  unfold List.Nodup at *
  rw [List.pairwise_map]
  exact h.imp_of_mem fun ha hb hne e => hne (inj _ ha _ hb e)
theorem tips_nodup (hN : 0 < N) (st : Nat) {m : Nat} (hm : m ≤ petN N n) : (tipsN N n st m).Nodup :=
  nodup_map_of List.nodup_range fun a ha b hb e => tip_inj hN (Nat.lt_of_lt_of_le (List.mem_range.mp ha) hm) (Nat.lt_of_lt_of_le (List.mem_range.mp hb) hm) e
theorem tip_lt (hN : 0 < N) {st m t : Nat} (h : t ∈ tipsN N n st m) : t < N := by
  obtain ⟨k, _, rfl⟩ := List.mem_map.mp h
  exact Nat.mod_lt _ hN
theorem tip_mod (hN : 0 < N) (x k : Nat) : ((x + k * n) % N) % Nat.gcd N n = x % Nat.gcd N n := by
  rw [Nat.mod_mod_of_dvd _ (Nat.gcd_dvd_left N n), Nat.add_mod, Nat.mod_eq_zero_of_dvd (Nat.dvd_trans (Nat.gcd_dvd_right N n) (Nat.dvd_mul_left n k)), Nat.add_zero, Nat.mod_mod]
/-- the teeth that lie as x does, by the greatest common divisor -/
def likeL (N g r : Nat) : List Nat := (List.range (N / g)).map fun j => r + j * g
theorem like_len (N g r : Nat) : (likeL N g r).length = N / g := by simp [likeL]
theorem like_nodup {g : Nat} (hg : 0 < g) (N r : Nat) : (likeL N g r).Nodup := nodup_map_of List.nodup_range fun a _ b _ e => Nat.eq_of_mul_eq_mul_right hg (by omega)
theorem mem_like {N g r t : Nat} (hg : 0 < g) (hd : g ∣ N) (hr : r < g) : t ∈ likeL N g r ↔ t < N ∧ t % g = r := by
  have eN : N / g * g = N := Nat.div_mul_cancel hd
  constructor
  · intro h
    obtain ⟨j, hj, rfl⟩ := List.mem_map.mp h
    have hj := List.mem_range.mp hj
    have : (j + 1) * g ≤ N / g * g := Nat.mul_le_mul_right g hj
    rw [eN, Nat.add_mul] at this
    exact ⟨by omega, by rw [Nat.add_mul_mod_self_right, Nat.mod_eq_of_lt hr]⟩
  · rintro ⟨h1, h2⟩
    have e := Nat.div_add_mod t g
    refine List.mem_map.mpr ⟨t / g, List.mem_range.mpr ?_, by rw [Nat.mul_comm]; omega⟩
    exact Nat.div_lt_of_lt_mul (by rw [Nat.mul_comm, eN]; exact h1)
theorem tips_mem (hN : 0 < N) {x t : Nat} (ht : t < N) : t ∈ tipsN N n x (petN N n) ↔ t % Nat.gcd N n = x % Nat.gcd N n := by
  have hg := (gcd_le (n := n) hN).1
  constructor
  · intro h
    obtain ⟨k, _, rfl⟩ := List.mem_map.mp h
    exact tip_mod hN x k
  · intro h
    have hr : x % Nat.gcd N n < Nat.gcd N n := Nat.mod_lt _ hg
    have sub : tipsN N n x (petN N n) ⊆ likeL N (Nat.gcd N n) (x % Nat.gcd N n) := fun y hy => by
      refine (mem_like hg (Nat.gcd_dvd_left N n) hr).mpr ⟨tip_lt hN hy, ?_⟩
      obtain ⟨k, _, rfl⟩ := List.mem_map.mp hy
      exact tip_mod hN x k
    have mem : t ∈ likeL N (Nat.gcd N n) (x % Nat.gcd N n) := (mem_like hg (Nat.gcd_dvd_left N n) hr).mpr ⟨ht, h⟩
    refine Classical.byContradiction fun no => ?_
    have q : (tipsN N n x (petN N n)) ⊆ (likeL N (Nat.gcd N n) (x % Nat.gcd N n)).erase t := fun y hy => (List.mem_erase_of_ne (fun (e : y = t) => no (e ▸ hy))).mpr (sub hy)
    have l1 := (tips_nodup (n := n) hN x (Nat.le_refl _)).length_le_of_subset q
    rw [tips_len, List.length_erase_of_mem mem, like_len] at l1
    have := pet_pos (n := n) hN
    unfold petN at l1 this
    omega
theorem int_mod_iff (hN : 0 < N) {x t : Nat} (ht : t < N) (d : Int) (e : d = (x : Int) - t) : d % (N : Int) = 0 ↔ x % N = t := by
  rw [e, ← Int.emod_eq_emod_iff_emod_sub_eq_zero]
  constructor
  · intro h
    have : ((x % N : Nat) : Int) = ((t % N : Nat) : Int) := by rw [Int.natCast_emod, Int.natCast_emod]; exact h
    rw [Nat.mod_eq_of_lt ht] at this; omega
  · intro h
    have h2 : x % N = t % N := by rw [h, Nat.mod_eq_of_lt ht]
    rw [← Int.natCast_emod, ← Int.natCast_emod, h2]
theorem int_mod_gcd {g x t : Nat} (d : Int) (e : d = (t : Int) - x) : d % (g : Int) = 0 ↔ t % g = x % g := by
  rw [e, ← Int.emod_eq_emod_iff_emod_sub_eq_zero]
  constructor
  · intro h
    have : ((t % g : Nat) : Int) = ((x % g : Nat) : Int) := by rw [Int.natCast_emod, Int.natCast_emod]; exact h
    omega
  · intro h
    rw [← Int.natCast_emod, ← Int.natCast_emod, h]
variable {st tooth own : Nat}
theorem met_iff (hN : 0 < N) (ht : tooth < N) {t : Nat} : metO N n st tooth own = some t ↔ ∃ k, k < N ∧ t = own + k * n ∧ (st + own + k * n) % N = tooth ∧ ∀ j, j < k → (st + own + j * n) % N ≠ tooth := by
  have key : ∀ k : Nat, decide ((((k * n : Nat) : Int) - ((tooth : Int) - st - own)) % (N : Int) = 0) = true ↔ (st + own + k * n) % N = tooth := fun k => by
    rw [decide_eq_true_iff]
    exact int_mod_iff hN ht _ (by simp only [Int.natCast_add]; omega)
  unfold metO
  rw [Option.map_eq_some_iff]
  constructor
  · rintro ⟨k, h1, h2⟩
    obtain ⟨a, b, c⟩ := List.find?_range_eq_some.mp h1
    refine ⟨k, List.mem_range.mp b, h2.symm, (key k).mp a, fun j hj e => ?_⟩
    have := c j hj
    rw [(key j).mpr e] at this
    cases this
  · rintro ⟨k, a, b, c, d⟩
    refine ⟨k, List.find?_range_eq_some.mpr ⟨(key k).mpr c, List.mem_range.mpr a, fun j hj => ?_⟩, b.symm⟩
    cases q : decide ((((j * n : Nat) : Int) - ((tooth : Int) - st - own)) % (N : Int) = 0) with
    | false => rfl
    | true => exact absurd ((key j).mp q) (d j hj)
theorem met_none (hN : 0 < N) (ht : tooth < N) : metO N n st tooth own = none ↔ ∀ k, k < N → (st + own + k * n) % N ≠ tooth := by
  unfold metO
  rw [Option.map_eq_none_iff, List.find?_range_eq_none]
  refine forall_congr' fun k => forall_congr' fun hk => ?_
  rw [Bool.not_eq_true', decide_eq_false_iff_not, int_mod_iff hN ht (x := st + own + k * n) _ (by simp only [Int.natCast_add]; omega)]
theorem round_tip (hN : 0 < N) (x k : Nat) : (x + (k + petN N n) * n) % N = (x + k * n) % N := by
  rw [Nat.add_mul, ← len_pet hN, len_rnd hN, ← Nat.add_assoc, Nat.add_mul_mod_self_right]
theorem mod_tip (hN : 0 < N) (x k : Nat) : (x + (k % petN N n) * n) % N = (x + k * n) % N := by
  have e := Nat.div_add_mod k (petN N n)
  have h2 : k * n = (k % petN N n) * n + (k / petN N n) * rndN N n * N := by
    rw [Nat.mul_assoc, ← len_rnd hN, len_pet hN, ← Nat.mul_assoc, ← Nat.add_mul, Nat.mul_comm (k / petN N n)]
    congr 1; omega
  rw [h2, ← Nat.add_assoc, Nat.add_mul_mod_self_right]
theorem met_none_iff (hN : 0 < N) (ht : tooth < N) : metO N n st tooth own = none ↔ tooth % Nat.gcd N n ≠ (st + own) % Nat.gcd N n := by
  rw [met_none hN ht, Ne, ← tips_mem (n := n) hN ht]
  constructor
  · intro h m
    obtain ⟨k, hk, e⟩ := List.mem_map.mp m
    exact h k (Nat.lt_of_lt_of_le (List.mem_range.mp hk) pet_le) e
  · intro h k hk e
    refine h (List.mem_map.mpr ⟨k % petN N n, List.mem_range.mpr (Nat.mod_lt _ (pet_pos hN)), ?_⟩)
    rw [mod_tip hN]; exact e
/-- what the first meeting is -/
theorem met_spec (hN : 0 < N) (hn : 0 < n) (ht : tooth < N) (ho : own < n) {t : Nat} (h : metO N n st tooth own = some t) :
    (st + t) % N = tooth ∧ t % n = own ∧ t < lenN N n ∧ ∀ u, (st + u) % N = tooth ∧ u % n = own ↔ u % lenN N n = t := by
  obtain ⟨k, hk, rfl, e, first⟩ := (met_iff hN ht).mp h
  have hp := pet_pos (n := n) hN
  have kp : k < petN N n := Nat.lt_of_not_le fun c => first (k - petN N n) (by omega) (by
    rw [← round_tip hN, Nat.sub_add_cancel c]; exact e)
  have e1 : (st + (own + k * n)) % N = tooth := by rw [← Nat.add_assoc]; exact e
  have e2 : (own + k * n) % n = own := by rw [Nat.add_mul_mod_self_right, Nat.mod_eq_of_lt ho]
  have lt : own + k * n < lenN N n := by
    rw [len_pet hN]
    have : (k + 1) * n ≤ petN N n * n := Nat.mul_le_mul_right n kp
    rw [Nat.add_mul] at this; omega
  have hlp := lenN_pos hN hn
  have dN : N ∣ lenN N n := Nat.dvd_lcm_left N n
  have dn : n ∣ lenN N n := Nat.dvd_lcm_right N n
  have modN : ∀ u, (st + u % lenN N n) % N = (st + u) % N := fun u => by
    rw [Nat.add_mod, Nat.mod_mod_of_dvd _ dN, ← Nat.add_mod]
  have modn : ∀ u, (u % lenN N n) % n = u % n := fun u => Nat.mod_mod_of_dvd _ dn
  refine ⟨e1, e2, lt, fun u => ⟨fun ⟨a, b⟩ => ?_, fun hu => ?_⟩⟩
  · have a' := modN u
    have b' := modn u
    rw [a] at a'; rw [b] at b'
    generalize hv : u % lenN N n = v at a' b'
    have vlt : v < lenN N n := by rw [← hv]; exact Nat.mod_lt _ hlp
    have ev : v = own + v / n * n := by
      have := Nat.div_add_mod v n
      rw [Nat.mul_comm] at this; omega
    have dv : ∀ a b : Nat, a ≤ b → b < lenN N n → (st + a) % N = (st + b) % N → a % n = b % n → a = b := fun a b hab hb h1 h2 => by
      have q1 := mod_of_dvd_sub (Nat.add_le_add_left hab st) h1
      rw [show st + b - (st + a) = b - a by omega] at q1
      have q2 := mod_of_dvd_sub hab h2
      have q3 : lenN N n ∣ b - a := Nat.lcm_dvd q1 q2
      rcases Nat.eq_zero_or_pos (b - a) with z | z
      · omega
      · have := Nat.le_of_dvd z q3; omega
    rcases Nat.le_total v (own + k * n) with c | c
    · exact dv v _ c lt (by rw [a', e1]) (by rw [b', e2])
    · exact (dv _ v c vlt (by rw [a', e1]) (by rw [b', e2])).symm
  · have a' := modN u
    have b' := modn u
    rw [hu, e1] at a'; rw [hu, e2] at b'
    exact ⟨a'.symm, b'.symm⟩
theorem met_no (hN : 0 < N) (hn : 0 < n) (ht : tooth < N) (h : metO N n st tooth own = none) (u : Nat) : ¬ ((st + u) % N = tooth ∧ u % n = own) := by
  rintro ⟨a, b⟩
  have eu : u = own + u / n * n := by
    have := Nat.div_add_mod u n
    rw [Nat.mul_comm] at this; omega
  refine (met_none hN ht).mp h ((u / n) % petN N n) (Nat.lt_of_lt_of_le (Nat.mod_lt _ (pet_pos hN)) pet_le) ?_
  rw [mod_tip hN, Nat.add_assoc, ← eu]; exact a
end
/-! counting -/
def cntF (m : Nat) (f : Nat → Bool) : Nat := ((List.range m).filter f).length
theorem cntF_succ (m : Nat) (f : Nat → Bool) : cntF (m + 1) f = cntF m f + if f m then 1 else 0 := by
  unfold cntF
  rw [List.range_succ, List.filter_append, List.length_append]
  congr 1
  by_cases h : f m <;> simp [h]
theorem cntF_congr {m : Nat} {f g : Nat → Bool} (h : ∀ i, i < m → f i = g i) : cntF m f = cntF m g := by
  induction m with
  | zero => rfl
  | succ m ih => rw [cntF_succ, cntF_succ, ih (fun i hi => h i (by omega)), h m (by omega)]
theorem cntF_none {m : Nat} {f : Nat → Bool} (h : ∀ i, i < m → f i = false) : cntF m f = 0 := by
  induction m with
  | zero => rfl
  | succ m ih => rw [cntF_succ, ih (fun i hi => h i (by omega)), h m (by omega)]; rfl
/-- how many below m leave r -/
theorem cntF_mod {L r : Nat} (hr : r < L) : ∀ m, cntF m (fun i => decide (i % L = r)) = (m + (L - 1 - r)) / L
  | 0 => by
    rw [show cntF 0 (fun i => decide (i % L = r)) = 0 from rfl, Nat.zero_add, Nat.div_eq_of_lt (by omega)]
  | m + 1 => by
    rw [cntF_succ, cntF_mod hr m, show m + 1 + (L - 1 - r) = (m + (L - 1 - r)) + 1 by omega, Nat.succ_div]
    congr 1
    have e : (L ∣ m + (L - 1 - r) + 1) ↔ m % L = r := by
      rw [show m + (L - 1 - r) + 1 = m + (L - r) by omega, Nat.dvd_iff_mod_eq_zero]
      have hm := Nat.mod_lt m (show 0 < L by omega)
      rw [Nat.add_mod]
      constructor
      · intro h
        rcases Nat.eq_zero_or_pos r with z | z
        · subst z
          rw [Nat.sub_zero, Nat.mod_self, Nat.add_zero, Nat.mod_mod] at h; exact h
        · rw [Nat.mod_eq_of_lt (show L - r < L by omega)] at h
          rcases Nat.lt_or_ge (m % L + (L - r)) L with c | c
          · rw [Nat.mod_eq_of_lt c] at h; omega
          · rw [Nat.mod_eq_sub_mod c, Nat.mod_eq_of_lt (by omega)] at h; omega
      · intro h
        rcases Nat.eq_zero_or_pos r with z | z
        · subst z
          rw [h, Nat.sub_zero, Nat.mod_self]; rfl
        · rw [Nat.mod_eq_of_lt (show L - r < L by omega), h, show r + (L - r) = L by omega, Nat.mod_self]
    by_cases c : m % L = r
    · rw [if_pos (decide_eq_true c), if_pos (e.mpr c)]
    · rw [if_neg (by simp [c]), if_neg (fun z => c (e.mp z))]
theorem cnt_due {L r : Nat} (hr : r < L) (step : Nat) : (step + 1 + (L - 1 - r)) / L = if step < r then 0 else (step - r) / L + 1 := by
  split
  · next h => exact Nat.div_eq_of_lt (by omega)
  · next h =>
    rw [show step + 1 + (L - 1 - r) = (step - r) + L by omega, Nat.add_div_right _ (by omega)]
theorem mb_count {N n st tooth own : Nat} (hN : 0 < N) (hn : 0 < n) (ht : tooth < N) (ho : own < n) (step : Nat) : mbN N n st tooth own step = cntF (step + 1) (fun u => decide ((st + u) % N = tooth) && decide (u % n = own)) := by
  unfold mbN
  cases h : metO N n st tooth own with
  | none =>
    refine (cntF_none fun u _ => ?_).symm
    have := met_no hN hn ht h u
    rw [← Bool.decide_and]; exact decide_eq_false this
  | some f =>
    obtain ⟨_, _, lt, all⟩ := met_spec hN hn ht ho h
    have e : cntF (step + 1) (fun u => decide ((st + u) % N = tooth) && decide (u % n = own)) = cntF (step + 1) (fun u => decide (u % lenN N n = f)) := cntF_congr fun u _ => by
      rw [← Bool.decide_and]; exact decide_eq_decide.mpr (all u)
    rw [e, cntF_mod lt, cnt_due lt]
theorem sum_succ (n : Nat) (h : Nat → Nat) : ((List.range (n + 1)).map h).sum = ((List.range n).map h).sum + h n := by
  rw [List.range_succ, List.map_append, List.sum_append]; simp
theorem sum_add (n : Nat) (f g : Nat → Nat) : ((List.range n).map fun i => f i + g i).sum = ((List.range n).map f).sum + ((List.range n).map g).sum := by
  induction n with
  | zero => rfl
  | succ n ih => rw [sum_succ, sum_succ, sum_succ, ih]; omega
theorem sum_congr {n : Nat} {f g : Nat → Nat} (h : ∀ i, i < n → f i = g i) : ((List.range n).map f).sum = ((List.range n).map g).sum := by
  induction n with
  | zero => rfl
  | succ n ih => rw [sum_succ, sum_succ, ih (fun i hi => h i (by omega)), h n (by omega)]
theorem sum_zero (n : Nat) : ((List.range n).map fun _ => 0).sum = 0 := by
  induction n with
  | zero => rfl
  | succ n ih => rw [sum_succ, ih]
theorem sum_one {r : Nat} (b : Bool) : ∀ {K : Nat}, ((List.range K).map fun o => if (b && decide (r = o)) = true then 1 else 0).sum = if b = true ∧ r < K then 1 else 0
  | 0 => by simp
  | K + 1 => by
    rw [sum_succ, sum_one b]
    cases b with
    | false => simp
    | true =>
      by_cases c : r = K
      · subst c; simp
      · have : (r < K + 1) ↔ (r < K) := by omega
        simp [c, this]
/-- each is counted once -/
theorem sum_fib {f : Nat → Nat} {P : Nat → Bool} {K : Nat} : ∀ {m : Nat}, (∀ u, u < m → f u < K) → ((List.range K).map fun o => cntF m (fun u => P u && decide (f u = o))).sum = cntF m P
  | 0, _ => sum_zero K
  | m + 1, hf => by
    have e : ∀ o, o < K → cntF (m + 1) (fun u => P u && decide (f u = o)) = cntF m (fun u => P u && decide (f u = o)) + (if (P m && decide (f m = o)) = true then 1 else 0) := fun o _ => cntF_succ m _
    rw [sum_congr e, sum_add, sum_fib (m := m) (fun u hu => hf u (by omega)), sum_one, cntF_succ]
    congr 1
    have := hf m (by omega)
    by_cases c : P m = true <;> simp [c, this]
theorem sum_int (n : Nat) (h : Nat → Nat) : ((List.range n).map fun i => ((h i : Nat) : Int)).sum = ((((List.range n).map h).sum : Nat) : Int) := by
  induction n with
  | zero => rfl
  | succ n ih =>
    rw [sum_succ, List.range_succ, List.map_append, List.sum_append, ih, Int.natCast_add]; simp
/-! lists that rise -/
theorem ascN_uniq : ∀ {l m : List Nat}, l.Pairwise (· < ·) → m.Pairwise (· < ·) → (∀ k, k ∈ l ↔ k ∈ m) → l = m
  | [], [], _, _, _ => rfl
  | [], y :: m, _, _, h => absurd ((h y).mpr (by simp)) (by simp)
  | x :: l, [], _, _, h => absurd ((h x).mp (by simp)) (by simp)
  | x :: l, y :: m, hl, hm, h => by
    obtain ⟨a1, a2⟩ := List.pairwise_cons.mp hl
    obtain ⟨b1, b2⟩ := List.pairwise_cons.mp hm
    have e : x = y := by
      have p := (h x).mp (by simp)
      have q := (h y).mpr (by simp)
      rcases List.mem_cons.mp p with p | p
      · exact p
      · rcases List.mem_cons.mp q with q | q
        · exact q.symm
        · have := a1 y q; have := b1 x p; omega
    subst e
    rw [ascN_uniq a2 b2 fun k => ?_]
    have p := h k
    simp only [List.mem_cons] at p
    constructor
    · intro z
      rcases p.mp (.inr z) with q | q
      · subst q; exact absurd (a1 k z) (by omega)
      · exact q
    · intro z
      rcases p.mpr (.inr z) with q | q
      · subst q; exact absurd (b1 k z) (by omega)
      · exact q
theorem asc_range (n : Nat) : (List.range n).Pairwise (· < ·) := List.pairwise_lt_range
theorem asc_like {g : Nat} (hg : 0 < g) (N r : Nat) : (likeL N g r).Pairwise (· < ·) := by
  unfold likeL
  rw [List.pairwise_map]
  exact (asc_range _).imp fun h => Nat.add_lt_add_left ((Nat.mul_lt_mul_right hg).mpr h) r
section
variable {N n st tooth : Nat}
/-- the first partner -/
def resN (N n st tooth : Nat) : Nat := (tooth + (Nat.gcd N n - st % Nat.gcd N n)) % Nat.gcd N n
theorem res_iff (hN : 0 < N) (own : Nat) : tooth % Nat.gcd N n = (st + own) % Nat.gcd N n ↔ own % Nat.gcd N n = resN N n st tooth := by
  have hg := (gcd_le (n := n) hN).1
  unfold resN
  generalize Nat.gcd N n = g at *
  have hs := Nat.mod_lt st hg
  have z : (st + (g - st % g)) % g = 0 := by
    have e := Nat.div_add_mod st g
    rw [show st + (g - st % g) = g * (st / g + 1) by rw [Nat.mul_add]; omega]
    exact Nat.mul_mod_right _ _
  constructor
  · intro h
    rw [Nat.add_mod tooth, h, ← Nat.add_mod, Nat.add_right_comm]
    conv => rhs; rw [Nat.add_mod, z]
    rw [Nat.zero_add, Nat.mod_mod]
  · intro h
    rw [Nat.add_mod st, h, ← Nat.add_mod, show st + (tooth + (g - st % g)) = tooth + (st + (g - st % g)) by omega, Nat.add_mod tooth, z, Nat.add_zero, Nat.mod_mod]
theorem res_lt (hN : 0 < N) : resN N n st tooth < Nat.gcd N n := Nat.mod_lt _ (gcd_le hN).1
theorem mem_part (hN : 0 < N) {own : Nat} : own ∈ partL N n st tooth ↔ own < n ∧ tooth % Nat.gcd N n = (st + own) % Nat.gcd N n := by
  unfold partL
  rw [List.mem_filter, List.mem_range, decide_eq_true_iff, int_mod_gcd (x := st + own) (t := tooth) _ (by simp only [Int.natCast_add]; omega)]
theorem part_eq (hN : 0 < N) : partL N n st tooth = likeL n (Nat.gcd N n) (resN N n st tooth) := by
  have hg := (gcd_le (n := n) hN).1
  refine ascN_uniq ((asc_range n).filter _) (asc_like hg _ _) fun k => ?_
  have := mem_part (N := N) (n := n) (st := st) (tooth := tooth) (own := k) hN
  rw [this, mem_like hg (Nat.gcd_dvd_right N n) (res_lt hN), res_iff hN]
theorem part_len (hN : 0 < N) : (partL N n st tooth).length = rndN N n := by rw [part_eq hN, like_len]; rfl
theorem part_get (hN : 0 < N) {i : Nat} (hi : i < rndN N n) : (partL N n st tooth)[i]? = some (resN N n st tooth + i * Nat.gcd N n) := by
  rw [part_eq hN]
  unfold likeL
  rw [List.getElem?_map, List.getElem?_range (show i < n / Nat.gcd N n from hi)]; rfl
theorem part_met (hN : 0 < N) (ht : tooth < N) {own : Nat} (h : own ∈ partL N n st tooth) : ∃ t, metO N n st tooth own = some t := by
  cases q : metO N n st tooth own with
  | none => exact absurd ((mem_part hN).mp h).2 ((met_none_iff hN ht).mp q)
  | some t => exact ⟨t, rfl⟩
theorem zero_part (hN : 0 < N) (hn : 0 < n) (ht : tooth < N) : 0 ∈ partL N n st tooth ↔ tooth ∈ tipsN N n st (petN N n) := by
  rw [mem_part hN, tips_mem hN ht, Nat.add_zero]
  exact ⟨fun h => h.2, fun h => ⟨hn, h⟩⟩
theorem tip_idx (hN : 0 < N) {m : Nat} (h : tooth ∈ tipsN N n st m) : (tipsN N n st m).idxOf tooth < m ∧ (st + (tipsN N n st m).idxOf tooth * n) % N = tooth ∧ ∀ j, j < (tipsN N n st m).idxOf tooth → (st + j * n) % N ≠ tooth := by
  have h1 := List.idxOf_lt_length_iff.mpr h
  have hm : (tipsN N n st m).idxOf tooth < m := by rw [tips_len] at h1; exact h1
  have e := List.getElem_idxOf h1
  refine ⟨hm, ?_, fun j hj => ?_⟩
  · have q := tips_get (N := N) (n := n) (st := st) hm
    rw [List.getElem?_eq_getElem h1, e] at q
    exact (Option.some.inj q).symm
  · intro z
    have hj2 : j < (tipsN N n st m).length := by rw [tips_len]; omega
    have q := List.not_of_lt_findIdx (p := (· == tooth)) (xs := tipsN N n st m) hj
    rw [show (tipsN N n st m)[j] = tooth by
      have q2 := tips_get (N := N) (n := n) (st := st) (show j < m by omega)
      rw [List.getElem?_eq_getElem hj2, z] at q2
      exact Option.some.inj q2] at q
    simp at q
theorem met_zero (hN : 0 < N) (ht : tooth < N) (h : tooth ∈ tipsN N n st (petN N n)) : metO N n st tooth 0 = some ((tipsN N n st (petN N n)).idxOf tooth * n) := by
  obtain ⟨a, b, c⟩ := tip_idx hN h
  exact (met_iff hN ht).mpr ⟨_, Nat.lt_of_lt_of_le a pet_le, by omega, by rw [Nat.add_zero]; exact b, fun j hj => by rw [Nat.add_zero]; exact c j hj⟩
end
theorem met_test {N n st tooth own : Nat} (hN : 0 < N) (ht : tooth < N) (j : Nat) : (((own + j * n : Nat) : Int) - own - (((tooth : Int) - st - own) % (N : Int))) % (N : Int) = 0 ↔ (st + own + j * n) % N = tooth := by
  rw [← int_mod_iff hN ht (x := st + own + j * n) _ rfl, Int.sub_emod, Int.emod_emod, ← Int.sub_emod]
  have : ((own + j * n : Nat) : Int) - own - ((tooth : Int) - st - own) = ((st + own + j * n : Nat) : Int) - tooth := by simp only [Int.natCast_add]; omega
  rw [this]
/-- steps to the first meeting of a tooth of the ring -/
def firN (N st tooth : Nat) : Nat := (tooth + N - st) % N
section
variable {N n st tooth own : Nat}
theorem fir_lt (hN : 0 < N) : firN N st tooth < N := Nat.mod_lt _ hN
theorem fir_int (hst : st < N) : ((tooth : Int) - st) % (N : Int) = ((firN N st tooth : Nat) : Int) := by
  unfold firN
  rw [Int.natCast_emod, Int.natCast_sub (by omega), Int.natCast_add, show (tooth : Int) + N - st = ((tooth : Int) - st) + N by omega, Int.add_emod_right]
theorem fir_iff (hst : st < N) (ht : tooth < N) (u : Nat) : (st + u) % N = tooth ↔ u % N = firN N st tooth := by
  unfold firN
  have z : (st + (N - st)) % N = 0 := by rw [show st + (N - st) = N by omega, Nat.mod_self]
  constructor
  · intro h
    rw [show tooth + N - st = tooth + (N - st) by omega, ← h, Nat.mod_add_mod, show st + u + (N - st) = u + N by omega, Nat.add_mod_right]
  · intro h
    rw [Nat.add_mod, h, ← Nat.add_mod, show st + (tooth + N - st) = tooth + N by omega, Nat.add_mod_right, Nat.mod_eq_of_lt ht]
variable {t : Nat}
theorem mb_at (h : metO N n st tooth own = some t) : mbN N n st tooth own t = 1 := by
  unfold mbN; rw [h]; simp
theorem mb_pre (h : metO N n st tooth own = some t) (ht : 0 < t) : mbN N n st tooth own (t - 1) = 0 := by
  unfold mbN; rw [h]; simp only []; rw [if_pos (by omega)]
theorem mb_len (h : metO N n st tooth own = some t) (hl : 0 < lenN N n) : mbN N n st tooth own (t + lenN N n) = 2 := by
  unfold mbN; rw [h]; simp only []; rw [if_neg (by omega), Nat.add_sub_cancel_left, Nat.div_self hl]
theorem met_self (hst : st < N) : metO N n st st 0 = some 0 := (met_iff (by omega) hst).mpr ⟨0, by omega, by omega, by simpa using Nat.mod_eq_of_lt hst, fun j hj => by omega⟩
theorem sum_own (hN : 0 < N) (hn : 0 < n) (hst : st < N) (ht : tooth < N) (step : Nat) : (gathI n (fun _ => true) (fun i => ((mbN N n st tooth i step : Nat) : Int))).sum = ((if step < firN N st tooth then 0 else (step - firN N st tooth) / N + 1 : Nat) : Int) := by
  rw [gathI_true, sum_int, sum_congr (fun i hi => mb_count hN hn ht hi step), sum_fib (f := fun u => u % n) (P := fun u => decide ((st + u) % N = tooth)) (fun u _ => Nat.mod_lt _ hn), ← cnt_due (fir_lt hN), ← cntF_mod (fir_lt hN)]
  congr 1
  exact cntF_congr fun u _ => decide_eq_decide.mpr (fir_iff hst ht u)
theorem sum_tooth (hN : 0 < N) (hn : 0 < n) (hst : st < N) (ho : own < n) (step : Nat) : (gathI N (fun _ => true) (fun i => ((mbN N n st i own step : Nat) : Int))).sum = ((if step < own then 0 else (step - own) / n + 1 : Nat) : Int) := by
  have e : ∀ i, i < N → mbN N n st i own step = cntF (step + 1) (fun u => decide (u % n = own) && decide ((st + u) % N = i)) := fun i hi => by
    rw [mb_count hN hn hi ho step]
    exact cntF_congr fun u _ => Bool.and_comm _ _
  rw [gathI_true, sum_int, sum_congr e, sum_fib (f := fun u => (st + u) % N) (P := fun u => decide (u % n = own)) (fun u _ => Nat.mod_lt _ hN), ← cnt_due ho, ← cntF_mod ho]
theorem mb_known (h : metO N n st tooth own = some t) : (decide ((0 : Int) < (t : Int)) && !decide (((mbN N n st tooth own (t - 1) : Nat) : Int) = 0)) = false := by
  by_cases c : 0 < t
  · rw [mb_pre h c]; simp
  · rw [decide_eq_false (show ¬ (0 : Int) < (t : Int) by omega)]; rfl
theorem part_step (hN : 0 < N) : ∀ i, i < (intsI (partL N n st tooth)).length → (!decide (((intsI (partL N n st tooth)).getD i 0 - ((resN N n st tooth + 0 * Nat.gcd N n : Nat) : Int)) % ((Nat.gcd N n : Nat) : Int) = 0)) = false := fun i hi => by
  rw [intsI_len, part_len hN] at hi
  rw [intsI_getD (part_get hN hi), decide_eq_true]
  · rfl
  · rw [Nat.zero_mul, Nat.add_zero, Int.natCast_add, Int.natCast_mul, show (resN N n st tooth : Int) + (i : Int) * (Nat.gcd N n : Int) - (resN N n st tooth : Int) = (i : Int) * (Nat.gcd N n : Int) by omega]
    exact Int.mul_emod_left _ _
end
end WC

/-! try, except X as e: y = e -/
namespace WC
open PySem L2 PySem.Spec PyProof.Rows
open Evl (Ex)
theorem exK_ok {P : Program} {w : World} {H : Hp} {h : Heap} {a D : Addr} {oe : Obj} {vs : Array Value} (e : h.get? a = some oe) (z : Zc (.ref D) none oe) (d : oe.data = .fields vs) : ObjOk P w H h a (ExK D a) :=
  ⟨⟨oe, vs, e, z, d⟩, ⟨oe, e⟩, fun h1 h2 ⟨o, v, p, q, r⟩ k => ⟨o, v, k o p, q, r⟩⟩
section
variable {X : Cx} {pins : List (Addr × Obj)} {σ : L2.St} {H : Hp} {s : Shared}
/-- an object that wasn't there at the entry, and is not looked at yet, is from now on -/
theorem Inv_track (I : Inv X pins σ H s) {a D : Addr} {oe : Obj} {vs : Array Value} (e : s.heap.get? a = some oe) (z : Zc (.ref D) none oe) (d : oe.data = .fields vs) (na : H a = none) (old : X.s_0.heap.get? a = none) (nL : a ≠ X.env.locals) (np : ∀ p ∈ X.pn ++ pins, p.1 ≠ a) :
    Inv X pins σ (upd H a (ExK D a)) s := by
  have ne : ∀ b o, X.s_0.heap.get? b = some o → b ≠ a := fun b o q z => by rw [z, old] at q; cases q
  have had : ∀ b o, H b = some o → b ≠ a := fun b o q z => by rw [z, na] at q; cases q
  refine ⟨I.ok, I.os, I.bare, ⟨fun b o q n f x => I.base.keep b o q n f x, fun b o q n f x => I.base.slot b o q n f x, fun b o q n x => ?_, fun b o q x => I.base.there b o q x, fun b xs q => ?_, fun b o u q => ?_, fun b ps q => ?_⟩, I.loc, I.cell, ?_, fun x c q => ?_, fun p hp => ?_, I.hok.laidN (fun _ _ q => q) na (exK_ok e z d), I.len⟩
  · rw [upd_ne (ne b o q)]; exact I.base.free b o q n x
  · have := I.base.tups b xs q; rw [upd_ne (had b _ this)]; exact this
  · have := I.base.frzs b o u q; rw [upd_ne (had b _ this)]; exact this
  · obtain ⟨more, this⟩ := I.base.tbls b ps q; exact ⟨more, by rw [upd_ne (had b _ this)]; exact this⟩
  · rw [upd_ne (fun q => nL q.symm)]; exact I.free
  · obtain ⟨v, hv⟩ := I.cell x c q
    have : c ≠ a := fun z2 => by
      subst z2
      obtain ⟨o2, q2, q3⟩ := hv
      rw [e] at q2; cases q2
      rw [d] at q3; simp at q3
    rw [upd_ne this]; exact I.freeC x c q
  · obtain ⟨p1, p2, p3⟩ := I.pin p hp
    exact ⟨p1, by rw [upd_ne (np p hp)]; exact p2, p3⟩
end
/-- what 'except x as n: y = n' wishes of an exception of the body: slots i of n, j of y -/
def wKeep (K : PySem.W.Frag) (c : Value) (i j : Nat) (D : Ends) : WX := fun cls d σ H => ∃ Dc, cls = .ref Dc ∧ d = none ∧ PySem.W.exmOne K cls c = some true ∧
  ∀ a, H a = none → D.nx (((σ.set i (some (.ref a))).set j (some (.ref a))).set i none) (upd H a (ExK Dc a))
section
variable {X : Cx} {x n y : Str} {c : Value} {i j : Nat} {body : List Stmt} {np py pz pa pos pos' : Pos} {tb : WX → TS}
theorem ps_try_keep (hs : X.stack = X.env :: X.outer) (hf : X.env.frame = some X.env.locals) (hex : X.ex = []) (hN : X.N.Nodup) (hi : X.N[i]? = some n) (hj : X.N[j]? = some y) (hln : X.env.kindOf n = some .local) (hly : Loc X.env.scope y) (hfy : X.fn y = true ∨ X.env.scope.names.lookup y = some .local)
    (hij : i ≠ j) (hdn : (n == ("__debug__" : Str)) = false) (hcn : (n == ("__classdict__" : Str)) = false) (hsw : swapsWith (.Name n pz) (some (.Name y py)) pa.line X.env = pure false) (hc : Names X x c)
    (hb : ∀ (W : WX) (pn : List (Addr × Obj)) (xe : Value → Shared → Prop), Takes (X.tr pn xe) W → PassesOwn (model X.prog X.w) X.A X.env xe → PSs (X.tr pn xe) body (tb W)) :
    PS X (.Try body [.ExceptHandler (some (.Name x np)) (some n) [.Assign [.Name y py] (.Name n pz) pa] pos'] [] [] pos) (fun D σ H => tb (wKeep X.K c i j D) D σ H) := by
  refine ⟨fun pins s σ H D I h => wpAny_Try_except ?_⟩
  have ok := I.ok; have hfr : X.A.frames = some (X.env :: X.outer) := by rw [ok.frames, hs]
  refine wpAny_mono ((hb (wKeep X.K c i j D) (X.pn ++ pins) (fun e s₁ => wpAny (model X.prog X.w) X.A (noteFrame e X.env) (fun _ s₂ => wpAny (model X.prog X.w) X.A (setFlight e none) (fun _ s₃ => wpAny (model X.prog X.w) X.A (handleBy e X.env [.ExceptHandler (some (.Name x np)) (some n) [.Assign [.Name y py] (.Name n pz) pa] pos']) (SP X pins D) X.xe s₃) X.xe s₂) X.xe s₁) (fun u s' xx => ?_) PassesOwn.looking).run [] s σ H D (I.toTry _) h) (fun f s1 hsp => ?_) (fun e s1 he => he)
  · obtain ⟨a, B, sI, pins', σ', H', cls, d, rfl, J', nb, up, sky, na, os, ag, Dc, rfl, rfl, hb1, hyes⟩ := xx
    have J : Inv X pins σ' H' sI := J'.ofTry ok
    have sky2 : Sky B (X.env :: X.outer) a (Zc (.ref Dc) none) X.env.locals s'.heap := by rw [← hs]; exact sky
    show wpAny (model X.prog X.w) X.A (noteFrame (.ref a) X.env) _ _ _; refine Sky.land Zc.steady hfr hf sky2 fun h3 fl3 up3 => ?_
    have J3 : Inv X pins σ' H' { s' with heap := h3 } := J.landed nb fl3.1 (up.trans up3) os ag; obtain ⟨oe3, vs3, he3, hz3, hd3⟩ := fl3.there
    have nfr : a ∉ frs (X.env :: X.outer) := fun hm => by
      obtain ⟨_, o', e', hnf⟩ := fl3.2.2.1.mem hm; rw [he3] at e'; cases e'; exact hnf _ hd3
    have nB : B.get? a = none := fl3.2.1
    have nI : sI.heap.get? a = none := by
      cases q : sI.heap.get? a with
      | none => rfl
      | some o => rw [nb a o q (by rw [hs] ; exact nfr)] at nB; cases nB
    have n0 : X.s_0.heap.get? a = none := by
      cases q : X.s_0.heap.get? a with
      | none => rfl
      | some o => obtain ⟨o', q'⟩ := J.base.there a o q (by rw [hex]; simp); rw [nI] at q'; cases q'
    have nP : ∀ p ∈ X.pn ++ pins, p.1 ≠ a := fun p hp z => by have := (J.pin p hp).1; rw [z, nI] at this; cases this
    have nL : a ≠ X.env.locals := fun z => nfr (List.mem_filterMap.mpr ⟨X.env, List.mem_cons_self, by rw [hf, z]⟩)
    have nF : a ∉ X.fs := fun hm => by
      obtain ⟨e, he, q⟩ := List.mem_filterMap.mp hm; exact nfr (List.mem_filterMap.mpr ⟨e, List.mem_cons_of_mem _ he, q⟩)
    have S3 := J3.suite he3 hd3 na nL nF; refine wpAny_handleBy_cons (codeAny_handlers_test ?_) (by intro q; cases q)
    have LT : PySem.W.Looks (model X.prog X.w) h3 (typeOf (.ref a)) (.ref Dc) := fun A Q E s k q => wpAny_typeOf_ref (k _ _ he3) (by rw [hz3.1]; exact q)
    have LM := PySem.W.exm_one (M := model X.prog X.w) (J3.kIn) LT hb1
    have test : ∀ {Q : Value → Shared → Prop} {E : Value → Shared → Prop}, Q c { s' with heap := h3 } → wpAny (model X.prog X.w) (X.A.mark (some (.ref a))) (eval (.Name x np) X.env) Q E { s' with heap := h3 } := fun {Q E} q => by
      rcases hc with ⟨hg, hdbg, hm | ⟨hm, hv, hnn⟩⟩
      · exact ld_glob (X := X.suite a ((a, oe3) :: (X.pn ++ pins))) S3 hg hm q hdbg
      · exact ld_blt (X := X.suite a ((a, oe3) :: (X.pn ++ pins))) S3 hg hm hv q hnn hdbg
    refine test (LM.here (codeAny_handlers_suite_as (HandSPX.lands_againZ fl3 fun h4 fl4 up4 => ?_)))
    have J4 : Inv X pins σ' H' { s' with heap := h4 } := J.landed nb fl4.1 ((up.trans up3).trans up4) os ag; obtain ⟨oe4, vs4, he4, hz4, hd4⟩ := fl4.there
    have S4 := J4.suite he4 hd4 na nL nF
    refine store_ok (X := X.suite a ((a, oe4) :: (X.pn ++ pins))) (v := .ref a) S4 hN hi (.inl hln) rfl (fun s5 S5 => ?_) (.inr hln)
    have rule : PSs (X.suite a ((a, oe4) :: (X.pn ++ pins))) [.Assign [.Name y py] (.Name n pz) pa] _ := pss_one (ps_set (X := X.suite a ((a, oe4) :: (X.pn ++ pins))) hN hj hly (pe_var (i := i) hi (.inl hln) hdn hcn) hsw hfy)
    have li : i < σ'.length := by rw [J.len]; exact (List.getElem?_eq_some_iff.mp hi).1
    refine wpAny_mono (rule.run [] s5 _ H' ⟨fun σ6 H6 => σ6 = (σ'.set i (some (.ref a))).set j (some (.ref a)) ∧ H6 = H', fun _ _ => False, fun _ _ => False, fun _ _ => False⟩ S5 ⟨.ref a, List.getElem?_set_self li, rfl, rfl⟩) (fun f s6 hsp => ?_) (fun _ _ z => False.elim z)
    cases f with
    | next =>
      obtain ⟨σ6, H6, S6, rfl, rfl⟩ := hsp
      have pin6 := S6.pin (a, oe4) (List.mem_append.mpr (.inl List.mem_cons_self))
      exact gone_ok (Inv_track (S6.unsuite ok) pin6.1 hz4 hd4 na n0 nL nP) hN hi hln fun s7 J7 => ⟨_, _, J7, hyes a na⟩
    | brk => obtain ⟨σ6, H6, S6, q6⟩ := hsp; exact q6.elim
    | cont => obtain ⟨σ6, H6, S6, q6⟩ := hsp; exact q6.elim
    | ret u => obtain ⟨v6, σ6, H6, S6, r6, q6⟩ := hsp; exact q6.elim
  · cases f with
    | next => obtain ⟨σ', H', J', q⟩ := hsp; exact wpAny_execs_nil ⟨σ', H', J'.ofTry ok, q⟩
    | brk => obtain ⟨σ', H', J', q⟩ := hsp; exact ⟨σ', H', J'.ofTry ok, q⟩
    | cont => obtain ⟨σ', H', J', q⟩ := hsp; exact ⟨σ', H', J'.ofTry ok, q⟩
    | ret u => obtain ⟨v, σ', H', J', r, q⟩ := hsp; exact ⟨v, σ', H', J'.ofTry ok, r, q⟩
end
/-! ### raising, with the names as they stand -/
def EXS (X : Cx) (ρ : REnv) (M : List MO) (e : Expr) (c : Addr) (M' : List MO) : Prop :=
  ∀ (As : List Addr) (σ : L2.St) (F H : Hp), RepM As F H M → RepE As F σ ρ → ∀ (W : WX) (Q : VK), Takes X W → (∀ As' F' H', Step As F H As' F' H' → RepM As' F' H' M' → W (.ref c) none σ H') → wE X e σ H Q
def SX (X : Cx) (ρ : REnv) (M : List MO) (sts : List Stmt) (c : Addr) (M' : List MO) : Prop :=
  ∀ (As : List Addr) (σ : L2.St) (F H : Hp), RepM As F H M → RepE As F σ ρ → ∀ (W : WX) (D : Ends), Takes X W → (∀ As' F' H', Step As F H As' F' H' → RepM As' F' H' M' → W (.ref c) none σ H') → wSs X sts D σ H
section
variable {X : Cx} {ρ ρ1 : REnv} {M M1 M2 : List MO} {e a b cd : Expr} {es : List Expr} {c D : Addr} {x y n : Str} {ps : List Str} {k i j : Nat} {Sig : List PyData → Res → Prop} {ds : List PyData} {p p2 pos np py pz pa pos' : Pos} {E : XK} {sa sb body : List Stmt} {q : Bool}
theorem exs_call (G : Fn X.prog X.w X.K X.mg X.base x k ps Sig) (hr : Room k X.A) (ha : AD X ρ M (e :: es) (ds.map Slot.d) M1) (hs : Sig ds (.err (.ref c))) (hg : Gl X x := by rfl)
    (hdb : (x == ("__debug__" : Str)) = false := by decide) (he : starEach (e :: es) X.env = (false, eval e X.env) :: starEach es X.env := by rfl) (hpl : (backTo pos (starEach es X.env)).any (·.1) = false := by rfl) :
    EXS X ρ M (.Call (.Name x p) (e :: es) [] pos) c M1 := fun As σ F H hM hE W Q tk q => by
  obtain ⟨f, fd, F1, hm, hk, hb⟩ := G.ex
  exact ⟨_, pe_callS F1 hr hg hm hk hb (fun σ => passAt tk σ) (pa_w X _) hdb he hpl, ha As σ F H hM hE _ fun vs As1 F1 H1 s1 m1 o1 => ⟨F1, ds, .err (.ref c), m1.ex, o1.data, hs, fun F' H' s2 => q As1 F' H' (s1.trans (s2.step As1)) (s2.rep m1)⟩⟩
theorem exs_ifT (hc : BT X ρ M cd true M1) (ha : EXS X ρ M1 a c M2) : EXS X ρ M (.IfExp cd a b pos) c M2 := fun As σ F H hM hE W Q tk q =>
  ⟨_, pe_ifExp (pt_w X cd) (pe_w X a) (pe_w X b), hc As σ F H hM hE _ fun As1 F1 H1 s1 m1 => iteT (ha As1 σ F1 H1 m1 (hE.step s1) W Q tk fun As2 F2 H2 s2 m2 => q As2 F2 H2 (s1.trans s2) m2)⟩
theorem exs_ifF (hc : BT X ρ M cd false M1) (hb : EXS X ρ M1 b c M2) : EXS X ρ M (.IfExp cd a b pos) c M2 := fun As σ F H hM hE W Q tk q =>
  ⟨_, pe_ifExp (pt_w X cd) (pe_w X a) (pe_w X b), hc As σ F H hM hE _ fun As1 F1 H1 s1 m1 => iteF (hb As1 σ F1 H1 m1 (hE.step s1) W Q tk fun As2 F2 H2 s2 m2 => q As2 F2 H2 (s1.trans s2) m2)⟩
theorem sx_set {i : Nat} (hN : X.N.Nodup) (h : EXS X ρ M e c M1) (hi : X.N[i]? = some x := by rfl) (hx : Loc X.env.scope x := by first | exact Or.inl rfl | exact Or.inr rfl) (hs : swapsWith e (some (.Name x p)) pos.line X.env = pure false := by rfl)
    (hf : X.fn x = true ∨ X.env.scope.names.lookup x = some .local := by first | exact .inl rfl | exact .inr rfl) : SX X ρ M [.Assign [.Name x p] e pos] c M1 := fun As σ F H hM hE W D tk q =>
  ⟨_, pss_one (ps_set hN hi hx (pe_w X e) hs hf), h As σ F H hM hE W _ tk q⟩
theorem sx_expr (h : EXS X ρ M e c M1) (hs : swapsWith e none pos.line X.env = pure false := by rfl) : SX X ρ M [.Expr e pos] c M1 := fun As σ F H hM hE W D tk q =>
  ⟨_, pss_one (ps_expr (pe_w X e) hs), h As σ F H hM hE W _ tk q⟩
theorem sx_ifT (hc : BT X ρ M cd true M1) (ha : SX X ρ M1 sa c M2) : SX X ρ M [.If cd sa sb pos] c M2 := fun As σ F H hM hE W D tk q =>
  ⟨_, pss_one (ps_if (pt_w X cd) (pss_w X sa) (pss_w X sb)), hc As σ F H hM hE _ fun As1 F1 H1 s1 m1 => iteT (ha As1 σ F1 H1 m1 (hE.step s1) W D tk fun As2 F2 H2 s2 m2 => q As2 F2 H2 (s1.trans s2) m2)⟩
theorem sx_ifF (hc : BT X ρ M cd false M1) (hb : SX X ρ M1 sb c M2) : SX X ρ M [.If cd sa sb pos] c M2 := fun As σ F H hM hE W D tk q =>
  ⟨_, pss_one (ps_if (pt_w X cd) (pss_w X sa) (pss_w X sb)), hc As σ F H hM hE _ fun As1 F1 H1 s1 m1 => iteF (hb As1 σ F1 H1 m1 (hE.step s1) W D tk fun As2 F2 H2 s2 m2 => q As2 F2 H2 (s1.trans s2) m2)⟩
theorem RepE.unset {As : List Addr} {F : Hp} {σ : L2.St} {ρ : REnv} (h : RepE As F σ ρ) (i : Nat) : RepE As F (σ.set i none) (ρ.set i none) :=
  ⟨by rw [List.length_set, List.length_set]; exact h.len, fun m r e => by
    by_cases z : m = i
    · subst z
      rw [List.getElem?_set] at e
      split at e <;> (try split at e) <;> simp_all
    · rw [List.getElem?_set_ne (Ne.symm z)] at e ⊢
      exact h.env m r e⟩
/-- the except clause: its name in slot i, what keeps it in slot j -/
structure Keeps (X : Cx) (i j : Nat) (n y : Str) (pz py pa : Pos) : Prop where
  hs : X.stack = X.env :: X.outer
  hf : X.env.frame = some X.env.locals
  hex : X.ex = []
  hi : X.N[i]? = some n
  hj : X.N[j]? = some y
  hln : X.env.kindOf n = some .local
  hly : Loc X.env.scope y
  hfy : X.fn y = true ∨ X.env.scope.names.lookup y = some .local
  hij : i ≠ j
  hdn : (n == ("__debug__" : Str)) = false
  hcn : (n == ("__classdict__" : Str)) = false
  hsw : swapsWith (.Name n pz) (some (.Name y py)) pa.line X.env = pure false
theorem sd_tryN {C : Value} (hN : X.N.Nodup) (kp : Keeps X i j n y pz py pa) (hc : Names X x C) (hb : ∀ pn xe, SD (X.tr pn xe) E ρ M body (.nx ρ1 M1)) :
    S1 X E ρ M (.Try body [.ExceptHandler (some (.Name x np)) (some n) [.Assign [.Name y py] (.Name n pz) pa] pos'] [] [] pos) (.nx ρ1 M1) := fun As σ F H hM hE D q =>
  ⟨_, ps_try_keep (tb := fun W D σ H => ∀ pn xe, Takes (X.tr pn xe) W → wSs (X.tr pn xe) body D σ H) kp.hs kp.hf kp.hex hN kp.hi kp.hj kp.hln kp.hly kp.hfy kp.hij kp.hdn kp.hcn kp.hsw hc (fun W pn xe tk _ => ⟨fun pins s σ H D I h => (pss_w (X.tr pn xe) body).run pins s σ H D I (h pn xe tk)⟩),
    fun pn xe tk => hb pn xe As σ F H hM hE D q⟩
theorem sd_tryX {C : Value} (hN : X.N.Nodup) (kp : Keeps X i j n y pz py pa) (hc : Names X x C) (hm : PySem.W.exmOne X.K (.ref D) C = some true) (hb : ∀ pn xe, SX (X.tr pn xe) ρ M body D M1) :
    S1 X E ρ M (.Try body [.ExceptHandler (some (.Name x np)) (some n) [.Assign [.Name y py] (.Name n pz) pa] pos'] [] [] pos) (.nx (((ρ.set i (some (.exc D))).set j (some (.exc D))).set i none) M1) := fun As σ F H hM hE Ds q =>
  ⟨_, ps_try_keep (tb := fun W D σ H => ∀ pn xe, Takes (X.tr pn xe) W → wSs (X.tr pn xe) body D σ H) kp.hs kp.hf kp.hex hN kp.hi kp.hj kp.hln kp.hly kp.hfy kp.hij kp.hdn kp.hcn kp.hsw hc (fun W pn xe tk _ => ⟨fun pins s σ H D I h => (pss_w (X.tr pn xe) body).run pins s σ H D I (h pn xe tk)⟩),
    fun pn xe tk => hb pn xe As σ F H hM hE _ Ds tk fun As1 F1 H1 s1 m1 => ⟨D, rfl, rfl, hm, fun z hz => by
      obtain ⟨s2, m2⟩ := newF m1 hz (ExK D z)
      have o : SlotOk As1 (upd F1 z (ExK D z)) (.ref z) (.exc D) := ⟨z, rfl, upd_same⟩
      exact q As1 _ _ _ (s1.trans s2) m2 ((((hE.step (s1.trans s2)).set o i).set o j).unset i)⟩⟩
theorem cd_excN : CmpD X .Is M (.exc D) (.d .none) false := ⟨_, op_isN, fun As F H v1 v2 Q m o1 o2 q => by
  obtain ⟨z, rfl, _⟩ := o1
  cases o2
  exact ⟨rfl, q⟩⟩
/-! ### isinstance of what is kept -/
def rIsK (K : PySem.W.Frag) (D : Addr) : List V → Hp → VK → Prop := fun xs H Q => ∃ (z : Addr) (c : V) (cv : Value) (b : Bool), xs = [.ref z, c] ∧ H z = some (ExK D z) ∧ (∀ u, RelV c u → u = cv) ∧ PySem.W.kitOne K (.ref D) cv = some b ∧ Q (.bl b) H
theorem cr_isK (C : ExcC X.K D) : CallR X (.builtin "isinstance") (rIsK X.K D) := by
  intro pins s σ H xs us Q I r h
  obtain ⟨z, c, cv, b, rfl, hz, hcv, e, q⟩ := h
  cases r with
  | cons rx rr => cases rr with
    | cons rt rr =>
      cases rr; cases rx
      have ec := hcv _ rt; subst ec
      obtain ⟨oe, vs, hget, hzc, hv⟩ := (I.hok z _ hz).1
      have J : PySem.W.InstAt s.heap z oe D none := by
        obtain ⟨oc, od, oda, osl⟩ := oe; obtain ⟨h1, h2⟩ := hzc; dsimp only at h1 h2 hv; subst h1 h2 hv; exact ⟨hget, rfl, rfl, trivial⟩
      exact PySem.W.kia_one (PySem.W.handS_kitx_exc C.hg C.hk C.hs C.hd C.ha C.hn C.ht C.hm) I.kIn J e (fun z => nomatch z) fun tk => ⟨.bl b, H, I.kept (t' := tk) fun _ _ z => z, rfl, q⟩
theorem ed_isExc {T : Str} {C : Addr} (hm : X.mg "isinstance" = none) (hgC : X.mg T = some (.ref C)) (EC : ExcC X.K D) (hk : PySem.W.kitOne X.K (.ref D) (.ref C) = some q) (h : ED X ρ M e (.exc D) M1) (hg : Gl X "isinstance" := by rfl) (hgT : Gl X T := by rfl) (hdT : (T == ("__debug__" : Str)) = false := by decide)
    (hs : starEach (e :: [.Name T p2]) X.env = (false, eval e X.env) :: starEach [.Name T p2] X.env := by rfl) (hs2 : starEach (Expr.Name T p2 :: []) X.env = (false, eval (.Name T p2) X.env) :: starEach [] X.env := by rfl) (hpl : (backTo pos (starEach [Expr.Name T p2] X.env)).any (·.1) = false := by rfl) :
    ED X ρ M (.Call (.Name "isinstance" p) [e, .Name T p2] [] pos) (.d (.bool q)) M1 := fun As σ F H hM hE Q qq =>
  ⟨_, pe_callB (cr_isK EC) hg hm (by decide +kernel) (pa_cons (pe_w X e) (pa_cons (pe_glob (v := .ref C) hgT hgC rfl hdT) pa_nil hs2) hs) (by decide) (by decide) hs hpl, h As σ F H hM hE _ fun v As1 F1 H1 s1 m1 o1 => by
    obtain ⟨z, rfl, hz⟩ := o1
    exact ⟨z, .ref C, .ref C, q, rfl, m1.ex _ _ hz, fun u r => by cases r; rfl, hk, qq _ As1 F1 H1 s1 m1 (.bl q)⟩⟩
theorem ed_isExcT {T : Str} {Tn : String} (hm : X.mg "isinstance" = none) (hmT : X.mg T = none) (hT : bootBuiltins T = some (.type Tn)) (EC : ExcC X.K D) (hk : PySem.W.kitOne X.K (.ref D) (.type Tn) = some q) (h : ED X ρ M e (.exc D) M1) (hg : Gl X "isinstance" := by rfl) (hgT : Gl X T := by rfl) (hnT : T ≠ "__name__" := by decide) (hdT : (T == ("__debug__" : Str)) = false := by decide)
    (hs : starEach (e :: [.Name T p2]) X.env = (false, eval e X.env) :: starEach [.Name T p2] X.env := by rfl) (hs2 : starEach (Expr.Name T p2 :: []) X.env = (false, eval (.Name T p2) X.env) :: starEach [] X.env := by rfl) (hpl : (backTo pos (starEach [Expr.Name T p2] X.env)).any (·.1) = false := by rfl) :
    ED X ρ M (.Call (.Name "isinstance" p) [e, .Name T p2] [] pos) (.d (.bool q)) M1 := fun As σ F H hM hE Q qq =>
  ⟨_, pe_callB (cr_isK EC) hg hm (by decide +kernel) (pa_cons (pe_w X e) (pa_cons (pe_bltn (v := .ty Tn) hgT hmT hT rfl hnT hdT) pa_nil hs2) hs) (by decide) (by decide) hs hpl, h As σ F H hM hE _ fun v As1 F1 H1 s1 m1 o1 => by
    obtain ⟨z, rfl, hz⟩ := o1
    exact ⟨z, .ty Tn, .type Tn, q, rfl, m1.ex _ _ hz, fun u r => by cases r; rfl, hk, qq _ As1 F1 H1 s1 m1 (.bl q)⟩⟩
/-! ### True among bools -/
theorem flat_bls : ∀ bs : List Bool, (bs.map V.bl).all flatV = true
  | [] => rfl
  | b :: r => by rw [List.map_cons, List.all_cons, flat_bls r]; rfl
theorem vals_bls : ∀ {bs : List Bool} {us : List Value}, Vals (bs.map V.bl) us → us.countP (eqU (.bl true)) = bs.count true
  | [], _, .nil => rfl
  | b :: r, _, .cons h t => by
    rw [List.countP_cons, vals_bls t, List.count_cons]
    cases h; cases b <;> rfl
def rCntB (K : PySem.W.Frag) : V → List V → Hp → VK → Prop := fun x xs H Q => ∃ (p : Addr) (bs : List Bool), x = .ref p ∧ xs = [.bl true] ∧ SqL K H p (bs.map V.bl) ∧ Q (.int (bs.count true : Nat)) H
theorem mt_cntB : MtR X "list.count" (rCntB X.K) := by
  intro pins s σ H x xs v us Q I rx rxs h
  obtain ⟨p, bs, rfl, rfl, hs, q⟩ := h
  cases rx; obtain ⟨u, rfl, ru⟩ := rxs.one; cases ru
  obtain ⟨its, rv, ⟨⟨cls, dd, data, sl⟩, n, ho, hc, hdn, hd⟩, hlen⟩ := I.list hs; simp only at hc hd; subst hc hd
  refine call_meets PySem.F.slot_list_count ⟨_, ho, rfl⟩ PySem.F.entry_list_count (PySem.F.args_list_count_2 _ _) (SeqAt.list_countAt p its.toArray n dd sl (.bool true) (eqU (.bl true))) ⟨ho, fun y hy => mem_eqAt (x := .bl true) rfl rfl rv (flat_bls bs) y (by simpa using hy), ⟨.int (bs.count true : Nat), H, I.tok _, ⟨s.toks, ?_⟩, q⟩⟩
  show Value.int ((its.countP (eqU (.bl true)) : Nat) : Int) s.toks = _; rw [vals_bls rv]
end
section
variable {X : Cx} {ρ : REnv} {M M1 M2 : List MO} {o a : Expr} {r : Slot} {apos pos : Pos} {bs : List Bool} {j : Nat}
theorem ed_cntB (h : ED X ρ M o r M1) (ha : ED X ρ M1 a (.d (.bool true)) M2) (rd1 : Rds M1 r (.list (bs.map .bool))) (rd : Rds M2 r (.list (bs.map .bool)))
    (hbase : attributeBase o "count" X.env (eval o X.env) = eval o X.env := by rfl)
    (hfew : ((backTo pos (starEach (a :: []) X.env)).all (fun x => !x.1) && (backToKw pos (keywordEach [] X.env)).all (fun x => x.1.isSome) && decide ((a :: []).length + ([] : List Keyword).length + (if ([] : List Keyword).isEmpty then 0 else 1) < 30)) = true := by rfl)
    (hline : (apos.endLine == pos.line) = true := by rfl) (hs : starEach (a :: []) X.env = (false, eval a X.env) :: starEach [] X.env := by rfl) (hplain : (backTo pos (starEach [] X.env)).any (·.1) = false := by rfl) :
    ED X ρ M (.Call (.Attribute o "count" apos) [a] [] pos) (.d (.int (bs.count true : Nat))) M2 := fun As σ F H hM hE Q q =>
  ⟨_, pe_bm PySem.F.plainAttrs_list PySem.F.slot_list_count PySem.F.type_list_count mt_cntB (pe_w X o) (pa_cons (pe_w X a) pa_nil hs) hbase hfew hline hs hplain, h As σ F H hM hE _ fun v As1 F1 H1 s1 m1 o1 => by
    obtain ⟨l, xs, rfl, k1, k2⟩ := rd_list m1 o1 rd1
    refine ⟨.inl ⟨rfl, _, SqL.of k1⟩, ha As1 σ F1 H1 m1 (hE.step s1) _ fun w As2 F2 H2 s2 m2 o2 => ?_⟩
    obtain ⟨l', xs', e, k3, k4⟩ := rd_list m2 (o1.step s2) rd
    cases e; cases o2
    rw [k4.bls_of] at k3
    exact ⟨l, bs, rfl, rfl, SqL.of k3, q _ _ _ _ (s1.trans s2) m2 (.int _)⟩⟩
theorem ed_idxB (h : ED X ρ M o r M1) (ha : ED X ρ M1 a (.d (.bool true)) M2) (rd1 : Rds M1 r (.list (bs.map .bool))) (rd : Rds M2 r (.list (bs.map .bool))) (hj : bs[j]? = some true) (hno : ∀ m, m < j → bs[m]? ≠ some true)
    (hbase : attributeBase o "index" X.env (eval o X.env) = eval o X.env := by rfl)
    (hfew : ((backTo pos (starEach (a :: []) X.env)).all (fun x => !x.1) && (backToKw pos (keywordEach [] X.env)).all (fun x => x.1.isSome) && decide ((a :: []).length + ([] : List Keyword).length + (if ([] : List Keyword).isEmpty then 0 else 1) < 30)) = true := by rfl)
    (hline : (apos.endLine == pos.line) = true := by rfl) (hs : starEach (a :: []) X.env = (false, eval a X.env) :: starEach [] X.env := by rfl) (hplain : (backTo pos (starEach [] X.env)).any (·.1) = false := by rfl) :
    ED X ρ M (.Call (.Attribute o "index" apos) [a] [] pos) (.d (.int j)) M2 := fun As σ F H hM hE Q q =>
  ⟨_, pe_bm PySem.F.plainAttrs_list PySem.F.slot_list_index PySem.F.type_list_index mt_index (pe_w X o) (pa_cons (pe_w X a) pa_nil hs) hbase hfew hline hs hplain, h As σ F H hM hE _ fun v As1 F1 H1 s1 m1 o1 => by
    obtain ⟨l, xs, rfl, k1, k2⟩ := rd_list m1 o1 rd1
    refine ⟨.inl ⟨rfl, _, SqL.of k1⟩, ha As1 σ F1 H1 m1 (hE.step s1) _ fun w As2 F2 H2 s2 m2 o2 => ?_⟩
    obtain ⟨l', xs', e, k3, k4⟩ := rd_list m2 (o1.step s2) rd
    cases e; cases o2
    rw [k4.bls_of] at k3
    refine ⟨l, bs.map V.bl, .bl true, j, .bl true, rfl, rfl, SqL.of k3, rfl, flat_bls bs, by rw [List.getElem?_map, hj]; rfl, rfl, fun m z hm hz => ?_, q _ _ _ _ (s1.trans s2) m2 (.int _)⟩
    rw [List.getElem?_map] at hz
    obtain ⟨y, e1, e2⟩ := Option.map_eq_some_iff.mp hz
    subst e2
    cases y with
    | true => exact absurd e1 (hno m hm)
    | false => rfl⟩
end
/-! ### the def that tells an exception -/
def PrE (T : Addr → Str → Prop) : Sp := fun vs H Q E => ∃ (F : Hp) (z D : Addr) (t : Str), Ex F H ∧ vs = [.ref z] ∧ F z = some (ExK D z) ∧ T D t ∧ Gives F H Q E (.val (.str t))
section
variable {P : Program} {w : World} {K : PySem.W.Frag} {mg : Str → Option Value} {base : Heap}
structure FnE (P : Program) (w : World) (K : PySem.W.Frag) (mg : Str → Option Value) (base : Heap) (x : Str) (k : Nat) (ps : List Str) (T : Addr → Str → Prop) : Prop where
  ex : ∃ f fd, FnOk P w K mg base (L2.CX P w) k f fd ps (PrE T) ∧ mg x = some (.ref f) ∧ PySem.W.keepIn K (.ref f) = true ∧ Binds K fd ps []
def startE (N : List Str) (D : Addr) : REnv := some (.exc D) :: List.replicate (N.length - 1) none
theorem startE_rep {F : Hp} {N : List Str} {z D : Addr} (h : F z = some (ExK D z)) : RepE [] F (L2.start N [.ref z]) (startE N D) := by
  unfold L2.start startE
  refine ⟨by simp, fun i r e => ?_⟩
  cases i with
  | zero =>
    simp at e; subst e
    exact ⟨.ref z, rfl, z, rfl, h⟩
  | succ i =>
    rw [List.getElem?_cons_succ, List.getElem?_replicate] at e
    split at e <;> simp at e
theorem fn_mkE {x qual : Str} {st : Stmt} {N ps : List Str} {k : Nat} {T : Addr → Str → Prop} (F : FunAt K mg x qual st) (S : FnScope N ps (defScope st))
    (hb : ∀ (kV doc pm : Value) (an : Option Addr) (cdv ct : Value) (us : List Value), us.length = ps.length → bindArgs (PySem.W.fnOf x qual (defArgs st) (defBody st) (defScope st) .none kV doc pm an cdv ct) ⟨us, []⟩ = pure (ps.zip us))
    (hl : ps.length = 1)
    (body : ∀ (f : Addr) (cdv : Value) (A : Around) (outer : List Env) (s : Shared) (H : Hp) (E : XK), Room k (A.deeper (PyProof.Rows.envOfC qual (defScope st) s.heap.objs.size f cdv)) → ∀ D t, T D t →
      ∃ M', SD (cxOf (L2.CX P w) P w K mg base N qual (defScope st) f cdv A outer s H E) E (startE N D) [] (defBody st) (.rt (.d (.str t)) M')) : FnE P w K mg base x (k + 1) ps T := by
  obtain ⟨f, fd, h1, h2⟩ := F.ex
  refine ⟨f, fd, h1.okX S (fun vs H Q E h => ?_) (fun cdv A outer s H vs Q E hr h => ?_), h2, h1.kp, h1.binds hb⟩
  · obtain ⟨F, z, D, t, _, rfl, _⟩ := h
    rw [hl]; rfl
  · obtain ⟨F, z, D, t, hF, rfl, hz, hT, hG⟩ := h
    obtain ⟨M', b⟩ := body f cdv A outer s H E hr D t hT
    exact b [] _ F H (repM_nil hF) (startE_rep hz) _ fun v As' F' H' s1 m1 o1 => hG v F' H' (s1.toF m1) o1
end
section
variable {X : Cx} {ρ : REnv} {M M1 : List MO} {e : Expr} {x t : Str} {k : Nat} {ps : List Str} {T : Addr → Str → Prop} {D : Addr} {p pos : Pos}
theorem ed_callE (G : FnE X.prog X.w X.K X.mg X.base x k ps T) (hr : Room k X.A) (ha : ED X ρ M e (.exc D) M1) (hs : T D t) (hg : Gl X x := by rfl)
    (hdb : (x == ("__debug__" : Str)) = false := by decide) (he : starEach (e :: []) X.env = (false, eval e X.env) :: starEach [] X.env := by rfl) (hpl : (backTo pos (starEach [] X.env)).any (·.1) = false := by rfl) :
    ED X ρ M (.Call (.Name x p) [e] [] pos) (.d (.str t)) M1 := fun As σ F H hM hE Q q => by
  obtain ⟨f, fd, F1, hm, hk, hb⟩ := G.ex
  refine ⟨_, pe_call F1 hr hg hm hk hb .nil passL (pa_cons (pe_w X e) pa_nil he) hdb he hpl, ha As σ F H hM hE _ fun v As1 F1 H1 s1 m1 o1 => ?_⟩
  obtain ⟨z, rfl, hz⟩ := o1
  exact ⟨F1, z, D, t, m1.ex, rfl, hz, hs, fun v F' H' s2 d => q v As1 F' H' (s1.trans (s2.step As1)) (s2.rep m1) d⟩
end
/-! ### the kinds of exceptions -/
def kindN : List Str := ["BadGear", "BadTooth", "BadNumber", "BadBox", "BadText", "NotFound"]
def toldN : List Str := ["gear", "tooth", "number", "box", "text", "none"]
/-- the class x, the i-th kind, as the laws tell it -/
structure Told (K : PySem.W.Frag) (mg : Str → Option Value) (x : Str) (i : Nat) : Prop where
  ex : ∃ D Wh : Addr, mg x = some (.ref D) ∧ ExcC K D ∧ (∀ j y, kindN[j]? = some y → ∃ C, mg y = some (.ref C) ∧ PySem.W.kitOne K (.ref D) (.ref C) = some (decide (i = j))) ∧
    mg "WheelError" = some (.ref Wh) ∧ PySem.W.kitOne K (.ref D) (.ref Wh) = some true ∧ PySem.W.exmOne K (.ref D) (.ref Wh) = some true ∧ PySem.W.kitOne K (.ref D) (.type "ValueError") = some true
theorem told_mk {K : PySem.W.Frag} {h : Heap} {mg : Str → Option Value} (X : K.In h) (G : h.Ns mainGlobals mg) {x : Str} {i : Nat} {D Wh C0 C1 C2 C3 C4 C5 : Addr} (a : PySem.W.nsIn K mainGlobals x = some (some (.ref D)))
    (e1 : PySem.W.findIn K (.ref D) "__getattribute__" = some (some (.builtin "BaseException.__getattribute__"))) (e2 : PySem.W.findIn K (.ref D) "__getattr__" = some none) (e3 : PySem.W.subIn K (.ref D) (.type "BaseException") = some true) (e4 : PySem.W.hasDictIn K D = true)
    (e5 : PySem.W.findIn K (.ref D) "__class__" = some (some (.builtin "object.__class__"))) (e6 : PySem.W.specialIn K (.builtin "object.__class__") "__get__" = some (some (.builtin "getset_descriptor.__get__"))) (e7 : PySem.W.takesIn K (.builtin "object.__class__") = some true) (e8 : PySem.W.mroIn K D (.type "object") = some true)
    (n0 : PySem.W.nsIn K mainGlobals "BadGear" = some (some (.ref C0))) (n1 : PySem.W.nsIn K mainGlobals "BadTooth" = some (some (.ref C1))) (n2 : PySem.W.nsIn K mainGlobals "BadNumber" = some (some (.ref C2)))
    (n3 : PySem.W.nsIn K mainGlobals "BadBox" = some (some (.ref C3))) (n4 : PySem.W.nsIn K mainGlobals "BadText" = some (some (.ref C4))) (n5 : PySem.W.nsIn K mainGlobals "NotFound" = some (some (.ref C5))) (nw : PySem.W.nsIn K mainGlobals "WheelError" = some (some (.ref Wh)))
    (k0 : PySem.W.kitOne K (.ref D) (.ref C0) = some (decide (i = 0))) (k1 : PySem.W.kitOne K (.ref D) (.ref C1) = some (decide (i = 1))) (k2 : PySem.W.kitOne K (.ref D) (.ref C2) = some (decide (i = 2)))
    (k3 : PySem.W.kitOne K (.ref D) (.ref C3) = some (decide (i = 3))) (k4 : PySem.W.kitOne K (.ref D) (.ref C4) = some (decide (i = 4))) (k5 : PySem.W.kitOne K (.ref D) (.ref C5) = some (decide (i = 5)))
    (kw : PySem.W.kitOne K (.ref D) (.ref Wh) = some true) (kv : PySem.W.kitOne K (.ref D) (.type "ValueError") = some true) (w1 : PySem.W.subIn K (.ref Wh) (.type "BaseException") = some true) (w2 : PySem.W.hasDictIn K Wh = true) (w3 : PySem.W.typeIn K (.ref Wh) = some (.type "type")) (w4 : PySem.W.subIn K (.ref D) (.ref Wh) = some true) : Told K mg x i := by
  refine ⟨D, Wh, PySem.W.mg_of X G a, ⟨e1, e2, e3, e4, e5, e6, e7, e8⟩, fun j y hy => ?_, PySem.W.mg_of X G nw, kw, PySem.W.exm_ref w1 w2 w3 w4, kv⟩
  match j, hy with
  | 0, hy => cases hy; exact ⟨C0, PySem.W.mg_of X G n0, k0⟩
  | 1, hy => cases hy; exact ⟨C1, PySem.W.mg_of X G n1, k1⟩
  | 2, hy => cases hy; exact ⟨C2, PySem.W.mg_of X G n2, k2⟩
  | 3, hy => cases hy; exact ⟨C3, PySem.W.mg_of X G n3, k3⟩
  | 4, hy => cases hy; exact ⟨C4, PySem.W.mg_of X G n4, k4⟩
  | 5, hy => cases hy; exact ⟨C5, PySem.W.mg_of X G n5, k5⟩
  | j + 6, hy => exact absurd hy (by simp [kindN])
/-- what _law_error answers -/
def ToldT (K : PySem.W.Frag) (mg : Str → Option Value) : Addr → Str → Prop := fun D t => ∃ x i, Told K mg x i ∧ mg x = some (.ref D) ∧ toldN[i]? = some t
theorem ToldT.of {K : PySem.W.Frag} {mg : Str → Option Value} {x : Str} {i : Nat} {D : Addr} {t : Str} (h : Told K mg x i) (hD : mg x = some (.ref D)) (ht : toldN[i]? = some t) : ToldT K mg D t := ⟨x, i, h, hD, ht⟩
theorem Told.at {K : PySem.W.Frag} {mg : Str → Option Value} {x : Str} {i : Nat} {D : Addr} (h : Told K mg x i) (hD : mg x = some (.ref D)) : ExcC K D ∧ (∀ j y C, kindN[j]? = some y → mg y = some (.ref C) → PySem.W.kitOne K (.ref D) (.ref C) = some (decide (i = j))) ∧
    (∀ C, mg "WheelError" = some (.ref C) → PySem.W.kitOne K (.ref D) (.ref C) = some true ∧ PySem.W.exmOne K (.ref D) (.ref C) = some true) ∧ PySem.W.kitOne K (.ref D) (.type "ValueError") = some true := by
  obtain ⟨D', Wh, h1, h2, h3, h4, h5, h6, h7⟩ := h.ex
  rw [hD] at h1; cases h1
  refine ⟨h2, fun j y C hj hC => ?_, fun C hC => ?_, h7⟩
  · obtain ⟨C', q1, q2⟩ := h3 j y hj
    rw [hC] at q1; cases q1; exact q2
  · rw [hC] at h4; cases h4; exact ⟨h5, h6⟩
theorem nm_global {X : Cx} {x : Str} {C : Addr} (hm : X.mg x = some (.ref C)) (hg : Gl X x := by rfl) (hd : (x == ("__debug__" : Str)) = false := by decide) : Names X x (.ref C) := ⟨hg, hd, .inl hm⟩
end WC

/-! sets, sorting -/
namespace WC
open PySem L2 PySem.Spec PyProof.Rows
section
variable {P : Program} {w : World} {A : Around} {E : Value → Shared → Prop} {s : Shared} {a : Addr}
/-- an empty set, new -/
abbrev nSet (w : World) : Obj := { cls := .type "set", dict := none, data := .set #[] 0 (.fresh 0 0 (!w.params.followText "set-order")) }
theorem set_listI {l : Addr} {items : Array Value} (zs : List Int) {Q : Value → Shared → Prop} (hnd : A.handled = none) (hL : s.heap.IsList l items) (hi : IntsAre items.toList zs) (hbd : zs.length + 1 < scanBound)
    (fin : ∀ (h' : Heap) (tk c : Nat), SetR w h' s.heap.objs.size (fun j => decide (j ∈ zs)) c → c ≤ zs.length → (∀ b o, s.heap.get? b = some o → h'.get? b = some o) → Q (.ref s.heap.objs.size) { s with heap := h', toks := tk }) :
    wpAny (model P w) A (call (.type "set") [.ref l]) Q E s := by
  have hsize : items.size = zs.length := by have q := hi.length; rw [Array.length_toList] at q; exact q
  obtain ⟨c, tl, hm1⟩ := F.called_set.mro; have hm2 := F.called_set.made; have hm3 := F.called_set.sub
  refine wpAny_call (codeAny_of_tree ?_); show wpAny _ _ (callAny (.type "set") _) _ _ _
  refine wpAny_pure ⟨Code.quiet_builtin _ (by decide +kernel), codeAny_builtin F.entry_type_call ?_⟩; rw [Around.under_plain (weight_type_call_type "set" [.ref l] []) rfl]
  have hn1 := F.called_set.notType; have hn2 := F.called_set.canCreate; have hn3 := F.typeCall_set_1 (.ref l)
  repeat (any_goals (first | assumption | wp_step))
  refine codeAny_mono (code_set_led1 (.ref l) (E := E) (Q₁ := fun obj s₁ => obj = .ref s.heap.objs.size ∧ s₁ = { s with heap := s.heap.push (nSet w) }) ⟨rfl, rfl⟩) fun r s₁ hr => ?_
  match r, hr with
  | .error e, hr => exact hr
  | .ok (.ret obj), hr =>
    obtain ⟨rfl, rfl⟩ := hr
    have o1 : (s.heap.push (nSet w)).get? s.heap.objs.size = some (nSet w) := Heap.get?_push_size _ rfl
    have o2 : Shared.TypeIs { s with heap := s.heap.push (nSet w) } (.ref s.heap.objs.size) "set" := ⟨_, o1, rfl⟩
    have o3 := F.called_set.init.lookup; have o4 := F.called_set.init.bind (.ref s.heap.objs.size)
    repeat (any_goals (first | assumption | wp_step))
    refine codeAny_mono (codeAny_call_builtin (R := wants (fun r s₂ => r = .none ∧ ∃ h' tk c, s₂ = { s with heap := h', toks := tk } ∧ SetR w h' s.heap.objs.size (fun j => decide (j ∈ zs)) c ∧ c ≤ zs.length ∧ (∀ b o, s.heap.get? b = some o → h'.get? b = some o)) E) F.called_set.init.plain F.entry_set_init (check_set_init_1 o2 ?_)) fun r2 s2 hr2 => ?_
    · obtain ⟨⟨oc, odict, odat, osl⟩, hol, e1, nl, e2⟩ := hL; simp only at e1 e2; subst e1; subst e2
      have hol2 : (s.heap.push (nSet w)).get? l = some { cls := .type "list", dict := odict, data := .seq items nl, slots := osl } := Heap.get?_push_of_some _ hol
      have q1 := F.sub_list_set; have q2 := F.sub_list_frozenset
      have q3 : (Value.type "list" == Value.type "dict") = false := by decide
      have hL1 : (s.heap.push (nSet w)).IsList l items := ⟨_, hol2, rfl, nl, rfl⟩
      unfold Builtin.«set.__init__» noKeywords Builtin.Frozenset.updateFrom; generalize hPI : pyIter = PI
      wp_walk; subst hPI; refine wpAny_pyIter_list hL1 ?_; refine wpAny_bind (wpAny_runValue ?_)
      have lS : l < s.heap.objs.size := Heap.lt_size hol; have hn4 : A.in1.in1.in1.handled = none := by simp [hnd]
      have lI : l ≠ (s.heap.push (nSet w)).objs.size := by rw [Heap.size_push]; exact Nat.ne_of_lt (Nat.lt_succ_of_lt lS)
      have SI : s.heap.objs.size ∉ [(s.heap.push (nSet w)).objs.size, l] := by
        rw [Heap.size_push]; intro z; simp at z; exact absurd z (Nat.ne_of_gt lS)
      refine set_update_ints ((Walks.list hn4 _ l lI items).toS) s.heap.objs.size SI zs hsize hbd (fun i v hv => ?_) (items.size - 0) 0 _ (by omega) (Nat.zero_le _) ⟨⟨_, Heap.get?_push_size _ rfl, rfl, rfl⟩, (hL1.push _)⟩ ?_ ?_
      · have hlt : i < zs.length := by rw [← hsize]; exact (Array.getElem?_eq_some_iff.mp hv).1
        obtain ⟨t, e⟩ := IntsAre.int_at hi i v (by rw [Array.getElem?_toList]; exact hv)
        exact ⟨zs[i], t, List.getElem?_eq_getElem hlt, by rw [e, List.getD_eq_getElem?_getD, List.getElem?_eq_getElem hlt]; rfl⟩
      · exact ⟨0, Nat.le_refl 0, setR_new_at (Heap.get?_push_of_some _ o1)⟩
      · rintro ⟨h', g2, d2, tk2, os2⟩ c2 hm hc2 hS2
        obtain rfl : g2 = s.gens := hm.gens; obtain rfl : d2 = s.drawn := hm.drawn; obtain rfl : os2 = s.os := hm.os
        show wpAny _ _ _ _ _ _; refine wpAny_pure ?_; show wpAny _ _ (ret Value.none) _ _ _; rw [hsize] at hc2
        refine wpAny_pure ⟨rfl, h', tk2, c2, rfl, hS2, hc2, fun b o e => hm.heap b o ?_ (Heap.get?_push_of_some _ (Heap.get?_push_of_some _ e))⟩
        have b0 : b < s.heap.objs.size := Heap.lt_size e
        intro z; rw [Heap.size_push] at z; simp at z; rcases z with z | z
        · exact absurd z (Nat.ne_of_lt b0)
        · exact absurd z (Nat.ne_of_lt (Nat.lt_succ_of_lt b0))
    · match r2, hr2 with
      | .error e, hr2 => exact hr2
      | .ok (.ret r), hr2 =>
        obtain ⟨rfl, h', tk, c2, rfl, z1, z2, z3⟩ := hr2
        repeat (any_goals (first | assumption | wp_step))
        exact fin _ _ _ z1 z2 z3
theorem sorted_setN {S : Int → Bool} {n : Nat} {Q : Value → Shared → Prop} (R : SetR w s.heap a S n) (hnd : A.handled = none)
    (fin : ∀ s' p (out : Array Value) (c : Nat) (ns : List Int), (∀ b o, s.heap.get? b = some o → s'.heap.get? b = some o) → s'.gens = s.gens → s'.os = s.os → s.heap.objs.size ≤ p → s'.heap.get? p = some (seqObj "list" out c) → IntsAre out.toList ns → ns.Pairwise (· < ·) → (∀ k, k ∈ ns ↔ S k = true) → ns.length = n → Q (.ref p) s') :
    wpAny (model P w) A (call (.builtin "sorted") [.ref a]) Q E s := by
  obtain ⟨o, es, ep, t, ho, hex, hd, g, nd, hm, hb, hf, hn, hr, hl⟩ := R
  refine Calls.call_function_entry kind_sorted plain_sorted entry_sorted (args_sorted1 _) ?_; unfold Builtin.«sorted»
  refine wpAny_bind (m := checkCount "sorted" 1 1 _) (wpAny_pure ?_); refine wpAny_bind (collect_set (A := A.in1) hnd ⟨o, ho, hex.1, hd⟩ hf hb hr hl fun s1 vs k1 hz g1 o1 pm => ?_)
  have len1 : vs.length = n := by rw [pm.length_eq, List.length_map, Array.length_toList, hn]
  have int1 : IntsAre vs (vs.map Builtin.Re.reRawOf) := ints_of vs fun v hv => by
    obtain ⟨e, he, q⟩ := List.mem_map.mp (pm.mem_iff.mp hv); obtain ⟨k, tk, z, _⟩ := g e he; exact ⟨k, tk, by rw [← q, z]⟩
  have per1 : (vs.map Builtin.Re.reRawOf).Perm (es.toList.map keyOf) := by have q := pm.map Builtin.Re.reRawOf; rw [List.map_map] at q; exact q
  have sb : scanBound = 4096 := rfl
  refine wpAny_bind (wpAny_newList ?_ (by rw [len1, sizeLine_eq, ← hn]; omega))
  have hoL : (s1.heap.push (seqObj "list" vs.toArray 0)).get? s1.heap.objs.size = some (seqObj "list" vs.toArray 0) := Heap.get?_push_size _ rfl
  refine wpAny_bind (wpAny_holding (wpAny_call_entry slot_list_sort ⟨_, hoL, rfl⟩ entry_list_sort (SrtO.list_sort_ord SrtO.swo_int hoL (by rw [len1, sizeLine_eq, ← hn]; omega) (fun h2 => SrtO.ints_sortable int1 h2) fun out x1 x2 => ⟨_, rfl, ?_⟩) (args_list_sort _)))
  obtain ⟨y1, y2, y3⟩ := SrtO.ints_out int1 x1 x2
  obtain ⟨c, hc⟩ := sortedHeap_at (vs := vs) (out := out.toArray) hoL
  have per2 : (out.map SrtO.iv).Perm (es.toList.map keyOf) := y2.trans per1
  refine wpAny_pure ⟨_, rfl, fin _ s1.heap.objs.size out.toArray c (out.map SrtO.iv) (fun b u e => ?_) g1 o1 hz hc y1 (lt_of_le_nodup _ y3 (per2.nodup_iff.mpr nd)) (fun k => by rw [per2.mem_iff, ← hm k]) (by rw [per2.length_eq, List.length_map, Array.length_toList, hn])⟩
  have q := k1 b u e; have lt1 := Heap.lt_size q
  show (sortedHeap (s1.heap.push (seqObj "list" vs.toArray 0)) s1.heap.objs.size vs out.toArray).get? b = some u; rw [sortedHeap_old (Nat.ne_of_lt lt1) (by rw [size_push']; exact Nat.lt_succ_of_lt lt1)]; exact Heap.get?_push_of_some _ q
end
end WC

namespace WC
open PySem L2 PySem.Spec PyProof.Rows
/-! the sorted lists -/
def sins (k : Int) : List Int → List Int
  | [] => [k]
  | x :: r => if k < x then k :: x :: r else if k = x then x :: r else x :: sins k r
def ssort (ns : List Int) : List Int := ns.foldr sins []
theorem mem_sins (k j : Int) : ∀ l : List Int, j ∈ sins k l ↔ j = k ∨ j ∈ l
  | [] => by simp [sins]
  | x :: r => by
    unfold sins
    split
    · simp
    · split
      · next h => subst h; simp
      · simp only [List.mem_cons, mem_sins k j r]; grind
theorem asc_sins (k : Int) : ∀ l : List Int, l.Pairwise (· < ·) → (sins k l).Pairwise (· < ·)
  | [], _ => by simp [sins]
  | x :: r, h => by
    obtain ⟨h1, h2⟩ := List.pairwise_cons.mp h
    unfold sins
    split
    · next c => exact List.pairwise_cons.mpr ⟨fun y hy => by
        rcases List.mem_cons.mp hy with rfl | hy
        · exact c
        · exact Int.lt_trans c (h1 y hy), h⟩
    · split
      · exact h
      · next c1 c2 => exact List.pairwise_cons.mpr ⟨fun y hy => by
          rcases (mem_sins k y r).mp hy with rfl | hy
          · omega
          · exact h1 y hy, asc_sins k r h2⟩
theorem asc_ssort : ∀ l : List Int, (ssort l).Pairwise (· < ·)
  | [] => by simp [ssort]
  | x :: r => asc_sins x _ (asc_ssort r)
theorem mem_ssort (j : Int) : ∀ l : List Int, j ∈ ssort l ↔ j ∈ l
  | [] => by simp [ssort]
  | x :: r => by
    show j ∈ sins x (ssort r) ↔ _
    rw [mem_sins, mem_ssort j r, List.mem_cons]
theorem asc_uniq : ∀ {l m : List Int}, l.Pairwise (· < ·) → m.Pairwise (· < ·) → (∀ k, k ∈ l ↔ k ∈ m) → l = m
  | [], [], _, _, _ => rfl
  | [], y :: m, _, _, h => absurd ((h y).mpr (by simp)) (by simp)
  | x :: l, [], _, _, h => absurd ((h x).mp (by simp)) (by simp)
  | x :: l, y :: m, hl, hm, h => by
    obtain ⟨a1, a2⟩ := List.pairwise_cons.mp hl
    obtain ⟨b1, b2⟩ := List.pairwise_cons.mp hm
    have e : x = y := by
      have p := (h x).mp (by simp)
      have q := (h y).mpr (by simp)
      rcases List.mem_cons.mp p with p | p
      · exact p
      · rcases List.mem_cons.mp q with q | q
        · exact q.symm
        · have := a1 y q; have := b1 x p; omega
    subst e
    rw [asc_uniq a2 b2 fun k => ?_]
    have p := h k
    simp only [List.mem_cons] at p
    constructor
    · intro z
      rcases p.mp (.inr z) with q | q
      · subst q; exact absurd (a1 k z) (by omega)
      · exact q
    · intro z
      rcases p.mpr (.inr z) with q | q
      · subst q; exact absurd (b1 k z) (by omega)
      · exact q
theorem ssort_of {l m : List Int} (h : m.Pairwise (· < ·)) (e : ∀ k, k ∈ m ↔ k ∈ l) : m = ssort l := asc_uniq h (asc_ssort l) fun k => (e k).trans (mem_ssort k l).symm
def iins (k : Int) : List Int → List Int
  | [] => [k]
  | x :: r => if k ≤ x then k :: x :: r else x :: iins k r
def isort (ns : List Int) : List Int := ns.foldr iins []
theorem perm_iins (k : Int) : ∀ l : List Int, (iins k l).Perm (k :: l)
  | [] => by simp [iins]
  | x :: r => by
    unfold iins
    split
    · exact .refl _
    · exact ((perm_iins k r).cons x).trans (.swap k x r)
theorem up_iins (k : Int) : ∀ l : List Int, l.Pairwise (· ≤ ·) → (iins k l).Pairwise (· ≤ ·)
  | [], _ => by simp [iins]
  | x :: r, h => by
    obtain ⟨h1, h2⟩ := List.pairwise_cons.mp h
    unfold iins
    split
    · next c => exact List.pairwise_cons.mpr ⟨fun y hy => by
        rcases List.mem_cons.mp hy with rfl | hy
        · exact c
        · exact Int.le_trans c (h1 y hy), h⟩
    · next c => exact List.pairwise_cons.mpr ⟨fun y hy => by
        rcases List.mem_cons.mp ((perm_iins k r).mem_iff.mp hy) with rfl | hy
        · omega
        · exact h1 y hy, up_iins k r h2⟩
theorem up_isort : ∀ l : List Int, (isort l).Pairwise (· ≤ ·)
  | [] => by simp [isort]
  | x :: r => up_iins x _ (up_isort r)
theorem perm_isort : ∀ l : List Int, (isort l).Perm l
  | [] => by simp [isort]
  | x :: r => (perm_iins x _).trans ((perm_isort r).cons x)
theorem up_uniq : ∀ {l m : List Int}, l.Pairwise (· ≤ ·) → m.Pairwise (· ≤ ·) → l.Perm m → l = m
  | [], m, _, _, h => by rw [List.nil_perm.mp h]
  | x :: l, [], _, _, h => absurd h.symm (by simp)
  | x :: l, y :: m, hl, hm, h => by
    obtain ⟨a1, a2⟩ := List.pairwise_cons.mp hl
    obtain ⟨b1, b2⟩ := List.pairwise_cons.mp hm
    have e : x = y := by
      have p := h.mem_iff.mp (List.mem_cons_self (a := x) (l := l))
      have q := h.mem_iff.mpr (List.mem_cons_self (a := y) (l := m))
      rcases List.mem_cons.mp p with p | p
      · exact p
      · rcases List.mem_cons.mp q with q | q
        · exact q.symm
        · have := a1 y q; have := b1 x p; omega
    subst e
    rw [up_uniq a2 b2 (List.perm_cons x |>.mp h)]
theorem isort_of {l m : List Int} (h : m.Pairwise (· ≤ ·)) (e : m.Perm l) : m = isort l := up_uniq h (up_isort l) (e.trans (perm_isort l).symm)
theorem isort_len (l : List Int) : (isort l).length = l.length := (perm_isort l).length_eq
theorem isort_asc {l : List Int} (h : l.Nodup) : isort l = ssort l := by
  refine ssort_of ?_ fun k => (perm_isort l).mem_iff
  exact lt_of_le_nodup _ (up_isort l) ((perm_isort l).nodup_iff.mpr h)
section
variable {X : Cx} {ρ : REnv} {M M1 : List MO} {e : Expr} {r : Slot} {p p2 q pos : Pos} {ns : List Int}
def tSortSet (K : PySem.W.Frag) (ta : TE) : TE := fun σ H Q => ta σ H fun x H1 => ∃ (l : Addr) (ns : List Int), x = V.ref l ∧ SqL K H1 l (ns.map V.int) ∧ ns.length < 4000 ∧ ∀ a, H1 a = none → Q (.ref a) (upd H1 a (.lst ((ssort ns).map V.int)))
def tCountSet (K : PySem.W.Frag) (ta : TE) : TE := fun σ H Q => ta σ H fun x H1 => ∃ (l : Addr) (ns : List Int), x = V.ref l ∧ SqL K H1 l (ns.map V.int) ∧ ns.length < 4000 ∧ Q (.int (ssort ns).length) H1
theorem ssort_len_le : ∀ l : List Int, (ssort l).length ≤ l.length
  | [] => by simp [ssort]
  | x :: r => by
    have h : ∀ (k : Int) (m : List Int), (sins k m).length ≤ m.length + 1 := fun k m => by
      induction m with
      | nil => simp [sins]
      | cons y t ih => unfold sins; split <;> (try split) <;> simp <;> omega
    have a := h x (ssort r)
    have b := ssort_len_le r
    show (sins x (ssort r)).length ≤ _
    rw [List.length_cons]; omega
theorem pe_sortSet {ta : TE} (hc : X.calm = true) (hg : Gl X "sorted") (hm : X.mg "sorted" = none) (hg2 : Gl X "set") (hm2 : X.mg "set" = none) (he : PE X e ta) (na : starEach [e] X.env = (false, eval e X.env) :: starEach [] X.env := by rfl) :
    PE X (.Call (.Name "sorted" p) [.Call (.Name "set" p2) [e] [] q] [] pos) (tSortSet X.K ta) := by
  refine ⟨fun pins s σ H Q I h => Call_ (ld_blt I hg hm (show bootBuiltins "sorted" = some (.builtin "sorted") by decide +kernel) ?_)⟩
  refine callWith_builtin1 (args_cons (Call_ (ld_blt I hg2 hm2 boot_set ?_)) rfl) rfl rfl
  refine callWith_type1 (args_cons (thn (he.run pins s σ H _ I h) fun v s1 ⟨x, H1, I1, r1, l, ns, ex, hq, hl, q1⟩ => args_nil ?_) na) na rfl
  subst ex; cases r1
  obtain ⟨its, rv, pl, hz⟩ := I1.list hq
  refine set_listI ns (I1.ok.hd hc) pl.isList (by simpa using rv.ints) (by have : scanBound = 4096 := rfl; omega) fun h' tk c hS hcl hk => args_nil ?_
  have I2 : Inv X pins σ H1 { s1 with heap := h', toks := tk } := I1.kept hk
  generalize hs2 : ({ s1 with heap := h', toks := tk } : Shared) = s2 at I2 ⊢
  have hS2 : SetR X.w s2.heap s1.heap.objs.size (fun j => decide (j ∈ ns)) c := by rw [← hs2]; exact hS
  refine sorted_setN hS2 (I2.ok.hd hc) fun s' p' out c' ns' k g o hp hgt hi asc mem len => ?_
  have e1 : ns' = ssort ns := ssort_of asc fun k => by rw [mem k]; simp
  subst e1
  have e2 : ((ssort ns).map V.int).length ≤ sizeLine := by have := ssort_len_le ns; rw [List.length_map, sizeLine_eq]; omega
  have free : H1 p' = none := I2.hok.fresh hp
  have J : Inv X pins σ (upd H1 p' (.lst ((ssort ns).map V.int))) { s2 with heap := s'.heap, gens := s'.gens, drawn := s'.drawn, toks := s'.toks } := I2.call (ch := []) (Un.laid k hp free) (I2.hok.laid k hp ⟨e2, out.toList, c', vals_of_ints hi, hgt⟩) (by rw [g]; exact I2.bare) (fun _ z => nomatch z)
  have e3 : s' = { s2 with heap := s'.heap, gens := s'.gens, drawn := s'.drawn, toks := s'.toks } := by cases s'; cases s2; cases o; rfl
  rw [e3]; exact ⟨.ref p', _, J, rfl, q1 p' free⟩
theorem pe_countSet {ta : TE} (hc : X.calm = true) (hg : Gl X "len") (hm : X.mg "len" = none) (hg2 : Gl X "set") (hm2 : X.mg "set" = none) (he : PE X e ta) (na : starEach [e] X.env = (false, eval e X.env) :: starEach [] X.env := by rfl) :
    PE X (.Call (.Name "len" p) [.Call (.Name "set" p2) [e] [] q] [] pos) (tCountSet X.K ta) := by
  refine ⟨fun pins s σ H Q I h => Call_ (ld_blt I hg hm (show bootBuiltins "len" = some (.builtin "len") by decide +kernel) ?_)⟩
  refine callWith_builtin1 (args_cons (Call_ (ld_blt I hg2 hm2 boot_set ?_)) rfl) rfl rfl
  refine callWith_type1 (args_cons (thn (he.run pins s σ H _ I h) fun v s1 ⟨x, H1, I1, r1, l, ns, ex, hq, hl, q1⟩ => args_nil ?_) na) na rfl
  subst ex; cases r1
  obtain ⟨its, rv, pl, hz⟩ := I1.list hq
  refine set_listI ns (I1.ok.hd hc) pl.isList (by simpa using rv.ints) (by have : scanBound = 4096 := rfl; omega) fun h' tk c hS hcl hk => args_nil ?_
  have I2 : Inv X pins σ H1 { s1 with heap := h', toks := tk } := I1.kept hk
  obtain ⟨o, es, ep, t, ho, hex, hd, hgood, hnd, hmem, hb, hf, hn, _, _⟩ := hS
  have e1 : es.size = (ssort ns).length := by
    have pm : (es.toList.map keyOf).Perm (ssort ns) := by
      refine (List.perm_ext_iff_of_nodup hnd ((asc_ssort ns).imp fun h => by omega)).mpr fun k => ?_
      rw [mem_ssort, ← hmem k]; simp
    rw [← pm.length_eq, List.length_map, Array.length_toList]
  refine call_len_set ho hex hd hf (by have := fits_of_scanBound hb; omega) ⟨.int (ssort ns).length, H1, I2.tok _, ⟨_, by rw [e1]⟩, q1⟩
theorem ed_sortSet (hm : X.mg "sorted" = none) (hm2 : X.mg "set" = none) (h : ED X ρ M e r M1) (rd : Rds M1 r (.list (ns.map .int))) (hn : ns.length < 4000) (hc : X.calm = true := by rfl) (hg : Gl X "sorted" := by rfl) (hg2 : Gl X "set" := by rfl)
    (na : starEach [e] X.env = (false, eval e X.env) :: starEach [] X.env := by rfl) : ED X ρ M (.Call (.Name "sorted" p) [.Call (.Name "set" p2) [e] [] q] [] pos) (.own M1.length) (M1 ++ [.lst ((ssort ns).map .int)]) := fun As σ F H hM hE Q q =>
  ⟨_, pe_sortSet hc hg hm hg2 hm2 (pe_w X e) na, h As σ F H hM hE _ fun v As1 F1 H1 s1 m1 o1 => by
    obtain ⟨l, xs, rfl, k1, k2⟩ := rd_list m1 o1 rd
    rw [k2.ints_of] at k1
    refine ⟨l, ns, rfl, SqL.of k1, hn, fun a ha => ?_⟩
    obtain ⟨s2, m2⟩ := newM m1 ha (DvAll.ints (F := F1) (ssort ns))
    exact q _ _ _ _ (s1.trans s2) m2 ⟨a, by rw [← m1.len]; simp, rfl⟩⟩
theorem ed_countSet (hm : X.mg "len" = none) (hm2 : X.mg "set" = none) (h : ED X ρ M e r M1) (rd : Rds M1 r (.list (ns.map .int))) (hn : ns.length < 4000) (hc : X.calm = true := by rfl) (hg : Gl X "len" := by rfl) (hg2 : Gl X "set" := by rfl)
    (na : starEach [e] X.env = (false, eval e X.env) :: starEach [] X.env := by rfl) : ED X ρ M (.Call (.Name "len" p) [.Call (.Name "set" p2) [e] [] q] [] pos) (.d (.int (ssort ns).length)) M1 := fun As σ F H hM hE Q q =>
  ⟨_, pe_countSet hc hg hm hg2 hm2 (pe_w X e) na, h As σ F H hM hE _ fun v As1 F1 H1 s1 m1 o1 => by
    obtain ⟨l, xs, rfl, k1, k2⟩ := rd_list m1 o1 rd
    rw [k2.ints_of] at k1
    exact ⟨l, ns, rfl, SqL.of k1, hn, q _ _ _ _ s1 m1 (.int _)⟩⟩
theorem ed_sortI (hm : X.mg "sorted" = none) (h : ED X ρ M e r M1) (rd : Rds M1 r (.list (ns.map .int))) (hg : Gl X "sorted" := by rfl) (hs : starEach (e :: []) X.env = (false, eval e X.env) :: starEach [] X.env := by rfl) (hpl : (backTo pos (starEach [] X.env)).any (·.1) = false := by rfl) :
    ED X ρ M (.Call (.Name "sorted" p) [e] [] pos) (.own M1.length) (M1 ++ [.lst ((isort ns).map .int)]) :=
  ed_callB (id := "sorted") cr_sortedI hg hm (by decide +kernel) (ad_cons h ad_nil hs) (fun As F H vs Q m o q => by
    cases o with
    | cons o1 o2 =>
      cases o2
      obtain ⟨l, xs, rfl, k1, k2⟩ := rd_list m o1 rd
      rw [k2.ints_of] at k1
      refine ⟨l, ns, rfl, SqL.of k1, fun ns' a hp hu ha => ?_⟩
      rw [isort_of hu hp]
      obtain ⟨s2, m2⟩ := newM m ha (DvAll.ints (F := F) (isort ns))
      exact q _ _ _ _ s2 m2 ⟨a, by rw [← m.len]; simp, rfl⟩) (he := hs) (hpl := hpl)
end
end WC

/-! data in lists of data; contacts by rolling -/
namespace WC
open PySem L2
theorem units65 {k : Nat} {A : Around} (r : Room k A) : A.units + 65 < cLine := by have := r.un; omega
theorem nbAll_mem : ∀ {ds : List PyData}, nbD.nbAll ds = true → ∀ d ∈ ds, nbD d = true
  | [], _, d, h => absurd h (by simp)
  | x :: r, h, d, hd => by
    simp only [nbD.nbAll, Bool.and_eq_true] at h
    rcases List.mem_cons.mp hd with rfl | hd
    · exact h.1
    · exact nbAll_mem h.2 d hd
theorem any_eqv {d : PyData} {ds : List PyData} {g : Nat} (hd : Gd g d) (n1 : nbD d = true) (n2 : nbD.nbAll ds = true) : (ds.any fun z => PyData.eqv z d) = true ↔ d ∈ ds := by
  rw [List.any_eq_true]
  constructor
  · rintro ⟨z, hz, e⟩
    have := eqv_eq (nbAll_mem n2 z hz) n1 e
    exact this ▸ hz
  · exact fun h => ⟨d, h, eqv_self hd⟩
section
variable {X : Cx} {ρ : REnv} {M M1 M2 : List MO} {o a : Expr} {r r1 r2 : Slot} {apos pos : Pos} {d : PyData} {ds : List PyData} {j g1 g2 : Nat} {k : Bool}
theorem cd_inD (hu : X.A.units + 65 < cLine) (h1 : Rds M r1 d) (h2 : Rds M r2 (.list ds)) (s1 : Gd g1 d) (s2 : Gd g2 (.list ds)) (n1 : nbD d = true) (n2 : nbD (.list ds) = true) (hk : k = true ↔ d ∈ ds) (l1 : g1 ≤ 64 := by decide) (l2 : g2 ≤ 64 := by decide) : CmpD X .In M r1 r2 k :=
  ⟨_, op_inD hu, fun As F H v1 v2 Q m o1 o2 q => ⟨d, ds, (h1.dv m o1).dp, (h2.dv m o2).dp, s1.shaped l1, s2.shaped l2, by
    have e : (ds.any fun z => PyData.eqv z d) = k := Bool.eq_iff_iff.mpr ((any_eqv s1 n1 n2).trans hk.symm)
    rw [e]; exact q⟩⟩
theorem ed_indexD (hu : X.A.units + 65 < cLine) (h : ED X ρ M o r M1) (ha : ED X ρ M1 a (.d d) M2) (rd1 : Rds M1 r (.list ds)) (rd : Rds M2 r (.list ds)) (s1 : Gd g1 d) (s2 : Gd g2 (.list ds)) (n1 : nbD d = true) (n2 : nbD (.list ds) = true) (hj : ds[j]? = some d) (hno : ∀ m, m < j → ds[m]? ≠ some d)
    (l1 : g1 ≤ 64 := by decide) (l2 : g2 ≤ 64 := by decide) (hbase : attributeBase o "index" X.env (eval o X.env) = eval o X.env := by rfl)
    (hfew : ((backTo pos (starEach (a :: []) X.env)).all (fun x => !x.1) && (backToKw pos (keywordEach [] X.env)).all (fun x => x.1.isSome) && decide ((a :: []).length + ([] : List Keyword).length + (if ([] : List Keyword).isEmpty then 0 else 1) < 30)) = true := by rfl)
    (hline : (apos.endLine == pos.line) = true := by rfl) (hs : starEach (a :: []) X.env = (false, eval a X.env) :: starEach [] X.env := by rfl) (hplain : (backTo pos (starEach [] X.env)).any (·.1) = false := by rfl) :
    ED X ρ M (.Call (.Attribute o "index" apos) [a] [] pos) (.d (.int j)) M2 := fun As σ F H hM hE Q q =>
  ⟨_, pe_bm PySem.F.plainAttrs_list PySem.F.slot_list_index PySem.F.type_list_index (mt_indexD hu) (pe_w X o) (pa_cons (pe_w X a) pa_nil hs) hbase hfew hline hs hplain, h As σ F H hM hE _ fun v As1 F1 H1 s1' m1 o1 => by
    obtain ⟨l, xs, rfl, k1, k2⟩ := rd_list m1 o1 rd1
    refine ⟨.inl ⟨rfl, _, SqL.of k1⟩, ha As1 σ F1 H1 m1 (hE.step s1') _ fun w As2 F2 H2 s2' m2 o2 => ?_⟩
    refine ⟨l, w, d, ds, j, d, rfl, rfl, (rd.dv m2 (o1.step s2')).dp, (Dv.mono m2.ex o2).dp, s2.shaped l2, s1.shaped l1, hj, eqv_self s1, fun m z hm hz => ?_, q _ _ _ _ (s1'.trans s2') m2 (.int _)⟩
    cases e : PyData.eqv z d with
    | false => rfl
    | true => exact absurd (eqv_eq (nbAll_mem n2 z (List.mem_of_getElem? hz)) n1 e ▸ hz) (hno m hm)⟩
end
section
variable {N n st tooth own : Nat} {s : Str}
theorem roll_get {L i : Nat} (h : i < L) : (rollD N n st L)[i]? = some (.tuple [.int ((st + i) % N : Nat), .int (i % n : Nat)]) := by
  unfold rollD; rw [List.getElem?_map, List.getElem?_range h]; rfl
theorem roll_at (hN : 0 < N) (hn : 0 < n) (k : Nat) : atI (rollD N n st (lenN N n)) ((k : Int) % ((rollD N n st (lenN N n)).length : Int)) = some (.tuple [.int ((st + k) % N : Nat), .int (k % n : Nat)]) := by
  rw [rollD_len, ← Int.natCast_emod]
  have lp := lenN_pos hN hn
  rw [atI_pos (roll_get (Nat.mod_lt k lp)), Nat.mod_mod_of_dvd _ (show n ∣ lenN N n from Nat.dvd_lcm_right N n)]
  have : (st + k % lenN N n) % N = (st + k) % N := by rw [Nat.add_mod, Nat.mod_mod_of_dvd _ (show N ∣ lenN N n from Nat.dvd_lcm_left N n), ← Nat.add_mod]
  rw [this]
theorem pair_eq {a b c d : Nat} (h : (PyData.tuple [.int (a : Int), .int (b : Int)]) = .tuple [.int (c : Int), .int (d : Int)]) : a = c ∧ b = d := by
  injection h with h
  injection h with h1 h2
  injection h2 with h2 h3
  injection h1 with h1
  injection h2 with h2
  omega
theorem roll_mem {L : Nat} : (PyData.tuple [.int (tooth : Nat), .int (own : Nat)]) ∈ rollD N n st L ↔ ∃ i, i < L ∧ (st + i) % N = tooth ∧ i % n = own := by
  unfold rollD
  rw [List.mem_map]
  constructor
  · rintro ⟨i, h, e⟩
    exact ⟨i, List.mem_range.mp h, pair_eq e⟩
  · rintro ⟨i, h, rfl, rfl⟩
    exact ⟨i, List.mem_range.mpr h, rfl⟩
theorem roll_none (hN : 0 < N) (hn : 0 < n) (ht : tooth < N) (h : metO N n st tooth own = none) (L : Nat) : (PyData.tuple [.int (tooth : Nat), .int (own : Nat)]) ∉ rollD N n st L := fun m => by
  obtain ⟨i, _, a, b⟩ := roll_mem.mp m
  exact met_no hN hn ht h i ⟨a, b⟩
theorem roll_first (hN : 0 < N) (hn : 0 < n) (ht : tooth < N) (ho : own < n) {t : Nat} (h : metO N n st tooth own = some t) :
    (rollD N n st (lenN N n))[t]? = some (.tuple [.int (tooth : Nat), .int (own : Nat)]) ∧ ∀ m, m < t → (rollD N n st (lenN N n))[m]? ≠ some (.tuple [.int (tooth : Nat), .int (own : Nat)]) := by
  obtain ⟨a, b, lt, all⟩ := met_spec hN hn ht ho h
  refine ⟨by rw [roll_get lt, a, b], fun m hm e => ?_⟩
  rw [roll_get (by omega)] at e
  have := (all m).mp (pair_eq (Option.some.inj e))
  rw [Nat.mod_eq_of_lt (by omega)] at this
  omega
theorem ring_count (hN : 0 < N) (hst : st < N) (ht : tooth < N) : cntF (lenN N n) (fun i => decide ((st + i) % N = tooth)) = rndN N n := by
  have e : cntF (lenN N n) (fun i => decide ((st + i) % N = tooth)) = cntF (lenN N n) (fun i => decide (i % N = firN N st tooth)) := cntF_congr fun u _ => decide_eq_decide.mpr (fir_iff hst ht u)
  have fl := fir_lt (st := st) (tooth := tooth) hN
  rw [e, cntF_mod fl, len_rnd hN, Nat.add_comm, Nat.add_mul_div_right _ _ hN, Nat.div_eq_of_lt (by omega), Nat.zero_add]
theorem gathI_len (m : Nat) (f : Nat → Bool) (g : Nat → Int) : (gathI m f g).length = cntF m f := by simp [gathI, cntF]
theorem part_roll (hN : 0 < N) (hn : 0 < n) (hst : st < N) (ht : tooth < N) : ssort (gathI (lenN N n) (fun i => decide ((((st + i) % N : Nat) : Int) = (tooth : Int))) (fun i => ((i % n : Nat) : Int))) = intsI (partL N n st tooth) := by
  symm
  refine ssort_of ?_ fun k => ?_
  · unfold intsI
    rw [List.pairwise_map]
    exact ((asc_range n).filter _).imp fun h => by omega
  · unfold intsI gathI
    rw [List.mem_map, List.mem_map]
    constructor
    · rintro ⟨own, h, rfl⟩
      have h2 := (mem_part hN).mp h
      obtain ⟨t, e⟩ := part_met hN ht h
      obtain ⟨a, b, lt, _⟩ := met_spec hN hn ht h2.1 e
      exact ⟨t, List.mem_filter.mpr ⟨List.mem_range.mpr lt, decide_eq_true (by rw [a])⟩, by rw [b]⟩
    · rintro ⟨i, h, rfl⟩
      obtain ⟨h1, h2⟩ := List.mem_filter.mp h
      have h2 := of_decide_eq_true h2
      refine ⟨i % n, (mem_part hN).mpr ⟨Nat.mod_lt _ hn, ?_⟩, rfl⟩
      refine Classical.byContradiction fun z => met_no hN hn ht ((met_none_iff hN ht).mpr z) i ⟨by omega, rfl⟩
theorem roll_few (hN : 0 < N) (hst : st < N) (ht : tooth < N) (g : Nat → Int) : (gathI (lenN N n) (fun i => decide ((((st + i) % N : Nat) : Int) = (tooth : Int))) g).length = rndN N n := by
  rw [gathI_len, ← ring_count hN hst ht]
  exact cntF_congr fun i _ => dec_nat _ _
theorem met_dvd {k q : Nat} (hg : GOk N n s) : markD N n s st (q * lenN N n) = markD N n s st 0 := by
  have wp : 0 < markW N n s := markW_pos hg.pos.1 hg.pos.2.2.1
  induction q with
  | zero => rw [Nat.zero_mul]
  | succ q ih =>
    rw [← ih, Nat.add_mul, Nat.one_mul, markD_eq, markD_eq]
    exact low_eq wp wp (mark_round hg st _)
/-- the mark's direction, as the law counts it -/
def lawM (N n : Nat) (s : Str) (st k : Nat) : Int := if s = "in" then 2 * (st : Int) * n - 2 * (k : Int) * N + 2 * (k : Int) * n else 2 * (st : Int) * n + (N : Int) * n + 2 * (k : Int) * ((N : Int) + n)
theorem lawM_eq (hg : GOk N n s) (st k : Nat) : markD N n s st k = lowD (lawM N n s st k) (2 * N * n) := by
  have hN := hg.pos.1
  have hn := hg.pos.2.2.1
  have hp : 0 < N * n := Nat.mul_pos hN hn
  have e2 : 2 * N * n = 2 * (N * n) := Nat.mul_assoc 2 N n
  unfold markD lawM
  rcases hg.side with ⟨rfl, _⟩ | rfl
  · rw [if_pos rfl, if_pos rfl]
    refine low_eq hp (by omega) (.of 0 ?_)
    simp only [Int.natCast_mul]; grind
  · rw [if_neg out_ne, if_neg out_ne]
    refine low_eq (by omega) (by omega) (.of 0 ?_)
    simp only [Int.natCast_mul]; grind
def halfN (N : Nat) (s : Str) : Nat := if s = "in" then 0 else N
theorem tip_dir (hg : GOk N n s) (st : Nat) {k : Nat} (h : k % n = 0) : markD N n s st k = lowD (2 * (((st + k) % N : Nat) : Int) + (halfN N s : Nat)) (2 * N) := by
  have hN := hg.pos.1
  have hn := hg.pos.2.2.1
  have hp : 0 < N * n := Nat.mul_pos hN hn
  obtain ⟨j, rfl⟩ : ∃ j, k = j * n := ⟨k / n, (Nat.div_mul_cancel (Nat.dvd_of_mod_eq_zero h)).symm⟩
  unfold markD halfN
  rcases hg.side with ⟨rfl, _⟩ | rfl
  · rw [if_pos rfl, if_pos rfl]
    refine low_eq hp (by omega) ((mark_tip_in st j).trans hN ((fr_mod (N := N) (st + j * n)).symm.trans hN ?_))
    refine .of 0 ?_
    simp only [Int.natCast_mul]; grind
  · rw [if_neg out_ne, if_neg out_ne]
    refine low_eq (by omega) (by omega) ((mark_tip_out st j).trans (by omega) ?_)
    obtain ⟨z, hz⟩ := fr_mod (N := N) (st + j * n)
    refine .of (-z) ?_
    simp only [Int.natCast_mul] at hz ⊢; grind
end
theorem gd_none : Gd 0 (.str "none") := Gd.str (by decide +kernel)
theorem cd_neIS {X : Cx} {M : List MO} (hu : X.A.units + 64 < cLine) (i : Int) : CmpD X .NotEq M (.d (.int i)) (.d (.str "none")) true := cd_neP (k := true) hu (.d _) (.d _) (Gd.int i) gd_none rfl rfl (by simp)
def Sig_law_directions : List PyData → Res → Prop := fun ds r => ∃ N n s st k, GOk N n s ∧ st < N ∧ k ≤ 1000000 ∧ ds = [gD N n s, .int (st : Nat), .int (k : Nat), .list (rollD N n st (lenN N n))] ∧ r = vB true
end WC

/-! tips: what is promised, and what it comes to -/
namespace WC
open PySem L2
def besD (N n t : Nat) : PyData := .tuple [.int (((t : Int) - n) % N), .int (((t : Int) + n) % N)]
def Sig_drawn_beside (c : Cl) : List PyData → Res → Prop := fun ds r => ∃ N n s st t, GOk N n s ∧ st < N ∧ t < N ∧ ds = [gD N n s, .int (st : Nat), .int (t : Nat)] ∧ ((t ∈ tipsN N n st (petN N n) ∧ r = .val (besD N n t)) ∨ (t ∉ tipsN N n st (petN N n) ∧ r = .err (.ref c.non)))
def Nxt (N n st t d : Nat) : Prop := d < N ∧ (t + d) % N ∈ tipsN N n st (petN N n) ∧ ∀ j, j < d → (t + j) % N ∉ tipsN N n st (petN N n)
def Sig_next_along : List PyData → Res → Prop := fun ds r => ∃ N n s st t d, GOk N n s ∧ st < N ∧ t < N ∧ Nxt N n st t d ∧ ds = [gD N n s, .int (st : Nat), .int (t : Nat)] ∧ r = vI ((t + d) % N : Nat)
def Sig_tips_after : List PyData → Res → Prop := fun ds r => ∃ N n s st arcs, GOk N n s ∧ st < N ∧ arcs ≤ 150 ∧ ds = [gD N n s, .int (st : Nat), .int (arcs : Nat)] ∧ r = .new ((ssort (intsI (tipsN N n st (arcs + 1)))).map .int)
def Sig_law_tips : List PyData → Res → Prop := fun ds r => ∃ N n s st, GOk N n s ∧ st < N ∧ ds = [gD N n s, .int (st : Nat)] ∧ r = .new (intsD (tipsN N n st (petN N n)))
def Sig_law_line : List PyData → Res → Prop := fun ds r => ∃ N n s st arcs, 0 < N ∧ N ≤ 1000 ∧ 0 < n ∧ n ≤ 1000 ∧ st < N ∧ arcs ≤ 80000 ∧ ds = [gD N n s, .int (st : Nat), .int (arcs : Nat)] ∧ r = .new (intsD (tipsN N n st (arcs + 1)))
def Sig_law_call3 : List PyData → Res → Prop := fun ds r => ∃ N n s st t kd, (kd = 0 ∨ kd = 1) ∧ GOk N n s ∧ st < N ∧ t < N ∧ ds = [.int (kd : Nat), gD N n s, .int (st : Nat), .int (t : Nat)] ∧
  ((t ∈ tipsN N n st (petN N n) ∧ kd = 0 ∧ r = vI ((tipsN N n st (petN N n)).idxOf t : Nat)) ∨ (t ∈ tipsN N n st (petN N n) ∧ kd = 1 ∧ r = .val (besD N n t)) ∨ (t ∉ tipsN N n st (petN N n) ∧ r = .val (.str "none")))
section
variable {N n st t : Nat}
theorem exists_least (P : Nat → Prop) (h : ∃ k, P k) : ∃ k, P k ∧ ∀ j, j < k → ¬ P j := by
  obtain ⟨k, hk⟩ := h
  induction k using Nat.strongRecOn with
  | ind k ih =>
    by_cases c : ∃ j, j < k ∧ P j
    · obtain ⟨j, h1, h2⟩ := c
      exact ih j h1 h2
    · exact ⟨k, hk, fun j hj z => c ⟨j, hj, z⟩⟩
theorem nxt_ex (hN : 0 < N) (hst : st < N) (ht : t < N) : ∃ d, Nxt N n st t d := by
  obtain ⟨d, h1, h2⟩ := exists_least (fun d => (t + d) % N ∈ tipsN N n st (petN N n)) ⟨(st + N - t) % N, by
    refine (tips_mem hN (Nat.mod_lt _ hN)).mpr ?_
    rw [Nat.add_mod_mod, show t + (st + N - t) = st + N by omega, Nat.add_mod_right, Nat.mod_eq_of_lt hst]⟩
  refine ⟨d, Nat.lt_of_not_le fun c => h2 (d - N) (by omega) ?_, h1, h2⟩
  have : (t + (d - N)) % N = (t + d) % N := by
    rw [show t + d = t + (d - N) + N by omega, Nat.add_mod_right]
  rw [this]; exact h1
theorem ssort_nodup_len {l : List Int} (h : l.Nodup) : (ssort l).length = l.length := by rw [← isort_asc h, isort_len]
theorem intsI_nodup {l : List Nat} (h : l.Nodup) : (intsI l).Nodup := nodup_map_of h fun a _ b _ e => by omega
theorem ssort_congr {l m : List Int} (h : ∀ k, k ∈ l ↔ k ∈ m) : ssort l = ssort m := ssort_of (asc_ssort l) fun k => (mem_ssort k l).trans (h k)
theorem tips_more_mem (hN : 0 < N) {m x : Nat} (h : petN N n ≤ m) : x ∈ tipsN N n st m ↔ x ∈ tipsN N n st (petN N n) := by
  unfold tipsN
  rw [List.mem_map, List.mem_map]
  constructor
  · rintro ⟨k, _, rfl⟩
    exact ⟨k % petN N n, List.mem_range.mpr (Nat.mod_lt _ (pet_pos hN)), mod_tip hN st k⟩
  · rintro ⟨k, h1, rfl⟩
    exact ⟨k, List.mem_range.mpr (Nat.lt_of_lt_of_le (List.mem_range.mp h1) h), rfl⟩
theorem mem_intsI' {l : List Nat} {k : Int} : k ∈ intsI l ↔ ∃ x, x ∈ l ∧ k = (x : Int) := by
  unfold intsI; rw [List.mem_map]
  exact ⟨fun ⟨x, h, e⟩ => ⟨x, h, e.symm⟩, fun ⟨x, h, e⟩ => ⟨x, h, e.symm⟩⟩
theorem tips_few (hN : 0 < N) (m : Nat) : (ssort (intsI (tipsN N n st m))).length = min m (petN N n) := by
  rcases Nat.le_total m (petN N n) with h | h
  · rw [ssort_nodup_len (intsI_nodup (tips_nodup hN st h)), intsI_len, tips_len, Nat.min_eq_left h]
  · rw [ssort_congr (m := intsI (tipsN N n st (petN N n))) (fun k => ?_), ssort_nodup_len (intsI_nodup (tips_nodup hN st (Nat.le_refl _))), intsI_len, tips_len, Nat.min_eq_right h]
    rw [mem_intsI', mem_intsI']
    exact exists_congr fun x => and_congr_left fun _ => tips_more_mem hN h
theorem tips_roll (hN : 0 < N) (hn : 0 < n) : gathI (lenN N n) (fun i => decide (((i % n : Nat) : Int) = 0)) (fun i => (((st + i) % N : Nat) : Int)) = intsI (tipsN N n st (petN N n)) := by
  have e : (List.range (lenN N n)).filter (fun i => decide (((i % n : Nat) : Int) = 0)) = likeL (lenN N n) n 0 := by
    refine ascN_uniq ((asc_range _).filter _) (asc_like hn _ _) fun k => ?_
    rw [mem_like hn (show n ∣ lenN N n from Nat.dvd_lcm_right N n) hn, List.mem_filter, List.mem_range, decide_eq_true_iff]
    constructor
    · exact fun ⟨a, b⟩ => ⟨a, by omega⟩
    · exact fun ⟨a, b⟩ => ⟨a, by omega⟩
  unfold gathI intsI tipsN
  rw [e]
  unfold likeL
  rw [show lenN N n / n = petN N n by rw [len_pet hN, Nat.mul_div_cancel _ hn], List.map_map, List.map_map]
  refine List.map_congr_left fun j _ => ?_
  simp
theorem tips_succ (m : Nat) : tipsN N n st (m + 1) = tipsN N n st m ++ [(st + m * n) % N] := by
  unfold tipsN; rw [List.range_succ, List.map_append]; rfl
theorem intsI_app (l m : List Nat) : intsI (l ++ m) = intsI l ++ intsI m := by simp [intsI]
theorem line_last (m : Nat) : atI (intsD (tipsN N n st (m + 1))) (-1) = some (.int ((st + m * n) % N : Nat)) := by
  unfold intsD
  refine atI_int ?_
  unfold atI ixN
  rw [if_neg (by omega), intsI_len, tips_len, if_pos (by omega)]
  show (intsI (tipsN N n st (m + 1)))[((-1 : Int) + ((m + 1 : Nat) : Int)).toNat]? = _
  rw [show ((-1 : Int) + ((m + 1 : Nat) : Int)).toNat = m by omega]
  exact intsI_get (tips_get (by omega))
theorem line_next (m : Nat) : ((((st + m * n) % N : Nat) : Int) + (n : Int)) % (N : Int) = (((st + (m + 1) * n) % N : Nat) : Int) := by
  rw [← Int.natCast_add, ← Int.natCast_emod, Nat.mod_add_mod, Nat.add_mul, Nat.one_mul, Nat.add_assoc]
theorem line_app (m : Nat) : intsD (tipsN N n st (m + 1)) ++ [.int (((((st + m * n) % N : Nat) : Int) + (n : Int)) % (N : Int))] = intsD (tipsN N n st (m + 2)) := by
  rw [line_next, tips_succ (m + 1)]
  unfold intsD
  rw [intsI_app, List.map_append]; rfl
theorem beside_after (hN : 0 < N) (h : t ∈ tipsN N n st (petN N n)) : atI (intsI (tipsN N n st (petN N n))) (((((tipsN N n st (petN N n)).idxOf t : Nat) : Int) + 1) % ((intsI (tipsN N n st (petN N n))).length : Int)) = some (((t : Int) + n) % N) := by
  obtain ⟨a, b, c⟩ := tip_idx hN h
  rw [intsI_len, tips_len]
  have e : ((((tipsN N n st (petN N n)).idxOf t : Nat) : Int) + 1) % ((petN N n : Nat) : Int) = ((((tipsN N n st (petN N n)).idxOf t + 1) % petN N n : Nat) : Int) := by rw [Int.natCast_emod]; rfl
  rw [e, atI_pos (intsI_get (tips_get (Nat.mod_lt _ (pet_pos hN)))), mod_tip hN, ← Int.natCast_add, ← Int.natCast_emod]
  congr 2
  rw [Nat.add_mul, Nat.one_mul, ← Nat.add_assoc, Nat.add_mod, b]
  rw [Nat.add_mod_mod]
theorem beside_before (hN : 0 < N) (hn : 0 < n) (h : t ∈ tipsN N n st (petN N n)) : atI (intsI (tipsN N n st (petN N n))) ((((tipsN N n st (petN N n)).idxOf t : Nat) : Int) - 1) = some (((t : Int) - n) % N) := by
  obtain ⟨a, b, c⟩ := tip_idx hN h
  generalize hj : (tipsN N n st (petN N n)).idxOf t = j at a b c
  have hp := pet_pos (n := n) hN
  have key : ∀ i, i < petN N n → (i + 1) % petN N n = j → (((st + i * n) % N : Nat) : Int) = ((t : Int) - n) % N := fun i hi e => by
    have e2 : (st + (i + 1) * n) % N = t := by rw [← b, ← e, mod_tip hN]
    have e3 : ((st + i * n : Nat) : Int) = ((st + (i + 1) * n : Nat) : Int) - n := by rw [Nat.add_mul i 1 n]; simp only [Int.natCast_add, Int.one_mul, Nat.one_mul]; omega
    have e4 : ((st + (i + 1) * n : Nat) : Int) % (N : Int) = (t : Int) % (N : Int) := by
      rw [← Int.natCast_emod, e2, ← Int.natCast_emod, ← e2, Nat.mod_mod]
    rw [Int.natCast_emod, e3, Int.sub_emod, e4, ← Int.sub_emod]
  cases j with
  | zero =>
    unfold atI ixN
    rw [if_neg (by omega), intsI_len, tips_len, if_pos (by omega)]
    show (intsI (tipsN N n st (petN N n)))[(((0 : Nat) : Int) - 1 + ((petN N n : Nat) : Int)).toNat]? = _
    rw [show (((0 : Nat) : Int) - 1 + ((petN N n : Nat) : Int)).toNat = petN N n - 1 by omega, intsI_get (tips_get (by omega)), key (petN N n - 1) (by omega) (by rw [Nat.sub_add_cancel hp, Nat.mod_self])]
  | succ j =>
    rw [show (((j + 1 : Nat) : Int) - 1) = ((j : Nat) : Int) by omega, atI_pos (intsI_get (tips_get (by omega))), key j (by omega) (Nat.mod_eq_of_lt a)]
theorem tip_num (hN : 0 < N) (k : Nat) : atI (intsI (tipsN N n st (petN N n))) ((k : Int) % ((intsI (tipsN N n st (petN N n))).length : Int)) = some (((st + k * n) % N : Nat) : Int) := by
  rw [intsI_len, tips_len, ← Int.natCast_emod, atI_pos (intsI_get (tips_get (Nat.mod_lt _ (pet_pos hN)))), mod_tip hN]
theorem nxt_back {d : Nat} (ht : t < N) (h : d < N) : ((((t + d) % N : Nat) : Int) - t) % (N : Int) = (d : Int) := by
  rw [Int.sub_emod, ← Int.natCast_emod, Nat.mod_mod, Int.natCast_emod, ← Int.sub_emod, show ((t + d : Nat) : Int) - t = (d : Int) by simp only [Int.natCast_add]; omega, ← Int.natCast_emod, Nat.mod_eq_of_lt h]
theorem nxt_passed {d : Nat} (h : Nxt N n st t d) : ∀ i, i < ((gathI d (fun _ => true) (fun k => ((t : Int) + (k : Int)) % (N : Int)))).length → decide ((gathI d (fun _ => true) (fun k => ((t : Int) + (k : Int)) % (N : Int))).getD i 0 ∈ intsI (tipsN N n st (petN N n))) = false := fun i hi => by
  rw [gathI_true] at hi ⊢
  rw [List.length_map, List.length_range] at hi
  rw [List.getD_eq_getElem?_getD, List.getElem?_map, List.getElem?_range hi]
  refine decide_eq_false ?_
  show ¬ ((t : Int) + (i : Int)) % (N : Int) ∈ _
  rw [← Int.natCast_add, ← Int.natCast_emod, mem_intsI]
  exact h.2.2 i hi
end
end WC

/-! items set in place; three comparisons in a row -/
namespace WC
open PySem L2
section
variable {X : Cx} {E : XK} {ρ : REnv} {M : List MO} {o a b c d e : Expr} {pos tpos : Pos} {r1 r2 r3 r4 : Slot} {k1 k2 k3 : Bool}
def rGetL (K : PySem.W.Frag) : V → V → Hp → VK → Prop := fun x y H Q => ∃ (p : Addr) (xs : List V) (i : Nat) (v : V), x = .ref p ∧ y = .int (i : Int) ∧ SqL K H p xs ∧ xs[i]? = some v ∧ Q v H
theorem get_list : PGet X (rGetL X.K) := by
  intro pins s σ H x y ov iv Q I rx ry h
  obtain ⟨p, xs, i, v, rfl, rfl, hq, he, q⟩ := h
  cases rx
  obtain ⟨t, rfl⟩ := ry
  obtain ⟨its, r, pl, hz⟩ := I.list hq
  obtain ⟨w, ew, rw'⟩ := r.get he
  have hi := (List.getElem?_eq_some_iff.mp he).1
  have hn := line63
  refine PySem.wpAny_getItem_list pl.isList (by omega) (by omega) (x := w) ?_ ⟨v, H, I, rw', q⟩
  rw [Int.toNat_natCast]; simpa using ew
/-- xs[i] += e, xs a list of ints that is owned -/
theorem sd_augIx {i j k : Nat} {x : Str} {px : Pos} {ns : List Int} {z y : Int} (hx : ED X ρ M a (.d (.int (k : Nat))) M) (he : ED X ρ M e (.d (.int y)) M) (hi : ρ[i]? = some (some (.own j)) := by rfl) (hm : M[j]? = some (.lst (ns.map .int)) := by rfl) (hk : ns[k]? = some z) (hN : X.N[i]? = some x := by rfl)
    (hv : Vis X.env.scope x := by first | exact Or.inl rfl | exact Or.inr (Or.inl rfl) | exact Or.inr (Or.inr rfl)) (hd : (x == ("__debug__" : Str)) = false := by decide) (hcd : (x == ("__classdict__" : Str)) = false := by decide)
    (ha : ∀ ov iv new, augStore a ov iv new = (do holding [new, ov, iv] (setItem ov iv new); release [new, ov, iv] []; pure .next) := by intros; rfl) :
    S1 X E ρ M (.AugAssign (.Subscript (.Name x px) a tpos) .Add e pos) (.nx ρ (M.set j (.lst ((ns.set k (z + y)).map .int)))) := fun As σ F H hM hE D q => by
  obtain ⟨v, h1, p, h2, rfl⟩ := hE.env i _ hi
  refine ⟨_, ps_augS (pe_var hN hv hd hcd) (pe_w X a) get_list (pe_w X e) ip_add set_list ha, .ref p, h1, hx As σ F H hM hE _ fun v1 As1 F1 H1 s1 m1 o1 => ?_⟩
  have p1 := s1.pre h2
  obtain ⟨ys, q1, q2⟩ := m1.mem j p _ p1 hm
  rw [q2.ints_of] at q1
  cases o1
  refine ⟨p, ns.map V.int, k, .int z, rfl, rfl, SqL.of q1, by rw [List.getElem?_map, hk]; rfl, he As1 σ F1 H1 m1 (hE.step s1) _ fun v2 As2 F2 H2 s2 m2 o2 => ?_⟩
  cases o2
  have p2 := s2.pre p1
  obtain ⟨ys', q3, q4⟩ := m2.mem j p _ p2 hm
  rw [q4.ints_of] at q3
  have hlt := (List.getElem?_eq_some_iff.mp hk).1
  refine ⟨z, y, rfl, rfl, p, ns.map V.int, (k : Int), k, rfl, rfl, q3, ?_, ?_⟩
  · unfold ixN
    rw [if_pos (by omega), List.length_map, if_pos (by omega)]; simp
  · have e2 : (ns.map V.int).set k (.int (z + y)) = (ns.set k (z + y)).map V.int := by rw [List.map_set]
    rw [e2]
    obtain ⟨s3, m3⟩ := upM m2 p2 ⟨_, hm⟩ (DvAll.ints (F := F2) (ns.set k (z + y)))
    exact q As2 σ F2 _ ((s1.trans s2).trans s3) m3 (((hE.step s1).step s2).step s3)
theorem ed_chain3 {op1 op2 op3 : CmpOp} (ha : ED X ρ M a r1 M) (hb : ED X ρ M b r2 M) (hc : ED X ρ M c r3 M) (hd : ED X ρ M d r4 M) (h1 : CmpD X op1 M r1 r2 k1) (h2 : CmpD X op2 M r2 r3 k2) (h3 : CmpD X op3 M r3 r4 k3) (hm : lastMarks [op1, op2, op3] [b, c, d] = false := by with_unfolding_all rfl) :
    ED X ρ M (.Compare a [op1, op2, op3] [b, c, d] pos) (.d (.bool (k1 && (k2 && k3)))) M := fun As σ F H hM hE Q q => by
  obtain ⟨rr1, ho1, hr1⟩ := h1.ex
  obtain ⟨rr2, ho2, hr2⟩ := h2.ex
  obtain ⟨rr3, ho3, hr3⟩ := h3.ex
  have rule : PE X (.Compare a [op1, op2, op3] [b, c, d] pos) (fun σ H Q => wE X a σ H fun x H1 => wE X b σ H1 fun y H2 => rr1 x y H2 fun z H3 => ∃ k, z = .bl k ∧ (if k = true then wE X c σ H3 fun w H4 => rr2 y w H4 fun z2 H5 => ∃ k', z2 = .bl k' ∧ (if k' = true then wE X d σ H5 fun t H6 => rr3 w t H6 Q else Q (.bl false) H5) else Q (.bl false) H3)) := by
    refine ⟨fun pins s σ H Q I h => ?_⟩
    refine PyProof.Rows.Compare_chain (thn ((pe_w X a).run pins s σ H _ I h) fun v s1 ⟨x, H1, I1, r1, q1⟩ => PyProof.Rows.chain_link (thn ((pe_w X b).run pins s1 σ H1 _ I1 q1) fun u s2 ⟨y, H2, I2, r2, q2⟩ => thn (ho1 pins s2 σ H2 x y v u _ I2 r1 r2 q2) fun d s3 ⟨z, H3, I3, r3, k, e, q3⟩ => ?_)) hm
    subst e; cases r3
    refine wpAny_truthy_bool ?_
    cases k with
    | false => exact PyProof.Rows.ite_ff ⟨.bl false, H3, I3, rfl, q3⟩
    | true =>
      refine PyProof.Rows.ite_tt (PyProof.Rows.chain_link (thn ((pe_w X c).run pins s3 σ H3 _ I3 q3) fun w' s4 ⟨z', H4, I4, r4, q4⟩ => thn (ho2 pins s4 σ H4 y z' u w' _ I4 r2 r4 q4) fun d2 s5 ⟨z2, H5, I5, r5, k', e', q5⟩ => ?_))
      subst e'; cases r5
      refine wpAny_truthy_bool ?_
      cases k' with
      | false => exact PyProof.Rows.ite_ff ⟨.bl false, H5, I5, rfl, q5⟩
      | true => exact PyProof.Rows.ite_tt (PyProof.Rows.chain_last (thn ((pe_w X d).run pins s5 σ H5 _ I5 q5) fun t' s6 ⟨t, H6, I6, r6, q6⟩ => ho3 pins s6 σ H6 z' t w' t' Q I6 r4 r6 q6))
  refine ⟨_, rule, ha As σ F H hM hE _ fun v1 As1 F1 H1 s1 m1 o1 => hb As1 σ F1 H1 m1 (hE.step s1) _ fun v2 As2 F2 H2 s2 m2 o2 => hr1 As2 F2 H2 v1 v2 _ m2 (o1.step s2) o2 ⟨k1, rfl, ?_⟩⟩
  have e2 := (hE.step s1).step s2
  cases k1 with
  | false => exact iteF (q _ As2 F2 H2 (s1.trans s2) m2 (.bl false))
  | true =>
    refine iteT (hc As2 σ F2 H2 m2 e2 _ fun v3 As3 F3 H3 s3 m3 o3 => hr2 As3 F3 H3 v2 v3 _ m3 (o2.step s3) o3 ⟨k2, rfl, ?_⟩)
    cases k2 with
    | false => exact iteF (q _ As3 F3 H3 ((s1.trans s2).trans s3) m3 (.bl false))
    | true => exact iteT (hd As3 σ F3 H3 m3 (e2.step s3) _ fun v4 As4 F4 H4 s4 m4 o4 => hr3 As4 F4 H4 v3 v4 _ m4 (o3.step s4) o4 (q _ As4 F4 H4 (((s1.trans s2).trans s3).trans s4) m4 (.bl _)))
theorem ed_catI {M1 M2 : List MO} {xs ys : List Int} (ha : ED X ρ M a r1 M1) (hb : ED X ρ M1 b r2 M2) (d1 : Rds M2 r1 (.list (xs.map .int))) (d2 : Rds M2 r2 (.list (ys.map .int))) (hz : xs.length + ys.length ≤ 100000) : ED X ρ M (.BinOp a .Add b pos) (.own M2.length) (M2 ++ [.lst ((xs ++ ys).map .int)]) := by
  rw [List.map_append]
  exact ed_catO ha hb d1 d2 (by rw [List.length_map, List.length_map]; exact hz)
theorem ed_lstI {M1 : List MO} {es : List Expr} {ns : List Int} (h : AD X ρ M es (ns.map fun i => Slot.d (.int i)) M1) (hz : ns.length ≤ 1000) : ED X ρ M (.List es pos) (.own M1.length) (M1 ++ [.lst (ns.map .int)]) :=
  ed_lstO (by rw [List.map_map]; exact h) (by rw [List.length_map]; exact hz)
theorem ed_repI {M1 M2 : List MO} {x : Int} (k : Nat) (ha : ED X ρ M a r1 M1) (hb : ED X ρ M1 b (.d (.int (k : Nat))) M2) (d1 : Rds M2 r1 (.list ([x].map .int))) (hk : k ≤ 100000) : ED X ρ M (.BinOp a .Mult b pos) (.own M2.length) (M2 ++ [.lst ((List.replicate k x).map .int)]) := by
  have q := ed_repO (pos := pos) ha hb d1 (by omega) (by simp; omega)
  have e : (List.replicate (k : Int).toNat ([x].map PyData.int)).flatten = (List.replicate k x).map PyData.int := by
    rw [Int.toNat_natCast]
    induction k with
    | zero => rfl
    | succ k ih => simp [List.replicate_succ]
  rw [← e]; exact q
theorem ints_getD {xs : List Int} {i : Nat} {d : PyData} (h : (xs.map PyData.int)[i]? = some d) : d = .int (xs.getD i 0) := by
  rw [List.getElem?_map] at h
  obtain ⟨x, h1, h2⟩ := Option.map_eq_some_iff.mp h
  rw [← h2, List.getD_eq_getElem?_getD, h1]; rfl
theorem it_zipI {elts : List Expr} {kt : Nat} {tps p : Pos} {e2 : Expr} {M1 : List MO} {xs ys : List Int} (k : Nat) (hm : X.mg "zip" = none) (h : AD X ρ M [e, e2] [.d (.list (xs.map .int)), .d (.list (ys.map .int))] M1) (hk : k = min xs.length ys.length) (hg : Gl X "zip" := by rfl)
    (hs : starEach [e, e2] X.env = (false, eval e X.env) :: starEach [e2] X.env := by rfl) (hpl : (backTo pos (starEach [e2] X.env)).any (·.1) = false := by rfl) : ITR X ρ M (.Tuple elts kt tps) (.Call (.Name "zip" p) [e, e2] [] pos) k (fun i => .tuple [.int (xs.getD i 0), .int (ys.getD i 0)]) M1 :=
  it_zip (fun i => .tuple [.int (xs.getD i 0), .int (ys.getD i 0)]) hg hm h k (by rw [List.length_map, List.length_map]; exact hk) (fun i d d2 h1 h2 => by rw [ints_getD h1, ints_getD h2]) hs hpl
theorem atI_getD {L : List Int} {k : Nat} (h : k < L.length) : atI L (k : Int) = some (L.getD k 0) := atI_pos (by rw [List.getD_eq_getElem?_getD, List.getElem?_eq_getElem h]; rfl)
theorem atI_last {L : List Int} (h : 0 < L.length) : atI L (-1) = some (L.getD (L.length - 1) 0) := by
  unfold atI ixN
  rw [if_neg (by omega), if_pos (by omega)]
  show L[((-1 : Int) + (L.length : Int)).toNat]? = _
  rw [show ((-1 : Int) + (L.length : Int)).toNat = L.length - 1 by omega, List.getD_eq_getElem?_getD, List.getElem?_eq_getElem (show L.length - 1 < L.length by omega)]; rfl
theorem drop_getD (L : List Int) (i : Nat) : (L.drop 1).getD i 0 = L.getD (i + 1) 0 := by
  rw [List.getD_eq_getElem?_getD, List.getD_eq_getElem?_getD, List.getElem?_drop, Nat.add_comm]
end
end WC

/-! gaps: at most three kinds -/
namespace WC
section
variable {N n m : Nat}
/-- how far the k-th tip lies from the first -/
def qN (N n k : Nat) : Nat := (k * n) % N
theorem q_lt (hN : 0 < N) (k : Nat) : qN N n k < N := Nat.mod_lt _ hN
theorem q_pos (hN : 0 < N) {k : Nat} (h0 : 0 < k) (hk : k < petN N n) : 0 < qN N n k := by
  rcases Nat.eq_zero_or_pos (qN N n k) with z | z
  · have := Nat.le_of_dvd h0 (pet_dvd hN (Nat.dvd_of_mod_eq_zero z)); omega
  · exact z
theorem q_add (hN : 0 < N) (x y : Nat) : qN N n (x + y) = if qN N n x + qN N n y < N then qN N n x + qN N n y else qN N n x + qN N n y - N := by
  have hx := q_lt (n := n) hN x
  have hy := q_lt (n := n) hN y
  have e : qN N n (x + y) = (qN N n x + qN N n y) % N := by unfold qN; rw [Nat.add_mul, Nat.add_mod]
  rw [e]
  split
  · next h => exact Nat.mod_eq_of_lt h
  · next h => rw [Nat.mod_eq_sub_mod (by omega), Nat.mod_eq_of_lt (by omega)]
/-- from the i-th tip on to the k-th, along the ring -/
def dN (N n i k : Nat) : Nat := if i ≤ k then qN N n (k - i) else N - qN N n (i - k)
theorem exists_min (f : Nat → Nat) : ∀ m, 2 ≤ m → ∃ u, 0 < u ∧ u < m ∧ ∀ k, 0 < k → k < m → f u ≤ f k
  | 0, h => absurd h (by omega)
  | 1, h => absurd h (by omega)
  | 2, _ => ⟨1, by omega, by omega, fun k h1 h2 => by rw [show k = 1 by omega]; exact Nat.le_refl _⟩
  | m + 3, _ => by
    obtain ⟨u, h1, h2, h3⟩ := exists_min f (m + 2) (by omega)
    by_cases c : f u ≤ f (m + 2)
    · refine ⟨u, h1, by omega, fun k k1 k2 => ?_⟩
      rcases Nat.lt_or_ge k (m + 2) with z | z
      · exact h3 k k1 z
      · rw [show k = m + 2 by omega]; exact c
    · refine ⟨m + 2, by omega, by omega, fun k k1 k2 => ?_⟩
      rcases Nat.lt_or_ge k (m + 2) with z | z
      · have := h3 k k1 z; omega
      · rw [show k = m + 2 by omega]; exact Nat.le_refl _
/-- the next tip lies a, b or a + b away -/
theorem three_gaps (hN : 0 < N) (hm : 2 ≤ m) (hp : m ≤ petN N n) : ∃ a b, 0 < a ∧ 0 < b ∧ ∀ i, i < m → ∃ x, x < m ∧ x ≠ i ∧ (∀ k, k < m → k ≠ i → dN N n i x ≤ dN N n i k) ∧ (dN N n i x = a ∨ dN N n i x = b ∨ dN N n i x = a + b) := by
  obtain ⟨u, u1, u2, u3⟩ := exists_min (qN N n) m hm
  obtain ⟨v, v1, v2, v3⟩ := exists_min (fun k => N - qN N n k) m hm
  have bu := q_pos (n := n) hN u1 (by omega)
  have au := q_lt (n := n) hN v
  have lu := q_lt (n := n) hN u
  have bv := q_pos (n := n) hN v1 (by omega)
  have pos : ∀ k, 0 < k → k < m → 0 < qN N n k ∧ qN N n k < N := fun k h1 h2 => ⟨q_pos hN h1 (by omega), q_lt hN k⟩
  refine ⟨N - qN N n v, qN N n u, by omega, bu, fun i hi => ?_⟩
  by_cases cA : i + u < m
  · have e : dN N n i (i + u) = qN N n u := by unfold dN; rw [if_pos (by omega), Nat.add_sub_cancel_left]
    refine ⟨i + u, cA, by omega, fun k hk hne => ?_, .inr (.inl e)⟩
    rw [e]
    unfold dN
    split
    · exact u3 (k - i) (by omega) (by omega)
    · next c =>
      have p1 := pos (i - k) (by omega) (by omega)
      have p2 := u3 (i - k + u) (by omega) (by omega)
      rw [q_add hN] at p2
      split at p2 <;> omega
  · by_cases cB : v ≤ i
    · have e : dN N n i (i - v) = N - qN N n v := by unfold dN; rw [if_neg (by omega), show i - (i - v) = v by omega]
      refine ⟨i - v, by omega, by omega, fun k hk hne => ?_, .inl e⟩
      rw [e]
      unfold dN
      split
      · next c =>
        have p1 := pos (k - i) (by omega) (by omega)
        have p2 := v3 (v + (k - i)) (by omega) (by omega)
        rw [q_add hN] at p2
        split at p2 <;> omega
      · exact v3 (i - k) (by omega) (by omega)
    · have low : ∀ k, k < m → k ≠ i → N - qN N n v + qN N n u ≤ dN N n i k := fun k hk hne => by
        unfold dN
        split
        · next c =>
          have p1 := pos (k - i) (by omega) (by omega)
          have p2 := u3 (k - i) (by omega) (by omega)
          have p3 := pos (u - (k - i)) (by omega) (by omega)
          have p4 := v3 (u - (k - i)) (by omega) (by omega)
          have p5 := q_add (n := n) hN (k - i) (u - (k - i))
          rw [show k - i + (u - (k - i)) = u by omega] at p5
          split at p5 <;> omega
        · next c =>
          have p1 := pos (i - k) (by omega) (by omega)
          have p2 := v3 (i - k) (by omega) (by omega)
          have p3 := pos (v - (i - k)) (by omega) (by omega)
          have p4 := u3 (v - (i - k)) (by omega) (by omega)
          have p5 := q_add (n := n) hN (i - k) (v - (i - k))
          rw [show i - k + (v - (i - k)) = v by omega] at p5
          split at p5 <;> omega
      have huv : u ≠ v := fun z => by
        subst z
        have q1 := v3 1 (by omega) (by omega)
        have q2 := u3 1 (by omega) (by omega)
        have q3 := pos 1 (by omega) (by omega)
        rcases Nat.lt_trichotomy u 1 with c | c | c
        · omega
        · omega
        · have p5 := q_add (n := n) hN 1 (u - 1)
          have p6 := pos (u - 1) (by omega) (by omega)
          rw [show 1 + (u - 1) = u by omega] at p5
          split at p5 <;> omega
      have key : dN N n i (i + u - v) = N - qN N n v + qN N n u := by
        rcases Nat.lt_or_ge v u with c | c
        · have p5 := q_add (n := n) hN v (u - v)
          have p6 := pos (u - v) (by omega) (by omega)
          rw [show v + (u - v) = u by omega] at p5
          have p7 := v3 u u1 u2
          unfold dN
          rw [if_pos (by omega), show i + u - v - i = u - v by omega]
          split at p5 <;> omega
        · have p5 := q_add (n := n) hN u (v - u)
          have p6 := pos (v - u) (by omega) (by omega)
          rw [show u + (v - u) = v by omega] at p5
          have p7 := u3 v v1 v2
          unfold dN
          rw [if_neg (by omega), show i - (i + u - v) = v - u by omega]
          split at p5 <;> omega
      refine ⟨i + u - v, by omega, by omega, fun k hk hne => ?_, .inr (.inr key)⟩
      rw [key]; exact low k hk hne
end
end WC

/-! gaps of a list that rises -/
namespace WC
open PySem L2
def gapsI (N : Nat) (L : List Int) : List Int := gathI (L.length - 1) (fun _ => true) (fun i => L.getD (i + 1) 0 - L.getD i 0) ++ [L.getD 0 0 + (N : Int) - L.getD (L.length - 1) 0]
def afterL (N n m : Nat) : List Int := ssort (intsI (tipsN N n 0 m))
def gapK (N n k : Nat) : List Int := gapsI N (afterL N n (k + 1))
/-- rises strictly, within the ring -/
structure Ris (N : Nat) (L : List Int) : Prop where
  ne : 0 < L.length
  asc : ∀ i j, i < j → j < L.length → L.getD i 0 < L.getD j 0
  lo : ∀ i, i < L.length → 0 ≤ L.getD i 0
  hi : ∀ i, i < L.length → L.getD i 0 < N
theorem getD_mem {L : List Int} {i : Nat} (h : i < L.length) : L.getD i 0 ∈ L := by
  rw [List.getD_eq_getElem?_getD, List.getElem?_eq_getElem h]; exact List.getElem_mem h
theorem mem_getD {L : List Int} {x : Int} (h : x ∈ L) : ∃ i, i < L.length ∧ L.getD i 0 = x := by
  obtain ⟨i, h1, h2⟩ := List.getElem_of_mem h
  exact ⟨i, h1, by rw [List.getD_eq_getElem?_getD, List.getElem?_eq_getElem h1]; exact h2⟩
theorem Ris.of {N : Nat} {L : List Int} (ne : L ≠ []) (asc : L.Pairwise (· < ·)) (b : ∀ x ∈ L, 0 ≤ x ∧ x < N) : Ris N L := by
  refine ⟨List.length_pos_iff.mpr ne, fun i j hij hj => ?_, fun i hi => (b _ (getD_mem hi)).1, fun i hi => (b _ (getD_mem hi)).2⟩
  have := List.pairwise_iff_getElem.mp asc i j (by omega) hj hij
  rw [List.getD_eq_getElem?_getD, List.getD_eq_getElem?_getD, List.getElem?_eq_getElem hj, List.getElem?_eq_getElem (show i < L.length by omega)]
  exact this
section
variable {N : Nat} {L : List Int}
theorem gaps_len (r : Ris N L) : (gapsI N L).length = L.length := by
  unfold gapsI
  rw [List.length_append, gathI_true, List.length_map, List.length_range]
  have := r.ne
  simp; omega
theorem gaps_get (r : Ris N L) {k : Nat} (h : k < L.length) : (gapsI N L).getD k 0 = if k + 1 < L.length then L.getD (k + 1) 0 - L.getD k 0 else L.getD 0 0 + N - L.getD k 0 := by
  unfold gapsI
  rw [gathI_true]
  split
  · next c =>
    rw [List.getD_eq_getElem?_getD, List.getElem?_append_left (by rw [List.length_map, List.length_range]; omega), List.getElem?_map, List.getElem?_range (by omega)]; rfl
  · next c =>
    have e : k = L.length - 1 := by omega
    subst e
    rw [List.getD_eq_getElem?_getD, List.getElem?_append_right (by rw [List.length_map, List.length_range]; omega), List.length_map, List.length_range, Nat.sub_self]; rfl
theorem tele (f : Nat → Int) : ∀ m, ((List.range m).map fun i => f (i + 1) - f i).sum = f m - f 0
  | 0 => by simp
  | m + 1 => by
    rw [List.range_succ, List.map_append, List.sum_append, tele f m]; simp; omega
theorem gaps_sum (L : List Int) : (gapsI N L).sum = N := by
  unfold gapsI
  rw [gathI_true, List.sum_append, tele (fun i => L.getD i 0)]; simp; omega
theorem ext_getD {l m : List Int} (h : l.length = m.length) (e : ∀ i, i < l.length → l.getD i 0 = m.getD i 0) : l = m := by
  apply List.ext_getElem h
  intro i h1 h2
  have := e i h1
  rw [List.getD_eq_getElem?_getD, List.getD_eq_getElem?_getD, List.getElem?_eq_getElem h1, List.getElem?_eq_getElem h2] at this
  exact this
theorem mod_one {x N : Int} (h1 : 0 < x) (h2 : x ≤ N) : (x - 1) % N + 1 = x := by
  rw [Int.emod_eq_of_lt (by omega) (by omega)]; omega
theorem wrap_one {x N : Int} (h1 : 0 < x + N) (h2 : x ≤ 0) : (x - 1) % N + 1 = x + N := by
  rw [← Int.add_emod_right, Int.emod_eq_of_lt (by omega) (by omega)]; omega
/-- the gaps, as the law counts them -/
theorem gaps_due (r : Ris N L) : gathI L.length (fun _ => true) (fun k => (L.getD ((k + 1) % L.length) 0 - L.getD k 0 - 1) % (N : Int) + 1) = gapsI N L := by
  rw [gathI_true]
  refine ext_getD (by rw [List.length_map, List.length_range, gaps_len r]) fun k hk => ?_
  rw [List.length_map, List.length_range] at hk
  rw [gaps_get r hk, List.getD_eq_getElem?_getD, List.getElem?_map, List.getElem?_range hk]
  show (L.getD ((k + 1) % L.length) 0 - L.getD k 0 - 1) % (N : Int) + 1 = _
  have l1 := r.lo k hk
  have l2 := r.hi k hk
  split
  · next c =>
    rw [Nat.mod_eq_of_lt c]
    have a := r.asc k (k + 1) (by omega) c
    have b := r.hi (k + 1) c
    exact mod_one (by omega) (by omega)
  · next c =>
    have e : k + 1 = L.length := by omega
    rw [e, Nat.mod_self]
    have l3 := r.lo 0 r.ne
    have l4 : L.getD 0 0 ≤ L.getD k 0 := by
      rcases Nat.eq_zero_or_pos k with z | z
      · rw [z]; exact Int.le_refl _
      · exact Int.le_of_lt (r.asc 0 k z hk)
    rw [wrap_one (by omega) (by omega)]; omega
theorem gaps_pos (r : Ris N L) {k : Nat} (h : k < L.length) : 0 < (gapsI N L).getD k 0 := by
  rw [gaps_get r h]
  split
  · next c => have := r.asc k (k + 1) (by omega) c; omega
  · have := r.hi k h; have := r.lo 0 r.ne; omega
/-- nothing lies within a gap -/
theorem gaps_least (r : Ris N L) {k j : Nat} (h : k < L.length) (hj : j < L.length) (hne : j ≠ k) : (gapsI N L).getD k 0 ≤ if L.getD k 0 ≤ L.getD j 0 then L.getD j 0 - L.getD k 0 else L.getD j 0 + N - L.getD k 0 := by
  rw [gaps_get r h]
  have lk := r.lo k h
  have lj := r.lo j hj
  have hk := r.hi k h
  split
  · next c =>
    have h1 := r.hi (k + 1) c
    split
    · next d =>
      rcases Nat.lt_trichotomy j k with z | z | z
      · have := r.asc j k z h; omega
      · exact absurd z hne
      · rcases Nat.eq_or_lt_of_le (show k + 1 ≤ j by omega) with e | e
        · rw [← e]; exact Int.le_refl _
        · have := r.asc (k + 1) j e hj; omega
    · omega
  · next c =>
    have z : j < k := by omega
    have := r.asc j k z h
    rw [if_neg (by omega)]
    rcases Nat.eq_zero_or_pos j with e | e
    · rw [e]; exact Int.le_refl _
    · have := r.asc 0 j e hj; omega
theorem gaps_is (r : Ris N L) (h2 : 2 ≤ L.length) {k : Nat} (h : k < L.length) : ∃ j, j < L.length ∧ j ≠ k ∧ (gapsI N L).getD k 0 = if L.getD k 0 ≤ L.getD j 0 then L.getD j 0 - L.getD k 0 else L.getD j 0 + N - L.getD k 0 := by
  rw [gaps_get r h]
  split
  · next c =>
    have := r.asc k (k + 1) (by omega) c
    exact ⟨k + 1, c, by omega, by rw [if_pos (by omega)]⟩
  · next c =>
    have := r.asc 0 k (by omega) h
    exact ⟨0, r.ne, by omega, by rw [if_neg (by omega)]⟩
end
section
variable {N n m : Nat}
theorem d_val (hN : 0 < N) {i j : Nat} (hi : i < petN N n) (hj : j < petN N n) (hne : i ≠ j) : dN N n i j = if qN N n i ≤ qN N n j then qN N n j - qN N n i else qN N n j + N - qN N n i := by
  have li := q_lt (n := n) hN i
  have lj := q_lt (n := n) hN j
  unfold dN
  rcases Nat.lt_or_ge i j with c | c
  · have p := q_add (n := n) hN i (j - i)
    have q := q_pos (n := n) hN (show 0 < j - i by omega) (by omega)
    have q2 := q_lt (n := n) hN (j - i)
    rw [show i + (j - i) = j by omega] at p
    rw [if_pos (by omega)]
    split at p <;> split <;> omega
  · have p := q_add (n := n) hN j (i - j)
    have q := q_pos (n := n) hN (show 0 < i - j by omega) (by omega)
    have q2 := q_lt (n := n) hN (i - j)
    rw [show j + (i - j) = i by omega] at p
    rw [if_neg (by omega)]
    split at p <;> split <;> omega
theorem mem_after {x : Int} : x ∈ afterL N n m ↔ ∃ i, i < m ∧ x = (qN N n i : Int) := by
  unfold afterL
  rw [mem_ssort, mem_intsI']
  unfold tipsN qN
  constructor
  · rintro ⟨y, h, rfl⟩
    obtain ⟨i, h1, rfl⟩ := List.mem_map.mp h
    exact ⟨i, List.mem_range.mp h1, by rw [Nat.zero_add]⟩
  · rintro ⟨i, h, rfl⟩
    exact ⟨_, List.mem_map.mpr ⟨i, List.mem_range.mpr h, rfl⟩, by rw [Nat.zero_add]⟩
theorem after_ris (hN : 0 < N) (hm : 0 < m) : Ris N (afterL N n m) := by
  refine .of (fun z => ?_) (asc_ssort _) fun x hx => ?_
  · have : (qN N n 0 : Int) ∈ afterL N n m := mem_after.mpr ⟨0, hm, rfl⟩
    rw [z] at this; cases this
  · obtain ⟨i, _, rfl⟩ := mem_after.mp hx
    have := q_lt (n := n) hN i
    omega
theorem after_len (hN : 0 < N) (m : Nat) : (afterL N n m).length = min m (petN N n) := tips_few hN m
theorem after_more (hN : 0 < N) (h : petN N n ≤ m) : afterL N n m = afterL N n (petN N n) := ssort_congr fun k => by
  rw [mem_intsI', mem_intsI']
  exact exists_congr fun x => and_congr_left fun _ => tips_more_mem hN h
theorem after_zero (hN : 0 < N) (hm : 0 < m) : (afterL N n m).getD 0 0 = 0 := by
  have r := after_ris (n := n) hN hm
  obtain ⟨i, h1, h2⟩ := mem_getD (mem_after.mpr ⟨0, hm, rfl⟩ : (qN N n 0 : Int) ∈ afterL N n m)
  have z : qN N n 0 = 0 := by unfold qN; rw [Nat.zero_mul, Nat.zero_mod]
  rw [z] at h2
  have l := r.lo 0 r.ne
  rcases Nat.eq_zero_or_pos i with e | e
  · rw [e] at h2; omega
  · have := r.asc 0 i e h1; omega
/-- at most three kinds, the greatest of three the sum -/
theorem gaps_three (hN : 0 < N) (hm : 2 ≤ m) (hp : m ≤ petN N n) : ∃ a b : Int, 0 < a ∧ 0 < b ∧ ∀ x ∈ gapsI N (afterL N n m), x = a ∨ x = b ∨ x = a + b := by
  obtain ⟨a, b, ha, hb, all⟩ := three_gaps (n := n) hN hm hp
  have r := after_ris (n := n) (m := m) hN (by omega)
  have len : (afterL N n m).length = m := by rw [after_len hN]; omega
  refine ⟨a, b, by omega, by omega, fun x hx => ?_⟩
  obtain ⟨k, h1, h2⟩ := mem_getD hx
  rw [gaps_len r] at h1
  obtain ⟨i, hi, ei⟩ := mem_after.mp (getD_mem h1)
  obtain ⟨y, hy, hne, least, val⟩ := all i hi
  have dist : ∀ j k', j < m → j ≠ i → k' < (afterL N n m).length → (afterL N n m).getD k' 0 = (qN N n j : Int) → ((dN N n i j : Nat) : Int) = if (afterL N n m).getD k 0 ≤ (afterL N n m).getD k' 0 then (afterL N n m).getD k' 0 - (afterL N n m).getD k 0 else (afterL N n m).getD k' 0 + N - (afterL N n m).getD k 0 := fun j k' hj hji hk' ej => by
    have li := q_lt (n := n) hN i
    rw [d_val hN (by omega) (by omega) (Ne.symm hji), ei, ej]
    split <;> split <;> omega
  have inj : ∀ j, j < m → j ≠ i → (qN N n j : Int) ≠ (qN N n i : Int) := fun j hj hji e => by
    have : (0 + j * n) % N = (0 + i * n) % N := by rw [Nat.zero_add, Nat.zero_add]; unfold qN at e; omega
    exact hji (tip_inj hN (by omega) (by omega) this)
  -- the next one in the list
  obtain ⟨k', hk', hkne, e3⟩ := gaps_is r (by omega) h1
  obtain ⟨j, hj, ej⟩ := mem_after.mp (getD_mem hk')
  have hji : j ≠ i := fun z => by
    subst z
    rcases Nat.lt_trichotomy k' k with c | c | c
    · have := r.asc k' k c h1; omega
    · exact hkne c
    · have := r.asc k k' c hk'; omega
  have up : ((dN N n i y : Nat) : Int) ≤ x := by
    have q := least j hj hji
    rw [← h2, e3, ← dist j k' hj hji hk' ej]; omega
  obtain ⟨ky, hky, eky⟩ := mem_getD (mem_after.mpr ⟨y, hy, rfl⟩ : (qN N n y : Int) ∈ afterL N n m)
  have low : x ≤ ((dN N n i y : Nat) : Int) := by
    rw [dist y ky hy hne hky eky, ← h2]
    refine gaps_least r h1 hky fun z => ?_
    subst z
    exact inj y hy hne (eky.symm.trans ei)
  have e : x = ((dN N n i y : Nat) : Int) := by omega
  rcases val with z | z | z <;> rw [e, z]
  · exact .inl rfl
  · exact .inr (.inl rfl)
  · exact .inr (.inr (by omega))
end
end WC

/-! gaps: the widest, when even, what is promised -/
namespace WC
open PySem L2
def mxI : List Int → Int
  | [] => 0
  | [x] => x
  | x :: y :: r => max x (mxI (y :: r))
theorem mx_mem : ∀ {l : List Int}, l ≠ [] → mxI l ∈ l
  | [], h => absurd rfl h
  | [x], _ => by simp [mxI]
  | x :: y :: r, _ => by
    have ih := mx_mem (l := y :: r) (by simp)
    show max x (mxI (y :: r)) ∈ _
    rcases Int.le_total x (mxI (y :: r)) with c | c
    · rw [Int.max_eq_right c]; exact List.mem_cons_of_mem _ ih
    · rw [Int.max_eq_left c]; exact List.mem_cons_self
theorem mx_le : ∀ {l : List Int} {x : Int}, x ∈ l → x ≤ mxI l
  | [x], y, h => by simp at h; subst h; exact Int.le_refl _
  | x :: y :: r, z, h => by
    show z ≤ max x (mxI (y :: r))
    rcases List.mem_cons.mp h with rfl | h
    · exact Int.le_max_left _ _
    · exact Int.le_trans (mx_le h) (Int.le_max_right _ _)
theorem mx_eq {l : List Int} {z : Int} (h1 : z ∈ l) (h2 : ∀ x ∈ l, x ≤ z) : mxI l = z := by
  have a := h2 _ (mx_mem (List.ne_nil_of_mem h1))
  have b := mx_le h1
  omega
section
variable {N n m k : Nat}
theorem gap_ris (hN : 0 < N) (k : Nat) : Ris N (afterL N n (k + 1)) := after_ris hN (by omega)
theorem gapK_len (hN : 0 < N) (k : Nat) : (gapK N n k).length = min (k + 1) (petN N n) := by unfold gapK; rw [gaps_len (gap_ris hN k), after_len hN]
theorem gapK_ne (hN : 0 < N) (k : Nat) : gapK N n k ≠ [] := fun z => by
  have := gapK_len (n := n) hN k
  have p := pet_pos (n := n) hN
  rw [z] at this; simp at this; omega
theorem gapK_more (hN : 0 < N) (h : petN N n ≤ k + 1) : gapK N n k = gapK N n (petN N n - 1) := by
  have p := pet_pos (n := n) hN
  unfold gapK
  rw [after_more hN h, Nat.sub_add_cancel p]
theorem after_full (hN : 0 < N) : afterL N n (petN N n) = intsI (likeL N (Nat.gcd N n) 0) := by
  have hg := (gcd_le (n := n) hN).1
  symm
  refine ssort_of ?_ fun x => ?_
  · unfold intsI
    rw [List.pairwise_map]
    exact (asc_like hg _ _).imp fun h => by omega
  · rw [mem_intsI', mem_intsI']
    refine exists_congr fun y => and_congr_left fun _ => ?_
    rw [mem_like hg (Nat.gcd_dvd_left N n) hg]
    constructor
    · rintro ⟨h1, h2⟩
      exact (tips_mem hN h1).mpr (by rw [h2, Nat.zero_mod])
    · intro h
      have h1 := tip_lt hN h
      exact ⟨h1, by rw [(tips_mem hN h1).mp h, Nat.zero_mod]⟩
theorem like_getD {g : Nat} {i : Nat} (h : i < N / g) : (intsI (likeL N g 0)).getD i 0 = ((i * g : Nat) : Int) := by
  refine intsI_getD ?_
  unfold likeL
  rw [List.getElem?_map, List.getElem?_range h]; simp
theorem gaps_full (hN : 0 < N) : gapK N n (petN N n - 1) = List.replicate (petN N n) ((Nat.gcd N n : Nat) : Int) := by
  have p := pet_pos (n := n) hN
  have r := gap_ris (n := n) hN (petN N n - 1)
  have e1 : afterL N n (petN N n - 1 + 1) = intsI (likeL N (Nat.gcd N n) 0) := by rw [Nat.sub_add_cancel p, after_full hN]
  have len : (afterL N n (petN N n - 1 + 1)).length = petN N n := by rw [after_len hN, Nat.sub_add_cancel p, Nat.min_self]
  have pm := pet_mul (n := n) hN
  unfold gapK
  refine ext_getD (by rw [gaps_len r, len, List.length_replicate]) fun i hi => ?_
  rw [gaps_len r, len] at hi
  rw [gaps_get r (by rw [len]; exact hi), len, e1]
  have gi := like_getD (N := N) (g := Nat.gcd N n) (i := i) hi
  have gr : (List.replicate (petN N n) ((Nat.gcd N n : Nat) : Int)).getD i 0 = ((Nat.gcd N n : Nat) : Int) := by
    rw [List.getD_eq_getElem?_getD, List.getElem?_replicate, if_pos hi]; rfl
  rw [gi, gr]
  split
  · next c =>
    rw [like_getD (N := N) (g := Nat.gcd N n) (i := i + 1) c, Nat.add_mul, Nat.one_mul]; simp only [Int.natCast_add]; omega
  · next c =>
    have z : (intsI (likeL N (Nat.gcd N n) 0)).getD 0 0 = 0 := by rw [like_getD (N := N) (g := Nat.gcd N n) (i := 0) p]; simp
    rw [z]
    have e : (i + 1) * Nat.gcd N n = N := by rw [show i + 1 = petN N n by omega, pm]
    rw [Nat.add_mul, Nat.one_mul] at e
    omega
theorem gap_mul (hN : 0 < N) (k : Nat) : ∀ x ∈ gapK N n k, ((Nat.gcd N n : Nat) : Int) ∣ x ∧ 0 < x := fun x hx => by
  have r := gap_ris (n := n) hN k
  obtain ⟨i, h1, h2⟩ := mem_getD hx
  unfold gapK at h1 h2
  rw [gaps_len r] at h1
  have pos := gaps_pos r h1
  rw [h2] at pos
  have dv : ∀ j, j < (afterL N n (k + 1)).length → ((Nat.gcd N n : Nat) : Int) ∣ (afterL N n (k + 1)).getD j 0 := fun j hj => by
    obtain ⟨i, _, e⟩ := mem_after.mp (getD_mem hj)
    rw [e]
    refine Int.natCast_dvd_natCast.mpr ?_
    unfold qN
    exact (Nat.dvd_mod_iff (Nat.gcd_dvd_left N n)).mpr (Nat.dvd_trans (Nat.gcd_dvd_right N n) (Nat.dvd_mul_left n i))
  have dN : ((Nat.gcd N n : Nat) : Int) ∣ (N : Int) := Int.natCast_dvd_natCast.mpr (Nat.gcd_dvd_left N n)
  refine ⟨?_, pos⟩
  rw [← h2, gaps_get r h1]
  split
  · next c => exact Int.dvd_sub (dv _ c) (dv _ h1)
  · exact Int.dvd_sub (Int.dvd_add (dv 0 r.ne) dN) (dv _ h1)
theorem gap_ge (hN : 0 < N) (k : Nat) : ∀ x ∈ gapK N n k, ((Nat.gcd N n : Nat) : Int) ≤ x := fun x hx => by
  obtain ⟨h1, h2⟩ := gap_mul hN k x hx
  exact Int.le_of_dvd h2 h1
/-- k is the first number of arcs after which no gap is above the bound -/
def FirstK (N n bound k : Nat) : Prop := mxI (gapK N n k) ≤ (bound : Int) ∧ ∀ j, j < k → (bound : Int) < mxI (gapK N n j)
theorem mx_full (hN : 0 < N) : mxI (gapK N n (petN N n - 1)) = ((Nat.gcd N n : Nat) : Int) := by
  have p := pet_pos (n := n) hN
  rw [gaps_full hN]
  refine mx_eq (List.mem_replicate.mpr ⟨by omega, rfl⟩) fun x hx => ?_
  rw [(List.mem_replicate.mp hx).2]; exact Int.le_refl _
theorem first_ex (hN : 0 < N) {bound : Nat} (h : Nat.gcd N n ≤ bound) : ∃ k, k < petN N n ∧ FirstK N n bound k := by
  have p := pet_pos (n := n) hN
  obtain ⟨k, h1, h2⟩ := exists_least (fun k => mxI (gapK N n k) ≤ (bound : Int)) ⟨petN N n - 1, by rw [mx_full hN]; omega⟩
  refine ⟨k, Nat.lt_of_not_le fun c => h2 (petN N n - 1) (by omega) (by rw [mx_full hN]; omega), h1, fun j hj => by have := h2 j hj; omega⟩
theorem first_none (hN : 0 < N) {bound : Nat} (h : bound < Nat.gcd N n) (k : Nat) : (bound : Int) < mxI (gapK N n k) := by
  have := gap_ge hN k _ (mx_mem (gapK_ne (n := n) hN k))
  omega
theorem gap_zero (hN : 0 < N) : gapK N n 0 = [(N : Int)] := by
  have p := pet_pos (n := n) hN
  have r := gap_ris (n := n) hN 0
  have len : (afterL N n (0 + 1)).length = 1 := by rw [after_len hN]; omega
  unfold gapK
  refine ext_getD (by rw [gaps_len r, len]; rfl) fun i hi => ?_
  rw [gaps_len r, len] at hi
  have e : i = 0 := by omega
  subst e
  rw [gaps_get r (by omega), len, if_neg (by omega), after_zero hN (by omega)]
  simp
end
/-! ### kinds -/
def kindsD (l : List Int) : List PyData := (ssort l).map fun x => .tuple [.int x, .int (l.count x : Nat)]
theorem ssort_one {x : Int} {l : List Int} (h : l ≠ []) (e : ∀ y ∈ l, y = x) : ssort l = [x] := by
  symm
  refine ssort_of (by simp) fun k => ?_
  constructor
  · intro z
    simp at z; subst z
    obtain ⟨y, hy⟩ := List.exists_mem_of_ne_nil l h
    exact e y hy ▸ hy
  · intro z
    simp [e k z]
theorem asc_three {l : List Int} {a b : Int} (h : l.Pairwise (· < ·)) (ha : 0 < a) (hb : 0 < b) (e : ∀ x ∈ l, x = a ∨ x = b ∨ x = a + b) : l.length ≤ 3 ∧ (l.length = 3 → l.getD 0 0 + l.getD 1 0 = l.getD 2 0) := by
  match l, h, e with
  | [], _, _ => exact ⟨by simp, by simp⟩
  | [x], _, _ => exact ⟨by simp, by simp⟩
  | [x, y], _, _ => exact ⟨by simp, by simp⟩
  | [x, y, z], h, e =>
    refine ⟨by simp, fun _ => ?_⟩
    have h1 := e x (by simp)
    have h2 := e y (by simp)
    have h3 := e z (by simp)
    simp at h
    show x + y = z
    omega
  | x :: y :: z :: w :: r, h, e =>
    have h1 := e x (by simp)
    have h2 := e y (by simp)
    have h3 := e z (by simp)
    have h4 := e w (by simp)
    simp at h
    omega
theorem kinds_three {N n : Nat} (hN : 0 < N) (k : Nat) : (ssort (gapK N n k)).length ≤ 3 ∧ ((ssort (gapK N n k)).length = 3 → (ssort (gapK N n k)).getD 0 0 + (ssort (gapK N n k)).getD 1 0 = (ssort (gapK N n k)).getD 2 0) := by
  have p := pet_pos (n := n) hN
  have core : ∀ k, k + 1 ≤ petN N n → ∃ a b : Int, 0 < a ∧ 0 < b ∧ ∀ x ∈ gapK N n k, x = a ∨ x = b ∨ x = a + b := fun k hk => by
    rcases Nat.eq_zero_or_pos k with z | z
    · subst z
      refine ⟨N, N, by omega, by omega, fun x hx => ?_⟩
      rw [gap_zero hN] at hx; simp at hx
      exact .inl hx
    · exact gaps_three hN (by omega) hk
  have : ∃ a b : Int, 0 < a ∧ 0 < b ∧ ∀ x ∈ gapK N n k, x = a ∨ x = b ∨ x = a + b := by
    rcases Nat.lt_or_ge (petN N n) (k + 1) with c | c
    · rw [gapK_more hN (by omega)]
      exact core _ (by omega)
    · exact core k c
  obtain ⟨a, b, h1, h2, h3⟩ := this
  exact asc_three (asc_ssort _) h1 h2 fun x hx => h3 x ((mem_ssort x _).mp hx)
def Sig_gaps_of : List PyData → Res → Prop := fun ds r => ∃ N n s arcs, 0 < N ∧ N ≤ 1000 ∧ 0 < n ∧ n ≤ 1000 ∧ arcs ≤ 1000 ∧ ds = [gD N n s, .int (arcs : Nat)] ∧ r = .new ((gapK N n arcs).map .int)
/-- defs that take a gear and a number of arcs -/
def SigA (f : Nat → Nat → Str → Nat → Res) : List PyData → Res → Prop := fun ds r => ∃ N n s arcs, GOk N n s ∧ arcs ≤ 150 ∧ ds = [gD N n s, .int (arcs : Nat)] ∧ r = f N n s arcs
def Sig_arcs_for : List PyData → Res → Prop := fun ds r => ∃ N n s bound, GOk N n s ∧ 1 ≤ bound ∧ bound ≤ 150 ∧ ds = [gD N n s, .int (bound : Nat)] ∧ ((bound < Nat.gcd N n ∧ r = .val .none) ∨ (∃ k, k < petN N n ∧ FirstK N n bound k ∧ r = vI k))
def evenL (N n : Nat) : List Nat := (List.range (petN N n)).filter fun k => decide (((ssort (gapK N n k)).length : Int) = 1)
theorem gaps_zip (N : Nat) (L : List Int) : gathI (L.length - 1) (fun _ => true) (fun i => (L.drop 1).getD i 0 - L.getD i 0) ++ [L.getD 0 0 + (N : Int) - L.getD (L.length - 1) 0] = gapsI N L := by
  unfold gapsI
  rw [gathI_true, gathI_true]
  congr 1
  exact List.map_congr_left fun i _ => by rw [drop_getD]
theorem after_len_pos {N n : Nat} (hN : 0 < N) (k : Nat) : 0 < (ssort (intsI (tipsN N n 0 (k + 1)))).length := (gap_ris (n := n) hN k).ne
theorem kinds_gath (l : List Int) : gath (ssort l).length (fun _ => true) (fun i => .tuple [.int ((ssort l).getD i 0), .int (l.count ((ssort l).getD i 0) : Nat)]) = kindsD l := by
  unfold gath kindsD
  rw [List.filter_eq_self.mpr (fun _ _ => rfl)]
  apply List.ext_getElem
  · simp
  · intro i h1 h2
    simp at h1 h2
    simp [h1]
end WC

/-! gaps: what the laws ask -/
namespace WC
open PySem L2
section
variable {N n k : Nat}
theorem kinds_len (l : List Int) : (kindsD l).length = (ssort l).length := by simp [kindsD]
theorem gd_kinds (l : List Int) : Gd 2 (.list (kindsD l)) := Gd.list fun d hd => by
  obtain ⟨x, _, rfl⟩ := List.mem_map.mp hd
  exact gd_pair _ _
theorem kinds_at {l : List Int} {j : Nat} (h : j < (ssort l).length) : atI (kindsD l) (j : Int) = some (.tuple [.int ((ssort l).getD j 0), .int (l.count ((ssort l).getD j 0) : Nat)]) := by
  refine atI_pos ?_
  unfold kindsD
  rw [List.getElem?_map, List.getElem?_eq_getElem h, List.getD_eq_getElem?_getD, List.getElem?_eq_getElem h]; rfl
theorem kinds_known (hN : 0 < N) (k : Nat) : (decide (((kindsD (gapK N n k)).length : Int) = 3) && !decide ((ssort (gapK N n k)).getD 0 0 + (ssort (gapK N n k)).getD 1 0 = (ssort (gapK N n k)).getD 2 0)) = false := by
  rw [kinds_len]
  by_cases c : (ssort (gapK N n k)).length = 3
  · rw [decide_eq_true ((kinds_three hN k).2 c)]; simp
  · rw [decide_eq_false (show ¬ ((ssort (gapK N n k)).length : Int) = 3 by omega)]; rfl
/-- the first number of arcs that was found -/
def needK (N n bound : Nat) (k : Nat) : Option Nat := (List.range k).find? fun j => decide (mxI (gapK N n j) ≤ (bound : Int))
def needD (N n bound k : Nat) : PyData := match needK N n bound k with
  | none => .none
  | some j => .int (j : Int)
theorem need_step (N n bound k : Nat) : needD N n bound (k + 1) = if (isNoneD (needD N n bound k) && decide (mxI (gapK N n k) ≤ (bound : Int))) = true then .int (k : Int) else needD N n bound k := by
  unfold needD needK
  rw [List.range_succ, List.find?_append]
  cases h : (List.range k).find? fun j => decide (mxI (gapK N n j) ≤ (bound : Int)) with
  | some j => simp [isNoneD]
  | none =>
    by_cases c : mxI (gapK N n k) ≤ (bound : Int)
    · simp [isNoneD, c]
    · simp [isNoneD, c]
theorem gd_need (N n bound k : Nat) : Gd 0 (needD N n bound k) := by
  unfold needD
  cases needK N n bound k with
  | none => exact Gd.non
  | some j => exact Gd.int _
theorem need_is (hN : 0 < N) (bound : Nat) : (bound < Nat.gcd N n ∧ Res.val (needD N n bound (petN N n)) = .val .none) ∨ (∃ k, k < petN N n ∧ FirstK N n bound k ∧ Res.val (needD N n bound (petN N n)) = vI k) := by
  rcases Nat.lt_or_ge bound (Nat.gcd N n) with c | c
  · refine .inl ⟨c, ?_⟩
    have : needK N n bound (petN N n) = none := by
      unfold needK
      rw [List.find?_range_eq_none]
      intro i _
      have := first_none (n := n) hN c i
      simp; omega
    unfold needD; rw [this]
  · obtain ⟨k, h1, h2⟩ := first_ex (n := n) hN c
    refine .inr ⟨k, h1, h2, ?_⟩
    have : needK N n bound (petN N n) = some k := by
      unfold needK
      rw [List.find?_range_eq_some]
      refine ⟨decide_eq_true h2.1, List.mem_range.mpr h1, fun j hj => ?_⟩
      have := h2.2 j hj
      simp; omega
    unfold needD; rw [this]; rfl
theorem nodup_asc {l : List Int} (h : l.Pairwise (· < ·)) : l.Nodup := h.imp fun h e => by omega
theorem isort_after (hN : 0 < N) (hk : k < petN N n) : isort (afterL N n k ++ [((k : Int) * (n : Int)) % (N : Int)]) = afterL N n (k + 1) := by
  have eq : ((k : Int) * (n : Int)) % (N : Int) = (qN N n k : Int) := by unfold qN; rw [Int.natCast_emod, Int.natCast_mul]
  symm
  refine isort_of ((asc_ssort _).imp fun h => Int.le_of_lt h) ?_
  have nd2 : (afterL N n k ++ [((k : Int) * (n : Int)) % (N : Int)]).Nodup := by
    refine List.nodup_append.mpr ⟨nodup_asc (asc_ssort _), by simp, fun x hx y hy e => ?_⟩
    simp at hy
    rw [hy, eq] at e
    obtain ⟨i, hi, e2⟩ := mem_after.mp hx
    rw [e2] at e
    have : (0 + i * n) % N = (0 + k * n) % N := by rw [Nat.zero_add, Nat.zero_add]; unfold qN at e; omega
    have := tip_inj hN (by omega) hk this
    omega
  refine (List.perm_ext_iff_of_nodup (nodup_asc (asc_ssort _)) nd2).mpr fun x => ?_
  show x ∈ afterL N n (k + 1) ↔ _
  rw [List.mem_append, mem_after, mem_after, List.mem_singleton, eq]
  constructor
  · rintro ⟨i, hi, rfl⟩
    rcases Nat.lt_or_ge i k with c | c
    · exact .inl ⟨i, c, rfl⟩
    · exact .inr (by rw [show i = k by omega])
  · rintro (⟨i, hi, rfl⟩ | rfl)
    · exact ⟨i, by omega, rfl⟩
    · exact ⟨k, by omega, rfl⟩
theorem turned_getD {L : List Int} {i : Nat} (h : i < L.length) : (L.drop 1 ++ L.take 1).getD i 0 = L.getD ((i + 1) % L.length) 0 := by
  rcases Nat.lt_or_ge (i + 1) L.length with c | c
  · rw [Nat.mod_eq_of_lt c, List.getD_eq_getElem?_getD, List.getElem?_append_left (by rw [List.length_drop]; omega), List.getElem?_drop, Nat.add_comm 1 i, ← List.getD_eq_getElem?_getD]
  · rw [show i + 1 = L.length by omega, Nat.mod_self, List.getD_eq_getElem?_getD, List.getElem?_append_right (by rw [List.length_drop]; omega), List.length_drop, show i - (L.length - 1) = 0 by omega, List.getElem?_take_of_lt (by omega), ← List.getD_eq_getElem?_getD]
theorem turned_eq (hN : 0 < N) (k : Nat) : gathI (afterL N n (k + 1)).length (fun _ => true) (fun i => (((afterL N n (k + 1)).drop 1 ++ (afterL N n (k + 1)).take 1).getD i 0 - (afterL N n (k + 1)).getD i 0 - 1) % (N : Int) + 1) = gapK N n k := by
  have r := gap_ris (n := n) hN k
  unfold gapK
  rw [← gaps_due r, gathI_true, gathI_true]
  refine List.map_congr_left fun i hi => ?_
  rw [turned_getD (List.mem_range.mp hi)]
theorem mem_even {j : Nat} : j ∈ evenL N n ↔ j < petN N n ∧ (ssort (gapK N n j)).length = 1 := by
  unfold evenL
  rw [List.mem_filter, List.mem_range, decide_eq_true_iff]
  exact and_congr_right fun _ => by omega
theorem even_zero (hN : 0 < N) : 0 ∈ evenL N n := mem_even.mpr ⟨pet_pos hN, by rw [gap_zero hN]; rfl⟩
theorem even_top (hN : 0 < N) : petN N n - 1 ∈ evenL N n := by
  have p := pet_pos (n := n) hN
  refine mem_even.mpr ⟨by omega, ?_⟩
  rw [gaps_full hN, ssort_one (x := ((Nat.gcd N n : Nat) : Int)) (by intro z; have := congrArg List.length z; simp at this; omega) (fun y hy => (List.mem_replicate.mp hy).2)]; rfl
theorem asc_even : (evenL N n).Pairwise (· < ·) := (asc_range _).filter _
theorem even_first (hN : 0 < N) : atI (intsI (evenL N n)) 0 = some 0 := by
  obtain ⟨i, h1, h2⟩ := List.getElem_of_mem (even_zero (n := n) hN)
  have : i = 0 := by
    rcases Nat.eq_zero_or_pos i with z | z
    · exact z
    · have := List.pairwise_iff_getElem.mp (asc_even (N := N) (n := n)) 0 i (by omega) h1 z
      omega
  subst this
  exact atI_pos (k := 0) (intsI_get (by rw [List.getElem?_eq_getElem h1, h2]))
theorem even_last (hN : 0 < N) : atI (intsI (evenL N n)) (-1) = some ((petN N n : Int) - 1) := by
  have p := pet_pos (n := n) hN
  obtain ⟨i, h1, h2⟩ := List.getElem_of_mem (even_top (n := n) hN)
  have e : i = (evenL N n).length - 1 := by
    rcases Nat.lt_or_ge i ((evenL N n).length - 1) with z | z
    · have a := List.pairwise_iff_getElem.mp (asc_even (N := N) (n := n)) i ((evenL N n).length - 1) h1 (by omega) z
      have b := (mem_even.mp (List.getElem_mem (l := evenL N n) (n := (evenL N n).length - 1) (by omega))).1
      omega
    · omega
  rw [atI_last (by rw [intsI_len]; omega), intsI_len, intsI_getD (x := petN N n - 1) (by rw [← e, List.getElem?_eq_getElem h1, h2])]
  congr 1; omega
theorem even_ne (hN : 0 < N) : (false = true) ↔ PyData.list (intsD (evenL N n)) = .list [] := by
  refine ⟨fun z => Bool.noConfusion z, fun z => ?_⟩
  injection z with z
  have := congrArg List.length z
  rw [intsD_len] at this
  have h := List.length_pos_of_mem (even_zero (n := n) hN)
  simp at this; rw [this] at h; simp at h
theorem even_in (hN : 0 < N) {j : Nat} (hj : j < petN N n) : decide ((j : Int) ∈ intsI (evenL N n)) = decide (((kindsD (gapK N n j)).length : Int) = 1) := by
  refine decide_eq_decide.mpr ?_
  rw [mem_intsI, mem_even, kinds_len]
  exact ⟨fun h => by omega, fun h => ⟨hj, by omega⟩⟩
theorem kinds_end (hN : 0 < N) (h : petN N n ≤ 151) : kindsD (gapK N n 150) = [.tuple [.int (Nat.gcd N n : Nat), .int (petN N n : Nat)]] := by
  have p := pet_pos (n := n) hN
  rw [gapK_more hN h, gaps_full hN]
  unfold kindsD
  rw [ssort_one (x := ((Nat.gcd N n : Nat) : Int)) (by intro z; have := congrArg List.length z; simp at this; omega) (fun y hy => (List.mem_replicate.mp hy).2)]
  simp
end
end WC

/-! each new tip cuts one gap in two -/
namespace WC
open PySem L2
def diffs : List Int → List Int
  | x :: y :: r => (y - x) :: diffs (y :: r)
  | _ => []
theorem diffs_len : ∀ l : List Int, (diffs l).length = l.length - 1
  | [] => rfl
  | [_] => rfl
  | x :: y :: r => by
    show (diffs (y :: r)).length + 1 = _
    rw [diffs_len (y :: r)]; simp
theorem diffs_get : ∀ (l : List Int) (i : Nat), i + 1 < l.length → (diffs l).getD i 0 = l.getD (i + 1) 0 - l.getD i 0
  | [], i, h => absurd h (by simp)
  | [_], i, h => absurd h (by simp)
  | x :: y :: r, 0, _ => by simp [diffs]
  | x :: y :: r, i + 1, h => by
    have ih := diffs_get (y :: r) i (by simpa using h)
    simpa [diffs] using ih
theorem diffs_mid : ∀ (A : List Int) (a b : Int) (T : List Int), diffs (A ++ a :: b :: T) = diffs (A ++ [a]) ++ (b - a) :: diffs (b :: T)
  | [], a, b, T => rfl
  | [x], a, b, T => rfl
  | x :: y :: A, a, b, T => by
    show (y - x) :: diffs (y :: A ++ a :: b :: T) = (y - x) :: diffs (y :: A ++ [a]) ++ _
    rw [diffs_mid (y :: A) a b T]; rfl
theorem gaps_diffs {N : Nat} {L : List Int} (r : Ris N L) : gapsI N L = diffs (L ++ [L.getD 0 0 + (N : Int)]) := by
  refine ext_getD (by rw [gaps_len r, diffs_len, List.length_append]; simp) fun i hi => ?_
  rw [gaps_len r] at hi
  rw [gaps_get r hi, diffs_get _ _ (by rw [List.length_append]; simp; omega)]
  have e1 : (L ++ [L.getD 0 0 + (N : Int)]).getD i 0 = L.getD i 0 := by
    rw [List.getD_eq_getElem?_getD, List.getElem?_append_left hi, ← List.getD_eq_getElem?_getD]
  rw [e1]
  split
  · next c =>
    rw [List.getD_eq_getElem?_getD (l := L ++ _), List.getElem?_append_left c, ← List.getD_eq_getElem?_getD]
  · next c =>
    rw [List.getD_eq_getElem?_getD (l := L ++ _), List.getElem?_append_right (by omega), show i + 1 - L.length = 0 by omega]; rfl
/-- a list that rises, cut at q -/
theorem asc_cut : ∀ {l : List Int} {q : Int}, l.Pairwise (· < ·) → q ∉ l → ∃ A B, l = A ++ B ∧ (∀ x ∈ A, x < q) ∧ (∀ x ∈ B, q < x)
  | [], q, _, _ => ⟨[], [], rfl, by simp, by simp⟩
  | x :: l, q, h, hq => by
    obtain ⟨h1, h2⟩ := List.pairwise_cons.mp h
    rcases Int.lt_trichotomy x q with c | c | c
    · obtain ⟨A, B, e, a, b⟩ := asc_cut h2 (fun z => hq (List.mem_cons_of_mem _ z))
      refine ⟨x :: A, B, by rw [e]; rfl, fun y hy => ?_, b⟩
      rcases List.mem_cons.mp hy with rfl | hy
      · exact c
      · exact a y hy
    · exact absurd (by rw [c]; simp) hq
    · refine ⟨[], x :: l, rfl, by simp, fun y hy => ?_⟩
      rcases List.mem_cons.mp hy with rfl | hy
      · exact c
      · exact Int.lt_trans c (h1 y hy)
/-- one more tip -/
theorem cut_gap {N n k : Nat} (hN : 0 < N) (hk : k + 1 < petN N n) : ∃ (y z : Int) (U V : List Int), 0 < y ∧ 0 < z ∧ gapK N n k = U ++ (y + z) :: V ∧ gapK N n (k + 1) = U ++ y :: z :: V := by
  have r := gap_ris (n := n) hN k
  have r' := gap_ris (n := n) hN (k + 1)
  have ql := q_lt (n := n) hN (k + 1)
  have qp := q_pos (n := n) hN (show 0 < k + 1 by omega) hk
  have no : ((qN N n (k + 1) : Nat) : Int) ∉ afterL N n (k + 1) := fun z => by
    obtain ⟨i, hi, e⟩ := mem_after.mp z
    have : (0 + (k + 1) * n) % N = (0 + i * n) % N := by rw [Nat.zero_add, Nat.zero_add]; unfold qN at e; omega
    have := tip_inj hN hk (by omega) this
    omega
  obtain ⟨A, B, e, a, b⟩ := asc_cut (asc_ssort (intsI (tipsN N n 0 (k + 1)))) no
  have eL : afterL N n (k + 1) = A ++ B := e
  have asc := asc_ssort (intsI (tipsN N n 0 (k + 1)))
  rw [e] at asc
  obtain ⟨aA, aB, aAB⟩ := List.pairwise_append.mp asc
  have z0 := after_zero (n := n) hN (show 0 < k + 1 by omega)
  have z1 := after_zero (n := n) hN (show 0 < k + 1 + 1 by omega)
  -- A holds the first tip
  have hA : A ≠ [] := fun z => by
    have m0 : (0 : Int) ∈ afterL N n (k + 1) := mem_after.mpr ⟨0, by omega, by unfold qN; rw [Nat.zero_mul, Nat.zero_mod]; rfl⟩
    rw [eL, z] at m0
    have := b 0 (by simpa using m0)
    omega
  have e' : afterL N n (k + 1 + 1) = A ++ (qN N n (k + 1) : Int) :: B := by
    refine asc_uniq (asc_ssort _) ?_ fun x => ?_
    · refine List.pairwise_append.mpr ⟨aA, List.pairwise_cons.mpr ⟨b, aB⟩, fun x hx y hy => ?_⟩
      rcases List.mem_cons.mp hy with rfl | hy
      · exact a x hx
      · exact aAB x hx y hy
    · show x ∈ afterL N n (k + 1 + 1) ↔ _
      have : x ∈ afterL N n (k + 1) ↔ x ∈ A ∨ x ∈ B := by rw [eL, List.mem_append]
      rw [mem_after] at this ⊢
      rw [List.mem_append, List.mem_cons]
      constructor
      · rintro ⟨i, hi, rfl⟩
        rcases Nat.lt_or_ge i (k + 1) with c | c
        · rcases this.mp ⟨i, c, rfl⟩ with h | h
          · exact .inl h
          · exact .inr (.inr h)
        · exact .inr (.inl (by rw [show i = k + 1 by omega]))
      · rintro (h | rfl | h)
        · obtain ⟨i, hi, e⟩ := this.mpr (.inl h); exact ⟨i, by omega, e⟩
        · exact ⟨k + 1, by omega, rfl⟩
        · obtain ⟨i, hi, e⟩ := this.mpr (.inr h); exact ⟨i, by omega, e⟩
  obtain ⟨A0, x, rfl⟩ : ∃ A0 x, A = A0 ++ [x] := ⟨A.dropLast, A.getLast hA, (List.dropLast_concat_getLast hA).symm⟩
  unfold gapK
  rw [gaps_diffs r, gaps_diffs r', z0, z1, eL, e']
  obtain ⟨c, T, eT⟩ : ∃ c T, B ++ [(0 : Int) + (N : Int)] = c :: T := by
    cases B with
    | nil => exact ⟨_, _, rfl⟩
    | cons c B => exact ⟨c, _, rfl⟩
  have hc : ((qN N n (k + 1) : Nat) : Int) < c := by
    cases B with
    | nil => injection eT with h1 _; omega
    | cons d B => injection eT with h1 _; rw [← h1]; exact b d (by simp)
  have hx := a x (by simp)
  refine ⟨(qN N n (k + 1) : Int) - x, c - (qN N n (k + 1) : Int), diffs (A0 ++ [x]), diffs (c :: T), by omega, by omega, ?_, ?_⟩
  · rw [List.append_assoc, eT, List.append_assoc]
    show diffs (A0 ++ x :: c :: T) = _
    rw [diffs_mid, show (qN N n (k + 1) : Int) - x + (c - (qN N n (k + 1) : Int)) = c - x by omega]
  · rw [show A0 ++ [x] ++ (qN N n (k + 1) : Int) :: B ++ [(0 : Int) + (N : Int)] = A0 ++ x :: (qN N n (k + 1) : Int) :: (B ++ [(0 : Int) + (N : Int)]) by simp, eT]
    rw [diffs_mid]; rfl
end WC

/-! range with a step, remove, gaps taken away -/
namespace WC
open PySem L2
open Evl (Ex)
section
variable {X : Cx} {E : XK} {ρ : REnv} {M M1 : List MO} {e : Expr} {pos p : Pos} {r : Slot}
/-- range(lo, hi, c), a step above 0 -/
theorem it_range3 {tg e1 e2 e3 : Expr} {lo hi c : Int} (n : Nat) (hm : X.mg "range" = none) (h : AD X ρ M [e1, e2, e3] [.d (.int lo), .d (.int hi), .d (.int c)] M1) (hc : 1 ≤ c ∧ c ≤ 1000000) (hn : -1000000 ≤ lo ∧ lo ≤ 1000000 ∧ -1000000 ≤ hi ∧ hi ≤ 1000000) (hnn : (n : Int) = if lo < hi then (hi - lo - 1) / c + 1 else 0)
    (hg : Gl X "range" := by rfl) (hs : starEach [e1, e2, e3] X.env = (false, eval e1 X.env) :: starEach [e2, e3] X.env := by rfl) (hpl : (backTo pos (starEach [e2, e3] X.env)).any (·.1) = false := by rfl) :
    ITR X ρ M tg (.Call (.Name "range" p) [e1, e2, e3] [] pos) n (fun i => .int (lo + (i : Int) * c)) M1 := fun As σ F H hM hE R q =>
  ⟨_, pi_range3 hg hm (pa_w X _) hs hpl, h As σ F H hM hE _ fun vs As1 F1 H1 s1 m1 o1 => by
    cases o1 with
    | cons o1 o2 =>
      cases o2 with
      | cons o2 o3 =>
        cases o3 with
        | cons o3 o4 =>
          cases o4; cases o1; cases o2; cases o3
          refine ⟨lo, hi, c, n, rfl, ⟨by omega, by omega, ?_, ?_⟩, q _ As1 F1 H1 s1 m1 ⟨fun F2 H2 i a1 a2 hi => hi, fun F2 H2 i x H3 a1 a2 hlt y => ?_, fun F2 H2 i a1 a2 hi => hi⟩⟩
          · unfold Builtin.Range.small
            rw [show Builtin.Range.rangeSize lo hi c = (n : Int) by unfold Builtin.Range.rangeSize; rw [if_pos (by omega), hnn]]
            have hq : (n : Int) ≤ 2000001 := by
              rw [hnn]
              split
              · have := Int.ediv_le_self (a := hi - lo - 1) c (by omega)
                omega
              · omega
            simp only [Builtin.Range.rangeFitsLong, Bool.and_eq_true, Bool.or_eq_true, decide_eq_true_eq, beq_iff_eq, show (c > 0) by omega, if_true]
            omega
          · unfold Builtin.Range.rangeSize
            rw [if_pos (by omega), hnn]
          · obtain ⟨rfl, rfl⟩ := y
            exact .inl ⟨rfl, .int _⟩⟩
/-- xs.remove(e), xs an owned list of ints -/
theorem ed_removeI {i j : Nat} {x : Str} {px apos : Pos} {a : Expr} {ns : List Int} {k : Int} (h : ED X ρ M a (.d (.int k)) M) (hk : k ∈ ns) (hi : ρ[i]? = some (some (.own j)) := by rfl) (hm : M[j]? = some (.lst (ns.map .int)) := by rfl) (hN : X.N[i]? = some x := by rfl) (hv : Vis X.env.scope x := by first | exact Or.inl rfl | exact Or.inr (Or.inl rfl) | exact Or.inr (Or.inr rfl)) (hd : (x == ("__debug__" : Str)) = false := by decide)
    (hcd : (x == ("__classdict__" : Str)) = false := by decide) (hb : attributeBase (.Name x px) "remove" X.env (eval (.Name x px) X.env) = eval (.Name x px) X.env := by rfl)
    (hfew : ((backTo pos (starEach (a :: []) X.env)).all (fun x => !x.1) && (backToKw pos (keywordEach [] X.env)).all (fun x => x.1.isSome)
      && decide ((a :: []).length + ([] : List Keyword).length + (if ([] : List Keyword).isEmpty then 0 else 1) < 30)) = true := by rfl)
    (hline : (apos.endLine == pos.line) = true := by rfl) (hs : starEach (a :: []) X.env = (false, eval a X.env) :: starEach [] X.env := by rfl) :
    ED X ρ M (.Call (.Attribute (.Name x px) "remove" apos) [a] [] pos) (.d .none) (M.set j (.lst ((ns.erase k).map .int))) := fun As σ F H hM hE Q q => by
  obtain ⟨v, h1, p, h2, rfl⟩ := hE.env i _ hi
  obtain ⟨ys, k1, k2⟩ := hM.mem j p _ h2 hm
  refine ⟨_, pe_bm PySem.F.plainAttrs_list PySem.F.slot_list_remove PySem.F.type_list_remove mt_remove (pe_var hN hv hd hcd) (pa_cons (pe_w X a) pa_nil hs) hb hfew hline hs rfl, .ref p, h1, .inl ⟨rfl, _, SqL.of k1⟩, h As σ F H hM hE _ fun w As1 F1 H1 s1 m1 o1 => ?_⟩
  have h3 := s1.pre h2
  obtain ⟨zs, k3, k4⟩ := m1.mem j p _ h3 hm
  cases o1
  have e := k4.ints_of
  subst e
  obtain ⟨s2, m2⟩ := upM m1 h3 ⟨_, hm⟩ (DvAll.ints (F := F1) (ns.erase k))
  have hlt : ns.idxOf k < ns.length := List.idxOf_lt_length_of_mem hk
  refine ⟨p, ns, k, ns.idxOf k, rfl, rfl, k3, ?_, fun m hm' z => ?_, ?_⟩
  · rw [List.getElem?_eq_getElem hlt, List.getElem_idxOf]
  · have hml : m < ns.length := by omega
    rw [List.getElem?_eq_getElem hml] at z
    have := List.not_of_lt_findIdx (p := fun y => y == k) (xs := ns) (i := m) hm'
    simp only [Option.some.injEq] at z
    simp [z] at this
  · rw [← List.erase_eq_eraseIdx_of_idxOf (by rfl)]
    exact q _ _ _ _ (s1.trans s2) m2 .non
end
theorem perm_sumI {l m : List Int} (h : l.Perm m) : l.sum = m.sum := by
  induction h with
  | nil => rfl
  | cons x _ ih => simp [ih]
  | swap x y l => simp; omega
  | trans _ _ a b => rw [a, b]
/-! ### what is left when each gap is taken away once -/
def remStep (p : List Int × List Int) (x : Int) : List Int × List Int := if x ∈ p.2 then (p.1.erase x, p.2.erase x) else p
def remN (A B : List Int) (i : Nat) : List Int × List Int := (A.take i).foldl remStep (A, B)
theorem rem_zero (A B : List Int) : remN A B 0 = (A, B) := by simp [remN]
theorem rem_succ {A B : List Int} {i : Nat} (h : i < A.length) : remN A B (i + 1) = remStep (remN A B i) (A.getD i 0) := by
  unfold remN
  rw [List.take_succ, List.foldl_append, List.getElem?_eq_getElem h]
  simp [List.getD_eq_getElem?_getD, h]
theorem rem_count {A B : List Int} : ∀ {i : Nat}, i ≤ A.length → ∀ v, (remN A B i).2.count v = B.count v - min ((A.take i).count v) (B.count v) ∧ (remN A B i).1.count v = A.count v - min ((A.take i).count v) (B.count v)
  | 0, _, v => by simp [rem_zero]
  | i + 1, h, v => by
    have hi : i < A.length := by omega
    rw [rem_succ hi]
    have tk : (A.take (i + 1)).count v = (A.take i).count v + if A.getD i 0 = v then 1 else 0 := by
      rw [List.take_succ, List.getElem?_eq_getElem hi, List.count_append]
      simp [List.getD_eq_getElem?_getD, hi, List.count_cons]
    have hx := rem_count (A := A) (B := B) (i := i) (by omega) (A.getD i 0)
    have hv := rem_count (A := A) (B := B) (i := i) (by omega) v
    generalize A.getD i 0 = x at tk hx ⊢
    unfold remStep
    by_cases hm : x ∈ (remN A B i).2
    · rw [if_pos hm]
      have hp := List.count_pos_iff.mpr hm
      simp only [List.count_erase]
      rw [tk]
      by_cases e : x = v
      · subst e
        simp
        omega
      · simp [e]
        omega
    · rw [if_neg hm]
      have hp := List.count_eq_zero.mpr hm
      rw [tk]
      by_cases e : x = v
      · subst e
        simp
        omega
      · simp [e]
        omega
/-- what is among the right is among the left -/
theorem rem_in {A B : List Int} {i : Nat} (h : i < A.length) (hm : A.getD i 0 ∈ (remN A B i).2) : A.getD i 0 ∈ (remN A B i).1 := by
  have hx := rem_count (A := A) (B := B) (i := i) (by omega) (A.getD i 0)
  have hp := List.count_pos_iff.mpr hm
  have h1 := rem_count (A := A) (B := B) (i := i) (by omega) (A.getD i 0)
  have tk : (A.take (i + 1)).count (A.getD i 0) = (A.take i).count (A.getD i 0) + 1 := by
    rw [List.take_succ, List.getElem?_eq_getElem h, List.count_append]
    simp [List.getD_eq_getElem?_getD, h]
  have hle : (A.take (i + 1)).count (A.getD i 0) ≤ A.count (A.getD i 0) := (List.take_sublist (i + 1) A).count_le _
  refine List.count_pos_iff.mp ?_
  omega
theorem rem_end {A B U V : List Int} {y z : Int} (hy : 0 < y) (hz : 0 < z) (hA : A.Perm (U ++ (y + z) :: V)) (hB : B.Perm (U ++ y :: z :: V)) : (remN A B A.length).1 = [y + z] ∧ (remN A B A.length).2.length = 2 ∧ (remN A B A.length).2.sum = y + z := by
  have hc := fun v => rem_count (A := A) (B := B) (i := A.length) (Nat.le_refl _) v
  rw [List.take_length] at hc
  have cA : ∀ v, A.count v = U.count v + V.count v + if y + z = v then 1 else 0 := fun v => by
    rw [hA.count_eq v]; simp [List.count_append, List.count_cons]; omega
  have cB : ∀ v, B.count v = U.count v + V.count v + (if y = v then 1 else 0) + (if z = v then 1 else 0) := fun v => by
    rw [hB.count_eq v]; simp [List.count_append, List.count_cons]; omega
  have p1 : ((remN A B A.length).1).Perm [y + z] := List.perm_iff_count.mpr fun v => by
    rw [(hc v).2, cA, cB]
    simp [List.count_cons]
    by_cases e : y + z = v
    · rw [if_pos e, if_neg (by omega), if_neg (by omega)]; omega
    · rw [if_neg e]; omega
  have p2 : ((remN A B A.length).2).Perm [y, z] := List.perm_iff_count.mpr fun v => by
    rw [(hc v).1, cA, cB]
    simp [List.count_cons]
    by_cases e : y + z = v
    · rw [if_pos e, if_neg (show ¬ y = v by omega), if_neg (show ¬ z = v by omega)]; omega
    · rw [if_neg e]; omega
  refine ⟨List.perm_singleton.mp p1, p2.length_eq, ?_⟩
  rw [perm_sumI p2]
  simp
end WC
namespace WC
open PySem L2
/-! ### owned things at the end may be left -/
def ownLt (n : Nat) : REnv → Bool
  | [] => true
  | some (.own j) :: r => decide (j < n) && ownLt n r
  | _ :: r => ownLt n r
theorem ownLt_get {n : Nat} : ∀ {ρ : REnv}, ownLt n ρ = true → ∀ (i j : Nat), ρ[i]? = some (some (.own j)) → j < n
  | [], _, i, j, e => by simp at e
  | none :: r, h, 0, j, e => by simp at e
  | none :: r, h, i + 1, j, e => ownLt_get (ρ := r) h i j (by simpa using e)
  | some (.own k) :: r, h, 0, j, e => by
    simp [ownLt] at h e; omega
  | some (.own k) :: r, h, i + 1, j, e => ownLt_get (ρ := r) (by simp [ownLt] at h; exact h.2) i j (by simpa using e)
  | some (.d x) :: r, h, 0, j, e => by simp at e
  | some (.d x) :: r, h, i + 1, j, e => ownLt_get (ρ := r) h i j (by simpa using e)
  | some (.exc x) :: r, h, 0, j, e => by simp at e
  | some (.exc x) :: r, h, i + 1, j, e => ownLt_get (ρ := r) h i j (by simpa using e)
theorem dropM {As As' : List Addr} {F H F' H' : Hp} {M1 more : List MO} (s : Step As F H As' F' H') (m : RepM As' F' H' (M1 ++ more)) (hl : As.length = M1.length) : Step As F H As F' H' ∧ RepM As F' H' M1 := by
  obtain ⟨x, e, hx⟩ := s.grow
  subst e
  refine ⟨⟨s.fe, s.keep, s.ne, s.cap, [], by simp, by simp⟩, ⟨m.ex, (List.nodup_append.mp m.nd).1, hl, fun a ha => m.ne a (List.mem_append_left _ ha), fun j a o h1 h2 h3 => ?_, fun j a o h1 h2 => ?_⟩⟩
  · have hj := (List.getElem?_eq_some_iff.mp h1).1
    exact m.fr j a o (by rw [List.getElem?_append_left hj]; exact h1) (by rw [List.getElem?_append_left (by omega)]; exact h2) h3
  · have hj := (List.getElem?_eq_some_iff.mp h1).1
    exact m.mem j a o (by rw [List.getElem?_append_left hj]; exact h1) (by rw [List.getElem?_append_left (by omega)]; exact h2)
theorem dropE {As As' : List Addr} {F H F' H' : Hp} {σ : St} {ρ : REnv} (s : Step As F H As' F' H') (h : RepE As' F' σ ρ) (ho : ownLt As.length ρ = true) : RepE As F' σ ρ := by
  obtain ⟨x, e, hx⟩ := s.grow
  subst e
  refine ⟨h.len, fun i r er => ?_⟩
  obtain ⟨v, h1, h2⟩ := h.env i r er
  refine ⟨v, h1, ?_⟩
  cases r with
  | d x => exact h2
  | exc D => exact h2
  | own j =>
    obtain ⟨a, ha, rfl⟩ := h2
    have := ownLt_get ho i j er
    exact ⟨a, by rw [List.getElem?_append_left this] at ha; exact ha, rfl⟩
theorem sd_drop {X : Cx} {E : XK} {ρ ρ1 : REnv} {M M1 : List MO} {sts : List Stmt} (more : List MO) (h : SD X E ρ M sts (.nx ρ1 (M1 ++ more))) (hl : M.length = M1.length) (ho : ownLt M.length ρ1 = true) : SD X E ρ M sts (.nx ρ1 M1) := fun As σ F H hM hE D q =>
  h As σ F H hM hE D fun As' σ' F' H' s m e => by
    obtain ⟨s2, m2⟩ := dropM s m (by rw [hM.len, hl])
    exact q As σ' F' H' s2 m2 (dropE s e (by rw [hM.len]; exact ho))
theorem s1_drop {X : Cx} {E : XK} {ρ ρ1 : REnv} {M M1 : List MO} {st : Stmt} (more : List MO) (h : S1 X E ρ M st (.nx ρ1 (M1 ++ more))) (hl : M.length = M1.length) (ho : ownLt M.length ρ1 = true) : S1 X E ρ M st (.nx ρ1 M1) := fun As σ F H hM hE D q =>
  h As σ F H hM hE D fun As' σ' F' H' s m e => by
    obtain ⟨s2, m2⟩ := dropM s m (by rw [hM.len, hl])
    exact q As σ' F' H' s2 m2 (dropE s e (by rw [hM.len]; exact ho))
theorem s1_fg {X : Cx} {E : XK} {ρ ρ1 ρ2 : REnv} {M M1 : List MO} {st : Stmt} (h : S1 X E ρ M st (.nx ρ1 M1)) (s : Sub ρ2 ρ1) : S1 X E ρ M st (.nx ρ2 M1) := fun As σ F H hM hE D q =>
  h As σ F H hM hE D fun As' σ' F' H' s1 m e => q As' σ' F' H' s1 m (e.sub s)
/-! ### sums over kinds -/
theorem sum_indic {g : Int → Int} {a : Int} : ∀ {S : List Int}, S.Nodup → (S.map fun x => (if a = x then 1 else 0) * g x).sum = if a ∈ S then g a else 0
  | [], _ => rfl
  | x :: S, h => by
    obtain ⟨h1, h2⟩ := List.nodup_cons.mp h
    rw [List.map_cons, List.sum_cons, sum_indic h2]
    by_cases e : a = x
    · subst e; simp [h1]
    · simp [e]
theorem sum_zeros {g : Int → Int} : ∀ S : List Int, (S.map fun x => ((0 : Nat) : Int) * g x).sum = 0
  | [] => rfl
  | x :: S => by rw [List.map_cons, List.sum_cons, sum_zeros S]; simp
theorem sum_addI {f g : Int → Int} : ∀ S : List Int, (S.map fun x => f x + g x).sum = (S.map f).sum + (S.map g).sum
  | [] => rfl
  | x :: S => by rw [List.map_cons, List.sum_cons, sum_addI S, List.map_cons, List.sum_cons, List.map_cons, List.sum_cons]; omega
theorem sum_counts {g : Int → Int} {S : List Int} (hS : S.Nodup) : ∀ {l : List Int}, (∀ x ∈ l, x ∈ S) → (S.map fun x => ((l.count x : Nat) : Int) * g x).sum = (l.map g).sum
  | [], _ => by simpa using sum_zeros (g := g) S
  | a :: l, h => by
    have ih := sum_counts (g := g) hS (l := l) fun x hx => h x (List.mem_cons_of_mem _ hx)
    have e : (S.map fun x => (((a :: l).count x : Nat) : Int) * g x) = S.map fun x => ((l.count x : Nat) : Int) * g x + (if a = x then 1 else 0) * g x := List.map_congr_left fun x _ => by
      rw [List.count_cons, ← Int.add_mul]
      by_cases e : a = x <;> simp [e]
    rw [e, sum_addI, ih, sum_indic hS, if_pos (h a (by simp)), List.map_cons, List.sum_cons]
    omega
theorem range_getD {S : List Int} {β : Type} (h : Int → β) : (List.range S.length).map (fun i => h (S.getD i 0)) = S.map h := by
  refine List.ext_getElem (by simp) fun i h1 h2 => ?_
  simp at h1
  simp [h1]
theorem kinds_sum (l : List Int) : (gathI (kindsD l).length (fun _ => true) (fun i => (ssort l).getD i 0 * ((l.count ((ssort l).getD i 0) : Nat) : Int))).sum = l.sum := by
  rw [gathI_true, kinds_len, range_getD (fun x => x * ((l.count x : Nat) : Int))]
  have := sum_counts (g := fun x => x) (S := ssort l) (nodup_asc (asc_ssort l)) (l := l) fun x hx => (mem_ssort x l).mpr hx
  rw [List.map_id'] at this
  rw [← this]
  exact congrArg List.sum (List.map_congr_left fun x _ => Int.mul_comm _ _)
theorem kinds_many (l : List Int) : (gathI (kindsD l).length (fun _ => true) (fun i => ((l.count ((ssort l).getD i 0) : Nat) : Int))).sum = (l.length : Int) := by
  rw [gathI_true, kinds_len, range_getD (fun x => ((l.count x : Nat) : Int))]
  have := sum_counts (g := fun _ => 1) (S := ssort l) (nodup_asc (asc_ssort l)) (l := l) fun x hx => (mem_ssort x l).mpr hx
  simp only [Int.mul_one] at this
  rw [this]
  clear this
  induction l with
  | nil => rfl
  | cons a l ih => rw [List.map_cons, List.sum_cons, ih, List.length_cons]; omega
theorem kinds_item {l : List Int} {i : Nat} {d : PyData} (h : (kindsD l)[i]? = some d) : PyData.tuple [.int ((ssort l).getD i 0), .int ((l.count ((ssort l).getD i 0) : Nat) : Int)] = d := by
  have hi := (List.getElem?_eq_some_iff.mp h).1
  rw [kinds_len] at hi
  unfold kindsD at h
  rw [List.getElem?_map, List.getElem?_eq_getElem hi] at h
  simp at h
  rw [← h, List.getD_eq_getElem?_getD, List.getElem?_eq_getElem hi]
  rfl
/-! ### even gaps -/
theorem sum_rep (m : Nat) (x : Int) : (List.replicate m x).sum = m * x := by simp
theorem even_rep {N n j : Nat} (hN : 0 < N) (h : j ∈ evenL N n) : gapK N n j = List.replicate (j + 1) ((N : Int) / ((j : Int) + 1)) ∧ j < petN N n := by
  obtain ⟨h1, h2⟩ := mem_even.mp h
  refine ⟨?_, h1⟩
  obtain ⟨x, hx⟩ := List.length_eq_one_iff.mp h2
  have all : ∀ y ∈ gapK N n j, y = x := fun y hy => by
    have := (mem_ssort y _).mpr hy
    rw [hx] at this
    simpa using this
  have len : (gapK N n j).length = j + 1 := by rw [gapK_len hN]; omega
  have e := List.eq_replicate_of_mem all
  rw [len] at e
  have s : (gapK N n j).sum = (N : Int) := gaps_sum _
  rw [e, sum_rep] at s
  rw [e, ← s]
  have : ((j + 1 : Nat) : Int) * x / ((j : Int) + 1) = x := by
    rw [show ((j + 1 : Nat) : Int) = (j : Int) + 1 from rfl]
    exact Int.mul_ediv_cancel_left _ (by omega)
  rw [this]
/-! ### the widest gap falls -/
theorem mx_fall {N n k : Nat} (hN : 0 < N) : mxI (gapK N n (k + 1)) ≤ mxI (gapK N n k) := by
  by_cases hk : k + 1 < petN N n
  · obtain ⟨y, z, U, V, hy, hz, e1, e2⟩ := cut_gap hN hk
    have hm := mx_mem (gapK_ne (n := n) hN (k + 1))
    rw [e2] at hm
    simp only [List.mem_append, List.mem_cons] at hm
    have h1 : ∀ x ∈ gapK N n k, x ≤ mxI (gapK N n k) := fun x => mx_le
    rw [← e2] at hm
    have h2 : ∀ x ∈ U, x ≤ mxI (gapK N n k) := fun x hx => h1 x (by rw [e1]; simp [hx])
    have h3 : ∀ x ∈ V, x ≤ mxI (gapK N n k) := fun x hx => h1 x (by rw [e1]; simp [hx])
    have h4 : y + z ≤ mxI (gapK N n k) := h1 _ (by rw [e1]; simp)
    rcases hm with hm | hm | hm | hm
    · exact h2 _ hm
    · omega
    · omega
    · exact h3 _ hm
  · rw [gapK_more hN (k := k + 1) (by omega), gapK_more hN (k := k) (by omega)]
    exact Int.le_refl _
theorem mx_falls {N n : Nat} (hN : 0 < N) {j k : Nat} (h : j ≤ k) : mxI (gapK N n k) ≤ mxI (gapK N n j) := by
  obtain ⟨d, rfl⟩ := Nat.exists_eq_add_of_le h
  induction d with
  | zero => exact Int.le_refl _
  | succ d ih => exact Int.le_trans (mx_fall hN) (ih (by omega))
theorem first_fall {N n b b' k k' : Nat} (hb : b ≤ b') (h : FirstK N n b k) (h' : FirstK N n b' k') : k' ≤ k := by
  apply Classical.byContradiction
  intro z
  have := h'.2 k (by omega)
  have := h.1
  omega
def Sig_law_even : List PyData → Res → Prop := fun ds r => ∃ N n s k, GOk N n s ∧ k ≤ 150 ∧ ds = [gD N n s, .int (k : Nat), .list ((isort (gapK N n k)).map .int)] ∧ r = vB true
end WC

/-! defs that are handed owned things; objects -/
namespace WC
open PySem L2
open Evl (Ex)

/-! ### a part of what is owned -/
theorem splitM {As : List Addr} {F H : Hp} {Pre M Post : List MO} (m : RepM As F H (Pre ++ M ++ Post)) : ∃ A1 A2 A3, As = A1 ++ A2 ++ A3 ∧ A1.length = Pre.length ∧ A2.length = M.length ∧ RepM A2 F H M := by
  have hl := m.len
  simp only [List.length_append] at hl
  refine ⟨As.take Pre.length, (As.drop Pre.length).take M.length, (As.drop Pre.length).drop M.length, by rw [List.append_assoc, List.take_append_drop, List.take_append_drop], by simp; omega, by simp; omega, m.ex, ?_, by simp; omega, fun a ha => ?_, fun j a o h1 h2 h3 => ?_, fun j a o h1 h2 => ?_⟩
  · exact (List.take_sublist _ _).nodup ((List.drop_sublist _ _).nodup m.nd)
  · exact m.ne a (List.mem_of_mem_drop (List.mem_of_mem_take ha))
  · have hj : j < M.length := by
      have := (List.getElem?_eq_some_iff.mp h2).1
      exact this
    rw [List.getElem?_take_of_lt hj, List.getElem?_drop] at h1
    refine m.fr (Pre.length + j) a o h1 ?_ h3
    rw [List.append_assoc, List.getElem?_append_right (by omega), List.getElem?_append_left (by omega)]
    rw [show Pre.length + j - Pre.length = j by omega]; exact h2
  · have hj : j < M.length := (List.getElem?_eq_some_iff.mp h2).1
    rw [List.getElem?_take_of_lt hj, List.getElem?_drop] at h1
    refine m.mem (Pre.length + j) a o h1 ?_
    rw [List.append_assoc, List.getElem?_append_right (by omega), List.getElem?_append_left (by omega)]
    rw [show Pre.length + j - Pre.length = j by omega]; exact h2
theorem MOk.keep {F H F' H' : Hp} {a : Addr} {o : MO} (q : MOk F H a o) (k : ∀ u, H a = some u → H' a = some u) (fe : Ex F F') : MOk F' H' a o := by
  cases o with
  | lst ds => obtain ⟨xs, k1, k2⟩ := q; exact ⟨xs, k _ k1, k2.mono fe⟩
  | dra b c => exact k _ q
  | drb b ns => exact ⟨q.1, k _ q.2⟩
  | gone => trivial
  | pin b f ds => obtain ⟨e0, ys, k1, k2⟩ := q; exact ⟨e0, ys, k _ k1, k2.mono fe⟩
theorem backM {A1 A2 A3 : List Addr} {F H F' H' : Hp} {Pre M M' Post : List MO} (m : RepM (A1 ++ A2 ++ A3) F H (Pre ++ M ++ Post)) (l1 : A1.length = Pre.length) (l2 : A2.length = M.length) (st : Step A2 F H A2 F' H') (m' : RepM A2 F' H' M') :
    Step (A1 ++ A2 ++ A3) F H (A1 ++ A2 ++ A3) F' H' ∧ RepM (A1 ++ A2 ++ A3) F' H' (Pre ++ M' ++ Post) := by
  have nd := m.nd
  have l2' := m'.len
  have out : ∀ j a, (A1 ++ A2 ++ A3)[j]? = some a → (j < A1.length ∨ A1.length + A2.length ≤ j) → a ∉ A2 := fun j a h1 hj z => by
    obtain ⟨i, hi, e⟩ := List.mem_iff_getElem.mp z
    have h2 : (A1 ++ A2 ++ A3)[A1.length + i]? = some a := by
      rw [List.append_assoc, List.getElem?_append_right (by omega), List.getElem?_append_left (by omega), show A1.length + i - A1.length = i by omega, List.getElem?_eq_getElem hi, e]
    have := nd_ix nd h1 h2
    omega
  have mid : ∀ (j : Nat) (a : Addr), A1.length ≤ j → j < A1.length + A2.length → (A1 ++ A2 ++ A3)[j]? = some a → A2[j - A1.length]? = some a := fun j a h1 h2 h => by
    rw [List.append_assoc, List.getElem?_append_right h1, List.getElem?_append_left (by omega)] at h
    exact h
  have mido : ∀ (j : Nat) (o : MO), A1.length ≤ j → j < A1.length + A2.length → (Pre ++ M' ++ Post)[j]? = some o → M'[j - A1.length]? = some o := fun j o h1 h2 h => by
    rw [List.append_assoc, List.getElem?_append_right (by omega), List.getElem?_append_left (by omega)] at h
    rw [l1]; exact h
  have outo : ∀ (j : Nat) (o : MO), (j < A1.length ∨ A1.length + A2.length ≤ j) → (Pre ++ M' ++ Post)[j]? = some o → (Pre ++ M ++ Post)[j]? = some o := fun j o hj h => by
    rcases hj with hj | hj
    · rw [List.append_assoc, List.getElem?_append_left (by omega)] at h ⊢
      exact h
    · rw [List.getElem?_append_right (by simp; omega)] at h ⊢
      simp only [List.length_append] at h ⊢
      rw [← l2, l2']; exact h
  refine ⟨⟨st.fe, fun x o hx h => st.keep x o (fun z => hx (by simp [z])) h, st.ne, fun x hx => st.cap x (fun z => hx (by simp [z])), [], by simp, by simp⟩, ⟨m'.ex, nd, ?_, fun x hx => st.ne x (m.ne x hx), fun j x o h1 h2 h3 => ?_, fun j x o h1 h2 => ?_⟩⟩
  · have := m.len
    simp only [List.length_append] at this ⊢
    omega
  · by_cases hj : A1.length ≤ j ∧ j < A1.length + A2.length
    · exact m'.fr _ x o (mid j x hj.1 hj.2 h1) (mido j o hj.1 hj.2 h2) h3
    · exact st.cap x (out j x h1 (by omega)) (m.fr j x o h1 (outo j o (by omega) h2) h3) (m.ne x (List.mem_of_getElem? h1))
  · by_cases hj : A1.length ≤ j ∧ j < A1.length + A2.length
    · exact m'.mem _ x o (mid j x hj.1 hj.2 h1) (mido j o hj.1 hj.2 h2)
    · exact (m.mem j x o h1 (outo j o (by omega) h2)).keep (fun u hu => st.keep x u (out j x h1 (by omega)) hu) st.fe

/-! ### promises of defs that are handed owned things -/
def GivesG (As : List Addr) (F H : Hp) (Q : VK) (E : XK) (M' : List MO) : Res → Prop
  | .val d => ∀ v F' H', Step As F H As F' H' → RepM As F' H' M' → Dv F' v d → Q v H'
  | .new ds => ∀ p xs F' H', Step As F H As F' H' → RepM As F' H' M' → H p = none → F' p = none → H' p = some (.lst xs) → DvAll F' xs ds → Q (.ref p) H'
  | .err c => ∀ F' H', Step As F H As F' H' → RepM As F' H' M' → E c none H'
abbrev SigO := List Slot → List MO → Res → List MO → Prop
def PrG (Sig : SigO) : Sp := fun vs H Q E => ∃ (F : Hp) (As : List Addr) (M M' : List MO) (rs : List Slot) (r : Res), RepM As F H M ∧ SlotsOk As F vs rs ∧ Sig rs M r M' ∧ GivesG As F H Q E M' r
def startG (N : List Str) (rs : List Slot) : REnv := rs.map some ++ List.replicate (N.length - rs.length) none
theorem SlotsOk.length {As : List Addr} {F : Hp} : ∀ {vs : List V} {rs : List Slot}, SlotsOk As F vs rs → vs.length = rs.length
  | _, _, .nil => rfl
  | _, _, .cons _ t => by rw [List.length_cons, List.length_cons, SlotsOk.length t]
theorem SlotsOk.get {As : List Addr} {F : Hp} : ∀ {vs : List V} {rs : List Slot} {i : Nat} {r : Slot}, SlotsOk As F vs rs → rs[i]? = some r → ∃ v, vs[i]? = some v ∧ SlotOk As F v r
  | _, _, _, _, .nil, e => by simp at e
  | _, _, 0, _, .cons h _, e => by simp at e; subst e; exact ⟨_, rfl, h⟩
  | _, _, i + 1, r, .cons _ hs, e => by
    obtain ⟨v, h1, h2⟩ := SlotsOk.get (i := i) (r := r) hs (by simpa using e)
    exact ⟨v, by simpa using h1, h2⟩
theorem startG_rep {As : List Addr} {F : Hp} {N : List Str} {vs : List V} {rs : List Slot} (h : SlotsOk As F vs rs) : RepE As F (L2.start N vs) (startG N rs) := by
  have hl := h.length
  refine ⟨by simp [L2.start, startG, hl], fun i r e => ?_⟩
  unfold startG at e
  unfold L2.start
  by_cases hi : i < rs.length
  · rw [List.getElem?_append_left (by simpa using hi), List.getElem?_map] at e
    cases q : rs[i]? with
    | none => rw [q] at e; cases e
    | some r' =>
      rw [q] at e; cases e
      obtain ⟨v, h1, h2⟩ := h.get q
      exact ⟨v, by rw [List.getElem?_append_left (by simp; omega), List.getElem?_map, h1]; rfl, h2⟩
  · rw [List.getElem?_append_right (by simp; omega)] at e
    obtain ⟨hlt, he⟩ := List.getElem?_eq_some_iff.mp e
    simp at he
def BodyG (X : Cx) (E : XK) (N : List Str) (rs : List Slot) (M : List MO) (body : List Stmt) (M' : List MO) : Res → Prop
  | .val d => (∃ Mr, SD X E (startG N rs) M body (.rt (.d d) (M' ++ Mr))) ∨ (d = .none ∧ ∃ ρ' Mr, SD X E (startG N rs) M body (.nx ρ' (M' ++ Mr)))
  | .new es => ∃ j Mr, SD X E (startG N rs) M body (.rt (.own j) (M' ++ Mr)) ∧ (M' ++ Mr)[j]? = some (.lst es) ∧ M.length ≤ j
  | .err c => ∃ Mr, SD X E (startG N rs) M body (.er c (M' ++ Mr))
section
variable {P : Program} {w : World} {K : PySem.W.Frag} {mg : Str → Option Value} {base : Heap}
theorem fn_okG {x qual : Str} {st : Stmt} {f : Addr} {fd : FuncData} {N ps : List Str} {k : Nat} {Sig : SigO} (Fn : Fun K x qual st f fd) (S : FnScope N ps (defScope st)) (hl : ∀ rs M r M', Sig rs M r M' → rs.length = ps.length ∧ M.length = M'.length)
    (body : ∀ (cdv : Value) (A : Around) (outer : List Env) (s : Shared) (H : Hp) (E : XK), Room k (A.deeper (PyProof.Rows.envOfC qual (defScope st) s.heap.objs.size f cdv)) → ∀ rs M r M', Sig rs M r M' →
      BodyG (cxOf (L2.CX P w) P w K mg base N qual (defScope st) f cdv A outer s H E) E N rs M (defBody st) M' r) : FnOk P w K mg base (L2.CX P w) (k + 1) f fd ps (PrG Sig) := by
  refine Fn.okX S (fun vs H Q E h => ?_) (fun cdv A outer s H vs Q E hr h => ?_)
  · obtain ⟨F, As, M, M', rs, r, _, h1, h2, _⟩ := h
    rw [h1.length]; exact (hl rs M r M' h2).1
  · obtain ⟨F, As, M, M', rs, r, hM, h1, h2, h3⟩ := h
    have b := body cdv A outer s H E hr rs M r M' h2
    have e0 := startG_rep (N := N) h1
    have hlM := (hl rs M r M' h2).2
    have hAM : As.length = M'.length := by rw [hM.len, hlM]
    cases r with
    | val d =>
      rcases b with ⟨Mr, b⟩ | ⟨rfl, ρ', Mr, b⟩
      · refine b As _ F H hM e0 _ fun v As' F' H' s1 m1 o1 => ?_
        obtain ⟨s2, m2⟩ := dropM s1 m1 hAM
        exact h3 v F' H' s2 m2 o1
      · refine b As _ F H hM e0 _ fun As' σ' F' H' s1 m1 o1 => ?_
        obtain ⟨s2, m2⟩ := dropM s1 m1 hAM
        exact h3 .non F' H' s2 m2 .non
    | new es =>
      obtain ⟨j, Mr, b, hj, hge⟩ := b
      refine b As _ F H hM e0 _ fun v As' F' H' s1 m1 o1 => ?_
      obtain ⟨a, ha, rfl⟩ := o1
      obtain ⟨xs, k1, k2⟩ := m1.mem j a _ ha hj
      obtain ⟨more, e1, n1⟩ := s1.grow
      have ma : a ∈ more := by
        rw [e1, List.getElem?_append_right (by rw [hM.len]; exact hge)] at ha
        exact List.mem_of_getElem? ha
      have fr := m1.fr j a _ ha hj (by simp)
      obtain ⟨s2, m2⟩ := dropM s1 m1 hAM
      exact h3 a xs F' H' s2 m2 (n1 a ma) fr k1 k2
    | err c =>
      obtain ⟨Mr, b⟩ := b
      refine b As _ F H hM e0 _ fun As' F' H' s1 m1 => ?_
      obtain ⟨s2, m2⟩ := dropM s1 m1 hAM
      exact h3 F' H' s2 m2
/-- a def that is called by its name -/
structure FnG (P : Program) (w : World) (K : PySem.W.Frag) (mg : Str → Option Value) (base : Heap) (x : Str) (k : Nat) (ps : List Str) (Sig : SigO) : Prop where
  ex : ∃ f fd, FnOk P w K mg base (L2.CX P w) k f fd ps (PrG Sig) ∧ mg x = some (.ref f) ∧ PySem.W.keepIn K (.ref f) = true ∧ Binds K fd ps []
theorem fn_mkG {x qual : Str} {st : Stmt} {N ps : List Str} {k : Nat} {Sig : SigO} (F : FunAt K mg x qual st) (S : FnScope N ps (defScope st))
    (hb : ∀ (kV doc pm : Value) (an : Option Addr) (cdv ct : Value) (us : List Value), us.length = ps.length → bindArgs (PySem.W.fnOf x qual (defArgs st) (defBody st) (defScope st) .none kV doc pm an cdv ct) ⟨us, []⟩ = pure (ps.zip us))
    (hl : ∀ rs M r M', Sig rs M r M' → rs.length = ps.length ∧ M.length = M'.length)
    (body : ∀ (f : Addr) (cdv : Value) (A : Around) (outer : List Env) (s : Shared) (H : Hp) (E : XK), Room k (A.deeper (PyProof.Rows.envOfC qual (defScope st) s.heap.objs.size f cdv)) → ∀ rs M r M', Sig rs M r M' →
      BodyG (cxOf (L2.CX P w) P w K mg base N qual (defScope st) f cdv A outer s H E) E N rs M (defBody st) M' r) : FnG P w K mg base x (k + 1) ps Sig := by
  obtain ⟨f, fd, h1, h2⟩ := F.ex
  exact ⟨f, fd, fn_okG h1 S hl (body f), h2, h1.kp, h1.binds hb⟩
/-- a method of the class C -/
structure FnM (P : Program) (w : World) (K : PySem.W.Frag) (mg : Str → Option Value) (base : Heap) (C : Addr) (x : Str) (k : Nat) (ps : List Str) (Sig : SigO) : Prop where
  ex : ∃ f fd, FnOk P w K mg base (L2.CX P w) k f fd ps (PrG Sig) ∧ Meth K C x f ∧ Binds K fd ps []
/-- a method of the class C as the head gives it -/
structure MethAt (K : PySem.W.Frag) (C : Addr) (x qual : Str) (st : Stmt) : Prop where
  ex : ∃ f fd, Fun K x qual st f fd ∧ Meth K C x f
theorem methAt_mk {K : PySem.W.Frag} {C : Addr} {x qual : Str} {st : Stmt} {f : Addr} {oc : Value} {od an : Option Addr} {osl : Array (Option Value)} {kV doc pm cdv ct : Value}
    (a : PySem.W.findIn K (.ref C) x = some (some (.ref f))) (l : K.lookup f = some ⟨oc, od, .func (PySem.W.fnOf x qual (defArgs st) (defBody st) (defScope st) .none kV doc pm an cdv ct), osl⟩)
    (c : PySem.W.codeIn K cdv qual = true) (k : PySem.W.keepIn K (.ref f) = true) (fn : PySem.W.isFn K (.ref f) = true) : MethAt K C x qual st := ⟨f, _, fun_mk l c k, ⟨a, fn, k⟩⟩
theorem fn_mkM {C : Addr} {x qual : Str} {st : Stmt} {N ps : List Str} {k : Nat} {Sig : SigO} (F : MethAt K C x qual st) (S : FnScope N ps (defScope st))
    (hb : ∀ (kV doc pm : Value) (an : Option Addr) (cdv ct : Value) (us : List Value), us.length = ps.length → bindArgs (PySem.W.fnOf x qual (defArgs st) (defBody st) (defScope st) .none kV doc pm an cdv ct) ⟨us, []⟩ = pure (ps.zip us))
    (hl : ∀ rs M r M', Sig rs M r M' → rs.length = ps.length ∧ M.length = M'.length)
    (body : ∀ (f : Addr) (cdv : Value) (A : Around) (outer : List Env) (s : Shared) (H : Hp) (E : XK), Room k (A.deeper (PyProof.Rows.envOfC qual (defScope st) s.heap.objs.size f cdv)) → ∀ rs M r M', Sig rs M r M' →
      BodyG (cxOf (L2.CX P w) P w K mg base N qual (defScope st) f cdv A outer s H E) E N rs M (defBody st) M' r) : FnM P w K mg base C x (k + 1) ps Sig := by
  obtain ⟨f, fd, h1, h2⟩ := F.ex
  exact ⟨f, fd, fn_okG h1 S hl (body f), h2, h1.binds hb⟩
end
/-! ### calls -/
def shS (k : Nat) : Slot → Slot
  | .own j => .own (k + j)
  | r => r
theorem slots_mid {A1 A2 A3 : List Addr} {F : Hp} : ∀ {vs : List V} {rs : List Slot}, (∀ j, Slot.own j ∈ rs → j < A2.length) → SlotsOk (A1 ++ A2 ++ A3) F vs (rs.map (shS A1.length)) → SlotsOk A2 F vs rs
  | _, [], _, h => by cases h; exact .nil
  | _, r :: rs, hr, h => by
    cases h with
    | cons a b =>
      refine .cons ?_ (slots_mid (fun j hj => hr j (List.mem_cons_of_mem _ hj)) b)
      cases r with
      | d x => exact a
      | exc D => exact a
      | own j =>
        obtain ⟨p, hp, e⟩ := a
        have hj := hr j (by simp)
        rw [List.append_assoc, List.getElem?_append_right (by omega), List.getElem?_append_left (by omega), show A1.length + j - A1.length = j by omega] at hp
        exact ⟨p, hp, e⟩
section
variable {X : Cx} {E : XK} {ρ : REnv} {M M1 Mc Mc' Pre Post M' : List MO} {e o : Expr} {es : List Expr} {pos p apos : Pos} {r : Slot} {x : Str} {k : Nat} {ps : List Str} {Sig : SigO} {rs : List Slot} {d : PyData} {C : Addr} {c : Value}
/-- the caller's side of a promise -/
theorem callG {As : List Addr} {F H : Hp} {vs : List V} {R : Res} {Q : VK} {E' : XK} (m : RepM As F H (Pre ++ M ++ Post)) (ok : SlotsOk As F vs (rs.map (shS Pre.length))) (hj : ∀ j, Slot.own j ∈ rs → j < M.length) (hs : Sig rs M R M')
    (g : match R with
      | .val d => ∀ v F' H', Step As F H As F' H' → RepM As F' H' (Pre ++ M' ++ Post) → Dv F' v d → Q v H'
      | .new ds => ∀ p xs F' H', Step As F H As F' H' → RepM As F' H' (Pre ++ M' ++ Post) → H p = none → F' p = none → H' p = some (.lst xs) → DvAll F' xs ds → Q (.ref p) H'
      | .err c => ∀ F' H', Step As F H As F' H' → RepM As F' H' (Pre ++ M' ++ Post) → E' c none H') : PrG Sig vs H Q E' := by
  obtain ⟨A1, A2, A3, rfl, l1, l2, m2⟩ := splitM m
  rw [← l1] at ok
  refine ⟨F, A2, M, M', rs, R, m2, slots_mid (by rw [l2]; exact hj) ok, hs, ?_⟩
  cases R with
  | val d => exact fun v F' H' st m' dv => by obtain ⟨s3, m3⟩ := backM m l1 l2 st m'; exact g v F' H' s3 m3 dv
  | new ds => exact fun p xs F' H' st m' h1 h2 h3 h4 => by obtain ⟨s3, m3⟩ := backM m l1 l2 st m'; exact g p xs F' H' s3 m3 h1 h2 h3 h4
  | err c => exact fun F' H' st m' => by obtain ⟨s3, m3⟩ := backM m l1 l2 st m'; exact g F' H' s3 m3
def ownsLt (n : Nat) (rs : List Slot) : Bool := rs.all fun | .own j => decide (j < n) | _ => true
theorem ownsLt_of {n : Nat} {rs : List Slot} (h : ownsLt n rs = true) : ∀ j, Slot.own j ∈ rs → j < n := fun j hj => by
  have := List.all_eq_true.mp h _ hj
  simpa using this
/-- f(..), with owned things -/
theorem ed_callG (G : FnG X.prog X.w X.K X.mg X.base x k ps Sig) (hr : Room k X.A) (Pre Mi Post : List MO) (rs : List Slot) (M' : List MO) (ha : AD X ρ M (e :: es) (rs.map (shS Pre.length)) (Pre ++ Mi ++ Post)) (hs : Sig rs Mi (.val d) M') (hj : ownsLt Mi.length rs = true := by rfl) (hg : Gl X x := by rfl)
    (hdb : (x == ("__debug__" : Str)) = false := by decide) (he : starEach (e :: es) X.env = (false, eval e X.env) :: starEach es X.env := by rfl) (hpl : (backTo pos (starEach es X.env)).any (·.1) = false := by rfl) :
    ED X ρ M (.Call (.Name x p) (e :: es) [] pos) (.d d) (Pre ++ M' ++ Post) := fun As σ F H hM hE Q q => by
  obtain ⟨f, fd, F1, hm, hk, hb⟩ := G.ex
  refine ⟨_, pe_call F1 hr hg hm hk hb .nil passL (pa_w X _) hdb he hpl, ha As σ F H hM hE _ fun vs As1 F1 H1 s1 m1 o1 => ?_⟩
  rw [List.append_nil]
  exact callG m1 o1 (ownsLt_of hj) hs fun v F' H' st m' dv => q v As1 F' H' (s1.trans st) m' dv
end
/-! ### methods whose exceptions see the names -/
def tMethX (C : Addr) (m : Str) (sp : Sp) (E : St → XK) (ta : TE) (t : TA) : TE := fun σ H Q => ta σ H fun x H1 => ∃ a dx fs, x = .ref a ∧ H1 a = some (.ins C dx fs) ∧ fs.lookup m = none ∧ t σ H1 fun vs H2 => sp (x :: vs) H2 Q (E σ)
section
variable {X : Cx} {CX : CXT} {k : Nat} {C f : Addr} {fd : FuncData} {ps : List Str} {sp : Sp} {E : St → XK} {o e : Expr} {es : List Expr} {x : Str} {ta : TE} {t : TA} {p apos pos : Pos}
theorem pe_methX {pl : Sem Bool} (he : PE X o ta) (c : Cls X.K C) (hm : Meth X.K C x f) (F : FnOk X.prog X.w X.K X.mg X.base CX k f fd ps sp) (hr : Room k X.A) (hb : Binds X.K fd ps []) (hx : ∀ σ, PassesAt CX X σ (E σ)) (ha : PA X (e :: es) t)
    (hst : starEach (e :: es) X.env = (false, eval e X.env) :: starEach es X.env := by rfl) (hpl : (backTo pos (starEach es X.env)).any (·.1) = false := by rfl)
    (ht : eval (.Call (.Attribute o x apos) (e :: es) [] pos) X.env = (do
      let ov ← eval o X.env
      standAt apos.atName
      let (f, first) ← holding [ov] (getMethod ov x pl)
      callWith pos f first (backTo pos (starEach (e :: es) X.env)) (backToKw pos (keywordEach [] X.env))) := by rfl) :
    PE X (.Call (.Attribute o x apos) (e :: es) [] pos) (tMethX C x sp E ta t) := by
  refine ⟨fun pins s σ H Q I h => ?_⟩
  refine PySem.W.methodCall_KW (pl := pl) (thn (he.run pins s σ H _ I h) fun u s1 ⟨x, H1, I1, rx, a, dx, fs, ex, ea, l, q⟩ => ?_) ht
  subst ex
  obtain rfl : u = Value.ref a := rx
  refine getmeth_ok I1 ea c hm l ?_
  refine PySem.W.callWith_K (first := [.ref a]) (h₀ := X.base) I.ok.mod.kin hm.kp (thn (ha.run pos pins s1 σ H1 _ I1 q) fun us s2 ⟨vs, H2, I2, r, q2⟩ => ⟨I2.kIn, ?_⟩) hst hpl
  exact run_fnS (us := .ref a :: us) (vs := .ref a :: vs) F hr hb (hx σ) I2 (.cons rfl r) q2
theorem pe_methX0 {pl : Sem Bool} (he : PE X o ta) (c : Cls X.K C) (hm : Meth X.K C x f) (F : FnOk X.prog X.w X.K X.mg X.base CX k f fd ps sp) (hr : Room k X.A) (hb : Binds X.K fd ps []) (hx : ∀ σ, PassesAt CX X σ (E σ))
    (ht : eval (.Call (.Attribute o x apos) [] [] pos) X.env = (do
      let ov ← eval o X.env
      standAt apos.atName
      let (f, first) ← holding [ov] (getMethod ov x pl)
      callWith pos f first (backTo pos (starEach [] X.env)) (backToKw pos (keywordEach [] X.env))) := by rfl) :
    PE X (.Call (.Attribute o x apos) [] [] pos) (tMethX C x sp E ta tNil) := by
  refine ⟨fun pins s σ H Q I h => ?_⟩
  refine PySem.W.methodCall_KW (pl := pl) (thn (he.run pins s σ H _ I h) fun u s1 ⟨x, H1, I1, rx, a, dx, fs, ex, ea, l, q⟩ => ?_) ht
  subst ex
  obtain rfl : u = Value.ref a := rx
  refine getmeth_ok I1 ea c hm l ?_
  exact PySem.W.callWith_K0 (first := [.ref a]) I1.kIn hm.kp (run_fnS (us := [.ref a]) (vs := [.ref a]) F hr hb (hx σ) I1 (.cons rfl .nil) q)
end
/-- o stands for the object at j0 of Mi -/
structure ObjAt (X : Cx) (ρ : REnv) (M : List MO) (o : Expr) (C : Addr) (x : Str) (j : Nat) : Prop where
  ho : ED X ρ M o (.own j) M
  ex : ∃ (a dx : Addr) (fl : List V → List (Str × V)) (ds0 : List PyData), M[j]? = some (.pin a (fun xs => .ins C dx (fl xs)) ds0) ∧ ∀ xs, (fl xs).lookup x = none
section
variable {X : Cx} {E : XK} {ρ : REnv} {M M1 Mc Mc' M' : List MO} {e o : Expr} {es : List Expr} {pos p apos : Pos} {r : Slot} {x : Str} {k : Nat} {ps : List Str} {Sig : SigO} {rs : List Slot} {d : PyData} {ds : List PyData} {C : Addr} {c : Addr}
/-- o.m(..) -/
theorem ed_meth {pl : Sem Bool} (cl : Cls X.K C) (G : FnM X.prog X.w X.K X.mg X.base C x k ps Sig) (hr : Room k X.A) (Pre Mi Post : List MO) (j0 : Nat) (rs : List Slot) (M' : List MO) (ob : ObjAt X ρ M o C x (Pre.length + j0)) (ha : AD X ρ M (e :: es) (rs.map (shS Pre.length)) (Pre ++ Mi ++ Post)) (hs : Sig (.own j0 :: rs) Mi (.val d) M') (hj : ownsLt Mi.length (.own j0 :: rs) = true := by rfl)
    (hst : starEach (e :: es) X.env = (false, eval e X.env) :: starEach es X.env := by rfl) (hpl : (backTo pos (starEach es X.env)).any (·.1) = false := by rfl)
    (ht : eval (.Call (.Attribute o x apos) (e :: es) [] pos) X.env = (do
      let ov ← eval o X.env
      standAt apos.atName
      let (f, first) ← holding [ov] (getMethod ov x pl)
      callWith pos f first (backTo pos (starEach (e :: es) X.env)) (backToKw pos (keywordEach [] X.env))) := by rfl) :
    ED X ρ M (.Call (.Attribute o x apos) (e :: es) [] pos) (.d d) (Pre ++ M' ++ Post) := fun As σ F H hM hE Q q => by
  obtain ⟨f, fd, F1, hm, hb⟩ := G.ex
  obtain ⟨ho, a, dx, fl, ds0, hi, hf⟩ := ob
  refine ⟨_, pe_meth (pl := pl) (pe_w X o) cl hm F1 hr hb .nil passL (pa_w X _) hst hpl ht, ho As σ F H hM hE _ fun v As1 F1 H1 s1 m1 o1 => ?_⟩
  obtain ⟨a', h1, rfl⟩ := o1
  obtain ⟨rfl, xs, k1, k2⟩ := m1.mem _ a' _ h1 hi
  refine ⟨a', dx, _, rfl, k1, hf xs, ha As1 σ F1 H1 m1 (hE.step s1) _ fun vs As2 F2 H2 s2 m2 o2 => ?_⟩
  rw [List.append_nil]
  exact callG (rs := .own j0 :: rs) m2 (.cons ⟨a', s2.pre h1, rfl⟩ o2) (ownsLt_of hj) hs fun v F' H' st m' dv => q v As2 F' H' ((s1.trans s2).trans st) m' dv
theorem ed_meth0 {pl : Sem Bool} (cl : Cls X.K C) (G : FnM X.prog X.w X.K X.mg X.base C x k ps Sig) (hr : Room k X.A) (Pre Mi Post : List MO) (j0 : Nat) (M' : List MO) (ob : ObjAt X ρ (Pre ++ Mi ++ Post) o C x (Pre.length + j0)) (hs : Sig [.own j0] Mi (.val d) M') (hj : ownsLt Mi.length [.own j0] = true := by rfl)
    (ht : eval (.Call (.Attribute o x apos) [] [] pos) X.env = (do
      let ov ← eval o X.env
      standAt apos.atName
      let (f, first) ← holding [ov] (getMethod ov x pl)
      callWith pos f first (backTo pos (starEach [] X.env)) (backToKw pos (keywordEach [] X.env))) := by rfl) :
    ED X ρ (Pre ++ Mi ++ Post) (.Call (.Attribute o x apos) [] [] pos) (.d d) (Pre ++ M' ++ Post) := fun As σ F H hM hE Q q => by
  obtain ⟨f, fd, F1, hm, hb⟩ := G.ex
  obtain ⟨ho, a, dx, fl, ds0, hi, hf⟩ := ob
  refine ⟨_, pe_meth0 (pl := pl) (pe_w X o) cl hm F1 hr hb .nil passL ht, ho As σ F H hM hE _ fun v As1 F1 H1 s1 m1 o1 => ?_⟩
  obtain ⟨a', h1, rfl⟩ := o1
  obtain ⟨rfl, xs, k1, k2⟩ := m1.mem _ a' _ h1 hi
  refine ⟨a', dx, _, rfl, k1, hf xs, ?_⟩
  exact callG (rs := [.own j0]) m1 (.cons ⟨a', h1, rfl⟩ .nil) (ownsLt_of hj) hs fun v F' H' st m' dv => q v As1 F' H' (s1.trans st) m' dv
/-- o.m() that gives a new list -/
theorem ed_methO0 {pl : Sem Bool} (cl : Cls X.K C) (G : FnM X.prog X.w X.K X.mg X.base C x k ps Sig) (hr : Room k X.A) (Pre Mi Post : List MO) (j0 : Nat) (M' : List MO) (ob : ObjAt X ρ (Pre ++ Mi ++ Post) o C x (Pre.length + j0)) (hs : Sig [.own j0] Mi (.new ds) M') (hj : ownsLt Mi.length [.own j0] = true := by rfl)
    (ht : eval (.Call (.Attribute o x apos) [] [] pos) X.env = (do
      let ov ← eval o X.env
      standAt apos.atName
      let (f, first) ← holding [ov] (getMethod ov x pl)
      callWith pos f first (backTo pos (starEach [] X.env)) (backToKw pos (keywordEach [] X.env))) := by rfl) :
    ED X ρ (Pre ++ Mi ++ Post) (.Call (.Attribute o x apos) [] [] pos) (.own (Pre ++ M' ++ Post).length) (Pre ++ M' ++ Post ++ [.lst ds]) := fun As σ F H hM hE Q q => by
  obtain ⟨f, fd, F1, hm, hb⟩ := G.ex
  obtain ⟨ho, a, dx, fl, ds0, hi, hf⟩ := ob
  refine ⟨_, pe_meth0 (pl := pl) (pe_w X o) cl hm F1 hr hb .nil passL ht, ho As σ F H hM hE _ fun v As1 F1 H1 s1 m1 o1 => ?_⟩
  obtain ⟨a', h1, rfl⟩ := o1
  obtain ⟨rfl, xs, k1, k2⟩ := m1.mem _ a' _ h1 hi
  refine ⟨a', dx, _, rfl, k1, hf xs, ?_⟩
  exact callG (rs := [.own j0]) m1 (.cons ⟨a', h1, rfl⟩ .nil) (ownsLt_of hj) hs fun n zs F' H' st m' hn fn hx dv => by
    have m2 := m'.add (p := n) (fun z => m1.ne n z hn) fn hx dv
    exact q _ (As1 ++ [n]) F' H' (s1.trans ⟨st.fe, st.keep, st.ne, st.cap, [n], rfl, by simpa using hn⟩) m2 ⟨n, by rw [← m'.len]; simp, rfl⟩
/-- o.m(..) that raises, in a try -/
theorem exs_meth {pl : Sem Bool} (cl : Cls X.K C) (G : FnM X.prog X.w X.K X.mg X.base C x k ps Sig) (hr : Room k X.A) (Pre Mi Post : List MO) (j0 : Nat) (rs : List Slot) (M' : List MO) (ob : ObjAt X ρ M o C x (Pre.length + j0)) (ha : AD X ρ M (e :: es) (rs.map (shS Pre.length)) (Pre ++ Mi ++ Post)) (hs : Sig (.own j0 :: rs) Mi (.err (.ref c)) M') (hj : ownsLt Mi.length (.own j0 :: rs) = true := by rfl)
    (hst : starEach (e :: es) X.env = (false, eval e X.env) :: starEach es X.env := by rfl) (hpl : (backTo pos (starEach es X.env)).any (·.1) = false := by rfl)
    (ht : eval (.Call (.Attribute o x apos) (e :: es) [] pos) X.env = (do
      let ov ← eval o X.env
      standAt apos.atName
      let (f, first) ← holding [ov] (getMethod ov x pl)
      callWith pos f first (backTo pos (starEach (e :: es) X.env)) (backToKw pos (keywordEach [] X.env))) := by rfl) :
    EXS X ρ M (.Call (.Attribute o x apos) (e :: es) [] pos) c (Pre ++ M' ++ Post) := fun As σ F H hM hE W Q tk q => by
  obtain ⟨f, fd, F1, hm, hb⟩ := G.ex
  obtain ⟨ho, a, dx, fl, ds0, hi, hf⟩ := ob
  refine ⟨_, pe_methX (pl := pl) (pe_w X o) cl hm F1 hr hb (fun σ => passAt tk σ) (pa_w X _) hst hpl ht, ho As σ F H hM hE _ fun v As1 F1 H1 s1 m1 o1 => ?_⟩
  obtain ⟨a', h1, rfl⟩ := o1
  obtain ⟨rfl, xs, k1, k2⟩ := m1.mem _ a' _ h1 hi
  refine ⟨a', dx, _, rfl, k1, hf xs, ha As1 σ F1 H1 m1 (hE.step s1) _ fun vs As2 F2 H2 s2 m2 o2 => ?_⟩
  exact callG (rs := .own j0 :: rs) m2 (.cons ⟨a', s2.pre h1, rfl⟩ o2) (ownsLt_of hj) hs fun F' H' st m' => q As2 F' H' ((s1.trans s2).trans st) m'
theorem exs_meth0 {pl : Sem Bool} (cl : Cls X.K C) (G : FnM X.prog X.w X.K X.mg X.base C x k ps Sig) (hr : Room k X.A) (Pre Mi Post : List MO) (j0 : Nat) (M' : List MO) (ob : ObjAt X ρ (Pre ++ Mi ++ Post) o C x (Pre.length + j0)) (hs : Sig [.own j0] Mi (.err (.ref c)) M') (hj : ownsLt Mi.length [.own j0] = true := by rfl)
    (ht : eval (.Call (.Attribute o x apos) [] [] pos) X.env = (do
      let ov ← eval o X.env
      standAt apos.atName
      let (f, first) ← holding [ov] (getMethod ov x pl)
      callWith pos f first (backTo pos (starEach [] X.env)) (backToKw pos (keywordEach [] X.env))) := by rfl) :
    EXS X ρ (Pre ++ Mi ++ Post) (.Call (.Attribute o x apos) [] [] pos) c (Pre ++ M' ++ Post) := fun As σ F H hM hE W Q tk q => by
  obtain ⟨f, fd, F1, hm, hb⟩ := G.ex
  obtain ⟨ho, a, dx, fl, ds0, hi, hf⟩ := ob
  refine ⟨_, pe_methX0 (pl := pl) (pe_w X o) cl hm F1 hr hb (fun σ => passAt tk σ) ht, ho As σ F H hM hE _ fun v As1 F1 H1 s1 m1 o1 => ?_⟩
  obtain ⟨a', h1, rfl⟩ := o1
  obtain ⟨rfl, xs, k1, k2⟩ := m1.mem _ a' _ h1 hi
  refine ⟨a', dx, _, rfl, k1, hf xs, ?_⟩
  exact callG (rs := [.own j0]) m1 (.cons ⟨a', h1, rfl⟩ .nil) (ownsLt_of hj) hs fun F' H' st m' => q As1 F' H' (s1.trans st) m'
/-! ### fields -/
variable {f : Str} {a dx b : Addr} {fl : List V → List (Str × V)} {ds0 ds2 : List PyData} {j j2 i : Nat} {g : List V → HO}
theorem ed_fldD (cl : Cls X.K C) (na : NoAttr X.K C f) (ho : ED X ρ M o (.own j) M1) (hi : M1[j]? = some (.pin a (fun xs => .ins C dx (fl xs)) ds0)) (hd : ds0[i]? = some d) (hl : ∀ xs : List V, (fl xs).lookup f = some (xs.getD i .non)) (hb : attributeBase o f X.env (eval o X.env) = eval o X.env := by rfl) :
    ED X ρ M (.Attribute o f pos) (.d d) M1 := fun As σ F H hM hE Q q =>
  ⟨_, pe_fld (pe_w X o) hb, ho As σ F H hM hE _ fun v As1 F1 H1 s1 m1 o1 => by
    obtain ⟨a', h1, rfl⟩ := o1
    obtain ⟨rfl, xs, k1, k2⟩ := m1.mem _ a' _ h1 hi
    obtain ⟨v, hv, dv⟩ := k2.get hd
    refine ⟨a', C, dx, _, v, rfl, k1, cl, na, ?_, q v As1 F1 H1 s1 m1 dv⟩
    rw [hl, List.getD_eq_getElem?_getD, hv]; rfl⟩
theorem ed_fldO (cl : Cls X.K C) (na : NoAttr X.K C f) (ho : ED X ρ M o (.own j) M1) (hi : M1[j]? = some (.pin a (fun xs => .ins C dx (fl xs)) ds0)) (h2 : M1[j2]? = some (.pin b g ds2)) (hl : ∀ xs : List V, (fl xs).lookup f = some (.ref b)) (hb : attributeBase o f X.env (eval o X.env) = eval o X.env := by rfl) :
    ED X ρ M (.Attribute o f pos) (.own j2) M1 := fun As σ F H hM hE Q q =>
  ⟨_, pe_fld (pe_w X o) hb, ho As σ F H hM hE _ fun v As1 F1 H1 s1 m1 o1 => by
    obtain ⟨a', h1, rfl⟩ := o1
    obtain ⟨rfl, xs, k1, k2⟩ := m1.mem _ a' _ h1 hi
    have hj2 : j2 < As1.length := by rw [m1.len]; exact (List.getElem?_eq_some_iff.mp h2).1
    have e2 : As1[j2]? = some As1[j2] := List.getElem?_eq_getElem hj2
    obtain ⟨eb, _⟩ := m1.mem _ _ _ e2 h2
    rw [eb] at e2
    exact ⟨a', C, dx, _, .ref b, rfl, k1, cl, na, hl xs, q _ As1 F1 H1 s1 m1 ⟨b, e2, rfl⟩⟩⟩
/-! ### pinned lists -/
theorem upG {As : List Addr} {F H : Hp} (hM : RepM As F H M) {p : Addr} {oo : MO} (hp : As[j]? = some p) (hm : M[j]? = some oo) (hg : oo ≠ .gone) {ho : HO} {o' : MO} (hk : MOk F (upd H p ho) p o') :
    Step As F H As F (upd H p ho) ∧ RepM As F (upd H p ho) (M.set j o') := by
  have fp : F p = none := hM.fr j p _ hp hm hg
  have mem : p ∈ As := List.mem_of_getElem? hp
  refine ⟨⟨Ex.refl F, fun x u hx q => by rw [upd_ne (fun z => hx (by rw [z]; exact mem))]; exact q, fun x hx => ?_, fun x _ q _ => q, [], by simp, by simp⟩, ⟨fun a u q => ?_, hM.nd, by simp [hM.len], fun a ha => ?_, fun i a u h1 h2 h3 => ?_, fun i a u h1 h2 => ?_⟩⟩
  · by_cases z : x = p
    · rw [z, upd_same]; simp
    · rw [upd_ne z]; exact hx
  · rw [upd_ne (ne_of_none q fp)]; exact hM.ex a u q
  · by_cases z : a = p
    · rw [z, upd_same]; simp
    · rw [upd_ne z]; exact hM.ne a ha
  · by_cases hij : i = j
    · subst hij
      rw [hp] at h1; cases h1
      exact fp
    · rw [List.getElem?_set_ne (Ne.symm hij)] at h2
      exact hM.fr i a u h1 h2 h3
  · by_cases hij : i = j
    · subst hij
      rw [hp] at h1; cases h1
      rw [List.getElem?_set_self (List.getElem?_eq_some_iff.mp hm).1] at h2
      cases h2
      exact hk
    · rw [List.getElem?_set_ne (Ne.symm hij)] at h2
      have na : a ≠ p := fun z => by subst z; exact hij (nd_ix hM.nd h1 hp)
      exact (hM.mem i a u h1 h2).keep (fun w hw => by rw [upd_ne na]; exact hw) (Ex.refl F)
/-- o.append(e), o a pinned list -/
theorem ed_appP {a0 : Expr} (ho : ED X ρ M o (.own j) M) (h : ED X ρ M a0 (.d d) M) (hm : M[j]? = some (.pin b HO.lst ds) := by rfl) (hz : ds.length < 100000) (hb : attributeBase o "append" X.env (eval o X.env) = eval o X.env := by rfl)
    (hfew : ((backTo pos (starEach (a0 :: []) X.env)).all (fun x => !x.1) && (backToKw pos (keywordEach [] X.env)).all (fun x => x.1.isSome)
      && decide ((a0 :: []).length + ([] : List Keyword).length + (if ([] : List Keyword).isEmpty then 0 else 1) < 30)) = true := by rfl)
    (hline : (apos.endLine == pos.line) = true := by rfl) (hs : starEach (a0 :: []) X.env = (false, eval a0 X.env) :: starEach [] X.env := by rfl) :
    ED X ρ M (.Call (.Attribute o "append" apos) [a0] [] pos) (.d .none) (M.set j (.pin b HO.lst (ds ++ [d]))) := fun As σ F H hM hE Q q => by
  refine ⟨_, pe_bm PySem.F.plainAttrs_list PySem.F.slot_list_append PySem.F.type_list_append mt_append (pe_w X o) (pa_cons (pe_w X a0) pa_nil hs) hb hfew hline hs rfl, ho As σ F H hM hE _ fun v As0 F0 H0 s0 m0 o0 => ?_⟩
  obtain ⟨p, h1, rfl⟩ := o0
  obtain ⟨_, ys, k1, k2⟩ := m0.mem j p _ h1 hm
  refine ⟨.inl ⟨rfl, _, SqL.of k1⟩, h As0 σ F0 H0 m0 (hE.step s0) _ fun w As1 F1 H1 s1 m1 o1 => ?_⟩
  have h3 := s1.pre h1
  obtain ⟨e0, zs, k3, k4⟩ := m1.mem j p _ h3 hm
  obtain ⟨s2, m2⟩ := upG m1 h3 hm (by simp) (ho := .lst (zs ++ [w])) (o' := .pin b HO.lst (ds ++ [d])) ⟨e0, _, upd_same, k4.snoc o1⟩
  exact ⟨p, zs, w, rfl, rfl, k3, by rw [k4.length]; exact Evl.sz_lt hz, q _ _ _ _ ((s0.trans s1).trans s2) m2 .non⟩
/-- o.pop(), o a pinned list -/
theorem ed_popP (ho : ED X ρ M o (.own j) M) (hm : M[j]? = some (.pin b HO.lst (ds ++ [d]))) (hb : attributeBase o "pop" X.env (eval o X.env) = eval o X.env := by rfl)
    (hline : (apos.endLine == pos.line) = true := by rfl) :
    ED X ρ M (.Call (.Attribute o "pop" apos) [] [] pos) (.d d) (M.set j (.pin b HO.lst ds)) := fun As σ F H hM hE Q q => by
  refine ⟨_, pe_bm0 PySem.F.plainAttrs_list PySem.F.slot_list_pop PySem.F.type_list_pop mt_pop (pe_w X o) hb hline, ho As σ F H hM hE _ fun v As0 F0 H0 s0 m0 o0 => ?_⟩
  obtain ⟨p, h1, rfl⟩ := o0
  obtain ⟨e0, ys, k1, k2⟩ := m0.mem j p _ h1 hm
  have hlen := k2.length
  simp only [List.length_append, List.length_singleton] at hlen
  obtain ⟨y, hy, dy⟩ := k2.get (i := ds.length) (d := d) (by simp)
  have kd : DvAll F0 ys.dropLast ds := by
    rw [List.dropLast_eq_take, hlen]
    have := k2.take ds.length
    simpa using this
  obtain ⟨s2, m2⟩ := upG m0 h1 hm (by simp) (ho := .lst ys.dropLast) (o' := .pin b HO.lst ds) ⟨e0, _, upd_same, kd⟩
  exact ⟨.inl ⟨rfl, _, SqL.of k1⟩, p, ys, y, rfl, rfl, k1, by rw [hlen, Nat.add_sub_cancel]; exact hy, q _ _ _ _ (s0.trans s2) m2 dy⟩
/-- o[i] of any list -/
theorem ed_ixR {a0 b0 : Expr} {M2 : List MO} {r1 : Slot} {n : Int} (ha : ED X ρ M a0 r1 M1) (hb : ED X ρ M1 b0 (.d (.int n)) M2) (rd : Rds M2 r1 (.list ds)) (hx : atI ds n = some d := by rfl) (hs : PlainIx b0 := by exact fun _ _ => rfl) : ED X ρ M (.Subscript a0 b0 pos) (.d d) M2 := fun As σ F H hM hE Q q =>
  ⟨_, pe_ix ix_list (pe_w X a0) (pe_w X b0) hs, ha As σ F H hM hE _ fun v1 As1 F1 H1 s1 m1 o1 => hb As1 σ F1 H1 m1 (hE.step s1) _ fun v2 As2 F2 H2 s2 m2 o2 => by
    obtain ⟨p, xs, rfl, hp, hd⟩ := rd_list m2 (o1.step s2) rd
    obtain ⟨v, hv, dv⟩ := hd.atI hx
    cases o2
    exact ⟨p, xs, n, v, rfl, rfl, SqL.of hp, hv, q v As2 F2 H2 (s1.trans s2) m2 dv⟩⟩
/-! ### len(o), an own __len__ -/
theorem call_lenO {CX : CXT} {ff : Addr} {fd : FuncData} {sp : Sp} {E : XK} (F : FnOk X.prog X.w X.K X.mg X.base CX k ff fd ps sp) (hr : Room (k + 1) X.A) (hm : Meth X.K C "__len__" ff) (hb : Binds X.K fd ps []) (hx : Passes CX X E) :
    CallR X (.builtin "len") (fun xs H Q => ∃ a dx fs, xs = [.ref a] ∧ H a = some (.ins C dx fs) ∧ sp [.ref a] H (fun v H' => ∃ n : Nat, v = .int (n : Int) ∧ n < 1000000 ∧ Q (.int (n : Int)) H') E) := by
  intro pins s σ H xs us Q I r h
  obtain ⟨a, dx, fs, rfl, ha, q⟩ := h
  obtain ⟨u, rfl, ru⟩ := r.one
  obtain rfl : u = Value.ref a := ru
  obtain ⟨mA, J, _⟩ := ins_get I.hok ha
  obtain ⟨od, J, _⟩ := J.look
  refine Calls.call_function_entry kind_len plain_len entry_len (args_len1 _) ?_
  unfold Builtin.«len»
  refine wpAny_bind (m := oneArg "len" _) (wpAny_pure ?_)
  refine wpAny_bind (m := callSpecial? (.ref a) (Str.ofString "__len__")) (PySem.W.special_fn I.kIn J hm.at_ (beq_iff_eq.mp hm.fn) ?_)
  have e0 : Env0 X.prog X.w X.K X.mg X.base X.A.in1 X.stack s H := by
    have e := I.env0
    exact ⟨e.frames, e.mod, e.bs, e.bsz, e.funs, e.frf, e.hok, e.bare⟩
  have hl := F.len _ _ _ _ q
  have r2 : Vals [V.ref a] [Value.ref a] := .cons rfl .nil
  refine wpAny_mono (Q := EP X pins σ (fun v H' => ∃ n : Nat, v = .int (n : Int) ∧ n < 1000000 ∧ Q (.int (n : Int)) H')) (wpAny_call (codeAny_mono (F.run X.A.in1 X.stack s H ⟨[.ref a], []⟩ [.ref a] [.ref a] _ E hr.in1 e0 (by
    have := hb s [.ref a] I.kIn (by simpa using hl)
    simpa using this) r2 q) fun r s' hq => ?_)) (fun v s' hv => ?_) fun _ _ z => z
  · cases r with
    | error e => exact hx pins σ H s e s' I hq
    | ok fl =>
      cases fl with
      | ret w => exact I.after hq
      | next => exact False.elim hq
      | brk => exact False.elim hq
      | cont => exact False.elim hq
  obtain ⟨z, H', I', rz, n, rfl, hn, q'⟩ := hv
  obtain ⟨t, rfl⟩ := rz
  refine wpAny_bind (wpAny_holding (wpAny_pure ?_))
  refine wpAny_bind (wpAny_letGo ?_)
  show wpAny _ _ (if (n : Int) < 0 then _ else _) _ _ _
  rw [if_neg (by omega)]
  show wpAny _ _ (if (n : Int) ≥ 2 ^ 63 then _ else _) _ _ _
  rw [if_neg (by omega)]
  exact wpAny_bind (wpAny_mkInt (wpAny_pure ⟨_, rfl, .int (n : Int), H', I'.tok _, ⟨_, rfl⟩, q'⟩))
end
end WC

/-! drawings -/
namespace WC
open PySem L2
open Evl (Ex)

/-! ### statements and expressions with outcomes of a kind -/
def S1P (X : Cx) (E : XK) (ρ : REnv) (M : List MO) (st : Stmt) (P : REnv → List MO → Prop) : Prop :=
  ∀ (As : List Addr) (σ : St) (F H : Hp), RepM As F H M → RepE As F σ ρ → ∀ D : Ends, (∀ ρ' M', P ρ' M' → OutOk E D As F H (.nx ρ' M')) → wS X st D σ H
def SDP (X : Cx) (E : XK) (ρ : REnv) (M : List MO) (sts : List Stmt) (P : REnv → List MO → Prop) : Prop :=
  ∀ (As : List Addr) (σ : St) (F H : Hp), RepM As F H M → RepE As F σ ρ → ∀ D : Ends, (∀ ρ' M', P ρ' M' → OutOk E D As F H (.nx ρ' M')) → wSs X sts D σ H
def EDP (X : Cx) (ρ : REnv) (M : List MO) (e : Expr) (P : Slot → List MO → Prop) : Prop :=
  ∀ (As : List Addr) (σ : St) (F H : Hp), RepM As F H M → RepE As F σ ρ → ∀ Q : VK,
    (∀ r M' v As' F' H', P r M' → Step As F H As' F' H' → RepM As' F' H' M' → SlotOk As' F' v r → Q v H') → wE X e σ H Q
section
variable {X : Cx} {E : XK} {ρ ρ1 : REnv} {M M1 : List MO} {st : Stmt} {rest : List Stmt} {o : Out} {P P' : REnv → List MO → Prop} {PS : Slot → List MO → Prop} {e : Expr} {pos p : Pos} {x : Str} {i : Nat}
theorem sd_consP (h1 : S1P X E ρ M st P) (h2 : ∀ ρ' M', P ρ' M' → SD X E ρ' M' rest o) : SD X E ρ M (st :: rest) o := fun As σ F H hM hE D h =>
  ⟨_, pss_cons (ps_w X st) (pss_w X rest), h1 As σ F H hM hE { D with nx := wSs X rest D } fun ρ' M' p As1 σ1 F1 H1 s1 m1 e1 => h2 ρ' M' p As1 σ1 F1 H1 m1 e1 D (h.step s1)⟩
theorem sdp_nil (h : P ρ M) : SDP X E ρ M [] P := fun As σ F H hM hE D q => ⟨_, pss_nil, q ρ M h As σ F H (Step.refl ..) hM hE⟩
theorem sdp_cons (h1 : S1 X E ρ M st (.nx ρ1 M1)) (h2 : SDP X E ρ1 M1 rest P) : SDP X E ρ M (st :: rest) P := fun As σ F H hM hE D h =>
  ⟨_, pss_cons (ps_w X st) (pss_w X rest), h1 As σ F H hM hE { D with nx := wSs X rest D } fun As1 σ1 F1 H1 s1 m1 e1 => h2 As1 σ1 F1 H1 m1 e1 D fun ρ' M' p => (h ρ' M' p).step s1⟩
theorem sdp_consP (h1 : S1P X E ρ M st P) (h2 : ∀ ρ' M', P ρ' M' → SDP X E ρ' M' rest P') : SDP X E ρ M (st :: rest) P' := fun As σ F H hM hE D h =>
  ⟨_, pss_cons (ps_w X st) (pss_w X rest), h1 As σ F H hM hE { D with nx := wSs X rest D } fun ρ' M' p As1 σ1 F1 H1 s1 m1 e1 => h2 ρ' M' p As1 σ1 F1 H1 m1 e1 D fun ρ2 M2 p2 => (h ρ2 M2 p2).step s1⟩
theorem sd_setP (hN : X.N.Nodup) (h : EDP X ρ M e PS) (hi : X.N[i]? = some x := by rfl) (hx : Loc X.env.scope x := by first | exact Or.inl rfl | exact Or.inr rfl) (hs : swapsWith e (some (.Name x p)) pos.line X.env = pure false := by rfl)
    (hf : X.fn x = true ∨ X.env.scope.names.lookup x = some .local := by first | exact .inl rfl | exact .inr rfl) : S1P X E ρ M (.Assign [.Name x p] e pos) (fun ρ' M' => ∃ r, PS r M' ∧ ρ' = ρ.set i (some r)) := fun As σ F H hM hE D q =>
  ⟨_, ps_set hN hi hx (pe_w X e) hs hf, h As σ F H hM hE _ fun r M' v As1 F1 H1 p1 s1 m1 o1 => q _ M' ⟨r, p1, rfl⟩ As1 _ F1 H1 s1 m1 ((hE.step s1).set o1 i)⟩
theorem edp_of {r : Slot} (h : ED X ρ M e r M1) : EDP X ρ M e (fun r' M' => r' = r ∧ M' = M1) := fun As σ F H hM hE Q q =>
  h As σ F H hM hE Q fun v As' F' H' s m o => q r M1 v As' F' H' ⟨rfl, rfl⟩ s m o
/-- what is owned at the end may be left behind a return -/
theorem sd_dropR {sts : List Stmt} {d : PyData} (more : List MO) (h : SD X E ρ M sts (.rt (.d d) (M1 ++ more))) (hl : M.length = M1.length) : SD X E ρ M sts (.rt (.d d) M1) := fun As σ F H hM hE D q =>
  h As σ F H hM hE D fun v As' F' H' s m o => by
    obtain ⟨s2, m2⟩ := dropM s m (by rw [hM.len, hl])
    exact q v As F' H' s2 m2 o
/-! ### fields are set -/
variable {f : Str} {a dx C : Addr} {fl fl' : List V → List (Str × V)} {ds0 ds : List PyData} {j : Nat} {d : PyData} {ob : Expr} {pos' : Pos}
theorem sd_fldD (cl : Cls X.K C) (na : NoAttr X.K C f) (h : ED X ρ M e (.d d) M1) (ho : ED X ρ M1 ob (.own j) M1) (hi : M1[j]? = some (.pin a (fun xs => .ins C dx (fl xs)) ds0)) (hf : ∀ xs, (fl xs).length < 1000) (hp : ∀ xs v, xs.length = ds0.length → putF f v (fl xs) = fl' (xs ++ [v]))
    (hs : swapsWith e (some (.Attribute ob f pos')) pos.line X.env = pure false := by rfl) : S1 X E ρ M (.Assign [.Attribute ob f pos'] e pos) (.nx ρ (M1.set j (.pin a (fun xs => .ins C dx (fl' xs)) (ds0 ++ [d])))) := fun As σ F H hM hE D q =>
  ⟨_, ps_fld (pe_w X ob) (pe_w X e) hs, h As σ F H hM hE _ fun v As1 F1 H1 s1 m1 o1 => ho As1 σ F1 H1 m1 (hE.step s1) _ fun v2 As2 F2 H2 s2 m2 o2 => by
    obtain ⟨a', h1, rfl⟩ := o2
    obtain ⟨rfl, xs, k1, k2⟩ := m2.mem _ a' _ h1 hi
    obtain ⟨s3, m3⟩ := upG m2 h1 hi (by simp) (ho := .ins C dx (putF f v (fl xs))) (o' := .pin a' (fun xs => .ins C dx (fl' xs)) (ds0 ++ [d])) ⟨rfl, xs ++ [v], by rw [upd_same, hp xs v k2.length], k2.snoc (o1.step s2)⟩
    exact ⟨a', C, dx, _, rfl, k1, cl, na, hf xs, q As2 σ _ _ ((s1.trans s2).trans s3) m3 (((hE.step s1).step s2).step s3)⟩⟩
theorem sd_fldO {flb : Addr → List V → List (Str × V)} (cl : Cls X.K C) (na : NoAttr X.K C f) (h : ED X ρ M e (.own M.length) (M ++ [.lst ds])) (ho : ED X ρ (M ++ [.lst ds]) ob (.own j) (M ++ [.lst ds])) (hi : M[j]? = some (.pin a (fun xs => .ins C dx (fl xs)) ds0)) (hf : ∀ xs, (fl xs).length < 1000) (hp : ∀ xs b, putF f (.ref b) (fl xs) = flb b xs)
    (hs : swapsWith e (some (.Attribute ob f pos')) pos.line X.env = pure false := by rfl) : S1P X E ρ M (.Assign [.Attribute ob f pos'] e pos) (fun ρ' M' => ∃ b, ρ' = ρ ∧ M' = M.set j (.pin a (fun xs => .ins C dx (flb b xs)) ds0) ++ [.pin b HO.lst ds]) := fun As σ F H hM hE D q =>
  ⟨_, ps_fld (pe_w X ob) (pe_w X e) hs, h As σ F H hM hE _ fun v As1 F1 H1 s1 m1 o1 => ho As1 σ F1 H1 m1 (hE.step s1) _ fun v2 As2 F2 H2 s2 m2 o2 => by
    obtain ⟨a', h1, rfl⟩ := o2
    have hjl : j < M.length := (List.getElem?_eq_some_iff.mp hi).1
    have hi2 : (M ++ [MO.lst ds])[j]? = some (.pin a (fun xs => .ins C dx (fl xs)) ds0) := by rw [List.getElem?_append_left hjl]; exact hi
    obtain ⟨rfl, xs, k1, k2⟩ := m2.mem _ a' _ h1 hi2
    obtain ⟨b, hb, rfl⟩ := o1
    have hb2 := s2.pre hb
    have hm2 : (M ++ [MO.lst ds])[M.length]? = some (.lst ds) := by simp
    obtain ⟨ys, k3, k4⟩ := m2.mem _ b _ hb2 hm2
    -- the list is pinned
    have m3 : RepM As2 F2 H2 (M ++ [.pin b HO.lst ds]) := by
      refine ⟨m2.ex, m2.nd, by have := m2.len; simpa using this, m2.ne, fun i c o h3 h4 h5 => ?_, fun i c o h3 h4 => ?_⟩
      · by_cases hi' : i < M.length
        · rw [List.getElem?_append_left hi'] at h4
          exact m2.fr i c o h3 (by rw [List.getElem?_append_left hi']; exact h4) h5
        · have e : i = M.length := by
            have := (List.getElem?_eq_some_iff.mp h4).1
            simp at this; omega
          subst e
          exact m2.fr _ c (.lst ds) h3 hm2 (by simp)
      · by_cases hi' : i < M.length
        · rw [List.getElem?_append_left hi'] at h4
          exact m2.mem i c o h3 (by rw [List.getElem?_append_left hi']; exact h4)
        · have e : i = M.length := by
            have := (List.getElem?_eq_some_iff.mp h4).1
            simp at this; omega
          subst e
          rw [hb2] at h3; cases h3
          simp at h4; subst h4
          exact ⟨rfl, ys, k3, k4⟩
    have hi3 : (M ++ [MO.pin b HO.lst ds])[j]? = some (.pin a' (fun xs => .ins C dx (fl xs)) ds0) := by rw [List.getElem?_append_left hjl]; exact hi
    obtain ⟨s4, m4⟩ := upG m3 h1 hi3 (by simp) (ho := .ins C dx (putF f (.ref b) (fl xs))) (o' := .pin a' (fun xs => .ins C dx (flb b xs)) ds0) ⟨rfl, xs, by rw [upd_same, hp], k2⟩
    rw [List.set_append_left _ _ hjl] at m4
    exact ⟨a', C, dx, _, rfl, k1, cl, na, hf xs, q ρ _ ⟨b, rfl, rfl⟩ As2 σ _ _ ((s1.trans s2).trans s4) m4 (((hE.step s1).step s2).step s4)⟩⟩
end
/-! ### the class Drawing -/
structure DA where
  a : Addr
  dx : Addr
  b1 : Addr
  b2 : Addr
def dwL (b1 b2 : Addr) : List V → List (Str × V) := fun xs => [("gear", xs.getD 0 .non), ("start", xs.getD 1 .non), ("steps", .ref b1), ("past", .ref b2)]
def drwM (C : Addr) (w : DA) (g : PyData) (st : Int) (S P : List Int) : List MO :=
  [.pin w.a (fun xs => .ins C w.dx (dwL w.b1 w.b2 xs)) [g, .int st], .pin w.dx (fun _ => .own w.a) [], .pin w.b1 HO.lst (S.map .int), .pin w.b2 HO.lst (P.map .int)]
structure DrwC (K : PySem.W.Frag) (mg : Str → Option Value) (C : Addr) : Prop where
  cl : Cls K C
  n1 : NoAttr K C "gear"
  n2 : NoAttr K C "start"
  n3 : NoAttr K C "steps"
  n4 : NoAttr K C "past"
  g : mg "Drawing" = some (.ref C)
theorem drwC_mk {K : PySem.W.Frag} {h : Heap} {mg : Str → Option Value} (X : K.In h) (G : h.Ns mainGlobals mg) {C : Addr} (a : PySem.W.nsIn K mainGlobals "Drawing" = some (some (.ref C)))
    (c1 : PySem.W.plainGet K C Str.empty = true) (c2 : PySem.W.hasDictIn K C = true) (c3 : PySem.W.plainOver K C = true) (c4 : PySem.W.findIn K (.ref C) "__setattr__" = some (some (.builtin "object.__setattr__")))
    (n1 : PySem.W.findIn K (.ref C) "gear" = some none) (n2 : PySem.W.findIn K (.ref C) "start" = some none) (n3 : PySem.W.findIn K (.ref C) "steps" = some none) (n4 : PySem.W.findIn K (.ref C) "past" = some none) : DrwC K mg C :=
  ⟨⟨c1, c2, c3, c4⟩, n1, n2, n3, n4, PySem.W.mg_of X G a⟩
theorem last_at (T : List Int) (z : Int) : atI ((T ++ [z]).map PyData.int) (-1) = some (.int z) := atI_int (by
  rw [atI_last (by simp)]
  simp)
theorem lk1 {b1 b2 : Addr} (xs : List V) : (dwL b1 b2 xs).lookup ("gear" : Str) = some (xs.getD 0 .non) := by rfl
theorem lk2 {b1 b2 : Addr} (xs : List V) : (dwL b1 b2 xs).lookup ("start" : Str) = some (xs.getD 1 .non) := by rfl
theorem lk3 {b1 b2 : Addr} (xs : List V) : (dwL b1 b2 xs).lookup ("steps" : Str) = some (.ref b1) := by rfl
theorem lk4 {b1 b2 : Addr} (xs : List V) : (dwL b1 b2 xs).lookup ("past" : Str) = some (.ref b2) := by rfl
section
variable {X : Cx} {ρ : REnv} {M M1 : List MO} {o e : Expr} {C : Addr} {w : DA} {g : PyData} {st : Int} {S P : List Int} {pos apos p : Pos} {x : Str} {Pre Post : List MO} {k : Nat} {ps : List Str} {Sig : SigO} {d : PyData}
theorem ed_gear (dc : DrwC X.K X.mg C) (ho : ED X ρ M o (.own 0) (drwM C w g st S P ++ Post)) (hb : attributeBase o "gear" X.env (eval o X.env) = eval o X.env := by rfl) : ED X ρ M (.Attribute o "gear" pos) (.d g) (drwM C w g st S P ++ Post) := ed_fldD (i := 0) dc.cl dc.n1 ho rfl rfl lk1 hb
theorem ed_start (dc : DrwC X.K X.mg C) (ho : ED X ρ M o (.own 0) (drwM C w g st S P ++ Post)) (hb : attributeBase o "start" X.env (eval o X.env) = eval o X.env := by rfl) : ED X ρ M (.Attribute o "start" pos) (.d (.int st)) (drwM C w g st S P ++ Post) := ed_fldD (i := 1) dc.cl dc.n2 ho rfl rfl lk2 hb
theorem ed_steps (dc : DrwC X.K X.mg C) (ho : ED X ρ M o (.own 0) (drwM C w g st S P ++ Post)) (hb : attributeBase o "steps" X.env (eval o X.env) = eval o X.env := by rfl) : ED X ρ M (.Attribute o "steps" pos) (.own 2) (drwM C w g st S P ++ Post) := ed_fldO dc.cl dc.n3 ho rfl rfl lk3 hb
theorem ed_past (dc : DrwC X.K X.mg C) (ho : ED X ρ M o (.own 0) (drwM C w g st S P ++ Post)) (hb : attributeBase o "past" X.env (eval o X.env) = eval o X.env := by rfl) : ED X ρ M (.Attribute o "past" pos) (.own 3) (drwM C w g st S P ++ Post) := ed_fldO dc.cl dc.n4 ho rfl rfl lk4 hb
/-- the lists of a drawing -/
theorem ed_lastStep {S0 : List Int} {z : Int} {b0 : Expr} (dc : DrwC X.K X.mg C) (ho : ED X ρ (drwM C w g st (S0 ++ [z]) P ++ Post) o (.own 0) (drwM C w g st (S0 ++ [z]) P ++ Post)) (hb0 : ED X ρ (drwM C w g st (S0 ++ [z]) P ++ Post) b0 (.d (.int (-1))) (drwM C w g st (S0 ++ [z]) P ++ Post)) (hb : attributeBase o "steps" X.env (eval o X.env) = eval o X.env := by rfl) (hs : PlainIx b0 := by exact fun _ _ => rfl) :
    ED X ρ (drwM C w g st (S0 ++ [z]) P ++ Post) (.Subscript (.Attribute o "steps" pos) b0 p) (.d (.int z)) (drwM C w g st (S0 ++ [z]) P ++ Post) :=
  ed_ixR (ed_steps dc ho hb) hb0 (.pin rfl) (last_at S0 z) hs
theorem ed_appSteps {y : Int} (dc : DrwC X.K X.mg C) (ho : ED X ρ (drwM C w g st S P ++ Post) o (.own 0) (drwM C w g st S P ++ Post)) (h : ED X ρ (drwM C w g st S P ++ Post) e (.d (.int y)) (drwM C w g st S P ++ Post)) (hz : S.length < 100000) (hb : attributeBase o "steps" X.env (eval o X.env) = eval o X.env := by rfl)
    (hb2 : attributeBase (.Attribute o "steps" pos) "append" X.env (eval (.Attribute o "steps" pos) X.env) = eval (.Attribute o "steps" pos) X.env := by rfl)
    (hfew : ((backTo p (starEach (e :: []) X.env)).all (fun x => !x.1) && (backToKw p (keywordEach [] X.env)).all (fun x => x.1.isSome)
      && decide ((e :: []).length + ([] : List Keyword).length + (if ([] : List Keyword).isEmpty then 0 else 1) < 30)) = true := by rfl)
    (hline : (apos.endLine == p.line) = true := by rfl) (hs : starEach (e :: []) X.env = (false, eval e X.env) :: starEach [] X.env := by rfl) :
    ED X ρ (drwM C w g st S P ++ Post) (.Call (.Attribute (.Attribute o "steps" pos) "append" apos) [e] [] p) (.d .none) (drwM C w g st (S ++ [y]) P ++ Post) := by
  have := ed_appP (ed_steps dc ho hb) h (hm := rfl) (by simpa using hz) hb2 hfew hline hs
  rw [show S.map PyData.int ++ [PyData.int y] = (S ++ [y]).map PyData.int by simp] at this
  exact this
theorem ed_appPast {y : Int} (dc : DrwC X.K X.mg C) (ho : ED X ρ (drwM C w g st S P ++ Post) o (.own 0) (drwM C w g st S P ++ Post)) (h : ED X ρ (drwM C w g st S P ++ Post) e (.d (.int y)) (drwM C w g st S P ++ Post)) (hz : P.length < 100000) (hb : attributeBase o "past" X.env (eval o X.env) = eval o X.env := by rfl)
    (hb2 : attributeBase (.Attribute o "past" pos) "append" X.env (eval (.Attribute o "past" pos) X.env) = eval (.Attribute o "past" pos) X.env := by rfl)
    (hfew : ((backTo p (starEach (e :: []) X.env)).all (fun x => !x.1) && (backToKw p (keywordEach [] X.env)).all (fun x => x.1.isSome)
      && decide ((e :: []).length + ([] : List Keyword).length + (if ([] : List Keyword).isEmpty then 0 else 1) < 30)) = true := by rfl)
    (hline : (apos.endLine == p.line) = true := by rfl) (hs : starEach (e :: []) X.env = (false, eval e X.env) :: starEach [] X.env := by rfl) :
    ED X ρ (drwM C w g st S P ++ Post) (.Call (.Attribute (.Attribute o "past" pos) "append" apos) [e] [] p) (.d .none) (drwM C w g st S (P ++ [y]) ++ Post) := by
  have := ed_appP (ed_past dc ho hb) h (hm := rfl) (by simpa using hz) hb2 hfew hline hs
  rw [show P.map PyData.int ++ [PyData.int y] = (P ++ [y]).map PyData.int by simp] at this
  exact this
theorem ed_popSteps {y : Int} (dc : DrwC X.K X.mg C) (ho : ED X ρ (drwM C w g st (S ++ [y]) P ++ Post) o (.own 0) (drwM C w g st (S ++ [y]) P ++ Post)) (hb : attributeBase o "steps" X.env (eval o X.env) = eval o X.env := by rfl)
    (hb2 : attributeBase (.Attribute o "steps" pos) "pop" X.env (eval (.Attribute o "steps" pos) X.env) = eval (.Attribute o "steps" pos) X.env := by rfl) (hline : (apos.endLine == p.line) = true := by rfl) :
    ED X ρ (drwM C w g st (S ++ [y]) P ++ Post) (.Call (.Attribute (.Attribute o "steps" pos) "pop" apos) [] [] p) (.d (.int y)) (drwM C w g st S P ++ Post) :=
  ed_popP (ds := S.map .int) (ed_steps dc ho hb) (by rw [show S.map PyData.int ++ [PyData.int y] = (S ++ [y]).map PyData.int by simp]; rfl) hb2 hline
theorem ed_popPast {y : Int} (dc : DrwC X.K X.mg C) (ho : ED X ρ (drwM C w g st S (P ++ [y]) ++ Post) o (.own 0) (drwM C w g st S (P ++ [y]) ++ Post)) (hb : attributeBase o "past" X.env (eval o X.env) = eval o X.env := by rfl)
    (hb2 : attributeBase (.Attribute o "past" pos) "pop" X.env (eval (.Attribute o "past" pos) X.env) = eval (.Attribute o "past" pos) X.env := by rfl) (hline : (apos.endLine == p.line) = true := by rfl) :
    ED X ρ (drwM C w g st S (P ++ [y]) ++ Post) (.Call (.Attribute (.Attribute o "past" pos) "pop" apos) [] [] p) (.d (.int y)) (drwM C w g st S P ++ Post) :=
  ed_popP (ds := P.map .int) (ed_past dc ho hb) (by rw [show P.map PyData.int ++ [PyData.int y] = (P ++ [y]).map PyData.int by simp]; rfl) hb2 hline
/-- the drawing stands behind Pre -/
theorem objAt_drw (x : Str) (hx : x = "roll" ∨ x = "tips" ∨ x = "teeth" ∨ x = "is_closed" ∨ x = "undo") (ho : ED X ρ (Pre ++ drwM C w g st S P ++ Post) o (.own Pre.length) (Pre ++ drwM C w g st S P ++ Post)) : ObjAt X ρ (Pre ++ drwM C w g st S P ++ Post) o C x (Pre.length + 0) :=
  ⟨ho, w.a, w.dx, dwL w.b1 w.b2, [g, .int st], by
    rw [List.append_assoc, List.getElem?_append_right (by omega)]
    rw [show Pre.length + 0 - Pre.length = 0 by omega]; rfl, fun xs => by
    rcases hx with rfl | rfl | rfl | rfl | rfl <;> rfl⟩
/-- len(o) -/
theorem ed_lenDrw (G : FnM X.prog X.w X.K X.mg X.base C "__len__" k ps Sig) (hr : Room (k + 1) X.A) (hm : X.mg "len" = none) {n : Nat} (hn : n < 1000000) (hs : Sig [.own 0] (drwM C w g st S P) (.val (.int (n : Nat))) (drwM C w g st S P)) (ho : ED X ρ (Pre ++ drwM C w g st S P ++ Post) o (.own Pre.length) (Pre ++ drwM C w g st S P ++ Post))
    (hg : Gl X "len" := by rfl) (hst : starEach (o :: []) X.env = (false, eval o X.env) :: starEach [] X.env := by rfl) :
    ED X ρ (Pre ++ drwM C w g st S P ++ Post) (.Call (.Name "len" p) [o] [] pos) (.d (.int (n : Nat))) (Pre ++ drwM C w g st S P ++ Post) := by
  obtain ⟨f, fd, F1, hmt, hb⟩ := G.ex
  refine ed_callB (call_lenO F1 hr hmt hb passL) hg hm PySem.boot_len (ad_cons ho ad_nil hst) (fun As F H vs Q m ok q => ?_) (he := hst)
  cases ok with
  | cons o1 o2 =>
    cases o2
    obtain ⟨a', h1, rfl⟩ := o1
    have hi : (Pre ++ drwM C w g st S P ++ Post)[Pre.length]? = some (.pin w.a (fun xs => .ins C w.dx (dwL w.b1 w.b2 xs)) [g, .int st]) := by
      rw [List.append_assoc, List.getElem?_append_right (by omega), Nat.sub_self]; rfl
    obtain ⟨ea, xs, k1, k2⟩ := m.mem _ a' _ h1 hi
    refine ⟨a', w.dx, _, rfl, k1, ?_⟩
    exact callG (rs := [.own 0]) m (.cons ⟨a', h1, rfl⟩ .nil) (ownsLt_of rfl) hs fun v F' H' st m' dv => by
      cases dv
      exact ⟨n, rfl, hn, q _ As F' H' st m' (.int _)⟩
end
/-! ### what the methods promise -/
def Sig_roll (c : Cl) (C : Addr) : SigO := fun rs M r M' => ∃ (w : DA) (g : PyData) (st : Int) (T P : List Int) (z : Int) (v : PyData), T.length < 90000 ∧ P.length < 90000 ∧ rs = [.own 0, .d v] ∧ M = drwM C w g st (T ++ [z]) P ∧
  ((∃ k : Nat, k ≤ 1000000 ∧ v = .int (k : Nat) ∧ r = vI (z + k) ∧ M' = drwM C w g st (T ++ [z] ++ [z + k]) (P ++ [z])) ∨ (isIntB v 0 1000000 = false ∧ r = .err (.ref c.num) ∧ M' = M))
def Sig_undo (c : Cl) (C : Addr) : SigO := fun rs M r M' => ∃ (w : DA) (g : PyData) (st : Int) (T P : List Int), rs = [.own 0] ∧
  ((∃ z y u, M = drwM C w g st (T ++ [z] ++ [y]) (P ++ [u]) ∧ r = vI z ∧ M' = drwM C w g st (T ++ [z]) P) ∨ (M = drwM C w g st T [] ∧ r = .err (.ref c.non) ∧ M' = M))
def Sig_dtips (C : Addr) : SigO := fun rs M r M' => ∃ (w : DA) (N n : Nat) (sd : Str) (st : Nat) (T P : List Int) (z : Nat), 0 < N ∧ N ≤ 1000 ∧ 0 < n ∧ n ≤ 1000 ∧ z / n + 1 ≤ 80000 ∧ rs = [.own 0] ∧ M = drwM C w (gD N n sd) (st : Nat) (T ++ [(z : Int)]) P ∧ M' = M ∧ r = .new (intsD (tipsN N n st (z / n + 1)))
def Sig_teeth (C : Addr) : SigO := fun rs M r M' => ∃ (w : DA) (N n : Nat) (sd : Str) (st : Nat) (T P : List Int) (z : Nat), 0 < N ∧ 0 < n ∧ rs = [.own 0] ∧ M = drwM C w (gD N n sd) (st : Nat) (T ++ [(z : Int)]) P ∧ M' = M ∧ r = .val (.tuple [.int ((st + z) % N : Nat), .int (z % n : Nat)])
def Sig_closed (C : Addr) : SigO := fun rs M r M' => ∃ (w : DA) (N n : Nat) (sd : Str) (st : Nat) (T P : List Int) (z : Nat), 0 < N ∧ N ≤ 1000 ∧ 0 < n ∧ n ≤ 1000 ∧ rs = [.own 0] ∧ M = drwM C w (gD N n sd) (st : Nat) (T ++ [(z : Int)]) P ∧ M' = M ∧ r = vB (decide (((lenN N n : Nat) : Int) ≤ (z : Int)))
def Sig_dlen (C : Addr) : SigO := fun rs M r M' => ∃ (w : DA) (g : PyData) (st : Int) (T P : List Int), rs = [.own 0] ∧ M = drwM C w g st T P ∧ M' = M ∧ r = vI (P.length : Nat)
/-! ### making one -/
def newM2 (C : Addr) (x dx : Addr) : List MO := [.pin x (fun _ => .ins C dx []) [], .pin dx (fun _ => .own x) []]
def GivesI (c : Cl) (C : Addr) (x dx : Addr) (F H : Hp) (Q : VK) (E : XK) (gv sv : PyData) : Prop :=
  (∃ N n sd st, GOk N n sd ∧ st < N ∧ gv = gD N n sd ∧ sv = .int (st : Nat) ∧ ∀ b1 b2 F' H', Step [x, dx] F H [x, dx, b1, b2] F' H' → RepM [x, dx, b1, b2] F' H' (drwM C ⟨x, dx, b1, b2⟩ gv (st : Nat) [0] []) → Q .non H') ∨
  (isGearB gv = false ∧ ∀ F' H', Step [x, dx] F H [x, dx] F' H' → RepM [x, dx] F' H' (newM2 C x dx) → E (.ref c.gear) none H') ∨
  (∃ N n sd, GOk N n sd ∧ gv = gD N n sd ∧ isIntB sv 0 ((N : Int) - 1) = false ∧ ∀ F' H', Step [x, dx] F H [x, dx] F' H' → RepM [x, dx] F' H' (newM2 C x dx) → E (.ref c.tooth) none H')
def PrI (c : Cl) (C : Addr) : Sp := fun vs H Q E => ∃ (F : Hp) (x dx : Addr) (gv sv : PyData) (v1 v2 : V), vs = [.ref x, v1, v2] ∧ RepM [x, dx] F H (newM2 C x dx) ∧ Dv F v1 gv ∧ Dv F v2 sv ∧ GivesI c C x dx F H Q E gv sv
structure InitAt (K : PySem.W.Frag) (C : Addr) (x qual : Str) (st : Stmt) : Prop where
  ex : ∃ f fd, Fun K x qual st f fd ∧ Mk K C f
theorem initAt_mk {K : PySem.W.Frag} {C : Addr} {qual : Str} {st : Stmt} {f : Addr} {oc : Value} {od an : Option Addr} {osl : Array (Option Value)} {kV doc pm cdv ct : Value}
    (a : PySem.W.findIn K (.ref C) "__init__" = some (some (.ref f))) (l : K.lookup f = some ⟨oc, od, .func (PySem.W.fnOf "__init__" qual (defArgs st) (defBody st) (defScope st) .none kV doc pm an cdv ct), osl⟩)
    (c : PySem.W.codeIn K cdv qual = true) (k : PySem.W.keepIn K (.ref f) = true) (fn : PySem.W.isFn K (.ref f) = true) (mk : PySem.W.makesIn K C = true) (kc : PySem.W.keepIn K (.ref C) = true) : InitAt K C "__init__" qual st := ⟨f, _, fun_mk l c k, ⟨mk, a, fn, kc⟩⟩
structure FnI (P : Program) (w : World) (K : PySem.W.Frag) (mg : Str → Option Value) (base : Heap) (c : Cl) (C : Addr) (k : Nat) : Prop where
  ex : ∃ f fd, FnOk P w K mg base (L2.CX P w) k f fd ["self", "gear", "start"] (PrI c C) ∧ Mk K C f ∧ Binds K fd ["self", "gear", "start"] []
theorem joinM {As A2 A3 : List Addr} {F H H2 F' H' : Hp} {M M2 : List MO} (m : RepM As F H M) (he : Ex H H2) (hn : ∀ a ∈ A2, H a = none) (st : Step A2 F H2 (A2 ++ A3) F' H') (m' : RepM (A2 ++ A3) F' H' M2) : Step As F H (As ++ (A2 ++ A3)) F' H' ∧ RepM (As ++ (A2 ++ A3)) F' H' (M ++ M2) := by
  have h2 : ∀ x, H x ≠ none → H2 x ≠ none := fun x hx => by
    cases q : H x with
    | none => exact absurd q hx
    | some o => rw [he x o q]; simp
  obtain ⟨more, e, hmore⟩ := st.grow
  have em : more = A3 := (List.append_cancel_left e).symm
  subst em
  have fresh : ∀ a ∈ A2 ++ more, H a = none := fun a ha => by
    rcases List.mem_append.mp ha with z | z
    · exact hn a z
    · cases q : H a with
      | none => rfl
      | some o => have := hmore a z; rw [he a o q] at this; cases this
  have out : ∀ a, H a ≠ none → a ∉ A2 := fun a ha z => ha (hn a z)
  have keep : ∀ a o, H a = some o → H' a = some o := fun a o h => st.keep a o (out a (by rw [h]; simp)) (he a o h)
  refine ⟨⟨st.fe, fun x o _ h => keep x o h, fun x hx => ?_, fun x hx hf hh => st.cap x (out x hh) hf (h2 x hh), A2 ++ more, rfl, fresh⟩, ⟨m'.ex, ?_, by simp [m.len, m'.len], fun a ha => ?_, fun j a o h1 h2' h3 => ?_, fun j a o h1 h2' => ?_⟩⟩
  · cases q : H x with
    | none => exact absurd q hx
    | some o => rw [keep x o q]; simp
  · exact List.nodup_append.mpr ⟨m.nd, m'.nd, fun a ha b hb e => m.ne a ha (by rw [e]; exact fresh b hb)⟩
  · rcases List.mem_append.mp ha with z | z
    · have := m.ne a z
      cases q : H a with
      | none => exact absurd q this
      | some o => rw [keep a o q]; simp
    · exact m'.ne a z
  · by_cases hj : j < As.length
    · rw [List.getElem?_append_left hj] at h1
      rw [List.getElem?_append_left (by rw [← m.len]; exact hj)] at h2'
      have ne := m.ne a (List.mem_of_getElem? h1)
      exact st.cap a (out a ne) (m.fr j a o h1 h2' h3) (h2 a ne)
    · rw [List.getElem?_append_right (by omega)] at h1
      rw [List.getElem?_append_right (by rw [← m.len]; omega), ← m.len] at h2'
      exact m'.fr _ a o h1 h2' h3
  · by_cases hj : j < As.length
    · rw [List.getElem?_append_left hj] at h1
      rw [List.getElem?_append_left (by rw [← m.len]; exact hj)] at h2'
      exact (m.mem j a o h1 h2').keep (fun u hu => keep a u hu) st.fe
    · rw [List.getElem?_append_right (by omega)] at h1
      rw [List.getElem?_append_right (by rw [← m.len]; omega), ← m.len] at h2'
      exact m'.mem _ a o h1 h2'
section
variable {P : Program} {w : World} {K : PySem.W.Frag} {mg : Str → Option Value} {base : Heap}
theorem two_rep {F H : Hp} {C x dx : Addr} (hF : Ex F H) (hx : H x = none) (hd : H dx = none) (ne : dx ≠ x) : RepM [x, dx] F (upd (upd H dx (.own x)) x (.ins C dx [])) (newM2 C x dx) ∧ Ex H (upd (upd H dx (.own x)) x (.ins C dx [])) := by
  have fx : F x = none := by
    cases q : F x with
    | none => rfl
    | some o => rw [hF x o q] at hx; cases hx
  have fd : F dx = none := by
    cases q : F dx with
    | none => rfl
    | some o => rw [hF dx o q] at hd; cases hd
  have he : Ex H (upd (upd H dx (.own x)) x (.ins C dx [])) := fun a o h => by
    rw [upd_ne (fun z => by rw [z, hx] at h; cases h), upd_ne (fun z => by rw [z, hd] at h; cases h)]; exact h
  refine ⟨⟨fun a o h => he a o (hF a o h), by simp; exact Ne.symm ne, rfl, fun a ha => ?_, fun j a o h1 h2 h3 => ?_, fun j a o h1 h2 => ?_⟩, he⟩
  · simp at ha
    rcases ha with rfl | rfl
    · rw [upd_same]; simp
    · rw [upd_ne ne, upd_same]; simp
  · match j, h1, h2 with
    | 0, h1, _ => simp at h1; subst h1; exact fx
    | 1, h1, _ => simp at h1; subst h1; exact fd
    | j + 2, h1, _ => simp at h1
  · match j, h1, h2 with
    | 0, h1, h2 => simp at h1; subst h1; simp [newM2] at h2; subst h2; exact ⟨rfl, [], upd_same, .nil⟩
    | 1, h1, h2 => simp at h1; subst h1; simp [newM2] at h2; subst h2; exact ⟨rfl, [], by rw [upd_ne ne, upd_same], .nil⟩
    | j + 2, h1, _ => simp at h1
end
section
variable {X : Cx} {E : XK} {ρ : REnv} {M M1 : List MO} {e : Expr} {es : List Expr} {pos p : Pos} {k : Nat} {c : Cl} {C : Addr}
/-- Drawing(gear, start) -/
theorem edp_make {N n : Nat} {sd : Str} {st : Nat} (dc : DrwC X.K X.mg C) (G : FnI X.prog X.w X.K X.mg X.base c C k) (hr : Room (k + 1) X.A) (ha : AD X ρ M (e :: es) [.d (gD N n sd), .d (.int (st : Nat))] M1) (hg : GOk N n sd) (hst : st < N)
    (hgl : Gl X "Drawing" := by rfl) (he : starEach (e :: es) X.env = (false, eval e X.env) :: starEach es X.env := by rfl) (hpl : (backTo pos (starEach es X.env)).any (·.1) = false := by rfl) :
    EDP X ρ M (.Call (.Name "Drawing" p) (e :: es) [] pos) (fun r M' => r = .own M1.length ∧ ∃ w : DA, M' = M1 ++ drwM C w (gD N n sd) (st : Nat) [0] []) := fun As σ F H hM hE Q q => by
  obtain ⟨f, fd, F1, mk, hb⟩ := G.ex
  refine ⟨_, pe_make mk F1 hr hgl dc.g hb .nil passL (pa_w X _) (by decide) he hpl, ha As σ F H hM hE _ fun vs As1 F1 H1 s1 m1 o1 => ?_⟩
  intro x dx hx hd ne
  obtain ⟨m2, he2⟩ := two_rep (C := C) m1.ex hx hd ne
  cases o1 with
  | cons o1 o2 =>
    cases o2 with
    | cons o2 o3 =>
      cases o3
      refine ⟨F1, x, dx, gD N n sd, .int (st : Nat), _, _, rfl, m2, o1, o2, .inl ⟨N, n, sd, st, hg, hst, rfl, rfl, fun b1 b2 F' H' st' m' => ⟨rfl, ?_⟩⟩⟩
      obtain ⟨s3, m3⟩ := joinM (A2 := [x, dx]) (A3 := [b1, b2]) m1 he2 (fun a ha => by simp at ha; rcases ha with rfl | rfl <;> assumption) st' m'
      exact q _ _ (.ref x) _ F' H' ⟨rfl, ⟨x, dx, b1, b2⟩, rfl⟩ (s1.trans s3) m3 ⟨x, by rw [← m1.len]; simp, rfl⟩
end
section
variable {P : Program} {w : World} {K : PySem.W.Frag} {mg : Str → Option Value} {base : Heap} {c : Cl} {C : Addr}
theorem fn_mkI {qual : Str} {st : Stmt} {k : Nat} (F : InitAt K C "__init__" qual st) (S : FnScope ["self", "gear", "start"] ["self", "gear", "start"] (defScope st))
    (hb : ∀ (kV doc pm : Value) (an : Option Addr) (cdv ct : Value) (us : List Value), us.length = 3 → bindArgs (PySem.W.fnOf "__init__" qual (defArgs st) (defBody st) (defScope st) .none kV doc pm an cdv ct) ⟨us, []⟩ = pure ((["self", "gear", "start"] : List Str).zip us))
    (body : ∀ (f : Addr) (cdv : Value) (A : Around) (outer : List Env) (s : Shared) (H : Hp) (E : XK), Room k (A.deeper (PyProof.Rows.envOfC qual (defScope st) s.heap.objs.size f cdv)) → ∀ x dx gv sv,
      (∀ N n sd t, GOk N n sd → t < N → gv = gD N n sd → sv = .int (t : Nat) → SDP (cxOf (L2.CX P w) P w K mg base ["self", "gear", "start"] qual (defScope st) f cdv A outer s H E) E [some (.own 0), some (.d gv), some (.d sv)] (newM2 C x dx) (defBody st) (fun _ M' => ∃ b1 b2, M' = drwM C ⟨x, dx, b1, b2⟩ gv (t : Nat) [0] [])) ∧
      (isGearB gv = false → SD (cxOf (L2.CX P w) P w K mg base ["self", "gear", "start"] qual (defScope st) f cdv A outer s H E) E [some (.own 0), some (.d gv), some (.d sv)] (newM2 C x dx) (defBody st) (.er (.ref c.gear) (newM2 C x dx))) ∧
      (∀ N n sd, GOk N n sd → gv = gD N n sd → isIntB sv 0 ((N : Int) - 1) = false → SD (cxOf (L2.CX P w) P w K mg base ["self", "gear", "start"] qual (defScope st) f cdv A outer s H E) E [some (.own 0), some (.d gv), some (.d sv)] (newM2 C x dx) (defBody st) (.er (.ref c.tooth) (newM2 C x dx)))) : FnI P w K mg base c C (k + 1) := by
  obtain ⟨f, fd, h1, h2⟩ := F.ex
  refine ⟨f, fd, h1.okX S (fun vs H Q E h => ?_) (fun cdv A outer s H vs Q E hr h => ?_), h2, h1.binds hb⟩
  · obtain ⟨F, x, dx, gv, sv, v1, v2, rfl, _⟩ := h
    rfl
  · obtain ⟨F, x, dx, gv, sv, v1, v2, rfl, hM, d1, d2, g⟩ := h
    obtain ⟨ba, bb, bc⟩ := body f cdv A outer s H E hr x dx gv sv
    have e0 : RepE [x, dx] F (L2.start ["self", "gear", "start"] [.ref x, v1, v2]) [some (.own 0), some (.d gv), some (.d sv)] := startG_rep (rs := [.own 0, .d gv, .d sv]) (.cons ⟨x, rfl, rfl⟩ (.cons d1 (.cons d2 .nil)))
    rcases g with ⟨N, n, sd, t, hg, ht, rfl, rfl, q⟩ | ⟨hb', q⟩ | ⟨N, n, sd, hg, rfl, hv, q⟩
    · refine ba N n sd t hg ht rfl rfl [x, dx] _ F H hM e0 _ fun ρ' M' ⟨b1, b2, e⟩ As' σ' F' H' s1 m1 o1 => ?_
      subst e
      obtain ⟨more, rfl, hmo⟩ := s1.grow
      have hl := m1.len
      simp [drwM] at hl
      obtain ⟨y1, y2, rfl⟩ : ∃ y1 y2, more = [y1, y2] := by
        match more, hl with
        | [y1, y2], _ => exact ⟨y1, y2, rfl⟩
      obtain ⟨e1, _⟩ := m1.mem 2 y1 _ rfl rfl
      obtain ⟨e2, _⟩ := m1.mem 3 y2 _ rfl rfl
      simp at e1 e2
      subst e1 e2
      exact q y1 y2 F' H' s1 m1
    · exact bb hb' [x, dx] _ F H hM e0 _ fun As' F' H' s1 m1 => by
        have := s1.same (by rw [m1.len]; rfl)
        subst this
        exact q F' H' s1 m1
    · exact bc N n sd hg rfl hv [x, dx] _ F H hM e0 _ fun As' F' H' s1 m1 => by
        have := s1.same (by rw [m1.len]; rfl)
        subst this
        exact q F' H' s1 m1
end
theorem drwAll_mk {K : PySem.W.Frag} {h : Heap} {mg : Str → Option Value} (X : K.In h) (G : h.Ns mainGlobals mg) {C : Addr} {s0 : Stmt} {f0 : Addr} {oc0 : Value} {od0 an0 : Option Addr} {osl0 : Array (Option Value)} {kV0 doc0 pm0 cdv0 ct0 : Value} {s1 : Stmt} {f1 : Addr} {oc1 : Value} {od1 an1 : Option Addr} {osl1 : Array (Option Value)} {kV1 doc1 pm1 cdv1 ct1 : Value} {s2 : Stmt} {f2 : Addr} {oc2 : Value} {od2 an2 : Option Addr} {osl2 : Array (Option Value)} {kV2 doc2 pm2 cdv2 ct2 : Value} {s3 : Stmt} {f3 : Addr} {oc3 : Value} {od3 an3 : Option Addr} {osl3 : Array (Option Value)} {kV3 doc3 pm3 cdv3 ct3 : Value} {s4 : Stmt} {f4 : Addr} {oc4 : Value} {od4 an4 : Option Addr} {osl4 : Array (Option Value)} {kV4 doc4 pm4 cdv4 ct4 : Value} {s5 : Stmt} {f5 : Addr} {oc5 : Value} {od5 an5 : Option Addr} {osl5 : Array (Option Value)} {kV5 doc5 pm5 cdv5 ct5 : Value} {s6 : Stmt} {f6 : Addr} {oc6 : Value} {od6 an6 : Option Addr} {osl6 : Array (Option Value)} {kV6 doc6 pm6 cdv6 ct6 : Value}
    (a : PySem.W.nsIn K mainGlobals "Drawing" = some (some (.ref C)))
    (c1 : PySem.W.plainGet K C Str.empty = true)
    (c2 : PySem.W.hasDictIn K C = true)
    (c3 : PySem.W.plainOver K C = true)
    (c4 : PySem.W.findIn K (.ref C) "__setattr__" = some (some (.builtin "object.__setattr__")))
    (n1 : PySem.W.findIn K (.ref C) "gear" = some none)
    (n2 : PySem.W.findIn K (.ref C) "start" = some none)
    (n3 : PySem.W.findIn K (.ref C) "steps" = some none)
    (n4 : PySem.W.findIn K (.ref C) "past" = some none)
    (a0 : PySem.W.findIn K (.ref C) "__init__" = some (some (.ref f0)))
    (l0 : K.lookup f0 = some ⟨oc0, od0, .func (PySem.W.fnOf "__init__" "Drawing.__init__" (defArgs s0) (defBody s0) (defScope s0) .none kV0 doc0 pm0 an0 cdv0 ct0), osl0⟩)
    (d0 : PySem.W.codeIn K cdv0 "Drawing.__init__" = true)
    (k0 : PySem.W.keepIn K (.ref f0) = true)
    (e0 : PySem.W.isFn K (.ref f0) = true)
    (a1 : PySem.W.findIn K (.ref C) "roll" = some (some (.ref f1)))
    (l1 : K.lookup f1 = some ⟨oc1, od1, .func (PySem.W.fnOf "roll" "Drawing.roll" (defArgs s1) (defBody s1) (defScope s1) .none kV1 doc1 pm1 an1 cdv1 ct1), osl1⟩)
    (d1 : PySem.W.codeIn K cdv1 "Drawing.roll" = true)
    (k1 : PySem.W.keepIn K (.ref f1) = true)
    (e1 : PySem.W.isFn K (.ref f1) = true)
    (a2 : PySem.W.findIn K (.ref C) "tips" = some (some (.ref f2)))
    (l2 : K.lookup f2 = some ⟨oc2, od2, .func (PySem.W.fnOf "tips" "Drawing.tips" (defArgs s2) (defBody s2) (defScope s2) .none kV2 doc2 pm2 an2 cdv2 ct2), osl2⟩)
    (d2 : PySem.W.codeIn K cdv2 "Drawing.tips" = true)
    (k2 : PySem.W.keepIn K (.ref f2) = true)
    (e2 : PySem.W.isFn K (.ref f2) = true)
    (a3 : PySem.W.findIn K (.ref C) "teeth" = some (some (.ref f3)))
    (l3 : K.lookup f3 = some ⟨oc3, od3, .func (PySem.W.fnOf "teeth" "Drawing.teeth" (defArgs s3) (defBody s3) (defScope s3) .none kV3 doc3 pm3 an3 cdv3 ct3), osl3⟩)
    (d3 : PySem.W.codeIn K cdv3 "Drawing.teeth" = true)
    (k3 : PySem.W.keepIn K (.ref f3) = true)
    (e3 : PySem.W.isFn K (.ref f3) = true)
    (a4 : PySem.W.findIn K (.ref C) "is_closed" = some (some (.ref f4)))
    (l4 : K.lookup f4 = some ⟨oc4, od4, .func (PySem.W.fnOf "is_closed" "Drawing.is_closed" (defArgs s4) (defBody s4) (defScope s4) .none kV4 doc4 pm4 an4 cdv4 ct4), osl4⟩)
    (d4 : PySem.W.codeIn K cdv4 "Drawing.is_closed" = true)
    (k4 : PySem.W.keepIn K (.ref f4) = true)
    (e4 : PySem.W.isFn K (.ref f4) = true)
    (a5 : PySem.W.findIn K (.ref C) "undo" = some (some (.ref f5)))
    (l5 : K.lookup f5 = some ⟨oc5, od5, .func (PySem.W.fnOf "undo" "Drawing.undo" (defArgs s5) (defBody s5) (defScope s5) .none kV5 doc5 pm5 an5 cdv5 ct5), osl5⟩)
    (d5 : PySem.W.codeIn K cdv5 "Drawing.undo" = true)
    (k5 : PySem.W.keepIn K (.ref f5) = true)
    (e5 : PySem.W.isFn K (.ref f5) = true)
    (a6 : PySem.W.findIn K (.ref C) "__len__" = some (some (.ref f6)))
    (l6 : K.lookup f6 = some ⟨oc6, od6, .func (PySem.W.fnOf "__len__" "Drawing.__len__" (defArgs s6) (defBody s6) (defScope s6) .none kV6 doc6 pm6 an6 cdv6 ct6), osl6⟩)
    (d6 : PySem.W.codeIn K cdv6 "Drawing.__len__" = true)
    (k6 : PySem.W.keepIn K (.ref f6) = true)
    (e6 : PySem.W.isFn K (.ref f6) = true)
    (mk : PySem.W.makesIn K C = true)
    (kc : PySem.W.keepIn K (.ref C) = true) :
    ∃ C, DrwC K mg C ∧ InitAt K C "__init__" "Drawing.__init__" s0 ∧ MethAt K C "roll" "Drawing.roll" s1 ∧ MethAt K C "tips" "Drawing.tips" s2 ∧ MethAt K C "teeth" "Drawing.teeth" s3 ∧ MethAt K C "is_closed" "Drawing.is_closed" s4 ∧ MethAt K C "undo" "Drawing.undo" s5 ∧ MethAt K C "__len__" "Drawing.__len__" s6 :=
  ⟨C, drwC_mk X G a c1 c2 c3 c4 n1 n2 n3 n4, initAt_mk a0 l0 d0 k0 e0 mk kc, methAt_mk a1 l1 d1 k1 e1, methAt_mk a2 l2 d2 k2 e2, methAt_mk a3 l3 d3 k3 e3, methAt_mk a4 l4 d4 k4 e4, methAt_mk a5 l5 d5 k5 e5, methAt_mk a6 l6 d6 k6 e6⟩
end WC

/-! loops by what holds at each turn; drawings as the laws use them -/
namespace WC
open PySem L2
open Evl (Ex)
section
variable {X : Cx} {E : XK} {ρ ρ0 : REnv} {M M0 : List MO} {tg iter : Expr} {body : List Stmt} {pos : Pos}
theorem sd_forI {n : Nat} {item : Nat → PyData} {js : List Nat} (I : Nat → REnv → List MO → Prop) (hp : PassesOwn (model X.prog X.w) X.A X.env X.xe) (it : ITR X ρ0 M tg iter n item M0) (hsub : Sub ρ0 ρ) (h0 : I 0 ρ0 M0)
    (hb : ∀ i ρ M, i < n → I i ρ M → ∃ ρt ρ2 ρ' M', TD X ρ tg (item i) js ρt ∧ SD X E ρt M body (.nx ρ2 M') ∧ Sub ρ' ρ2 ∧ I (i + 1) ρ' M') (hc : X.calm = true := by rfl) (hs : ∀ x, foldedSetIterable iter X.env x = pure x := by intro _; rfl) :
    S1P X E ρ M (.For tg iter body [] pos) (I n) := by
  classical
  let nxt : Nat → REnv × List MO → REnv × List MO := fun i p => if h : i < n ∧ I i p.1 p.2 then
    ((hb i p.1 p.2 h.1 h.2).choose_spec.choose_spec.choose, (hb i p.1 p.2 h.1 h.2).choose_spec.choose_spec.choose_spec.choose) else p
  let seq : Nat → REnv × List MO := fun i => Nat.rec (ρ0, M0) (fun i p => nxt i p) i
  have s0 : seq 0 = (ρ0, M0) := rfl
  have sS : ∀ i, seq (i + 1) = nxt i (seq i) := fun i => rfl
  have inv : ∀ i, i ≤ n → I i (seq i).1 (seq i).2 := by
    intro i
    induction i with
    | zero => intro _; exact h0
    | succ i ih =>
      intro hi
      have h1 := ih (by omega)
      rw [sS]
      show I (i + 1) (nxt i (seq i)).1 (nxt i (seq i)).2
      have hh : i < n ∧ I i (seq i).1 (seq i).2 := ⟨by omega, h1⟩
      simp only [nxt]
      rw [dif_pos hh]
      exact (hb i _ _ hh.1 hh.2).choose_spec.choose_spec.choose_spec.choose_spec.2.2.2
  have step : ∀ i, (hi : i < n) → ∃ ρt ρ2, TD X (seq i).1 tg (item i) js ρt ∧ SD X E ρt (seq i).2 body (.nx ρ2 (seq (i + 1)).2) ∧ Sub (seq (i + 1)).1 ρ2 := fun i hi => by
    have hh : i < n ∧ I i (seq i).1 (seq i).2 := ⟨hi, inv i (by omega)⟩
    have e : seq (i + 1) = ((hb i (seq i).1 (seq i).2 hh.1 hh.2).choose_spec.choose_spec.choose, (hb i (seq i).1 (seq i).2 hh.1 hh.2).choose_spec.choose_spec.choose_spec.choose) := by
      rw [sS]; simp only [nxt]; rw [dif_pos hh]
    have sp := (hb i (seq i).1 (seq i).2 hh.1 hh.2).choose_spec.choose_spec.choose_spec.choose_spec
    rw [e]
    exact ⟨_, _, sp.1, sp.2.1, sp.2.2.1⟩
  let ρt : Nat → REnv := fun i => if h : i < n then (step i h).choose else []
  have hρt : ∀ i (hi : i < n), ρt i = (step i hi).choose := fun i hi => by simp only [ρt]; rw [dif_pos hi]
  have main : S1 X E ρ M (.For tg iter body [] pos) (.nx (seq n).1 (seq n).2) := sd_forW (fun i => (seq i).1) ρt (fun i => (seq i).2) hp it hsub (fun i hi => by rw [hρt i hi]; exact (step i hi).choose_spec.choose_spec.1)
    (fun i hi => by rw [hρt i hi]; exact ⟨_, (step i hi).choose_spec.choose_spec.2.1, (step i hi).choose_spec.choose_spec.2.2⟩) hc hs
  exact fun As σ F H hM hE D q => main As σ F H hM hE D (q _ _ (inv n (Nat.le_refl _)))
/-- a, b = e1, e2, the first a thing of a kind -/
theorem sd_parP {i j : Nat} {x y : Str} {e1 e2 : Expr} {px py pt : Pos} {kt k2 pt2} {PS : Slot → List MO → Prop} {r2 : Slot} (hN : X.N.Nodup) (h1 : EDP X ρ M e1 PS) (h2 : ∀ r M', PS r M' → ED X ρ M' e2 r2 M') (hc : X.calm = true := by rfl) (hi : X.N[i]? = some x := by rfl) (hj : X.N[j]? = some y := by rfl) (hij : i ≠ j := by decide)
    (hx : X.env.scope.names.lookup x = some .local := by rfl) (hy : X.env.scope.names.lookup y = some .local := by rfl)
    (hw : swappedStores [.Tuple [.Name x px, .Name y py] kt pt] (.Tuple [e1, e2] k2 pt2) X.env = pure (some [x, y]) := by rfl)
    (hs : swapsWithSole [.Tuple [.Name x px, .Name y py] kt pt] (.Tuple [e1, e2] k2 pt2) pos.line X.env = pure false := by rfl)
    (hs1 : starEach (e1 :: [e2]) X.env = (false, eval e1 X.env) :: starEach [e2] X.env := by rfl) (hs2 : starEach (e2 :: []) X.env = (false, eval e2 X.env) :: starEach [] X.env := by rfl) :
    S1P X E ρ M (.Assign [.Tuple [.Name x px, .Name y py] kt pt] (.Tuple [e1, e2] k2 pt2) pos) (fun ρ' M' => ∃ r, PS r M' ∧ ρ' = (ρ.set i (some r)).set j (some r2)) := fun As σ F H hM hE D q =>
  ⟨_, ps_par hc hN hi hj hij hx hy (pa_cons (pe_w X e1) (pa_cons (pe_w X e2) pa_nil hs2) hs1) hw hs, h1 As σ F H hM hE _ fun r M' v As1 F1 H1 p1 s1 m1 o1 => h2 r M' p1 As1 σ F1 H1 m1 (hE.step s1) _ fun v2 As2 F2 H2 s2 m2 o2 =>
    ⟨_, _, rfl, q _ M' ⟨r, p1, rfl⟩ As2 _ F2 H2 (s1.trans s2) m2 ((((hE.step s1).step s2).set (o1.step s2) i).set o2 j)⟩⟩
end
/-! ### the methods, as the laws call them -/
section
variable {X : Cx} {ρ : REnv} {M : List MO} {o e : Expr} {c : Cl} {C : Addr} {w : DA} {g : PyData} {st : Int} {S P : List Int} {pos apos p : Pos} {Pre : List MO} {k : Nat}
theorem ed_congr {M1 M' M1' : List MO} {r : Slot} (h : ED X ρ M e r M') (h1 : M = M1) (h2 : M' = M1') : ED X ρ M1 e r M1' := by subst h1 h2; exact h
theorem obj_of (x : Str) (hx : x = "roll" ∨ x = "tips" ∨ x = "teeth" ∨ x = "is_closed" ∨ x = "undo") (ho : ED X ρ (Pre ++ drwM C w g st S P) o (.own Pre.length) (Pre ++ drwM C w g st S P)) : ObjAt X ρ (Pre ++ drwM C w g st S P ++ []) o C x (Pre.length + 0) :=
  objAt_drw x hx (by rw [List.append_nil]; exact ho)
theorem ed_rollD {T : List Int} {z : Int} {m : Nat} {pl : Sem Bool} (D : DrwC X.K X.mg C) (G : FnM X.prog X.w X.K X.mg X.base C "roll" k ["self", "step"] (Sig_roll c C)) (hr : Room k X.A) (ho : ED X ρ (Pre ++ drwM C w g st (T ++ [z]) P) o (.own Pre.length) (Pre ++ drwM C w g st (T ++ [z]) P)) (he : ED X ρ (Pre ++ drwM C w g st (T ++ [z]) P) e (.d (.int (m : Nat))) (Pre ++ drwM C w g st (T ++ [z]) P)) (hm : m ≤ 1000000) (hT : T.length < 90000) (hP : P.length < 90000)
    (hst : starEach (e :: []) X.env = (false, eval e X.env) :: starEach [] X.env := by rfl)
    (ht : eval (.Call (.Attribute o "roll" apos) [e] [] pos) X.env = (do
      let ov ← eval o X.env
      standAt apos.atName
      let (f, first) ← holding [ov] (getMethod ov "roll" pl)
      callWith pos f first (backTo pos (starEach [e] X.env)) (backToKw pos (keywordEach [] X.env))) := by rfl) :
    ED X ρ (Pre ++ drwM C w g st (T ++ [z]) P) (.Call (.Attribute o "roll" apos) [e] [] pos) (.d (.int (z + m))) (Pre ++ drwM C w g st (T ++ [z] ++ [z + m]) (P ++ [z])) :=
  ed_congr (ed_meth (pl := pl) D.cl G hr Pre (drwM C w g st (T ++ [z]) P) [] 0 [.d (.int (m : Nat))] _ (obj_of "roll" (.inl rfl) ho) (by rw [List.append_nil]; exact ad_cons he ad_nil hst) ⟨w, g, st, T, P, z, _, hT, hP, rfl, rfl, .inl ⟨m, hm, rfl, rfl, rfl⟩⟩ rfl hst rfl ht) (by rw [List.append_nil]) (by rw [List.append_nil])
theorem ed_undoD {T : List Int} {z y u : Int} {pl : Sem Bool} (D : DrwC X.K X.mg C) (G : FnM X.prog X.w X.K X.mg X.base C "undo" k ["self"] (Sig_undo c C)) (hr : Room k X.A) (ho : ED X ρ (Pre ++ drwM C w g st (T ++ [z] ++ [y]) (P ++ [u])) o (.own Pre.length) (Pre ++ drwM C w g st (T ++ [z] ++ [y]) (P ++ [u])))
    (ht : eval (.Call (.Attribute o "undo" apos) [] [] pos) X.env = (do
      let ov ← eval o X.env
      standAt apos.atName
      let (f, first) ← holding [ov] (getMethod ov "undo" pl)
      callWith pos f first (backTo pos (starEach [] X.env)) (backToKw pos (keywordEach [] X.env))) := by rfl) :
    ED X ρ (Pre ++ drwM C w g st (T ++ [z] ++ [y]) (P ++ [u])) (.Call (.Attribute o "undo" apos) [] [] pos) (.d (.int z)) (Pre ++ drwM C w g st (T ++ [z]) P) :=
  ed_congr (ed_meth0 (pl := pl) D.cl G hr Pre (drwM C w g st (T ++ [z] ++ [y]) (P ++ [u])) [] 0 _ (obj_of "undo" (by simp) ho) ⟨w, g, st, T, P, rfl, .inl ⟨z, y, u, rfl, rfl, rfl⟩⟩ rfl ht) (by rw [List.append_nil]) (by rw [List.append_nil])
variable {N n : Nat} {sd : Str} {t z : Nat} {T : List Int}
theorem ed_tipsD {pl : Sem Bool} (D : DrwC X.K X.mg C) (G : FnM X.prog X.w X.K X.mg X.base C "tips" k ["self"] (Sig_dtips C)) (hr : Room k X.A) (h1 : 0 < N ∧ N ≤ 1000 ∧ 0 < n ∧ n ≤ 1000) (hz : z / n + 1 ≤ 80000) (ho : ED X ρ (Pre ++ drwM C w (gD N n sd) (t : Nat) (T ++ [(z : Int)]) P) o (.own Pre.length) (Pre ++ drwM C w (gD N n sd) (t : Nat) (T ++ [(z : Int)]) P))
    (ht : eval (.Call (.Attribute o "tips" apos) [] [] pos) X.env = (do
      let ov ← eval o X.env
      standAt apos.atName
      let (f, first) ← holding [ov] (getMethod ov "tips" pl)
      callWith pos f first (backTo pos (starEach [] X.env)) (backToKw pos (keywordEach [] X.env))) := by rfl) :
    ED X ρ (Pre ++ drwM C w (gD N n sd) (t : Nat) (T ++ [(z : Int)]) P) (.Call (.Attribute o "tips" apos) [] [] pos) (.own (Pre ++ drwM C w (gD N n sd) (t : Nat) (T ++ [(z : Int)]) P).length) (Pre ++ drwM C w (gD N n sd) (t : Nat) (T ++ [(z : Int)]) P ++ [.lst (intsD (tipsN N n t (z / n + 1)))]) := by
  have := ed_methO0 (pl := pl) (apos := apos) (pos := pos) D.cl G hr Pre (drwM C w (gD N n sd) (t : Nat) (T ++ [(z : Int)]) P) [] 0 _ (obj_of "tips" (by simp) ho) ⟨w, N, n, sd, t, T, P, z, h1.1, h1.2.1, h1.2.2.1, h1.2.2.2, hz, rfl, rfl, rfl, rfl⟩ rfl ht
  rw [List.append_nil] at this
  exact this
theorem ed_teethD {pl : Sem Bool} (D : DrwC X.K X.mg C) (G : FnM X.prog X.w X.K X.mg X.base C "teeth" k ["self"] (Sig_teeth C)) (hr : Room k X.A) (h1 : 0 < N ∧ 0 < n) (ho : ED X ρ (Pre ++ drwM C w (gD N n sd) (t : Nat) (T ++ [(z : Int)]) P) o (.own Pre.length) (Pre ++ drwM C w (gD N n sd) (t : Nat) (T ++ [(z : Int)]) P))
    (ht : eval (.Call (.Attribute o "teeth" apos) [] [] pos) X.env = (do
      let ov ← eval o X.env
      standAt apos.atName
      let (f, first) ← holding [ov] (getMethod ov "teeth" pl)
      callWith pos f first (backTo pos (starEach [] X.env)) (backToKw pos (keywordEach [] X.env))) := by rfl) :
    ED X ρ (Pre ++ drwM C w (gD N n sd) (t : Nat) (T ++ [(z : Int)]) P) (.Call (.Attribute o "teeth" apos) [] [] pos) (.d (.tuple [.int ((t + z) % N : Nat), .int (z % n : Nat)])) (Pre ++ drwM C w (gD N n sd) (t : Nat) (T ++ [(z : Int)]) P) :=
  ed_congr (ed_meth0 (pl := pl) D.cl G hr Pre (drwM C w (gD N n sd) (t : Nat) (T ++ [(z : Int)]) P) [] 0 _ (obj_of "teeth" (by simp) ho) ⟨w, N, n, sd, t, T, P, z, h1.1, h1.2, rfl, rfl, rfl, rfl⟩ rfl ht) (by rw [List.append_nil]) (by rw [List.append_nil])
theorem ed_closedD {pl : Sem Bool} (D : DrwC X.K X.mg C) (G : FnM X.prog X.w X.K X.mg X.base C "is_closed" k ["self"] (Sig_closed C)) (hr : Room k X.A) (h1 : 0 < N ∧ N ≤ 1000 ∧ 0 < n ∧ n ≤ 1000) (ho : ED X ρ (Pre ++ drwM C w (gD N n sd) (t : Nat) (T ++ [(z : Int)]) P) o (.own Pre.length) (Pre ++ drwM C w (gD N n sd) (t : Nat) (T ++ [(z : Int)]) P))
    (ht : eval (.Call (.Attribute o "is_closed" apos) [] [] pos) X.env = (do
      let ov ← eval o X.env
      standAt apos.atName
      let (f, first) ← holding [ov] (getMethod ov "is_closed" pl)
      callWith pos f first (backTo pos (starEach [] X.env)) (backToKw pos (keywordEach [] X.env))) := by rfl) :
    ED X ρ (Pre ++ drwM C w (gD N n sd) (t : Nat) (T ++ [(z : Int)]) P) (.Call (.Attribute o "is_closed" apos) [] [] pos) (.d (.bool (decide (((lenN N n : Nat) : Int) ≤ (z : Int))))) (Pre ++ drwM C w (gD N n sd) (t : Nat) (T ++ [(z : Int)]) P) :=
  ed_congr (ed_meth0 (pl := pl) D.cl G hr Pre (drwM C w (gD N n sd) (t : Nat) (T ++ [(z : Int)]) P) [] 0 _ (obj_of "is_closed" (by simp) ho) ⟨w, N, n, sd, t, T, P, z, h1.1, h1.2.1, h1.2.2.1, h1.2.2.2, rfl, rfl, rfl, rfl⟩ rfl ht) (by rw [List.append_nil]) (by rw [List.append_nil])
theorem ed_lenD (G : FnM X.prog X.w X.K X.mg X.base C "__len__" k ["self"] (Sig_dlen C)) (hr : Room (k + 1) X.A) (hm : X.mg "len" = none) (hn : P.length < 1000000) (ho : ED X ρ (Pre ++ drwM C w g st S P) o (.own Pre.length) (Pre ++ drwM C w g st S P))
    (hg : Gl X "len" := by rfl) (hst : starEach (o :: []) X.env = (false, eval o X.env) :: starEach [] X.env := by rfl) :
    ED X ρ (Pre ++ drwM C w g st S P) (.Call (.Name "len" p) [o] [] pos) (.d (.int (P.length : Nat))) (Pre ++ drwM C w g st S P) := by
  have := ed_lenDrw (p := p) (pos := pos) (Post := []) G hr hm hn ⟨w, g, st, S, P, rfl, rfl, rfl, rfl⟩ (by rw [List.append_nil]; exact ho) hg hst
  rw [List.append_nil] at this
  exact this
end
section
variable {X : Cx} {ρ : REnv} {M : List MO} {e : Expr} {es : List Expr} {x : Str} {k : Nat} {ps : List Str} {Sig : SigO} {d : PyData} {p pos : Pos}
theorem ed_callGL (G : FnG X.prog X.w X.K X.mg X.base x k ps Sig) (hr : Room k X.A) (Pre Mi : List MO) (rs : List Slot) (M' : List MO) (ha : AD X ρ M (e :: es) (rs.map (shS Pre.length)) (Pre ++ Mi)) (hs : Sig rs Mi (.val d) M') (hj : ownsLt Mi.length rs = true := by rfl) (hg : Gl X x := by rfl)
    (hdb : (x == ("__debug__" : Str)) = false := by decide) (he : starEach (e :: es) X.env = (false, eval e X.env) :: starEach es X.env := by rfl) (hpl : (backTo pos (starEach es X.env)).any (·.1) = false := by rfl) :
    ED X ρ M (.Call (.Name x p) (e :: es) [] pos) (.d d) (Pre ++ M') := by
  have := ed_callG (p := p) (pos := pos) G hr Pre Mi [] rs M' (by rw [List.append_nil]; exact ha) hs hj hg hdb he hpl
  rw [List.append_nil] at this
  exact this
end
theorem cut_init (ds : List PyData) (x : PyData) : cutD (ds ++ [x]) none (some (-1)) = ds := by
  unfold cutD
  have h1 : HT.sIx (ds ++ [x]).length 0 none = 0 := rfl
  have h2 : HT.sIx (ds ++ [x]).length (ds ++ [x]).length (some (-1)) = ds.length := by
    simp [HT.sIx]
    omega
  rw [h1, h2]
  simp
theorem last2_at (T : List Int) (y z : Int) : atI ((T ++ [y] ++ [z]).map PyData.int) (-2) = some (.int y) := by
  have e : ixN ((T ++ [y] ++ [z]).map PyData.int).length (-2) = some T.length := by
    unfold ixN
    rw [if_neg (by decide), if_pos (by simp; omega)]
    simp
    omega
  unfold atI
  rw [e]
  simp
/-- shown.roll(step) or shown.undo(), exceptions told -/
def Sig_law_call9 (C : Addr) : SigO := fun rs M r M' => ∃ (w : DA) (g : PyData) (st : Int) (T P : List Int) (z : Int) (kd : Int) (v : PyData), T.length < 90000 ∧ P.length < 90000 ∧ rs = [.own 0, .d (.int kd), .d v] ∧ M = drwM C w g st (T ++ [z]) P ∧
  ((∃ k : Nat, kd = 0 ∧ k ≤ 1000000 ∧ v = .int (k : Nat) ∧ r = vI (z + k) ∧ M' = drwM C w g st (T ++ [z] ++ [z + k]) (P ++ [z])) ∨ (kd = 0 ∧ isIntB v 0 1000000 = false ∧ r = .val (.str "number") ∧ M' = M) ∨
   (∃ T' y P' u, kd = 1 ∧ T = T' ++ [y] ∧ P = P' ++ [u] ∧ r = vI y ∧ M' = drwM C w g st (T' ++ [y]) P') ∨ (kd = 1 ∧ P = [] ∧ r = .val (.str "none") ∧ M' = M))
/-- behind the last return nothing is said of what is owned -/
theorem sd_endR {X : Cx} {E : XK} {ρ : REnv} {M M1 : List MO} {sts : List Stmt} {d : PyData} (h : SD X E ρ M sts (.rt (.d d) M1)) (k : Nat) (hk : k = M.length := by rfl) (hl : M.length ≤ M1.length) : SD X E ρ M sts (.rt (.d d) (List.replicate k .gone)) := fun As σ F H hM hE D q =>
  h As σ F H hM hE D fun v As' F' H' s m o => by
    subst hk
    rw [← List.take_append_drop M.length M1] at m
    obtain ⟨s2, m2⟩ := dropM s m (by rw [hM.len, List.length_take]; omega)
    refine q v As F' H' s2 ⟨m2.ex, m2.nd, by rw [hM.len]; simp, m2.ne, fun j a o h1 h2 h3 => ?_, fun j a o h1 h2 => ?_⟩ o
    · obtain ⟨hlt, he⟩ := List.getElem?_eq_some_iff.mp h2
      simp at he
      exact absurd he.symm h3
    · obtain ⟨hlt, he⟩ := List.getElem?_eq_some_iff.mp h2
      simp at he
      subst he; trivial
theorem gd_number : Gd 0 (.str "number") := Gd.str (by decide +kernel)
end WC

/-! lists of lists that change; items set; arcs over spaces -/
namespace WC
open PySem L2
open Evl (Ex)
section
variable {X : Cx} {E : XK} {ρ : REnv} {M M1 : List MO} {tg iter e a : Expr} {n : Nat} {item : Nat → PyData} {pos lpos tpos p : Pos} {own : List (Str × Nat)} {scope : Scope} {r : Slot}
def tNilA : TA := fun _ H Q => Q [] H
/-- numbers = [[] for .. in ..] -/
theorem sd_setLcN (hN : X.N.Nodup) (own : List (Str × Nat)) (ρt : Nat → REnv) (js : List Nat) {i0 : Nat} {y : Str} {py spos : Pos} (it : ITR X ρ M tg iter n item M1)
    (ht : ∀ i, i < n → ∀ s H C cl fp, TD (Blk X scope s H C cl fp) (wipeR ρ (own.map (·.2))) tg (item i) js (ρt i)) (hn : n ≤ 90000)
    (hsw : swapsWith (.ListComp (.List [] lpos) [⟨tg, iter, [], 0⟩] scope pos) (some (.Name y py)) spos.line X.env = pure true)
    (ok : blkC X.N X.env.scope scope own = true := by first | decide +kernel | (dsimp only [cxOf, PyProof.Rows.envOfC, Cx.blk, PySem.compEnvC]; decide +kernel) | rfl) (hj : ∀ j ∈ js, j ∈ own.map (·.2) := by decide) (hc : X.calm = true := by rfl) (hs : ∀ x, foldedSetIterable iter X.env x = pure x := by intro _; rfl) (hy : X.N[i0]? = some y := by rfl) (hyl : X.env.scope.names.lookup y = some .local := by rfl) :
    S1P X E ρ M (.Assign [.Name y py] (.ListComp (.List [] lpos) [⟨tg, iter, [], 0⟩] scope pos) spos) (fun ρ' M' => ∃ (bs : List Addr) (D : Addr), bs.length = n ∧ ρ' = ρ.set i0 (some (.own (M1.length + n))) ∧ M' = M1 ++ bs.map (fun b => .pin b HO.lst []) ++ [.pin D (fun _ => .lst (bs.map V.ref)) []]) := fun As σ F H hM hE Dn q => by
  refine ⟨_, ps_setLc (wi := wI X tg iter) (g := uG X scope tg) (tt := uT X scope []) (te := uE X scope (.List [] lpos)) hc hN hy hyl hsw (pi_w X tg iter) (blkOk_by ok) (fun s H C cl fp => ⟨fun pins s1 σ H1 v u Q I r h => (pg_w _ tg).run pins s1 σ H1 v u Q I r (h s H C cl fp)⟩) (fun s H C cl fp => ⟨fun pins s1 σ H1 Q I h => (pts_w _ []).run pins s1 σ H1 Q I (h s H C cl fp)⟩)
      (fun s H C cl fp => ⟨fun pins s1 σ H1 Q I h => (pe_w _ _).run pins s1 σ H1 Q I (h s H C cl fp)⟩) hs, ?_⟩
  refine it As σ F H hM hE _ fun J As0 F0 H0 s0 m0 W L hL => ?_
  have LA : L ∉ As0 := fun z => m0.ne L z hL
  have FL : F0 L = none := Evl.fresh_back m0.ex hL
  refine ⟨fun i m H' => m = n - i ∧ i ≤ n ∧ ∃ F' bs, bs.length = i ∧ Ex F0 F' ∧ (∀ x o, x ∉ As0 → H0 x = some o → H' x = some o) ∧ (∀ x, H0 x ≠ none → H' x ≠ none) ∧ (∀ x, x ∉ As0 → F0 x = none → H0 x ≠ none → F' x = none) ∧ RepM (As0 ++ bs) F' H' (M1 ++ bs.map (fun b => .pin b HO.lst [])) ∧ (∀ b ∈ bs, H0 b = none) ∧ F' L = none ∧ L ∉ bs ∧ H' L = some (.lst (bs.map V.ref)), ⟨n, by omega, by omega, F0, [], rfl, Ex.refl F0, ?_, ?_, fun x _ a _ => a, ?_, by simp, FL, by simp, upd_same⟩, ?_⟩
  · exact fun x o _ h => Evl.Ex.new hL x o h
  · intro x hx
    rw [upd_ne (fun z => hx (by rw [z]; exact hL))]; exact hx
  · simpa using m0.grow (Ex.refl F0) (Evl.Ex.new hL) (fun a u e => Evl.Ex.new hL a u (m0.ex a u e)) fun x a _ => a
  · rintro i m H' ⟨rfl, hi, F1, bs, hbl, fe, keep, ne, cap, m1, hb0, L1, Lb, hx⟩
    have LAb : L ∉ As0 ++ bs := fun z => by
      rcases List.mem_append.mp z with z | z
      · exact LA z
      · exact Lb z
    by_cases hlt : i < n
    · refine .inr ⟨W.go F1 H' i fe m1.ex hlt, fun H'' => ∃ F' bs, bs.length = i + 1 ∧ Ex F0 F' ∧ (∀ x o, x ∉ As0 → H0 x = some o → H'' x = some o) ∧ (∀ x, H0 x ≠ none → H'' x ≠ none) ∧ (∀ x, x ∉ As0 → F0 x = none → H0 x ≠ none → F' x = none) ∧ RepM (As0 ++ bs) F' H'' (M1 ++ bs.map (fun b => .pin b HO.lst [])) ∧ (∀ b ∈ bs, H0 b = none) ∧ F' L = none ∧ L ∉ bs ∧ H'' L = some (.lst (bs.map V.ref)),
        fun H'' z => ⟨n - (i + 1), by omega, rfl, hlt, z⟩, fun xv H2 y => ?_⟩
      obtain ⟨F2, s2, m2, dv, k2⟩ := walk_turn W fe m1 hlt y
      have eW : RepE As0 F2 (wipe σ (own.map (·.2))) (wipeR ρ (own.map (·.2))) := by
        have e0 : RepE As0 F0 σ ρ := hE.step s0
        have e1 : RepE As0 F2 σ ρ := ⟨e0.len, fun i r h => by
          obtain ⟨v, a, b⟩ := e0.env i r h
          refine ⟨v, a, ?_⟩
          cases r with
          | d x => exact Dv.mono (fe.trans s2.fe) b
          | own j => exact b
          | exc D =>
            obtain ⟨z, h1, h2⟩ := b
            exact ⟨z, h1, (fe.trans s2.fe) _ _ h2⟩⟩
        exact wipe_rep e1 _
      have L2' : H2 L = some (.lst (bs.map V.ref)) := by rw [k2 L (by rw [hx]; simp)]; exact hx
      have FL2 : F2 L = none := s2.cap L LAb L1 (by rw [hx]; simp)
      refine fun s H C cl fp => ht i hlt s H C cl fp As0 _ F2 H2 xv eW m2.ex dv _ fun σ2 e2 l2 o2 => ⟨wipe_eq l2 hj o2, ?_⟩
      refine fun s H C cl fp => ⟨_, pts_nil, ?_⟩
      unfold tYes
      dsimp only
      rw [if_pos rfl]
      refine fun s H C cl fp => ⟨_, pe_lst pa_nil, Nat.zero_le _, fun b hb => ⟨bs.map V.ref, ?_, ?_, F2, bs ++ [b], by simp [hbl], fe.trans s2.fe, ?_, ?_, ?_, ?_, ?_, FL2, ?_, ?_⟩⟩
      · rw [upd_ne (ne_of_none L2' hb)]; exact L2'
      · rw [List.length_map, hbl]; exact Evl.sz_lt (by omega)
      · intro x o a h
        have h1 : H2 x = some o := by rw [k2 x (by rw [keep x o a h]; simp)]; exact keep x o a h
        rw [upd_ne (ne_of_none h hL), upd_ne (ne_of_none h1 hb)]; exact h1
      · intro x h
        by_cases z : x = L
        · rw [z, upd_same]; simp
        · rw [upd_ne z]
          by_cases z2 : x = b
          · rw [z2, upd_same]; simp
          · rw [upd_ne z2]; exact s2.ne x (ne x h)
      · exact fun x a h h2 => s2.cap x (fun z => by
          rcases List.mem_append.mp z with z | z
          · exact a z
          · exact h2 (hb0 x z)) (cap x a h h2) (ne x h2)
      · obtain ⟨s3, m3⟩ := newM m2 hb (xs := []) (ds := []) .nil
        have nbL : b ≠ L := fun z => by rw [z, L2'] at hb; cases hb
        have lenE : (As0 ++ bs ++ [b]).length = (M1 ++ bs.map (fun b => MO.pin b HO.lst []) ++ [MO.pin b HO.lst []]).length := by have := m3.len; simpa using this
        have at_b : ∀ j (a : Addr), (As0 ++ bs ++ [b])[j]? = some a → (M1 ++ bs.map (fun b => MO.pin b HO.lst [])).length ≤ j → a = b ∧ j = (M1 ++ bs.map (fun b => MO.pin b HO.lst [])).length := fun j a h1 h2 => by
          have hl := m2.len
          rw [List.getElem?_append_right (by rw [hl]; exact h2)] at h1
          have := (List.getElem?_eq_some_iff.mp h1).1
          simp at this
          have e : j = (M1 ++ bs.map (fun b => MO.pin b HO.lst [])).length := by rw [← hl]; simp; rw [← hl] at h2; simp at h2; omega
          subst e
          rw [← hl, Nat.sub_self] at h1
          simp at h1
          exact ⟨h1.symm, rfl⟩
        have m4 : RepM (As0 ++ bs ++ [b]) F2 (upd H2 b (.lst [])) (M1 ++ bs.map (fun b => .pin b HO.lst []) ++ [.pin b HO.lst []]) := by
          refine ⟨m3.ex, m3.nd, lenE, m3.ne, fun j a o h1 h2 h3 => ?_, fun j a o h1 h2 => ?_⟩
          · by_cases hj' : j < (M1 ++ bs.map (fun b => MO.pin b HO.lst [])).length
            · rw [List.getElem?_append_left hj'] at h2
              exact m3.fr j a o h1 (by rw [List.getElem?_append_left hj']; exact h2) h3
            · obtain ⟨rfl, rfl⟩ := at_b j a h1 (by omega)
              exact m3.fr _ a (.lst []) h1 (by simp) (by simp)
          · by_cases hj' : j < (M1 ++ bs.map (fun b => MO.pin b HO.lst [])).length
            · rw [List.getElem?_append_left hj'] at h2
              exact m3.mem j a o h1 (by rw [List.getElem?_append_left hj']; exact h2)
            · obtain ⟨rfl, rfl⟩ := at_b j a h1 (by omega)
              simp at h2; subst h2
              exact ⟨rfl, [], upd_same, .nil⟩
        have LA2 : L ∉ As0 ++ bs ++ [b] := fun z => by
          rcases List.mem_append.mp z with z | z
          · exact LAb z
          · simp at z; exact nbL z.symm
        have m5 := m4.nd
        rw [show As0 ++ (bs ++ [b]) = As0 ++ bs ++ [b] by simp, show M1 ++ (bs ++ [b]).map (fun b => MO.pin b HO.lst []) = M1 ++ bs.map (fun b => MO.pin b HO.lst []) ++ [MO.pin b HO.lst []] by simp]
        refine ⟨fun x u h => ?_, m4.nd, m4.len, fun x h => ?_, m4.fr, fun j x u h1 h2 => (m4.mem j x u h1 h2).keep (fun w hw => ?_) (Ex.refl F2)⟩
        · rw [upd_ne (ne_of_none h FL2)]; exact m4.ex x u h
        · rw [upd_ne (fun z => LA2 (by rw [← z]; exact h))]; exact m4.ne x h
        · rw [upd_ne (fun z => LA2 (by rw [← z]; exact List.mem_of_getElem? h1))]; exact hw
      · intro x hx'
        rcases List.mem_append.mp hx' with z | z
        · exact hb0 x z
        · simp at z; subst z
          cases q0 : H0 x with
          | none => rfl
          | some o => exact absurd hb (s2.ne x (ne x (by rw [q0]; simp)))
      · intro z
        rcases List.mem_append.mp z with z | z
        · exact Lb z
        · simp at z; rw [← z, L2'] at hb; cases hb
      · rw [upd_same]; simp
    · have e : i = n := by omega
      subst e
      subst hbl
      refine .inl ⟨W.stop F1 H' _ fe m1.ex (Nat.le_refl _), q _ _ ⟨bs, L, rfl, rfl, rfl⟩ (As0 ++ bs ++ [L]) _ F1 H' ?_ ?_ ?_⟩
      · refine s0.trans ⟨fe, keep, ne, cap, bs ++ [L], by simp, fun x hx' => ?_⟩
        rcases List.mem_append.mp hx' with z | z
        · exact hb0 x z
        · simp at z; rw [z]; exact hL
      · refine ⟨m1.ex, List.nodup_append.mpr ⟨m1.nd, by simp, fun x hx' y hy' e => LAb (by simp at hy'; rw [← hy', ← e]; exact hx')⟩, by have := m1.len; simpa using this, fun x hx' => ?_, fun j x u h1 h2 h3 => ?_, fun j x u h1 h2 => ?_⟩
        · rcases List.mem_append.mp hx' with z | z
          · exact m1.ne x z
          · simp at z; rw [z, hx]; simp
        · by_cases hj' : j < (As0 ++ bs).length
          · rw [List.getElem?_append_left hj'] at h1
            rw [List.getElem?_append_left (by rw [← m1.len]; exact hj')] at h2
            exact m1.fr j x u h1 h2 h3
          · have e : j = (As0 ++ bs).length := by
              have := (List.getElem?_eq_some_iff.mp h1).1
              simp at this ⊢; simp at hj'; omega
            subst e
            simp only [List.getElem?_concat_length, Option.some.injEq] at h1
            subst h1; exact L1
        · by_cases hj' : j < (As0 ++ bs).length
          · rw [List.getElem?_append_left hj'] at h1
            rw [List.getElem?_append_left (by rw [← m1.len]; exact hj')] at h2
            exact m1.mem j x u h1 h2
          · have e : j = (As0 ++ bs).length := by
              have := (List.getElem?_eq_some_iff.mp h1).1
              simp at this ⊢; simp at hj'; omega
            subst e
            simp only [List.getElem?_concat_length, Option.some.injEq] at h1
            subst h1
            rw [m1.len] at h2
            simp only [List.getElem?_concat_length, Option.some.injEq] at h2
            subst h2
            exact ⟨rfl, [], hx, .nil⟩
      · have e0 : RepE As0 F1 σ ρ := by
          have e0 : RepE As0 F0 σ ρ := hE.step s0
          exact ⟨e0.len, fun i r h => by
            obtain ⟨v, a, b⟩ := e0.env i r h
            refine ⟨v, a, ?_⟩
            cases r with
            | d x => exact Dv.mono fe b
            | own j => exact b
            | exc D =>
              obtain ⟨z, h1, h2⟩ := b
              exact ⟨z, h1, fe _ _ h2⟩⟩
        have e1 : RepE (As0 ++ bs ++ [L]) F1 σ ρ := ⟨e0.len, fun i r h => by
          obtain ⟨v, a, b⟩ := e0.env i r h
          refine ⟨v, a, ?_⟩
          cases r with
          | d x => exact b
          | exc D => exact b
          | own j =>
            obtain ⟨z, h1, h2⟩ := b
            exact ⟨z, by rw [List.append_assoc, List.getElem?_append_left (List.getElem?_eq_some_iff.mp h1).1]; exact h1, h2⟩⟩
        exact e1.set (r := .own (M1.length + bs.length)) ⟨L, by rw [show M1.length + bs.length = (As0 ++ bs).length by simp [m0.len]]; simp, rfl⟩ i0
/-- numbers[i], a list of lists that change -/
theorem ed_ixRef {b0 : Expr} {D b : Addr} {bs : List Addr} {k j j2 : Nat} {ds : List PyData} {g : List V → HO} (ha : ED X ρ M a (.own j) M) (hb : ED X ρ M b0 (.d (.int (k : Nat))) M) (hi : M[j]? = some (.pin D (fun _ => .lst (bs.map V.ref)) [])) (hk : bs[k]? = some b) (h2 : M[j2]? = some (.pin b g ds)) (hs : PlainIx b0 := by exact fun _ _ => rfl) :
    ED X ρ M (.Subscript a b0 pos) (.own j2) M := fun As σ F H hM hE Q q =>
  ⟨_, pe_ix ix_list (pe_w X a) (pe_w X b0) hs, ha As σ F H hM hE _ fun v1 As1 F1 H1 s1 m1 o1 => hb As1 σ F1 H1 m1 (hE.step s1) _ fun v2 As2 F2 H2 s2 m2 o2 => by
    obtain ⟨p, h1, rfl⟩ := o1.step s2
    obtain ⟨_, xs, k1, _⟩ := m2.mem _ p _ h1 hi
    cases o2
    have hj2 : j2 < As2.length := by rw [m2.len]; exact (List.getElem?_eq_some_iff.mp h2).1
    have e2 : As2[j2]? = some As2[j2] := List.getElem?_eq_getElem hj2
    obtain ⟨eb, _⟩ := m2.mem _ _ _ e2 h2
    rw [eb] at e2
    exact ⟨p, bs.map V.ref, (k : Int), .ref b, rfl, rfl, SqL.of k1, atI_pos (by rw [List.getElem?_map, hk]; rfl), q _ As2 F2 H2 (s1.trans s2) m2 ⟨b, e2, rfl⟩⟩⟩
/-- xs[i] = e, xs a list of ints that is owned -/
theorem sd_setIx {i j k : Nat} {x : Str} {px : Pos} {ns : List Int} {y : Int} {pos : Pos} (he : ED X ρ M e (.d (.int y)) M) (hx : ED X ρ M a (.d (.int (k : Nat))) M) (hk : k < ns.length) (hi : ρ[i]? = some (some (.own j)) := by rfl) (hm : M[j]? = some (.lst (ns.map .int)) := by rfl) (hN : X.N[i]? = some x := by rfl)
    (hv : Vis X.env.scope x := by first | exact Or.inl rfl | exact Or.inr (Or.inl rfl) | exact Or.inr (Or.inr rfl)) (hd : (x == ("__debug__" : Str)) = false := by decide) (hcd : (x == ("__classdict__" : Str)) = false := by decide)
    (hg : PG X (.Subscript (.Name x px) a tpos) (gSub (tVar i) (wE X a) rSetL) := by first | exact pg_sub (pe_var rfl (by first | exact Or.inl rfl | exact Or.inr (Or.inl rfl) | exact Or.inr (Or.inr rfl))) (pe_w _ _) set_list)
    (hs : swapsWithSole [.Subscript (.Name x px) a tpos] e pos.line X.env = pure false := by rfl) (hw : swappedStores [.Subscript (.Name x px) a tpos] e X.env = pure none := by rfl)
    (h1 : (assignEach [.Subscript (.Name x px) a tpos] X.env).map (·.2) = [assign (.Subscript (.Name x px) a tpos) X.env] := by rfl) :
    S1 X E ρ M (.Assign [.Subscript (.Name x px) a tpos] e pos) (.nx ρ (M.set j (.lst ((ns.set k y).map .int)))) := fun As σ F H hM hE D q => by
  refine ⟨_, ps_asg (pe_w X e) hg hs hw h1, he As σ F H hM hE _ fun v1 As1 F1 H1 s1 m1 o1 => ?_⟩
  obtain ⟨v, h3, p, h2, rfl⟩ := (hE.step s1).env i _ hi
  refine ⟨.ref p, h3, hx As1 σ F1 H1 m1 (hE.step s1) _ fun v2 As2 F2 H2 s2 m2 o2 => ?_⟩
  cases o1; cases o2
  have p2 := s2.pre h2
  obtain ⟨ys', q3, q4⟩ := m2.mem j p _ p2 hm
  rw [q4.ints_of] at q3
  refine ⟨p, ns.map V.int, (k : Int), k, rfl, rfl, q3, ?_, ?_⟩
  · unfold ixN
    rw [if_pos (by omega), List.length_map, if_pos (by omega)]; simp
  · have e2 : (ns.map V.int).set k (.int y) = (ns.set k y).map V.int := by rw [List.map_set]
    rw [e2]
    obtain ⟨s3, m3⟩ := upM m2 p2 ⟨_, hm⟩ (DvAll.ints (F := F2) (ns.set k y))
    exact q As2 σ F2 _ ((s1.trans s2).trans s3) m3 (((hE.step s1).step s2).step s3)
end
/-! ### arcs over spaces: plain mathematics -/
/-- how many of the first W steps lie behind tooth t -/
def ovN (N st W t : Nat) : Nat := cntF W (fun u => decide ((st + u) % N = t))
def ovL (N st W : Nat) : List Nat := (List.range N).map (ovN N st W)
section
variable {N n st W t : Nat}
theorem ovL_len : (ovL N st W).length = N := by simp [ovL]
theorem ovL_get (h : t < N) : (ovL N st W)[t]? = some (ovN N st W t) := by simp [ovL, h]
theorem ov_val (hst : st < N) (ht : t < N) : ovN N st W t = W / N + if firN N st t < W % N then 1 else 0 := by
  unfold ovN
  rw [cntF_congr (g := fun u => decide (u % N = firN N st t)) fun u _ => decide_eq_decide.mpr (fir_iff hst ht u), cntF_mod (fir_lt (by omega))]
  have hr := fir_lt (N := N) (st := st) (tooth := t) (by omega)
  generalize firN N st t = r at *
  have e := Nat.div_add_mod W N
  have hm := Nat.mod_lt W (show 0 < N by omega)
  generalize hq : W / N = q at *
  generalize hs : W % N = s at *
  have eW : W = N * q + s := e.symm
  by_cases h : r < s
  · rw [if_pos h, eW, show N * q + s + (N - 1 - r) = N * (q + 1) + (s - 1 - r) by rw [Nat.mul_add]; omega, Nat.mul_add_div (by omega), Nat.div_eq_of_lt (by omega)]
  · rw [if_neg h, eW, show N * q + s + (N - 1 - r) = N * q + (s + (N - 1 - r)) by omega, Nat.mul_add_div (by omega), Nat.div_eq_of_lt (by omega)]
theorem ov_succ : ovN N st (W + 1) t = ovN N st W t + if (st + W) % N = t then 1 else 0 := by
  unfold ovN; rw [cntF_succ]; simp
theorem ovL_succ (hN : 0 < N) : ovL N st (W + 1) = (ovL N st W).set ((st + W) % N) (ovN N st W ((st + W) % N) + 1) := by
  refine List.ext_getElem? fun i => ?_
  by_cases hi : i < N
  · rw [ovL_get hi, ov_succ]
    by_cases e : (st + W) % N = i
    · rw [if_pos e, e, List.getElem?_set_self (by rw [ovL_len]; exact hi)]
    · rw [if_neg e, List.getElem?_set_ne e, ovL_get hi]; rfl
  · rw [List.getElem?_eq_none (by rw [ovL_len]; omega), List.getElem?_eq_none (by rw [List.length_set, ovL_len]; omega)]
theorem ovL_zero : ovL N st 0 = List.replicate N 0 := by
  unfold ovL
  rw [List.eq_replicate_iff]
  exact ⟨by simp, fun x hx => by
    obtain ⟨t, _, rfl⟩ := List.mem_map.mp hx
    rfl⟩
theorem ovL_sum (hN : 0 < N) : (ovL N st W).sum = W := by
  unfold ovL ovN
  have := sum_fib (f := fun u => (st + u) % N) (P := fun _ => true) (K := N) (m := W) fun u _ => Nat.mod_lt _ hN
  simp only [Bool.true_and] at this
  rw [this]
  unfold cntF
  rw [List.filter_eq_self.mpr (by simp), List.length_range]
/-- what cover_of has after k turns -/
def covK (N st q k : Nat) : List Nat := (List.range N).map fun t => q + if firN N st t < k then 1 else 0
theorem covK_zero (q : Nat) : covK N st q 0 = List.replicate N q := by
  unfold covK
  rw [List.eq_replicate_iff]
  exact ⟨by simp, fun x hx => by
    obtain ⟨t, _, rfl⟩ := List.mem_map.mp hx
    simp⟩
theorem fir_at (hst : st < N) {k : Nat} (hk : k < N) : firN N st ((st + k) % N) = k := by
  have := (fir_iff (N := N) (st := st) (tooth := (st + k) % N) hst (Nat.mod_lt _ (by omega)) k).mp rfl
  rw [Nat.mod_eq_of_lt hk] at this
  exact this.symm
theorem covK_get {q k : Nat} (h : t < N) : (covK N st q k)[t]? = some (q + if firN N st t < k then 1 else 0) := by simp [covK, h]
theorem covK_succ (hst : st < N) {q k : Nat} (hk : k < N) : covK N st q (k + 1) = (covK N st q k).set ((st + k) % N) (q + 1) := by
  have hl : ∀ k, (covK N st q k).length = N := fun k => by simp [covK]
  refine List.ext_getElem? fun i => ?_
  by_cases hi : i < N
  · rw [covK_get hi]
    by_cases e : (st + k) % N = i
    · rw [e, List.getElem?_set_self (by rw [hl]; exact hi), ← e, fir_at hst hk, if_pos (by omega)]
    · rw [List.getElem?_set_ne e, covK_get hi]
      have : firN N st i ≠ k := fun z => e (by
        have := (fir_iff hst hi k).mpr (by rw [Nat.mod_eq_of_lt hk, z])
        exact this)
      by_cases h : firN N st i < k
      · rw [if_pos h, if_pos (by omega)]
      · rw [if_neg h, if_neg (by omega)]
  · rw [List.getElem?_eq_none (by rw [hl]; omega), List.getElem?_eq_none (by rw [List.length_set, hl]; omega)]
theorem covK_at (hst : st < N) {q k : Nat} (hk : k < N) : (covK N st q k)[(st + k) % N]? = some q := by
  rw [covK_get (Nat.mod_lt _ (by omega)), fir_at hst hk, if_neg (by omega)]; rfl
theorem covK_end (hst : st < N) : covK N st (W / N) (W % N) = ovL N st W := by
  unfold covK ovL
  exact List.map_congr_left fun t ht => (ov_val hst (List.mem_range.mp ht)).symm
/-- the arcs over a space, one by one -/
def overL (N n st W t : Nat) : List Nat := (List.range (ovN N st W t)).map fun j => (firN N st t + j * N) / n
theorem over_lt (hst : st < N) (ht : t < N) {j : Nat} : j < ovN N st W t ↔ firN N st t + j * N < W := by
  rw [ov_val hst ht]
  have hr := fir_lt (N := N) (st := st) (tooth := t) (by omega)
  generalize firN N st t = r at *
  have e := Nat.div_add_mod W N
  have hm := Nat.mod_lt W (show 0 < N by omega)
  generalize hq : W / N = q at *
  generalize hs : W % N = s at *
  constructor
  · intro h
    by_cases h2 : r < s
    · rw [if_pos h2] at h
      have : j * N ≤ q * N := Nat.mul_le_mul_right N (by omega)
      rw [Nat.mul_comm q N] at this
      omega
    · rw [if_neg h2] at h
      have : (j + 1) * N ≤ q * N := Nat.mul_le_mul_right N (by omega)
      rw [Nat.mul_comm q N, Nat.add_mul] at this
      omega
  · intro h
    apply Classical.byContradiction
    intro z
    by_cases h2 : r < s
    · rw [if_pos h2] at z
      have : (q + 1) * N ≤ j * N := Nat.mul_le_mul_right N (by omega)
      rw [Nat.add_mul, Nat.mul_comm q N] at this
      omega
    · rw [if_neg h2] at z
      have : q * N ≤ j * N := Nat.mul_le_mul_right N (by omega)
      rw [Nat.mul_comm q N] at this
      omega
/-- by rolling -/
def rollL (N n st W t : Nat) : List Nat := ((List.range W).filter fun u => decide ((st + u) % N = t)).map fun u => u / n
theorem rollL_succ : rollL N n st (W + 1) t = if (st + W) % N = t then rollL N n st W t ++ [W / n] else rollL N n st W t := by
  unfold rollL
  rw [List.range_succ, List.filter_append]
  by_cases h : (st + W) % N = t
  · rw [if_pos h]; simp [h]
  · rw [if_neg h]; simp [h]
theorem over_roll (hst : st < N) (ht : t < N) : overL N n st W t = rollL N n st W t := by
  unfold overL rollL
  have e : (List.range W).filter (fun u => decide ((st + u) % N = t)) = (List.range (ovN N st W t)).map fun j => firN N st t + j * N := by
    refine ascN_uniq ((asc_range W).filter _) ?_ fun k => ?_
    · rw [List.pairwise_map]
      exact (asc_range _).imp fun h => by
        have := Nat.mul_lt_mul_of_pos_right h (show 0 < N by omega)
        omega
    · simp only [List.mem_filter, List.mem_range, decide_eq_true_eq, List.mem_map]
      rw [fir_iff hst ht]
      have hr := fir_lt (N := N) (st := st) (tooth := t) (by omega)
      constructor
      · rintro ⟨h1, h2⟩
        have e := Nat.div_add_mod k N
        rw [h2] at e
        exact ⟨k / N, (over_lt hst ht).mpr (by rw [Nat.mul_comm]; omega), by rw [Nat.mul_comm]; omega⟩
      · rintro ⟨j, h1, rfl⟩
        exact ⟨(over_lt hst ht).mp h1, by rw [Nat.add_mul_mod_self_right, Nat.mod_eq_of_lt hr]⟩
  rw [e, List.map_map]
  rfl
theorem ov_full (hN : 0 < N) (hst : st < N) : ovL N st (petN N n * n) = List.replicate N (rndN N n) := by
  rw [← len_pet hN, len_rnd hN, List.eq_replicate_iff]
  refine ⟨ovL_len, fun x hx => ?_⟩
  obtain ⟨t, ht, rfl⟩ := List.mem_map.mp hx
  rw [ov_val hst (List.mem_range.mp ht), Nat.mul_mod_left, if_neg (by omega), Nat.mul_div_cancel _ hN]
  rfl
theorem ov_moved (hst : st < N) (ht : t < N) : ovN N ((st + 1) % N) W ((t + 1) % N) = ovN N st W t := by
  unfold ovN
  refine cntF_congr fun u _ => decide_eq_decide.mpr ?_
  have h1 : ((st + 1) % N + u) % N = (st + u + 1) % N := by rw [Nat.mod_add_mod]; congr 1; omega
  rw [h1]
  constructor
  · intro h
    have := Nat.mod_lt (st + u) (show 0 < N by omega)
    have e : ((st + u) % N + 1) % N = (t + 1) % N := by rw [Nat.mod_add_mod]; exact h
    by_cases a : (st + u) % N + 1 = N
    · rw [a, Nat.mod_self] at e
      by_cases b : t + 1 = N
      · omega
      · rw [Nat.mod_eq_of_lt (a := t + 1) (by omega)] at e; omega
    · rw [Nat.mod_eq_of_lt (a := (st + u) % N + 1) (by omega)] at e
      by_cases b : t + 1 = N
      · rw [b, Nat.mod_self] at e; omega
      · rw [Nat.mod_eq_of_lt (a := t + 1) (by omega)] at e; omega
  · intro h
    rw [← h, Nat.mod_add_mod]
theorem ovL_moved (hN : 0 < N) (hst : st < N) : (ovL N ((st + 1) % N) W).drop 1 ++ (ovL N ((st + 1) % N) W).take 1 = ovL N st W := by
  have hl : (ovL N ((st + 1) % N) W).length = N := ovL_len
  refine List.ext_getElem? fun i => ?_
  by_cases hi : i < N
  · rw [ovL_get hi]
    by_cases h2 : i + 1 < N
    · rw [List.getElem?_append_left (by rw [List.length_drop, hl]; omega), List.getElem?_drop, show 1 + i = i + 1 by omega, ovL_get h2, ← ov_moved hst hi, Nat.mod_eq_of_lt h2]
    · have e : i + 1 = N := by omega
      rw [List.getElem?_append_right (by rw [List.length_drop, hl]; omega), List.length_drop, hl, show i - (N - 1) = 0 by omega, List.getElem?_take_of_lt (by omega), ovL_get hN, ← ov_moved hst hi, e, Nat.mod_self]
  · rw [List.getElem?_eq_none (by rw [List.length_append, List.length_drop, List.length_take, hl]; omega), List.getElem?_eq_none (by rw [ovL_len]; omega)]
/-- all covered after so many arcs -/
def allN (N n : Nat) : Nat := (N + n - 1) / n
theorem all_int (hn : 0 < n) : -((-(N : Int)) / (n : Int)) = ((allN N n : Nat) : Int) := by
  unfold allN
  have e := Nat.div_add_mod (N + n - 1) n
  have hm := Nat.mod_lt (N + n - 1) hn
  generalize (N + n - 1) / n = q at *
  generalize (N + n - 1) % n = s at *
  have : -(N : Int) / (n : Int) = -(q : Int) := by
    refine (Int.ediv_eq_iff_of_pos (by omega)).mpr ?_
    have e' : (n : Int) * q + s = N + n - 1 := by
      have : ((n * q + s : Nat) : Int) = ((N + n - 1 : Nat) : Int) := by rw [e]
      rw [Int.natCast_add, Int.natCast_mul] at this
      omega
    constructor
    · rw [Int.neg_mul, Int.mul_comm]; omega
    · rw [Int.neg_mul, Int.mul_comm]; omega
  omega
theorem all_ge (hn : 0 < n) : N ≤ allN N n * n := by
  unfold allN
  have e := Nat.div_add_mod (N + n - 1) n
  have hm := Nat.mod_lt (N + n - 1) hn
  rw [Nat.mul_comm]
  omega
theorem all_lt (hN : 0 < N) (hn : 0 < n) : (allN N n - 1) * n < N ∧ 0 < allN N n ∧ allN N n ≤ N := by
  unfold allN
  have e := Nat.div_add_mod (N + n - 1) n
  have hm := Nat.mod_lt (N + n - 1) hn
  have h1 : 0 < (N + n - 1) / n := Nat.div_pos (by omega) hn
  have h2 : (N + n - 1) / n ≤ N := by
    rw [← Nat.lt_succ_iff, Nat.div_lt_iff_lt_mul hn]
    have : N.succ * n = N * n + n := Nat.succ_mul N n
    have : N ≤ N * n := Nat.le_mul_of_pos_right N hn
    omega
  refine ⟨?_, h1, h2⟩
  rw [Nat.sub_mul, Nat.one_mul, Nat.mul_comm]
  omega
end
def Sig_cover_of : List PyData → Res → Prop := fun ds r => ∃ N n s st arcs, 0 < N ∧ N ≤ 1000 ∧ 0 < n ∧ n ≤ 1000 ∧ st < N ∧ arcs ≤ 1000 ∧ ds = [gD N n s, .int (st : Nat), .int (arcs : Nat)] ∧ r = .new (intsD (ovL N st (arcs * n)))
def Sig_arcs_over : List PyData → Res → Prop := fun ds r => ∃ N n s st arcs t, GOk N n s ∧ st < N ∧ arcs ≤ 150 ∧ t < N ∧ ds = [gD N n s, .int (st : Nat), .int (arcs : Nat), .int (t : Nat)] ∧ r = .new (intsD (overL N n st (arcs * n) t))
theorem intsI_set (l : List Nat) (i x : Nat) : intsI (l.set i x) = (intsI l).set i (x : Int) := by simp [intsI, List.map_set]
theorem intsI_rep (k x : Nat) : intsI (List.replicate k x) = List.replicate k (x : Int) := by simp [intsI]
/-! ### the law's own lists -/
def numM (bs : List Addr) (f : Nat → List PyData) : List MO := (List.range bs.length).map fun i => .pin (bs.getD i 0) HO.lst (f i)
theorem numM_nil (bs : List Addr) : bs.map (fun b => MO.pin b HO.lst []) = numM bs (fun _ => []) := by
  unfold numM
  refine List.ext_getElem? fun i => ?_
  by_cases hi : i < bs.length
  · simp [hi, List.getD_eq_getElem?_getD]
  · rw [List.getElem?_eq_none (by simp; omega), List.getElem?_eq_none (by simp; omega)]
theorem numM_get {bs : List Addr} {f : Nat → List PyData} {i : Nat} (h : i < bs.length) : (numM bs f)[i]? = some (.pin (bs.getD i 0) HO.lst (f i)) := by simp [numM, h]
theorem numM_set {bs : List Addr} {f g : Nat → List PyData} {i : Nat} (h : i < bs.length) {l : List PyData} (e : g i = l) (e2 : ∀ j, j ≠ i → g j = f j) : (numM bs f).set i (.pin (bs.getD i 0) HO.lst l) = numM bs g := by
  have hl : ∀ f, (numM bs f).length = bs.length := fun f => by simp [numM]
  refine List.ext_getElem? fun j => ?_
  by_cases hj : j < bs.length
  · rw [numM_get hj]
    by_cases z : i = j
    · subst z; rw [List.getElem?_set_self (by rw [hl]; exact h), e]
    · rw [List.getElem?_set_ne z, numM_get hj, e2 j (Ne.symm z)]
  · rw [List.getElem?_eq_none (by rw [List.length_set, hl]; omega), List.getElem?_eq_none (by rw [hl]; omega)]
abbrev cvM (b : Addr) (s : DS) (N n st W1 W2 : Nat) (bs : List Addr) (D : Addr) : List MO := drM b s ++ (.lst (intsD (ovL N st W1)) :: (numM bs (fun t => intsD (rollL N n st W2 t)) ++ [.pin D (fun _ => .lst (bs.map V.ref)) []]))
section
variable {b D : Addr} {s : DS} {N n st W1 W2 W t : Nat} {bs : List Addr}
theorem cv_num (h : t < bs.length) : (cvM b s N n st W1 W2 bs D)[3 + t]? = some (.pin (bs.getD t 0) HO.lst (intsD (rollL N n st W2 t))) := by
  show (_ :: _ :: _ :: (numM bs (fun t => intsD (rollL N n st W2 t)) ++ [.pin D (fun _ => .lst (bs.map V.ref)) []]))[3 + t]? = _
  rw [show 3 + t = t + 1 + 1 + 1 by omega, List.getElem?_cons_succ, List.getElem?_cons_succ, List.getElem?_cons_succ, List.getElem?_append_left (by simp [numM]; exact h), numM_get h]
theorem cv_out : (cvM b s N n st W1 W2 bs D)[3 + bs.length]? = some (.pin D (fun _ => .lst (bs.map V.ref)) []) := by
  show (_ :: _ :: _ :: (numM bs (fun t => intsD (rollL N n st W2 t)) ++ [.pin D (fun _ => .lst (bs.map V.ref)) []]))[3 + bs.length]? = _
  rw [show 3 + bs.length = bs.length + 1 + 1 + 1 by omega, List.getElem?_cons_succ, List.getElem?_cons_succ, List.getElem?_cons_succ, List.getElem?_append_right (by simp [numM])]
  simp [numM]
theorem cv_set (h : (st + W) % N < bs.length) {a : Nat} (ha : W / n = a) : (cvM b s N n st W1 W bs D).set (3 + (st + W) % N) (.pin (bs.getD ((st + W) % N) 0) HO.lst (intsD (rollL N n st W ((st + W) % N)) ++ [.int (a : Nat)])) = cvM b s N n st W1 (W + 1) bs D := by
  show (_ :: _ :: _ :: (numM bs (fun t => intsD (rollL N n st W t)) ++ [.pin D (fun _ => .lst (bs.map V.ref)) []])).set (3 + (st + W) % N) _ = _
  rw [show 3 + (st + W) % N = (st + W) % N + 1 + 1 + 1 by omega, List.set_cons_succ, List.set_cons_succ, List.set_cons_succ, List.set_append_left _ _ (by simp [numM]; exact h), numM_set (g := fun t => intsD (rollL N n st (W + 1) t)) h]
  · rfl
  · rw [rollL_succ, if_pos rfl, ha]; simp [intsD, intsI]
  · intro j hj
    rw [rollL_succ, if_neg (Ne.symm hj)]
theorem bs_get (h : t < bs.length) : bs[t]? = some (bs.getD t 0) := by rw [List.getD_eq_getElem?_getD, List.getElem?_eq_getElem h]; rfl
theorem sumI_nat (l : List Nat) : (intsI l).sum = ((l.sum : Nat) : Int) := by
  induction l with
  | nil => rfl
  | cons x l ih =>
    have : intsI (x :: l) = (x : Int) :: intsI l := rfl
    rw [this, List.sum_cons, ih, List.sum_cons]; omega
theorem rollL_zero : rollL N n st 0 t = [] := rfl
theorem list_min : ∀ {l : List Int}, l ≠ [] → ∃ z ∈ l, ∀ y ∈ l, z ≤ y
  | [], h => absurd rfl h
  | [x], _ => ⟨x, by simp, by simp⟩
  | x :: y :: r, _ => by
    obtain ⟨z, hz, hle⟩ := list_min (l := y :: r) (by simp)
    by_cases h : x ≤ z
    · exact ⟨x, by simp, fun w hw => by
        rcases List.mem_cons.mp hw with rfl | hw
        · exact Int.le_refl _
        · exact Int.le_trans h (hle w hw)⟩
    · exact ⟨z, List.mem_cons_of_mem _ hz, fun w hw => by
        rcases List.mem_cons.mp hw with rfl | hw
        · omega
        · exact hle w hw⟩
theorem list_max : ∀ {l : List Int}, l ≠ [] → ∃ z ∈ l, ∀ y ∈ l, y ≤ z
  | [], h => absurd rfl h
  | [x], _ => ⟨x, by simp, by simp⟩
  | x :: y :: r, _ => by
    obtain ⟨z, hz, hle⟩ := list_max (l := y :: r) (by simp)
    by_cases h : z ≤ x
    · exact ⟨x, by simp, fun w hw => by
        rcases List.mem_cons.mp hw with rfl | hw
        · exact Int.le_refl _
        · exact Int.le_trans (hle w hw) h⟩
    · exact ⟨z, List.mem_cons_of_mem _ hz, fun w hw => by
        rcases List.mem_cons.mp hw with rfl | hw
        · omega
        · exact hle w hw⟩
theorem ovL_ne (hN : 0 < N) : intsI (ovL N st W) ≠ [] := fun z => by
  have := congrArg List.length z
  rw [intsI_len, ovL_len] at this
  simp at this; omega
theorem ov_mem {x : Int} (hst : st < N) (h : x ∈ intsI (ovL N st W)) : ∃ t, t < N ∧ x = ((W / N + if firN N st t < W % N then 1 else 0 : Nat) : Int) := by
  obtain ⟨y, hy, rfl⟩ := mem_intsI'.mp h
  obtain ⟨t, ht, rfl⟩ := List.mem_map.mp hy
  exact ⟨t, List.mem_range.mp ht, by rw [ov_val hst (List.mem_range.mp ht)]⟩
theorem ov_low {x : Int} (hst : st < N) (h : x ∈ intsI (ovL N st W)) : ((W / N : Nat) : Int) ≤ x ∧ x ≤ ((W / N : Nat) : Int) + 1 := by
  obtain ⟨t, ht, rfl⟩ := ov_mem hst h
  split <;> omega
/-- a space without an arc -/
theorem ov_none (hst : st < N) (h : W < N) : (0 : Int) ∈ intsI (ovL N st W) := by
  refine mem_intsI (x := 0) |>.mpr ?_
  refine List.mem_map.mpr ⟨(st + W) % N, List.mem_range.mpr (Nat.mod_lt _ (by omega)), ?_⟩
  rw [ov_val hst (Nat.mod_lt _ (by omega)), fir_at hst h, Nat.div_eq_of_lt h, Nat.mod_eq_of_lt h, if_neg (by omega)]
theorem ov_one (hN : 0 < N) (hst : st < N) (h : N ≤ W) {x : Int} (hx : x ∈ intsI (ovL N st W)) : 1 ≤ x := by
  have := (ov_low hst hx).1
  have : 1 ≤ W / N := (Nat.one_le_div_iff hN).mpr h
  omega
theorem over_asc (hn : 0 < n) : (intsI (overL N n st W t)).Pairwise (· ≤ ·) := by
  unfold intsI overL
  rw [List.map_map, List.pairwise_map]
  exact (asc_range _).imp fun {a b} h => by
    have : (firN N st t + a * N) / n ≤ (firN N st t + b * N) / n := Nat.div_le_div_right (by
      have := Nat.mul_le_mul_right N (Nat.le_of_lt h)
      omega)
    simp only [Function.comp_apply]; omega
theorem over_max (hn : 0 < n) (hst : st < N) (ht : t < N) {x : Int} (h : x ∈ intsI (overL N n st (petN N n * n) t)) : x < (petN N n : Int) := by
  obtain ⟨y, hy, rfl⟩ := mem_intsI'.mp h
  obtain ⟨j, hj, rfl⟩ := List.mem_map.mp hy
  have := (over_lt hst ht).mp (List.mem_range.mp hj)
  have : (firN N st t + j * N) / n < petN N n := (Nat.div_lt_iff_lt_mul hn).mpr this
  omega
theorem over_len (hN : 0 < N) (hst : st < N) (ht : t < N) : (overL N n st (petN N n * n) t).length = rndN N n := by
  unfold overL
  rw [List.length_map, List.length_range]
  have := ovL_get (st := st) (W := petN N n * n) ht
  rw [ov_full hN hst, List.getElem?_replicate] at this
  simp [ht] at this
  exact this.symm
end
theorem s1_conv {X : Cx} {E : XK} {ρ : REnv} {M : List MO} {st : Stmt} {o o' : Out} (h : S1 X E ρ M st o) (e : o = o') : S1 X E ρ M st o' := e ▸ h
end WC

/-! texts -/
namespace WC
open PySem L2
open Evl (Ex)
open TL
theorem szS {n : Nat} (h : n ≤ 100000) : n ≤ sizeLine := Evl.sz_of h
abbrev sI (i : Int) : Str := Str.ofString (toString i)
section
variable {X : Cx} {E : XK} {ρ : REnv} {M M1 M2 M3 M4 : List MO} {a b e o : Expr} {pos p apos : Pos} {x y z : Str} {i : Int}
theorem ed_addS (ha : ED X ρ M a (.d (.str x)) M1) (hb : ED X ρ M1 b (.d (.str y)) M2) (hz : x.length + y.length ≤ 100000) : ED X ρ M (.BinOp a .Add b pos) (.d (.str (x ++ y))) M2 := ed_bin op_add_str ha hb fun As F H v1 v2 Q m o1 o2 q => by
  cases o1; cases o2
  exact ⟨x, y, rfl, rfl, szS hz, q _ As F H (Step.refl ..) m (.str _)⟩
theorem ed_strI (hm : X.mg "str" = none) (h : ED X ρ M e (.d (.int i)) M1) (hi : i.natAbs.log2 < 1920) (hg : Gl X "str" := by rfl) (hs : starEach (e :: []) X.env = (false, eval e X.env) :: starEach [] X.env := by rfl) :
    ED X ρ M (.Call (.Name "str" p) [e] [] pos) (.d (.str (sI i))) M1 :=
  ed_callTy call_str_int hg hm (by decide +kernel) (ad_cons h ad_nil hs) (fun As F H vs Q m o q => by
    cases o with
    | cons o1 o2 =>
      cases o2; cases o1
      exact ⟨i, rfl, hi, q _ As F H (Step.refl ..) m (.str _)⟩) (he := hs)
theorem ed_intS {n : Int} (hm : X.mg "int" = none) (h : ED X ρ M e (.d (.str x)) M1) (hn : PySem.intText? x = some n) (hl : x.length ≤ 640) (hg : Gl X "int" := by rfl) (hs : starEach (e :: []) X.env = (false, eval e X.env) :: starEach [] X.env := by rfl) :
    ED X ρ M (.Call (.Name "int" p) [e] [] pos) (.d (.int n)) M1 :=
  ed_callTy call_int_str hg hm (by decide +kernel) (ad_cons h ad_nil hs) (fun As F H vs Q m o q => by
    cases o with
    | cons o1 o2 =>
      cases o2; cases o1
      exact ⟨x, n, rfl, hn, hl, q _ As F H (Step.refl ..) m (.int _)⟩) (he := hs)
theorem ed_lenS (hm : X.mg "len" = none) (h : ED X ρ M e (.d (.str x)) M1) (hl : x.length ≤ 100000) (hg : Gl X "len" := by rfl) (hs : starEach (e :: []) X.env = (false, eval e X.env) :: starEach [] X.env := by rfl) :
    ED X ρ M (.Call (.Name "len" p) [e] [] pos) (.d (.int (x.length : Nat))) M1 :=
  ed_callB call_len_str hg hm PySem.boot_len (ad_cons h ad_nil hs) (fun As F H vs Q m o q => by
    cases o with
    | cons o1 o2 =>
      cases o2; cases o1
      exact ⟨x, rfl, szS hl, q _ As F H (Step.refl ..) m (.int _)⟩) (he := hs)
theorem ed_sliceS {lo hi : Option Expr} {l u : Option Int} {p2 : Pos} (he : ED X ρ M e (.d (.str x)) M1) (hl : OD X ρ M1 lo l) (hh : OD X ρ M1 hi u) (hz : x.length ≤ 100000) :
    ED X ρ M (.Subscript e (.Slice lo hi none p2) pos) (.d (.str (cutS x l u))) M1 := fun As σ F H hM hE Q q =>
  ⟨_, pe_slice sl_str (pe_w X e) po_w po_w, he As σ F H hM hE _ fun v As1 F1 H1 s1 m1 o1 => hl As1 σ F1 H1 m1 (hE.step s1) _ fun As2 F2 H2 s2 m2 => hh As2 σ F2 H2 m2 ((hE.step s1).step s2) _ fun As3 F3 H3 s3 m3 => by
    cases o1
    exact ⟨x, rfl, szS hz, q _ As3 F3 H3 ((s1.trans s2).trans s3) m3 (.str _)⟩⟩
theorem ed_partition (ho : ED X ρ M o (.d (.str x)) M1) (he : ED X ρ M1 e (.d (.str y)) M2) (hy : (y.length == 0) = false) (hz : x.length ≤ 100000) (hs : starEach [e] X.env = [(false, eval e X.env)] := by rfl) (hbase : attributeBase o "partition" X.env (eval o X.env) = eval o X.env := by rfl) (hline : (apos.endLine == pos.line) = true := by rfl) :
    ED X ρ M (.Call (.Attribute o "partition" apos) [e] [] pos) (.d (.tuple [.str (Txt.partition x y).1, .str (Txt.partition x y).2.1, .str (Txt.partition x y).2.2])) M2 := fun As σ F H hM hE Q q =>
  ⟨_, pe_partition (pe_w X o) (pe_w X e) hs hbase hline, ho As σ F H hM hE _ fun v As1 F1 H1 s1 m1 o1 => by
    cases o1
    refine ⟨⟨x, rfl⟩, he As1 σ F1 H1 m1 (hE.step s1) _ fun v2 As2 F2 H2 s2 m2 o2 => ?_⟩
    cases o2
    refine ⟨x, y, rfl, rfl, hy, szS hz, fun t ht => ?_⟩
    obtain ⟨s3, m3⟩ := newF m2 ht (.tup [.str (Txt.partition x y).1, .str (Txt.partition x y).2.1, .str (Txt.partition x y).2.2])
    exact q _ As2 _ _ ((s1.trans s2).trans s3) m3 (.tup upd_same (.cons (.str _) (.cons (.str _) (.cons (.str _) .nil))))⟩
theorem cd_inSign {c : Nat} : CmpD X .In M (.d (.str ⟨#[c]⟩)) (.d (.str z)) (decide (c ∈ z.cps.toList)) := ⟨_, op_in_sign, fun As F H v1 v2 Q m o1 o2 q => by
  cases o1; cases o2
  exact ⟨c, z, rfl, rfl, q⟩⟩
/-- a text, sign by sign -/
theorem it_str {tg : Expr} (h : ED X ρ M e (.d (.str x)) M1) : ITR X ρ M tg e x.cps.size (fun i => .str ⟨#[x.cps.toList.getD i 0]⟩) M1 := fun As σ F H hM hE R q =>
  ⟨_, pi_str (pe_w X e), h As σ F H hM hE _ fun v As1 F1 H1 s1 m1 o1 => by
    cases o1
    refine ⟨x, rfl, q _ As1 F1 H1 s1 m1 ⟨fun F2 H2 i a1 a2 hi => hi, fun F2 H2 i v H3 a1 a2 hlt y => ?_, fun F2 H2 i a1 a2 hi => hi⟩⟩
    obtain ⟨rfl, c, hc, rfl⟩ := y
    refine .inl ⟨rfl, ?_⟩
    have e : x.cps.toList.getD i 0 = c := by
      rw [List.getD_eq_getElem?_getD, Array.getElem?_toList, hc]; rfl
    rw [e]
    exact .str _⟩
/-- f"{a}/{b} {c}" -/
theorem ed_fstr {e1 e2 e3 : Expr} {j1 j2 : Nat} {q1 q2 q3 q4 q5 : Pos} {s1 s2 : Str} {i1 i2 : Int} (h1 : ED X ρ M e1 (.d (.int i1)) M1) (h2 : ED X ρ M1 e2 (.d (.int i2)) M2) (h3 : ED X ρ M2 e3 (.d (.str x)) M3)
    (l1 : i1.natAbs.log2 < 1920) (l2 : i2.natAbs.log2 < 1920) (hz : (sI i1).length + s1.length + (sI i2).length + s2.length + x.length ≤ 100000) :
    ED X ρ M (.JoinedStr [.FormattedValue e1 (-1) none q1, .Constant (.str s1) j1 q2, .FormattedValue e2 (-1) none q3, .Constant (.str s2) j2 q4, .FormattedValue e3 (-1) none q5] pos) (.d (.str (sI i1 ++ s1 ++ sI i2 ++ s2 ++ x))) M3 := fun As σ F H hM hE Q q => by
  have hz' : (Str.ofString (toString i1)).length + s1.length + (Str.ofString (toString i2)).length + s2.length + x.length ≤ 100000 := hz
  have len : ∀ a b : Str, (a ++ b).length = a.length + b.length := fun a b => by
    show (a.cps ++ b.cps).size = _
    rw [Array.size_append]; rfl
  have emp : ∀ a : Str, Str.empty ++ a = a := fun a => by
    show (⟨#[] ++ a.cps⟩ : Str) = a
    rw [Array.empty_append]
  refine ⟨_, pe_joined (.cons (pe_fmt (pe_w X e1)) (.cons pe_str (.cons (pe_fmt (pe_w X e2)) (.cons pe_str (.cons (pe_fmt (pe_w X e3)) .nil))))), h1 As σ F H hM hE _ fun v As1 F1 H1 st1 m1 o1 => ?_⟩
  cases o1
  refine .inr ⟨i1, rfl, l1, _, rfl, szS (by rw [len]; show 0 + _ ≤ _; omega), _, rfl, szS (by rw [emp, len]; omega), h2 As1 σ F1 H1 m1 (hE.step st1) _ fun v2 As2 F2 H2 st2 m2 o2 => ?_⟩
  cases o2
  refine .inr ⟨i2, rfl, l2, _, rfl, szS (by rw [emp, len, len]; omega), _, rfl, szS (by rw [emp, len, len, len]; omega), h3 As2 σ F2 H2 m2 ((hE.step st1).step st2) _ fun v3 As3 F3 H3 st3 m3 o3 => ?_⟩
  cases o3
  refine .inl ⟨x, rfl, szS (by omega), _, rfl, szS (by rw [emp, len, len, len, len]; omega), ?_⟩
  have := q (.str (sI i1 ++ s1 ++ sI i2 ++ s2 ++ x)) As3 F3 H3 ((st1.trans st2).trans st3) m3 (.str _)
  rw [emp]
  exact this
/-! ### raising within a tuple -/
def AX (X : Cx) (E : XK) (ρ : REnv) (M : List MO) (es : List Expr) (c : Value) (M' : List MO) : Prop :=
  ∀ (As : List Addr) (σ : St) (F H : Hp), RepM As F H M → RepE As F σ ρ → ∀ Q : List V → Hp → Prop, (∀ As' F' H', Step As F H As' F' H' → RepM As' F' H' M' → E c none H') → wA X es σ H Q
variable {es : List Expr} {c : Value} {r : Slot}
theorem ax_here (h : EX X E ρ M e c M1) (hs : starEach (e :: es) X.env = (false, eval e X.env) :: starEach es X.env := by rfl) : AX X E ρ M (e :: es) c M1 := fun As σ F H hM hE Q q =>
  ⟨_, pa_cons (pe_w X e) (pa_w X es) hs, h As σ F H hM hE _ q⟩
theorem ax_next (h1 : ED X ρ M e r M1) (h : AX X E ρ M1 es c M2) (hs : starEach (e :: es) X.env = (false, eval e X.env) :: starEach es X.env := by rfl) : AX X E ρ M (e :: es) c M2 := fun As σ F H hM hE Q q =>
  ⟨_, pa_cons (pe_w X e) (pa_w X es) hs, h1 As σ F H hM hE _ fun v As1 F1 H1 s1 m1 o1 => h As1 σ F1 H1 m1 (hE.step s1) _ fun As2 F2 H2 s2 m2 => q As2 F2 H2 (s1.trans s2) m2⟩
theorem ex_tup {x1} (h : AX X E ρ M es c M1) : EX X E ρ M (.Tuple es x1 pos) c M1 := fun As σ F H hM hE Q q => ⟨_, pe_tup (pa_w X es), h As σ F H hM hE _ q⟩
theorem sd_setX {k : Nat} {nm : Str} (hN : X.N.Nodup) (h : EX X E ρ M e c M1) (hi : X.N[k]? = some nm := by rfl) (hx : Loc X.env.scope nm := by first | exact Or.inl rfl | exact Or.inr rfl) (hs : swapsWith e (some (.Name nm p)) pos.line X.env = pure false := by rfl)
    (hf : X.fn nm = true ∨ X.env.scope.names.lookup nm = some .local := by first | exact .inl rfl | exact .inr rfl) : S1 X E ρ M (.Assign [.Name nm p] e pos) (.er c M1) := fun As σ F H hM hE D q =>
  ⟨_, ps_set hN hi hx (pe_w X e) hs hf, h As σ F H hM hE _ q⟩
/-- a def without arguments -/
theorem ed_call0 {nm : Str} {k : Nat} {ps : List Str} {Sig : List PyData → Res → Prop} {d : PyData} (G : Fn X.prog X.w X.K X.mg X.base nm k ps Sig) (hr : Room k X.A) (hs : Sig [] (.val d)) (hg : Gl X nm := by rfl) (hdb : (nm == ("__debug__" : Str)) = false := by decide) :
    ED X ρ M (.Call (.Name nm p) [] [] pos) (.d d) M := fun As σ F H hM hE Q q => by
  obtain ⟨f, fd, F1, hm, hk, hb⟩ := G.ex
  exact ⟨_, pe_call0 F1 hr hg hm hk hb .nil passL hdb, F, [], .val d, hM.ex, .nil, hs, fun v F' H' s2 dv => q v As F' H' (s2.step As) (s2.rep hM) dv⟩
end
/-! ### texts of gears: plain mathematics -/
theorem str_len (a b : Str) : (a ++ b).length = a.length + b.length := by
  show (a.cps ++ b.cps).size = _
  rw [Array.size_append]; rfl
theorem len_tl (a : Str) : a.length = (tl a).length := rfl
def wrS (N n : Nat) (sd : Str) : Str := sI (N : Int) ++ "/" ++ sI (n : Int) ++ " " ++ sd
def digB (x : Str) : Bool := decide (1 ≤ x.length) && decide (x.length ≤ 3) && (x.cps.toList.all fun c => decide (48 ≤ c) && decide (c ≤ 57))
def numB (x : Str) : Option Nat := if digB x = true then (if sI ((NumText.digitsVal x.cps.toList : Nat) : Int) = x then some (NumText.digitsVal x.cps.toList) else none) else none
def parseB (x : Str) : Option (Nat × Nat × Str) :=
  if (Txt.partition x " ").2.1 = "" ∨ (Txt.partition (Txt.partition x " ").1 "/").2.1 = "" then none
  else match numB (Txt.partition (Txt.partition x " ").1 "/").1, numB (Txt.partition (Txt.partition x " ").1 "/").2.2 with
    | some N, some n => if isGearB (gD N n (Txt.partition x " ").2.2) = true then some (N, n, (Txt.partition x " ").2.2) else none
    | _, _ => none
theorem sI_tl (k : Nat) : tl (sI (k : Int)) = numL k := tl_num k
theorem sI_len {k : Nat} (h : k < 1000) : (sI (k : Int)).length ≤ 3 := by
  rw [len_tl, sI_tl]
  exact numL_len (k := 3) (by decide) h
theorem numB_num {k : Nat} (h : k < 1000) : numB (sI (k : Int)) = some k := by
  have e : (sI (k : Int)).cps.toList = numL k := sI_tl k
  have hd : digB (sI (k : Int)) = true := by
    unfold digB
    rw [e, decide_eq_true (by
      rw [len_tl, sI_tl]
      exact List.length_pos_iff.mpr (numL_ne k)), decide_eq_true (sI_len h)]
    simp only [Bool.true_and, List.all_eq_true]
    intro c hc
    have := numL_digits k c hc
    rw [decide_eq_true this.1, decide_eq_true this.2]; rfl
  unfold numB
  rw [if_pos hd, e, numL_val, if_pos rfl]
theorem numB_is {x : Str} {k : Nat} (h : numB x = some k) : x = sI (k : Int) ∧ digB x = true ∧ k = NumText.digitsVal x.cps.toList := by
  unfold numB at h
  by_cases hd : digB x = true
  · rw [if_pos hd] at h
    by_cases e : sI ((NumText.digitsVal x.cps.toList : Nat) : Int) = x
    · rw [if_pos e] at h
      injection h with h
      exact ⟨by rw [← h, e], hd, h.symm⟩
    · rw [if_neg e] at h; cases h
  · rw [if_neg hd] at h; cases h
theorem dig_int {x : Str} (h : digB x = true) : PySem.intText? x = some ((NumText.digitsVal x.cps.toList : Nat) : Int) := by
  unfold digB at h
  simp only [Bool.and_eq_true, decide_eq_true_eq, List.all_eq_true] at h
  refine PySem.intText_digits (fun c hc => ?_) (fun z => ?_) (by omega)
  · exact h.2 c hc
  · have : x.length = 0 := by rw [len_tl]; show x.cps.toList.length = 0; rw [z]; rfl
    omega
theorem part_cases (x y : Str) {s : Nat} {S : List Nat} (ey : tl y = s :: S) : ((Txt.partition x y).2.1 = y ∧ x = (Txt.partition x y).1 ++ y ++ (Txt.partition x y).2.2) ∨ ((Txt.partition x y).2.1 = "") := by
  rcases PyProof.Rows.partition_whole x y with ⟨e, hn⟩ | ⟨i, e, hi, hn⟩
  · right; rw [e]; rfl
  · left
    rw [e]
    refine ⟨rfl, ?_⟩
    obtain ⟨h1, h2⟩ := hi
    have h2 : x.cps.extract i (i + y.length) = y.cps := beq_iff_eq.mp h2
    have e1 : x.cps.extract 0 i ++ x.cps.extract i (i + y.length) ++ x.cps.extract (i + y.length) x.length = x.cps := by
      rw [Array.extract_append_extract, show max i (i + y.length) = i + y.length by omega, Array.extract_append_extract]
      show x.cps.extract _ _ = x.cps
      have hsz : x.length = x.cps.size := rfl
      rw [show min (min 0 i) (i + y.length) = 0 by omega, show max (i + y.length) x.length = x.cps.size by omega]
      simp
    have e2 : x = ⟨x.cps.extract 0 i ++ y.cps ++ x.cps.extract (i + y.length) x.length⟩ := by
      rw [← h2, e1]
    exact e2
theorem part_fst_len (x y : Str) : (Txt.partition x y).1.length ≤ x.length ∧ (Txt.partition x y).2.2.length ≤ x.length := by
  rcases PyProof.Rows.partition_whole x y with ⟨e, hn⟩ | ⟨i, e, hi, hn⟩
  · rw [e]; exact ⟨Nat.le_refl _, Nat.zero_le _⟩
  · rw [e]
    have hsz : x.length = x.cps.size := rfl
    refine ⟨?_, ?_⟩
    · show (x.cps.extract 0 i).size ≤ _
      rw [Array.size_extract]; omega
    · show (x.cps.extract (i + y.length) x.length).size ≤ _
      rw [Array.size_extract]; omega
theorem sp_tl : tl (" " : Str) = [32] := by decide +kernel
theorem sl_tl : tl ("/" : Str) = [47] := by decide +kernel
/-- what is parsed is written so -/
theorem parse_sound {x : Str} {N n : Nat} {sd : Str} (h : parseB x = some (N, n, sd)) : GOk N n sd ∧ x = wrS N n sd := by
  unfold parseB at h
  by_cases c : (Txt.partition x " ").2.1 = "" ∨ (Txt.partition (Txt.partition x " ").1 "/").2.1 = ""
  · rw [if_pos c] at h; cases h
  · rw [if_neg c] at h
    have c1 : (Txt.partition x " ").2.1 ≠ "" := fun z => c (.inl z)
    have c2 : (Txt.partition (Txt.partition x " ").1 "/").2.1 ≠ "" := fun z => c (.inr z)
    have p1 := ((part_cases x " " sp_tl).resolve_right c1).2
    have p2 := ((part_cases (Txt.partition x " ").1 "/" sl_tl).resolve_right c2).2
    cases q1 : numB (Txt.partition (Txt.partition x " ").1 "/").1 with
    | none => rw [q1] at h; cases h
    | some N' =>
      rw [q1] at h
      cases q2 : numB (Txt.partition (Txt.partition x " ").1 "/").2.2 with
      | none => rw [q2] at h; cases h
      | some n' =>
        rw [q2] at h
        by_cases g : isGearB (gD N' n' (Txt.partition x " ").2.2) = true
        · simp only [] at h
          rw [if_pos g] at h
          injection h with h
          injection h with h1 h2
          injection h2 with h2 h3
          subst h1 h2 h3
          refine ⟨GOk.of g, ?_⟩
          rw [(numB_is q1).1, (numB_is q2).1] at p2
          unfold wrS
          rw [← p2]
          exact p1
        · simp only [] at h
          rw [if_neg g] at h; cases h
theorem notin_app {a b : Str} {s : Nat} (h1 : s ∉ tl a) (h2 : s ∉ tl b) : s ∉ tl (a ++ b) := by
  rw [tl_append]
  intro z
  rcases List.mem_append.mp z with z | z
  · exact h1 z
  · exact h2 z
theorem notin_num {k s : Nat} (h : s < 48 ∨ 57 < s) : s ∉ tl (sI (k : Int)) := by rw [sI_tl]; exact numL_free h
/-- what is written is parsed -/
theorem parse_wr {N n : Nat} {sd : Str} (h : GOk N n sd) : parseB (wrS N n sd) = some (N, n, sd) := by
  have q1 := h.N150
  have q2 := h.n150
  have e1 : Txt.partition (wrS N n sd) " " = (sI (N : Int) ++ "/" ++ sI (n : Int), (" " : Str), sd) := partition_app sp_tl (notin_app (notin_app (notin_num (by omega)) (by rw [sl_tl]; simp)) (notin_num (by omega)))
  have e2 : Txt.partition (sI (N : Int) ++ "/" ++ sI (n : Int)) "/" = (sI (N : Int), ("/" : Str), sI (n : Int)) := partition_app sl_tl (notin_num (by omega))
  unfold parseB
  rw [e1]
  simp only []
  rw [e2]
  simp only []
  rw [if_neg (by decide), numB_num (by omega), numB_num (by omega)]
  simp only []
  rw [if_pos h.is]
theorem wr_len {N n : Nat} {sd : Str} (h : GOk N n sd) : (wrS N n sd).length ≤ 11 := by
  unfold wrS
  rw [str_len, str_len, str_len, str_len]
  have q1 := h.N150
  have q2 := h.n150
  have h1 := sI_len (k := N) (by omega)
  have h2 := sI_len (k := n) (by omega)
  have h3 : ("/" : Str).length = 1 := by decide
  have h4 : (" " : Str).length = 1 := by decide
  have h5 : sd.length ≤ 3 := by
    rcases h.side with ⟨rfl, _⟩ | rfl <;> decide
  omega
theorem log_small {k : Nat} (h : k < 1000000) : ((k : Nat) : Int).natAbs.log2 < 1920 := by
  have : ((k : Nat) : Int).natAbs = k := by omega
  rw [this]
  have : k.log2 < 20 := by
    by_cases z : k = 0
    · subst z; decide
    · exact (Nat.log2_lt z).mpr (by omega)
  omega
def Sig_number_in (c : Cl) : List PyData → Res → Prop := fun ds r => ∃ x : Str, x.length ≤ 600 ∧ ds = [.str x] ∧ ((∃ k, numB x = some k ∧ r = vI (k : Nat)) ∨ (numB x = none ∧ r = .err (.ref c.text)))
def Sig_parse_gear (c : Cl) : List PyData → Res → Prop := fun ds r => ∃ v, ds = [v] ∧ ((∃ x N n sd, v = .str x ∧ x.length ≤ 600 ∧ parseB x = some (N, n, sd) ∧ r = .val (gD N n sd)) ∨ (∃ x, v = .str x ∧ x.length ≤ 600 ∧ parseB x = none ∧ r = .err (.ref c.text)) ∨ (dStr v = false ∧ r = .err (.ref c.text)))
def Sig_law_parsed : List PyData → Res → Prop := fun ds r => ∃ v, ds = [v] ∧ ((∃ x N n sd, v = .str x ∧ x.length ≤ 600 ∧ parseB x = some (N, n, sd) ∧ r = .val (gD N n sd)) ∨ (∃ x, v = .str x ∧ x.length ≤ 600 ∧ parseB x = none ∧ r = .val (.str "text")) ∨ (dStr v = false ∧ r = .val (.str "text")))
def oddD : List PyData := [.none, .int 5, .str "", .str " ", .str "12", .str "12/5", .str "12/5 ", .str "12/5 In", .str "12/5 inn", .str "12 /5 in", .str "12/5  in", .str " 12/5 in", .str "12/5 in ", .str "012/5 in", .str "12/05 in", .str "5/12 in", .str "12/12 in", .str "2/5 out", .str "12/1 out", .str "151/5 in", .str "12/151 out", .str "-12/5 in", .str "a/5 in", .str "12/5/3 in", .str "/5 in", .str "12/ in", .list [.str "12/5 in"], .str "12,5 in"]
def rejB (v : PyData) : Bool := match v with
  | .str x => decide (x.length ≤ 600) && (parseB x).isNone
  | v => !dStr v
theorem odd_rej : oddD.all rejB = true := by decide +kernel
theorem gath_bool (n : Nat) (f : Nat → Bool) : gath n (fun _ => true) (fun i => .bool (f i)) = ((List.range n).map f).map .bool := by
  unfold gath
  rw [List.filter_eq_self.mpr (by simp), List.map_map]; rfl
def allD (x : Str) : Bool := ((List.range x.cps.size).map fun i => decide (x.cps.toList.getD i 0 ∈ ("0123456789" : Str).cps.toList)).all id
theorem digs_tl : ("0123456789" : Str).cps.toList = [48, 49, 50, 51, 52, 53, 54, 55, 56, 57] := by decide +kernel
theorem allD_eq (x : Str) : allD x = x.cps.toList.all fun c => decide (48 ≤ c) && decide (c ≤ 57) := by
  unfold allD
  rw [digs_tl]
  have hm : ∀ c : Nat, decide (c ∈ [48, 49, 50, 51, 52, 53, 54, 55, 56, 57]) = (decide (48 ≤ c) && decide (c ≤ 57)) := fun c => by
    rw [← Bool.decide_and, decide_eq_decide]
    simp only [List.mem_cons, List.not_mem_nil, or_false]
    omega
  rw [Bool.eq_iff_iff, List.all_eq_true, List.all_eq_true]
  constructor
  · intro h c hc
    obtain ⟨i, hi, e⟩ := List.mem_iff_getElem.mp hc
    have := h _ (List.mem_map.mpr ⟨i, List.mem_range.mpr (by simpa using hi), rfl⟩)
    rw [hm, List.getD_eq_getElem?_getD, List.getElem?_eq_getElem hi, e] at this
    exact this
  · intro h b hb
    obtain ⟨i, hi, rfl⟩ := List.mem_map.mp hb
    have hi' : i < x.cps.toList.length := by simpa using hi
    rw [hm, List.getD_eq_getElem?_getD, List.getElem?_eq_getElem hi']
    exact h _ (List.getElem_mem hi')
theorem digB_eq (x : Str) : digB x = (decide (1 ≤ x.length) && decide (x.length ≤ 3) && allD x) := by rw [allD_eq]; rfl
theorem cutS_len (z : Str) (l u : Option Int) : (cutS z l u).length ≤ z.length := by
  unfold cutS
  show (List.toArray _).size ≤ _
  rw [List.size_toArray, List.length_take, List.length_drop]
  have : z.cps.toList.length = z.length := Array.length_toList
  omega
theorem gd_text : Gd 0 (.str "text") := Gd.str (by decide +kernel)
def Sig_law_rejected : List PyData → Res → Prop := fun ds r => ds = [] ∧ r = vB true
theorem GOk.gd {N n : Nat} {sd : Str} (h : GOk N n sd) : Gd 1 (gD N n sd) := Gd.tuple (gd_cons (Gd.int _) (gd_cons (Gd.int _) (gd_cons (by rcases h.side with ⟨rfl, _⟩ | rfl; exact gd_in; exact gd_out) gd_nil)))
theorem gD_nb (N n : Nat) (sd : Str) : nbD (gD N n sd) = true := rfl
end WC

/-! sorted lists of data -/
namespace WC
open PySem L2
open Evl (Ex)
open PySem.W (AllAlike Sortable EachIs dataLe dataKind KeyedOut)
def leD : PyData → PyData → Bool := dataLe false (fun d => d)
def sortD (ds : List PyData) : List PyData := ds.mergeSort leD
theorem each_zip {h : Heap} : ∀ {vs : List V} {us : List Value}, Vals vs us → ∀ {ds : List PyData}, vs.length = ds.length → EachIs (fun u (b : V × PyData) => RelV b.1 u) us (vs.zip ds)
  | _, _, .nil, [], _ => .nil
  | _, _, .nil, _ :: _, h => by simp at h
  | _, _, .cons r t, [], h => by simp at h
  | _, _, .cons r t, d :: ds, e => .cons r (each_zip (h := h) t (by simpa using e))
theorem each_vals : ∀ {us : List Value} {bs : List (V × PyData)}, EachIs (fun u (b : V × PyData) => RelV b.1 u) us bs → Vals (bs.map Prod.fst) us
  | _, _, .nil => .nil
  | _, _, .cons r t => .cons r (each_vals t)
theorem each_reads {h : Heap} : ∀ {us : List Value} {ds : List PyData} {as : List Addr}, ReadsAll h us ds as → EachIs (fun v k => ∃ as, Reads h v k as) us ds
  | _, _, _, .nil => .nil
  | _, _, _, .cons r t => .cons ⟨_, r⟩ (each_reads t)
theorem perm_dv {F : Hp} : ∀ {vs : List V} {ds : List PyData}, DvAll F vs ds → ∀ b ∈ vs.zip ds, Dv F b.1 b.2
  | _, _, .nil, b, h => by simp at h
  | _, _, .cons r t, b, h => by
    simp only [List.zip_cons_cons, List.mem_cons] at h
    rcases h with rfl | h
    · exact r
    · exact perm_dv t b h
theorem dv_of_pairs {F : Hp} : ∀ {bs : List (V × PyData)}, (∀ b ∈ bs, Dv F b.1 b.2) → DvAll F (bs.map Prod.fst) (bs.map Prod.snd)
  | [], _ => .nil
  | b :: bs, h => .cons (h b (by simp)) (dv_of_pairs fun c hc => h c (List.mem_cons_of_mem _ hc))
section
variable {X : Cx}
def rSortedD (X : Cx) : List V → Hp → VK → Prop := fun vs H Q => ∃ (l : Addr) (xs : List V) (ds : List PyData), vs = [.ref l] ∧ SqL X.K H l xs ∧ DpAll X.K H xs ds ∧ xs.length = ds.length ∧ AllAlike ds ∧ Sortable ds ∧ (∀ d ∈ ds, X.A.units + 2 + d.depth < cLine) ∧
  ∀ p, H p = none → Q (.ref p) (upd H p (.lst (((xs.zip ds).mergeSort (dataLe false Prod.snd)).map Prod.fst)))
theorem cr_sortedD : CallR X (.builtin "sorted") (rSortedD X) := by
  intro pins s σ H vs us Q I r h
  obtain ⟨l, xs, ds, rfl, hs, hd, hlen, hal, hso, hu, q⟩ := h
  obtain ⟨its, rv, hl, hz⟩ := I.list hs
  rw [Vals.ref1 r]
  obtain ⟨as, ra⟩ := Dp.readsAll I ds xs its hd rv
  have hzi : its.length ≤ sizeLine := by rw [← rv.length]; exact hz
  have keep : ∀ b o, s.heap.get? b = some o → (PySem.W.sortingHeap (PySem.W.copyHeap s.heap its) (s.heap.objs.size + 1) its).get? b = some o := fun b o e => PySem.W.sorting_copy_old e
  have ra2 := PyProof.Rows.ReadsAll.keeps keep ra
  refine PySem.W.sorted_vals (κ := dataKind _ ds) hl.isList (PySem.W.SortsAt.data (each_reads ra2) hal hso fun d hd => ?_) hzi ?_
  · have := hu d hd
    show X.A.in1.in1.units + d.depth < cLine
    simp only [Around.in1]
    omega
  · have hbs : (xs.zip ds).map Prod.snd = ds := List.map_snd_zip (by omega)
    have ko : KeyedOut false ((xs.zip ds).map Prod.snd) its (PySem.W.sortVals (dataKind (PySem.W.sortingHeap (PySem.W.copyHeap s.heap its) (s.heap.objs.size + 1) its) ds) false its its) := by
      rw [hbs]
      exact ⟨PySem.W.sortingHeap (PySem.W.copyHeap s.heap its) (s.heap.objs.size + 1) its, its, hal, rfl, each_reads ra2⟩
    have eo := PySem.W.keyedOut_each (R := fun u (b : V × PyData) => RelV b.1 u) Prod.snd ko (each_zip (h := s.heap) rv hlen)
    have vo := each_vals eo
    obtain ⟨ep, he'⟩ := PyProof.Rows.sortedAll_at s.heap its (PySem.W.sortVals (dataKind (PySem.W.sortingHeap (PySem.W.copyHeap s.heap its) (s.heap.objs.size + 1) its) ds) false its its).toArray
    have hl2 : (((xs.zip ds).mergeSort (dataLe false Prod.snd)).map Prod.fst).length ≤ sizeLine := by
      rw [List.length_map, List.length_mergeSort, List.length_zip, ← hlen, Nat.min_self]; exact hz
    exact ⟨.ref _, upd H (s.heap.objs.size + 1) (.lst (((xs.zip ds).mergeSort (dataLe false Prod.snd)).map Prod.fst)), I.laid (t' := s.toks) (fun _ _ => PyProof.Rows.sortedAll_old) (Nat.le_succ _) ⟨hl2, _, ep, vo, he'⟩, rfl, q _ (I.hok.fresh (Nat.le_succ _))⟩
end
theorem zip_sort (xs : List V) (ds : List PyData) (h : xs.length = ds.length) : ((xs.zip ds).mergeSort (dataLe false Prod.snd)).map Prod.snd = sortD ds := by
  unfold sortD
  rw [show ds = (xs.zip ds).map Prod.snd from (List.map_snd_zip (by omega)).symm]
  rw [List.map_snd_zip (by omega)]
  have := List.map_mergeSort (r := dataLe false Prod.snd) (s := leD) (f := (Prod.snd : V × PyData → PyData)) (l := xs.zip ds) (fun a _ b _ => rfl)
  rw [this, List.map_snd_zip (by omega)]
section
variable {X : Cx} {ρ : REnv} {M M1 : List MO} {e : Expr} {r : Slot} {ds : List PyData} {p pos : Pos}
theorem ed_sortD (hm : X.mg "sorted" = none) (h : ED X ρ M e r M1) (rd : Rds M1 r (.list ds)) (hal : AllAlike ds) (hso : Sortable ds) (hu : ∀ d ∈ ds, X.A.units + 2 + d.depth < cLine) (hg : Gl X "sorted" := by rfl) (hs : starEach (e :: []) X.env = (false, eval e X.env) :: starEach [] X.env := by rfl) :
    ED X ρ M (.Call (.Name "sorted" p) [e] [] pos) (.own M1.length) (M1 ++ [.lst (sortD ds)]) :=
  ed_callB cr_sortedD hg hm (by decide +kernel) (ad_cons h ad_nil hs) (fun As F H vs Q m o q => by
    cases o with
    | cons o1 o2 =>
      cases o2
      obtain ⟨l, xs, rfl, hp, hd⟩ := rd_list m o1 rd
      refine ⟨l, xs, ds, rfl, SqL.of hp, (hd.mono m.ex).dp, hd.length, hal, hso, hu, fun n hn => ?_⟩
      have dv : DvAll F (((xs.zip ds).mergeSort (dataLe false Prod.snd)).map Prod.fst) (((xs.zip ds).mergeSort (dataLe false Prod.snd)).map Prod.snd) := dv_of_pairs fun b hb => perm_dv hd b ((List.mergeSort_perm _ _).mem_iff.mp hb)
      rw [zip_sort xs ds hd.length] at dv
      obtain ⟨s4, m4⟩ := newM m hn dv
      exact q _ _ _ _ s4 m4 ⟨n, by rw [← m.len]; simp, rfl⟩) (he := hs)
end
/-! ### the order -/
theorem sortD_perm (ds : List PyData) : (sortD ds).Perm ds := List.mergeSort_perm _ _
theorem leD_trans (a b c : PyData) (h1 : leD a b = true) (h2 : leD b c = true) : leD a c = true := (PySem.W.sortLe_total (PyProof.Rows.listOrd PyProof.Rows.itemOrd) false fun d => PySem.W.keyToks d).trans a b c h1 h2
theorem leD_total (a b : PyData) : (leD a b || leD b a) = true := Bool.or_eq_true_iff.mpr ((PySem.W.sortLe_total (PyProof.Rows.listOrd PyProof.Rows.itemOrd) false fun d => PySem.W.keyToks d).total a b)
theorem sortD_sorted (ds : List PyData) : (sortD ds).Pairwise (fun a b => leD a b = true) := List.pairwise_mergeSort leD_trans leD_total ds
theorem leD_eq (a b : PyData) : leD a b = !PySem.W.dataLt b a := rfl
/-- which of two comes first, where the first items are ints -/
theorem leD_int {a b : Int} {xs ys : List PyData} (h : leD (.tuple (.int a :: xs)) (.tuple (.int b :: ys)) = true) : a ≤ b := by
  apply Classical.byContradiction
  intro z
  rw [leD_eq, PySem.W.dataLt_tuple, PySem.W.dataLt_all_no (by simp [PySem.W.alike]) (by simp [PyData.eqv]; omega), PySem.W.dataLt_int, decide_eq_true (by omega)] at h
  cases h
theorem toks_inj {a b : PyData} (hal : PySem.W.alike a b = true) (n1 : nbD a = true) (n2 : nbD b = true) (e : PySem.W.keyToks a = PySem.W.keyToks b) : a = b := by
  refine eqv_eq n1 n2 ?_
  cases q : PyData.eqv a b with
  | true => rfl
  | false =>
    have := (PySem.W.toks_eqv a b hal).2 q [] [Sum.inl 0]
    rw [e, PySem.W.lex_pre, PyProof.Rows.lex_irrefl] at this
    cases this
theorem leD_anti {a b : PyData} (hal : PySem.W.alike a b = true) (n1 : nbD a = true) (n2 : nbD b = true) (h1 : leD a b = true) (h2 : leD b a = true) : a = b := by
  refine toks_inj hal n1 n2 (PyProof.Rows.lex_total (O := PyProof.Rows.itemOrd) _ _ ?_ ?_)
  · rw [leD_eq] at h2
    simpa [PySem.W.dataLt] using h2
  · rw [leD_eq] at h1
    simpa [PySem.W.dataLt] using h1
/-- the one sorted list -/
theorem sorted_uniq : ∀ {l m : List PyData}, (∀ a ∈ l, ∀ b ∈ l, leD a b = true → leD b a = true → a = b) → l.Pairwise (fun a b => leD a b = true) → m.Pairwise (fun a b => leD a b = true) → l.Perm m → l = m
  | [], m, _, _, _, p => (List.perm_nil.mp p.symm).symm
  | a :: l, [], _, _, _, p => by have := p.length_eq; simp at this
  | a :: l, b :: m, anti, h1, h2, p => by
    obtain ⟨h3, h4⟩ := List.pairwise_cons.mp h1
    obtain ⟨h5, h6⟩ := List.pairwise_cons.mp h2
    have refl : ∀ x, leD x x = true := fun x => by have := leD_total x x; simpa using this
    have e : a = b := by
      have hb : b ∈ a :: l := p.mem_iff.mpr (by simp)
      have ha : a ∈ b :: m := p.mem_iff.mp (by simp)
      refine anti a (by simp) b hb ?_ ?_
      · rcases List.mem_cons.mp hb with z | z
        · rw [z]; exact refl a
        · exact h3 b z
      · rcases List.mem_cons.mp ha with z | z
        · rw [z]; exact refl b
        · exact h5 a z
    subst e
    rw [sorted_uniq (fun x hx y hy => anti x (List.mem_cons_of_mem _ hx) y (List.mem_cons_of_mem _ hy)) h4 h6 (List.perm_cons a |>.mp p)]
theorem sortD_congr {l m : List PyData} (anti : ∀ a ∈ l, ∀ b ∈ l, leD a b = true → leD b a = true → a = b) (p : l.Perm m) : sortD l = sortD m :=
  sorted_uniq (fun a ha b hb => anti a ((sortD_perm l).mem_iff.mp ha) b ((sortD_perm l).mem_iff.mp hb)) (sortD_sorted l) (sortD_sorted m) ((sortD_perm l).trans (p.trans (sortD_perm m).symm))
/-! ### boxes: what is looked at -/
def lstB (v : PyData) (a b : Nat) (lo hi : Int) : Bool := match v with
  | .list ds => decide (a ≤ ds.length) && decide (ds.length ≤ b) && ds.all (fun d => isIntB d lo hi)
  | _ => false
def Sig_check_box (c : Cl) : List PyData → Res → Prop := fun ds r => ∃ (v : PyData) (lo : Int), ds = [v, .int lo] ∧ ((lstB v 1 20 lo 150 = true ∧ r = .val .none) ∨ (lstB v 1 20 lo 150 = false ∧ r = .err (.ref c.box)))
def Sig_check_line (c : Cl) : List PyData → Res → Prop := fun ds r => ∃ (v : PyData) (R : Int), ds = [.int R, v] ∧ ((lstB v 2 20 0 (R - 1) = true ∧ r = .val .none) ∨ (lstB v 2 20 0 (R - 1) = false ∧ r = .err (.ref c.box)))
def Sig_check_side (c : Cl) : List PyData → Res → Prop := fun ds r => ∃ (v : PyData), ds = [v] ∧ ((isSideB v = true ∧ r = .val .none) ∨ (isSideB v = false ∧ r = .err (.ref c.num)))
theorem allB_eq (ds : List PyData) (lo hi : Int) : ((List.range ds.length).map fun i => isIntB (ds.getD i .none) lo hi).all id = ds.all (fun d => isIntB d lo hi) := by
  rw [Bool.eq_iff_iff, List.all_eq_true, List.all_eq_true]
  constructor
  · intro h d hd
    obtain ⟨i, hi', e⟩ := List.mem_iff_getElem.mp hd
    have := h _ (List.mem_map.mpr ⟨i, List.mem_range.mpr hi', rfl⟩)
    rw [List.getD_eq_getElem?_getD, List.getElem?_eq_getElem hi'] at this
    simp only [Option.getD_some, id] at this
    rw [e] at this; exact this
  · intro h b hb
    obtain ⟨i, hi', rfl⟩ := List.mem_map.mp hb
    have hi2 := List.mem_range.mp hi'
    rw [List.getD_eq_getElem?_getD, List.getElem?_eq_getElem hi2]
    exact h _ (List.getElem_mem hi2)
/-! ### wheels read back -/
def stepsN (R : Nat) (ls : List Nat) : List Int := gathI (ls.length - 1) (fun _ => true) (fun i => ((intsI ls).getD (i + 1) 0 - (intsI ls).getD i 0) % (R : Int))
def wheelsN (R : Nat) (ls : List Nat) (sd : Str) : List Nat := match ssort (stepsN R ls) with
  | [s] => ((List.range 149).map (· + 2)).filter fun w => decide (((w : Nat) : Int) % (R : Int) = s) && isGearB (gD R w sd)
  | _ => []
def Sig_wheels_from : List PyData → Res → Prop := fun ds r => ∃ (R : Nat) (ls : List Nat) (sd : Str), 3 ≤ R ∧ R ≤ 150 ∧ 2 ≤ ls.length ∧ ls.length ≤ 20 ∧ (∀ x ∈ ls, x < R) ∧ (sd = "in" ∨ sd = "out") ∧ ds = [.int (R : Nat), .list (intsD ls), .str sd] ∧ r = .new (intsD (wheelsN R ls sd))
theorem lst_ok {ls : List Nat} {R a b : Nat} (h1 : a ≤ ls.length) (h2 : ls.length ≤ b) (hx : ∀ x ∈ ls, x < R) : lstB (.list (intsD ls)) a b 0 ((R : Int) - 1) = true := by
  unfold lstB
  simp only [intsD_len]
  rw [decide_eq_true h1, decide_eq_true h2]
  simp only [Bool.true_and, List.all_eq_true]
  intro d hd
  obtain ⟨i, hi, rfl⟩ := List.mem_map.mp hd
  obtain ⟨x, hx', rfl⟩ := mem_intsI'.mp hi
  have := hx x hx'
  exact isInt_ok (by omega) (by omega)
theorem wheels_gath (R : Nat) (sd : Str) (s0 : Int) : intsD (((List.range 149).map (· + 2)).filter fun w => decide (((w : Nat) : Int) % (R : Int) = s0) && isGearB (gD R w sd)) = (gathI 149 (fun i => decide (((2 : Int) + (i : Int)) % (R : Int) = s0) && isGearB (.tuple [.int (R : Nat), .int (2 + (i : Int)), .str sd])) (fun i => 2 + (i : Int))).map .int := by
  have e : ∀ i : Nat, (((i + 2 : Nat)) : Int) = 2 + (i : Int) := fun i => by omega
  unfold intsD intsI gathI gD
  rw [List.filter_map]
  simp only [List.map_map, Function.comp_def, e]
end WC

/-! tables of sets up to 512 slots -/
namespace WC
open PySem PySem.Spec PyProof.Rows L2
/-- sizes that a set of up to 300 goes through -/
def Msk (m : Nat) : Prop := MaskOk m ∨ m = 511
def orb : Nat → Nat → List Nat
  | 0, _ => []
  | n + 1, x => x :: orb n ((x * 5 + 1) % 512)
theorem orb_len : ∀ n x, (orb n x).length = n
  | 0, _ => rfl
  | n + 1, x => by show (orb n _).length + 1 = _; rw [orb_len]
theorem orb_get : ∀ (n k a : Nat), k < n → (orb n (lcgN 511 a))[k]? = some (lcgN 511 (a + k))
  | 0, _, _, h => absurd h (Nat.not_lt_zero _)
  | n + 1, 0, a, _ => rfl
  | n + 1, k + 1, a, h => by
    show (orb n (lcgN 511 (a + 1)))[k]? = _
    rw [orb_get n k (a + 1) (by omega), show a + 1 + k = a + (k + 1) by omega]
theorem orb_all : ((List.range 512).all fun j => (orb 512 0).contains j) = true := by decide +kernel
theorem lcg511 {j : Nat} (hj : j ≤ 511) : ∃ b, b ≤ 511 ∧ lcgN 511 b = j := by
  have h := List.all_eq_true.mp orb_all j (List.mem_range.mpr (by omega))
  obtain ⟨b, hb⟩ := List.mem_iff_getElem?.mp (List.contains_iff_mem.mp h)
  have hl : b < 512 := by
    have := (List.getElem?_eq_some_iff.mp hb).1
    rwa [orb_len] at this
  have := orb_get 512 b 0 hl
  rw [show orb 512 (lcgN 511 0) = orb 512 0 from rfl, hb, Nat.zero_add] at this
  exact ⟨b, by omega, (Option.some.inj this).symm⟩
theorem Msk.hit {m : Nat} (M : Msk m) (h : Int) {j : Nat} (hj : j ≤ m) : ∃ n, n ≤ m + 12 ∧ runI m (SetTable.bits h) n = j := by
  rcases M with M | rfl
  · exact run_meets M h hj
  · obtain ⟨x, hx, ex⟩ := lcg511 (runI_le 511 (SetTable.bits h) 12)
    obtain ⟨y, hy, ey⟩ := lcg511 hj
    have z : lcgN 511 512 = 0 := by decide +kernel
    have turn : ∀ k, lcgN 511 (512 + k) = lcgN 511 k := fun k => by
      have := lcgN_add 511 0 k
      rw [Nat.zero_add] at this
      rw [← lcgN_add, z]
      exact this
    have go : ∀ k, x + k = y ∨ x + k = 512 + y → runI 511 (SetTable.bits h) (12 + k) = j := fun k e => by
      rw [runI_tail (bits_lt h), ← ex, lcgN_add]
      rcases e with e | e
      · rw [e, ey]
      · rw [e, turn, ey]
    by_cases c : x ≤ y
    · exact ⟨_, by omega, go (y - x) (by omega)⟩
    · exact ⟨_, by omega, go (512 + y - x) (by omega)⟩
theorem Msk.odd {m : Nat} (M : Msk m) : m % 2 = 1 := by
  rcases M with M | rfl
  · exact mask_odd M
  · rfl
theorem Msk.top {m : Nat} (M : Msk m) : m ≤ 511 := by
  rcases M with (rfl | rfl | rfl) | rfl <;> decide
theorem way_in (m : Nat) (h : Int) (k : Nat) : way m h k ≤ m := by
  have hi : SetTable.bits h % (m + 1) ≤ m := Nat.le_of_lt_succ (Nat.mod_lt _ (Nat.succ_pos _))
  have r := nth_in k (runAt m (SetTable.bits h % (m + 1)) (SetTable.bits h)) (by
    obtain ⟨x, y, _⟩ := runEnd_bd hi
    show SetTable.bits h % (m + 1) + (SetTable.runEnd m (SetTable.bits h % (m + 1)) - SetTable.bits h % (m + 1)) ≤ m
    omega)
  exact Nat.le_trans (Nat.le_add_right _ _) r
/-- a table in which each hash leads to its slot over taken ones -/
structure Lay (t : SetTable) (hs : List Int) : Prop where
  up : L2.Ris t.place.toList
  nod : t.dummies = #[]
  len : t.place.toList.length = hs.length
  msk : Msk t.mask
  top : ∀ x ∈ t.place.toList, x ≤ t.mask
  met : ∀ q ∈ t.place.toList.zip hs, ∃ k, way t.mask q.2 k = q.1 ∧ ∀ i, i < k → way t.mask q.2 i ∈ t.place.toList
theorem zip_take {α β : Type} {l : List α} {m : List β} {p : Nat} {q : α × β} (h : q ∈ (l.take p).zip (m.take p)) : q ∈ l.zip m := by
  obtain ⟨i, e⟩ := List.mem_iff_getElem?.mp h
  rw [List.getElem?_zip_eq_some] at e
  obtain ⟨e1, e2⟩ := e
  apply List.mem_of_getElem? (i := i)
  rw [List.getElem?_zip_eq_some]
  refine ⟨?_, ?_⟩
  · rw [List.getElem?_take] at e1; split at e1
    · exact e1
    · cases e1
  · rw [List.getElem?_take] at e2; split at e2
    · exact e2
    · cases e2
theorem zip_drop {α β : Type} {l : List α} {m : List β} {p : Nat} {q : α × β} (h : q ∈ (l.drop p).zip (m.drop p)) : q ∈ l.zip m := by
  obtain ⟨i, e⟩ := List.mem_iff_getElem?.mp h
  rw [List.getElem?_zip_eq_some, List.getElem?_drop, List.getElem?_drop] at e
  exact List.mem_of_getElem? (i := p + i) (by rw [List.getElem?_zip_eq_some]; exact e)
section
variable {t : SetTable} {hs : List Int}
theorem Lay.gap (L : Lay t hs) (few : hs.length ≤ t.mask) (h : Int) : ∃ K, K < 10 * SetTable.turns t.mask ∧ way t.mask h K ∉ t.place.toList ∧ ∀ i, i < K → way t.mask h i ∈ t.place.toList := by
  obtain ⟨j, hj, no⟩ := st_missing t.place.toList (t.mask + 1) (by rw [L.len]; omega)
  obtain ⟨n, hn, e⟩ := L.msk.hit h (Nat.le_of_lt_succ hj)
  obtain ⟨k, hk, e2⟩ := run_nth t.mask (SetTable.bits h) n
  have here : way t.mask h k = j := by
    show (nth _ _ _).j = j
    rw [e2]; exact e
  obtain ⟨K, le, out, least⟩ := st_least (p := fun k => way t.mask h k ∉ t.place.toList) k (by show way t.mask h k ∉ _; rw [here]; exact no)
  exact ⟨K, by unfold SetTable.turns; omega, out, fun i hi => Classical.byContradiction (least i hi)⟩
theorem Lay.sits (L : Lay t hs) {h : Int} {K j : Nat} (out : way t.mask h K ∉ t.place.toList) (q : (j, h) ∈ t.place.toList.zip hs) : ∃ k, k < K ∧ way t.mask h k = j := by
  obtain ⟨k, e, b⟩ := L.met _ q
  refine ⟨k, Classical.byContradiction fun c => ?_, e⟩
  rcases Nat.lt_or_ge K k with d | d
  · exact out (b K d)
  · have : k = K := by omega
    subst this
    exact out (by rw [e]; exact (List.of_mem_zip q).1)
theorem Lay.add (L : Lay t hs) {h : Int} {j K : Nat} (ej : way t.mask h K = j) (out : j ∉ t.place.toList) (b : ∀ i, i < K → way t.mask h i ∈ t.place.toList) :
    Lay (t.put j).1 (hs.take (SetTable.below t.place j) ++ h :: hs.drop (SetTable.below t.place j)) := by
  have c : SetTable.below t.place j ≤ t.place.toList.length := by rw [Array.length_toList]; exact (below_cut L.up j).1
  have pp := put_place t j
  refine ⟨ris_insert L.up fun e => out (List.mem_of_getElem? (by rw [Array.getElem?_toList]; exact e)), put_dm L.nod j, ?_, L.msk, fun x hx => ?_, fun q hq => ?_⟩
  · rw [pp, len_ins _ c, len_ins _ (by rw [← L.len]; exact c), L.len]
  · rw [pp] at hx
    rcases mem_ins.1 hx with rfl | hx
    · rw [← ej]; exact way_in _ _ _
    · exact L.top x hx
  · rw [pp] at hq ⊢
    rw [List.zip_append (by rw [List.length_take, List.length_take, L.len]), List.zip_cons_cons] at hq
    have old : q ∈ t.place.toList.zip hs ∨ q = (j, h) := by
      rcases List.mem_append.mp hq with z | z
      · exact .inl (zip_take z)
      · rcases List.mem_cons.mp z with z | z
        · exact .inr z
        · exact .inl (zip_drop z)
    rcases old with z | rfl
    · obtain ⟨k, e, s⟩ := L.met q z
      exact ⟨k, e, fun i hi => mem_ins.2 (.inr (s i hi))⟩
    · exact ⟨K, ej, fun i hi => mem_ins.2 (.inr (b i hi))⟩
end
/-! ### all laid anew -/
section
variable {m : Nat}
theorem free_at (M : Msk m) (o : Array (Option Nat)) (h : Int) {j : Nat} (hj : j ≤ m) (free : oAt o j = none) :
    ∃ K, SetTable.layClean.free m o (SetTable.turns m) (SetTable.bits h % (m + 1)) (SetTable.bits h) = some (way m h K) ∧ oAt o (way m h K) = none ∧ ∀ i, i < K → oAt o (way m h i) ≠ none := by
  obtain ⟨n, hn, e⟩ := M.hit h hj
  generalize ho : off m (SetTable.bits h % (m + 1)) (SetTable.bits h) n = f
  have here : way m h f = j := by
    show (nth _ _ _).j = j
    rw [← ho, nth_off, itL_run]; exact e
  obtain ⟨K, le, fr, least⟩ := st_least (p := fun k => oAt o (way m h k) = none) f (by show oAt o (way m h f) = none; rw [here]; exact free)
  refine ⟨K, free_spec m o _ n _ _ K (by unfold SetTable.turns; omega) (by rw [ho]; exact le) (fun i hi => ?_) (by show (oAt o (way m h K)).isNone = true; rw [fr]; rfl), fr, least⟩
  have := least i hi
  show (oAt o (way m h i)).isNone = false
  cases z : oAt o (way m h i) with
  | none => exact absurd z this
  | some _ => rfl
/-- who sits where, by the list of the slots taken -/
structure Sit (m : Nat) (done : List Int) (o : Array (Option Nat)) (ps : List Nat) : Prop where
  sz : o.size = m + 1
  len : ps.length = done.length
  is : ∀ j, j ≤ m → ∀ k, oAt o j = some k ↔ ps[k]? = some j
  top : ∀ j ∈ ps, j ≤ m
  met : ∀ q ∈ ps.zip done, ∃ k, way m q.2 k = q.1 ∧ ∀ i, i < k → way m q.2 i ∈ ps
theorem Sit.has {done : List Int} {o : Array (Option Nat)} {ps : List Nat} (S : Sit m done o ps) {j : Nat} (hj : j ≤ m) : oAt o j ≠ none ↔ j ∈ ps := by
  constructor
  · intro z
    cases e : oAt o j with
    | none => exact absurd e z
    | some k => exact List.mem_of_getElem? ((S.is j hj k).mp e)
  · intro z e
    obtain ⟨k, hk⟩ := List.mem_iff_getElem?.mp z
    rw [(S.is j hj k).mpr hk] at e
    cases e
theorem Sit.more (M : Msk m) {done : List Int} {o : Array (Option Nat)} {ps : List Nat} (S : Sit m done o ps) (few : done.length ≤ m) (h : Int) :
    ∃ j, SetTable.layClean.free m o (SetTable.turns m) (SetTable.bits h % (m + 1)) (SetTable.bits h) = some j ∧ Sit m (done ++ [h]) (o.setIfInBounds j (some done.length)) (ps ++ [j]) := by
  obtain ⟨j0, h0, no⟩ := st_missing ps (m + 1) (by rw [S.len]; omega)
  obtain ⟨K, e1, e2, e3⟩ := free_at M o h (Nat.le_of_lt_succ h0) (Classical.byContradiction fun z => no ((S.has (Nat.le_of_lt_succ h0)).mp z))
  have jm := way_in m h K
  have js : way m h K < o.size := by rw [S.sz]; omega
  have jn : way m h K ∉ ps := fun z => (S.has jm).mpr z e2
  refine ⟨_, e1, by rw [Array.size_setIfInBounds, S.sz], by rw [List.length_append, List.length_append, S.len]; rfl, fun j hj k => ?_, fun j hj => ?_, fun q hq => ?_⟩
  · by_cases c : j = way m h K
    · subst c
      rw [oAt_set_self _ js]
      constructor
      · intro z; cases z
        rw [List.getElem?_append_right (by rw [S.len]; exact Nat.le_refl _), S.len, Nat.sub_self]; rfl
      · intro z
        by_cases d : k < ps.length
        · rw [List.getElem?_append_left d] at z
          exact absurd (List.mem_of_getElem? z) jn
        · have := (List.getElem?_eq_some_iff.mp z).1
          rw [List.length_append] at this
          have e : k = done.length := by rw [← S.len]; simp at this; omega
          rw [e]
    · rw [oAt_set_ne _ c, S.is j hj k]
      constructor
      · intro z
        rw [List.getElem?_append_left (List.getElem?_eq_some_iff.mp z).1]; exact z
      · intro z
        by_cases d : k < ps.length
        · rwa [List.getElem?_append_left d] at z
        · rw [List.getElem?_append_right (by omega)] at z
          have := List.mem_of_getElem? z
          exact absurd (List.mem_singleton.mp this) c
  · rcases List.mem_append.mp hj with z | z
    · exact S.top j z
    · rw [List.mem_singleton.mp z]; exact jm
  · rw [List.zip_append S.len] at hq
    rcases List.mem_append.mp hq with z | z
    · obtain ⟨k, e, b⟩ := S.met q z
      exact ⟨k, e, fun i hi => List.mem_append_left _ (b i hi)⟩
    · rw [List.mem_singleton.mp z]
      exact ⟨K, rfl, fun i hi => List.mem_append_left _ ((S.has (way_in m h i)).mp (e3 i hi))⟩
theorem Sit.fold (M : Msk m) : ∀ (rest done : List Int) (o : Array (Option Nat)) (ps : List Nat), Sit m done o ps → done.length + rest.length ≤ m →
    ∃ o' ps', rest.foldl (stepF m) (some (o, done.length)) = some (o', done.length + rest.length) ∧ Sit m (done ++ rest) o' ps'
  | [], done, o, ps, S, _ => ⟨o, ps, rfl, by rw [List.append_nil]; exact S⟩
  | h :: rest, done, o, ps, S, few => by
    rw [List.length_cons] at few
    obtain ⟨j, e, S1⟩ := S.more M (by omega) h
    have l1 : (done ++ [h]).length = done.length + 1 := List.length_append
    obtain ⟨o', ps', f, S2⟩ := Sit.fold M rest (done ++ [h]) _ _ S1 (by rw [l1]; omega)
    refine ⟨o', ps', ?_, by rw [List.append_assoc] at S2; exact S2⟩
    rw [List.foldl_cons, stepF_some e, ← l1, f, l1, List.length_cons]
    congr 2; omega
theorem laid_anew (M : Msk m) {hs : Array Int} (few : hs.size ≤ m) : ∃ o ps, SetTable.layClean m hs = some o ∧ Sit m hs.toList o ps := by
  have S0 : Sit m [] (Array.replicate (m + 1) none) [] := ⟨by simp, rfl, fun j hj k => by rw [oAt_init hj]; simp, (fun j hj => by cases hj), (fun q hq => by cases hq)⟩
  obtain ⟨o, ps, f, S⟩ := Sit.fold M hs.toList [] _ _ S0 (by rw [Array.length_toList]; show 0 + hs.size ≤ m; omega)
  refine ⟨o, ps, ?_, S⟩
  rw [layClean_eq, show hs.toList.foldl (stepF m) (some (Array.replicate (m + 1) none, 0)) = _ from f]; rfl
theorem relaid_lay (t : SetTable) {hs : Array Int} {wanted : Nat} (hw : SetTable.sizeAbove wanted - 1 = m) (M : Msk m) (few : hs.size ≤ m) :
    ∃ t' order, t.relaid hs wanted = some (t', order) ∧ order.toList.Perm (List.range hs.size) ∧ Lay t' (order.toList.map fun i => hs.getD i 0) ∧ t'.mask = m ∧ t'.led = t.led ∧ t'.plain = t.plain := by
  obtain ⟨o, ps, e, S⟩ := laid_anew M few
  have ris := ris_live (fun j => o.getD j none) (List.range (m + 1)) (by unfold L2.Ris; first | exact List.pairwise_lt_range | exact List.pairwise_lt_range _)
  have r1 : L2.Ris ((liveOf m o).map (·.1)) := ris.1
  have lv : ∀ j k, (j, k) ∈ liveOf m o ↔ ps[k]? = some j := fun j k => by
    rw [mem_live S.sz]
    constructor
    · rintro ⟨x, y⟩; exact (S.is j x k).mp y
    · intro z; have := S.top j (List.mem_of_getElem? z); exact ⟨this, (S.is j this k).mpr z⟩
  have nd1 : ((liveOf m o).map (·.1)).Nodup := r1.imp fun h => Nat.ne_of_lt h
  have ndl : (liveOf m o).Nodup := nodup_of_map nd1
  have psn : ps.length = hs.size := by rw [S.len, Array.length_toList]
  have nd2 : ((liveOf m o).map (·.2)).Nodup := by
    unfold List.Nodup
    rw [List.pairwise_map]
    refine ndl.imp_of_mem fun {x y} hx hy ne e => ne ?_
    obtain ⟨x1, x2⟩ := x
    obtain ⟨y1, y2⟩ := y
    simp only at e; subst e
    have := ((lv _ _).mp hx).symm.trans ((lv _ _).mp hy)
    rw [Option.some.inj this]
  have pm : ((liveOf m o).map (·.2)).Perm (List.range hs.size) := by
    refine (List.perm_ext_iff_of_nodup nd2 List.nodup_range).mpr fun k => ?_
    rw [List.mem_range, ← psn, List.mem_map]
    constructor
    · rintro ⟨⟨j, k'⟩, hj, rfl⟩
      exact (List.getElem?_eq_some_iff.mp ((lv _ _).mp hj)).1
    · intro hk
      exact ⟨(ps[k], k), (lv _ _).mpr (List.getElem?_eq_getElem hk), rfl⟩
  have mem1 : ∀ j, j ∈ (liveOf m o).map (·.1) ↔ j ∈ ps := fun j => by
    rw [List.mem_map]
    constructor
    · rintro ⟨⟨j', k⟩, hj, rfl⟩; exact List.mem_of_getElem? ((lv _ _).mp hj)
    · intro z
      obtain ⟨k, hk⟩ := List.mem_iff_getElem?.mp z
      exact ⟨(j, k), (lv _ _).mpr hk, rfl⟩
  refine ⟨tabOf t m o, ((liveOf m o).map (·.2)).toArray, by rw [relaid_eq, hw, e]; rfl, pm, ⟨r1, rfl, ?_, M, fun x hx => S.top x ((mem1 x).mp hx), fun q hq => ?_⟩, rfl, rfl, rfl⟩
  · show ((liveOf m o).map (·.1)).length = (((liveOf m o).map (·.2)).map fun i => hs.getD i 0).length
    simp
  · have hq' : q ∈ ((liveOf m o).map (·.1)).zip (((liveOf m o).map (·.2)).map fun i => hs.getD i 0) := hq
    rw [List.map_map, List.zip_map', List.mem_map] at hq'
    obtain ⟨⟨j, k⟩, hj, rfl⟩ := hq'
    have pk := (lv _ _).mp hj
    have kl := (List.getElem?_eq_some_iff.mp pk).1
    have hk : hs.toList[k]? = some (hs.getD k 0) := by
      rw [Array.getElem?_toList, Array.getD_eq_getD_getElem?, Array.getElem?_eq_getElem (by omega)]; rfl
    obtain ⟨K, e1, e2⟩ := S.met (j, hs.getD k 0) (List.mem_of_getElem? (i := k) (by rw [List.getElem?_zip_eq_some]; exact ⟨pk, hk⟩))
    exact ⟨K, e1, fun i hi => (mem1 _).mpr (e2 i hi)⟩
end
end WC

/-! sets of tuples, up to 300 -/
namespace WC
open PySem PySem.Spec PyProof.Rows L2
/-- where the search for h stands after c steps -/
abbrev prb (m : Nat) (h : Int) (c : Nat) : SetTable.Probe := nth m (runAt m (SetTable.bits h % (m + 1)) (SetTable.bits h)) c
theorem prb_add (m : Nat) (h : Int) (c q : Nat) : nth m (prb m h c) q = prb m h (c + q) := (nth_add m c _ q).symm
theorem prb_dummy (m : Nat) (h : Int) : ∀ c, (prb m h c).dummy = none
  | 0 => rfl
  | c + 1 => by
    show (nth m _ (c + 1)).dummy = none
    rw [nth_succ]
    have := prb_dummy m h c
    unfold adv; split <;> exact this
section
variable {P : Program} {w : World} {A : Around} {E : Value → Shared → Prop} {s : Shared}
structure PSet (P : Program) (w : World) (h : Heap) (a : Addr) (L : List (Addr × List Int)) (es : Array (Int × Value)) (ep : Nat) (t : SetTable) : Prop where
  is : ∃ o, h.get? a = some o ∧ o.ExactSet ∧ o.data = .set es ep t
  row : es.toList = rowsOf P w L
  lay : Lay t (L.map fun p => thash P w p.2)
  one : (L.map (·.2)).Nodup
  tup : ∀ p ∈ L, IsT P w h p.2 p.1
  pln : t.plain = true
  led : w.params.followText "set-order" = true ∨ t.led = true
  room : L.length * 5 < t.mask * 3
  few : L.length ≤ 300
variable {a : Addr} {L : List (Addr × List Int)} {es : Array (Int × Value)} {ep : Nat} {t : SetTable}
theorem es_len {L : List (Addr × List Int)} {es : Array (Int × Value)} (h : es.toList = rowsOf P w L) : es.size = L.length := by rw [← Array.length_toList, h, rowsOf, List.length_map]
theorem PSet.plen (R : PSet P w s.heap a L es ep t) : t.place.toList.length = L.length := by rw [R.lay.len, List.length_map]
theorem fits_of {hs : List Int} (Y : Lay t hs) (h1 : hs.length = es.size) (h2 : es.size ≤ t.mask) : t.fits es.size = true := by
  have e := Y.len
  rw [Array.length_toList] at e
  unfold SetTable.fits SetTable.fill
  rw [Y.nod, Bool.and_eq_true, beq_iff_eq, decide_eq_true_eq]
  exact ⟨by omega, by show t.place.size + 0 ≤ _; omega⟩
theorem PSet.fits (R : PSet P w s.heap a L es ep t) : t.fits es.size = true := by
  have r := R.room
  have e := es_len R.row
  exact fits_of R.lay (by rw [List.length_map, e]) (by omega)
theorem PSet.at_ (R : PSet P w s.heap a L es ep t) {i : Nat} {p : Addr × List Int} (h : L[i]? = some p) : es[i]? = some (thash P w p.2, Value.ref p.1) := by
  rw [← Array.getElem?_toList, R.row, rowsOf, List.getElem?_map, h]; rfl
theorem PSet.good (R : PSet P w s.heap a L es ep t) : ¬ t.gaveWay = true := by unfold SetTable.gaveWay; rw [R.lay.msk.odd]; decide
/-- the search, from its c-th step on -/
theorem PSet.seek (R : PSet P w s.heap a L es ep t) {x : Addr} {k : List Int} (hx : IsT P w s.heap k x) (hu : A.units < cLine) {K : Nat} (Kt : K < 10 * SetTable.turns t.mask) (out : way t.mask (thash P w k) K ∉ t.place.toList) (full : ∀ c, c < K → way t.mask (thash P w k) c ∈ t.place.toList)
    {Q : SetFound → Shared → Prop} (yes : k ∈ L.map (·.2) → Q (.there none) s) (no : k ∉ L.map (·.2) → Q (.free (way t.mask (thash P w k) K) false) s) :
    ∀ (f c : Nat) (st : Option SetTable.Probe), st.getD (t.probeStart (thash P w k)) = prb t.mask (thash P w k) c → c ≤ K → K - c < f → (∀ (i : Nat) p, L[i]? = some p → p.2 = k → ∃ d, c ≤ d ∧ d < K ∧ t.place.toList[i]? = some (way t.mask (thash P w k) d)) →
      wpAny (model P w) A (setSearchFrom a (.ref x) (thash P w k) true f st) Q E s
  | 0, _, _, _, _, hf, _ => absurd hf (Nat.not_lt_zero _)
  | f + 1, c, st, est, cK, hf, own => by
    obtain ⟨ob, g1, g2, g3⟩ := R.is
    have hashOf : ∀ (i : Nat) p, L[i]? = some p → (es[i]?.map (·.1)).getD 0 = thash P w p.2 := fun i p hp => by rw [R.at_ hp]; rfl
    have step : ∀ q, (nth t.mask (prb t.mask (thash P w k) c) q).j = way t.mask (thash P w k) (c + q) := fun q => by rw [prb_add]
    have answer := go_spec t R.lay.up R.lay.nod (fun i => (es[i]?.map (·.1)).getD 0) (thash P w k) (10 * SetTable.turns t.mask) (K - c) (prb t.mask (thash P w k) c) (prb_dummy _ _ c) (by omega) (fun q hq => by rw [step]; exact full _ (by omega)) (by rw [step, show c + (K - c) = K by omega]; exact out)
    rw [setSearchFrom_succ]; refine wpAny_bind (wpAny_setState_of g1 g3 R.fits ?_); dsimp only; refine wp_if_neg R.good ?_; try refine wpAny_bind (wpAny_pure ?_)
    rcases answer with ⟨q, i, hq, hi, hh, before, e⟩ | ⟨none_, e⟩
    · rw [step] at hi
      have e' : t.probe (fun i => (es[i]?.map (·.1)).getD 0) (thash P w k) (st.getD (t.probeStart (thash P w k))) = some (.candidate (way t.mask (thash P w k) (c + q)) i (prb t.mask (thash P w k) (c + (q + 1)))) := by rw [est, ← step, ← prb_add]; exact e
      rw [e']; dsimp only
      have il : i < L.length := by rw [← R.plen]; exact (List.getElem?_eq_some_iff.mp hi).1
      obtain ⟨p, hp⟩ : ∃ p, L[i]? = some p := ⟨_, List.getElem?_eq_getElem il⟩
      have pL := List.mem_of_getElem? hp
      have live : t.slot (way t.mask (thash P w k) (c + q)) = .live i := slot_live R.lay.up hi
      have rest : wpAny (model P w) A (searchRest a (.ref x) (thash P w k) true f es t (way t.mask (thash P w k) (c + q)) i (prb t.mask (thash P w k) (c + (q + 1)))) Q E s := by
        unfold searchRest; rw [R.at_ hp]; dsimp only
        refine wpAny_bind (wpAny_holding (wpAny_eqBool_tuple hu (R.tup p pL) hx (wpAny_bind (wpAny_setState_of g1 g3 R.fits ?_)))); dsimp only
        by_cases same : p.2 = k
        · exact wp_if_pos (by simp [same]) (wpAny_pure (yes (List.mem_map.mpr ⟨p, pL, same⟩)))
        · refine wp_if_neg (by simp [same]) ?_; try refine wpAny_bind (wpAny_pure ?_)
          rw [sameMem]; dsimp only; simp only [if_true, live, R.at_ hp]
          refine wpAny_bind (wpAny_isSame_ref_self (wpAny_bind (wpAny_pure ?_))); simp only [if_true]
          refine wp_if_neg (by simp [same]) (PSet.seek R hx hu Kt out full yes no f (c + (q + 1)) _ rfl (by omega) (by omega) fun i0 p0 h0 k0 => ?_)
          obtain ⟨d, d1, d2, d3⟩ := own i0 p0 h0 k0
          refine ⟨d, Classical.byContradiction fun z => ?_, d2, d3⟩
          by_cases z2 : d = c + q
          · subst z2
            have l0 := slot_live R.lay.up d3
            rw [live] at l0; injection l0 with l0
            rw [← l0, hp] at h0
            exact same ((congrArg Prod.snd (Option.some.inj h0)).trans k0)
          · exact before (d - c) i0 (by omega) (by rw [step, show c + (d - c) = d by omega]; exact d3) ((hashOf i0 p0 h0).trans (by rw [k0]))
      by_cases ld : t.led = true
      · refine wp_if_neg (by simp [ld]) ?_; try refine wpAny_bind (wpAny_pure ?_)
        exact rest
      · refine wp_if_pos (by simp [ld]) (wpAny_bind (seen_tup hx (fun y hy => ?_) ?_))
        · obtain ⟨u, hu', rfl⟩ := List.mem_map.mp hy
          have hu2 : u ∈ es.toList := by
            have : u ∈ es ∧ u.1 = thash P w k := by simpa using hu'
            simpa using this.1
          rw [R.row] at hu2
          obtain ⟨p2, m2, rfl⟩ := List.mem_map.mp hu2
          exact ⟨p2.2, p2.1, rfl, R.tup p2 m2⟩
        · refine wp_if_neg (by decide) ?_; try refine wpAny_bind (wpAny_pure ?_)
          exact rest
    · have e' : t.probe (fun i => (es[i]?.map (·.1)).getD 0) (thash P w k) (st.getD (t.probeStart (thash P w k))) = some (.empty (way t.mask (thash P w k) K) none) := by
        rw [est, show way t.mask (thash P w k) K = (nth t.mask (prb t.mask (thash P w k) c) (K - c)).j by rw [step, show c + (K - c) = K by omega]]; exact e
      rw [e']; dsimp only
      refine wpAny_pure (no fun hm => ?_)
      obtain ⟨p0, m0, k0⟩ := List.mem_map.mp hm
      obtain ⟨i0, h0⟩ := List.mem_iff_getElem?.mp m0
      obtain ⟨d, d1, d2, d3⟩ := own i0 p0 h0 k0
      exact none_ (d - c) i0 (by omega) (by rw [step, show c + (d - c) = d by omega]; exact d3) ((hashOf i0 p0 h0).trans (by rw [k0]))
theorem PSet.find (R : PSet P w s.heap a L es ep t) {x : Addr} {k : List Int} (hx : IsT P w s.heap k x) (hu : A.units < cLine) {Q : SetFound → Shared → Prop} (yes : k ∈ L.map (·.2) → Q (.there none) s)
    (no : ∀ K, k ∉ L.map (·.2) → way t.mask (thash P w k) K ∉ t.place.toList → (∀ c, c < K → way t.mask (thash P w k) c ∈ t.place.toList) → Q (.free (way t.mask (thash P w k) K) false) s) :
    wpAny (model P w) A (setSearch a (.ref x) (thash P w k) true) Q E s := by
  have r := R.room
  obtain ⟨K, Kt, out, full⟩ := R.lay.gap (by rw [List.length_map]; omega) (thash P w k)
  have Kb : K < 100000 := by
    have := R.lay.msk.top
    unfold SetTable.turns at Kt
    omega
  refine PSet.seek R hx hu Kt out full yes (fun z => no K z out full) 100000 0 none rfl (Nat.zero_le _) (by omega) fun i p hp hk => ?_
  have il : i < t.place.toList.length := by rw [R.plen]; exact (List.getElem?_eq_some_iff.mp hp).1
  have hj := List.getElem?_eq_getElem il
  obtain ⟨d, dK, e⟩ := R.lay.sits (j := t.place.toList[i]) out (List.mem_of_getElem? (i := i) (by rw [List.getElem?_zip_eq_some]; exact ⟨hj, by rw [List.getElem?_map, hp, ← hk]; rfl⟩))
  exact ⟨d, Nat.zero_le _, dK, by rw [hj, e]⟩
/-- laid anew, larger -/
theorem PSet.grow {m wanted : Nat} (is : ∃ o, s.heap.get? a = some o ∧ o.ExactSet ∧ o.data = .set es ep t) (row : es.toList = rowsOf P w L) (Y : Lay t (L.map fun p => thash P w p.2)) (fl : es.size ≤ t.mask) (one : (L.map (·.2)).Nodup) (tup : ∀ p ∈ L, IsT P w s.heap p.2 p.1) (pln : t.plain = true) (led : w.params.followText "set-order" = true ∨ t.led = true) (few : L.length ≤ 300)
    (hw : SetTable.sizeAbove wanted - 1 = m) (M : Msk m) (hw2 : SetTable.sizeAbove wanted ≤ 512) (room : L.length * 5 < m * 3) {Q : Unit → Shared → Prop} (fin : ∀ h' L' es' ep' t', Heap.SameBut a s.heap h' → PSet P w h' a L' es' ep' t' → L'.Perm L → Q () { s with heap := h' }) :
    wpAny (model P w) A (setRelay a wanted) Q E s := by
  obtain ⟨ob, g1, g2, g3⟩ := is
  have sz := es_len row
  obtain ⟨t', order, e, pm, Y', em, el, epl⟩ := relaid_lay t (hs := es.map (·.1)) hw M (by rw [Array.size_map, sz]; omega)
  rw [Array.size_map, sz] at pm
  obtain ⟨L2, r1, r2, r3⟩ := order_rows L es order row pm
  rw [← r3] at Y'
  have sz2 : (order.filterMap (es[·]?)).size = es.size := by rw [es_len r1, r2.length_eq, sz]
  rw [setRelay_eq]; refine wpAny_bind (wpAny_setState_of g1 g3 (fits_of Y (by rw [List.length_map, sz]) fl) ?_); dsimp only
  refine wp_if_neg (by rw [sizeLine_eq]; omega) ?_; try refine wpAny_bind (wpAny_pure ?_)
  rw [e]; dsimp only; refine wpAny_bind (wp_if_neg (by rw [sz2]; simp) ?_); try refine wpAny_bind (wpAny_pure ?_)
  refine wpAny_pure ?_; dsimp only
  refine wpAny_storeSet_of g1 g3 ?_ (by rw [sz2, sz, sizeLine_eq]; omega)
  have sb : Heap.SameBut a s.heap (s.heap.update a (Obj.putSet (order.filterMap (es[·]?)) t')) := Heap.SameBut.update ..
  exact fin _ L2 _ (ep + 1) t' sb ⟨⟨_, store_at g1 g3, ⟨g2.1, g2.2.1, g2.2.2⟩, rfl⟩, r1, Y', (r2.map (·.2)).nodup_iff.mpr one, fun p hp => isT_same (tup p (r2.mem_iff.mp hp)) g1 g3 sb, by rw [epl]; exact pln, by rw [el]; exact led, by rw [r2.length_eq, em]; exact room, by rw [r2.length_eq]; exact few⟩ r2
theorem size_308 : SetTable.sizeAbove (SetTable.grown 77) = 512 := by decide +kernel
/-- one more -/
theorem PSet.add (R : PSet P w s.heap a L es ep t) {x : Addr} {k : List Int} (hx : IsT P w s.heap k x) (hu : A.units < cLine) (few : L.length + 1 ≤ 300) {Q : Bool → Shared → Prop}
    (fin : ∀ b h' L' es' ep' t', Heap.SameBut a s.heap h' → PSet P w h' a L' es' ep' t' → (k ∈ L.map (·.2) → L' = L) → (k ∉ L.map (·.2) → L'.Perm ((x, k) :: L)) → Q b { s with heap := h' }) :
    wpAny (model P w) A (setAddHashed a (.ref x) (thash P w k)) Q E s := by
  obtain ⟨ob, g1, g2, g3⟩ := R.is
  have room := R.room
  unfold setAddHashed; refine wpAny_holding ?_
  rw [show (100000 : Nat) = 99999 + 1 from rfl, setAddHashedIn_succ]; refine wpAny_bind (wpAny_setState_of g1 g3 R.fits ?_); dsimp only
  refine wp_if_neg (by simp [byScan, Value.scannable]) ?_; try refine wpAny_bind (wpAny_pure ?_)
  refine wpAny_bind (R.find hx hu (fun hm => ?_) fun K hm out full => ?_)
  · dsimp only; exact wpAny_pure (fin false s.heap L es ep t (Heap.SameBut.refl a s.heap) R (fun _ => rfl) fun z => absurd hm z)
  · dsimp only; refine wpAny_bind (wpAny_setState_of g1 g3 R.fits ?_); dsimp only
    have Y := R.lay.add rfl out full
    have sz := es_len R.row
    have pl1 : (t.put (way t.mask (thash P w k) K)).1.plain = true := R.pln
    have m1 : (t.put (way t.mask (thash P w k) K)).1.mask = t.mask := rfl
    have l1 : w.params.followText "set-order" = true ∨ (t.put (way t.mask (thash P w k) K)).1.led = true := R.led
    have p1 : (t.put (way t.mask (thash P w k) K)).2 = SetTable.below t.place (way t.mask (thash P w k) K) := rfl
    have row1 : (SetTable.insertAt es (SetTable.below t.place (way t.mask (thash P w k) K)) (thash P w k, Value.ref x)).toList = rowsOf P w (L.take (SetTable.below t.place (way t.mask (thash P w k) K)) ++ (x, k) :: L.drop (SetTable.below t.place (way t.mask (thash P w k) K))) := by rw [SetTable.toList_insertAt, rows_put, R.row]
    rw [← List.map_take, ← List.map_drop, ← List.map_cons (f := fun p : Addr × List Int => thash P w p.2) (a := (x, k)), ← List.map_append] at Y
    generalize t.put (way t.mask (thash P w k) K) = pt at Y pl1 m1 l1 p1 ⊢
    obtain ⟨t1, n⟩ := pt
    dsimp only at Y pl1 m1 l1 p1 ⊢
    rw [p1]
    generalize SetTable.below t.place (way t.mask (thash P w k) K) = n at Y row1 ⊢
    have pm := put_perm L n (x, k)
    generalize L.take n ++ (x, k) :: L.drop n = L1 at Y row1 pm
    generalize SetTable.insertAt es n (thash P w k, Value.ref x) = es1 at row1 ⊢
    have len1 : L1.length = L.length + 1 := pm.length_eq
    have sz1 : es1.size = L.length + 1 := by rw [es_len row1, len1]
    have fill : t1.fill = L.length + 1 := by
      have := Y.len
      rw [Array.length_toList, List.length_map, len1] at this
      unfold SetTable.fill; rw [Y.nod, this]; rfl
    have one1 : (L1.map (·.2)).Nodup := (pm.map (·.2)).nodup_iff.mpr (by rw [List.map_cons]; exact List.nodup_cons.mpr ⟨hm, R.one⟩)
    first
      | (refine wpAny_bind ?_; refine wp_if_pos pl1 (hashBy_tup hx ?_))
      | refine wp_if_pos pl1 (wpAny_bind (hashBy_tup hx ?_))
    simp only [if_true]
    refine wpAny_bind (wpAny_storeSet_of g1 g3 ?_ (by rw [sz1, sizeLine_eq]; omega))
    have sb : Heap.SameBut a s.heap (s.heap.update a (Obj.putSet es1 t1)) := Heap.SameBut.update ..
    have is1 := store_at (es' := es1) (t' := t1) g1 g3
    generalize s.heap.update a (Obj.putSet es1 t1) = h1 at sb is1 ⊢
    have tup1 : ∀ p ∈ L1, IsT P w h1 p.2 p.1 := fun p hp => by
      rcases List.mem_cons.mp (pm.mem_iff.mp hp) with rfl | hp
      · exact isT_same hx g1 g3 sb
      · exact isT_same (R.tup p hp) g1 g3 sb
    by_cases full1 : t1.tooFull = true
    · first
        | (refine wpAny_bind ?_; refine wp_if_pos (by simp [full1]) ?_)
        | (refine wp_if_pos (by simp [full1]) ?_; refine wpAny_bind ?_)
      have big : (L.length + 1) * 5 ≥ t.mask * 3 := by
        have z := full1
        unfold SetTable.tooFull at z
        rwa [decide_eq_true_eq, fill, m1] at z
      have go : ∀ m, SetTable.sizeAbove (SetTable.grown (es.size + 1)) = m + 1 → Msk m → m ≤ 511 → (L.length + 1) * 5 < m * 3 → L.length + 1 ≤ t.mask →
          wpAny (model P w) A (setRelay a (SetTable.grown (es.size + 1))) (fun _ s' => wpAny (model P w) A (pure true) Q E s') E { s with heap := h1 } := fun m z1 z2 z3 z4 z5 =>
        PSet.grow (s := { s with heap := h1 }) ⟨_, is1, ⟨g2.1, g2.2.1, g2.2.2⟩, rfl⟩ row1 Y (by rw [sz1, m1]; exact z5) one1 tup1 pl1 l1 (by rw [len1]; exact few) (by rw [z1]; rfl) z2 (by rw [z1]; omega) (by rw [len1]; exact z4)
          fun h2 L2 es2 ep2 t2 sb2 R2 pm2 => wpAny_pure (fin true h2 L2 es2 ep2 t2 (sb.trans sb2) R2 (fun z => absurd z hm) fun _ => pm2.trans pm)
      rw [sz] at go ⊢
      rcases R.lay.msk with (c | c | c) | c
      · have e4 : L.length = 4 := by omega
        exact go 31 (by rw [e4, size_20]) (.inl (.inr (.inl rfl))) (by omega) (by omega) (by omega)
      · have e4 : L.length = 18 := by omega
        exact go 127 (by rw [e4, size_76]) (.inl (.inr (.inr rfl))) (by omega) (by omega) (by omega)
      · have e4 : L.length = 76 := by omega
        exact go 511 (by rw [e4, size_308]) (.inr rfl) (by omega) (by omega) (by omega)
      · omega
    · first
        | refine wp_if_neg (by simp [full1]) ?_
        | (refine wpAny_bind ?_; refine wp_if_neg (by simp [full1]) ?_; refine wpAny_pure ?_)
      refine wpAny_pure (fin true h1 L1 es1 (ep + 1) t1 sb ⟨⟨_, is1, ⟨g2.1, g2.2.1, g2.2.2⟩, rfl⟩, row1, Y, one1, tup1, pl1, l1, ?_, by rw [len1]; exact few⟩ (fun z => absurd z hm) fun _ => pm)
      have z := full1
      unfold SetTable.tooFull at z
      rw [decide_eq_true_eq, fill] at z
      rw [len1]; omega
end
end WC

/-! set(list of tuples), sorted(set of tuples) -/
namespace WC
open PySem PySem.Spec PyProof.Rows L2
section
variable {P : Program} {w : World} {A : Around} {E : Value → Shared → Prop} {s : Shared} {a : Addr} {L : List (Addr × List Int)} {es : Array (Int × Value)} {ep : Nat} {t : SetTable}
theorem PSet.keep {h h' : Heap} (R : PSet P w h a L es ep t) (ha : ∀ o, h.get? a = some o → h'.get? a = some o) (ht : ∀ p ∈ L, IsT P w h' p.2 p.1) : PSet P w h' a L es ep t := by
  obtain ⟨ob, g1, g2⟩ := R.is
  exact { R with is := ⟨ob, ha ob g1, g2⟩, tup := ht }
theorem PSet.new {h : Heap} (ho : h.get? a = some (nSet w)) : PSet P w h a [] #[] 0 (.fresh 0 0 (!w.params.followText "set-order")) :=
  ⟨⟨_, ho, ⟨rfl, rfl, rfl⟩, rfl⟩, rfl, ⟨List.Pairwise.nil, rfl, rfl, .inl (.inl rfl), (fun x hx => by cases hx), (fun q hq => by cases hq)⟩, List.nodup_nil, (fun p hp => by cases hp), rfl,
    by show _ ∨ (!w.params.followText "set-order") = true; cases w.params.followText "set-order" <;> simp, (by show 0 * 5 < 7 * 3; decide), (by show 0 ≤ 300; decide)⟩
/-- what set(..) does with the items one after the other -/
theorem tup_loop {I : Addr} {fp wr : List Addr} {G : Array GenState → Array GenState → Prop} {n : Nat} {Pv : Nat → Value → Prop} {St : Nat → Shared → Prop} {R : Result → Shared → Prop} (W : WalksS P w A.in1 I fp wr G n Pv St) (S : Addr) (Sf : S ∉ fp) (ks : List (Addr × List Int)) (en : n = ks.length) (few : ks.length ≤ 300)
    (val : ∀ i v, Pv i v → ∃ p, ks[i]? = some p ∧ v = .ref p.1) (h0 : Heap) (hk : ∀ p ∈ ks, IsT P w h0 p.2 p.1) (S0 : h0.get? S = none) (w0 : ∀ b ∈ wr, h0.get? b = none) (hu : A.in1.units < cLine) :
    ∀ (k i : Nat) (s : Shared), n - i = k → i ≤ n → St i s → (∀ b o, h0.get? b = some o → s.heap.get? b = some o) → (∃ L es ep t, PSet P w s.heap S L es ep t ∧ Got ks i L) →
      (∀ s' L es ep t, Moved (S :: wr) G s s' → PSet P w s'.heap S L es ep t → Got ks n L → (∀ b o, h0.get? b = some o → s'.heap.get? b = some o) → R (.ok (.ret .none)) s') → codeAny (model P w) A (.builtin "set.update.loop" ⟨[.ref S, .ref I], []⟩) R s := by
  have Sw : S ∉ wr := fun z => Sf (W.sub _ z)
  have more : ∀ b ∈ wr, b ∈ S :: wr := fun b z => .tail _ z
  have still : ∀ {u u' : Shared}, Moved wr G u u' → (∀ b o, h0.get? b = some o → u.heap.get? b = some o) → ∀ b o, h0.get? b = some o → u'.heap.get? b = some o := fun m z b o e => m.heap b o (fun y => by rw [w0 b y] at e; cases e) (z b o e)
  have held : ∀ {u u' : Shared} {i : Nat} {L : List (Addr × List Int)} {es : Array (Int × Value)} {ep : Nat} {t : SetTable}, Moved wr G u u' → (∀ b o, h0.get? b = some o → u.heap.get? b = some o) → Got ks i L → PSet P w u.heap S L es ep t → PSet P w u'.heap S L es ep t :=
    fun m z g R => R.keep (fun o e => m.heap S o Sw e) fun p hp => isT_keep (hk p (List.mem_of_mem_take (g.sub p hp))) (still m z)
  intro k
  induction k with
  | zero =>
    rintro i u ek le hst kp ⟨L, es, ep, t, R0, g⟩ fin
    obtain rfl : i = n := by omega
    refine codeAny_builtin F.entry_set_update_loop ?_; rw [Around.under_plainId F.plain_set_update_loop _]
    show wpAny _ A.in1 (pyNext (.ref I) >>= _) _ _ u; refine wpAny_bind (W.done u _ _ hst fun u' m => ?_); show wpAny _ A.in1 (ret Value.none) _ _ u'
    exact wpAny_pure (fin u' L es ep t (m.mono more) (held m kp g R0) g (still m kp))
  | succ k ih =>
    rintro i u ek le hst kp ⟨L, es, ep, t, R0, g⟩ fin
    have lt : i < n := by omega
    refine codeAny_builtin F.entry_set_update_loop ?_; rw [Around.under_plainId F.plain_set_update_loop _]
    show wpAny _ A.in1 (pyNext (.ref I) >>= _) _ _ u; refine wpAny_bind (W.item i u _ _ lt hst fun v u' pv hst' m => ?_)
    obtain ⟨p, hp, rfl⟩ := val i v pv
    have kp' := still m kp
    have hx : IsT P w u'.heap p.2 p.1 := isT_keep (hk p (List.mem_of_getElem? hp)) kp'
    show wpAny _ A.in1 (holding [Value.ref p.1] (setAdd S (.ref p.1)) >>= _) _ _ u'; refine wpAny_bind (wpAny_holding ?_)
    unfold setAdd; refine wpAny_holding (wpAny_bind (wpAny_pyHash_tuple hu hx ?_))
    have Rh := held m kp g R0
    refine PSet.add (s := { u' with toks := u'.toks + (p.2.length + 1) }) Rh hx hu (by have := g.len; omega) fun b h' L' es' ep' t' sb R' c1 c2 => ?_
    have g' : Got ks (i + 1) L' := by
      by_cases c : p.2 ∈ L.map (·.2)
      · rw [c1 c]; exact g.same hp c
      · exact g.more hp (c2 c)
    have kp2 : ∀ b o, h0.get? b = some o → h'.get? b = some o := fun b o e => (sb.2 b (fun z => by rw [z, S0] at e; cases e)).trans (kp' b o e)
    refine wpAny_pure ⟨plainId_quiet F.plain_set_update_loop _, ih (i + 1) _ (by omega) lt (W.frame _ u' _ _ hst' (Nat.le_add_right _ _) fun b hb o e => ?_) kp2 ⟨L', es', ep', t', R', g'⟩ fun u2 L2 es2 ep2 t2 m2 R2 g2 kp3 => ?_⟩
    · rw [sb.2 b (fun z : b = S => Sf (by rw [← z]; exact hb))]; exact e
    · refine fin u2 L2 es2 ep2 t2 (Moved.trans W.gtrans ((m.mono more).then_heap (Nat.le_add_right _ _) fun b o hb e => ?_) m2) R2 g2 kp3
      rw [sb.2 b (fun z : b = S => hb (by rw [z]; exact .head _))]; exact e
/-- set(xs) -/
theorem set_listT {l : Addr} {items : Array Value} (ks : List (Addr × List Int)) {Q : Value → Shared → Prop} (hnd : A.handled = none) (hL : s.heap.IsList l items) (hi : items.toList = ks.map fun p => Value.ref p.1) (hk : ∀ p ∈ ks, IsT P w s.heap p.2 p.1) (few : ks.length ≤ 300) (hu : A.units + 3 < cLine)
    (fin : ∀ (h' : Heap) (tk : Nat) L es ep t, PSet P w h' s.heap.objs.size L es ep t → Got ks ks.length L → (∀ b o, s.heap.get? b = some o → h'.get? b = some o) → Q (.ref s.heap.objs.size) { s with heap := h', toks := tk }) :
    wpAny (model P w) A (call (.type "set") [.ref l]) Q E s := by
  have hsize : items.size = ks.length := by rw [← Array.length_toList, hi, List.length_map]
  obtain ⟨c, tl, hm1⟩ := F.called_set.mro; have hm2 := F.called_set.made; have hm3 := F.called_set.sub
  refine wpAny_call (codeAny_of_tree ?_); show wpAny _ _ (callAny (.type "set") _) _ _ _
  refine wpAny_pure ⟨Code.quiet_builtin _ (by decide +kernel), codeAny_builtin F.entry_type_call ?_⟩; rw [Around.under_plain (weight_type_call_type "set" [.ref l] []) rfl]
  have hn1 := F.called_set.notType; have hn2 := F.called_set.canCreate; have hn3 := F.typeCall_set_1 (.ref l)
  repeat (any_goals (first | assumption | wp_step))
  refine codeAny_mono (code_set_led1 (.ref l) (E := E) (Q₁ := fun obj s₁ => obj = .ref s.heap.objs.size ∧ s₁ = { s with heap := s.heap.push (nSet w) }) ⟨rfl, rfl⟩) fun r s₁ hr => ?_
  match r, hr with
  | .error e, hr => exact hr
  | .ok (.ret obj), hr =>
    obtain ⟨rfl, rfl⟩ := hr
    have o1 : (s.heap.push (nSet w)).get? s.heap.objs.size = some (nSet w) := Heap.get?_push_size _ rfl
    have o2 : Shared.TypeIs { s with heap := s.heap.push (nSet w) } (.ref s.heap.objs.size) "set" := ⟨_, o1, rfl⟩
    have o3 := F.called_set.init.lookup; have o4 := F.called_set.init.bind (.ref s.heap.objs.size)
    repeat (any_goals (first | assumption | wp_step))
    refine codeAny_mono (codeAny_call_builtin (R := wants (fun r s₂ => r = .none ∧ ∃ h' tk L es ep t, s₂ = { s with heap := h', toks := tk } ∧ PSet P w h' s.heap.objs.size L es ep t ∧ Got ks ks.length L ∧ (∀ b o, s.heap.get? b = some o → h'.get? b = some o)) E) F.called_set.init.plain F.entry_set_init (check_set_init_1 o2 ?_)) fun r2 s2 hr2 => ?_
    · obtain ⟨⟨oc, odict, odat, osl⟩, hol, e1, nl, e2⟩ := hL; simp only at e1 e2; subst e1; subst e2
      have hol2 : (s.heap.push (nSet w)).get? l = some { cls := .type "list", dict := odict, data := .seq items nl, slots := osl } := Heap.get?_push_of_some _ hol
      have q1 := F.sub_list_set; have q2 := F.sub_list_frozenset
      have q3 : (Value.type "list" == Value.type "dict") = false := by decide
      have hL1 : (s.heap.push (nSet w)).IsList l items := ⟨_, hol2, rfl, nl, rfl⟩
      unfold Builtin.«set.__init__» noKeywords Builtin.Frozenset.updateFrom; generalize hPI : pyIter = PI
      wp_walk; subst hPI; refine wpAny_pyIter_list hL1 ?_; refine wpAny_bind (wpAny_runValue ?_)
      have lS : l < s.heap.objs.size := Heap.lt_size hol; have hn4 : A.in1.in1.in1.handled = none := by simp [hnd]
      have lI : l ≠ (s.heap.push (nSet w)).objs.size := by rw [Heap.size_push]; exact Nat.ne_of_lt (Nat.lt_succ_of_lt lS)
      have SI : s.heap.objs.size ∉ [(s.heap.push (nSet w)).objs.size, l] := by
        rw [Heap.size_push]; intro z; simp at z; exact absurd z (Nat.ne_of_gt lS)
      have gone : ∀ b, s.heap.objs.size ≤ b → s.heap.get? b = none := fun b hb => by
        cases q : s.heap.get? b with
        | none => rfl
        | some o => exact absurd (Nat.lt_of_lt_of_le (Heap.lt_size q) hb) (Nat.lt_irrefl _)
      refine tup_loop ((Walks.list hn4 _ l lI items).toS) s.heap.objs.size SI ks hsize few (fun i v hv => ?_) s.heap hk (gone _ (Nat.le_refl _)) (fun b hb => gone b ?_) hu (items.size - 0) 0 _ (by omega) (Nat.zero_le _) ⟨⟨_, Heap.get?_push_size _ rfl, rfl, rfl⟩, (hL1.push _)⟩ (fun b o e => Heap.get?_push_of_some _ (Heap.get?_push_of_some _ e)) ?_ ?_
      · have q : items.toList[i]? = some v := by rw [Array.getElem?_toList]; exact hv
        rw [hi, List.getElem?_map] at q
        obtain ⟨p, hp, e⟩ := Option.map_eq_some_iff.mp q
        exact ⟨p, hp, e.symm⟩
      · rw [List.mem_singleton.mp hb, Heap.size_push]; omega
      · exact ⟨[], #[], 0, _, PSet.new (Heap.get?_push_of_some _ o1), Got.zero ks⟩
      · rintro ⟨h', g2, d2, tk2, os2⟩ L es ep t hm R2 g kp
        obtain rfl : g2 = s.gens := hm.gens; obtain rfl : d2 = s.drawn := hm.drawn; obtain rfl : os2 = s.os := hm.os
        show wpAny _ _ _ _ _ _; refine wpAny_pure ?_; show wpAny _ _ (ret Value.none) _ _ _; rw [hsize] at g
        exact wpAny_pure ⟨rfl, h', tk2, L, es, ep, t, rfl, R2, g, kp⟩
    · match r2, hr2 with
      | .error e, hr2 => exact hr2
      | .ok (.ret r), hr2 =>
        obtain ⟨rfl, h', tk, L, es, ep, t, rfl, z1, z2, z3⟩ := hr2
        repeat (any_goals (first | assumption | wp_step))
        exact fin _ _ _ _ _ _ z1 z2 z3
theorem perm_map_inv {α β : Type} (f : α → β) {l m : List β} (p : l.Perm m) : ∀ k : List α, m = k.map f → ∃ k0 : List α, k0.Perm k ∧ l = k0.map f := by
  induction p with
  | nil => intro k e; exact ⟨k, .refl _, e⟩
  | cons x p ih =>
    intro k e
    obtain ⟨y, k', rfl, e1, e2⟩ := List.map_eq_cons_iff.mp e.symm
    obtain ⟨k0, h1, h2⟩ := ih k' e2.symm
    exact ⟨y :: k0, h1.cons y, by rw [List.map_cons, e1, h2]⟩
  | swap x y l =>
    intro k e
    obtain ⟨u, k', rfl, e1, e2⟩ := List.map_eq_cons_iff.mp e.symm
    obtain ⟨v, k2, rfl, e3, e4⟩ := List.map_eq_cons_iff.mp e2
    exact ⟨v :: u :: k2, List.Perm.swap .., by rw [List.map_cons, List.map_cons, e1, e3, e4]⟩
  | trans p1 p2 ih1 ih2 =>
    intro k e
    obtain ⟨k1, h1, h2⟩ := ih2 k e
    obtain ⟨k0, h3, h4⟩ := ih1 k1 h2
    exact ⟨k0, h3.trans h1, h4⟩
/-- a tuple of ints, as data -/
abbrev dT (k : List Int) : PyData := .tuple (k.map .int)
theorem reads_items {h : Heap} {k : List Int} {vs : List Value} (i : ItemsAre (intKind P w) k vs) : ReadsAll h vs (k.map .int) [] := by
  induction i with
  | nil => exact .nil
  | @cons n v ks vs h1 _ ih =>
    obtain ⟨tk, rfl⟩ := Value.isInt_shape h1
    exact ReadsAll.cons (as := []) (bs := []) (.int n tk) ih
theorem reads_tup {h : Heap} {k : List Int} {b : Addr} (i : IsT P w h k b) : Reads h (.ref b) (dT k) [] := by
  obtain ⟨o, its, n, ho, hc, hd, hi⟩ := i
  exact .tuple ho hc hd (reads_items hi)
theorem each_refs : ∀ (l : List (Addr × List Int)), PySem.W.EachIs (fun v (q : Addr × List Int) => v = Value.ref q.1) (l.map fun q => Value.ref q.1) l
  | [] => .nil
  | q :: l => .cons rfl (each_refs l)
theorem refs_each : ∀ {l : List (Addr × List Int)} {vs : List Value}, PySem.W.EachIs (fun v (q : Addr × List Int) => v = Value.ref q.1) vs l → vs = l.map fun q => Value.ref q.1
  | _, _, .nil => rfl
  | _, _, .cons e t => by rw [e, refs_each t]; rfl
theorem each_reads_tup {h : Heap} {a : Addr} : ∀ (l : List (Addr × List Int)), (∀ q ∈ l, IsT P w h q.2 q.1) → PySem.W.EachIs (fun v (q : Addr × List Int) => ∃ as, Reads h v (dT q.2) as ∧ a ∉ as) (l.map fun q => Value.ref q.1) l
  | [], _ => .nil
  | q :: l, h => .cons ⟨[], reads_tup (h q (by simp)), by simp⟩ (each_reads_tup l fun r hr => h r (List.mem_cons_of_mem _ hr))
theorem sorted_setT {Q : Value → Shared → Prop} (R : PSet P w s.heap a L es ep t) (hnd : A.handled = none) (two : ∀ p ∈ L, p.2.length = 2) (hu : A.units + 40 < cLine)
    (fin : ∀ s' p (out : Array Value) (c : Nat) (L1 : List (Addr × List Int)), (∀ b o, s.heap.get? b = some o → s'.heap.get? b = some o) → s'.gens = s.gens → s'.os = s.os → s.heap.objs.size ≤ p → s'.heap.get? p = some (seqObj "list" out c) → out.toList = L1.map (fun q => Value.ref q.1) → L1.Perm L → L1.Pairwise (fun q r => leD (dT q.2) (dT r.2) = true) → Q (.ref p) s') :
    wpAny (model P w) A (call (.builtin "sorted") [.ref a]) Q E s := by
  obtain ⟨ob, g1, g2, g3⟩ := R.is
  have sz := es_len R.row
  have few := R.few
  refine Calls.call_function_entry kind_sorted plain_sorted entry_sorted (args_sorted1 _) ?_; unfold Builtin.«sorted»
  refine wpAny_bind (m := checkCount "sorted" 1 1 _) (wpAny_pure ?_); refine wpAny_bind (collect_set (A := A.in1) hnd ⟨ob, g1, g2.1, g3⟩ R.fits (by unfold scanBound; omega) R.lay.up R.led fun s1 vs k1 hz z1 z2 pm => ?_)
  rw [show es.toList.map (·.2) = L.map fun q => Value.ref q.1 by rw [R.row, rowsOf, List.map_map]; rfl] at pm
  obtain ⟨L0, p0, rfl⟩ := perm_map_inv _ pm L rfl
  have len0 : L0.length = L.length := p0.length_eq
  refine wpAny_bind (wpAny_newList ?_ (by rw [List.length_map, len0, sizeLine_eq]; omega))
  have hoL : (s1.heap.push (seqObj "list" (L0.map fun q => Value.ref q.1).toArray 0)).get? s1.heap.objs.size = some (seqObj "list" (L0.map fun q => Value.ref q.1).toArray 0) := Heap.get?_push_size _ rfl
  have two0 : ∀ d ∈ L0.map (fun q => dT q.2), ∃ x y, d = .tuple [.int x, .int y] := fun d hd => by
    obtain ⟨q, hq, rfl⟩ := List.mem_map.mp hd
    have := two q (p0.mem_iff.mp hq)
    obtain ⟨b, k⟩ := q
    match k, this with
    | [x, y], _ => exact ⟨x, y, rfl⟩
  refine wpAny_bind (wpAny_holding (PySem.W.list_sort_data (s := { s1 with heap := s1.heap.push (seqObj "list" (L0.map fun q => Value.ref q.1).toArray 0) }) (enc := fun q : Addr × List Int => dT q.2) (bs := L0) hoL (each_refs L0) (each_reads_tup (P := P) (w := w) L0 fun q hq => isT_keep (R.tup q (p0.mem_iff.mp hq)) fun b u e => Heap.get?_push_of_some _ (k1 b u e)) (fun d hd e he => ?_) (.inl fun d hd => ?_) (by rw [len0, sizeLine_eq]; omega) (fun q hq => ?_) fun out ol oe => ?_))
  · obtain ⟨x, y, rfl⟩ := two0 d hd
    obtain ⟨x', y', rfl⟩ := two0 e he
    simp [PySem.W.alike, PySem.W.alikeAll]
  · obtain ⟨x, y, rfl⟩ := two0 d hd
    exact ⟨_, _, rfl⟩
  · obtain ⟨x, y, e⟩ := two0 (dT q.2) (List.mem_map.mpr ⟨q, hq, rfl⟩)
    have : (dT q.2).depth ≤ 5 := by rw [e]; simp [PyData.depth, PyData.depthAll]
    show A.in1.units + 1 + (dT q.2).depth < cLine
    simp only [Around.in1]
    omega
  · obtain ⟨c, hc⟩ := sortedHeap_at (vs := L0.map fun q => Value.ref q.1) (out := out.toArray) hoL
    have e1 := refs_each oe
    refine wpAny_pure ⟨_, rfl, fin _ s1.heap.objs.size out.toArray c (L0.mergeSort (PySem.W.dataLe false fun q => dT q.2)) (fun b u e => ?_) z1 z2 hz hc (by simpa using e1) ((List.mergeSort_perm _ _).trans p0) ?_⟩
    · have q := k1 b u e; have lt1 := Heap.lt_size q
      show (sortedHeap (s1.heap.push (seqObj "list" (L0.map fun q => Value.ref q.1).toArray 0)) s1.heap.objs.size (L0.map fun q => Value.ref q.1) out.toArray).get? b = some u; rw [sortedHeap_old (Nat.ne_of_lt lt1) (by rw [size_push']; exact Nat.lt_succ_of_lt lt1)]; exact Heap.get?_push_of_some _ q
    · exact List.pairwise_mergeSort (le := PySem.W.dataLe false fun q : Addr × List Int => dT q.2) (fun q r u => leD_trans (dT q.2) (dT r.2) (dT u.2)) (fun q r => leD_total (dT q.2) (dT r.2)) L0
end
/-! ### as calls -/
structure PSet0 (P : Program) (w : World) (h : Heap) (a : Addr) (L : List (Addr × List Int)) : Prop where
  ex : ∃ (es : Array (Int × Value)) (ep : Nat) (t : SetTable), (∃ o, h.get? a = some o ∧ o.ExactSet ∧ o.data = .set es ep t) ∧ ∀ h', (∃ o, h'.get? a = some o ∧ o.ExactSet ∧ o.data = .set es ep t) → (∀ p ∈ L, IsT P w h' p.2 p.1) → PSet P w h' a L es ep t
def PSetO (P : Program) (w : World) (a : Addr) (L : List (Addr × List Int)) : HO := .ext fun h => PSet0 P w h a L
theorem PSet.o {P : Program} {w : World} {H : Hp} {h : Heap} {a : Addr} {L : List (Addr × List Int)} {es : Array (Int × Value)} {ep : Nat} {t : SetTable} (R : PSet P w h a L es ep t) : ObjOk P w H h a (PSetO P w a L) := by
  obtain ⟨ob, g1, g2⟩ := R.is
  refine ⟨⟨es, ep, t, R.is, fun h' z1 z2 => { R with is := z1, tup := z2 }⟩, ⟨ob, g1⟩, fun h1 h2 p k => ?_⟩
  have ⟨es', ep', t', ⟨o', ho', r'⟩, q'⟩ := PSet0.ex p
  exact ⟨es', ep', t', ⟨o', k o' ho', r'⟩, q'⟩
section
variable {X : Cx}
def rSetP (K : PySem.W.Frag) (P : Program) (w : World) : List V → Hp → VK → Prop := fun xs H Q => ∃ (l : Addr) (ks : List (Addr × List Int)), xs = [V.ref l] ∧ SqL K H l (ks.map fun p => V.ref p.1) ∧ (∀ p ∈ ks, SqT K H p.1 (p.2.map V.int)) ∧ ks.length ≤ 300 ∧
  ∀ a L, H a = none → (∀ p ∈ L, p ∈ ks) → (∀ p ∈ ks, p.2 ∈ L.map (·.2)) → (L.map (·.2)).Nodup → Q (.ref a) (upd H a (PSetO P w a L))
theorem cr_setP (hc : X.calm = true) (hu : X.A.units + 64 < cLine) : CallR X (.type "set") (rSetP X.K X.prog X.w) := by
  rintro pins s σ H xs us Q I r ⟨l, ks, rfl, hl, hk, few, q⟩
  rw [Vals.ref1 r]
  obtain ⟨its, rv, pl, hz⟩ := I.list hl
  exact set_listT (P := X.prog) (w := X.w) ks (I.ok.hd hc) pl.isList (by simpa using refs_of_vals rv) (fun p hp => I.isT (hk p hp)) few (by omega) fun h' tk L es ep t R g k => ⟨.ref s.heap.objs.size, upd H s.heap.objs.size (PSetO X.prog X.w s.heap.objs.size L), I.laid (t' := tk) k (Nat.le_refl _) R.o, rfl, q _ L (I.hok.fresh (Nat.le_refl _)) (fun p hp => List.mem_of_mem_take (g.sub p hp)) (fun p hp => g.all p (by rw [List.take_length]; exact hp)) R.one⟩
def rSortP (K : PySem.W.Frag) (P : Program) (w : World) : List V → Hp → VK → Prop := fun vs H Q => ∃ (a : Addr) (L : List (Addr × List Int)), vs = [V.ref a] ∧ H a = some (PSetO P w a L) ∧ (∀ p ∈ L, SqT K H p.1 (p.2.map V.int)) ∧ (∀ p ∈ L, p.2.length = 2) ∧
  ∀ (L' : List (Addr × List Int)) (p : Addr), L'.Perm L → L'.Pairwise (fun q r => leD (dT q.2) (dT r.2) = true) → H p = none → Q (.ref p) (upd H p (.lst (L'.map fun q => V.ref q.1)))
theorem cr_sortP (hc : X.calm = true) (hu : X.A.units + 64 < cLine) : CallR X (.builtin "sorted") (rSortP X.K X.prog X.w) := by
  rintro pins s σ H vs us Q I r ⟨a, L, rfl, ha, hk, two, q⟩
  have R0 : PSet0 X.prog X.w s.heap a L := (I.hok a _ ha).1
  obtain ⟨es, ep, t, z1, z2⟩ := R0.ex
  have R := z2 s.heap z1 fun p hp => I.isT (hk p hp)
  rw [Vals.ref1 r]
  refine sorted_setT R (I.ok.hd hc) two (by omega) fun s' p out c L' k g o hp hg hout pm pw => ?_
  have few := R.few
  have hlen : (L'.map fun q => V.ref q.1).length ≤ sizeLine := by rw [List.length_map, pm.length_eq, sizeLine_eq]; omega
  have hn : H p = none := I.hok.fresh hp
  have hv : Vals (L'.map fun q => V.ref q.1) out.toList := by rw [hout]; exact vals_of_refs L'
  have J : Inv X pins σ (upd H p (.lst (L'.map fun q => V.ref q.1))) { s with heap := s'.heap, gens := s'.gens, drawn := s'.drawn, toks := s'.toks } := I.call (ch := []) (Un.laid k hp hn) (I.hok.laid k hp ⟨hlen, out.toList, c, hv, hg⟩) (by rw [g]; exact I.bare) (fun _ z => nomatch z)
  rw [show s' = { s with heap := s'.heap, gens := s'.gens, drawn := s'.drawn, toks := s'.toks } by cases s'; cases s; cases o; rfl]
  exact ⟨.ref p, _, J, rfl, q L' p pm pw hn⟩
end
end WC

/-! sets of pairs, up to 300 -/
namespace WC
open PySem L2
open Evl (Ex)
/-- a pair by its code -/
def prC (z : Int) : PyData := .tuple [.int (z / 1000), .int (z % 1000)]
def prV (z : Int) : List Int := [z / 1000, z % 1000]
theorem pr_code (z : Int) : TS.code 1000 (prV z) = z := by
  show z / 1000 * 1000 ^ 1 + (z % 1000 * 1000 ^ 0 + 0) = z
  have e1 : (1000 : Int) ^ 1 = 1000 := by decide
  have e0 : (1000 : Int) ^ 0 = 1 := by decide
  rw [e1, e0]
  omega
theorem pr_inj {z y : Int} (h : prV z = prV y) : z = y := by rw [← pr_code z, h, pr_code]
theorem prs_dv {F : Hp} : ∀ {zs : List Int} {xs : List V}, DvAll F xs (zs.map prC) → ∃ ks : List (Addr × Int), xs = ks.map (fun p => V.ref p.1) ∧ ks.map (·.2) = zs ∧ ∀ p ∈ ks, F p.1 = some (.tup ((prV p.2).map V.int))
  | [], _, h => by cases h; exact ⟨[], rfl, rfl, by simp⟩
  | z :: zs, _, h => by
    cases h with
    | cons a b =>
      obtain ⟨ks, h1, h2, h3⟩ := prs_dv b
      obtain ⟨p, ys, rfl, hp, hd⟩ := Dv.tup_of a
      have e : ys = (prV z).map V.int := DvAll.ints_of (ns := prV z) hd
      refine ⟨(p, z) :: ks, by rw [h1]; rfl, by rw [List.map_cons, h2], fun q hq => ?_⟩
      rcases List.mem_cons.mp hq with rfl | hq
      · rw [hp, e]
      · exact h3 q hq
theorem dv_prs {F : Hp} : ∀ {ks : List (Addr × Int)}, (∀ p ∈ ks, F p.1 = some (.tup ((prV p.2).map V.int))) → DvAll F (ks.map fun p => V.ref p.1) ((ks.map (·.2)).map prC)
  | [], _ => .nil
  | p :: ks, h => .cons (.tup (h p (by simp)) (.cons (.int _) (.cons (.int _) .nil))) (dv_prs fun q hq => h q (List.mem_cons_of_mem _ hq))
theorem leD_pr {z y : Int} (h : leD (dT (prV z)) (dT (prV y)) = true) : z ≤ y := by
  apply Classical.byContradiction
  intro n
  have e : PySem.W.dataLt (.tuple [.int (y / 1000), .int (y % 1000)]) (.tuple [.int (z / 1000), .int (z % 1000)]) = true := by
    rw [PySem.W.dataLt_ii, decide_eq_true_iff]
    omega
  rw [leD_eq] at h
  have h' : (!PySem.W.dataLt (.tuple [.int (y / 1000), .int (y % 1000)]) (.tuple [.int (z / 1000), .int (z % 1000)])) = true := h
  rw [e] at h'
  cases h'
theorem ks_sorted {ks : List (Addr × Int)} {L' : List (Addr × List Int)} (hsub : ∀ p ∈ L', ∃ q ∈ ks, p = (q.1, prV q.2)) (hall : ∀ q ∈ ks, prV q.2 ∈ L'.map (·.2)) (nd : (L'.map (·.2)).Nodup) (pw : L'.Pairwise fun q r => leD (dT q.2) (dT r.2) = true) :
    (L'.map fun p => TS.code 1000 p.2) = ssort (ks.map (·.2)) := by
  refine ssort_of ?_ fun k => ?_
  · rw [List.pairwise_map]
    have nd' : L'.Pairwise fun p q => p.2 ≠ q.2 := by
      have := nd
      unfold List.Nodup at this
      rwa [List.pairwise_map] at this
    refine List.Pairwise.imp_of_mem (fun {a b} ha hb h => ?_) (pw.and nd')
    obtain ⟨q1, _, e1⟩ := hsub a ha
    obtain ⟨q2, _, e2⟩ := hsub b hb
    have h1 := h.1
    have h2 := h.2
    rw [e1, e2] at h1 h2 ⊢
    simp only [pr_code] at ⊢
    have h1 := leD_pr h1
    have : q1.2 ≠ q2.2 := fun z => h2 (by simp only; rw [z])
    omega
  · simp only [List.mem_map]
    constructor
    · rintro ⟨p, hp, rfl⟩
      obtain ⟨q, hq, e⟩ := hsub p hp
      exact ⟨q, hq, by rw [e, pr_code]⟩
    · rintro ⟨q, hq, rfl⟩
      obtain ⟨p, hp, e⟩ := List.mem_map.mp (hall q hq)
      exact ⟨p, hp, by rw [e, pr_code]⟩
section
variable {X : Cx} {ρ : REnv} {M M1 : List MO} {e : Expr} {r : Slot} {zs : List Int} {p p2 pos pos2 : Pos}
/-- a new thing at a that nobody looks at -/
theorem newH {As : List Addr} {F H : Hp} {M : List MO} (h : RepM As F H M) {a : Addr} (ha : H a = none) (o : HO) : Step As F H As F (upd H a o) ∧ RepM As F (upd H a o) M :=
  ⟨⟨Ex.refl F, fun x u _ hx => Evl.Ex.new ha x u hx, fun x hx => by rw [upd_ne (fun e => hx (by rw [e]; exact ha))]; exact hx, fun x _ q _ => q, [], by simp, by simp⟩, h.grow (Ex.refl F) (Evl.Ex.new ha) (fun b u q => Evl.Ex.new ha b u (h.ex b u q)) (fun x q _ => q)⟩
/-- sorted(set(e)), e a list of up to 300 pairs -/
theorem ed_sortSetP (hu : X.A.units + 64 < cLine) (hm : X.mg "sorted" = none) (hm2 : X.mg "set" = none) (h : ED X ρ M e r M1) (rd : Rds M1 r (.list (zs.map prC))) (hz : ∀ z ∈ zs, 0 ≤ z ∧ z < 1000000) (hn : zs.length ≤ 300) (hc : X.calm = true := by rfl) (hg : Gl X "sorted" := by rfl) (hg2 : Gl X "set" := by rfl)
    (hs : starEach ((.Call (.Name "set" p2) [e] [] pos2 : Expr) :: []) X.env = (false, eval (.Call (.Name "set" p2) [e] [] pos2) X.env) :: starEach [] X.env := by rfl) (hs2 : starEach (e :: []) X.env = (false, eval e X.env) :: starEach [] X.env := by rfl) :
    ED X ρ M (.Call (.Name "sorted" p) [.Call (.Name "set" p2) [e] [] pos2] [] pos) (.own M1.length) (M1 ++ [.lst ((ssort zs).map prC)]) := fun As σ F H hM hE Q q => by
  refine ⟨_, pe_callB (cr_sortP hc hu) hg hm (by decide +kernel) (pa_cons (pe_callTy (cr_setP hc hu) hg2 hm2 (by decide +kernel) (pa_cons (pe_w X e) pa_nil hs2) (by decide) (by decide) hs2) pa_nil hs) (by decide) (by decide) hs, h As σ F H hM hE _ fun v As1 F1 H1 s1 m1 o1 => ?_⟩
  obtain ⟨l, xs, rfl, hl, hd⟩ := rd_list m1 o1 rd
  obtain ⟨ks, rfl, ek, hk⟩ := prs_dv hd
  have hlen : ks.length = zs.length := by rw [← ek, List.length_map]
  refine ⟨l, ks.map (fun p => (p.1, prV p.2)), rfl, SqL.of (by rw [List.map_map]; exact hl), fun p hp => ?_, by rw [List.length_map, hlen]; exact hn, fun a L ha hL1 hL2 nd => ?_⟩
  · obtain ⟨q0, hq0, rfl⟩ := List.mem_map.mp hp
    exact SqT.of (m1.ex _ _ (hk q0 hq0))
  · have hsub : ∀ p ∈ L, ∃ q ∈ ks, p = (q.1, prV q.2) := fun p hp => by
      obtain ⟨q0, hq0, e⟩ := List.mem_map.mp (hL1 p hp)
      exact ⟨q0, hq0, e.symm⟩
    have hall : ∀ q ∈ ks, prV q.2 ∈ L.map (·.2) := fun q0 hq0 => hL2 _ (List.mem_map.mpr ⟨q0, hq0, rfl⟩)
    have inz : ∀ q ∈ ks, q.2 ∈ zs := fun q0 hq0 => by rw [← ek]; exact List.mem_map.mpr ⟨q0, hq0, rfl⟩
    have ha' : ∀ x o, H1 x = some o → x ≠ a := fun x o hx z => by rw [z, ha] at hx; cases hx
    refine ⟨a, L, rfl, upd_same, fun p hp => ?_, fun p hp => ?_, fun L' n pm pw hn' => ?_⟩
    · obtain ⟨q0, hq0, rfl⟩ := hsub p hp
      have := m1.ex _ _ (hk q0 hq0)
      exact SqT.of (by rw [upd_ne (ha' _ _ this)]; exact this)
    · obtain ⟨q0, hq0, rfl⟩ := hsub p hp
      rfl
    · obtain ⟨s2, m2⟩ := newH m1 ha (PSetO X.prog X.w a L)
      have hsub' : ∀ p ∈ L', ∃ q ∈ ks, p = (q.1, prV q.2) := fun p hp => hsub p (pm.mem_iff.mp hp)
      have es := ks_sorted hsub' (fun q0 hq0 => (pm.map (·.2)).mem_iff.mpr (hall q0 hq0)) ((pm.map (·.2)).nodup_iff.mpr nd) pw
      have dvl : DvAll F1 (L'.map fun q => V.ref q.1) ((L'.map fun p => (p.1, TS.code 1000 p.2)).map (·.2) |>.map prC) := by
        have := dv_prs (F := F1) (ks := L'.map fun p => (p.1, TS.code 1000 p.2)) fun p hp => by
          obtain ⟨p0, hp0, rfl⟩ := List.mem_map.mp hp
          obtain ⟨q0, hq0, e⟩ := hsub' p0 hp0
          rw [e]
          simp only [pr_code]
          exact hk q0 hq0
        rw [List.map_map] at this
        exact this
      have e9 : (L'.map fun p => (p.1, TS.code 1000 p.2)).map (·.2) = L'.map fun p => TS.code 1000 p.2 := by rw [List.map_map]; rfl
      rw [e9, es, ek] at dvl
      obtain ⟨s3, m3⟩ := newM m2 hn' dvl
      exact q _ _ _ _ ((s1.trans s2).trans s3) m3 ⟨n, by rw [← m1.len]; simp, rfl⟩
end
/-! ### chords -/
def chMax : Nat := 150
/-- the tip with number i -/
def tpN (N n st i : Nat) : Nat := (st + i * n) % N
def chCode (x y : Nat) : Int := ((min x y : Nat) : Int) * 1000 + ((max x y : Nat) : Int)
def chZ (N n st arcs : Nat) : List Int := gathI arcs (fun i => !decide (((tpN N n st i : Nat) : Int) = ((tpN N n st (i + 1) : Nat) : Int))) (fun i => chCode (tpN N n st i) (tpN N n st (i + 1)))
abbrev chordsD (N n st arcs : Nat) : List PyData := (ssort (chZ N n st arcs)).map prC
section
variable {N n st arcs : Nat}
theorem tp_lt (hN : 0 < N) (i : Nat) : tpN N n st i < N := Nat.mod_lt _ hN
theorem prC_code {x y : Nat} (hx : x < 1000) (hy : y < 1000) : prC (chCode x y) = .tuple [.int (min (x : Int) (y : Int)), .int (max (x : Int) (y : Int))] := by
  unfold prC chCode
  have h1 : ((min x y : Nat) : Int) = min (x : Int) (y : Int) := by omega
  have h2 : ((max x y : Nat) : Int) = max (x : Int) (y : Int) := by omega
  have h3 : max x y < 1000 := by omega
  have h4 : min x y < 1000 := by omega
  rw [← h1, ← h2]
  congr 3
  · omega
  · congr 2
    omega
theorem tips_int {m i : Nat} (h : i < m) : (intsI (tipsN N n st m)).getD i 0 = ((tpN N n st i : Nat) : Int) := intsI_getD (tips_get h)
theorem ch_gath (hN : 0 < N) (hN2 : N ≤ 1000) : gath arcs (fun i => !decide ((intsI (tipsN N n st (arcs + 1))).getD i 0 = ((intsI (tipsN N n st (arcs + 1))).drop 1).getD i 0)) (fun i => .tuple [.int (min ((intsI (tipsN N n st (arcs + 1))).getD i 0) (((intsI (tipsN N n st (arcs + 1))).drop 1).getD i 0)), .int (max ((intsI (tipsN N n st (arcs + 1))).getD i 0) (((intsI (tipsN N n st (arcs + 1))).drop 1).getD i 0))]) = (chZ N n st arcs).map prC := by
  unfold gath chZ gathI
  rw [List.map_map]
  have e1 : ∀ i, i < arcs → (intsI (tipsN N n st (arcs + 1))).getD i 0 = ((tpN N n st i : Nat) : Int) := fun i hi => tips_int (by omega)
  have e2 : ∀ i, i < arcs → ((intsI (tipsN N n st (arcs + 1))).drop 1).getD i 0 = ((tpN N n st (i + 1) : Nat) : Int) := fun i hi => by rw [drop_getD]; exact tips_int (by omega)
  have ef : (List.range arcs).filter (fun i => !decide ((intsI (tipsN N n st (arcs + 1))).getD i 0 = ((intsI (tipsN N n st (arcs + 1))).drop 1).getD i 0)) = (List.range arcs).filter (fun i => !decide (((tpN N n st i : Nat) : Int) = ((tpN N n st (i + 1) : Nat) : Int))) := List.filter_congr fun i hi => by
    rw [e1 i (List.mem_range.mp hi), e2 i (List.mem_range.mp hi)]
  rw [ef]
  refine List.map_congr_left fun i hi => ?_
  have hi' := List.mem_range.mp (List.mem_filter.mp hi).1
  rw [e1 i hi', e2 i hi']
  have h1 := tp_lt (n := n) (st := st) hN i
  have h2 := tp_lt (n := n) (st := st) hN (i + 1)
  show _ = prC (chCode _ _)
  rw [prC_code (by omega) (by omega)]
theorem ch_bnd (hN : 0 < N) (hN2 : N ≤ 1000) : ∀ z ∈ chZ N n st arcs, 0 ≤ z ∧ z < 1000000 := fun z hz => by
  unfold chZ gathI at hz
  obtain ⟨i, _, rfl⟩ := List.mem_map.mp hz
  have h1 := tp_lt (n := n) (st := st) hN i
  have h2 := tp_lt (n := n) (st := st) hN (i + 1)
  unfold chCode
  omega
theorem ch_len : (chZ N n st arcs).length ≤ arcs := by
  unfold chZ gathI
  rw [List.length_map]
  exact Nat.le_trans (List.length_filter_le _ _) (by simp)
theorem gd_prs (zs : List Int) : Gd 2 (.list (zs.map prC)) := Gd.list fun d hd => by
  obtain ⟨z, _, rfl⟩ := List.mem_map.mp hd
  exact gd_pair _ _
theorem nb_prs (zs : List Int) : nbD (.list (zs.map prC)) = true := by
  show nbD.nbAll (zs.map prC) = true
  exact nb_map prC (fun _ => rfl) zs
def Sig_chords_of : List PyData → Res → Prop := fun ds r => ∃ N n s st arcs, 0 < N ∧ N ≤ 1000 ∧ 0 < n ∧ n ≤ 1000 ∧ arcs ≤ chMax ∧ ds = [gD N n s, .int (st : Nat), .int (arcs : Nat)] ∧ r = .new (chordsD N n st arcs)
/-! ### drawings of closed curves -/
def mulL (n k : Nat) : List Int := (List.range k).map fun j => ((j * n : Nat) : Int)
theorem mulL_succ (k : Nat) : mulL n (k + 1) = mulL n k ++ [((k * n : Nat) : Int)] := by unfold mulL; rw [List.range_succ, List.map_append]; rfl
theorem mulL_len (k : Nat) : (mulL n k).length = k := by simp [mulL]
theorem tips_more (hN : 0 < N) (hst : st < N) : tipsN N n st (petN N n + 1) = tipsN N n st (petN N n) ++ [st] := by
  rw [tips_succ]
  have := round_tip (n := n) hN st 0
  rw [Nat.zero_add, Nat.zero_mul, Nat.add_zero, Nat.mod_eq_of_lt hst] at this
  rw [this]
theorem tips_twice (hN : 0 < N) (hst : st < N) : tipsN N n st (petN N n + petN N n + 1) = tipsN N n st (petN N n) ++ tipsN N n st (petN N n) ++ [st] := by
  have e : ∀ k, tipsN N n st (petN N n + k) = tipsN N n st (petN N n) ++ tipsN N n st k := fun k => by
    induction k with
    | zero => simp [tipsN]
    | succ k ih =>
      rw [← Nat.add_assoc, tips_succ, ih, tips_succ, List.append_assoc]
      congr 2
      rw [Nat.add_comm (petN N n) k, round_tip hN]
  rw [Nat.add_assoc, e, tips_more hN hst, List.append_assoc]
theorem len_div (hN : 0 < N) (hn : 0 < n) : lenN N n / n = petN N n := by rw [len_pet hN, Nat.mul_div_cancel _ hn]
theorem closed_iff (hN : 0 < N) (hn : 0 < n) (k : Nat) : lenN N n ≤ k * n ↔ petN N n ≤ k := by
  rw [len_pet hN]
  constructor
  · intro h; exact Nat.le_of_mul_le_mul_right h hn
  · intro h; exact Nat.mul_le_mul_right n h
/-- the wheel is among those read back -/
theorem wheel_back {sd : Str} (hg : GOk N n sd) {m : Nat} (hm : 2 ≤ m) : n ∈ wheelsN N (tipsN N n st m) sd := by
  obtain ⟨h1, h2, h3, h4⟩ := hg.pos
  have e : ssort (stepsN N (tipsN N n st m)) = [((n : Nat) : Int) % (N : Int)] := by
    refine ssort_one (x := ((n : Nat) : Int) % (N : Int)) (fun z => ?_) fun y hy => ?_
    · have := congrArg List.length z
      unfold stepsN at this
      rw [gathI_true, tips_len] at this
      simp at this; omega
    · unfold stepsN at hy
      rw [gathI_true, tips_len] at hy
      obtain ⟨i, hi, rfl⟩ := List.mem_map.mp hy
      have hi' := List.mem_range.mp hi
      rw [tips_int (by omega), tips_int (by omega)]
      unfold tpN
      rw [Int.natCast_emod, Int.natCast_emod, ← Int.sub_emod]
      congr 1
      rw [Nat.add_mul]
      simp only [Int.natCast_add, Int.natCast_mul]
      omega
  unfold wheelsN
  rw [e]
  simp only []
  rw [List.mem_filter]
  have q2 := hg.n150
  have q3 : 2 ≤ n := hg.n2
  refine ⟨List.mem_map.mpr ⟨n - 2, List.mem_range.mpr (by omega), by omega⟩, ?_⟩
  rw [decide_eq_true rfl, hg.is]; rfl
end
section
variable {X : Cx} {ρ : REnv} {o e : Expr} {c : Cl} {C : Addr} {w : DA} {g : PyData} {st : Int} {P T : List Int} {pos apos : Pos} {Pre : List MO} {k : Nat}
theorem ed_rollN {z m : Nat} {pl : Sem Bool} (D : DrwC X.K X.mg C) (G : FnM X.prog X.w X.K X.mg X.base C "roll" k ["self", "step"] (Sig_roll c C)) (hr : Room k X.A) (ho : ED X ρ (Pre ++ drwM C w g st (T ++ [(z : Int)]) P) o (.own Pre.length) (Pre ++ drwM C w g st (T ++ [(z : Int)]) P)) (he : ED X ρ (Pre ++ drwM C w g st (T ++ [(z : Int)]) P) e (.d (.int (m : Nat))) (Pre ++ drwM C w g st (T ++ [(z : Int)]) P)) (hm : m ≤ 1000000) (hT : T.length < 90000) (hP : P.length < 90000)
    (hst : starEach (e :: []) X.env = (false, eval e X.env) :: starEach [] X.env := by rfl)
    (ht : eval (.Call (.Attribute o "roll" apos) [e] [] pos) X.env = (do
      let ov ← eval o X.env
      standAt apos.atName
      let (f, first) ← holding [ov] (getMethod ov "roll" pl)
      callWith pos f first (backTo pos (starEach [e] X.env)) (backToKw pos (keywordEach [] X.env))) := by rfl) :
    ED X ρ (Pre ++ drwM C w g st (T ++ [(z : Int)]) P) (.Call (.Attribute o "roll" apos) [e] [] pos) (.d (.int ((z + m : Nat) : Int))) (Pre ++ drwM C w g st (T ++ [(z : Int)] ++ [((z + m : Nat) : Int)]) (P ++ [(z : Int)])) :=
  ed_rollD D G hr ho he hm hT hP hst ht
end
/-- the end of k20 -/
def Sig_law_part (C : Addr) : SigO := fun rs M r M' => ∃ (b : Addr) (s : DS) (w : DA) (N n : Nat) (sd : Str) (st arcs : Nat), s.Ok ∧ GOk N n sd ∧ st < N ∧ arcs < 20 ∧ rs = [.own 0, .d (gD N n sd), .d (.int (st : Nat)), .d (.int (arcs : Nat)), .own 2] ∧
  M = drM b s ++ drwM C w (gD N n sd) (st : Nat) (mulL n arcs ++ [((arcs * n : Nat) : Int)]) (mulL n arcs) ∧ r = vB true ∧ M' = drM b (drS s (n : Int)) ++ drwM C w (gD N n sd) (st : Nat) (mulL n 0 ++ [((0 * n : Nat) : Int)]) (mulL n 0)
end WC

/-! crossings -/
namespace WC
open PySem L2
open Evl (Ex)
def crossZ (z y : Int) : Bool := (decide (z / 1000 < y / 1000) && (decide (y / 1000 < z % 1000) && decide (z % 1000 < y % 1000))) || (decide (y / 1000 < z / 1000) && (decide (z / 1000 < y % 1000) && decide (y % 1000 < z % 1000)))
def crC : List Int → Nat
  | [] => 0
  | z :: r => (r.filter (crossZ z)).length + crC r
def stepN (N n : Nat) : Nat := min (rndN N n % petN N n) (petN N n - rndN N n % petN N n)
def crN (N n : Nat) : Nat := if stepN N n = 0 ∨ 2 * stepN N n = petN N n then 0 else petN N n * (stepN N n - 1)
def Sig_cross : List PyData → Res → Prop := fun ds r => ∃ z y : Int, ds = [prC z, prC y] ∧ r = vB (crossZ z y)
theorem cr_sum : ∀ l : List Int, (gathI l.length (fun _ => true) (fun k => ((((l.drop (k + 1)).filter (crossZ (l.getD k 0))).length : Nat) : Int))).sum = ((crC l : Nat) : Int)
  | [] => rfl
  | z :: l => by
    have ih := cr_sum l
    rw [gathI_true] at ih ⊢
    rw [List.length_cons, List.range_succ_eq_map, List.map_cons, List.sum_cons, List.map_map]
    have e : ((fun k => ((((z :: l).drop (k + 1)).filter (crossZ ((z :: l).getD k 0))).length : Int)) ∘ Nat.succ) = fun k => ((((l.drop (k + 1)).filter (crossZ (l.getD k 0))).length : Nat) : Int) := by
      funext k
      simp
    rw [e, ih]
    show ((((l.filter (crossZ z)).length : Nat) : Int)) + _ = _
    rw [show crC (z :: l) = (l.filter (crossZ z)).length + crC l from rfl]
    omega
theorem filt_len (l : List Int) (p : Int → Bool) : (gath l.length (fun i => p (l.getD i 0)) (fun i => prC (l.getD i 0))).length = (l.filter p).length := by
  unfold gath
  rw [List.length_map]
  have : ∀ l : List Int, ((List.range l.length).filter fun i => p (l.getD i 0)).length = (l.filter p).length := by
    intro l
    have e : l = (List.range l.length).map (fun i => l.getD i 0) := by
      have := range_getD (S := l) (fun x => x)
      simp only [List.map_id'] at this
      exact this.symm
    conv => rhs; rw [e]
    rw [List.filter_map, List.length_map]
    rfl
  exact this l
theorem step_le (hN : 0 < N) : stepN N n ≤ petN N n := by
  unfold stepN; omega
end WC
namespace WC
open PySem L2
theorem prs_item {zs : List Int} {i : Nat} {d : PyData} (h : (zs.map prC)[i]? = some d) : prC (zs.getD i 0) = d := by
  have hi := (List.getElem?_eq_some_iff.mp h).1
  rw [List.length_map] at hi
  rw [List.getElem?_map, List.getElem?_eq_getElem hi] at h
  simp at h
  rw [← h, List.getD_eq_getElem?_getD, List.getElem?_eq_getElem hi]; rfl
end WC
namespace WC
open PySem L2
theorem gd_125 : Gd 0 (.str "12/5 in") := Gd.str (by decide +kernel)
theorem cr_one {N n st : Nat} : crC (ssort (chZ N n st 1)) = 0 := by
  have h1 := ch_len (N := N) (n := n) (st := st) (arcs := 1)
  have h2 := ssort_len_le (chZ N n st 1)
  generalize ssort (chZ N n st 1) = l at h2
  match l, h2 with
  | [], _ => rfl
  | [_], _ => rfl
  | _ :: _ :: _, h2 => simp at h2; omega
end WC

/-! boxes of gears -/
namespace WC
open PySem L2
open Evl (Ex)
section
variable {X : Cx} {ρ : REnv} {M M1 : List MO} {e : Expr} {r : Slot} {pos : Pos} {E : XK}
/-- xs += ys at an owned list -/
theorem sd_augL {i j : Nat} {x : Str} {p : Pos} {xs ys : List PyData} (hN : X.N.Nodup) (h : ED X ρ M e (.d (.list ys)) M) (hz : xs.length + ys.length ≤ 100000) (hv : ρ[i]? = some (some (.own j)) := by rfl) (hj : M[j]? = some (.lst xs) := by rfl) (hi : X.N[i]? = some x := by rfl) (hx : Loc X.env.scope x := by first | exact Or.inl rfl | exact Or.inr rfl)
    (hf : X.fn x = true ∨ X.env.scope.names.lookup x = some .local := by first | exact .inl rfl | exact .inr rfl) : S1 X E ρ M (.AugAssign (.Name x p) .Add e pos) (.nx ρ (M.set j (.lst (xs ++ ys)))) := fun As σ F H hM hE D q => by
  obtain ⟨v, h1, a, h2, rfl⟩ := hE.env i _ hv
  refine ⟨_, ps_aug (ti := rExt2) hN hi hx (pe_w X e) (fun pins s σ H x y v u Q I r1 r2 h => iop_ext pins s σ H x y v u Q I r1 r2 h) hf, .ref a, h1, h As σ F H hM hE _ fun v As1 F1 H1 s1 m1 o1 => ?_⟩
  have p1 := s1.pre h2
  obtain ⟨us, q1, q2⟩ := m1.mem j a _ p1 hj
  obtain ⟨b, zs, rfl, k1, k2⟩ := rd_list m1 o1 (.d _)
  obtain ⟨s3, m3⟩ := upM m1 p1 ⟨_, hj⟩ (q2.append k2)
  refine ⟨a, b, us, zs, rfl, rfl, q1, k1, ?_, ?_⟩
  · have e1 := q2.length
    have e2 := k2.length
    rw [e1, e2]
    exact Nat.le_trans hz (by decide)
  · have hlen : i < σ.length := (List.getElem?_eq_some_iff.mp h1).1
    have : σ.set i (some (.ref a)) = σ := by
      apply List.ext_getElem?
      intro k
      by_cases z : k = i
      · subst z; rw [List.getElem?_set_self hlen, h1]
      · rw [List.getElem?_set_ne (Ne.symm z)]
    show D.nx (σ.set i (some (.ref a))) _
    rw [this]
    exact q As1 σ F1 _ (s1.trans s3) m3 ((hE.step s1).step s3)
/-- xs[::-1] -/
theorem ed_revL {ds : List PyData} {k : Nat} {p1 p2 p3 : Pos} (he : ED X ρ M e r M1) (rd : Rds M1 r (.list ds)) : ED X ρ M (.Subscript e (.Slice none none (some (.UnaryOp .USub (.Constant (.int 1) k p1) p2)) p3) pos) (.own M1.length) (M1 ++ [.lst ds.reverse]) := fun As σ F H hM hE Q q =>
  ⟨_, pe_revL (pe_w X e), he As σ F H hM hE _ fun v As1 F1 H1 s1 m1 o1 => by
    obtain ⟨l, xs, rfl, k1, k2⟩ := rd_list m1 o1 rd
    refine ⟨l, xs, rfl, SqL.of k1, fun a ha => ?_⟩
    obtain ⟨s2, m2⟩ := newM m1 ha k2.reverse
    exact q _ _ _ _ (s1.trans s2) m2 ⟨a, by rw [← m1.len]; simp, rfl⟩⟩
end
/-! ### what the boxes hold -/
def nsort (rs : List Nat) : List Nat := (ssort (intsI rs)).map Int.toNat
theorem nsort_ints (rs : List Nat) : intsI (nsort rs) = ssort (intsI rs) := by
  unfold nsort
  conv => lhs; unfold intsI
  rw [List.map_map]
  conv => rhs; rw [← List.map_id (ssort (intsI rs))]
  apply List.map_congr_left
  intro k hk
  obtain ⟨x, _, rfl⟩ := mem_intsI'.mp ((mem_ssort k _).mp hk)
  rfl
theorem mem_nsort {rs : List Nat} {x : Nat} : x ∈ nsort rs ↔ x ∈ rs := by
  rw [← mem_intsI, nsort_ints, mem_ssort, mem_intsI]
theorem nsort_len (rs : List Nat) : (nsort rs).length ≤ rs.length := by
  unfold nsort
  rw [List.length_map]
  exact Nat.le_trans (ssort_len_le _) (by rw [intsI_len]; exact Nat.le_refl _)
theorem nsort_nodup (rs : List Nat) : (nsort rs).Nodup := by
  have h : (intsI (nsort rs)).Nodup := by
    rw [nsort_ints]
    exact (asc_ssort _).imp fun h => by omega
  unfold intsI List.Nodup at h
  rw [List.pairwise_map] at h
  exact h.imp fun h e => h (by rw [e])
theorem nsort_congr {l m : List Nat} (h : ∀ x, x ∈ l ↔ x ∈ m) : nsort l = nsort m := by
  unfold nsort
  rw [ssort_congr (l := intsI l) (m := intsI m)]
  intro k
  rw [mem_intsI', mem_intsI']
  exact ⟨fun ⟨x, a, b⟩ => ⟨x, (h x).mp a, b⟩, fun ⟨x, a, b⟩ => ⟨x, (h x).mpr a, b⟩⟩
abbrev Gr := Nat × Nat
def gT (sd : Str) (g : Gr) : PyData := gD g.1 g.2 sd
def rowN (ws : List Nat) (sd : Str) (r : Nat) : List Gr := ((nsort ws).filter fun w => isGearB (gD r w sd)).map fun w => (r, w)
def boxN (rs ws : List Nat) (sd : Str) : List Gr := (nsort rs).flatMap (rowN ws sd)
def boxT (rs ws : List Nat) (sd : Str) (i : Nat) : List PyData := (((nsort rs).take i).flatMap (rowN ws sd)).map (gT sd)
theorem row_len (ws : List Nat) (sd : Str) (r : Nat) : (rowN ws sd r).length ≤ ws.length := by
  unfold rowN
  rw [List.length_map]
  exact Nat.le_trans (List.length_filter_le _ _) (nsort_len ws)
theorem flat_len {α β : Type} (f : α → List β) (k : Nat) : ∀ l : List α, (∀ x ∈ l, (f x).length ≤ k) → (l.flatMap f).length ≤ l.length * k
  | [], _ => by simp
  | x :: l, h => by
    rw [List.flatMap_cons, List.length_append, List.length_cons, Nat.add_mul, Nat.one_mul]
    have h1 := h x (by simp)
    have h2 := flat_len f k l fun y hy => h y (by simp [hy])
    omega
theorem boxT_len (rs ws : List Nat) (sd : Str) (i : Nat) : (boxT rs ws sd i).length ≤ rs.length * ws.length := by
  unfold boxT
  rw [List.length_map]
  refine Nat.le_trans (flat_len _ ws.length _ fun x _ => row_len ws sd x) (Nat.mul_le_mul_right _ ?_)
  rw [List.length_take]
  exact Nat.le_trans (Nat.min_le_right _ _) (nsort_len rs)
theorem box_len (rs ws : List Nat) (sd : Str) : (boxN rs ws sd).length ≤ rs.length * ws.length := by
  refine Nat.le_trans (flat_len _ ws.length _ fun x _ => row_len ws sd x) (Nat.mul_le_mul_right _ (nsort_len rs))
theorem boxT_all (rs ws : List Nat) (sd : Str) : boxT rs ws sd (nsort rs).length = (boxN rs ws sd).map (gT sd) := by
  unfold boxT boxN
  rw [List.take_length]
theorem boxT_succ {rs ws : List Nat} {sd : Str} {i : Nat} (hi : i < (nsort rs).length) : boxT rs ws sd (i + 1) = boxT rs ws sd i ++ (rowN ws sd ((nsort rs).getD i 0)).map (gT sd) := by
  unfold boxT
  rw [List.take_succ, List.flatMap_append, List.map_append, List.getElem?_eq_getElem hi, List.getD_eq_getElem?_getD, List.getElem?_eq_getElem hi]
  simp
theorem gath_filter (l : List Nat) (p : Nat → Bool) (g : Nat → PyData) : gath l.length (fun i => p (l.getD i 0)) (fun i => g (l.getD i 0)) = (l.filter p).map g := by
  unfold gath
  have e : l = (List.range l.length).map (fun i => l.getD i 0) := by
    have : ∀ l : List Nat, (List.range l.length).map (fun i => l.getD i 0) = l := by
      intro l
      apply List.ext_getElem
      · simp
      · intro i h1 h2
        simp only [List.getElem_map, List.getElem_range]
        rw [List.getD_eq_getElem?_getD, List.getElem?_eq_getElem h2]; rfl
    exact (this l).symm
  conv => rhs; rw [e]
  rw [List.filter_map, List.map_map]
  rfl
theorem row_gath (ws : List Nat) (sd : Str) (r : Nat) (p : Nat → Bool) (hp : ∀ w ∈ ws, p w = isGearB (gD r w sd)) : gath (nsort ws).length (fun j => p ((nsort ws).getD j 0)) (fun j => gD r ((nsort ws).getD j 0) sd) = (rowN ws sd r).map (gT sd) := by
  rw [gath_filter (nsort ws) p (fun w => gD r w sd)]
  unfold rowN
  rw [List.map_map, List.filter_congr fun w hw => hp w (mem_nsort.mp hw)]
  rfl
theorem mem_box {rs ws : List Nat} {sd : Str} {g : Gr} : g ∈ boxN rs ws sd ↔ g.1 ∈ rs ∧ g.2 ∈ ws ∧ isGearB (gD g.1 g.2 sd) = true := by
  unfold boxN rowN
  simp only [List.mem_flatMap, List.mem_map, List.mem_filter, mem_nsort]
  constructor
  · rintro ⟨a, ha, w, ⟨hw, hg⟩, rfl⟩
    exact ⟨ha, hw, hg⟩
  · rintro ⟨h1, h2, h3⟩
    exact ⟨g.1, h1, g.2, ⟨h2, h3⟩, rfl⟩
theorem box_ok {rs ws : List Nat} {sd : Str} {g : Gr} (h : g ∈ boxN rs ws sd) : GOk g.1 g.2 sd := GOk.of (mem_box.mp h).2.2
def rT (sd : Str) (g : Gr) : PyData := .tuple [.int (rndN g.1 g.2 : Nat), gT sd g]
def pickN (rs ws : List Nat) (sd : Str) (many : Nat) : List Gr := (boxN rs ws sd).filter fun g => decide ((petN g.1 g.2 : Int) = (many : Int))
def withN (rs ws : List Nat) (sd : Str) (many : Nat) : List Gr := (pickN rs ws sd many).mergeSort fun a b => leD (rT sd a) (rT sd b)
theorem with_map (rs ws : List Nat) (sd : Str) (many : Nat) : sortD ((pickN rs ws sd many).map (rT sd)) = (withN rs ws sd many).map (rT sd) := by
  unfold sortD withN
  rw [List.map_mergeSort]
  intro a _ b _; rfl
theorem with_perm (rs ws : List Nat) (sd : Str) (many : Nat) : (withN rs ws sd many).Perm (pickN rs ws sd many) := List.mergeSort_perm _ _
theorem mem_with {rs ws : List Nat} {sd : Str} {many : Nat} {g : Gr} : g ∈ withN rs ws sd many ↔ g ∈ boxN rs ws sd ∧ petN g.1 g.2 = many := by
  rw [(with_perm rs ws sd many).mem_iff]
  unfold pickN
  rw [List.mem_filter, decide_eq_true_eq]
  exact ⟨fun ⟨a, b⟩ => ⟨a, by omega⟩, fun ⟨a, b⟩ => ⟨a, by omega⟩⟩
def petsN (rs ws : List Nat) (sd : Str) : List Int := (boxN rs ws sd).map fun g => (petN g.1 g.2 : Int)
def Sig_gears_of : List PyData → Res → Prop := fun ds r => ∃ (rs ws : List Nat) (sd : Str), rs.length ≤ 20 ∧ ws.length ≤ 20 ∧ ds = [.list (intsD rs), .list (intsD ws), .str sd] ∧ r = .new ((boxN rs ws sd).map (gT sd))
structure BoxOk (rs ws : List Nat) (sd : Str) : Prop where
  r1 : 1 ≤ rs.length
  r2 : rs.length ≤ 20
  w1 : 1 ≤ ws.length
  w2 : ws.length ≤ 20
  ra : ∀ x ∈ rs, 3 ≤ x ∧ x ≤ 150
  wa : ∀ x ∈ ws, 2 ≤ x ∧ x ≤ 150
  side : sd = "in" ∨ sd = "out"
def Sig_all_petals : List PyData → Res → Prop := fun ds r => ∃ (rs ws : List Nat) (sd : Str), BoxOk rs ws sd ∧ ds = [.list (intsD rs), .list (intsD ws), .str sd] ∧ r = .new ((ssort (petsN rs ws sd)).map .int)
def Sig_gears_with : List PyData → Res → Prop := fun ds r => ∃ (rs ws : List Nat) (sd : Str) (many : Nat), BoxOk rs ws sd ∧ 1 ≤ many ∧ many ≤ 150 ∧ ds = [.list (intsD rs), .list (intsD ws), .str sd, .int (many : Nat)] ∧ r = .new ((withN rs ws sd many).map (gT sd))
theorem lst_okL {ls : List Nat} {a b lo : Nat} {hi : Int} (h1 : a ≤ ls.length) (h2 : ls.length ≤ b) (hx : ∀ x ∈ ls, lo ≤ x ∧ (x : Int) ≤ hi) : lstB (.list (intsD ls)) a b (lo : Nat) hi = true := by
  unfold lstB
  simp only [intsD_len]
  rw [decide_eq_true h1, decide_eq_true h2]
  simp only [Bool.true_and, List.all_eq_true]
  intro d hd
  unfold intsD intsI at hd
  rw [List.map_map, List.mem_map] at hd
  obtain ⟨x, hx', rfl⟩ := hd
  obtain ⟨k1, k2⟩ := hx x hx'
  show (decide (((lo : Nat) : Int) ≤ (x : Int)) && decide ((x : Int) ≤ hi)) = true
  rw [decide_eq_true (by omega), decide_eq_true k2]; rfl
section
variable {X : Cx} {ρ : REnv} {M M1 : List MO} {e : Expr}
theorem it_intsN {tg : Expr} (l : List Nat) (h : ED X ρ M e (.d (.list (intsD l))) M1) : ITR X ρ M tg e l.length (fun i => .int ((l.getD i 0 : Nat) : Int)) M1 := by
  have := it_list (tg := tg) (fun i => .int ((l.getD i 0 : Nat) : Int)) h fun i d hd => by
    unfold intsD intsI at hd
    rw [List.map_map, List.getElem?_map] at hd
    rw [List.getD_eq_getElem?_getD]
    cases hl : l[i]? with
    | none => rw [hl] at hd; cases hd
    | some x => rw [hl] at hd; simp at hd; rw [← hd]; rfl
  rwa [intsD_len] at this
end
theorem map_item {α : Type} {f : α → PyData} {z : α} {l : List α} {i : Nat} {d : PyData} (h : (l.map f)[i]? = some d) : f (l.getD i z) = d := by
  rw [List.getElem?_map] at h
  rw [List.getD_eq_getElem?_getD]
  cases hl : l[i]? with
  | none => rw [hl] at h; cases h
  | some x => rw [hl] at h; simp at h; rw [← h]; rfl
theorem gT_item {sd : Str} {l : List Gr} {i : Nat} {d : PyData} (h : (l.map (gT sd))[i]? = some d) : gT sd (l.getD i (0, 0)) = d := map_item h
theorem rT_item {sd : Str} {l : List Gr} {i : Nat} {d : PyData} (h : (l.map (rT sd))[i]? = some d) : rT sd (l.getD i (0, 0)) = d := map_item h
theorem gr_range (l : List Gr) : (List.range l.length).map (fun i => l.getD i (0, 0)) = l := by
  apply List.ext_getElem
  · simp
  · intro i h1 h2
    simp only [List.getElem_map, List.getElem_range]
    rw [List.getD_eq_getElem?_getD, List.getElem?_eq_getElem h2]; rfl
theorem gr_gath (l : List Gr) (p : Gr → Bool) (g : Gr → PyData) : gath l.length (fun i => p (l.getD i (0, 0))) (fun i => g (l.getD i (0, 0))) = (l.filter p).map g := by
  unfold gath
  conv => rhs; rw [← gr_range l]
  rw [List.filter_map, List.map_map]
  rfl
theorem all_gath (l : List Gr) (g : Gr → PyData) : gath l.length (fun _ => true) (fun i => g (l.getD i (0, 0))) = l.map g := by
  rw [gr_gath l (fun _ => true) g, List.filter_eq_self.mpr (fun _ _ => rfl)]
theorem all_gathI (l : List Gr) (g : Gr → Int) : gathI l.length (fun _ => true) (fun i => g (l.getD i (0, 0))) = l.map g := by
  rw [gathI_true]
  conv => rhs; rw [← gr_range l]
  rw [List.map_map]; rfl
theorem pets_gath (rs ws : List Nat) (sd : Str) : gathI (boxN rs ws sd).length (fun _ => true) (fun i => ((petN ((boxN rs ws sd).getD i (0, 0)).1 ((boxN rs ws sd).getD i (0, 0)).2 : Nat) : Int)) = petsN rs ws sd := all_gathI _ fun g => (petN g.1 g.2 : Int)
theorem pick_gath (rs ws : List Nat) (sd : Str) (many : Nat) : gath (boxN rs ws sd).length (fun i => decide (((petN ((boxN rs ws sd).getD i (0, 0)).1 ((boxN rs ws sd).getD i (0, 0)).2 : Nat) : Int) = (many : Int))) (fun i => rT sd ((boxN rs ws sd).getD i (0, 0))) = (pickN rs ws sd many).map (rT sd) := gr_gath (boxN rs ws sd) (fun g => decide (((petN g.1 g.2 : Nat) : Int) = (many : Int))) (rT sd)
theorem rT_alike (sd : Str) (l : List Gr) : PySem.W.AllAlike (l.map (rT sd)) := by
  intro d hd d' hd'
  obtain ⟨g, _, rfl⟩ := List.mem_map.mp hd
  obtain ⟨g', _, rfl⟩ := List.mem_map.mp hd'
  simp [rT, gT, gD, PySem.W.alike, PySem.W.alikeAll]
theorem rT_sortable (sd : Str) (l : List Gr) : PySem.W.Sortable (l.map (rT sd)) := .inl fun d hd => by
  obtain ⟨g, _, rfl⟩ := List.mem_map.mp hd
  exact ⟨_, _, rfl⟩
theorem rT_units {u : Nat} (hu : u + 64 < cLine) (sd : Str) (l : List Gr) : ∀ d ∈ l.map (rT sd), u + 2 + d.depth < cLine := by
  intro d hd
  obtain ⟨g, _, rfl⟩ := List.mem_map.mp hd
  have : (rT sd g).depth ≤ 5 := by simp [rT, gT, gD, PyData.depth, PyData.depthAll]
  omega
end WC

/-! lines that tell their wheels -/
namespace WC
open PySem L2
theorem iter_ex {P : DS → Nat → DS → Prop} (h : ∀ s, s.Ok → ∃ v s', DS.Ok s' ∧ P s v s') (s : DS) (hs : s.Ok) : ∃ (S : Nat → DS) (v : Nat → Nat), S 0 = s ∧ ∀ i, (S i).Ok ∧ P (S i) (v i) (S (i + 1)) := by
  let T := { s : DS // s.Ok }
  have h' : ∀ t : T, ∃ q : Nat × T, P t.1 q.1 q.2.1 := fun t => by
    obtain ⟨v, s', a, b⟩ := h t.1 t.2
    exact ⟨(v, ⟨s', a⟩), b⟩
  let f : T → Nat × T := fun t => Classical.choose (h' t)
  have hf : ∀ t : T, P t.1 (f t).1 (f t).2.1 := fun t => Classical.choose_spec (h' t)
  let S : Nat → T := fun n => Nat.rec ⟨s, hs⟩ (fun _ t => (f t).2) n
  exact ⟨fun i => (S i).1, fun i => (f (S i)).1, rfl, fun i => ⟨(S i).2, hf (S i)⟩⟩
section
variable {R : Nat} {ls : List Nat} {sd : Str}
theorem steps_get {i : Nat} (hi : i < ls.length - 1) : (stepsN R ls)[i]? = some ((((ls.getD (i + 1) 0 : Nat) : Int) - ((ls.getD i 0 : Nat) : Int)) % (R : Int)) := by
  unfold stepsN
  rw [gathI_true, List.getElem?_map, List.getElem?_range hi]
  have e : ∀ k, k < ls.length → (intsI ls).getD k 0 = ((ls.getD k 0 : Nat) : Int) := fun k hk => by
    rw [intsI_getD (List.getElem?_eq_getElem hk), List.getD_eq_getElem?_getD, List.getElem?_eq_getElem hk]; rfl
  rw [Option.map_some, e _ (by omega), e _ (by omega)]
theorem steps_len : (stepsN R ls).length = ls.length - 1 := by
  unfold stepsN; rw [gathI_true]; simp
/-- a wheel is told just if its line is the line -/
theorem step_line (hR : 0 < R) (hl : 2 ≤ ls.length) (hx : ∀ x ∈ ls, x < R) (w : Nat) : (ssort (stepsN R ls) = [((w : Nat) : Int) % (R : Int)]) ↔ tipsN R w (ls.getD 0 0) ls.length = ls := by
  have gx : ∀ k, k < ls.length → ls.getD k 0 < R := fun k hk => hx _ (by rw [List.getD_eq_getElem?_getD, List.getElem?_eq_getElem hk]; exact List.getElem_mem hk)
  constructor
  · intro h
    have hs : ∀ i, i < ls.length - 1 → (((ls.getD (i + 1) 0 : Nat) : Int) - ((ls.getD i 0 : Nat) : Int)) % (R : Int) = ((w : Nat) : Int) % (R : Int) := fun i hi => by
      have := (mem_ssort _ _).mpr (List.mem_of_getElem? (steps_get (R := R) hi))
      rw [h] at this
      simpa using this
    have all : ∀ i, i < ls.length → ((ls.getD 0 0) + i * w) % R = ls.getD i 0 := by
      intro i
      induction i with
      | zero => intro hi; rw [Nat.zero_mul, Nat.add_zero, Nat.mod_eq_of_lt (gx 0 hi)]
      | succ i ih =>
        intro hi
        have e := ih (by omega)
        have h1 := hs i (by omega)
        have b1 := gx (i + 1) hi
        rw [Nat.add_mul, Nat.one_mul, ← Nat.add_assoc, Nat.add_mod, e]
        have h2 : (((ls.getD i 0 + w % R) % R : Nat) : Int) = ((ls.getD (i + 1) 0 : Nat) : Int) := by
          rw [Int.natCast_emod, Int.natCast_add, Int.natCast_emod, ← h1, Int.add_emod_emod, show ((ls.getD i 0 : Nat) : Int) + (((ls.getD (i + 1) 0 : Nat) : Int) - ((ls.getD i 0 : Nat) : Int)) = ((ls.getD (i + 1) 0 : Nat) : Int) by omega]
          exact Int.emod_eq_of_lt (by omega) (by omega)
        exact Int.ofNat.inj h2
    apply List.ext_getElem?
    intro i
    by_cases hi : i < ls.length
    · rw [tips_get hi, all i hi, List.getD_eq_getElem?_getD, List.getElem?_eq_getElem hi]; rfl
    · rw [List.getElem?_eq_none (by rw [tips_len]; omega), List.getElem?_eq_none (by omega)]
  · intro h
    apply ssort_one
    · intro z
      have := steps_len (R := R) (ls := ls)
      rw [z] at this; simp at this; omega
    · intro y hy
      obtain ⟨i, hi, e⟩ := List.getElem_of_mem hy
      rw [steps_len] at hi
      have g := steps_get (R := R) hi
      rw [List.getElem?_eq_getElem (by rw [steps_len]; exact hi), e] at g
      cases g
      have gt : ∀ k, k < ls.length → ls.getD k 0 = (ls.getD 0 0 + k * w) % R := fun k hk => by
        have := tips_get (N := R) (n := w) (st := ls.getD 0 0) hk
        rw [h] at this
        rw [List.getD_eq_getElem?_getD, this]; rfl
      rw [gt (i + 1) (by omega), gt i (by omega), Int.natCast_emod, Int.natCast_emod, ← Int.sub_emod]
      congr 1
      rw [Nat.add_mul]
      omega
def good (R : Nat) (ls : List Nat) (sd : Str) (w : Nat) : Bool := isGearB (gD R w sd) && decide (tipsN R w (ls.getD 0 0) ls.length = ls)
theorem wheels_good (hR : 0 < R) (hl : 2 ≤ ls.length) (hx : ∀ x ∈ ls, x < R) : wheelsN R ls sd = ((List.range 149).map (· + 2)).filter (good R ls sd) := by
  unfold wheelsN
  split
  · rename_i s hs
    apply List.filter_congr
    intro w hw
    unfold good
    rw [Bool.and_comm]
    congr 1
    rw [decide_eq_decide, ← step_line hR hl hx w, hs]
    simp only [List.cons.injEq, and_true]
    exact ⟨fun h => h.symm, fun h => h.symm⟩
  · rename_i hs
    symm
    rw [List.filter_eq_nil_iff]
    intro w hw z
    unfold good at z
    simp only [Bool.and_eq_true, decide_eq_true_eq] at z
    exact hs _ ((step_line hR hl hx w).mpr z.2)
end
theorem dvd_no {N : Nat} {x : Int} (hN : 3 ≤ N) (h : (N : Int) ∣ x) (h1 : 0 < x) (h2 : x < 3) : False := by
  have := Int.le_of_dvd h1 h
  omega
theorem modD (a N : Nat) : (N : Int) ∣ ((a % N : Nat) : Int) - (a : Int) := by
  refine ⟨-((a / N : Nat) : Int), ?_⟩
  have h := Nat.div_add_mod a N
  have h2 : ((N * (a / N) : Nat) : Int) = (N : Int) * ((a / N : Nat) : Int) := Int.natCast_mul _ _
  rw [Int.mul_neg, ← h2]
  omega
theorem modS (N x i w : Nat) : (N : Int) ∣ (((x + (i + 1) * w) % N : Nat) : Int) - (((x + i * w) % N : Nat) : Int) - (w : Int) := by
  have h := Int.dvd_sub (modD (x + (i + 1) * w) N) (modD (x + i * w) N)
  have e : ((((x + (i + 1) * w) % N : Nat) : Int) - ((x + (i + 1) * w : Nat) : Int)) - ((((x + i * w) % N : Nat) : Int) - ((x + i * w : Nat) : Int)) = (((x + (i + 1) * w) % N : Nat) : Int) - (((x + i * w) % N : Nat) : Int) - (w : Int) := by
    rw [Nat.add_mul]; omega
  rwa [e] at h
/-- a line changed at one place has no wheel -/
theorem wrong_none {N n st m k : Nat} {sd : Str} (hN : 3 ≤ N) (hst : st < N) (hm : 3 ≤ m) (hk : k < m) : wheelsN N ((tipsN N n st m).set k (((st + k * n) % N + 1) % N)) sd = [] := by
  have hN0 : 0 < N := by omega
  generalize hw : (tipsN N n st m).set k (((st + k * n) % N + 1) % N) = wr
  have wl : wr.length = m := by rw [← hw, List.length_set, tips_len]
  have wx : ∀ x ∈ wr, x < N := by
    intro x hx
    rw [← hw] at hx
    rcases List.mem_or_eq_of_mem_set hx with h | rfl
    · exact tip_lt hN0 h
    · exact Nat.mod_lt _ hN0
  rw [wheels_good hN0 (by omega) wx, List.filter_eq_nil_iff]
  intro w _ hg
  unfold good at hg
  simp only [Bool.and_eq_true, decide_eq_true_eq] at hg
  have hl := hg.2
  rw [wl] at hl
  have b : ∀ i, i < m → wr.getD i 0 = (wr.getD 0 0 + i * w) % N := fun i hi => by
    have := tips_get (N := N) (n := w) (st := wr.getD 0 0) hi
    rw [hl] at this
    rw [List.getD_eq_getElem?_getD, this]; rfl
  have bd : ∀ i, i + 1 < m → (N : Int) ∣ ((wr.getD (i + 1) 0 : Nat) : Int) - ((wr.getD i 0 : Nat) : Int) - (w : Int) := fun i hi => by
    have := modS N (wr.getD 0 0) i w
    rwa [← b (i + 1) hi, ← b i (by omega)] at this
  have ad : ∀ i, (N : Int) ∣ (((st + (i + 1) * n) % N : Nat) : Int) - (((st + i * n) % N : Nat) : Int) - (n : Int) := fun i => modS N st i n
  have same : ∀ i, i < m → i ≠ k → wr.getD i 0 = (st + i * n) % N := fun i hi hne => by
    rw [← hw, List.getD_eq_getElem?_getD, List.getElem?_set_ne (Ne.symm hne), tips_get hi]; rfl
  have chg : (N : Int) ∣ ((wr.getD k 0 : Nat) : Int) - (((st + k * n) % N : Nat) : Int) - 1 := by
    have e : wr.getD k 0 = ((st + k * n) % N + 1) % N := by
      rw [← hw, List.getD_eq_getElem?_getD, List.getElem?_set_self (by rw [tips_len]; exact hk)]; rfl
    rw [e]
    have := modD ((st + k * n) % N + 1) N
    rwa [show (((((st + k * n) % N + 1) % N : Nat)) : Int) - ((((st + k * n) % N + 1 : Nat)) : Int) = (((((st + k * n) % N + 1) % N : Nat)) : Int) - (((st + k * n) % N : Nat) : Int) - 1 by omega] at this
  by_cases h0 : k = 0
  · subst h0
    have d1 := bd 0 (by omega)
    have d2 := bd 1 (by omega)
    have e1 := ad 0
    have e2 := ad 1
    rw [same (0 + 1) (by omega) (by omega)] at d1
    rw [same (1 + 1) (by omega) (by omega), same 1 (by omega) (by omega)] at d2
    have t := Int.dvd_sub (Int.dvd_sub (Int.dvd_sub e1 d1) chg) (Int.dvd_sub e2 d2)
    simp only [Nat.zero_add] at t
    exact dvd_no hN t (by omega) (by omega)
  · by_cases h1 : k + 1 < m
    · obtain ⟨j, rfl⟩ : ∃ j, k = j + 1 := ⟨k - 1, by omega⟩
      have d1 := bd j (by omega)
      have d2 := bd (j + 1) (by omega)
      have e1 := ad j
      have e2 := ad (j + 1)
      rw [same j (by omega) (by omega)] at d1
      rw [same (j + 1 + 1) (by omega) (by omega)] at d2
      have t := Int.dvd_sub (Int.dvd_sub (Int.dvd_sub d1 e1) (Int.dvd_sub d2 e2)) (Int.dvd_add chg chg)
      exact dvd_no hN t (by omega) (by omega)
    · obtain ⟨j, rfl⟩ : ∃ j, k = j + 1 + 1 := ⟨k - 2, by omega⟩
      have d1 := bd j (by omega)
      have d2 := bd (j + 1) (by omega)
      have e1 := ad j
      have e2 := ad (j + 1)
      rw [same (j + 1) (by omega) (by omega), same j (by omega) (by omega)] at d1
      rw [same (j + 1) (by omega) (by omega)] at d2
      have t := Int.dvd_sub (Int.dvd_sub d2 e2) (Int.dvd_add (Int.dvd_sub d1 e1) chg)
      exact dvd_no hN t (by omega) (by omega)
theorem intsD_inj {l m : List Nat} (h : PyData.list (intsD l) = .list (intsD m)) : l = m := by
  injection h with h
  unfold intsD intsI at h
  rw [List.map_map, List.map_map] at h
  exact (List.map_inj_right (fun a b e => by simp at e; omega)).mp h
theorem gear_eq {N w : Nat} {sd : Str} (h1 : 3 ≤ N) (h2 : N ≤ 150) (h3 : 2 ≤ w) (h4 : w ≤ 150) (hs : sd = "in" ∨ sd = "out") : isGearB (gD N w sd) = (decide (sd = "out") || decide ((w : Int) < (N : Int))) := by
  cases hb : isGearB (gD N w sd) with
  | true =>
    rcases (GOk.of hb).side with ⟨_, h⟩ | rfl
    · rw [decide_eq_true (p := (w : Int) < (N : Int)) (by omega), Bool.or_true]
    · rfl
  | false =>
    symm
    rw [Bool.or_eq_false_iff, decide_eq_false_iff_not, decide_eq_false_iff_not]
    refine ⟨fun e => ?_, fun e => ?_⟩
    · have := (GOk.is (⟨h1, h2, h3, h4, .inr e⟩ : GOk N w sd)); rw [hb] at this; cases this
    · rcases hs with hs | hs
      · have := (GOk.is (⟨h1, h2, h3, h4, .inl ⟨hs, by omega⟩⟩ : GOk N w sd)); rw [hb] at this; cases this
      · have := (GOk.is (⟨h1, h2, h3, h4, .inr hs⟩ : GOk N w sd)); rw [hb] at this; cases this
theorem good_tips {N n st m w : Nat} {sd : Str} (hst : st < N) : good N (tipsN N n st (m + 1)) sd w = (isGearB (gD N w sd) && decide (tipsN N w st (m + 1) = tipsN N n st (m + 1))) := by
  unfold good
  rw [tips_len, show (tipsN N n st (m + 1)).getD 0 0 = st by rw [List.getD_eq_getElem?_getD, tips_get (Nat.succ_pos _), Nat.zero_mul, Nat.add_zero, Nat.mod_eq_of_lt hst]; rfl]
/-- the wheels found so far -/
def goodL (N : Nat) (ls : List Nat) (sd : Str) (i : Nat) : List Nat := ((List.range i).map (· + 2)).filter (good N ls sd)
theorem goodL_yes {N : Nat} {ls : List Nat} {sd : Str} {i : Nat} (h : good N ls sd (i + 2) = true) : goodL N ls sd (i + 1) = goodL N ls sd i ++ [2 + i] := by
  unfold goodL
  rw [List.range_succ, List.map_append, List.filter_append]
  simp [h, Nat.add_comm]
theorem goodL_no {N : Nat} {ls : List Nat} {sd : Str} {i : Nat} (h : good N ls sd (i + 2) = false) : goodL N ls sd (i + 1) = goodL N ls sd i := by
  unfold goodL
  rw [List.range_succ, List.map_append, List.filter_append]
  simp [h]
theorem goodL_len {N : Nat} {ls : List Nat} {sd : Str} {i : Nat} : (goodL N ls sd i).length ≤ i := by
  unfold goodL
  exact Nat.le_trans (List.length_filter_le _ _) (by simp)
theorem wheels_up {R : Nat} {ls : List Nat} {sd : Str} : isort (intsI (wheelsN R ls sd)) = intsI (wheelsN R ls sd) := by
  symm
  apply isort_of _ (List.Perm.refl _)
  have : ∀ p : Nat → Bool, (intsI (((List.range 149).map (· + 2)).filter p)).Pairwise (· ≤ ·) := by
    intro p
    unfold intsI
    rw [List.pairwise_map]
    apply List.Pairwise.filter
    rw [List.pairwise_map]
    exact List.pairwise_lt_range.imp fun h => by omega
  unfold wheelsN
  split
  · exact this _
  · exact List.Pairwise.nil
theorem told_bnd {R : Nat} {ls : List Nat} {sd : Str} {w : Nat} (hR : 0 < R) (hl : 2 ≤ ls.length) (hx : ∀ x ∈ ls, x < R) (h : w ∈ wheelsN R ls sd) : 2 ≤ w ∧ w ≤ 150 ∧ tipsN R w (ls.getD 0 0) ls.length = ls := by
  rw [wheels_good hR hl hx, List.mem_filter, List.mem_map] at h
  obtain ⟨⟨k, hk, rfl⟩, hg⟩ := h
  rw [List.mem_range] at hk
  unfold good at hg
  simp only [Bool.and_eq_true, decide_eq_true_eq] at hg
  exact ⟨by omega, by omega, hg.2⟩
def Sig_law_back : SigO := fun rs M r M' => ∃ (b : Addr) (s : DS), s.Ok ∧ rs = [.own 0] ∧ M = drM b s ∧ r = .val (.bool true) ∧ M' = List.replicate 2 .gone
theorem ed_relL {X : Cx} {ρ : REnv} {M M1 : List MO} {e : Expr} {ds : List PyData} (hl : M.length = M1.length) (h : ED X ρ M e (.own M1.length) (M1 ++ [.lst ds])) : ED X ρ M e (.d (.list ds)) M1 := fun As σ F H hM hE Q q =>
  h As σ F H hM hE Q fun v As1 F1 H1 s1 m1 o1 => by
    have hlen : As.length = M1.length := hM.len.trans hl
    obtain ⟨more, e1, n1⟩ := s1.grow
    have l1 := m1.len
    rw [e1, List.length_append, List.length_append, hlen] at l1
    obtain ⟨p, rfl⟩ : ∃ p, more = [p] := List.length_eq_one_iff.mp (by simpa using l1)
    subst e1
    obtain ⟨a, h1, rfl⟩ := o1
    rw [← hlen] at h1
    simp at h1; subst h1
    obtain ⟨F', fe, fo, m2, dv⟩ := relLast m1 hlen
    have hp : H p = none := n1 p (by simp)
    refine q _ As F' H1 ⟨s1.fe.trans fe, s1.keep, s1.ne, fun x hx hf hh => ?_, [], by simp, by simp⟩ m2 dv
    rw [fo x (fun z => hh (by rw [z]; exact hp))]
    exact s1.cap x hx hf hh
theorem it_rangeB {X : Cx} {ρ : REnv} {M M1 : List MO} {tg e e2 : Expr} {p pos : Pos} (lo n : Int) (k : Nat) (hm : X.mg "range" = none) (h : AD X ρ M [e, e2] [.d (.int lo), .d (.int n)] M1) (hn : -1000000 ≤ lo ∧ lo ≤ 1000000 ∧ -1000000 ≤ n ∧ n ≤ 1000000) (hk : (n - lo).toNat = k := by rfl) (hg : Gl X "range" := by rfl) (hs : starEach [e, e2] X.env = [(false, eval e X.env), (false, eval e2 X.env)] := by rfl) (hs2 : starEach [e2] X.env = [(false, eval e2 X.env)] := by rfl) :
    ITR X ρ M tg (.Call (.Name "range" p) [e, e2] [] pos) k (fun i => .int (lo + (i : Int))) M1 := hk ▸ it_range2 hg hm h hn hs hs2
section
variable {X : Cx} {ρ : REnv} {M : List MO} {tg iter elt : Expr} {ifs : List Expr} {scope : Scope} {n : Nat} {item : Nat → PyData} {pos : Pos}
/-- name = [..] where drawing goes on -/
theorem sd_setLcM {E : XK} (hN : X.N.Nodup) (own : List (Str × Nat)) (Ms : Nat → List MO) (ρt : Nat → REnv) (js : List Nat) (g : Nat → PyData) {i0 : Nat} {y : Str} {py spos : Pos} (it : ITR X ρ M tg iter n item (Ms 0)) (hlen : ∀ i, (Ms i).length = (Ms 0).length)
    (ht : ∀ i, i < n → ∀ s H C cl fp, TD (Blk X scope s H C cl fp) (wipeR ρ (own.map (·.2))) tg (item i) js (ρt i))
    (he : ∀ i, i < n → ∀ s H C cl fp, ED (Blk X scope s H C cl fp) (ρt i) (Ms i) elt (.d (g i)) (Ms (i + 1))) (hn : n ≤ 90000)
    (hsw : swapsWith (.ListComp elt [⟨tg, iter, [], 0⟩] scope pos) (some (.Name y py)) spos.line X.env = pure true)
    (ok : blkC X.N X.env.scope scope own = true := by first | decide +kernel | (dsimp only [cxOf, PyProof.Rows.envOfC, Cx.blk, PySem.compEnvC]; decide +kernel) | rfl) (hj : ∀ j ∈ js, j ∈ own.map (·.2) := by decide) (hc : X.calm = true := by rfl) (hs : ∀ x, foldedSetIterable iter X.env x = pure x := by intro _; rfl) (hy : X.N[i0]? = some y := by rfl) (hyl : X.env.scope.names.lookup y = some .local := by rfl) :
    S1 X E ρ M (.Assign [.Name y py] (.ListComp elt [⟨tg, iter, [], 0⟩] scope pos) spos) (.nx (ρ.set i0 (some (.own (Ms n).length))) (Ms n ++ [.lst (gath n (fun _ => true) g)])) := fun As σ F H hM hE D q =>
  ⟨_, ps_setLc (wi := wI X tg iter) (g := uG X scope tg) (tt := uT X scope []) (te := uE X scope elt) hc hN hy hyl hsw (pi_w X tg iter) (blkOk_by ok) (fun s H C cl fp => ⟨fun pins s1 σ H1 v u Q I r h => (pg_w _ tg).run pins s1 σ H1 v u Q I r (h s H C cl fp)⟩) (fun s H C cl fp => ⟨fun pins s1 σ H1 Q I h => (pts_w _ []).run pins s1 σ H1 Q I (h s H C cl fp)⟩)
      (fun s H C cl fp => ⟨fun pins s1 σ H1 Q I h => (pe_w _ elt).run pins s1 σ H1 Q I (h s H C cl fp)⟩) hs,
    lc_read Ms ρt js (fun _ => true) g it hj hn hlen (fun i hi As σ F H v a b c Q q s H0 C cl fp => ht i hi s H0 C cl fp As σ F H v a b c Q q) (fun i hi As σ F H a b Q q s H0 C cl fp => bts_nil As σ F H a b Q q)
      (fun i hi _ As σ F H a b Q q s H0 C cl fp => he i hi s H0 C cl fp As σ F H a b Q q) (fun _ _ h => Bool.noConfusion h) As σ F H hM hE _ fun v As1 F1 H1 s1 m1 o1 => q As1 _ F1 H1 s1 m1 ((hE.step s1).set o1 i0)⟩
end
/-- what a list of drawn numbers goes through -/
def Drawn (es : List PyData) (B : Nat) (s : DS) (v : Nat) (s' : DS) : Prop := ∃ (k : Nat) (sp : DS), Sig_law_pick s [.list es] (.val (.int (k : Nat))) sp ∧ Sig_law_draw sp [.int (k : Nat)] (.val (.int (v : Nat))) s' ∧ v < B
theorem drawn_ex {es : List PyData} {B : Nat} (he : 0 < es.length ∧ es.length < 1000000) (hv : ∀ d ∈ es, ∃ k : Nat, d = .int (k : Nat) ∧ 0 < k ∧ k ≤ B) (hB : B < 1000000) {s : DS} (hs : s.Ok) : ∃ (S : Nat → DS) (v : Nat → Nat), S 0 = s ∧ ∀ i, (S i).Ok ∧ Drawn es B (S i) (v i) (S (i + 1)) := by
  refine iter_ex (P := Drawn es B) (fun s hs => ?_) s hs
  obtain ⟨d, sp, hd, hsp, gp⟩ := pick_ex hs he
  obtain ⟨k, rfl, k1, k2⟩ := hv d hd
  obtain ⟨i, s', a, b, hs', gd⟩ := draw_ex hsp (l := (k : Int)) (by omega)
  obtain ⟨v, rfl⟩ : ∃ z : Nat, i = (z : Int) := ⟨i.toNat, by omega⟩
  exact ⟨v, s', hs', k, sp, gp, gd, by omega⟩
theorem drawn_list (n a : Nat) (v : Nat → Nat) : gath n (fun _ => true) (fun i => .int ((a : Int) + (v i : Int))) = intsD ((List.range n).map fun i => a + v i) := by
  unfold gath intsD intsI
  rw [List.filter_eq_self.mpr (fun _ _ => rfl), List.map_map, List.map_map]
  apply List.map_congr_left
  intro i _
  simp
theorem gd_gears {sd : Str} (hs : sd = "in" ∨ sd = "out") (l : List Gr) : Gd 2 (.list (l.map (gT sd))) := by
  have h0 : Gd 0 (.str sd) := by
    cases hs with
    | inl h => rw [h]; exact gd_in
    | inr h => rw [h]; exact gd_out
  refine Gd.list fun d hd => ?_
  obtain ⟨g, _, rfl⟩ := List.mem_map.mp hd
  exact Gd.tuple (gd_cons (Gd.int _) (gd_cons (Gd.int _) (gd_cons h0 gd_nil)))
theorem gath_none (n : Nat) (g : Nat → PyData) : gath n (fun _ => false) g = [] := by
  unfold gath
  rw [List.filter_eq_nil_iff.mpr (fun _ _ h => Bool.noConfusion h)]; rfl
end WC

/-! kinds of gears in boxes -/
namespace WC
open PySem L2
theorem mod_same {R a b : Nat} : (a % R = b % R) ↔ ((a : Int) - (b : Int)) % (R : Int) = 0 := by
  constructor
  · intro h
    have : ((a % R : Nat) : Int) = ((b % R : Nat) : Int) := by rw [h]
    rw [Int.natCast_emod, Int.natCast_emod] at this
    rw [Int.sub_emod, this, Int.sub_self, Int.zero_emod]
  · intro h
    have := Int.emod_eq_emod_iff_emod_sub_eq_zero.mpr h
    rw [← Int.natCast_emod, ← Int.natCast_emod] at this
    exact Int.ofNat.inj this
/-- two lines of four from one tooth are alike just if the wheels are -/
theorem line_same {R w step st m : Nat} (hm : 2 ≤ m) : tipsN R w st m = tipsN R step st m ↔ ((w : Int) - (step : Int)) % (R : Int) = 0 := by
  rw [← mod_same]
  constructor
  · intro h
    have h1 := tips_get (N := R) (n := w) (st := st) (m := m) (k := 1) (by omega)
    rw [h, tips_get (by omega)] at h1
    simp only [Option.some.injEq, Nat.one_mul] at h1
    rw [mod_same] at h1 ⊢
    have d := Int.dvd_of_emod_eq_zero h1
    apply Int.emod_eq_zero_of_dvd
    rw [show (w : Int) - (step : Int) = -(((st + step : Nat) : Int) - ((st + w : Nat) : Int)) by omega]
    exact Int.dvd_neg.mpr d
  · intro h
    apply List.map_congr_left
    intro k _
    rw [Nat.add_mod, Nat.mul_mod, h, ← Nat.mul_mod, ← Nat.add_mod]
theorem tips_first {R w st m : Nat} (hst : st < R) (hm : 0 < m) : (tipsN R w st m).getD 0 0 = st := by
  rw [List.getD_eq_getElem?_getD, tips_get hm, Nat.zero_mul, Nat.add_zero, Nat.mod_eq_of_lt hst]; rfl
theorem read_out {R step st : Nat} (h3 : 3 ≤ R) (h150 : R ≤ 150) (hst : st < R) : wheelsN R (tipsN R step st 4) "out" = ((List.range 149).map (· + 2)).filter fun (w : Nat) => decide (((w : Int) - (step : Int)) % (R : Int) = 0) := by
  rw [wheels_good (by omega) (by rw [tips_len]; omega) (fun x hx => tip_lt (by omega) hx)]
  apply List.filter_congr
  intro w hw
  obtain ⟨k, hk, rfl⟩ := List.mem_map.mp hw
  rw [List.mem_range] at hk
  unfold good
  rw [tips_len, tips_first hst (by omega), GOk.is (⟨h3, h150, by omega, by omega, .inr rfl⟩ : GOk R (k + 2) "out"), Bool.true_and]
  exact decide_eq_decide.mpr (line_same (by omega))
theorem read_in {R step st : Nat} (h3 : 3 ≤ R) (h150 : R ≤ 150) (hst : st < R) : wheelsN R (tipsN R step st 4) "in" = (wheelsN R (tipsN R step st 4) "out").filter fun (w : Nat) => decide ((w : Int) < (R : Int)) := by
  rw [read_out h3 h150 hst, wheels_good (by omega) (by rw [tips_len]; omega) (fun x hx => tip_lt (by omega) hx), List.filter_filter]
  apply List.filter_congr
  intro w hw
  obtain ⟨k, hk, rfl⟩ := List.mem_map.mp hw
  rw [List.mem_range] at hk
  unfold good
  rw [tips_len, tips_first hst (by omega), gear_eq h3 h150 (by omega) (by omega) (.inl rfl), show decide (("in" : Str) = "out") = false by decide, Bool.false_or]
  congr 1
  exact decide_eq_decide.mpr (line_same (by omega))
theorem box_rev (rs ws : List Nat) (sd : Str) : petsN rs.reverse ws.reverse sd = petsN rs ws sd := by
  unfold petsN boxN rowN
  rw [nsort_congr (l := rs.reverse) (m := rs) (by simp), nsort_congr (l := ws.reverse) (m := ws) (by simp)]
theorem BoxOk.rev {rs ws : List Nat} {sd : Str} (h : BoxOk rs ws sd) : BoxOk rs.reverse ws.reverse sd := ⟨by simpa using h.r1, by simpa using h.r2, by simpa using h.w1, by simpa using h.w2, by simpa using h.ra, by simpa using h.wa, h.side⟩
theorem ints_rev (l : List Nat) : (intsD l).reverse = intsD l.reverse := by simp [intsD, intsI]
def turnsN (rs ws : List Nat) (sd : Str) (many : Nat) : List Int := (withN rs ws sd many).map fun g => (rndN g.1 g.2 : Int)
theorem turns_up (rs ws : List Nat) (sd : Str) (many : Nat) : isort (turnsN rs ws sd many) = turnsN rs ws sd many := by
  symm
  apply isort_of _ (List.Perm.refl _)
  have h := sortD_sorted ((pickN rs ws sd many).map (rT sd))
  rw [with_map, List.pairwise_map] at h
  unfold turnsN
  rw [List.pairwise_map]
  exact h.imp fun h => leD_int h
theorem mem_pets {rs ws : List Nat} {sd : Str} {m : Nat} : (m : Int) ∈ petsN rs ws sd ↔ withN rs ws sd m ≠ [] := by
  unfold petsN
  rw [List.mem_map]
  constructor
  · rintro ⟨g, hg, e⟩ h
    have : g ∈ withN rs ws sd m := mem_with.mpr ⟨hg, by omega⟩
    rw [h] at this; cases this
  · intro h
    obtain ⟨g, hg⟩ := List.exists_mem_of_ne_nil _ h
    exact ⟨g, (mem_with.mp hg).1, by rw [(mem_with.mp hg).2]⟩
theorem parts_perm {α : Type} (key : α → Int) : ∀ (C : List Int), C.Nodup → ∀ l : List α, (∀ g ∈ l, key g ∈ C) → (C.flatMap fun m => l.filter fun g => decide (key g = m)).Perm l
  | [], _, l, h => by
    have : l = [] := List.eq_nil_iff_forall_not_mem.mpr fun g hg => by simpa using h g hg
    subst this; exact List.Perm.refl _
  | c :: C, hn, l, h => by
    obtain ⟨h1, h2⟩ := List.nodup_cons.mp hn
    have ih := parts_perm key C h2 (l.filter fun g => !decide (key g = c)) (fun g hg => by
      rw [List.mem_filter] at hg
      rcases List.mem_cons.mp (h g hg.1) with e | e
      · rw [decide_eq_true e] at hg; cases hg.2
      · exact e)
    rw [List.flatMap_cons]
    have e : (C.flatMap fun m => l.filter fun g => decide (key g = m)) = C.flatMap fun m => (l.filter fun g => !decide (key g = c)).filter fun g => decide (key g = m) := by
      rw [List.flatMap_def, List.flatMap_def]
      congr 1
      apply List.map_congr_left
      intro m hm
      rw [List.filter_filter]
      apply List.filter_congr
      intro g _
      by_cases z : key g = m
      · rw [decide_eq_true z, decide_eq_false (by rw [z]; exact fun y => h1 (y ▸ hm))]; rfl
      · rw [decide_eq_false z]; rfl
    rw [e]
    exact ((List.Perm.refl _).append ih).trans (List.filter_append_perm (fun g => decide (key g = c)) l)
def seenN (rs ws : List Nat) (sd : Str) (i : Nat) : List Gr := ((ssort (petsN rs ws sd)).take i).flatMap fun m => withN rs ws sd m.toNat
theorem seen_perm (rs ws : List Nat) (sd : Str) : (seenN rs ws sd (ssort (petsN rs ws sd)).length).Perm (boxN rs ws sd) := by
  unfold seenN
  rw [List.take_length]
  have hn : (ssort (petsN rs ws sd)).Nodup := (asc_ssort _).imp fun h => by omega
  refine List.Perm.trans ?_ (parts_perm (fun g : Gr => (petN g.1 g.2 : Int)) (ssort (petsN rs ws sd)) hn (boxN rs ws sd) fun g hg => (mem_ssort _ _).mpr (List.mem_map.mpr ⟨g, hg, rfl⟩))
  have : ∀ C : List Int, (∀ m ∈ C, m ∈ petsN rs ws sd) → (C.flatMap fun m => withN rs ws sd m.toNat).Perm (C.flatMap fun m => (boxN rs ws sd).filter fun g => decide ((petN g.1 g.2 : Int) = m)) := by
    intro C
    induction C with
    | nil => intro _; exact List.Perm.refl _
    | cons c C ih =>
      intro h
      rw [List.flatMap_cons, List.flatMap_cons]
      refine List.Perm.append ?_ (ih fun m hm => h m (by simp [hm]))
      obtain ⟨g, _, rfl⟩ := List.mem_map.mp (h c (by simp))
      exact with_perm rs ws sd _
  exact this _ fun m hm => (mem_ssort _ _).mp hm
theorem seen_succ {rs ws : List Nat} {sd : Str} {i : Nat} (hi : i < (ssort (petsN rs ws sd)).length) : seenN rs ws sd (i + 1) = seenN rs ws sd i ++ withN rs ws sd ((ssort (petsN rs ws sd)).getD i 0).toNat := by
  unfold seenN
  rw [List.take_succ, List.flatMap_append, List.getElem?_eq_getElem hi, List.getD_eq_getElem?_getD, List.getElem?_eq_getElem hi]
  simp
theorem seen_len {rs ws : List Nat} {sd : Str} {i : Nat} : (seenN rs ws sd i).length ≤ (boxN rs ws sd).length := by
  rw [← (seen_perm rs ws sd).length_eq]
  unfold seenN
  rw [List.take_length]
  conv => rhs; rw [← List.take_append_drop i (ssort (petsN rs ws sd)), List.flatMap_append, List.length_append]
  omega
theorem gT_alike (sd : Str) (l : List Gr) : PySem.W.AllAlike (l.map (gT sd)) := by
  intro d hd d' hd'
  obtain ⟨g, _, rfl⟩ := List.mem_map.mp hd
  obtain ⟨g', _, rfl⟩ := List.mem_map.mp hd'
  simp [gT, gD, PySem.W.alike, PySem.W.alikeAll]
theorem gT_sortable (sd : Str) (l : List Gr) : PySem.W.Sortable (l.map (gT sd)) := .inl fun d hd => by
  obtain ⟨g, _, rfl⟩ := List.mem_map.mp hd
  exact ⟨_, _, rfl⟩
theorem gT_units {u : Nat} (hu : u + 64 < cLine) (sd : Str) (l : List Gr) : ∀ d ∈ l.map (gT sd), u + 2 + d.depth < cLine := by
  intro d hd
  obtain ⟨g, _, rfl⟩ := List.mem_map.mp hd
  have : (gT sd g).depth ≤ 5 := by simp [gT, gD, PyData.depth, PyData.depthAll]
  omega
theorem gT_sort {sd : Str} {l m : List Gr} (p : l.Perm m) : sortD (l.map (gT sd)) = sortD (m.map (gT sd)) := by
  refine sortD_congr (fun a ha b hb => ?_) (p.map _)
  obtain ⟨g, _, rfl⟩ := List.mem_map.mp ha
  obtain ⟨g', _, rfl⟩ := List.mem_map.mp hb
  exact leD_anti (by simp [gT, gD, PySem.W.alike, PySem.W.alikeAll]) (by simp [gT, gD, nbD, nbD.nbAll]) (by simp [gT, gD, nbD, nbD.nbAll])
theorem many_of {rs ws : List Nat} {sd : Str} {i : Nat} (hi : i < (ssort (petsN rs ws sd)).length) : ∃ m : Nat, (ssort (petsN rs ws sd)).getD i 0 = (m : Int) ∧ 1 ≤ m ∧ m ≤ 150 ∧ withN rs ws sd m ≠ [] := by
  have h : (ssort (petsN rs ws sd)).getD i 0 ∈ petsN rs ws sd := (mem_ssort _ _).mp (by rw [List.getD_eq_getElem?_getD, List.getElem?_eq_getElem hi]; exact List.getElem_mem hi)
  obtain ⟨g, hg, e⟩ := List.mem_map.mp h
  have q := box_ok hg
  refine ⟨petN g.1 g.2, e.symm, pet_pos q.pos.1, Nat.le_trans pet_le q.N150, mem_pets.mp ?_⟩
  rw [e]; exact h
theorem ring_mod {N n : Nat} (hN : 0 < N) : (N : Int) % ((petN N n : Nat) : Int) = 0 := by
  rw [← Int.natCast_emod]
  have : N % petN N n = 0 := by
    unfold petN
    exact Nat.mod_eq_zero_of_dvd (Nat.div_dvd_of_dvd (Nat.gcd_dvd_left N n))
  rw [this]; rfl
theorem told_out {R step st : Nat} (h3 : 3 ≤ R) (h150 : R ≤ 150) (hst : st < R) : gathI 149 (fun i => decide ((2 + (i : Int) - (step : Int)) % (R : Int) = 0)) (fun i => 2 + (i : Int)) = intsI (wheelsN R (tipsN R step st 4) "out") := by
  rw [read_out h3 h150 hst]
  unfold gathI intsI
  rw [List.filter_map, List.map_map]
  have e : (List.range 149).filter (fun (i : Nat) => decide ((2 + (i : Int) - (step : Int)) % (R : Int) = 0)) = (List.range 149).filter ((fun (w : Nat) => decide (((w : Int) - (step : Int)) % (R : Int) = 0)) ∘ (· + 2)) := by
    apply List.filter_congr
    intro i _
    show _ = decide ((((i + 2 : Nat) : Int) - (step : Int)) % (R : Int) = 0)
    rw [show (((i + 2 : Nat) : Int) - (step : Int)) = 2 + (i : Int) - (step : Int) by omega]
  rw [e]
  apply List.map_congr_left
  intro i _
  show 2 + (i : Int) = ((i + 2 : Nat) : Int)
  omega
theorem nat_range (l : List Nat) : (List.range l.length).map (fun i => l.getD i 0) = l := by
  apply List.ext_getElem
  · simp
  · intro i h1 h2
    simp only [List.getElem_map, List.getElem_range]
    rw [List.getD_eq_getElem?_getD, List.getElem?_eq_getElem h2]; rfl
theorem nat_gathI (l : List Nat) (p : Nat → Bool) : gathI l.length (fun i => p (l.getD i 0)) (fun i => ((l.getD i 0 : Nat) : Int)) = intsI (l.filter p) := by
  unfold gathI intsI
  conv => rhs; rw [← nat_range l]
  rw [List.filter_map, List.map_map]
  rfl
theorem nb_gears (sd : Str) (l : List Gr) : nbD (.list (l.map (gT sd))) = true := by
  show nbD.nbAll (l.map (gT sd)) = true
  exact nb_map _ (fun g => by simp [gT, gD, nbD, nbD.nbAll]) l
theorem tips_gathI (N n st m : Nat) : gathI m (fun _ => true) (fun k => ((st : Int) + (k : Int) * (n : Int)) % (N : Int)) = intsI (tipsN N n st m) := by
  rw [gathI_true]; unfold intsI tipsN; rw [List.map_map]
  refine List.map_congr_left fun k _ => ?_
  simp
def sideN (i : Nat) : Str := if i = 0 then "in" else "out"
theorem side_or (i : Nat) : sideN i = "in" ∨ sideN i = "out" := by
  unfold sideN; split
  · exact .inl rfl
  · exact .inr rfl
theorem side_item {i : Nat} {d : PyData} (h : ([.str "in", .str "out"] : List PyData)[i]? = some d) : PyData.str (sideN i) = d := by
  match i, h with
  | 0, h => simp at h; rw [← h]; rfl
  | 1, h => simp at h; rw [← h]; rfl
  | i + 2, h => simp at h
theorem pets_mem {rs ws : List Nat} {sd : Str} {m : Nat} : decide ((m : Int) ∈ ssort (petsN rs ws sd)) = !(withN rs ws sd m).isEmpty := by
  by_cases h : withN rs ws sd m = []
  · rw [decide_eq_false (fun z => (mem_pets.mp ((mem_ssort _ _).mp z)) h), h]; rfl
  · rw [decide_eq_true ((mem_ssort _ _).mpr (mem_pets.mpr h))]
    cases hw : withN rs ws sd m with
    | nil => exact absurd hw h
    | cons _ _ => rfl
theorem with_none {rs ws : List Nat} {sd : Str} {m : Nat} : (!(withN rs ws sd m).isEmpty) = false ↔ PyData.list ((withN rs ws sd m).map (gT sd)) = .list [] := by
  cases hw : withN rs ws sd m with
  | nil => simp
  | cons _ _ => simp
theorem told_len (R : Nat) (ls : List Nat) (sd : Str) : (wheelsN R ls sd).length ≤ 149 := by
  unfold wheelsN
  split
  · exact Nat.le_trans (List.length_filter_le _ _) (by simp)
  · simp
theorem gd_gear {sd : Str} (hs : sd = "in" ∨ sd = "out") (N n : Nat) : Gd 1 (gD N n sd) := by
  have h0 : Gd 0 (.str sd) := by
    cases hs with
    | inl h => rw [h]; exact gd_in
    | inr h => rw [h]; exact gd_out
  exact Gd.tuple (gd_cons (Gd.int _) (gd_cons (Gd.int _) (gd_cons h0 gd_nil)))
theorem gd_sorted {sd : Str} (hs : sd = "in" ∨ sd = "out") (l : List Gr) : Gd 2 (.list (sortD (l.map (gT sd)))) := by
  refine Gd.list fun d hd => ?_
  obtain ⟨g, _, rfl⟩ := List.mem_map.mp ((sortD_perm _).mem_iff.mp hd)
  exact gd_gear hs g.1 g.2
def Sig_law_read : SigO := fun rs M r M' => ∃ (b : Addr) (s : DS) (R W : List Nat), s.Ok ∧ BoxOk R W "in" ∧ rs = [.own 0, .d (.list (intsD R)), .d (.list (intsD W))] ∧ M = drM b s ∧ r = .val (.bool true) ∧ M' = List.replicate 2 .gone
end WC

/-! new lists that are changed and thrown away -/
namespace WC
open PySem L2
section
variable {X : Cx} {ρ : REnv} {M M1 M2 : List MO} {o a0 a b e : Expr} {rest : List Expr} {r : Slot} {ds : List PyData} {d : PyData} {apos pos : Pos}
/-- o.append(e), o a new list that nobody holds -/
theorem ed_appN (ho : ED X ρ M o (.own M.length) (M ++ [.lst ds])) (h : ED X ρ (M ++ [.lst ds]) a0 (.d d) (M ++ [.lst ds])) (hz : ds.length < 100000) (hb : attributeBase o "append" X.env (eval o X.env) = eval o X.env := by rfl)
    (hfew : ((backTo pos (starEach (a0 :: []) X.env)).all (fun x => !x.1) && (backToKw pos (keywordEach [] X.env)).all (fun x => x.1.isSome)
      && decide ((a0 :: []).length + ([] : List Keyword).length + (if ([] : List Keyword).isEmpty then 0 else 1) < 30)) = true := by rfl)
    (hline : (apos.endLine == pos.line) = true := by rfl) (hs : starEach (a0 :: []) X.env = (false, eval a0 X.env) :: starEach [] X.env := by rfl) :
    ED X ρ M (.Call (.Attribute o "append" apos) [a0] [] pos) (.d .none) M := fun As σ F H hM hE Q q => by
  refine ⟨_, pe_bm PySem.F.plainAttrs_list PySem.F.slot_list_append PySem.F.type_list_append mt_append (pe_w X o) (pa_cons (pe_w X a0) pa_nil hs) hb hfew hline hs rfl, ho As σ F H hM hE _ fun v As0 F0 H0 s0 m0 o0 => ?_⟩
  obtain ⟨p, h1, rfl⟩ := o0
  have hm : (M ++ [.lst ds])[M.length]? = some (.lst ds) := by simp
  obtain ⟨ys, k1, k2⟩ := m0.mem M.length p _ h1 hm
  refine ⟨.inl ⟨rfl, _, SqL.of k1⟩, h As0 σ F0 H0 m0 (hE.step s0) _ fun w As1 F1 H1 s1 m1 o1 => ?_⟩
  have h3 := s1.pre h1
  obtain ⟨zs, k3, k4⟩ := m1.mem M.length p _ h3 hm
  obtain ⟨s2, m2⟩ := upM m1 h3 ⟨_, hm⟩ (k4.snoc o1)
  refine ⟨p, zs, w, rfl, rfl, k3, by rw [k4.length]; exact Evl.sz_lt hz, ?_⟩
  have st := (s0.trans s1).trans s2
  rw [show (M ++ [MO.lst ds]).set M.length (.lst (ds ++ [d])) = M ++ [.lst (ds ++ [d])] by simp] at m2
  obtain ⟨more, e1, n1⟩ := st.grow
  have l1 := m2.len
  rw [e1, List.length_append, List.length_append, hM.len] at l1
  obtain ⟨p', rfl⟩ : ∃ p, more = [p] := List.length_eq_one_iff.mp (by simpa using l1)
  subst e1
  obtain ⟨F', fe, fo, m3, dv⟩ := relLast m2 hM.len
  have hp : H p' = none := n1 p' (by simp)
  refine q _ As F' _ ⟨st.fe.trans fe, st.keep, st.ne, fun x hx hf hh => ?_, [], by simp, by simp⟩ m3 .non
  rw [fo x (fun z => hh (by rw [z]; exact hp))]
  exact st.cap x hx hf hh
theorem ed_andT (ha : ED X ρ M a (.d (.bool true)) M1) (hb : ED X ρ M1 (.BoolOp .And (b :: rest) pos) r M2) : ED X ρ M (.BoolOp .And (a :: b :: rest) pos) r M2 := fun As σ F H hM hE Q q =>
  ⟨_, pe_and (pe_w X a) (pe_w X _), ha As σ F H hM hE _ fun v As1 F1 H1 s1 m1 o1 => by
    cases o1
    exact ⟨true, rfl, iteT (hb As1 σ F1 H1 m1 (hE.step s1) Q fun v As2 F2 H2 s2 m2 o2 => q v As2 F2 H2 (s1.trans s2) m2 o2)⟩⟩
end
theorem sum_ge : ∀ (l : List Int), (∀ x ∈ l, 0 < x) → ∀ x ∈ l, x ≤ l.sum
  | [], _, x, h => by cases h
  | y :: l, hp, x, h => by
    have h0 : 0 ≤ l.sum := by
      cases l with
      | nil => simp
      | cons z l => have := sum_ge (z :: l) (fun u hu => hp u (List.mem_cons_of_mem _ hu)) z (by simp); have := hp z (by simp); omega
    have y0 := hp y (by simp)
    rw [List.sum_cons]
    rcases List.mem_cons.mp h with rfl | h
    · omega
    · have := sum_ge l (fun u hu => hp u (List.mem_cons_of_mem _ hu)) x h; omega
theorem gap_le {N n : Nat} (hN : 0 < N) (k : Nat) : ∀ x ∈ gapK N n k, x ≤ N := fun x hx => by
  have := sum_ge (gapK N n k) (fun x hx => (gap_mul hN k x hx).2) x hx
  unfold gapK at this
  rwa [gaps_sum] at this
end WC

/-! curves that are the same in parts -/
namespace WC
open PySem L2
def sameT (N n st n' st' : Nat) : Bool := decide (Nat.gcd N n = Nat.gcd N n') && decide (((st : Int) - (st' : Int)) % ((Nat.gcd N n : Nat) : Int) = 0)
section
variable {N n st n' st' : Nat}
theorem gcd_pet (N n : Nat) : Nat.gcd N n * petN N n = N := Nat.mul_div_cancel' (Nat.gcd_dvd_left N n)
theorem ints_perm {l m : List Nat} (h1 : l.Nodup) (h2 : m.Nodup) (h : ∀ x, x ∈ l ↔ x ∈ m) : (intsI l).Perm (intsI m) := ((List.perm_ext_iff_of_nodup h1 h2).mpr h).map _
theorem sorted_same (hN : 0 < N) (hst : st < N) (hst' : st' < N) : isort (intsI (tipsN N n st (petN N n))) = isort (intsI (tipsN N n' st' (petN N n'))) ↔ sameT N n st n' st' = true := by
  unfold sameT
  rw [Bool.and_eq_true, decide_eq_true_iff, decide_eq_true_iff]
  constructor
  · intro h
    have hl := congrArg List.length h
    rw [isort_len, isort_len, intsI_len, intsI_len, tips_len, tips_len] at hl
    have g1 := gcd_pet N n
    have g2 := gcd_pet N n'
    have eg : Nat.gcd N n = Nat.gcd N n' := by
      rw [← hl] at g2
      exact Nat.eq_of_mul_eq_mul_right (pet_pos (n := n) hN) (g1.trans g2.symm)
    refine ⟨eg, ?_⟩
    have m1 : ((st : Nat) : Int) ∈ isort (intsI (tipsN N n st (petN N n))) := (perm_isort _).mem_iff.mpr (mem_intsI.mpr ((tips_mem hN hst).mpr rfl))
    rw [h] at m1
    have m2 := (tips_mem hN hst).mp (mem_intsI.mp ((perm_isort _).mem_iff.mp m1))
    rw [eg]
    exact mod_same.mp m2
  · rintro ⟨eg, h⟩
    have h := mod_same.mpr h
    refine isort_of (up_isort _) ((perm_isort _).trans (ints_perm (tips_nodup hN st (Nat.le_refl _)) (tips_nodup hN st' (Nat.le_refl _)) fun x => ?_))
    constructor
    · intro hx
      have xl := tip_lt hN hx
      rw [tips_mem hN xl] at hx ⊢
      rw [← eg, hx, h]
    · intro hx
      have xl := tip_lt hN hx
      rw [tips_mem hN xl] at hx ⊢
      rw [← eg, ← h] at hx
      exact hx
theorem begin_good (hN : 0 < N) (hst : st < N) : gathI N (fun i => sameT N n st n i) (fun i => (i : Int)) = isort (intsI (tipsN N n st (petN N n))) := by
  unfold gathI
  refine isort_of ?_ ?_
  · rw [List.pairwise_map]
    exact (List.pairwise_lt_range.filter _).imp fun h => by omega
  · refine ints_perm (List.nodup_range.filter _) (tips_nodup hN st (Nat.le_refl _)) fun x => ?_
    rw [List.mem_filter, List.mem_range]
    unfold sameT
    rw [Bool.and_eq_true, decide_eq_true_iff, decide_eq_true_iff, ← mod_same]
    constructor
    · rintro ⟨h1, _, h2⟩
      exact (tips_mem hN h1).mpr h2.symm
    · intro h
      have xl := tip_lt hN h
      exact ⟨xl, rfl, ((tips_mem hN xl).mp h).symm⟩
theorem good_len (hN : 0 < N) (hst : st < N) : (gathI N (fun i => sameT N n st n i) (fun i => (i : Int))).length = petN N n := by
  rw [begin_good hN hst, isort_len, intsI_len, tips_len]
theorem prC_inj {z y : Int} (h : prC z = prC y) : z = y := by
  unfold prC at h
  simp only [PyData.tuple.injEq, List.cons.injEq, PyData.int.injEq, and_true] at h
  omega
theorem prs_inj {l m : List Int} (h : PyData.list (l.map prC) = .list (m.map prC)) : l = m := by
  injection h with h
  exact (List.map_inj_right (fun a b e => prC_inj e)).mp h
def leftN (N n : Nat) : Nat := (N - n % N) % N
theorem left_neg (hN : 0 < N) : (-(n : Int)) % (N : Int) = ((leftN N n : Nat) : Int) := by
  unfold leftN
  have h1 := Nat.mod_lt n hN
  rw [Int.natCast_emod, Int.natCast_sub (Nat.le_of_lt h1), Int.natCast_emod]
  rw [Int.sub_emod, Int.emod_self, Int.zero_sub, Int.emod_emod_of_dvd _ (Int.dvd_refl _)]
  have e : (-(n : Int)) % (N : Int) = (-((n : Int) % (N : Int))) % (N : Int) := by
    apply Int.emod_eq_emod_iff_emod_sub_eq_zero.mpr
    have : -(n : Int) - -((n : Int) % (N : Int)) = (N : Int) * (-((n : Int) / (N : Int))) := by
      have := Int.emod_add_mul_ediv (n : Int) (N : Int)
      rw [Int.mul_neg]
      omega
    rw [this]
    exact Int.mul_emod_right _ _
  exact e
structure LeftOk (N n : Nat) : Prop where
  pos : 0 < N
  mod : 0 < n % N
  eq : leftN N n = N - n % N
  lt : leftN N n < N
theorem left_ok (hN : 0 < N) (h : 2 ≤ leftN N n) : LeftOk N n := by
  have h1 := Nat.mod_lt n hN
  have h2 : leftN N n < N := Nat.mod_lt _ hN
  by_cases z : n % N = 0
  · exfalso
    unfold leftN at h
    rw [z, Nat.sub_zero, Nat.mod_self] at h
    omega
  · exact ⟨hN, by omega, Nat.mod_eq_of_lt (by omega), h2⟩
theorem LeftOk.gcd (h : LeftOk N n) : Nat.gcd N (leftN N n) = Nat.gcd N n := by
  have h1 := Nat.mod_lt n h.pos
  have e : n % N = N - leftN N n := by rw [h.eq]; omega
  apply Nat.dvd_antisymm
  · refine Nat.dvd_gcd (Nat.gcd_dvd_left _ _) ?_
    rw [← Nat.dvd_mod_iff (Nat.gcd_dvd_left N (leftN N n)), e]
    exact Nat.dvd_sub (Nat.gcd_dvd_left _ _) (Nat.gcd_dvd_right _ _)
  · refine Nat.dvd_gcd (Nat.gcd_dvd_left _ _) ?_
    rw [h.eq]
    exact Nat.dvd_sub (Nat.gcd_dvd_left _ _) ((Nat.dvd_mod_iff (Nat.gcd_dvd_left N n)).mpr (Nat.gcd_dvd_right _ _))
theorem LeftOk.pet (h : LeftOk N n) : petN N (leftN N n) = petN N n := by unfold petN; rw [h.gcd]
theorem LeftOk.tip (h : LeftOk N n) {i : Nat} (hi : i ≤ petN N n) : tpN N (leftN N n) st i = tpN N n st (petN N n - i) := by
  unfold tpN
  have e1 : petN N n * n = N * rndN N n := by rw [← len_pet h.pos, len_rnd h.pos, Nat.mul_comm]
  have e2 : leftN N n + n = N * (1 + n / N) := by
    have := Nat.mod_add_div n N
    have h1 := Nat.mod_lt n h.pos
    rw [h.eq, Nat.mul_add, Nat.mul_one]
    omega
  obtain ⟨k, hk⟩ : ∃ k, petN N n = k + i := ⟨petN N n - i, by omega⟩
  rw [hk] at e1 ⊢
  rw [Nat.add_sub_cancel]
  have e3 : st + i * leftN N n + N * rndN N n = st + k * n + N * (i * (1 + n / N)) := by
    have : i * leftN N n + i * n = N * (i * (1 + n / N)) := by rw [← Nat.mul_add, e2, Nat.mul_left_comm]
    rw [← e1, Nat.add_mul]
    omega
  have := congrArg (· % N) e3
  simp only [Nat.add_mul_mod_self_left] at this
  exact this
theorem chCode_symm (x y : Nat) : chCode x y = chCode y x := by unfold chCode; rw [Nat.min_comm, Nat.max_comm]
theorem mem_chZ {arcs : Nat} {z : Int} : z ∈ chZ N n st arcs ↔ ∃ i, i < arcs ∧ tpN N n st i ≠ tpN N n st (i + 1) ∧ z = chCode (tpN N n st i) (tpN N n st (i + 1)) := by
  unfold chZ gathI
  rw [List.mem_map]
  constructor
  · rintro ⟨i, hi, rfl⟩
    rw [List.mem_filter, List.mem_range] at hi
    obtain ⟨h1, h2⟩ := hi
    refine ⟨i, h1, fun e => ?_, rfl⟩
    rw [e] at h2
    simp at h2
  · rintro ⟨i, h1, h2, rfl⟩
    refine ⟨i, List.mem_filter.mpr ⟨List.mem_range.mpr h1, ?_⟩, rfl⟩
    rw [decide_eq_false (by omega)]; rfl
theorem LeftOk.chords (h : LeftOk N n) : ssort (chZ N (leftN N n) st (petN N n)) = ssort (chZ N n st (petN N n)) := by
  apply ssort_congr
  intro z
  rw [mem_chZ, mem_chZ]
  constructor
  · rintro ⟨i, h1, h2, rfl⟩
    rw [h.tip (by omega), h.tip (by omega)] at h2 ⊢
    refine ⟨petN N n - (i + 1), by omega, ?_, ?_⟩
    · rw [show petN N n - (i + 1) + 1 = petN N n - i by omega]; exact Ne.symm h2
    · rw [show petN N n - (i + 1) + 1 = petN N n - i by omega, chCode_symm]
  · rintro ⟨i, h1, h2, rfl⟩
    have t1 : tpN N n st i = tpN N (leftN N n) st (petN N n - i) := by rw [h.tip (by omega), show petN N n - (petN N n - i) = i by omega]
    have t2 : tpN N n st (i + 1) = tpN N (leftN N n) st (petN N n - (i + 1)) := by rw [h.tip (by omega), show petN N n - (petN N n - (i + 1)) = i + 1 by omega]
    rw [t1, t2] at h2 ⊢
    refine ⟨petN N n - (i + 1), by omega, ?_, ?_⟩
    · rw [show petN N n - (i + 1) + 1 = petN N n - i by omega]; exact Ne.symm h2
    · rw [show petN N n - (i + 1) + 1 = petN N n - i by omega, chCode_symm]
theorem LeftOk.cr (h : LeftOk N n) : crN N (leftN N n) = crN N n := by
  have hp := pet_pos (n := n) h.pos
  have g0 : 0 < Nat.gcd N n := Nat.gcd_pos_of_pos_left _ h.pos
  have e1 := gcd_pet N n
  have e2 : Nat.gcd N n * rndN N n = n := Nat.mul_div_cancel' (Nat.gcd_dvd_right N n)
  have h1 := Nat.mod_lt n h.pos
  have md : n % N = Nat.gcd N n * (rndN N n % petN N n) := by
    have : (Nat.gcd N n * rndN N n) % (Nat.gcd N n * petN N n) = Nat.gcd N n * (rndN N n % petN N n) := Nat.mul_mod_mul_left _ _ _
    rwa [e1, e2] at this
  have r1 := Nat.mod_lt (rndN N n) hp
  have r0 : 0 < rndN N n % petN N n := by
    rcases Nat.eq_zero_or_pos (rndN N n % petN N n) with z | z
    · rw [z, Nat.mul_zero] at md
      have := h.mod
      omega
    · exact z
  have rl : rndN N (leftN N n) = petN N n - rndN N n % petN N n := by
    show leftN N n / Nat.gcd N (leftN N n) = _
    rw [h.gcd, h.eq, md]
    have : N - Nat.gcd N n * (rndN N n % petN N n) = Nat.gcd N n * (petN N n - rndN N n % petN N n) := by rw [Nat.mul_sub, e1]
    rw [this, Nat.mul_div_cancel_left _ g0]
  have st : stepN N (leftN N n) = stepN N n := by
    unfold stepN
    rw [h.pet, rl, Nat.mod_eq_of_lt (show petN N n - rndN N n % petN N n < petN N n by omega)]
    omega
  unfold crN
  rw [st, h.pet]
theorem LeftOk.tips (h : LeftOk N n) : (tipsN N (leftN N n) st (petN N n)).drop 1 = ((tipsN N n st (petN N n)).drop 1).reverse := by
  apply List.ext_getElem?
  intro i
  by_cases hi : i + 1 < petN N n
  · rw [List.getElem?_drop, tips_get (by omega), List.getElem?_reverse (by rw [List.length_drop, tips_len]; omega), List.length_drop, tips_len, List.getElem?_drop, tips_get (by omega)]
    have := h.tip (st := st) (i := 1 + i) (by omega)
    unfold tpN at this
    rw [this, show 1 + (petN N n - 1 - 1 - i) = petN N n - (1 + i) by omega]
  · rw [List.getElem?_eq_none (by rw [List.length_drop, tips_len]; omega), List.getElem?_eq_none (by rw [List.length_reverse, List.length_drop, tips_len]; omega)]
end
theorem chZ_yes {N n st i : Nat} (h : tpN N n st i ≠ tpN N n st (i + 1)) : chZ N n st (i + 1) = chZ N n st i ++ [chCode (tpN N n st i) (tpN N n st (i + 1))] := by
  unfold chZ gathI
  rw [List.range_succ, List.filter_append, List.map_append]
  congr 1
  rw [List.filter_cons_of_pos (by rw [decide_eq_false (by omega)]; rfl)]; rfl
theorem chZ_no {N n st i : Nat} (h : tpN N n st i = tpN N n st (i + 1)) : chZ N n st (i + 1) = chZ N n st i := by
  unfold chZ gathI
  rw [List.range_succ, List.filter_append, List.map_append, List.filter_cons_of_neg (by rw [decide_eq_true (by rw [h])]; simp)]
  simp
theorem ints_drop (l : List Nat) (k : Nat) : intsI (l.drop k) = (intsI l).drop k := by unfold intsI; rw [List.map_drop]
theorem intsI_reverse (l : List Nat) : intsI l.reverse = (intsI l).reverse := by unfold intsI; rw [List.map_reverse]
def Sig_same_tips : List PyData → Res → Prop := fun ds r => ∃ N n s N' n' s' st st', GOk N n s ∧ GOk N' n' s' ∧ st < N ∧ st' < N' ∧ ds = [gD N n s, .int (st : Nat), gD N' n' s', .int (st' : Nat)] ∧ r = vB (decide (N = N') && sameT N n st n' st')
def Sig_same_chords : List PyData → Res → Prop := fun ds r => ∃ N n s N' n' s' st st', GOk N n s ∧ GOk N' n' s' ∧ st < N ∧ st' < N' ∧ ds = [gD N n s, .int (st : Nat), gD N' n' s', .int (st' : Nat)] ∧ r = vB (decide (N = N') && decide (ssort (chZ N n st (petN N n)) = ssort (chZ N' n' st' (petN N' n'))))
def Sig_other_way (c : Cl) : List PyData → Res → Prop := fun ds r => ∃ N n s, GOk N n s ∧ ds = [gD N n s] ∧ ((2 ≤ leftN N n ∧ r = .val (gD N (leftN N n) s)) ∨ (leftN N n < 2 ∧ r = .err (.ref c.non)))
def Sig_law_other : List PyData → Res → Prop := fun ds r => ∃ N n s, GOk N n s ∧ ds = [gD N n s] ∧ ((2 ≤ leftN N n ∧ r = .val (gD N (leftN N n) s)) ∨ (leftN N n < 2 ∧ r = .val (.str "none")))
end WC

/-! crossings: plain mathematics -/
namespace WC
open PySem L2
theorem cross_symm (z y : Int) : crossZ z y = crossZ y z := by
  unfold crossZ
  rw [Bool.or_comm]
theorem cross_self (z : Int) : crossZ z z = false := by
  unfold crossZ
  rw [decide_eq_false (by omega)]; rfl
theorem sum_filt (z : Int) : ∀ l m : List Int, (l.map fun y => ((z :: m).filter (crossZ y)).length).sum = (l.filter (crossZ z)).length + (l.map fun y => (m.filter (crossZ y)).length).sum
  | [], m => rfl
  | y :: l, m => by
    rw [List.map_cons, List.sum_cons, sum_filt z l m, List.map_cons, List.sum_cons, List.filter_cons, List.filter_cons, cross_symm z y]
    cases crossZ y z <;> simp <;> omega
theorem cr_two : ∀ l : List Int, 2 * crC l = (l.map fun z => (l.filter (crossZ z)).length).sum
  | [] => rfl
  | z :: l => by
    rw [List.map_cons, List.sum_cons, sum_filt z l l, ← cr_two l, List.filter_cons, cross_self]
    show 2 * ((l.filter (crossZ z)).length + crC l) = _
    simp
    omega
theorem sum_perm {l m : List Nat} (p : l.Perm m) : l.sum = m.sum := by
  induction p with
  | nil => rfl
  | cons x _ ih => rw [List.sum_cons, List.sum_cons, ih]
  | swap x y l => simp only [List.sum_cons]; omega
  | trans _ _ h1 h2 => rw [h1, h2]
theorem cr_perm {l m : List Int} (p : l.Perm m) : crC l = crC m := by
  have e : 2 * crC l = 2 * crC m := by
    rw [cr_two, cr_two]
    have : (l.map fun z => (l.filter (crossZ z)).length) = l.map fun z => (m.filter (crossZ z)).length := List.map_congr_left fun z _ => (p.filter _).length_eq
    rw [this]
    exact sum_perm (p.map _)
  omega
/-- the same count where a map keeps crossings -/
theorem cr_map {f : Int → Int} : ∀ {l : List Int}, (∀ z ∈ l, ∀ y ∈ l, crossZ (f z) (f y) = crossZ z y) → crC (l.map f) = crC l
  | [], _ => rfl
  | z :: l, h => by
    show (((l.map f).filter (crossZ (f z))).length) + crC (l.map f) = (l.filter (crossZ z)).length + crC l
    rw [cr_map fun a ha b hb => h a (List.mem_cons_of_mem _ ha) b (List.mem_cons_of_mem _ hb), List.filter_map, List.length_map]
    congr 2
    apply List.filter_congr
    intro y hy
    exact h z (by simp) y (List.mem_cons_of_mem _ hy)
theorem cr_sub {l m : List Int} (s : List.Sublist l m) : crC l ≤ crC m := by
  induction s with
  | slnil => exact Nat.le_refl _
  | cons z _ ih => exact Nat.le_trans ih (Nat.le_add_left _ _)
  | cons_cons z s ih => exact Nat.add_le_add (s.filter _).length_le ih
theorem ss_nodup (l : List Int) : (ssort l).Nodup := (asc_ssort l).imp fun h => by omega
theorem cr_subset {l m : List Int} (h : ∀ z ∈ l, z ∈ m) : crC (ssort l) ≤ crC (ssort m) := by
  have p : (ssort l).Perm ((ssort m).filter fun z => decide (z ∈ l)) := by
    refine (List.perm_ext_iff_of_nodup (ss_nodup l) ((ss_nodup m).filter _)).mpr fun z => ?_
    rw [List.mem_filter, mem_ssort, mem_ssort, decide_eq_true_iff]
    exact ⟨fun z1 => ⟨h z z1, z1⟩, fun z1 => z1.2⟩
  rw [cr_perm p]
  exact cr_sub List.filter_sublist
/-! ### places on the ring -/
/-- how far c lies behind a -/
def pos (N a c : Nat) : Nat := if a ≤ c then c - a else c + N - a
def inA (N a b c : Nat) : Prop := 0 < pos N a c ∧ pos N a c < pos N a b
/-- two chords cross -/
def Crs (N a b c d : Nat) : Prop := c ≠ a ∧ c ≠ b ∧ d ≠ a ∧ d ≠ b ∧ (inA N a b c ↔ ¬ inA N a b d)
section
variable {N a b c d t : Nat}
theorem code_parts {x y : Nat} (hx : x < 1000) (hy : y < 1000) : chCode x y / 1000 = ((min x y : Nat) : Int) ∧ chCode x y % 1000 = ((max x y : Nat) : Int) := by
  unfold chCode
  have h3 : max x y < 1000 := by omega
  constructor <;> omega
theorem cross_iff (hN : N ≤ 1000) (ha : a < N) (hb : b < N) (hc : c < N) (hd : d < N) (hab : a ≠ b) (hcd : c ≠ d) : crossZ (chCode a b) (chCode c d) = true ↔ Crs N a b c d := by
  obtain ⟨e1, e2⟩ := code_parts (x := a) (y := b) (by omega) (by omega)
  obtain ⟨e3, e4⟩ := code_parts (x := c) (y := d) (by omega) (by omega)
  unfold crossZ
  rw [e1, e2, e3, e4]
  simp only [Bool.or_eq_true, Bool.and_eq_true, decide_eq_true_iff]
  unfold Crs inA pos
  have m1 : ((min a b : Nat) : Int) = min (a : Int) b := by omega
  rcases Nat.lt_or_ge a b with h1 | h1 <;> rcases Nat.lt_or_ge c d with h2 | h2
  all_goals
    first
      | rw [Nat.min_eq_left (Nat.le_of_lt h1), Nat.max_eq_right (Nat.le_of_lt h1)]
      | rw [Nat.min_eq_right h1, Nat.max_eq_left h1]
    first
      | rw [Nat.min_eq_left (Nat.le_of_lt h2), Nat.max_eq_right (Nat.le_of_lt h2)]
      | rw [Nat.min_eq_right h2, Nat.max_eq_left h2]
    split <;> split <;> split <;> omega
theorem pos_lt (ha : a < N) (hc : c < N) : pos N a c < N := by unfold pos; split <;> omega
theorem pos_rot (ha : a < N) (hc : c < N) : pos N ((a + t) % N) ((c + t) % N) = pos N a c := by
  have e : ∀ x, x < N → ∀ t, t < N → (x + t) % N = if x + t < N then x + t else x + t - N := fun x hx t ht => by
    split
    · exact Nat.mod_eq_of_lt (by assumption)
    · rw [Nat.mod_eq_sub_mod (by omega), Nat.mod_eq_of_lt (by omega)]
  rw [← Nat.add_mod_mod a t N, ← Nat.add_mod_mod c t N]
  have ht : t % N < N := Nat.mod_lt _ (by omega)
  rw [e a ha _ ht, e c hc _ ht]
  unfold pos
  split <;> split <;> split <;> split <;> omega
theorem rot_inj (ha : a < N) (hc : c < N) (h : (a + t) % N = (c + t) % N) : a = c := by
  have h1 := pos_rot (t := t) ha hc
  rw [h] at h1
  unfold pos at h1
  rw [if_pos (Nat.le_refl _)] at h1
  split at h1 <;> omega
theorem crs_rot (ha : a < N) (hb : b < N) (hc : c < N) (hd : d < N) : Crs N ((a + t) % N) ((b + t) % N) ((c + t) % N) ((d + t) % N) ↔ Crs N a b c d := by
  unfold Crs inA
  rw [pos_rot ha hb, pos_rot ha hc, pos_rot ha hd]
  have i1 : (c + t) % N ≠ (a + t) % N ↔ c ≠ a := ⟨fun h e => h (by rw [e]), fun h e => h (rot_inj hc ha e)⟩
  have i2 : (c + t) % N ≠ (b + t) % N ↔ c ≠ b := ⟨fun h e => h (by rw [e]), fun h e => h (rot_inj hc hb e)⟩
  have i3 : (d + t) % N ≠ (a + t) % N ↔ d ≠ a := ⟨fun h e => h (by rw [e]), fun h e => h (rot_inj hd ha e)⟩
  have i4 : (d + t) % N ≠ (b + t) % N ↔ d ≠ b := ⟨fun h e => h (by rw [e]), fun h e => h (rot_inj hd hb e)⟩
  rw [i1, i2, i3, i4]
end
/-! ### chords turned round the ring -/
theorem code_eq {a b c d : Nat} (ha : a < 1000) (hb : b < 1000) (hc : c < 1000) (hd : d < 1000) (h : chCode a b = chCode c d) : (a = c ∧ b = d) ∨ (a = d ∧ b = c) := by
  obtain ⟨e1, e2⟩ := code_parts ha hb
  obtain ⟨e3, e4⟩ := code_parts hc hd
  rw [h] at e1 e2
  omega
def rotZ (N t : Nat) (z : Int) : Int := chCode (((z / 1000).toNat + t) % N) (((z % 1000).toNat + t) % N)
section
variable {N n st arcs t : Nat}
theorem rot_code {a b : Nat} (ha : a < 1000) (hb : b < 1000) : rotZ N t (chCode a b) = chCode ((a + t) % N) ((b + t) % N) := by
  obtain ⟨e1, e2⟩ := code_parts ha hb
  unfold rotZ
  rw [e1, e2]
  simp only [Int.toNat_natCast]
  rcases Nat.lt_or_ge a b with h | h
  · rw [Nat.min_eq_left (Nat.le_of_lt h), Nat.max_eq_right (Nat.le_of_lt h)]
  · rw [Nat.min_eq_right h, Nat.max_eq_left h, chCode_symm]
theorem tp_rot (i : Nat) : tpN N n t i = (tpN N n 0 i + t) % N := by
  unfold tpN
  rw [Nat.zero_add, Nat.mod_add_mod, Nat.add_comm]
theorem chZ_rot (hN : 0 < N) (hN2 : N ≤ 1000) : ∀ arcs, chZ N n t arcs = (chZ N n 0 arcs).map (rotZ N t)
  | 0 => rfl
  | k + 1 => by
    have t1 := tp_lt (n := n) (st := 0) hN k
    have t2 := tp_lt (n := n) (st := 0) hN (k + 1)
    have inj : tpN N n t k = tpN N n t (k + 1) ↔ tpN N n 0 k = tpN N n 0 (k + 1) := by
      rw [tp_rot k, tp_rot (k + 1)]
      exact ⟨fun h => rot_inj t1 t2 h, fun h => by rw [h]⟩
    by_cases h : tpN N n 0 k = tpN N n 0 (k + 1)
    · rw [chZ_no h, chZ_no (inj.mpr h), chZ_rot hN hN2 k]
    · rw [chZ_yes h, chZ_yes (fun z => h (inj.mp z)), chZ_rot hN hN2 k, List.map_append]
      congr 1
      show [_] = [_]
      rw [rot_code (by omega) (by omega), ← tp_rot, ← tp_rot]
theorem ch_mem2 {z : Int} (hN : 0 < N) (h : z ∈ chZ N n st arcs) : ∃ a b, a < N ∧ b < N ∧ a ≠ b ∧ z = chCode a b := by
  obtain ⟨i, h1, h2, rfl⟩ := mem_chZ.mp h
  exact ⟨_, _, tp_lt hN i, tp_lt hN (i + 1), h2, rfl⟩
theorem rotZ_inj (hN : 0 < N) (hN2 : N ≤ 1000) {z y : Int} (hz : z ∈ chZ N n st arcs) (hy : y ∈ chZ N n st arcs) (h : rotZ N t z = rotZ N t y) : z = y := by
  obtain ⟨a, b, ha, hb, _, rfl⟩ := ch_mem2 hN hz
  obtain ⟨c, d, hc, hd, _, rfl⟩ := ch_mem2 hN hy
  rw [rot_code (by omega) (by omega), rot_code (by omega) (by omega)] at h
  have m : ∀ x, (x + t) % N < 1000 := fun x => Nat.lt_of_lt_of_le (Nat.mod_lt _ hN) hN2
  rcases code_eq (m a) (m b) (m c) (m d) h with ⟨e1, e2⟩ | ⟨e1, e2⟩
  · rw [rot_inj ha hc e1, rot_inj hb hd e2]
  · rw [rot_inj ha hd e1, rot_inj hb hc e2, chCode_symm]
theorem rotZ_cross (hN : 0 < N) (hN2 : N ≤ 1000) {z y : Int} (hz : ∃ a b, a < N ∧ b < N ∧ a ≠ b ∧ z = chCode a b) (hy : ∃ a b, a < N ∧ b < N ∧ a ≠ b ∧ y = chCode a b) : crossZ (rotZ N t z) (rotZ N t y) = crossZ z y := by
  obtain ⟨a, b, ha, hb, hab, rfl⟩ := hz
  obtain ⟨c, d, hc, hd, hcd, rfl⟩ := hy
  rw [rot_code (by omega) (by omega), rot_code (by omega) (by omega)]
  have e1 := cross_iff hN2 (Nat.mod_lt (a + t) hN) (Nat.mod_lt (b + t) hN) (Nat.mod_lt (c + t) hN) (Nat.mod_lt (d + t) hN) (fun e => hab (rot_inj ha hb e)) (fun e => hcd (rot_inj hc hd e))
  have e2 := cross_iff hN2 ha hb hc hd hab hcd
  rw [crs_rot ha hb hc hd, ← e2] at e1
  cases h1 : crossZ (chCode a b) (chCode c d) <;> cases h2 : crossZ (chCode ((a + t) % N) ((b + t) % N)) (chCode ((c + t) % N) ((d + t) % N)) <;> simp_all
theorem ss_rot (hN : 0 < N) (hN2 : N ≤ 1000) : (ssort (chZ N n t arcs)).Perm ((ssort (chZ N n 0 arcs)).map (rotZ N t)) := by
  have nd : ((ssort (chZ N n 0 arcs)).map (rotZ N t)).Nodup := by
    unfold List.Nodup
    rw [List.pairwise_map]
    refine (ss_nodup _).imp_of_mem fun {z y} hz hy ne e => ne ?_
    exact rotZ_inj hN hN2 ((mem_ssort _ _).mp hz) ((mem_ssort _ _).mp hy) e
  refine (List.perm_ext_iff_of_nodup (ss_nodup _) nd).mpr fun z => ?_
  rw [mem_ssort, chZ_rot hN hN2, List.mem_map, List.mem_map]
  simp only [mem_ssort]
theorem cr_rot (hN : 0 < N) (hN2 : N ≤ 1000) : crC (ssort (chZ N n t arcs)) = crC (ssort (chZ N n 0 arcs)) := by
  rw [cr_perm (ss_rot hN hN2)]
  exact cr_map fun z hz y hy => rotZ_cross hN hN2 (ch_mem2 hN ((mem_ssort _ _).mp hz)) (ch_mem2 hN ((mem_ssort _ _).mp hy))
theorem len_rot (hN : 0 < N) (hN2 : N ≤ 1000) : (ssort (chZ N n t arcs)).length = (ssort (chZ N n 0 arcs)).length := by
  rw [(ss_rot hN hN2).length_eq, List.length_map]
/-! ### the closed curve -/
theorem tp_next (i : Nat) : tpN N n st (i + 1) = (tpN N n st i + n) % N := by
  unfold tpN
  rw [Nat.mod_add_mod, Nat.add_mul, Nat.one_mul, Nat.add_assoc]
theorem mem_closed (hN : 0 < N) {z : Int} : z ∈ chZ N n st (petN N n) ↔ ∃ y, y < N ∧ y % Nat.gcd N n = st % Nat.gcd N n ∧ y ≠ (y + n) % N ∧ z = chCode y ((y + n) % N) := by
  rw [mem_chZ]
  constructor
  · rintro ⟨i, h1, h2, rfl⟩
    rw [tp_next] at h2 ⊢
    refine ⟨_, tp_lt hN i, ?_, h2, rfl⟩
    exact (tips_mem hN (tp_lt hN i)).mp (List.mem_of_getElem? (tips_get h1))
  · rintro ⟨y, h1, h2, h3, rfl⟩
    obtain ⟨i, hi⟩ := List.mem_iff_getElem?.mp ((tips_mem hN h1).mpr h2)
    have il : i < petN N n := by
      have := (List.getElem?_eq_some_iff.mp hi).1
      rwa [tips_len] at this
    have e : tpN N n st i = y := by rw [tips_get il] at hi; exact Option.some.inj hi
    exact ⟨i, il, by rw [tp_next, e]; exact h3, by rw [tp_next, e]⟩
theorem closed_same (hN : 0 < N) {x : Nat} (hx : x % Nat.gcd N n = st % Nat.gcd N n) : ssort (chZ N n x (petN N n)) = ssort (chZ N n st (petN N n)) := by
  apply ssort_congr
  intro z
  rw [mem_closed hN, mem_closed hN, hx]
end
end WC

/-! star polygons -/
namespace WC
open PySem L2
theorem cnt_two {W s : Nat} (h1 : 1 ≤ s) (h2 : 2 * s ≤ W) : ((List.range W).filter fun j => decide ((1 ≤ j ∧ j < s) ∨ (W - s < j ∧ j < W))).length = 2 * (s - 1) := by
  have p : ((List.range W).filter fun j => decide ((1 ≤ j ∧ j < s) ∨ (W - s < j ∧ j < W))).Perm ((List.range (s - 1)).map (· + 1) ++ (List.range (s - 1)).map (· + (W - s + 1))) := by
    refine (List.perm_ext_iff_of_nodup (List.nodup_range.filter _) ?_).mpr fun j => ?_
    · rw [List.nodup_append]
      refine ⟨?_, ?_, ?_⟩
      · unfold List.Nodup; rw [List.pairwise_map]; exact List.pairwise_lt_range.imp fun h => by omega
      · unfold List.Nodup; rw [List.pairwise_map]; exact List.pairwise_lt_range.imp fun h => by omega
      · intro x hx y hy
        obtain ⟨u, hu, rfl⟩ := List.mem_map.mp hx
        obtain ⟨v, hv, rfl⟩ := List.mem_map.mp hy
        rw [List.mem_range] at hu hv
        omega
    · rw [List.mem_filter, List.mem_range, decide_eq_true_iff, List.mem_append, List.mem_map, List.mem_map]
      constructor
      · rintro ⟨a, b | b⟩
        · exact .inl ⟨j - 1, List.mem_range.mpr (by omega), by omega⟩
        · exact .inr ⟨j - (W - s + 1), List.mem_range.mpr (by omega), by omega⟩
      · rintro (⟨u, hu, rfl⟩ | ⟨u, hu, rfl⟩)
        · rw [List.mem_range] at hu; omega
        · rw [List.mem_range] at hu; omega
  rw [p.length_eq, List.length_append, List.length_map, List.length_map, List.length_range]
  omega
/-- what is known of a gear's numbers -/
structure Pol (N n g W r q : Nat) : Prop where
  hN : g * W = N
  hn : g * r = n
  g0 : 0 < g
  W0 : 0 < W
  qe : r % W = q
  co : Nat.gcd q W = 1
theorem pol {N n : Nat} (h : 0 < N) : Pol N n (Nat.gcd N n) (petN N n) (rndN N n) (rndN N n % petN N n) := by
  have g0 : 0 < Nat.gcd N n := Nat.gcd_pos_of_pos_left _ h
  refine ⟨gcd_pet N n, Nat.mul_div_cancel' (Nat.gcd_dvd_right N n), g0, pet_pos h, rfl, ?_⟩
  rw [← Nat.gcd_rec]
  show Nat.gcd (N / Nat.gcd N n) (n / Nat.gcd N n) = 1
  rw [Nat.gcd_div (Nat.gcd_dvd_left N n) (Nat.gcd_dvd_right N n), Nat.div_self g0]
section
variable {N n g W r q : Nat}
theorem Pol.q0 (p : Pol N n g W r q) (h : 1 < W) : 0 < q := by
  rcases Nat.eq_zero_or_pos q with z | z
  · have := p.co
    rw [z, Nat.gcd_zero_left] at this
    omega
  · exact z
theorem Pol.qW (p : Pol N n g W r q) : q < W := by rw [← p.qe]; exact Nat.mod_lt _ p.W0
theorem Pol.q2 (p : Pol N n g W r q) (h : 2 < W) : 2 * q ≠ W := fun e => by
  have := p.co
  rw [← e, Nat.gcd_mul_left_right] at this
  omega
theorem Pol.mod (p : Pol N n g W r q) : n % N = g * q := by rw [← p.hN, ← p.hn, Nat.mul_mod_mul_left, p.qe]
theorem Pol.next (p : Pol N n g W r q) (j : Nat) : (g * j + n) % N = g * ((j + q) % W) := by
  rw [← p.hN, ← p.hn, ← Nat.mul_add, Nat.mul_mod_mul_left, ← p.qe, Nat.add_mod_mod]
theorem Pol.lt (p : Pol N n g W r q) {j : Nat} (h : j < W) : g * j < N := by rw [← p.hN]; exact Nat.mul_lt_mul_of_pos_left h p.g0
theorem Pol.inj (p : Pol N n g W r q) {j k : Nat} : g * j = g * k ↔ j = k := ⟨fun h => Nat.eq_of_mul_eq_mul_left p.g0 h, fun h => by rw [h]⟩
theorem step_mod {W q j : Nat} (hj : j < W) (hq : q < W) : (j + q) % W = if j + q < W then j + q else j + q - W := by
  split
  · exact Nat.mod_eq_of_lt (by assumption)
  · rw [Nat.mod_eq_sub_mod (by omega), Nat.mod_eq_of_lt (by omega)]
def cdZ (g W q j : Nat) : Int := chCode (g * j) (g * ((j + q) % W))
theorem Pol.mem (p : Pol N n g W r q) (hg : g = Nat.gcd N n) (hW : W = petN N n) (h1 : 1 < W) {z : Int} : z ∈ chZ N n 0 W ↔ ∃ j, j < W ∧ z = cdZ g W q j := by
  have q0 := p.q0 h1
  have qW := p.qW
  have hN : 0 < N := by rw [← p.hN]; exact Nat.mul_pos p.g0 p.W0
  rw [hW, mem_closed hN, ← hW, ← hg, Nat.zero_mod]
  constructor
  · rintro ⟨y, y1, y2, y3, rfl⟩
    obtain ⟨j, rfl⟩ : ∃ j, y = g * j := ⟨y / g, (Nat.mul_div_cancel' (Nat.dvd_of_mod_eq_zero y2)).symm⟩
    have jW : j < W := by rw [← p.hN] at y1; exact Nat.lt_of_mul_lt_mul_left y1
    exact ⟨j, jW, by rw [p.next]; rfl⟩
  · rintro ⟨j, hj, rfl⟩
    refine ⟨g * j, p.lt hj, Nat.mul_mod_right g j, ?_, by rw [p.next]; rfl⟩
    rw [p.next]
    intro e
    have := p.inj.mp e
    rw [step_mod hj qW] at this
    split at this <;> omega
theorem Pol.perm (p : Pol N n g W r q) (hg : g = Nat.gcd N n) (hW : W = petN N n) (hN2 : N ≤ 1000) (h2 : 2 < W) : (ssort (chZ N n 0 W)).Perm ((List.range W).map (cdZ g W q)) := by
  have qW := p.qW
  have q2 := p.q2 h2
  have q0 := p.q0 (by omega)
  have nd : ((List.range W).map (cdZ g W q)).Nodup := by
    unfold List.Nodup
    rw [List.pairwise_map]
    refine List.nodup_range.imp_of_mem fun {j k} hj hk ne e => ne ?_
    rw [List.mem_range] at hj hk
    have jl := p.lt hj
    have kl := p.lt hk
    have jl2 := p.lt (Nat.mod_lt (j + q) p.W0)
    have kl2 := p.lt (Nat.mod_lt (k + q) p.W0)
    rcases code_eq (by omega) (by omega) (by omega) (by omega) e with ⟨e1, _⟩ | ⟨e1, e2⟩
    · exact p.inj.mp e1
    · have e1 := p.inj.mp e1
      have e2 := p.inj.mp e2
      rw [step_mod hk qW] at e1
      rw [step_mod hj qW] at e2
      split at e1 <;> split at e2 <;> omega
  refine (List.perm_ext_iff_of_nodup (ss_nodup _) nd).mpr fun z => ?_
  rw [mem_ssort, p.mem hg hW (by omega), List.mem_map]
  constructor
  · rintro ⟨j, hj, rfl⟩; exact ⟨j, List.mem_range.mpr hj, rfl⟩
  · rintro ⟨j, hj, rfl⟩; exact ⟨j, List.mem_range.mp hj, rfl⟩
/-- how many chords cross the first one -/
theorem Pol.cnt (p : Pol N n g W r q) (hg : g = Nat.gcd N n) (hW : W = petN N n) (hN2 : N ≤ 1000) (h2 : 2 < W) : ((ssort (chZ N n 0 W)).filter (crossZ (chCode 0 (n % N)))).length = 2 * (min q (W - q) - 1) := by
  have qW := p.qW
  have q2 := p.q2 h2
  have q0 := p.q0 (by omega)
  rw [((p.perm hg hW hN2 h2).filter _).length_eq, List.filter_map, List.length_map, ← cnt_two (W := W) (s := min q (W - q)) (by omega) (by omega)]
  refine congrArg List.length (List.filter_congr fun j hj => ?_)
  rw [List.mem_range] at hj
  have kW := Nat.mod_lt (j + q) p.W0
  have jk : j ≠ (j + q) % W := fun e => by
    rw [step_mod hj qW] at e
    split at e <;> omega
  show crossZ (chCode 0 (n % N)) (chCode (g * j) (g * ((j + q) % W))) = _
  rw [p.mod]
  have gq : 0 < g * q := Nat.mul_pos p.g0 q0
  have cr := cross_iff (N := N) (a := 0) (b := g * q) (c := g * j) (d := g * ((j + q) % W)) hN2 (by have := p.lt hj; omega) (p.lt qW) (p.lt hj) (p.lt kW) (by omega) (fun e => jk (p.inj.mp e))
  have lt : ∀ x y, g * x < g * y ↔ x < y := fun x y => ⟨fun h => Nat.lt_of_mul_lt_mul_left h, fun h => Nat.mul_lt_mul_of_pos_left h p.g0⟩
  have pz : ∀ x, pos N 0 x = x := fun x => by unfold pos; rw [if_pos (Nat.zero_le _), Nat.sub_zero]
  have z0 : ∀ x, g * x ≠ 0 ↔ x ≠ 0 := fun x => ⟨fun h e => h (by rw [e, Nat.mul_zero]), fun h e => h (by have := Nat.mul_eq_zero.mp e; have := p.g0; omega)⟩
  have nn : ∀ x y, g * x ≠ g * y ↔ x ≠ y := fun x y => ⟨fun h e => h (by rw [e]), fun h e => h (p.inj.mp e)⟩
  have zp : ∀ x, 0 < g * x ↔ 0 < x := fun x => by rw [Nat.pos_iff_ne_zero, Nat.pos_iff_ne_zero, z0]
  have key : Crs N 0 (g * q) (g * j) (g * ((j + q) % W)) ↔ ((1 ≤ j ∧ j < min q (W - q)) ∨ (W - min q (W - q) < j ∧ j < W)) := by
    unfold Crs inA
    rw [pz, pz, pz, z0, z0, zp, zp, lt, lt, nn, nn, step_mod hj qW]
    split <;> omega
  rw [key] at cr
  cases h1 : crossZ (chCode 0 (g * q)) (chCode (g * j) (g * ((j + q) % W))) with
  | true => exact (decide_eq_true (cr.mp h1)).symm
  | false => exact (decide_eq_false (fun z => by rw [cr.mpr z] at h1; cases h1)).symm
end
section
variable {N n st x : Nat}
theorem closed_len (hN : 0 < N) (hN2 : N ≤ 1000) : (ssort (chZ N n st (petN N n))).length = if 2 < petN N n then petN N n else petN N n - 1 := by
  rw [len_rot hN hN2]
  have p := pol (n := n) hN
  have l1 := ssort_len_le (chZ N n 0 (petN N n))
  have l2 := ch_len (N := N) (n := n) (st := 0) (arcs := petN N n)
  split
  · rename_i h
    rw [(p.perm rfl rfl hN2 h).length_eq, List.length_map, List.length_range]
  · rename_i h
    have W0 := p.W0
    have e : petN N n = 1 ∨ petN N n = 2 := by omega
    rcases e with e | e
    · have q0 := p.qW
      have : ssort (chZ N n 0 (petN N n)) = [] := by
        rw [List.eq_nil_iff_forall_not_mem]
        intro z hz
        obtain ⟨y, y1, y2, y3, _⟩ := (mem_closed hN).mp ((mem_ssort _ _).mp hz)
        rw [e] at p
        have g1 := p.hN
        rw [Nat.zero_mod] at y2
        have yN : y % N = 0 := by rw [← g1, Nat.mul_one]; exact y2
        have y0 : y = 0 := by rw [Nat.mod_eq_of_lt y1] at yN; exact yN
        have nN : n % N = 0 := by
          have := p.mod
          rw [e] at q0
          rw [this, Nat.mod_one, Nat.mul_zero]
        rw [y0, Nat.zero_add, nN] at y3
        exact y3 rfl
      rw [this, e]; rfl
    · have mem := fun z => p.mem rfl rfl (by omega) (z := z)
      have q1 : rndN N n % petN N n = 1 := by have := p.qW; have := p.q0 (by omega); omega
      have : ssort (chZ N n 0 (petN N n)) = [cdZ (Nat.gcd N n) (petN N n) (rndN N n % petN N n) 0] := by
        symm
        apply ssort_of (List.pairwise_singleton _ _)
        intro z
        rw [mem, List.mem_singleton, q1, e]
        constructor
        · rintro rfl; exact ⟨0, by omega, rfl⟩
        · rintro ⟨j, hj, rfl⟩
          have : j = 0 ∨ j = 1 := by omega
          rcases this with rfl | rfl
          · rfl
          · unfold cdZ; rw [chCode_symm]
      rw [this, e]; rfl
theorem star_cnt (hN : 0 < N) (hN2 : N ≤ 1000) (hx : x < N) (hm : x % Nat.gcd N n = st % Nat.gcd N n) (h2 : 2 < petN N n) : ((ssort (chZ N n st (petN N n))).filter (crossZ (chCode x ((x + n) % N)))).length = 2 * (stepN N n - 1) := by
  have p := pol (n := n) hN
  rw [← closed_same hN hm, ((ss_rot hN hN2).filter _).length_eq, List.filter_map, List.length_map]
  have e0 := p.cnt rfl rfl hN2 h2
  unfold stepN
  rw [← e0]
  refine congrArg List.length (List.filter_congr fun z hz => ?_)
  show crossZ (chCode x ((x + n) % N)) (rotZ N x z) = crossZ (chCode 0 (n % N)) z
  have m0 := Nat.mod_lt n hN
  have e1 : chCode x ((x + n) % N) = rotZ N x (chCode 0 (n % N)) := by
    rw [rot_code (by omega) (by omega), Nat.zero_add, Nat.mod_eq_of_lt hx, Nat.mod_add_mod, Nat.add_comm n x]
  rw [e1]
  refine rotZ_cross hN hN2 ⟨0, n % N, hN, m0, ?_, rfl⟩ (ch_mem2 hN ((mem_ssort _ _).mp hz))
  rw [p.mod]
  have := Nat.mul_pos p.g0 (p.q0 (by omega))
  omega
theorem sum_const {c : Nat} : ∀ {l : List Int} {f : Int → Nat}, (∀ z ∈ l, f z = c) → (l.map f).sum = l.length * c
  | [], _, _ => by simp
  | z :: l, f, h => by
    rw [List.map_cons, List.sum_cons, h z (by simp), sum_const fun y hy => h y (List.mem_cons_of_mem _ hy), List.length_cons, Nat.add_mul, Nat.one_mul, Nat.add_comm]
theorem cr_short {l : List Int} (h : l.length ≤ 1) : crC l = 0 := by
  match l, h with
  | [], _ => rfl
  | [_], _ => rfl
/-- THE CROSSINGS of a closed curve -/
theorem star (hN : 0 < N) (hN2 : N ≤ 1000) : crC (ssort (chZ N n st (petN N n))) = crN N n := by
  have cl := closed_len (n := n) (st := st) hN hN2
  have p := pol (n := n) hN
  by_cases h2 : 2 < petN N n
  · rw [if_pos h2] at cl
    have q0 := p.q0 (by omega)
    have q2 := p.q2 h2
    have qW := p.qW
    have e := cr_two (ssort (chZ N n st (petN N n)))
    rw [sum_const (c := 2 * (stepN N n - 1)) fun z hz => ?_, cl] at e
    · unfold crN
      rw [if_neg (by unfold stepN; omega)]
      have : 2 * crC (ssort (chZ N n st (petN N n))) = 2 * (petN N n * (stepN N n - 1)) := by rw [e, Nat.mul_left_comm]
      omega
    · obtain ⟨y, y1, y2, y3, rfl⟩ := (mem_closed hN).mp ((mem_ssort _ _).mp hz)
      exact star_cnt hN hN2 y1 y2 h2
  · rw [if_neg h2] at cl
    rw [cr_short (by omega)]
    have W0 := p.W0
    have qW := p.qW
    unfold crN stepN
    rw [if_pos (by omega)]
end
end WC

/-! polygons: plain mathematics of k18 and k06 -/
namespace WC
open PySem L2
section
variable {N n st : Nat}
theorem ring_mod2 {g W r0 a : Nat} (hg : r0 < g) (hW : 0 < W) : (r0 + g * a) % (g * W) = r0 + g * (a % W) := by
  have h1 : r0 + g * a = (r0 + g * (a % W)) + g * W * (a / W) := by
    have := Nat.mod_add_div a W
    have : g * a = g * (a % W) + g * W * (a / W) := by
      rw [Nat.mul_assoc, ← Nat.mul_add, this]
    omega
  rw [h1, Nat.add_mul_mod_self_left]
  apply Nat.mod_eq_of_lt
  have h2 := Nat.mod_lt a hW
  have : g * (a % W) + g ≤ g * W := by rw [← Nat.mul_succ]; exact Nat.mul_le_mul_left g h2
  omega
/-- the tips along the ring -/
theorem ring_eq (hN : 0 < N) : isort (intsI (tipsN N n st (petN N n))) = intsI ((List.range (petN N n)).map fun j => st % Nat.gcd N n + Nat.gcd N n * j) := by
  have p := pol (n := n) hN
  have r0 := Nat.mod_lt st p.g0
  symm
  have up : ((List.range (petN N n)).map fun j => st % Nat.gcd N n + Nat.gcd N n * j).Pairwise (· < ·) := by
    rw [List.pairwise_map]
    exact List.pairwise_lt_range.imp fun h => by have := Nat.mul_lt_mul_of_pos_left h p.g0; omega
  refine isort_of ?_ (ints_perm (up.imp fun h => Nat.ne_of_lt h) (tips_nodup hN st (Nat.le_refl _)) fun x => ?_)
  · unfold intsI
    rw [List.pairwise_map]
    exact up.imp fun h => by omega
  · rw [List.mem_map]
    constructor
    · rintro ⟨j, hj, rfl⟩
      rw [List.mem_range] at hj
      have lt : st % Nat.gcd N n + Nat.gcd N n * j < N := by
        have : Nat.gcd N n * j + Nat.gcd N n ≤ Nat.gcd N n * petN N n := by rw [← Nat.mul_succ]; exact Nat.mul_le_mul_left _ hj
        rw [p.hN] at this
        omega
      rw [tips_mem hN lt, Nat.add_mul_mod_self_left, Nat.mod_mod]
    · intro hx
      have xl := tip_lt hN hx
      rw [tips_mem hN xl] at hx
      refine ⟨x / Nat.gcd N n, List.mem_range.mpr ?_, ?_⟩
      · rw [← p.hN] at xl
        exact (Nat.div_lt_iff_lt_mul p.g0).mpr (by rw [Nat.mul_comm]; exact xl)
      · rw [← hx]; exact Nat.mod_add_div x _
theorem ring_get (hN : 0 < N) {j : Nat} (hj : j < petN N n) : (isort (intsI (tipsN N n st (petN N n))))[j]? = some (((st % Nat.gcd N n + Nat.gcd N n * j : Nat)) : Int) := by
  rw [ring_eq hN]
  unfold intsI
  rw [List.getElem?_map, List.getElem?_map, List.getElem?_range hj]; rfl
theorem ring_first (hN : 0 < N) {j : Nat} (hj : j < petN N n) : ∀ m, m < j → (isort (intsI (tipsN N n st (petN N n))))[m]? ≠ some (((st % Nat.gcd N n + Nat.gcd N n * j : Nat)) : Int) := fun m hm e => by
  rw [ring_get hN (by omega)] at e
  have p := pol (n := n) hN
  have := Nat.mul_lt_mul_of_pos_left hm p.g0
  have e := Option.some.inj e
  omega
/-- the two tips of a chord along the ring -/
theorem chord_ends (hN : 0 < N) (hN2 : N ≤ 1000) {z : Int} (hz : z ∈ chZ N n st (petN N n)) : ∃ a b, a < b ∧ b < petN N n ∧ z / 1000 = ((st % Nat.gcd N n + Nat.gcd N n * a : Nat) : Int) ∧ z % 1000 = ((st % Nat.gcd N n + Nat.gcd N n * b : Nat) : Int) ∧ min (b - a) (petN N n - (b - a)) = stepN N n := by
  have p := pol (n := n) hN
  have r0 := Nat.mod_lt st p.g0
  obtain ⟨y, y1, y2, y3, rfl⟩ := (mem_closed hN).mp hz
  have ey : y = st % Nat.gcd N n + Nat.gcd N n * (y / Nat.gcd N n) := by rw [← y2]; exact (Nat.mod_add_div y _).symm
  have jW : y / Nat.gcd N n < petN N n := by
    rw [← p.hN] at y1
    exact (Nat.div_lt_iff_lt_mul p.g0).mpr (by rw [Nat.mul_comm]; exact y1)
  have en : (y + n) % N = st % Nat.gcd N n + Nat.gcd N n * ((y / Nat.gcd N n + rndN N n % petN N n) % petN N n) := by
    rw [Nat.add_mod_mod, ← ring_mod2 r0 p.W0, p.hN, Nat.mul_add, p.hn]
    congr 1
    omega
  have nl := Nat.mod_lt (y + n) hN
  obtain ⟨c1, c2⟩ := code_parts (x := y) (y := (y + n) % N) (by omega) (by omega)
  rw [c1, c2]
  generalize y / Nat.gcd N n = j at ey jW en
  have qW := p.qW
  rw [step_mod jW qW] at en
  have lt : ∀ u v, Nat.gcd N n * u < Nat.gcd N n * v ↔ u < v := fun u v => ⟨fun h => Nat.lt_of_mul_lt_mul_left h, fun h => Nat.mul_lt_mul_of_pos_left h p.g0⟩
  have hs : stepN N n = min (rndN N n % petN N n) (petN N n - rndN N n % petN N n) := rfl
  rw [hs]
  generalize rndN N n % petN N n = q at qW en
  split at en
  · rename_i h
    have q0 : 0 < q := by
      rcases Nat.eq_zero_or_pos q with z | z
      · rw [z, Nat.add_zero] at en; exact absurd (ey.trans en.symm) y3
      · exact z
    have m1 := (lt j (j + q)).mpr (by omega)
    exact ⟨j, j + q, by omega, h, by omega, by omega, by omega⟩
  · rename_i h
    have m1 := (lt (j + q - petN N n) j).mpr (by omega)
    exact ⟨j + q - petN N n, j, by omega, jW, by omega, by omega, by omega⟩
theorem step_half (hN : 0 < N) : stepN N n ≤ petN N n / 2 := by
  have p := pol (n := n) hN
  have := p.qW
  unfold stepN
  omega
theorem step_pos (hN : 0 < N) (h : 1 < petN N n) : 1 ≤ stepN N n := by
  have p := pol (n := n) hN
  have := p.qW
  have := p.q0 h
  unfold stepN
  omega
theorem step_ne (hN : 0 < N) (h : 2 < petN N n) : 2 * stepN N n ≠ petN N n := by
  have p := pol (n := n) hN
  have := p.qW
  have := p.q2 h
  unfold stepN
  omega
theorem crN_big (hN : 0 < N) (h : 2 < petN N n) : crN N n = petN N n * (stepN N n - 1) := by
  unfold crN
  rw [if_neg (by have := step_pos (n := n) hN (by omega); have := step_ne hN h; omega)]
theorem crN_small (hN : 0 < N) (h : petN N n ≤ 2) : crN N n = 0 := by
  have p := pol (n := n) hN
  have := p.qW
  have := p.W0
  unfold crN stepN
  rw [if_pos (by omega)]
theorem ch_subset {a b : Nat} (h : a ≤ b) : ∀ z ∈ chZ N n st a, z ∈ chZ N n st b := fun z hz => by
  obtain ⟨i, h1, h2⟩ := mem_chZ.mp hz
  exact mem_chZ.mpr ⟨i, by omega, h2⟩
theorem cr_grow {a b : Nat} (h : a ≤ b) : crC (ssort (chZ N n st a)) ≤ crC (ssort (chZ N n st b)) := cr_subset (ch_subset h)
theorem cr_below (hN : 0 < N) (hN2 : N ≤ 1000) {a : Nat} (h : a ≤ petN N n) : crC (ssort (chZ N n st a)) ≤ crN N n := by
  rw [← star (n := n) (st := st) hN hN2]
  exact cr_grow h
theorem cr_touch {z y : Int} {a b c : Nat} (ha : a < 1000) (hb : b < 1000) (hc : c < 1000) (hz : z = chCode a b) (hy : y = chCode b c) : crossZ z y = false := by
  obtain ⟨e1, e2⟩ := code_parts ha hb
  obtain ⟨e3, e4⟩ := code_parts hb hc
  rw [hz, hy]
  unfold crossZ
  rw [e1, e2, e3, e4]
  cases h : (decide (((min a b : Nat) : Int) < ((min b c : Nat) : Int)) && (decide (((min b c : Nat) : Int) < ((max a b : Nat) : Int)) && decide (((max a b : Nat) : Int) < ((max b c : Nat) : Int))) || decide (((min b c : Nat) : Int) < ((min a b : Nat) : Int)) && (decide (((min a b : Nat) : Int) < ((max b c : Nat) : Int)) && decide (((max b c : Nat) : Int) < ((max a b : Nat) : Int)))) with
  | false => rfl
  | true =>
    simp only [Bool.or_eq_true, Bool.and_eq_true, decide_eq_true_iff] at h
    omega
theorem cr_two_arcs (hN : 0 < N) (hN2 : N ≤ 1000) : crC (ssort (chZ N n 0 2)) = 0 := by
  have l1 := ssort_len_le (chZ N n 0 2)
  have l2 := ch_len (N := N) (n := n) (st := 0) (arcs := 2)
  have mem : ∀ z, z ∈ ssort (chZ N n 0 2) → ∃ i, i < 2 ∧ z = chCode (tpN N n 0 i) (tpN N n 0 (i + 1)) := fun z hz => by
    obtain ⟨i, h1, _, h3⟩ := mem_chZ.mp ((mem_ssort _ _).mp hz)
    exact ⟨i, h1, h3⟩
  have tl : ∀ i, tpN N n 0 i < 1000 := fun i => Nat.lt_of_lt_of_le (tp_lt hN i) hN2
  generalize ssort (chZ N n 0 2) = l at l1 mem
  match l, l1, mem with
  | [], _, _ => rfl
  | [_], _, _ => rfl
  | [z, y], _, mem =>
    have e : crossZ z y = false := by
      obtain ⟨i, hi, ez⟩ := mem z (by simp)
      obtain ⟨k, hk, ey⟩ := mem y (by simp)
      have hi' : i = 0 ∨ i = 1 := by omega
      have hk' : k = 0 ∨ k = 1 := by omega
      rcases hi' with rfl | rfl <;> rcases hk' with rfl | rfl
      · rw [ez, ey]; exact cross_self _
      · exact cr_touch (tl 0) (tl 1) (tl 2) ez ey
      · rw [cross_symm]; exact cr_touch (tl 0) (tl 1) (tl 2) ey ez
      · rw [ez, ey]; exact cross_self _
    show ([y].filter (crossZ z)).length + 0 = 0
    rw [List.filter_cons_of_neg (by rw [e]; simp)]; rfl
  | _ :: _ :: _ :: _, l1, _ => simp at l1; omega
/-! ### the chord that goes on from a tooth -/
def crsBy (N n st t : Nat) : Nat := if t ∈ tipsN N n st (petN N n) ∧ (t + n) % N ≠ t then ((ssort (chZ N n st (petN N n))).filter (crossZ (chCode t ((t + n) % N)))).length else 0
theorem crs_tip (hN : 0 < N) (hN2 : N ≤ 1000) {t : Nat} (ht : t < N) (hm : t ∈ tipsN N n st (petN N n)) : crsBy N n st t = if 2 < petN N n then 2 * (stepN N n - 1) else 0 := by
  have p := pol (n := n) hN
  have hm' := (tips_mem hN ht).mp hm
  unfold crsBy
  by_cases h2 : 2 < petN N n
  · have far : (t + n) % N ≠ t := fun e => by
      have i1 : (0 + t) % N = (n % N + t) % N := by
        rw [Nat.zero_add, Nat.mod_add_mod, Nat.add_comm n t, e, Nat.mod_eq_of_lt ht]
      have := rot_inj hN (Nat.mod_lt n hN) i1
      rw [p.mod] at this
      have := Nat.mul_pos p.g0 (p.q0 (by omega))
      omega
    rw [if_pos h2, if_pos ⟨hm, far⟩, star_cnt hN hN2 ht hm' h2]
  · rw [if_neg h2]
    split
    · rename_i h
      have cl := closed_len (n := n) (st := st) hN hN2
      rw [if_neg h2] at cl
      have mz : chCode t ((t + n) % N) ∈ ssort (chZ N n st (petN N n)) := (mem_ssort _ _).mpr ((mem_closed hN).mpr ⟨t, ht, hm', Ne.symm h.2, rfl⟩)
      generalize ssort (chZ N n st (petN N n)) = l at cl mz
      match l, cl, mz with
      | [], _, mz => cases mz
      | [z], _, mz =>
        rw [List.mem_singleton.mp mz, List.filter_cons_of_neg (by rw [cross_self]; simp)]; rfl
      | _ :: _ :: _, cl, _ => simp at cl; omega
    · rfl
/-! ### a wheel wider by the ring -/
theorem wide_gcd : Nat.gcd N (n + N) = Nat.gcd N n := Nat.gcd_add_self_right N n
theorem wide_pet : petN N (n + N) = petN N n := by unfold petN; rw [wide_gcd]
theorem wide_rnd (hN : 0 < N) : rndN N (n + N) = rndN N n + petN N n := by
  have p := pol (n := n) hN
  have e : n + N = Nat.gcd N n * (rndN N n + petN N n) := by rw [Nat.mul_add, p.hn, p.hN]
  show (n + N) / Nat.gcd N (n + N) = _
  rw [wide_gcd, e, Nat.mul_div_cancel_left _ p.g0]
theorem wide_tp (i : Nat) : tpN N (n + N) st i = tpN N n st i := by
  unfold tpN
  rw [Nat.mul_add, ← Nat.add_assoc, Nat.add_mul_mod_self_right]
theorem wide_ch (a : Nat) : chZ N (n + N) st a = chZ N n st a := by
  unfold chZ
  simp only [wide_tp]
theorem wide_tips (m : Nat) : tipsN N (n + N) st m = tipsN N n st m := by
  apply List.map_congr_left
  intro k _
  exact wide_tp k
theorem wide_step (hN : 0 < N) : stepN N (n + N) = stepN N n := by
  unfold stepN
  rw [wide_pet, wide_rnd hN, Nat.add_mod_right]
end
def Sig_crossed_by : List PyData → Res → Prop := fun ds r => ∃ N n s st t, GOk N n s ∧ st < N ∧ t < N ∧ ds = [gD N n s, .int (st : Nat), .int (t : Nat)] ∧ r = vI (crsBy N n st t : Nat)
end WC

/-! tuples put together; sets of a tuple's ints -/
namespace WC
open PySem PySem.Spec PyProof.Rows L2
section
variable {X : Cx} {ρ : REnv} {M M1 M2 : List MO} {a b e : Expr} {pos p p2 q0 : Pos} {ds es : List PyData}
def rCatT (K : PySem.W.Frag) : R2 := fun x y H Q => ∃ l b xs zs, x = .ref l ∧ y = .ref b ∧ SqT K H l xs ∧ SqT K H b zs ∧ xs ≠ [] ∧ zs ≠ [] ∧ xs.length + zs.length ≤ sizeLine ∧ ∀ p, H p = none → Q (.ref p) (upd H p (.tup (xs ++ zs)))
theorem op_catT : OpR X (binaryOp .Add) (rCatT X.K) := by
  rintro pins s σ H x y v u Q I rx ry ⟨l, b, xs, zs, rfl, rfl, hx, hy, nx, ny, hz, q⟩
  cases rx; cases ry
  obtain ⟨its, r, ⟨⟨cls, dd, data, sl⟩, ho, hc, n, hd⟩, _⟩ := I.tuple hx
  obtain ⟨its2, r2, ⟨⟨cls2, dd2, data2, sl2⟩, ho2, hc2, n2, hd2⟩, _⟩ := I.tuple hy
  simp only at hc hd hc2 hd2; subst hc hd hc2 hd2
  have l1 := r.length; have l2 := r2.length
  have e1 : its ≠ [] := fun z => nx (List.eq_nil_of_length_eq_zero (by rw [l1, z]; rfl))
  have e2 : its2 ≠ [] := fun z => ny (List.eq_nil_of_length_eq_zero (by rw [l2, z]; rfl))
  refine concat_meets ⟨_, ho, rfl⟩ ⟨_, ho2, rfl⟩ noFill_tuple_add seq_tuple_add PySem.F.slot_tuple_add PySem.F.entry_tuple_add (PySem.F.args_tuple_add_2 _ _) (tuple_addW2 l b its.toArray its2.toArray n n2 dd dd2 sl sl2 (by simpa using e1) (by simpa using e2) (by rw [List.size_toArray, List.size_toArray]; omega)) ⟨ho, ho2, ?_⟩
  rw [show its.toArray ++ its2.toArray = (its ++ its2).toArray by simp]
  exact ⟨.ref s.heap.objs.size, upd H s.heap.objs.size (.tup (xs ++ zs)), I.laid (t' := s.toks) (fun b u e => Heap.get?_push_of_some _ e) (Nat.le_refl _) ⟨by rw [List.length_append]; exact hz, its ++ its2, r.append r2, ⟨_, Heap.get?_push_size _ rfl, rfl, _, rfl⟩⟩, rfl, q _ (I.hok.fresh (Nat.le_refl _))⟩
theorem ed_catT (ha : ED X ρ M a (.d (.tuple ds)) M1) (hb : ED X ρ M1 b (.d (.tuple es)) M2) (h1 : ds ≠ []) (h2 : es ≠ []) (hz : ds.length + es.length ≤ 100000) : ED X ρ M (.BinOp a .Add b pos) (.d (.tuple (ds ++ es))) M2 :=
  ed_bin op_catT ha hb fun As F H v1 v2 Q m o1 o2 q => by
    obtain ⟨p, xs, rfl, hp, hd⟩ := Dv.tup_of (show Dv F v1 (.tuple ds) from o1)
    obtain ⟨p2, ys, rfl, hp2, hd2⟩ := Dv.tup_of (show Dv F v2 (.tuple es) from o2)
    have l1 := hd.length; have l2 := hd2.length
    refine ⟨p, p2, xs, ys, rfl, rfl, SqT.of (m.ex _ _ hp), SqT.of (m.ex _ _ hp2), fun z => h1 (List.eq_nil_of_length_eq_zero (by rw [← l1, z]; rfl)), fun z => h2 (List.eq_nil_of_length_eq_zero (by rw [← l2, z]; rfl)), by rw [l1, l2]; exact Evl.sz_of hz, fun n hn => ?_⟩
    obtain ⟨s2, m2⟩ := newF m hn (.tup (xs ++ ys))
    exact q _ _ _ _ s2 m2 (.tup upd_same ((hd.append hd2).mono s2.fe))
end
section
variable {P : Program} {w : World} {A : Around} {E : Value → Shared → Prop} {s : Shared} {a : Addr}
theorem set_tupI {l : Addr} {items : Array Value} (zs : List Int) {Q : Value → Shared → Prop} (hnd : A.handled = none) (hL : s.heap.IsTuple l items) (hi : IntsAre items.toList zs) (hbd : zs.length + 1 < scanBound)
    (fin : ∀ (h' : Heap) (tk c : Nat), SetR w h' s.heap.objs.size (fun j => decide (j ∈ zs)) c → c ≤ zs.length → (∀ b o, s.heap.get? b = some o → h'.get? b = some o) → Q (.ref s.heap.objs.size) { s with heap := h', toks := tk }) :
    wpAny (model P w) A (call (.type "set") [.ref l]) Q E s := by
  have hsize : items.size = zs.length := by have q := hi.length; rw [Array.length_toList] at q; exact q
  obtain ⟨c, tl, hm1⟩ := F.called_set.mro; have hm2 := F.called_set.made; have hm3 := F.called_set.sub
  refine wpAny_call (codeAny_of_tree ?_); show wpAny _ _ (callAny (.type "set") _) _ _ _
  refine wpAny_pure ⟨Code.quiet_builtin _ (by decide +kernel), codeAny_builtin F.entry_type_call ?_⟩; rw [Around.under_plain (weight_type_call_type "set" [.ref l] []) rfl]
  have hn1 := F.called_set.notType; have hn2 := F.called_set.canCreate; have hn3 := F.typeCall_set_1 (.ref l)
  repeat (any_goals (first | assumption | wp_step))
  refine codeAny_mono (code_set_led1 (.ref l) (E := E) (Q₁ := fun obj s₁ => obj = .ref s.heap.objs.size ∧ s₁ = { s with heap := s.heap.push (nSet w) }) ⟨rfl, rfl⟩) fun r s₁ hr => ?_
  match r, hr with
  | .error e, hr => exact hr
  | .ok (.ret obj), hr =>
    obtain ⟨rfl, rfl⟩ := hr
    have o1 : (s.heap.push (nSet w)).get? s.heap.objs.size = some (nSet w) := Heap.get?_push_size _ rfl
    have o2 : Shared.TypeIs { s with heap := s.heap.push (nSet w) } (.ref s.heap.objs.size) "set" := ⟨_, o1, rfl⟩
    have o3 := F.called_set.init.lookup; have o4 := F.called_set.init.bind (.ref s.heap.objs.size)
    repeat (any_goals (first | assumption | wp_step))
    refine codeAny_mono (codeAny_call_builtin (R := wants (fun r s₂ => r = .none ∧ ∃ h' tk c, s₂ = { s with heap := h', toks := tk } ∧ SetR w h' s.heap.objs.size (fun j => decide (j ∈ zs)) c ∧ c ≤ zs.length ∧ (∀ b o, s.heap.get? b = some o → h'.get? b = some o)) E) F.called_set.init.plain F.entry_set_init (check_set_init_1 o2 ?_)) fun r2 s2 hr2 => ?_
    · obtain ⟨⟨oc, odict, odat, osl⟩, hol, e1, nl, e2⟩ := hL; simp only at e1 e2; subst e1; subst e2
      have hol2 : (s.heap.push (nSet w)).get? l = some { cls := .type "tuple", dict := odict, data := .seq items nl, slots := osl } := Heap.get?_push_of_some _ hol
      have q1 := F.sub_tuple_set; have q2 := F.sub_tuple_frozenset
      have q3 : (Value.type "tuple" == Value.type "dict") = false := by decide
      have hL1 : (s.heap.push (nSet w)).IsTuple l items := ⟨_, hol2, rfl, nl, rfl⟩
      unfold Builtin.«set.__init__» noKeywords Builtin.Frozenset.updateFrom; generalize hPI : pyIter = PI
      wp_walk; subst hPI; refine wpAny_pyIter_tuple hL1 ?_; refine wpAny_bind (wpAny_runValue ?_)
      have lS : l < s.heap.objs.size := Heap.lt_size hol; have hn4 : A.in1.in1.in1.handled = none := by simp [hnd]
      have lI : l ≠ (s.heap.push (nSet w)).objs.size := by rw [Heap.size_push]; exact Nat.ne_of_lt (Nat.lt_succ_of_lt lS)
      have SI : s.heap.objs.size ∉ [(s.heap.push (nSet w)).objs.size, l] := by
        rw [Heap.size_push]; intro z; simp at z; exact absurd z (Nat.ne_of_gt lS)
      refine set_update_ints ((Walks.tuple hn4 _ l lI items).toS) s.heap.objs.size SI zs hsize hbd (fun i v hv => ?_) (items.size - 0) 0 _ (by omega) (Nat.zero_le _) ⟨⟨_, Heap.get?_push_size _ rfl, rfl, rfl⟩, (hL1.push _)⟩ ?_ ?_
      · have hlt : i < zs.length := by rw [← hsize]; exact (Array.getElem?_eq_some_iff.mp hv).1
        obtain ⟨t, e⟩ := IntsAre.int_at hi i v (by rw [Array.getElem?_toList]; exact hv)
        exact ⟨zs[i], t, List.getElem?_eq_getElem hlt, by rw [e, List.getD_eq_getElem?_getD, List.getElem?_eq_getElem hlt]; rfl⟩
      · exact ⟨0, Nat.le_refl 0, setR_new_at (Heap.get?_push_of_some _ o1)⟩
      · rintro ⟨h', g2, d2, tk2, os2⟩ c2 hm hc2 hS2
        obtain rfl : g2 = s.gens := hm.gens; obtain rfl : d2 = s.drawn := hm.drawn; obtain rfl : os2 = s.os := hm.os
        show wpAny _ _ _ _ _ _; refine wpAny_pure ?_; show wpAny _ _ (ret Value.none) _ _ _; rw [hsize] at hc2
        refine wpAny_pure ⟨rfl, h', tk2, c2, rfl, hS2, hc2, fun b o e => hm.heap b o ?_ (Heap.get?_push_of_some _ (Heap.get?_push_of_some _ e))⟩
        have b0 : b < s.heap.objs.size := Heap.lt_size e
        intro z; rw [Heap.size_push] at z; simp at z; rcases z with z | z
        · exact absurd z (Nat.ne_of_lt b0)
        · exact absurd z (Nat.ne_of_lt (Nat.lt_succ_of_lt b0))
    · match r2, hr2 with
      | .error e, hr2 => exact hr2
      | .ok (.ret r), hr2 =>
        obtain ⟨rfl, h', tk, c2, rfl, z1, z2, z3⟩ := hr2
        repeat (any_goals (first | assumption | wp_step))
        exact fin _ _ _ z1 z2 z3
end
section
variable {X : Cx} {ρ : REnv} {M M1 : List MO} {e : Expr} {pos p p2 q : Pos} {ns : List Int}
def tCountTup (K : PySem.W.Frag) (ta : TE) : TE := fun σ H Q => ta σ H fun x H1 => ∃ (l : Addr) (ns : List Int), x = V.ref l ∧ SqT K H1 l (ns.map V.int) ∧ ns.length < 4000 ∧ Q (.int (ssort ns).length) H1
theorem pe_countTup {ta : TE} (hc : X.calm = true) (hg : Gl X "len") (hm : X.mg "len" = none) (hg2 : Gl X "set") (hm2 : X.mg "set" = none) (he : PE X e ta) (na : starEach [e] X.env = (false, eval e X.env) :: starEach [] X.env := by rfl) :
    PE X (.Call (.Name "len" p) [.Call (.Name "set" p2) [e] [] q] [] pos) (tCountTup X.K ta) := by
  refine ⟨fun pins s σ H Q I h => Call_ (ld_blt I hg hm (show bootBuiltins "len" = some (.builtin "len") by decide +kernel) ?_)⟩
  refine callWith_builtin1 (args_cons (Call_ (ld_blt I hg2 hm2 boot_set ?_)) rfl) rfl rfl
  refine callWith_type1 (args_cons (thn (he.run pins s σ H _ I h) fun v s1 ⟨x, H1, I1, r1, l, ns, ex, hq, hl, q1⟩ => args_nil ?_) na) na rfl
  subst ex; cases r1
  obtain ⟨its, rv, pl, hz⟩ := I1.tuple hq
  refine set_tupI ns (I1.ok.hd hc) pl (by simpa using rv.ints) (by have : scanBound = 4096 := rfl; omega) fun h' tk c hS hcl hk => args_nil ?_
  have I2 : Inv X pins σ H1 { s1 with heap := h', toks := tk } := I1.kept hk
  obtain ⟨o, es, ep, t, ho, hex, hd, hgood, hnd, hmem, hb, hf, hn, _, _⟩ := hS
  have e1 : es.size = (ssort ns).length := by
    have pm : (es.toList.map keyOf).Perm (ssort ns) := by
      refine (List.perm_ext_iff_of_nodup hnd ((asc_ssort ns).imp fun h => by omega)).mpr fun k => ?_
      rw [mem_ssort, ← hmem k]; simp
    rw [← pm.length_eq, List.length_map, Array.length_toList]
  refine call_len_set ho hex hd hf (by have := fits_of_scanBound hb; omega) ⟨.int (ssort ns).length, H1, I2.tok _, ⟨_, by rw [e1]⟩, q1⟩
theorem ed_countTup (hm : X.mg "len" = none) (hm2 : X.mg "set" = none) (h : ED X ρ M e (.d (.tuple (ns.map .int))) M1) (hn : ns.length < 4000) (hc : X.calm = true := by rfl) (hg : Gl X "len" := by rfl) (hg2 : Gl X "set" := by rfl)
    (na : starEach [e] X.env = (false, eval e X.env) :: starEach [] X.env := by rfl) : ED X ρ M (.Call (.Name "len" p) [.Call (.Name "set" p2) [e] [] q] [] pos) (.d (.int (ssort ns).length)) M1 := fun As σ F H hM hE Q q =>
  ⟨_, pe_countTup hc hg hm hg2 hm2 (pe_w X e) na, h As σ F H hM hE _ fun v As1 F1 H1 s1 m1 o1 => by
    obtain ⟨l, xs, rfl, k1, k2⟩ := Dv.tup_of (show Dv F1 v (.tuple (ns.map .int)) from o1)
    rw [k2.ints_of] at k1
    exact ⟨l, ns, rfl, SqT.of (m1.ex _ _ k1), hn, q _ _ _ _ s1 m1 (.int _)⟩⟩
end
end WC

/-! chords, counted by the law -/
namespace WC
open PySem L2
theorem ss3 {a b c d : Int} (h : a = c ∨ a = d ∨ b = c ∨ b = d) : (ssort [a, b, c, d]).length < 4 := by
  have key : ∀ x y z : Int, (ssort [x, y, z]).length < 4 := fun x y z => Nat.lt_of_le_of_lt (ssort_len_le _) (by simp)
  rcases h with rfl | rfl | rfl | rfl
  · rw [ssort_congr (m := [a, b, d]) (fun k => by simp only [List.mem_cons, List.not_mem_nil, or_false]; omega)]; exact key _ _ _
  · rw [ssort_congr (m := [a, b, c]) (fun k => by simp only [List.mem_cons, List.not_mem_nil, or_false]; omega)]; exact key _ _ _
  · rw [ssort_congr (m := [a, b, d]) (fun k => by simp only [List.mem_cons, List.not_mem_nil, or_false]; omega)]; exact key _ _ _
  · rw [ssort_congr (m := [a, b, c]) (fun k => by simp only [List.mem_cons, List.not_mem_nil, or_false]; omega)]; exact key _ _ _
theorem ss4 {a b c d : Int} (h1 : a < b) (h2 : c < d) (h : ¬ (a = c ∨ a = d ∨ b = c ∨ b = d)) : (ssort [a, b, c, d]).length = 4 := by
  have nd : ([a, b, c, d] : List Int).Nodup := by
    simp only [List.nodup_cons, List.mem_cons, List.not_mem_nil, or_false, not_or, List.nodup_nil, and_true, not_false_eq_true]
    omega
  have := ssort_nodup_len nd
  simpa using this
/-- how many of c, d lie between -/
def inB (a b c d : Int) : List Int := gathI 2 (fun i => decide (a < [c, d].getD i 0) && decide ([c, d].getD i 0 < b)) (fun i => [c, d].getD i 0)
theorem in_len (a b c d : Int) : (inB a b c d).length = (if a < c ∧ c < b then 1 else 0) + (if a < d ∧ d < b then 1 else 0) := by
  unfold inB gathI
  rw [List.length_map, show List.range 2 = [0, 1] from rfl]
  simp only [List.filter_cons, List.filter_nil, List.getD_cons_zero, List.getD_cons_succ]
  by_cases h1 : a < c ∧ c < b <;> by_cases h2 : a < d ∧ d < b <;> simp [h1, h2]
theorem law_cross {z y : Int} (hz : z / 1000 < z % 1000) (hy : y / 1000 < y % 1000) (hd : ¬ (z / 1000 = y / 1000 ∨ z / 1000 = y % 1000 ∨ z % 1000 = y / 1000 ∨ z % 1000 = y % 1000)) : decide (((inB (z / 1000) (z % 1000) (y / 1000) (y % 1000)).length : Int) = 1) = crossZ z y := by
  rw [in_len, Bool.eq_iff_iff]
  unfold crossZ
  simp only [decide_eq_true_iff, Bool.or_eq_true, Bool.and_eq_true]
  generalize z / 1000 = a at *
  generalize z % 1000 = b at *
  generalize y / 1000 = c at *
  generalize y % 1000 = d at *
  split <;> split <;> omega
theorem no_cross {z y : Int} (hd : z / 1000 = y / 1000 ∨ z / 1000 = y % 1000 ∨ z % 1000 = y / 1000 ∨ z % 1000 = y % 1000) : crossZ z y = false := by
  cases h : crossZ z y with
  | false => rfl
  | true =>
    unfold crossZ at h
    simp only [decide_eq_true_iff, Bool.or_eq_true, Bool.and_eq_true] at h
    generalize z / 1000 = a at *
    generalize z % 1000 = b at *
    generalize y / 1000 = c at *
    generalize y % 1000 = d at *
    omega
theorem cr_snoc (m : List Int) (z : Int) : crC (m ++ [z]) = crC m + (m.filter (crossZ z)).length := by
  rw [cr_perm (List.perm_append_singleton z m)]
  show (m.filter (crossZ z)).length + crC m = _
  omega
theorem cr_take {l : List Int} {i : Nat} (hi : i < l.length) : crC (l.take (i + 1)) = crC (l.take i) + ((l.take i).filter (crossZ (l.getD i 0))).length := by
  rw [List.take_succ, List.getElem?_eq_getElem hi, show (some l[i]).toList = [l[i]] from rfl, cr_snoc, List.getD_eq_getElem?_getD, List.getElem?_eq_getElem hi]; rfl
section
variable {N n st arcs : Nat}
theorem ch_up (hN : 0 < N) (hN2 : N ≤ 1000) {z : Int} (hz : z ∈ ssort (chZ N n st arcs)) : z / 1000 < z % 1000 := by
  obtain ⟨a, b, ha, hb, hab, rfl⟩ := ch_mem2 hN ((mem_ssort _ _).mp hz)
  obtain ⟨e1, e2⟩ := code_parts (x := a) (y := b) (by omega) (by omega)
  rw [e1, e2]
  omega
theorem ch_gath2 (hN : 0 < N) (hN2 : N ≤ 1000) : gath arcs (fun i => !decide (((tpN N n st i : Nat) : Int) = ((tpN N n st (i + 1) : Nat) : Int))) (fun i => .tuple [.int (min ((tpN N n st i : Nat) : Int) ((tpN N n st (i + 1) : Nat) : Int)), .int (max ((tpN N n st i : Nat) : Int) ((tpN N n st (i + 1) : Nat) : Int))]) = (chZ N n st arcs).map prC := by
  unfold gath chZ gathI
  rw [List.map_map]
  refine List.map_congr_left fun i hi => ?_
  have h1 := tp_lt (n := n) (st := st) hN i
  have h2 := tp_lt (n := n) (st := st) hN (i + 1)
  show _ = prC (chCode _ _)
  rw [prC_code (by omega) (by omega)]
theorem ring_ss (hN : 0 < N) : ssort (intsI (tipsN N n st (petN N n + 1))) = isort (intsI (tipsN N n st (petN N n))) := by
  symm
  have nd := tips_nodup (n := n) hN st (Nat.le_refl _)
  rw [isort_asc (by unfold intsI; unfold List.Nodup; rw [List.pairwise_map]; exact nd.imp fun h => by omega)]
  apply ssort_congr
  intro k
  constructor
  · intro h
    obtain ⟨x, hx, rfl⟩ := List.mem_map.mp h
    exact mem_intsI.mpr ((tips_more_mem hN (Nat.le_succ _)).mpr hx)
  · intro h
    obtain ⟨x, hx, rfl⟩ := List.mem_map.mp h
    exact mem_intsI.mpr ((tips_more_mem hN (Nat.le_succ _)).mp hx)
/-- the first two tips along the ring -/
theorem first_two (hN : 0 < N) (hN2 : N ≤ 1000) (hst : st < N) (h : 1 < petN N n) : ∃ a b, a < petN N n ∧ b < petN N n ∧ tpN N n st 0 = st % Nat.gcd N n + Nat.gcd N n * a ∧ tpN N n st 1 = st % Nat.gcd N n + Nat.gcd N n * b ∧ min (((b : Int) - (a : Int)).natAbs : Int) ((petN N n : Int) - (((b : Int) - (a : Int)).natAbs : Int)) = (stepN N n : Int) := by
  have p := pol (n := n) hN
  have ne : tpN N n st 0 ≠ tpN N n st 1 := fun e => by
    rw [show tpN N n st 1 = (tpN N n st 0 + n) % N from tp_next 0] at e
    have t0 := tp_lt (n := n) (st := st) hN 0
    have i1 : (0 + tpN N n st 0) % N = (n % N + tpN N n st 0) % N := by
      rw [Nat.zero_add, Nat.mod_add_mod, Nat.add_comm n, ← e, Nat.mod_eq_of_lt t0]
    have := rot_inj hN (Nat.mod_lt n hN) i1
    rw [p.mod] at this
    have := Nat.mul_pos p.g0 (p.q0 h)
    omega
  have t0 := tp_lt (n := n) (st := st) hN 0
  have t1 := tp_lt (n := n) (st := st) hN 1
  obtain ⟨a, b, hab, hb, e1, e2, e3⟩ := chord_ends hN hN2 (mem_chZ.mpr ⟨0, by omega, ne, rfl⟩)
  obtain ⟨c1, c2⟩ := code_parts (x := tpN N n st 0) (y := tpN N n st 1) (by omega) (by omega)
  rw [c1] at e1
  rw [c2] at e2
  rcases Nat.lt_or_ge (tpN N n st 0) (tpN N n st 1) with z | z
  · exact ⟨a, b, by omega, hb, by omega, by omega, by omega⟩
  · exact ⟨b, a, hb, by omega, by omega, by omega, by omega⟩
theorem step_one (hN : 0 < N) (h : petN N n = 1) : stepN N n = 0 := by
  have p := pol (n := n) hN
  have := p.qW
  unfold stepN
  omega
theorem many_all (hN : 0 < N) (hN2 : N ≤ 1000) {t : Nat} (ht : t < N) (hm : t ∈ tipsN N n st (petN N n)) : crsBy N n st t * (ssort (chZ N n st (petN N n))).length = 2 * crN N n := by
  rw [crs_tip hN hN2 ht hm, closed_len hN hN2]
  by_cases h2 : 2 < petN N n
  · rw [if_pos h2, if_pos h2, crN_big hN h2, Nat.mul_assoc, Nat.mul_comm (stepN N n - 1)]
  · rw [if_neg h2, crN_small hN (by omega), Nat.zero_mul]
end
def Sig_law_cross : List PyData → Res → Prop := fun ds r => ∃ z y : Int, z / 1000 < z % 1000 ∧ y / 1000 < y % 1000 ∧ ds = [prC z, prC y] ∧ r = vB (crossZ z y)
def Sig_law_pairs : List PyData → Res → Prop := fun ds r => ∃ l : List Int, l.length ≤ 300 ∧ (∀ z ∈ l, z / 1000 < z % 1000) ∧ ds = [.list (l.map prC)] ∧ r = vI (crC l : Nat)
end WC

namespace K06
open PySem L2 WC
def topS (i : Nat) : Stmt := PySem.Challenge.pw_wheelcurves_k06_whole_chords.main.body.getD i (.Pass ⟨0, 0, 0, 0⟩)
abbrev s_is_int : Stmt := topS 5
theorem sc_is_int : FnScope ["value", "low", "high"] ["value", "low", "high"] (defScope s_is_int) := ⟨rfl, rfl, rfl, by decide +kernel, rfl, by decide +kernel, by decide +kernel⟩
abbrev s_common : Stmt := topS 6
theorem sc_common : FnScope ["one", "other"] ["one", "other"] (defScope s_common) := ⟨rfl, rfl, rfl, by decide +kernel, rfl, by decide +kernel, by decide +kernel⟩
abbrev s_is_gear : Stmt := topS 7
theorem sc_is_gear : FnScope ["value"] ["value"] (defScope s_is_gear) := ⟨rfl, rfl, rfl, by decide +kernel, rfl, by decide +kernel, by decide +kernel⟩
abbrev s_check_gear : Stmt := topS 8
theorem sc_check_gear : FnScope ["value"] ["value"] (defScope s_check_gear) := ⟨rfl, rfl, rfl, by decide +kernel, rfl, by decide +kernel, by decide +kernel⟩
abbrev s_check_tooth : Stmt := topS 9
theorem sc_check_tooth : FnScope ["gear", "value"] ["gear", "value"] (defScope s_check_tooth) := ⟨rfl, rfl, rfl, by decide +kernel, rfl, by decide +kernel, by decide +kernel⟩
abbrev s_check_arcs : Stmt := topS 10
theorem sc_check_arcs : FnScope ["value"] ["value"] (defScope s_check_arcs) := ⟨rfl, rfl, rfl, by decide +kernel, rfl, by decide +kernel, by decide +kernel⟩
abbrev s_shared_of : Stmt := topS 12
theorem sc_shared_of : FnScope ["gear"] ["gear"] (defScope s_shared_of) := ⟨rfl, rfl, rfl, by decide +kernel, rfl, by decide +kernel, by decide +kernel⟩
abbrev s_petals_of : Stmt := topS 13
theorem sc_petals_of : FnScope ["gear"] ["gear"] (defScope s_petals_of) := ⟨rfl, rfl, rfl, by decide +kernel, rfl, by decide +kernel, by decide +kernel⟩
abbrev s_petals : Stmt := topS 14
theorem sc_petals : FnScope ["gear"] ["gear"] (defScope s_petals) := ⟨rfl, rfl, rfl, by decide +kernel, rfl, by decide +kernel, by decide +kernel⟩
abbrev s_rounds_of : Stmt := topS 15
theorem sc_rounds_of : FnScope ["gear"] ["gear"] (defScope s_rounds_of) := ⟨rfl, rfl, rfl, by decide +kernel, rfl, by decide +kernel, by decide +kernel⟩
abbrev s_tips_of : Stmt := topS 17
theorem sc_tips_of : FnScope ["gear", "start", "many", "k"] ["gear", "start", "many"] (defScope s_tips_of) := ⟨rfl, rfl, rfl, by decide +kernel, rfl, by decide +kernel, by decide +kernel⟩
abbrev s_chord_step : Stmt := topS 19
theorem sc_chord_step : FnScope ["gear", "whole", "step"] ["gear"] (defScope s_chord_step) := ⟨rfl, rfl, rfl, by decide +kernel, rfl, by decide +kernel, by decide +kernel⟩
abbrev s_chords_of : Stmt := topS 20
theorem sc_chords_of : FnScope ["gear", "start", "arcs", "line", "one", "other"] ["gear", "start", "arcs"] (defScope s_chords_of) := ⟨rfl, rfl, rfl, by decide +kernel, rfl, by decide +kernel, by decide +kernel⟩
abbrev s_chords : Stmt := topS 21
theorem sc_chords : FnScope ["gear", "start", "arcs"] ["gear", "start", "arcs"] (defScope s_chords) := ⟨rfl, rfl, rfl, by decide +kernel, rfl, by decide +kernel, by decide +kernel⟩
abbrev s_cross : Stmt := topS 22
theorem sc_cross : FnScope ["one", "other"] ["one", "other"] (defScope s_cross) := ⟨rfl, rfl, rfl, by decide +kernel, rfl, by decide +kernel, by decide +kernel⟩
abbrev s_crossings_after : Stmt := topS 23
theorem sc_crossings_after : FnScope ["gear", "arcs", "found", "k", "one", "other"] ["gear", "arcs"] (defScope s_crossings_after) := ⟨rfl, rfl, rfl, by decide +kernel, rfl, by decide +kernel, by decide +kernel⟩
abbrev s_crossings : Stmt := topS 24
theorem sc_crossings : FnScope ["gear", "whole", "step"] ["gear"] (defScope s_crossings) := ⟨rfl, rfl, rfl, by decide +kernel, rfl, by decide +kernel, by decide +kernel⟩
abbrev s_crossed_by : Stmt := topS 25
theorem sc_crossed_by : FnScope ["gear", "start", "tooth", "far", "own", "one"] ["gear", "start", "tooth"] (defScope s_crossed_by) := ⟨rfl, rfl, rfl, by decide +kernel, rfl, by decide +kernel, by decide +kernel⟩
abbrev s_law_start : Stmt := topS 27
theorem sc_law_start : FnScope ["script"] ["script"] (defScope s_law_start) := ⟨rfl, rfl, rfl, by decide +kernel, rfl, by decide +kernel, by decide +kernel⟩
abbrev s_law_draw : Stmt := topS 28
theorem sc_law_draw : FnScope ["draws", "limit", "numbers", "at", "cell", "mixed"] ["draws", "limit"] (defScope s_law_draw) := ⟨rfl, rfl, rfl, by decide +kernel, rfl, by decide +kernel, by decide +kernel⟩
abbrev s_law_pick : Stmt := topS 29
theorem sc_law_pick : FnScope ["draws", "choices"] ["draws", "choices"] (defScope s_law_pick) := ⟨rfl, rfl, rfl, by decide +kernel, rfl, by decide +kernel, by decide +kernel⟩
abbrev s_law_gear : Stmt := topS 30
theorem sc_law_gear : FnScope ["draws", "wide", "side", "ring", "wheel"] ["draws"] (defScope s_law_gear) := ⟨rfl, rfl, rfl, by decide +kernel, rfl, by decide +kernel, by decide +kernel⟩
abbrev s_law_line : Stmt := topS 31
theorem sc_law_line : FnScope ["gear", "start", "arcs", "found", "turn"] ["gear", "start", "arcs"] (defScope s_law_line) := ⟨rfl, rfl, rfl, by decide +kernel, rfl, by decide +kernel, by decide +kernel⟩
abbrev s_law_cross : Stmt := topS 32
theorem sc_law_cross : FnScope ["one", "other", "tooth"] ["one", "other"] (defScope s_law_cross) := ⟨rfl, rfl, rfl, by decide +kernel, rfl, by decide +kernel, by decide +kernel⟩
abbrev s_law_pairs : Stmt := topS 33
theorem sc_law_pairs : FnScope ["some", "found", "k", "other"] ["some"] (defScope s_law_pairs) := ⟨rfl, rfl, rfl, by decide +kernel, rfl, by decide +kernel, by decide +kernel⟩
abbrev s_law : Stmt := topS 34
theorem sc_law : FnScope ["script", "draws", "gear", "start", "arcs", "line", "due", "whole", "every", "tooth", "far", "many", "ring", "apart", "k", "other"] ["script"] (defScope s_law) := ⟨rfl, rfl, rfl, by decide +kernel, rfl, by decide +kernel, by decide +kernel⟩
section
variable {P : Program} {w : World} {K : PySem.W.Frag} {mg : Str → Option Value} {base : Heap}
theorem ok_is_int (F : FunAt K mg "is_int" "is_int" s_is_int) (B_isinstance : mg "isinstance" = none) (B_int : mg "int" = none) (B_bool : mg "bool" = none) : Fn P w K mg base "is_int" 1 ["value", "low", "high"] Sig_is_int := by
  refine fn_mk F sc_is_int (fun _ _ _ _ _ _ us hl => match us, hl with | [_, _, _], _ => rfl) (by rintro ds r ⟨v, lo, hi, rfl, rfl⟩; rfl) ?_
  rintro f cdv A outer s H E hr ds r ⟨v, lo, hi, rfl, rfl⟩
  refine .inl ⟨[], sd_one (sd_ret ?_)⟩
  cases v with
  | int i =>
    exact ed_conv (ed_andB (ed_isInt B_isinstance B_int (ed_var (i := 0))) fun _ => ed_andB (ed_not (ed_isBool B_isinstance B_bool (ed_var (i := 0)))) fun _ => ed_one (ed_chain (ed_var (i := 1)) (ed_var (i := 0)) (ed_var (i := 2)) cd_le cd_le)) rfl
  | bool b =>
    exact ed_conv (ed_andB (ed_isInt B_isinstance B_int (ed_var (i := 0))) fun _ => ed_andB (k2 := false) (ed_not (ed_isBool B_isinstance B_bool (ed_var (i := 0)))) fun z => absurd z (by simp [dBool])) rfl
  | _ => exact ed_conv (ed_andB (k2 := false) (ed_isInt B_isinstance B_int (ed_var (i := 0))) fun z => absurd z (by simp [dInt])) rfl

theorem ok_common (F : FunAt K mg "common" "common" s_common) : Fn P w K mg base "common" 1 ["one", "other"] Sig_common := by
  refine fn_mk F sc_common (fun _ _ _ _ _ _ us hl => match us, hl with | [_, _], _ => rfl) (by rintro ds r ⟨v, lo, rfl, rfl⟩; rfl) ?_
  rintro f cdv A outer s H E hr ds r ⟨a, b, rfl, rfl⟩
  refine .inl ⟨[], sd_cons (sd_wh (ρ' := [some (.d (.int (Nat.gcd a b : Nat))), some (.d (.int (0 : Nat)))]) (M' := []) ?_ (passes_of rfl)) (sd_rt (sd_ret (ed_var (i := 0))))⟩
  suffices h : ∀ b a : Nat, WH _ E _ _ [some (.d (.int a)), some (.d (.int b))] [] [some (.d (.int (Nat.gcd a b : Nat))), some (.d (.int (0 : Nat)))] [] from h b a
  intro b
  induction b using Nat.strongRecOn with
  | ind b ih =>
    intro a
    by_cases hb : b = 0
    · subst hb
      rw [Nat.gcd_zero_right]
      exact .stop (bt_conv (bt_cmpD (ed_var (i := 1)) ed_int cd_neI (nomark _)) rfl)
    · refine .turn (bt_conv (bt_cmpD (ed_var (i := 1)) ed_int cd_neI (nomark _)) ?_) (sd_one (sd_par sc_common.nd (i := 0) (j := 1) (ad_cons (ed_var (i := 1)) (ad_cons (ed_mod (ed_var (i := 0)) (ed_var (i := 1)) (by omega)) ad_nil)))) ?_
      · rw [decide_eq_false (by omega)]; rfl
      · have := ih (a % b) (Nat.mod_lt _ (by omega)) b
        rw [Nat.gcd_comm b (a % b), ← Nat.gcd_rec] at this
        rw [Nat.gcd_comm a b]
        exact this

theorem ok_is_gear (F : FunAt K mg "is_gear" "is_gear" s_is_gear) (G_is_int : Fn P w K mg base "is_int" 1 ["value", "low", "high"] Sig_is_int) (B_isinstance : mg "isinstance" = none) (B_tuple : mg "tuple" = none) (B_str : mg "str" = none) (B_len : mg "len" = none) : Fn P w K mg base "is_gear" 2 ["value"] Sig_is_gear := by
  refine fn_mk F sc_is_gear (fun _ _ _ _ _ _ us hl => match us, hl with | [_], _ => rfl) (by rintro ds r ⟨v, rfl, rfl⟩; rfl) ?_
  rintro f cdv A outer s H E hr ds r ⟨v, rfl, rfl⟩
  refine .inl ⟨[], ?_⟩
  have notup : dTup v = false → isGearB v = false := fun h => by cases v <;> first | rfl | cases h
  by_cases h1 : dTup v = true
  · obtain ⟨xs, rfl⟩ : ∃ xs, v = .tuple xs := by cases v <;> first | exact ⟨_, rfl⟩ | cases h1
    by_cases h2 : xs.length = 3
    · match xs, h2 with
      | [a, b, c], _ =>
        refine sd_ifEF (bt_conv (bw_bt (bw_orB (bt_not (bt_val (ed_isTup B_isinstance B_tuple (ed_var (i := 0))))) fun _ => (bw_or1 (bt_cmpD (ed_lenT rfl B_len (ed_var (i := 0))) ed_int cd_neI (nomark _))))) rfl) ?_
        cases h3 : (isIntB a 3 150 && isIntB b 2 150) with
        | false =>
          refine sd_ifET (bt_conv (bw_bt (bw_orB (bt_not (bt_val (ed_call (ds := [_, _, _]) G_is_int (hr.mono (by decide)) (ad_cons (ed_ixT (ed_var (i := 0)) ed_int) (ad_cons ed_int (ad_cons ed_int ad_nil))) ⟨_, _, _, rfl, rfl⟩))) fun _ => (bw_or1 (bt_not (bt_val (ed_call (ds := [_, _, _]) G_is_int (hr.mono (by decide)) (ad_cons (ed_ixT (ed_var (i := 0)) ed_int) (ad_cons ed_int (ad_cons ed_int ad_nil))) ⟨_, _, _, rfl, rfl⟩)))))) (by
            cases q1 : isIntB a 3 150 <;> cases q2 : isIntB b 2 150 <;> simp [q1, q2] at h3 ⊢)) (sd_rt (sd_ret (ed_conv ed_bl (by simp [isGearB, h3]))))
        | true =>
          have h4 := Bool.and_eq_true_iff.mp h3
          refine sd_ifEF (bt_conv (bw_bt (bw_orB (bt_not (bt_val (ed_call (ds := [_, _, _]) G_is_int (hr.mono (by decide)) (ad_cons (ed_ixT (ed_var (i := 0)) ed_int) (ad_cons ed_int (ad_cons ed_int ad_nil))) ⟨_, _, _, rfl, rfl⟩))) fun _ => (bw_or1 (bt_not (bt_val (ed_call (ds := [_, _, _]) G_is_int (hr.mono (by decide)) (ad_cons (ed_ixT (ed_var (i := 0)) ed_int) (ad_cons ed_int (ad_cons ed_int ad_nil))) ⟨_, _, _, rfl, rfl⟩)))))) (by rw [h4.1, h4.2]; rfl)) ?_
          cases c with
          | str z =>
            refine sd_ifE (k := !isSideB (.str z)) (bt_conv (bw_bt (bw_orB (bt_not (bt_val (ed_isStr B_isinstance B_str (ed_ixT (ed_var (i := 0)) ed_int)))) fun _ => (bw_or1 (bt_cmpD (ed_ixT (ed_var (i := 0)) ed_int) (ed_tup (ds := [_, _]) (ad_cons ed_str (ad_cons ed_str ad_nil)) (Nat.le_of_ble_eq_true rfl)) cd_notIn2 rfl)))) rfl) (fun h => sd_rt (sd_ret (ed_conv ed_bl (by
              have h5 : isSideB (.str z) = false := by simpa using h
              simp [isGearB, h5])))) (fun h => ?_)
            have h5 : isSideB (.str z) = true := by simpa using h
            obtain ⟨x, rfl⟩ : ∃ x, a = .int x := by cases a <;> first | exact ⟨_, rfl⟩ | (simp [isIntB] at h4)
            obtain ⟨y, rfl⟩ : ∃ y, b = .int y := by cases b <;> first | exact ⟨_, rfl⟩ | (simp [isIntB] at h4)
            exact sd_rt (sd_ret (ed_conv (ed_orB (ed_cmpD (ed_ixT (ed_var (i := 0)) ed_int) ed_str cd_eqS (nomark _)) fun _ => (ed_one (ed_cmpD (ed_ixT (ed_var (i := 0)) ed_int) (ed_ixT (ed_var (i := 0)) ed_int) cd_lt (nomark _)))) (by simp [isGearB, h4.1, h4.2, h5, isOutB, ltB])))
          | _ =>
            exact sd_ifET (bt_conv (bw_bt (bw_orB (k2 := false) (bt_not (bt_val (ed_isStr B_isinstance B_str (ed_ixT (ed_var (i := 0)) ed_int)))) fun z => absurd z (by simp [dStr]))) (by simp [dStr])) (sd_rt (sd_ret (ed_conv ed_bl (by simp [isGearB, isSideB]))))
    · refine sd_ifET (bt_conv (bw_bt (bw_orB (bt_not (bt_val (ed_isTup B_isinstance B_tuple (ed_var (i := 0))))) fun _ => (bw_or1 (bt_cmpD (ed_lenT rfl B_len (ed_var (i := 0))) ed_int cd_neI (nomark _))))) (by
        rw [decide_eq_false (show ¬ (xs.length : Int) = 3 by omega)]; rfl)) (sd_rt (sd_ret (ed_conv ed_bl ?_)))
      have : isGearB (.tuple xs) = false := by
        unfold isGearB
        split
        · rename_i h; cases h; exact absurd rfl h2
        · rfl
      rw [this]
  · have h1' : dTup v = false := by simpa using h1
    exact sd_ifET (bt_conv (bw_bt (bw_orB (k2 := false) (bt_not (bt_val (ed_isTup B_isinstance B_tuple (ed_var (i := 0))))) fun z => absurd z (by rw [h1']; decide))) (by rw [h1']; rfl)) (sd_rt (sd_ret (ed_conv ed_bl (by rw [notup h1']))))

theorem ok_check_gear (c : Cl) (F : FunAt K mg "check_gear" "check_gear" s_check_gear) (G_is_gear : Fn P w K mg base "is_gear" 2 ["value"] Sig_is_gear) (X_BadGear : Exc K mg "BadGear" c.gear) : Fn P w K mg base "check_gear" 3 ["value"] (Sig_check_gear c) := by
  refine fn_mk F sc_check_gear (fun _ _ _ _ _ _ us hl => match us, hl with | [_], _ => rfl) (by rintro ds r ⟨v, rfl, _⟩; rfl) ?_
  rintro f cdv A outer s H E hr ds r ⟨v, rfl, (⟨hv, rfl⟩ | ⟨hv, rfl⟩)⟩
  · exact .inr ⟨rfl, _, _, sd_one (sd_ifF (bt_conv (bt_not (bt_val (ed_call (ds := [_]) G_is_gear (hr.mono (by decide)) (ad_cons (ed_var (i := 0)) ad_nil) ⟨_, rfl, rfl⟩))) (by rw [hv]; rfl)) sd_nil)⟩
  · exact ⟨_, sd_one (sd_ifT (bt_conv (bt_not (bt_val (ed_call (ds := [_]) G_is_gear (hr.mono (by decide)) (ad_cons (ed_var (i := 0)) ad_nil) ⟨_, rfl, rfl⟩))) (by rw [hv]; rfl)) (sd_one (sd_raise X_BadGear (takes_of rfl rfl rfl rfl))))⟩

theorem ok_check_tooth (c : Cl) (F : FunAt K mg "check_tooth" "check_tooth" s_check_tooth) (G_is_int : Fn P w K mg base "is_int" 1 ["value", "low", "high"] Sig_is_int) (X_BadTooth : Exc K mg "BadTooth" c.tooth) : Fn P w K mg base "check_tooth" 2 ["gear", "value"] (Sig_check_tooth c) := by
  have nd := sc_check_tooth.nd
  refine fn_mk F sc_check_tooth (fun _ _ _ _ _ _ us hl => match us, hl with | [_, _], _ => rfl) (by rintro ds r ⟨N, n, sd, v, rfl, (⟨hv, rfl⟩ | ⟨hv, rfl⟩)⟩ <;> rfl) ?_
  rintro f cdv A outer s H E hr ds r ⟨N, n, sd, v, rfl, (⟨hv, rfl⟩ | ⟨hv, rfl⟩)⟩
  · exact .inr ⟨rfl, _, _, sd_one (sd_ifF (bt_conv (bt_not (bt_val (ed_call (ds := [_, _, _]) G_is_int (hr.mono (by decide)) (ad_cons (ed_var (i := 1)) (ad_cons ed_int (ad_cons (ed_sub (ed_ixT (ed_var (i := 0)) ed_int) ed_int) ad_nil))) ⟨_, _, _, rfl, rfl⟩))) (by rw [hv]; rfl)) sd_nil)⟩
  · exact ⟨_, sd_one (sd_ifT (bt_conv (bt_not (bt_val (ed_call (ds := [_, _, _]) G_is_int (hr.mono (by decide)) (ad_cons (ed_var (i := 1)) (ad_cons ed_int (ad_cons (ed_sub (ed_ixT (ed_var (i := 0)) ed_int) ed_int) ad_nil))) ⟨_, _, _, rfl, rfl⟩))) (by rw [hv]; rfl)) (sd_one (sd_raise X_BadTooth (takes_of rfl rfl rfl rfl))))⟩

theorem ok_check_arcs (c : Cl) (F : FunAt K mg "check_arcs" "check_arcs" s_check_arcs) (G_is_int : Fn P w K mg base "is_int" 1 ["value", "low", "high"] Sig_is_int) (X_BadNumber : Exc K mg "BadNumber" c.num) : Fn P w K mg base "check_arcs" 2 ["value"] (Sig_check_int c 0 150) := by
  have nd := sc_check_arcs.nd
  refine fn_mk F sc_check_arcs (fun _ _ _ _ _ _ us hl => match us, hl with | [_], _ => rfl) (by rintro ds r ⟨v, rfl, (⟨hv, rfl⟩ | ⟨hv, rfl⟩)⟩ <;> rfl) ?_
  rintro f cdv A outer s H E hr ds r ⟨v, rfl, (⟨hv, rfl⟩ | ⟨hv, rfl⟩)⟩
  · exact .inr ⟨rfl, _, _, sd_one (sd_ifF (bt_conv (bt_not (bt_val (ed_call (ds := [_, _, _]) G_is_int (hr.mono (by decide)) (ad_cons (ed_var (i := 0)) (ad_cons ed_int (ad_cons ed_int ad_nil))) ⟨_, _, _, rfl, rfl⟩))) (by rw [hv]; rfl)) sd_nil)⟩
  · exact ⟨_, sd_one (sd_ifT (bt_conv (bt_not (bt_val (ed_call (ds := [_, _, _]) G_is_int (hr.mono (by decide)) (ad_cons (ed_var (i := 0)) (ad_cons ed_int (ad_cons ed_int ad_nil))) ⟨_, _, _, rfl, rfl⟩))) (by rw [hv]; rfl)) (sd_one (sd_raise X_BadNumber (takes_of rfl rfl rfl rfl))))⟩

theorem ok_shared_of (F : FunAt K mg "shared_of" "shared_of" s_shared_of) (G_common : Fn P w K mg base "common" 1 ["one", "other"] Sig_common) : Fn P w K mg base "shared_of" 2 ["gear"] (SigG fun N n _ => vI (Nat.gcd N n : Nat)) := by
  refine fn_mk F sc_shared_of (fun _ _ _ _ _ _ us hl => match us, hl with | [_], _ => rfl) (by rintro ds r ⟨N, n, s, _, _, _, _, rfl, rfl⟩; rfl) ?_
  rintro f cdv A outer s H E hr ds r ⟨N, n, sd, h1, h2, h3, h4, rfl, rfl⟩
  exact .inl ⟨[], (sd_rt (sd_ret (ed_call (ds := [_, _]) G_common (hr.mono (by decide)) (ad_cons (ed_ixT (ed_var (i := 0)) ed_int) (ad_cons (ed_ixT (ed_var (i := 0)) ed_int) ad_nil)) ⟨N, n, rfl, rfl⟩)))⟩

theorem ok_petals_of (F : FunAt K mg "petals_of" "petals_of" s_petals_of) (G_shared_of : Fn P w K mg base "shared_of" 2 ["gear"] (SigG fun N n _ => vI (Nat.gcd N n : Nat))) : Fn P w K mg base "petals_of" 3 ["gear"] (SigG fun N n _ => vI (petN N n)) := by
  refine fn_mk F sc_petals_of (fun _ _ _ _ _ _ us hl => match us, hl with | [_], _ => rfl) (by rintro ds r ⟨N, n, s, _, _, _, _, rfl, rfl⟩; rfl) ?_
  rintro f cdv A outer s H E hr ds r ⟨N, n, sd, h1, h2, h3, h4, rfl, rfl⟩
  have hg := gcd_le (n := n) h1
  exact .inl ⟨[], (sd_rt (sd_ret (ed_conv (ed_div (ed_ixT (ed_var (i := 0)) ed_int) (ed_call (ds := [_]) G_shared_of (hr.mono (by decide)) (ad_cons (ed_var (i := 0)) ad_nil) ⟨N, n, sd, h1, h2, h3, h4, rfl, rfl⟩) (by omega)) (by simp [petN]))))⟩

theorem ok_petals (c : Cl) (F : FunAt K mg "petals" "petals" s_petals) (G_check_gear : Fn P w K mg base "check_gear" 3 ["value"] (Sig_check_gear c)) (G_petals_of : Fn P w K mg base "petals_of" 3 ["gear"] (SigG fun N n _ => vI (petN N n))) : Fn P w K mg base "petals" 4 ["gear"] (SigV fun N n _ => vI (petN N n)) := by
  refine fn_mk F sc_petals (fun _ _ _ _ _ _ us hl => match us, hl with | [_], _ => rfl) (by rintro ds r ⟨N, n, s, _, rfl, rfl⟩; rfl) ?_
  rintro f cdv A outer s H E hr ds r ⟨N, n, sd, hg, rfl, rfl⟩
  obtain ⟨h1, h2, h3, h4⟩ := hg.pos
  exact .inl ⟨[], (sd_cons (sd_expr (ed_call (ds := [_]) G_check_gear (hr.mono (by decide)) (ad_cons (ed_var (i := 0)) ad_nil) ⟨_, rfl, .inl ⟨hg.is, rfl⟩⟩))
    (sd_rt (sd_ret (ed_call (ds := [_]) G_petals_of (hr.mono (by decide)) (ad_cons (ed_var (i := 0)) ad_nil) ⟨N, n, sd, h1, h2, h3, h4, rfl, rfl⟩))))⟩

theorem ok_rounds_of (F : FunAt K mg "rounds_of" "rounds_of" s_rounds_of) (G_shared_of : Fn P w K mg base "shared_of" 2 ["gear"] (SigG fun N n _ => vI (Nat.gcd N n : Nat))) : Fn P w K mg base "rounds_of" 3 ["gear"] (SigG fun N n _ => vI (rndN N n)) := by
  refine fn_mk F sc_rounds_of (fun _ _ _ _ _ _ us hl => match us, hl with | [_], _ => rfl) (by rintro ds r ⟨N, n, s, _, _, _, _, rfl, rfl⟩; rfl) ?_
  rintro f cdv A outer s H E hr ds r ⟨N, n, sd, h1, h2, h3, h4, rfl, rfl⟩
  have hg := gcd_le (n := n) h1
  exact .inl ⟨[], (sd_rt (sd_ret (ed_conv (ed_div (ed_ixT (ed_var (i := 0)) ed_int) (ed_call (ds := [_]) G_shared_of (hr.mono (by decide)) (ad_cons (ed_var (i := 0)) ad_nil) ⟨N, n, sd, h1, h2, h3, h4, rfl, rfl⟩) (by omega)) (by simp [rndN]))))⟩

theorem ok_tips_of (F : FunAt K mg "tips_of" "tips_of" s_tips_of) (B_range : mg "range" = none) : Fn P w K mg base "tips_of" 1 ["gear", "start", "many"] Sig_tips_of := by
  have nd := sc_tips_of.nd
  refine fn_mk F sc_tips_of (fun _ _ _ _ _ _ us hl => match us, hl with | [_, _, _], _ => rfl) (by rintro ds r ⟨N, n, sd, st, m, h1, h2, h3, h4, hm, rfl, rfl⟩ <;> rfl) ?_
  rintro f cdv A outer s H E hr ds r ⟨N, n, sd, st, m, h1, h2, h3, h4, hm, rfl, rfl⟩
  have e : gathI m (fun _ => true) (fun k => ((st : Int) + (k : Int) * n) % (N : Int)) = intsI (tipsN N n st m) := by
    rw [gathI_true]; unfold intsI tipsN; rw [List.map_map]
    refine List.map_congr_left fun k _ => ?_
    simp
  show BodyOk _ _ _ _ _ (.new ((intsI (tipsN N n st m)).map .int))
  rw [← e]
  exact ⟨_, _, (sd_rt (sd_ret (ed_lcI nd [("k", 3)] _ [3] _ _ (it_rangeN m B_range (ed_var (i := 2)) (by omega)) (fun i hi _ _ _ _ _ => (td_name nd (i := 3))) (fun i hi _ _ _ _ _ => bts_nil) (fun i hi hf _ _ _ _ _ => (ed_mod (ed_add (ed_var (i := 1)) (ed_mul (ed_var (i := 3)) (ed_ixT (ed_var (i := 0)) ed_int) (by omega))) (ed_ixT (ed_var (i := 0)) ed_int) (by omega))) (by omega)))), rfl⟩

theorem ok_chord_step (c : Cl) (F : FunAt K mg "chord_step" "chord_step" s_chord_step) (G_check_gear : Fn P w K mg base "check_gear" 3 ["value"] (Sig_check_gear c)) (G_petals_of : Fn P w K mg base "petals_of" 3 ["gear"] (SigG fun N n _ => vI (petN N n))) (G_rounds_of : Fn P w K mg base "rounds_of" 3 ["gear"] (SigG fun N n _ => vI (rndN N n))) (B_min : mg "min" = none) : Fn P w K mg base "chord_step" 4 ["gear"] (SigV fun N n _ => vI (stepN N n : Nat)) := by
  have nd := sc_chord_step.nd
  refine fn_mk F sc_chord_step (fun _ _ _ _ _ _ us hl => match us, hl with | [_], _ => rfl) (by rintro ds r ⟨N, n, sd, hg, rfl, rfl⟩ <;> rfl) ?_
  rintro f cdv A outer s H E hr ds r ⟨N, n, sd, hg, rfl, rfl⟩
  obtain ⟨h1, h2, h3, h4⟩ := hg.pos
  have pp := pet_pos (n := n) h1
  have hm := Nat.mod_lt (rndN N n) pp
  exact .inl ⟨[], sd_cons (sd_expr (ed_call (ds := [_]) G_check_gear (hr.mono (by decide)) (ad_cons (ed_var (i := 0)) ad_nil) ⟨_, rfl, .inl ⟨hg.is, rfl⟩⟩)) (sd_cons (sd_set nd (i := 1) (ed_call (ds := [_]) G_petals_of (hr.mono (by decide)) (ad_cons (ed_var (i := 0)) ad_nil) ⟨N, n, sd, h1, h2, h3, h4, rfl, rfl⟩))
    (sd_cons (sd_set nd (i := 2) (r := .d (.int (rndN N n % petN N n : Nat))) (ed_conv (ed_mod (ed_call (ds := [_]) G_rounds_of (hr.mono (by decide)) (ad_cons (ed_var (i := 0)) ad_nil) ⟨N, n, sd, h1, h2, h3, h4, rfl, rfl⟩) (ed_var (i := 1)) (by omega)) (by rw [← Int.natCast_emod])))
    (sd_rt (sd_ret (ed_conv (ed_min2 rfl rfl B_min (ad_cons (ed_var (i := 2)) (ad_cons (ed_sub (ed_var (i := 1)) (ed_var (i := 2))) ad_nil))) (by unfold stepN; congr 2; omega))))))⟩


theorem ok_chords_of (F : FunAt K mg "chords_of" "chords_of" s_chords_of) (G_tips_of : Fn P w K mg base "tips_of" 1 ["gear", "start", "many"] Sig_tips_of) (B_min : mg "min" = none) (B_max : mg "max" = none) (B_sorted : mg "sorted" = none) (B_set : mg "set" = none) (B_zip : mg "zip" = none) : Fn P w K mg base "chords_of" 2 ["gear", "start", "arcs"] Sig_chords_of := by
  have nd := sc_chords_of.nd
  refine fn_mk F sc_chords_of (fun _ _ _ _ _ _ us hl => match us, hl with | [_, _, _], _ => rfl) (by rintro ds r ⟨N, n, sd, st, arcs, h1, h2, h3, h4, ha, rfl, rfl⟩ <;> rfl) ?_
  rintro f cdv A outer s H E hr ds r ⟨N, n, sd, st, arcs, h1, h2, h3, h4, ha, rfl, rfl⟩
  have ha' : arcs ≤ 150 := ha
  exact ⟨_, _, (sd_cons (sd_set nd (i := 3) (ed_rel (ed_callO (ds := [_, _, _]) G_tips_of (hr.mono (by decide)) (ad_cons (ed_var (i := 0)) (ad_cons (ed_var (i := 1)) (ad_cons (ed_add (ed_var (i := 2)) ed_int) ad_nil))) ⟨N, n, sd, st, arcs + 1, h1, h2, h3, h4, by omega, rfl, rfl⟩)))
    (sd_rt (sd_ret (ed_sortSetP hr.units B_sorted B_set (ed_conv (ed_rel (ed_lcO nd [("one", 4), ("other", 5)] _ [4, 5] _ _ (it_zipI arcs B_zip (ad_cons (ed_var (i := 3)) (ad_cons (ed_rel (ed_dropI 1 (ed_var (i := 3)) ed_int (.d _))) ad_nil)) (by rw [List.length_drop, intsI_len, tips_len]; omega)) (fun i hi _ _ _ _ _ => (td_tup (tds_cons (td_name nd (i := 4)) (tds_cons (td_name nd (i := 5)) tds_nil)))) (fun i hi _ _ _ _ _ => bts_one (bt_cmpD (ed_var (i := 4)) (ed_var (i := 5)) cd_neI (nomark _))) (fun i hi hf _ _ _ _ _ => (ed_tup (ds := [_, _]) (ad_cons (ed_min2 rfl rfl B_min (ad_cons (ed_var (i := 4)) (ad_cons (ed_var (i := 5)) ad_nil))) (ad_cons (ed_max2 rfl rfl B_max (ad_cons (ed_var (i := 4)) (ad_cons (ed_var (i := 5)) ad_nil))) ad_nil)) (Nat.le_of_ble_eq_true rfl))) (by omega))) (by rw [ch_gath h1 h2])) (.d _) (ch_bnd h1 h2) (by have := ch_len (N := N) (n := n) (st := st) (arcs := arcs); omega))))), rfl⟩


theorem ok_chords (c : Cl) (F : FunAt K mg "chords" "chords" s_chords) (G_check_gear : Fn P w K mg base "check_gear" 3 ["value"] (Sig_check_gear c)) (G_check_tooth : Fn P w K mg base "check_tooth" 2 ["gear", "value"] (Sig_check_tooth c)) (G_check_arcs : Fn P w K mg base "check_arcs" 2 ["value"] (Sig_check_int c 0 150)) (G_chords_of : Fn P w K mg base "chords_of" 2 ["gear", "start", "arcs"] Sig_chords_of) : Fn P w K mg base "chords" 4 ["gear", "start", "arcs"] (SigSK chMax fun N n s st k => .new (chordsD N n st k)) := by
  have nd := sc_chords.nd
  refine fn_mk F sc_chords (fun _ _ _ _ _ _ us hl => match us, hl with | [_, _, _], _ => rfl) (by rintro ds r ⟨N, n, sd, st, k, hg, hst, hk, rfl, rfl⟩ <;> rfl) ?_
  rintro f cdv A outer s H E hr ds r ⟨N, n, sd, st, k, hg, hst, hk, rfl, rfl⟩
  obtain ⟨h1, h2, h3, h4⟩ := hg.pos
  have hk2 : k ≤ 150 := hk
  exact ⟨_, _, (sd_cons (sd_expr (ed_call (ds := [_]) G_check_gear (hr.mono (by decide)) (ad_cons (ed_var (i := 0)) ad_nil) ⟨_, rfl, .inl ⟨hg.is, rfl⟩⟩))
    (sd_cons (sd_expr (ed_call (ds := [_, _]) G_check_tooth (hr.mono (by decide)) (ad_cons (ed_var (i := 0)) (ad_cons (ed_var (i := 1)) ad_nil)) ⟨_, _, _, _, rfl, .inl ⟨isInt_ok (by omega) (by omega), rfl⟩⟩))
    (sd_cons (sd_expr (ed_call (ds := [_]) G_check_arcs (hr.mono (by decide)) (ad_cons (ed_var (i := 2)) ad_nil) ⟨_, rfl, .inl ⟨isInt_ok (by omega) (by omega), rfl⟩⟩))
    (sd_rt (sd_ret (ed_callO (ds := [_, _, _]) G_chords_of (hr.mono (by decide)) (ad_cons (ed_var (i := 0)) (ad_cons (ed_var (i := 1)) (ad_cons (ed_var (i := 2)) ad_nil))) ⟨N, n, sd, st, k, h1, h2, h3, h4, hk, rfl, rfl⟩)))))), rfl⟩


theorem ok_cross (F : FunAt K mg "cross" "cross" s_cross) : Fn P w K mg base "cross" 1 ["one", "other"] Sig_cross := by
  have nd := sc_cross.nd
  refine fn_mk F sc_cross (fun _ _ _ _ _ _ us hl => match us, hl with | [_, _], _ => rfl) (by rintro ds r ⟨z, y, rfl, rfl⟩ <;> rfl) ?_
  rintro f cdv A outer s H E hr ds r ⟨z, y, rfl, rfl⟩
  exact .inl ⟨[], sd_rt (sd_ret (ed_conv (ed_orB (ed_chain3 (ed_ixT (ed_var (i := 0)) ed_int) (ed_ixT (ed_var (i := 1)) ed_int) (ed_ixT (ed_var (i := 0)) ed_int) (ed_ixT (ed_var (i := 1)) ed_int) cd_lt cd_lt cd_lt) fun hb => ed_one (ed_chain3 (ed_ixT (ed_var (i := 1)) ed_int) (ed_ixT (ed_var (i := 0)) ed_int) (ed_ixT (ed_var (i := 1)) ed_int) (ed_ixT (ed_var (i := 0)) ed_int) cd_lt cd_lt cd_lt)) rfl))⟩


theorem ok_crossings_after (c : Cl) (F : FunAt K mg "crossings_after" "crossings_after" s_crossings_after) (G_check_gear : Fn P w K mg base "check_gear" 3 ["value"] (Sig_check_gear c)) (G_check_arcs : Fn P w K mg base "check_arcs" 2 ["value"] (Sig_check_int c 0 150)) (G_chords_of : Fn P w K mg base "chords_of" 2 ["gear", "start", "arcs"] Sig_chords_of) (G_cross : Fn P w K mg base "cross" 1 ["one", "other"] Sig_cross) (B_len : mg "len" = none) (B_sum : mg "sum" = none) (B_enumerate : mg "enumerate" = none) : Fn P w K mg base "crossings_after" 4 ["gear", "arcs"] (fun ds r => ∃ N n s arcs, GOk N n s ∧ arcs ≤ chMax ∧ ds = [gD N n s, .int (arcs : Nat)] ∧ r = vI (crC (ssort (chZ N n 0 arcs)) : Nat)) := by
  have nd := sc_crossings_after.nd
  refine fn_mk F sc_crossings_after (fun _ _ _ _ _ _ us hl => match us, hl with | [_, _], _ => rfl) (by rintro ds r ⟨N, n, sd, arcs, hg, ha, rfl, rfl⟩ <;> rfl) ?_
  rintro f cdv A outer s H E hr ds r ⟨N, n, sd, arcs, hg, ha, rfl, rfl⟩
  obtain ⟨h1, h2, h3, h4⟩ := hg.pos
  have ha' : arcs ≤ 150 := ha
  have cl := ch_len (N := N) (n := n) (st := 0) (arcs := arcs)
  have sl := ssort_len_le (chZ N n 0 arcs)
  exact .inl ⟨[], sd_cons (sd_expr (ed_call (ds := [_]) G_check_gear (hr.mono (by decide)) (ad_cons (ed_var (i := 0)) ad_nil) ⟨_, rfl, .inl ⟨hg.is, rfl⟩⟩))
    (sd_cons (sd_expr (ed_call (ds := [_]) G_check_arcs (hr.mono (by decide)) (ad_cons (ed_var (i := 1)) ad_nil) ⟨_, rfl, .inl ⟨isInt_ok (by omega) (by omega), rfl⟩⟩))
    (sd_cons (sd_set nd (i := 2) (ed_rel (ed_callO (ds := [_, _, _]) G_chords_of (hr.mono (by decide)) (ad_cons (ed_var (i := 0)) (ad_cons ed_int (ad_cons (ed_var (i := 1)) ad_nil))) ⟨N, n, sd, 0, arcs, h1, h2, h3, h4, ha, rfl, rfl⟩)))
    (sd_rt (sd_ret (ed_conv (ed_sum rfl rfl B_sum (ed_rel (ed_lcI nd [("k", 3), ("one", 4)] _ [3, 4] _ (fun i => (((((ssort (chZ N n 0 arcs)).drop (i + 1)).filter (crossZ ((ssort (chZ N n 0 arcs)).getD i 0))).length : Nat) : Int)) (it_enum (fun i => .tuple [.int (i : Int), prC ((ssort (chZ N n 0 arcs)).getD i 0)]) rfl B_enumerate (ed_var (i := 2)) (fun i d hd => by rw [prs_item hd])) (fun i hi _ _ _ _ _ => (td_tup (tds_cons (td_name nd (i := 3)) (tds_cons (td_name nd (i := 4)) tds_nil)))) (fun i hi _ _ _ _ _ => bts_nil) (fun i hi hf _ _ _ _ _ => ed_conv (ed_len rfl B_len (ed_rel (ed_lcO nd [("other", 5)] _ [5] _ _ (it_list (fun j => prC (((ssort (chZ N n 0 arcs)).drop (i + 1)).getD j 0)) (ed_rel (ed_dropD (i + 1) (ed_var (i := 2)) (ed_add (ed_var (i := 3)) ed_int) (.d _))) (fun j d hd => by rw [← List.map_drop] at hd; exact prs_item hd)) (fun j hj _ _ _ _ _ => (td_name nd (i := 5))) (fun j hj _ _ _ _ _ => bts_one (bt_val (ed_call (ds := [_, _]) G_cross (hr.mono (by decide)) (ad_cons (ed_var (i := 4)) (ad_cons (ed_var (i := 5)) ad_nil)) ⟨_, _, rfl, rfl⟩))) (fun j hj hf _ _ _ _ _ => (ed_var (i := 5))) (by rw [List.length_drop, List.length_map]; omega))) (.d _)) (by rw [← List.map_drop, List.length_map, filt_len])) (by rw [List.length_map]; omega))) (.d _)) (by rw [List.length_map, WC.cr_sum]))))))⟩


theorem ok_crossings (c : Cl) (F : FunAt K mg "crossings" "crossings" s_crossings) (G_check_gear : Fn P w K mg base "check_gear" 3 ["value"] (Sig_check_gear c)) (G_petals_of : Fn P w K mg base "petals_of" 3 ["gear"] (SigG fun N n _ => vI (petN N n))) (G_rounds_of : Fn P w K mg base "rounds_of" 3 ["gear"] (SigG fun N n _ => vI (rndN N n))) (B_min : mg "min" = none) : Fn P w K mg base "crossings" 4 ["gear"] (SigV fun N n _ => vI (crN N n : Nat)) := by
  have nd := sc_crossings.nd
  refine fn_mk F sc_crossings (fun _ _ _ _ _ _ us hl => match us, hl with | [_], _ => rfl) (by rintro ds r ⟨N, n, sd, hg, rfl, rfl⟩ <;> rfl) ?_
  rintro f cdv A outer s H E hr ds r ⟨N, n, sd, hg, rfl, rfl⟩
  obtain ⟨h1, h2, h3, h4⟩ := hg.pos
  have q1 := hg.N150
  have pp := pet_pos (n := n) h1
  have pl : petN N n ≤ N := pet_le
  have hm := Nat.mod_lt (rndN N n) pp
  have sl : stepN N n ≤ petN N n := step_le h1
  by_cases hz : stepN N n = 0 ∨ 2 * stepN N n = petN N n
  · have e : crN N n = 0 := by unfold crN; rw [if_pos hz]
    refine .inl ⟨[], sd_conv (sd_cons (sd_expr (ed_call (ds := [_]) G_check_gear (hr.mono (by decide)) (ad_cons (ed_var (i := 0)) ad_nil) ⟨_, rfl, .inl ⟨hg.is, rfl⟩⟩)) (sd_cons (sd_set nd (i := 1) (ed_call (ds := [_]) G_petals_of (hr.mono (by decide)) (ad_cons (ed_var (i := 0)) ad_nil) ⟨N, n, sd, h1, h2, h3, h4, rfl, rfl⟩))
      (sd_cons (sd_set nd (i := 2) (r := .d (.int (rndN N n % petN N n : Nat))) (ed_conv (ed_mod (ed_call (ds := [_]) G_rounds_of (hr.mono (by decide)) (ad_cons (ed_var (i := 0)) ad_nil) ⟨N, n, sd, h1, h2, h3, h4, rfl, rfl⟩) (ed_var (i := 1)) (by omega)) (by rw [← Int.natCast_emod])))
      (sd_cons (sd_set nd (i := 2) (r := .d (.int (stepN N n : Nat))) (ed_conv (ed_min2 rfl rfl B_min (ad_cons (ed_var (i := 2)) (ad_cons (ed_sub (ed_var (i := 1)) (ed_var (i := 2))) ad_nil))) (by unfold stepN; congr 2; omega)))
      (sd_ifET (bt_conv (bw_bt (bw_orB (bt_cmpD (ed_var (i := 2)) ed_int cd_eqI (nomark _)) fun hb => bw_or1 (bt_cmpD (ed_mul ed_int (ed_var (i := 2)) (by omega)) (ed_var (i := 1)) cd_eqI (nomark _)))) (by
        rcases hz with e | e
        · rw [e]; rfl
        · rw [decide_eq_true (p := (2 : Int) * ((stepN N n : Nat) : Int) = ((petN N n : Nat) : Int)) (by omega), Bool.or_true])) (sd_rt (sd_ret ed_int))))))) (by rw [e]; rfl)⟩
  · have e : crN N n = petN N n * (stepN N n - 1) := by unfold crN; rw [if_neg hz]
    refine .inl ⟨[], sd_conv (sd_cons (sd_expr (ed_call (ds := [_]) G_check_gear (hr.mono (by decide)) (ad_cons (ed_var (i := 0)) ad_nil) ⟨_, rfl, .inl ⟨hg.is, rfl⟩⟩)) (sd_cons (sd_set nd (i := 1) (ed_call (ds := [_]) G_petals_of (hr.mono (by decide)) (ad_cons (ed_var (i := 0)) ad_nil) ⟨N, n, sd, h1, h2, h3, h4, rfl, rfl⟩))
      (sd_cons (sd_set nd (i := 2) (r := .d (.int (rndN N n % petN N n : Nat))) (ed_conv (ed_mod (ed_call (ds := [_]) G_rounds_of (hr.mono (by decide)) (ad_cons (ed_var (i := 0)) ad_nil) ⟨N, n, sd, h1, h2, h3, h4, rfl, rfl⟩) (ed_var (i := 1)) (by omega)) (by rw [← Int.natCast_emod])))
      (sd_cons (sd_set nd (i := 2) (r := .d (.int (stepN N n : Nat))) (ed_conv (ed_min2 rfl rfl B_min (ad_cons (ed_var (i := 2)) (ad_cons (ed_sub (ed_var (i := 1)) (ed_var (i := 2))) ad_nil))) (by unfold stepN; congr 2; omega)))
      (sd_ifEF (bt_conv (bw_bt (bw_orB (bt_cmpD (ed_var (i := 2)) ed_int cd_eqI (nomark _)) fun hb => bw_or1 (bt_cmpD (ed_mul ed_int (ed_var (i := 2)) (by omega)) (ed_var (i := 1)) cd_eqI (nomark _)))) (by rw [decide_eq_false (by omega), decide_eq_false (by omega)]; rfl))
      (sd_rt (sd_ret (ed_mul (ed_var (i := 1)) (ed_sub (ed_var (i := 2)) ed_int) (by omega))))))))) (by rw [e, Int.natCast_mul, Int.natCast_sub (by omega)]; rfl)⟩


theorem ok_crossed_by (c : Cl) (F : FunAt K mg "crossed_by" "crossed_by" s_crossed_by) (G_check_gear : Fn P w K mg base "check_gear" 3 ["value"] (Sig_check_gear c)) (G_check_tooth : Fn P w K mg base "check_tooth" 2 ["gear", "value"] (Sig_check_tooth c)) (G_tips_of : Fn P w K mg base "tips_of" 1 ["gear", "start", "many"] Sig_tips_of) (G_petals_of : Fn P w K mg base "petals_of" 3 ["gear"] (SigG fun N n _ => vI (petN N n))) (G_chords_of : Fn P w K mg base "chords_of" 2 ["gear", "start", "arcs"] Sig_chords_of) (G_cross : Fn P w K mg base "cross" 1 ["one", "other"] Sig_cross) (B_len : mg "len" = none) (B_min : mg "min" = none) (B_max : mg "max" = none) : Fn P w K mg base "crossed_by" 4 ["gear", "start", "tooth"] Sig_crossed_by := by
  have nd := sc_crossed_by.nd
  refine fn_mk F sc_crossed_by (fun _ _ _ _ _ _ us hl => match us, hl with | [_, _, _], _ => rfl) (by rintro ds r ⟨N, n, sd, st, t, hg, hst, ht, rfl, rfl⟩ <;> rfl) ?_
  rintro f cdv A outer s H E hr ds r ⟨N, n, sd, st, t, hg, hst, ht, rfl, rfl⟩
  obtain ⟨h1, h2, h3, h4⟩ := hg.pos
  have q1 := hg.N150
  have pl : petN N n ≤ N := pet_le
  have fl := Nat.mod_lt (t + n) h1
  have cl := ch_len (N := N) (n := n) (st := st) (arcs := petN N n)
  have sl := ssort_len_le (chZ N n st (petN N n))
  by_cases hm : t ∈ tipsN N n st (petN N n)
  · by_cases hf : (t + n) % N = t
    · refine .inl ⟨[], sd_conv (sd_cons (sd_expr (ed_call (ds := [_]) G_check_gear (hr.mono (by decide)) (ad_cons (ed_var (i := 0)) ad_nil) ⟨_, rfl, .inl ⟨hg.is, rfl⟩⟩)) (sd_cons (sd_expr (ed_call (ds := [_, _]) G_check_tooth (hr.mono (by decide)) (ad_cons (ed_var (i := 0)) (ad_cons (ed_var (i := 1)) ad_nil)) ⟨_, _, _, _, rfl, .inl ⟨isInt_ok (by omega) (by omega), rfl⟩⟩)) (sd_cons (sd_expr (ed_call (ds := [_, _]) G_check_tooth (hr.mono (by decide)) (ad_cons (ed_var (i := 0)) (ad_cons (ed_var (i := 2)) ad_nil)) ⟨_, _, _, _, rfl, .inl ⟨isInt_ok (by omega) (by omega), rfl⟩⟩)) (sd_cons (sd_set nd (i := 3) (r := .d (.int ((t + n) % N : Nat))) (ed_conv (ed_mod (ed_add (ed_var (i := 2)) (ed_ixT (ed_var (i := 0)) ed_int)) (ed_ixT (ed_var (i := 0)) ed_int) (by omega)) (by rw [Int.natCast_emod, Int.natCast_add]))) (sd_ifET (bw_bt (bw_or (bt_cmpD (ed_var (i := 2)) (ed_rel (ed_callO (ds := [_, _, _]) G_tips_of (hr.mono (by decide)) (ad_cons (ed_var (i := 0)) (ad_cons (ed_var (i := 1)) (ad_cons (ed_call (ds := [_]) G_petals_of (hr.mono (by decide)) (ad_cons (ed_var (i := 0)) ad_nil) ⟨N, n, sd, h1, h2, h3, h4, rfl, rfl⟩) ad_nil))) ⟨N, n, sd, st, petN N n, h1, h2, h3, h4, by omega, rfl, rfl⟩)) (cd_notInK (.d _) (by rw [decide_eq_true (mem_intsI.mpr hm)]; rfl)) rfl) (bw_or1 (bt_cmpD (ed_var (i := 3)) (ed_var (i := 2)) (cd_eqIT (by rw [hf])) (nomark _))))) (sd_rt (sd_ret ed_int))))))) (by unfold crsBy; rw [if_neg (fun z => z.2 hf)]; rfl)⟩
    · refine .inl ⟨[], sd_conv (sd_cons (sd_expr (ed_call (ds := [_]) G_check_gear (hr.mono (by decide)) (ad_cons (ed_var (i := 0)) ad_nil) ⟨_, rfl, .inl ⟨hg.is, rfl⟩⟩)) (sd_cons (sd_expr (ed_call (ds := [_, _]) G_check_tooth (hr.mono (by decide)) (ad_cons (ed_var (i := 0)) (ad_cons (ed_var (i := 1)) ad_nil)) ⟨_, _, _, _, rfl, .inl ⟨isInt_ok (by omega) (by omega), rfl⟩⟩)) (sd_cons (sd_expr (ed_call (ds := [_, _]) G_check_tooth (hr.mono (by decide)) (ad_cons (ed_var (i := 0)) (ad_cons (ed_var (i := 2)) ad_nil)) ⟨_, _, _, _, rfl, .inl ⟨isInt_ok (by omega) (by omega), rfl⟩⟩)) (sd_cons (sd_set nd (i := 3) (r := .d (.int ((t + n) % N : Nat))) (ed_conv (ed_mod (ed_add (ed_var (i := 2)) (ed_ixT (ed_var (i := 0)) ed_int)) (ed_ixT (ed_var (i := 0)) ed_int) (by omega)) (by rw [Int.natCast_emod, Int.natCast_add]))) (sd_ifEF (bw_bt (bw_or (bt_cmpD (ed_var (i := 2)) (ed_rel (ed_callO (ds := [_, _, _]) G_tips_of (hr.mono (by decide)) (ad_cons (ed_var (i := 0)) (ad_cons (ed_var (i := 1)) (ad_cons (ed_call (ds := [_]) G_petals_of (hr.mono (by decide)) (ad_cons (ed_var (i := 0)) ad_nil) ⟨N, n, sd, h1, h2, h3, h4, rfl, rfl⟩) ad_nil))) ⟨N, n, sd, st, petN N n, h1, h2, h3, h4, by omega, rfl, rfl⟩)) (cd_notInK (.d _) (by rw [decide_eq_true (mem_intsI.mpr hm)]; rfl)) rfl) (bw_or1 (bt_cmpD (ed_var (i := 3)) (ed_var (i := 2)) (cd_eqIF (by omega)) (nomark _))))) (sd_cons (sd_set nd (i := 4) (r := .d (prC (chCode t ((t + n) % N)))) (ed_conv (ed_tup (ds := [_, _]) (ad_cons (ed_min2 rfl rfl B_min (ad_cons (ed_var (i := 2)) (ad_cons (ed_var (i := 3)) ad_nil))) (ad_cons (ed_max2 rfl rfl B_max (ad_cons (ed_var (i := 2)) (ad_cons (ed_var (i := 3)) ad_nil))) ad_nil)) (Nat.le_of_ble_eq_true rfl)) (by rw [prC_code (by omega) (by omega)]))) (sd_rt (sd_ret (ed_conv (ed_len rfl B_len (ed_rel (ed_lcO nd [("one", 5)] _ [5] (fun i => crossZ (chCode t ((t + n) % N)) ((ssort (chZ N n st (petN N n))).getD i 0)) (fun i => prC ((ssort (chZ N n st (petN N n))).getD i 0)) (it_list (fun i => prC ((ssort (chZ N n st (petN N n))).getD i 0)) (ed_rel (ed_callO (ds := [_, _, _]) G_chords_of (hr.mono (by decide)) (ad_cons (ed_var (i := 0)) (ad_cons (ed_var (i := 1)) (ad_cons (ed_call (ds := [_]) G_petals_of (hr.mono (by decide)) (ad_cons (ed_var (i := 0)) ad_nil) ⟨N, n, sd, h1, h2, h3, h4, rfl, rfl⟩) ad_nil))) ⟨N, n, sd, st, petN N n, h1, h2, h3, h4, (show petN N n ≤ 150 by omega), rfl, rfl⟩)) (fun i d hd => prs_item hd)) (fun i hi _ _ _ _ _ => (td_name nd (i := 5))) (fun i hi _ _ _ _ _ => bts_one (bt_val (ed_call (ds := [_, _]) G_cross (hr.mono (by decide)) (ad_cons (ed_var (i := 4)) (ad_cons (ed_var (i := 5)) ad_nil)) ⟨_, _, rfl, rfl⟩))) (fun i hi hf _ _ _ _ _ => (ed_var (i := 5))) (by rw [List.length_map]; omega))) (.d _)) (by rw [List.length_map, filt_len])))))))))) (by unfold crsBy; rw [if_pos ⟨hm, hf⟩])⟩
  · refine .inl ⟨[], sd_conv (sd_cons (sd_expr (ed_call (ds := [_]) G_check_gear (hr.mono (by decide)) (ad_cons (ed_var (i := 0)) ad_nil) ⟨_, rfl, .inl ⟨hg.is, rfl⟩⟩)) (sd_cons (sd_expr (ed_call (ds := [_, _]) G_check_tooth (hr.mono (by decide)) (ad_cons (ed_var (i := 0)) (ad_cons (ed_var (i := 1)) ad_nil)) ⟨_, _, _, _, rfl, .inl ⟨isInt_ok (by omega) (by omega), rfl⟩⟩)) (sd_cons (sd_expr (ed_call (ds := [_, _]) G_check_tooth (hr.mono (by decide)) (ad_cons (ed_var (i := 0)) (ad_cons (ed_var (i := 2)) ad_nil)) ⟨_, _, _, _, rfl, .inl ⟨isInt_ok (by omega) (by omega), rfl⟩⟩)) (sd_cons (sd_set nd (i := 3) (r := .d (.int ((t + n) % N : Nat))) (ed_conv (ed_mod (ed_add (ed_var (i := 2)) (ed_ixT (ed_var (i := 0)) ed_int)) (ed_ixT (ed_var (i := 0)) ed_int) (by omega)) (by rw [Int.natCast_emod, Int.natCast_add]))) (sd_ifET (bw_bt (bw_or1t (bt_cmpD (ed_var (i := 2)) (ed_rel (ed_callO (ds := [_, _, _]) G_tips_of (hr.mono (by decide)) (ad_cons (ed_var (i := 0)) (ad_cons (ed_var (i := 1)) (ad_cons (ed_call (ds := [_]) G_petals_of (hr.mono (by decide)) (ad_cons (ed_var (i := 0)) ad_nil) ⟨N, n, sd, h1, h2, h3, h4, rfl, rfl⟩) ad_nil))) ⟨N, n, sd, st, petN N n, h1, h2, h3, h4, by omega, rfl, rfl⟩)) (cd_notInK (.d _) (by rw [decide_eq_false (fun z => hm (mem_intsI.mp z))]; rfl)) rfl))) (sd_rt (sd_ret ed_int))))))) (by unfold crsBy; rw [if_neg (fun z => hm z.1)]; rfl)⟩


theorem ok_law_start (F : FunAt K mg "_law_start" "_law_start" s_law_start) (B_list : mg "list" = none) : FnS P w K mg base "_law_start" := by
  obtain ⟨f, fd, h1, h2⟩ := F.ex
  refine ⟨f, fd, h1.okX sc_law_start (fun vs H Q E h => ?_) (fun cdv A outer s H vs Q E hr h => ?_), h2, h1.kp, h1.binds fun _ _ _ _ _ _ us hl => match us, hl with | [_], _ => rfl⟩
  · obtain ⟨a, ns, rfl, _⟩ := h
    rfl
  · obtain ⟨a, ns, rfl, hS, hz, q⟩ := h
    refine start_body ?h1 ?h2 ?h3 ?h4 hr.units hS hz ?h5 q
    case h1 => rfl
    case h2 => exact .inl rfl
    case h3 => rfl
    case h4 => exact B_list
    case h5 => rfl

theorem ok_law_draw (F : FunAt K mg "_law_draw" "_law_draw" s_law_draw) (B_len : mg "len" = none) : FnD P w K mg base "_law_draw" 1 ["draws", "limit"] Sig_law_draw := by
  have nd := sc_law_draw.nd
  refine fn_mkD F sc_law_draw (fun _ _ _ _ _ _ us hl => match us, hl with | [_, _], _ => rfl) (by rintro s ds r s' ⟨l, _, _, rfl, _⟩; rfl) ?_
  rintro f cdv A outer sh H E hr b s ds d s' ⟨l, hl, hs, rfl, hd, rfl⟩
  cases hd
  have hlen : (0 : Int) < (s.ns.length : Int) := by
    have := List.length_pos_iff.mpr hs.ne
    omega
  have hat : 0 ≤ (s.c + 1) % (s.ns.length : Int) := Int.emod_nonneg _ (by omega)
  have hat2 : (s.c + 1) % (s.ns.length : Int) < (s.ns.length : Int) := Int.emod_lt_of_pos _ hlen
  have hix : ixN s.ns.length ((s.c + 1) % (s.ns.length : Int)) = some (drAt s) := by
    unfold ixN drAt
    rw [if_pos hat, if_pos hat2]
  have hcell : atI s.ns ((s.c + 1) % (s.ns.length : Int)) = some (drCell s) := by
    unfold atI
    rw [hix]
    show s.ns[drAt s]? = some (s.ns.getD (drAt s) 0)
    rw [List.getD_eq_getElem?_getD, List.getElem?_eq_getElem (drAt_lt hs)]; rfl
  have pre : ∀ (o : Out), SD (cxOf (L2.CX P w) P w K mg base ["draws", "limit", "numbers", "at", "cell", "mixed"] "_law_draw" (defScope s_law_draw) f cdv A outer sh H E) E [some (.own 0), some (.d (.int l)), some (.own 1), some (.d (.int ((s.c + 1) % (s.ns.length : Int)))), some (.d (.int (drCell s))), none] (drM b ⟨s.c + 1, s.ns⟩ ++ []) ((defBody s_law_draw).drop 4) o →
      SD (cxOf (L2.CX P w) P w K mg base ["draws", "limit", "numbers", "at", "cell", "mixed"] "_law_draw" (defScope s_law_draw) f cdv A outer sh H E) E (startD ["draws", "limit", "numbers", "at", "cell", "mixed"] [.int l]) (drM b s ++ []) (defBody s_law_draw) o := fun o h =>
    sd_cons (sd_set nd (i := 2) (ed_dr0 (ed_var (i := 0))))
      (sd_cons (sd_dr1 (ed_add (ed_dr1 (ed_var (i := 0))) ed_int) (ed_var (i := 0)))
      (sd_cons (sd_set nd (i := 3) (ed_mod (ed_dr1 (s := ⟨s.c + 1, s.ns⟩) (ed_var (i := 0))) (ed_drLen (s := ⟨s.c + 1, s.ns⟩) rfl B_len (ed_var (i := 2))) hlen))
      (sd_cons (sd_set nd (i := 4) (ed_drIx (s := ⟨s.c + 1, s.ns⟩) (ed_var (i := 2)) (ed_var (i := 3)) hcell)) h)))
  rw [show drM b s = drM b s ++ [] by rw [List.append_nil]]
  by_cases hc : 1000000000000000000 ≤ drCell s
  · refine ⟨[], pre _ (sd_ifET (bt_conv (bt_cmpD (ed_var (i := 4)) ed_int cd_ge (nomark _)) (decide_eq_true hc)) ?_)⟩
    have e1 : drw s l = drCell s % l := by unfold drw; rw [if_pos hc]
    have e2 : drS s l = ⟨s.c + 1, s.ns.set (drAt s) (drCell s / l)⟩ := by unfold drS; rw [if_pos hc]
    rw [e1, e2]
    exact sd_cons (sd_drSet (s := ⟨s.c + 1, s.ns⟩) (ed_div (ed_var (i := 4)) (ed_var (i := 1)) hl) (ed_var (i := 2)) (ed_var (i := 3)) hix (hg := pg_sub (pe_w _ _) (pe_w _ _) set_list))
      (sd_rt (sd_ret (ed_mod (ed_var (i := 4)) (ed_var (i := 1)) hl.1)))
  · refine ⟨[], pre _ (sd_ifEF (bt_conv (bt_cmpD (ed_var (i := 4)) ed_int cd_ge (nomark _)) (decide_eq_false hc)) ?_)⟩
    have e1 : drw s l = (drHash s / 64 * 69621 + drHash s) % 4294967231 / 8 % l := by unfold drw; rw [if_neg hc]
    have e2 : drS s l = ⟨s.c + 1, s.ns⟩ := by unfold drS; rw [if_neg hc]
    rw [e1, e2]
    have b1 : 0 ≤ (drCell s + 104729 * (s.c + 1)) % 4294967291 := Int.emod_nonneg _ (by omega)
    have b2 : (drCell s + 104729 * (s.c + 1)) % 4294967291 < 4294967291 := Int.emod_lt_of_pos _ (by omega)
    exact (sd_cons (sd_set nd (i := 5) (ed_mod (ed_add (ed_var (i := 4)) (ed_mul ed_int (ed_dr1 (s := ⟨s.c + 1, s.ns⟩) (ed_var (i := 0))) (by omega))) ed_int (by omega)))
      (sd_cons (sd_set nd (i := 5) (ed_mod (ed_pow (ed_var (i := 5)) ed_int ⟨by omega, by omega, by omega⟩) ed_int (by omega)))
      (sd_rt (sd_ret (ed_mod (ed_div (ed_mod (ed_add (ed_mul (ed_div (ed_var (i := 5)) ed_int (by omega)) ed_int (by omega)) (ed_var (i := 5))) ed_int (by omega)) ed_int (by omega)) (ed_var (i := 1)) hl.1)))))

theorem ok_law_pick (F : FunAt K mg "_law_pick" "_law_pick" s_law_pick) (G_law_draw : FnD P w K mg base "_law_draw" 1 ["draws", "limit"] Sig_law_draw) (B_len : mg "len" = none) : FnD P w K mg base "_law_pick" 2 ["draws", "choices"] Sig_law_pick := by
  refine fn_mkD F sc_law_pick (fun _ _ _ _ _ _ us hl => match us, hl with | [_, _], _ => rfl) (by rintro s ds r s' ⟨l, _, _, _, rfl, _⟩; rfl) ?_
  rintro f cdv A outer sh H E hr b s ds d s' ⟨es, d', hl, hs, rfl, hx, hd, rfl⟩
  cases hd
  rw [show drM b s = drM b s ++ [] by rw [List.append_nil]]
  exact ⟨[], (sd_rt (sd_ret (ed_ixL (ed_var (i := 1)) (ed_callD (ds := [_]) G_law_draw (hr.mono (by decide)) (ad_cons (ed_var (i := 0)) (ad_cons (ed_len rfl B_len (ed_var (i := 1)) (.d _)) ad_nil)) ⟨_, by omega, hs, rfl, rfl, rfl⟩) hx)))⟩

theorem ok_law_gear (F : FunAt K mg "_law_gear" "_law_gear" s_law_gear) (G_law_draw : FnD P w K mg base "_law_draw" 1 ["draws", "limit"] Sig_law_draw) (G_law_pick : FnD P w K mg base "_law_pick" 2 ["draws", "choices"] Sig_law_pick) (B_min : mg "min" = none) : FnD P w K mg base "_law_gear" 3 ["draws"] Sig_law_gear := by
  have nd := sc_law_gear.nd
  refine fn_mkD F sc_law_gear (fun _ _ _ _ _ _ us hl => match us, hl with | [_], _ => rfl) (by rintro s ds r s' ⟨_, _, _, _, _, _, _, rfl, _⟩; rfl) ?_
  rintro f cdv A outer sh H E hr b s ds d s' ⟨wd, k1, k2, sd, s1, s2, s3, rfl, hw, hk, g1, g2, g3, g4, hd⟩
  cases hd
  rw [show drM b s = drM b s ++ [] by rw [List.append_nil]]
  refine ⟨[], (sd_cons (sd_set nd (i := 1) (ed_callD (ds := [_]) G_law_pick (hr.mono (by decide)) (ad_cons (ed_var (i := 0)) (ad_cons (ed_rel (ed_lstO (ds := [_, _, _, _]) (ad_cons ed_int (ad_cons ed_int (ad_cons ed_int (ad_cons ed_int ad_nil)))) (Nat.le_of_ble_eq_true rfl))) ad_nil)) g1))
    (sd_cons (sd_set nd (i := 2) (ed_callD (ds := [_]) G_law_pick (hr.mono (by decide)) (ad_cons (ed_var (i := 0)) (ad_cons (ed_rel (ed_lstO (ds := [_, _]) (ad_cons ed_str (ad_cons ed_str ad_nil)) (Nat.le_of_ble_eq_true rfl))) ad_nil)) g2))
    (sd_cons (sd_set nd (i := 3) (ed_add ed_int (ed_callD (ds := [_]) G_law_draw (hr.mono (by decide)) (ad_cons (ed_var (i := 0)) (ad_cons (ed_add (ed_sub (ed_var (i := 1)) ed_int) ed_int) ad_nil)) g3)))
    (sd_cons (sd_set nd (i := 3) (ed_min2 rfl rfl B_min (ad_cons (ed_var (i := 3)) (ad_cons ed_int ad_nil))))
    (sd_cons (sd_set nd (i := 4) (r := .d (.int (2 + k2))) (M1 := drM b s' ++ []) ?_)
    (sd_rt (sd_ret (ed_tup (ds := [_, _, _]) (ad_cons (ed_var (i := 3)) (ad_cons (ed_var (i := 4)) (ad_cons (ed_var (i := 2)) ad_nil))) (Nat.le_of_ble_eq_true rfl)))))))))⟩
  rcases g4 with ⟨rfl, g4⟩ | ⟨hne, g4⟩
  · exact ed_ifT (bt_conv (bt_cmpD (ed_var (i := 2)) ed_str cd_eqS (nomark _)) (decide_eq_true rfl)) (ed_add ed_int (ed_callD (ds := [_]) G_law_draw (hr.mono (by decide)) (ad_cons (ed_var (i := 0)) (ad_cons (ed_sub (ed_var (i := 3)) ed_int) ad_nil)) g4))
  · exact ed_ifF (bt_conv (bt_cmpD (ed_var (i := 2)) ed_str cd_eqS (nomark _)) (decide_eq_false hne)) (ed_add ed_int (ed_callD (ds := [_]) G_law_draw (hr.mono (by decide)) (ad_cons (ed_var (i := 0)) (ad_cons (ed_min2 rfl rfl B_min (ad_cons ed_int (ad_cons (ed_add (ed_var (i := 1)) ed_int) ad_nil))) ad_nil)) g4))

theorem ok_law_line (F : FunAt K mg "_law_line" "_law_line" s_law_line) (B_range : mg "range" = none) : Fn P w K mg base "_law_line" 1 ["gear", "start", "arcs"] Sig_law_line := by
  have nd := sc_law_line.nd
  refine fn_mk F sc_law_line (fun _ _ _ _ _ _ us hl => match us, hl with | [_, _, _], _ => rfl) (by rintro ds r ⟨N, n, sd, st, arcs, h1, h2, h3, h4, hst, ha, rfl, rfl⟩ <;> rfl) ?_
  rintro f cdv A outer s H E hr ds r ⟨N, n, sd, st, arcs, h1, h2, h3, h4, hst, ha, rfl, rfl⟩
  have e0 : intsD (tipsN N n st (0 + 1)) = [PyData.int (st : Nat)] := by
    unfold intsD intsI tipsN; simp [Nat.mod_eq_of_lt hst]
  exact ⟨0, _, sd_cons (sd_set nd (i := 3) (ed_lstO (ds := [_]) (ad_cons (ed_var (i := 1)) ad_nil) (Nat.le_of_ble_eq_true rfl)))
    (sd_cons (sd_for (fun k => [some (.d (gD N n sd)), some (.d (.int (st : Nat))), some (.d (.int (arcs : Nat))), some (.own 0), none]) (fun k => [some (.d (gD N n sd)), some (.d (.int (st : Nat))), some (.d (.int (arcs : Nat))), some (.own 0), some (.d (.int (k : Int)))]) (fun k => [.lst (intsD (tipsN N n st (k + 1)))]) (passes_of rfl) (by rw [e0]; exact it_rangeN arcs B_range (ed_var (i := 2)) (by omega)) rfl (fun i hi => td_name nd (i := 4)) (fun i hi => sd_fg (sd_conv (sd_one (sd_expr (ed_app (i := 3) (j := 0) (ed_mod (ed_add (ed_ixO (jj := 0) (ed_var (i := 3)) (ed_neg ed_int) rfl (line_last i)) (ed_ixT (ed_var (i := 0)) ed_int)) (ed_ixT (ed_var (i := 0)) ed_int) (by omega)) (hz := by rw [intsD_len, tips_len]; omega)))) (by rw [line_app]; rfl)) (by repeat first | exact Sub.nil | apply Sub.no | apply Sub.same)))
    (sd_rt (sd_ret (ed_var (i := 3))))), rfl⟩

theorem ok_law_cross (F : FunAt K mg "_law_cross" "_law_cross" s_law_cross) (B_len : mg "len" = none) (B_set : mg "set" = none) : Fn P w K mg base "_law_cross" 2 ["one", "other"] Sig_law_cross := by
  have nd := sc_law_cross.nd
  refine fn_mk F sc_law_cross (fun _ _ _ _ _ _ us hl => match us, hl with | [_, _], _ => rfl) (by rintro ds r ⟨z, y, hz, hy, rfl, rfl⟩ <;> rfl) ?_
  rintro f cdv A outer s H E hr ds r ⟨z, y, hz, hy, rfl, rfl⟩
  by_cases hd : (z / 1000) = (y / 1000) ∨ (z / 1000) = (y % 1000) ∨ (z % 1000) = (y / 1000) ∨ (z % 1000) = (y % 1000)
  · refine .inl ⟨[], sd_conv (sd_ifET (bt_cmpD (ed_countTup B_len B_set (ed_conv (ed_catT (ed_var (i := 0)) (ed_var (i := 1)) (by simp) (by simp) (by simp)) (show _ = Slot.d (.tuple (([(z / 1000), (z % 1000), (y / 1000), (y % 1000)] : List Int).map .int)) from rfl)) (by simp)) ed_int (cd_ltT (by have := ss3 hd; omega)) (nomark _)) (sd_rt (sd_ret ed_bl))) (by rw [no_cross hd])⟩
  · refine .inl ⟨[], sd_conv (sd_ifEF (bt_cmpD (ed_countTup B_len B_set (ed_conv (ed_catT (ed_var (i := 0)) (ed_var (i := 1)) (by simp) (by simp) (by simp)) (show _ = Slot.d (.tuple (([(z / 1000), (z % 1000), (y / 1000), (y % 1000)] : List Int).map .int)) from rfl)) (by simp)) ed_int (cd_ltF (by rw [ss4 hz hy hd]; decide)) (nomark _)) (sd_rt (sd_ret (ed_cmpD (ed_lenI B_len (ed_rel (ed_lcI nd [("tooth", 2)] _ [2] (fun i => decide ((z / 1000) < [(y / 1000), (y % 1000)].getD i 0) && decide ([(y / 1000), (y % 1000)].getD i 0 < (z % 1000))) (fun i => [(y / 1000), (y % 1000)].getD i 0) (it_tup (fun i => .int ([(y / 1000), (y % 1000)].getD i 0)) (ed_var (i := 1)) (fun i d hd => by match i, hd with | 0, hd => (simp at hd; rw [← hd]; rfl) | 1, hd => (simp at hd; rw [← hd]; rfl) | i + 2, hd => simp at hd)) (fun i hi _ _ _ _ _ => (td_name nd (i := 2))) (fun i hi _ _ _ _ _ => bts_one (bt_chain (ed_ixT (ed_var (i := 0)) ed_int) (ed_var (i := 2)) (ed_ixT (ed_var (i := 0)) ed_int) cd_lt cd_lt)) (fun i hi hf _ _ _ _ _ => (ed_var (i := 2))) (by simp))) (.d _)) ed_int cd_eqI (nomark _))))) (by rw [← law_cross hz hy hd]; rfl)⟩


theorem ok_law_pairs (F : FunAt K mg "_law_pairs" "_law_pairs" s_law_pairs) (G_law_cross : Fn P w K mg base "_law_cross" 2 ["one", "other"] Sig_law_cross) (B_len : mg "len" = none) (B_range : mg "range" = none) : Fn P w K mg base "_law_pairs" 3 ["some"] Sig_law_pairs := by
  have nd := sc_law_pairs.nd
  refine fn_mk F sc_law_pairs (fun _ _ _ _ _ _ us hl => match us, hl with | [_], _ => rfl) (by rintro ds r ⟨l, hl, hu, rfl, rfl⟩ <;> rfl) ?_
  rintro f cdv A outer s H E hr ds r ⟨l, hl, hu, rfl, rfl⟩
  have fin : crC (l.take l.length) = crC l := by rw [List.take_length]
  refine .inl ⟨[], sd_conv (sd_cons (sd_set nd (i := 1) (r := .d (.int (crC (l.take 0) : Nat))) (ed_conv ed_int (by rw [List.take_zero]; rfl)))
    (sd_cons (sd_forW (fun i => [some (.d (.list (l.map prC))), some (.d (.int (crC (l.take i) : Nat))), none, none]) (fun i => [some (.d (.list (l.map prC))), some (.d (.int (crC (l.take i) : Nat))), some (.d (.int (i : Int))), none]) (fun _ => []) (passes_of rfl) (it_rangeN l.length B_range (ed_conv (ed_len rfl B_len (ed_var (i := 0)) (.d _)) (by rw [List.length_map])) (by omega)) (by repeat first | exact Sub.nil | apply Sub.no | apply Sub.same) (fun i hi => (td_name nd (i := 2))) ?B)
    (sd_rt (sd_ret (ed_var (i := 1)))))) (by rw [fin])⟩
  intro i hi
  have at1 : atI (l.map prC) (i : Int) = some (prC (l.getD i 0)) := atI_pos (k := i) (by rw [List.getElem?_map, List.getD_eq_getElem?_getD, List.getElem?_eq_getElem hi]; rfl)
  have um : l.getD i 0 / 1000 < l.getD i 0 % 1000 := hu _ (by rw [List.getD_eq_getElem?_getD, List.getElem?_eq_getElem hi]; exact List.getElem_mem hi)
  have ut : ∀ j, j < (l.take i).length → (l.take i).getD j 0 / 1000 < (l.take i).getD j 0 % 1000 := fun j hj => hu _ (List.mem_of_mem_take (i := i) (by rw [List.getD_eq_getElem?_getD, List.getElem?_eq_getElem hj]; exact List.getElem_mem hj))
  have tl : (l.take i).length ≤ 300 := by rw [List.length_take]; omega
  refine ⟨[some (.d (.list (l.map prC))), some (.d (.int (crC (l.take (i + 1)) : Nat))), some (.d (.int (i : Int))), none], ?_, (by repeat first | exact Sub.nil | apply Sub.no | apply Sub.same)⟩
  exact sd_one (sd_set nd (i := 1) (r := .d (.int (crC (l.take (i + 1)) : Nat))) (ed_conv (ed_add (ed_var (i := 1)) (ed_conv (ed_len rfl B_len (ed_rel (ed_lcO nd [("other", 3)] _ [3] (fun j => crossZ (l.getD i 0) ((l.take i).getD j 0)) (fun j => prC ((l.take i).getD j 0)) (it_list (fun j => prC ((l.take i).getD j 0)) (ed_conv (ed_rel (ed_takeD i (ed_var (i := 0)) (ed_var (i := 2)) (.d _))) (by rw [← List.map_take])) (fun j d hd => prs_item hd)) (fun j hj _ _ _ _ _ => (td_name nd (i := 3))) (fun j hj _ _ _ _ _ => bts_one (bt_val (ed_call (ds := [_, _]) G_law_cross (hr.mono (by decide)) (ad_cons (ed_ixL (ed_var (i := 0)) (ed_var (i := 2)) at1) (ad_cons (ed_var (i := 3)) ad_nil)) ⟨_, _, um, ut j (by rw [List.length_map] at hj; exact hj), rfl, rfl⟩))) (fun j hj hf _ _ _ _ _ => (ed_var (i := 3))) (by rw [List.length_map]; omega))) (.d _)) (by rw [List.length_map, filt_len]))) (by rw [cr_take hi, Int.natCast_add])))


theorem ok_law {f : Addr} {fd : FuncData} (Fl : Fun K "law" "law" s_law f fd) (G_law_start : FnS P w K mg base "_law_start") (G_law_gear : FnD P w K mg base "_law_gear" 3 ["draws"] Sig_law_gear) (G_law_line : Fn P w K mg base "_law_line" 1 ["gear", "start", "arcs"] Sig_law_line) (G_petals : Fn P w K mg base "petals" 4 ["gear"] (SigV fun N n _ => vI (petN N n))) (G_law_draw : FnD P w K mg base "_law_draw" 1 ["draws", "limit"] Sig_law_draw) (G_chords : Fn P w K mg base "chords" 4 ["gear", "start", "arcs"] (SigSK chMax fun N n s st k => .new (chordsD N n st k))) (G_crossings_after : Fn P w K mg base "crossings_after" 4 ["gear", "arcs"] (fun ds r => ∃ N n s arcs, GOk N n s ∧ arcs ≤ chMax ∧ ds = [gD N n s, .int (arcs : Nat)] ∧ r = vI (crC (ssort (chZ N n 0 arcs)) : Nat))) (G_law_pairs : Fn P w K mg base "_law_pairs" 3 ["some"] Sig_law_pairs) (G_crossings : Fn P w K mg base "crossings" 4 ["gear"] (SigV fun N n _ => vI (crN N n : Nat))) (G_crossed_by : Fn P w K mg base "crossed_by" 4 ["gear", "start", "tooth"] Sig_crossed_by) (G_chord_step : Fn P w K mg base "chord_step" 4 ["gear"] (SigV fun N n _ => vI (stepN N n : Nat))) (G_law_cross : Fn P w K mg base "_law_cross" 2 ["one", "other"] Sig_law_cross) (B_len : mg "len" = none) (B_range : mg "range" = none) (B_min : mg "min" = none) (B_max : mg "max" = none) (B_abs : mg "abs" = none) (B_sorted : mg "sorted" = none) (B_set : mg "set" = none) : FnOk P w K mg base (L2.CX P w) 8 f fd ["script"] (spLaw K) := by
  have nd := sc_law.nd
  refine law_ok (k := 7) Fl sc_law G_law_start rfl (by first | exact .inl rfl | exact .inr (.inl rfl)) (by first | exact .inl rfl | exact .inr rfl) rfl ?_ (by decide)
  intro cdv A outer sh H E hr b s hs
  obtain ⟨N, n, sd, s1, hg, hs1, g1⟩ := gear_ex hs
  obtain ⟨h1, h2, h3, h4⟩ := hg.pos
  have q1 := hg.N150
  have q2 := hg.n150
  have q3 := hg.N3
  have q4 := hg.n2
  obtain ⟨ist, s2, a2, b2, hs2, g2⟩ := draw_ex hs1 (l := (N : Int)) (by omega)
  obtain ⟨st, rfl⟩ : ∃ z : Nat, ist = (z : Int) := ⟨ist.toNat, by omega⟩
  obtain ⟨iarcs, s3, a3, b3, hs3, g3⟩ := draw_ex hs2 (l := (30 : Int)) (by omega)
  obtain ⟨arcs, rfl⟩ : ∃ z : Nat, iarcs = (z : Int) := ⟨iarcs.toNat, by omega⟩
  obtain ⟨it, s4, a4, b4, hs4, g4⟩ := draw_ex hs3 (l := (N : Int)) (by omega)
  obtain ⟨t, rfl⟩ : ∃ z : Nat, it = (z : Int) := ⟨it.toNat, by omega⟩
  have hst : st < N := by omega
  have ht : t < N := by omega
  have pl : petN N n ≤ N := pet_le
  have pp := pet_pos (n := n) h1
  have hN2 : N ≤ 1000 := by omega
  have clen := closed_len (n := n) (st := st) h1 hN2
  have chl : (ssort (chZ N n st (petN N n))).length ≤ petN N n := by rw [clen]; split <;> omega
  have fl := Nat.mod_lt (t + n) h1
  have ownu : (t + n) % N ≠ t → chCode t ((t + n) % N) / 1000 < chCode t ((t + n) % N) % 1000 := fun h => by
    obtain ⟨e1, e2⟩ := code_parts (x := t) (y := (t + n) % N) (by omega) (by omega)
    rw [e1, e2]; omega
  have evu : ∀ i, i < (ssort (chZ N n st (petN N n))).length → (ssort (chZ N n st (petN N n))).getD i 0 / 1000 < (ssort (chZ N n st (petN N n))).getD i 0 % 1000 := fun i hi => ch_up h1 hN2 (show (ssort (chZ N n st (petN N n))).getD i 0 ∈ ssort (chZ N n st (petN N n)) by rw [List.getD_eq_getElem?_getD, List.getElem?_eq_getElem hi]; exact List.getElem_mem hi)
  have inl : ((t : Nat) : Int) ∈ intsI (tipsN N n st (petN N n + 1)) ↔ t ∈ tipsN N n st (petN N n) := by rw [mem_intsI, tips_more_mem h1 (Nat.le_succ _)]
  have rs : ssort (intsI (tipsN N n st (petN N n + 1))) = isort (intsI (tipsN N n st (petN N n))) := ring_ss h1
  refine ⟨drM b s4 ++ [], ?_⟩
  rw [show drM b s = drM b s ++ [] by rw [List.append_nil]]
  refine sd_cons (sd_set nd (i := 2) (ed_callD (ds := []) G_law_gear (hr.mono (by decide)) (ad_cons (ed_var (i := 1)) ad_nil) g1)) ?_
  refine sd_cons (sd_par nd (i := 3) (j := 4) (ad_cons (ed_callD (ds := [_]) G_law_draw (hr.mono (by decide)) (ad_cons (ed_var (i := 1)) (ad_cons (ed_ixT (ed_var (i := 2)) ed_int) ad_nil)) g2) (ad_cons (ed_callD (ds := [_]) G_law_draw (hr.mono (by decide)) (ad_cons (ed_var (i := 1)) (ad_cons ed_int ad_nil)) g3) ad_nil))) ?_
  refine sd_cons (sd_set nd (i := 5) (ed_rel (ed_callO (ds := [_, _, _]) G_law_line (hr.mono (by decide)) (ad_cons (ed_var (i := 2)) (ad_cons (ed_var (i := 3)) (ad_cons (ed_var (i := 4)) ad_nil))) ⟨N, n, sd, st, arcs, h1, h2, h3, h4, hst, by omega, rfl, rfl⟩))) ?_
  refine sd_cons (sd_set nd (i := 6) (ed_rel (ed_sortSetP hr.units B_sorted B_set (ed_conv (ed_rel (ed_lcO nd [("k", 14)] _ [14] (fun i => !decide (((tpN N n st i : Nat) : Int) = ((tpN N n st (i + 1) : Nat) : Int))) (fun i => .tuple [.int (min ((tpN N n st i : Nat) : Int) ((tpN N n st (i + 1) : Nat) : Int)), .int (max ((tpN N n st i : Nat) : Int) ((tpN N n st (i + 1) : Nat) : Int))]) (it_rangeN arcs B_range (ed_var (i := 4)) (by omega)) (fun i hi _ _ _ _ _ => (td_name nd (i := 14))) (fun i hi _ _ _ _ _ => bts_one (bt_cmpD (ed_ixI (ed_var (i := 5)) (ed_var (i := 14)) (atI_pos (k := i) (intsI_get (tips_get (Nat.lt_succ_of_lt hi))))) (ed_ixI (ed_var (i := 5)) (ed_add (ed_var (i := 14)) ed_int) (atI_pos (k := i + 1) (intsI_get (tips_get (Nat.succ_lt_succ hi))))) cd_neI (nomark _))) (fun i hi hf _ _ _ _ _ => (ed_tup (ds := [_, _]) (ad_cons (ed_min2 rfl rfl B_min (ad_cons (ed_ixI (ed_var (i := 5)) (ed_var (i := 14)) (atI_pos (k := i) (intsI_get (tips_get (Nat.lt_succ_of_lt hi))))) (ad_cons (ed_ixI (ed_var (i := 5)) (ed_add (ed_var (i := 14)) ed_int) (atI_pos (k := i + 1) (intsI_get (tips_get (Nat.succ_lt_succ hi))))) ad_nil))) (ad_cons (ed_max2 rfl rfl B_max (ad_cons (ed_ixI (ed_var (i := 5)) (ed_var (i := 14)) (atI_pos (k := i) (intsI_get (tips_get (Nat.lt_succ_of_lt hi))))) (ad_cons (ed_ixI (ed_var (i := 5)) (ed_add (ed_var (i := 14)) ed_int) (atI_pos (k := i + 1) (intsI_get (tips_get (Nat.succ_lt_succ hi))))) ad_nil))) ad_nil)) (Nat.le_of_ble_eq_true rfl))) (by omega))) (by rw [ch_gath2 h1 hN2])) (.d _) (ch_bnd h1 hN2) (by have := ch_len (N := N) (n := n) (st := st) (arcs := arcs); omega)))) ?_
  refine sd_ifEF (bw_bt (bw_or (bt_cmpD (ed_rel (ed_callO (ds := [_, _, _]) G_chords (hr.mono (by decide)) (ad_cons (ed_var (i := 2)) (ad_cons (ed_var (i := 3)) (ad_cons (ed_var (i := 4)) ad_nil))) ⟨N, n, sd, st, arcs, hg, hst, (show arcs ≤ 150 by omega), rfl, rfl⟩)) (ed_var (i := 6)) (cd_neT hr.units (.d _) (.d _) (gd_prs _) rfl) (nomark _)) (bw_or1 (bt_cmpD (ed_call (ds := [_, _]) G_crossings_after (hr.mono (by decide)) (ad_cons (ed_var (i := 2)) (ad_cons (ed_var (i := 4)) ad_nil)) ⟨N, n, sd, arcs, hg, (show arcs ≤ 150 by omega), rfl, rfl⟩) (ed_call (ds := [_]) G_law_pairs (hr.mono (by decide)) (ad_cons (ed_var (i := 6)) ad_nil) ⟨ssort (chZ N n st arcs), by have := ssort_len_le (chZ N n st arcs); have := ch_len (N := N) (n := n) (st := st) (arcs := arcs); omega, fun z hz => ch_up h1 hN2 hz, rfl, rfl⟩) (cd_neIT (by rw [cr_rot (t := st) h1 hN2])) (nomark _))))) ?_
  refine sd_cons (sd_set nd (i := 7) (ed_call (ds := [_]) G_petals (hr.mono (by decide)) (ad_cons (ed_var (i := 2)) ad_nil) ⟨N, n, sd, hg, rfl, rfl⟩)) ?_
  refine sd_cons (sd_set nd (i := 5) (ed_rel (ed_callO (ds := [_, _, _]) G_law_line (hr.mono (by decide)) (ad_cons (ed_var (i := 2)) (ad_cons (ed_var (i := 3)) (ad_cons (ed_var (i := 7)) ad_nil))) ⟨N, n, sd, st, (petN N n), h1, h2, h3, h4, hst, by omega, rfl, rfl⟩))) ?_
  refine sd_cons (sd_set nd (i := 8) (ed_rel (ed_sortSetP hr.units B_sorted B_set (ed_conv (ed_rel (ed_lcO nd [("k", 14)] _ [14] (fun i => !decide (((tpN N n st i : Nat) : Int) = ((tpN N n st (i + 1) : Nat) : Int))) (fun i => .tuple [.int (min ((tpN N n st i : Nat) : Int) ((tpN N n st (i + 1) : Nat) : Int)), .int (max ((tpN N n st i : Nat) : Int) ((tpN N n st (i + 1) : Nat) : Int))]) (it_rangeN (petN N n) B_range (ed_var (i := 7)) (by omega)) (fun i hi _ _ _ _ _ => (td_name nd (i := 14))) (fun i hi _ _ _ _ _ => bts_one (bt_cmpD (ed_ixI (ed_var (i := 5)) (ed_var (i := 14)) (atI_pos (k := i) (intsI_get (tips_get (Nat.lt_succ_of_lt hi))))) (ed_ixI (ed_var (i := 5)) (ed_add (ed_var (i := 14)) ed_int) (atI_pos (k := i + 1) (intsI_get (tips_get (Nat.succ_lt_succ hi))))) cd_neI (nomark _))) (fun i hi hf _ _ _ _ _ => (ed_tup (ds := [_, _]) (ad_cons (ed_min2 rfl rfl B_min (ad_cons (ed_ixI (ed_var (i := 5)) (ed_var (i := 14)) (atI_pos (k := i) (intsI_get (tips_get (Nat.lt_succ_of_lt hi))))) (ad_cons (ed_ixI (ed_var (i := 5)) (ed_add (ed_var (i := 14)) ed_int) (atI_pos (k := i + 1) (intsI_get (tips_get (Nat.succ_lt_succ hi))))) ad_nil))) (ad_cons (ed_max2 rfl rfl B_max (ad_cons (ed_ixI (ed_var (i := 5)) (ed_var (i := 14)) (atI_pos (k := i) (intsI_get (tips_get (Nat.lt_succ_of_lt hi))))) (ad_cons (ed_ixI (ed_var (i := 5)) (ed_add (ed_var (i := 14)) ed_int) (atI_pos (k := i + 1) (intsI_get (tips_get (Nat.succ_lt_succ hi))))) ad_nil))) ad_nil)) (Nat.le_of_ble_eq_true rfl))) (by omega))) (by rw [ch_gath2 h1 hN2])) (.d _) (ch_bnd h1 hN2) (by have := ch_len (N := N) (n := n) (st := st) (arcs := (petN N n)); omega)))) ?_
  refine sd_ifEF (bt_cmpD (ed_rel (ed_callO (ds := [_, _, _]) G_chords (hr.mono (by decide)) (ad_cons (ed_var (i := 2)) (ad_cons (ed_var (i := 3)) (ad_cons (ed_var (i := 7)) ad_nil))) ⟨N, n, sd, st, petN N n, hg, hst, (show petN N n ≤ 150 by omega), rfl, rfl⟩)) (ed_var (i := 8)) (cd_neT hr.units (.d _) (.d _) (gd_prs _) rfl) (nomark _)) ?_
  refine sd_ifEF (bt_conv (bw_bt (bw_andB (k2 := false) (bt_cmpD (ed_var (i := 7)) ed_int cd_lt (nomark _)) fun h => bw_and1 (bt_cmpD (ed_call (ds := [_]) G_crossings (hr.mono (by decide)) (ad_cons (ed_var (i := 2)) ad_nil) ⟨N, n, sd, hg, rfl, rfl⟩) (ed_call (ds := [_]) G_law_pairs (hr.mono (by decide)) (ad_cons (ed_var (i := 8)) ad_nil) ⟨ssort (chZ N n st (petN N n)), by have := ssort_len_le (chZ N n st (petN N n)); have := ch_len (N := N) (n := n) (st := st) (arcs := (petN N n)); omega, fun z hz => ch_up h1 hN2 hz, rfl, rfl⟩) (cd_neIT (by rw [star h1 hN2])) (nomark _)))) (Bool.and_false _)) ?_
  refine sd_cons (sd_set nd (i := 9) (ed_callD (ds := [_]) G_law_draw (hr.mono (by decide)) (ad_cons (ed_var (i := 1)) (ad_cons (ed_ixT (ed_var (i := 2)) ed_int) ad_nil)) g4)) ?_
  refine sd_cons (sd_set nd (i := 10) (r := .d (.int ((t + n) % N : Nat))) (ed_conv (ed_mod (ed_add (ed_var (i := 9)) (ed_ixT (ed_var (i := 2)) ed_int)) (ed_ixT (ed_var (i := 2)) ed_int) (by omega)) (by rw [Int.natCast_emod, Int.natCast_add]))) ?_
  refine sd_cons (sd_set nd (i := 11) ed_int) ?_
  refine sd_cons (show S1 _ _ _ _ _ (.nx [none, some (.own 0), some (.d (gD N n sd)), some (.d (.int (st : Nat))), some (.d (.int (arcs : Nat))), some (.d (.list (intsD (tipsN N n st (petN N n + 1))))), some (.d (.list (chordsD N n st arcs))), some (.d (.int (petN N n : Nat))), some (.d (.list (chordsD N n st (petN N n)))), some (.d (.int (t : Nat))), some (.d (.int ((t + n) % N : Nat))), some (.d (.int (crsBy N n st t : Nat))), none, none, none, none] (drM b s4 ++ [])) from ?S) ?_
  case S =>
    by_cases hc : t ∈ tipsN N n st (petN N n) ∧ (t + n) % N ≠ t
    · exact sd_ifT (bt_conv (bw_bt (bw_andB (bt_cmpD (ed_var (i := 9)) (ed_var (i := 5)) (cd_in (.d _)) rfl) fun h => bw_and1 (bt_cmpD (ed_var (i := 10)) (ed_var (i := 9)) cd_neI (nomark _)))) (by rw [decide_eq_true (inl.mpr hc.1), decide_eq_false (by have := hc.2; omega)]; rfl)) (sd_one (sd_set nd (i := 11) (ed_conv (ed_len rfl B_len (ed_rel (ed_lcO nd [("other", 15)] _ [15] (fun i => crossZ (chCode t ((t + n) % N)) ((ssort (chZ N n st (petN N n))).getD i 0)) (fun i => prC ((ssort (chZ N n st (petN N n))).getD i 0)) (it_list (fun i => prC ((ssort (chZ N n st (petN N n))).getD i 0)) (ed_var (i := 8)) (fun i d hd => prs_item hd)) (fun i hi _ _ _ _ _ => (td_name nd (i := 15))) (fun i hi _ _ _ _ _ => bts_one (bt_val (ed_call (ds := [_, _]) G_law_cross (hr.mono (by decide)) (ad_cons (ed_conv (ed_tup (ds := [_, _]) (ad_cons (ed_min2 rfl rfl B_min (ad_cons (ed_var (i := 9)) (ad_cons (ed_var (i := 10)) ad_nil))) (ad_cons (ed_max2 rfl rfl B_max (ad_cons (ed_var (i := 9)) (ad_cons (ed_var (i := 10)) ad_nil))) ad_nil)) (Nat.le_of_ble_eq_true rfl)) (by rw [← prC_code (by omega) (by omega)])) (ad_cons (ed_var (i := 15)) ad_nil)) ⟨chCode t ((t + n) % N), _, ownu hc.2, evu i (by rw [List.length_map] at hi; exact hi), rfl, rfl⟩))) (fun i hi hf _ _ _ _ _ => (ed_var (i := 15))) (by rw [List.length_map]; omega))) (.d _)) (by rw [List.length_map, filt_len]; unfold crsBy; rw [if_pos ⟨hc.1, hc.2⟩]))))
    · have e0 : crsBy N n st t = 0 := by unfold crsBy; rw [if_neg hc]
      rw [e0]
      refine sd_ifF (bt_conv (bw_bt (bw_andB (bt_cmpD (ed_var (i := 9)) (ed_var (i := 5)) (cd_in (.d _)) rfl) fun h => bw_and1 (bt_cmpD (ed_var (i := 10)) (ed_var (i := 9)) cd_neI (nomark _)))) ?_) sd_nil
      by_cases hm : t ∈ tipsN N n st (petN N n)
      · have hf : (t + n) % N = t := Classical.byContradiction fun z => hc ⟨hm, z⟩
        rw [hf, decide_eq_true (p := ((t : Nat) : Int) = ((t : Nat) : Int)) rfl]; exact Bool.and_false _
      · rw [decide_eq_false (fun z => hm (inl.mp z)), Bool.false_and]
  refine sd_ifEF (bw_bt (bw_or (bt_cmpD (ed_call (ds := [_, _, _]) G_crossed_by (hr.mono (by decide)) (ad_cons (ed_var (i := 2)) (ad_cons (ed_var (i := 3)) (ad_cons (ed_var (i := 9)) ad_nil))) ⟨N, n, sd, st, t, hg, hst, ht, rfl, rfl⟩) (ed_var (i := 11)) (cd_neIT rfl) (nomark _)) (bw_or1 (bt_conv (bw_bt (bw_andB (k2 := false) (bt_cmpD (ed_var (i := 9)) (ed_var (i := 5)) (cd_in (.d _)) rfl) fun h => bw_and1 (bt_cmpD (ed_mul (ed_var (i := 11)) (ed_len rfl B_len (ed_var (i := 8)) (.d _)) (by rw [List.length_map]; omega)) (ed_mul ed_int (ed_call (ds := [_]) G_crossings (hr.mono (by decide)) (ad_cons (ed_var (i := 2)) ad_nil) ⟨N, n, sd, hg, rfl, rfl⟩) (by omega)) (cd_neIT (by rw [List.length_map, ← Int.natCast_mul, many_all h1 hN2 ht (inl.mp (of_decide_eq_true h)), Int.natCast_mul]; rfl)) (nomark _)))) (Bool.and_false _))))) ?_
  refine sd_cons (sd_set nd (i := 12) (r := .d (.list ((isort (intsI (tipsN N n st (petN N n)))).map .int))) (ed_conv (ed_rel (ed_sortSet B_sorted B_set (ed_var (i := 5)) (.d _) (by rw [intsI_len, tips_len]; omega))) (by rw [rs]))) ?_
  by_cases hW : 1 < petN N n
  · obtain ⟨a, c, ha, hc, e1, e2, e3⟩ := first_two (n := n) (st := st) h1 hN2 hst hW
    refine sd_cons (sd_ifT (bt_cmpD (ed_var (i := 7)) ed_int (cd_gtT (by omega)) (nomark _)) (sd_cons (sd_set nd (i := 13) (r := .d (.int ((((c : Nat) : Int) - ((a : Nat) : Int)).natAbs : Nat))) (ed_conv (ed_abs rfl B_abs (ed_sub (ed_indexI (ed_var (i := 12)) (ed_conv (ed_ixI (ed_var (i := 5)) ed_int (atI_pos (k := 1) (intsI_get (tips_get (show 1 < petN N n + 1 by omega))))) (show Slot.d (.int ((tpN N n st 1 : Nat) : Int)) = _ from by rw [e2])) (.d _) (.d _) (ring_get h1 hc) (ring_first h1 hc)) (ed_indexI (ed_var (i := 12)) (ed_conv (ed_ixI (ed_var (i := 5)) ed_int (atI_pos (k := 0) (intsI_get (tips_get (show 0 < petN N n + 1 by omega))))) (show Slot.d (.int ((tpN N n st 0 : Nat) : Int)) = _ from by rw [e1])) (.d _) (.d _) (ring_get h1 ha) (ring_first h1 ha)))) (by congr 2; split <;> omega))) (sd_ifEF (bt_cmpD (ed_call (ds := [_]) G_chord_step (hr.mono (by decide)) (ad_cons (ed_var (i := 2)) ad_nil) ⟨N, n, sd, hg, rfl, rfl⟩) (ed_min2 rfl rfl B_min (ad_cons (ed_var (i := 13)) (ad_cons (ed_sub (ed_var (i := 7)) (ed_var (i := 13))) ad_nil))) (cd_neIT (by rw [← e3])) (nomark _)) sd_nil))) (sd_rt (sd_ret (ed_conv (ed_andB (ed_cmpD (ed_call (ds := [_, _]) G_crossings_after (hr.mono (by decide)) (ad_cons (ed_var (i := 2)) (ad_cons (ed_conv (ed_min2 rfl rfl B_min (ad_cons ed_int (ad_cons (ed_var (i := 7)) ad_nil))) (show _ = Slot.d (.int ((petN N n : Nat) : Int)) from by congr 2; omega)) ad_nil)) ⟨N, n, sd, petN N n, hg, (show petN N n ≤ 150 by omega), rfl, rfl⟩) (ed_call (ds := [_]) G_crossings (hr.mono (by decide)) (ad_cons (ed_var (i := 2)) ad_nil) ⟨N, n, sd, hg, rfl, rfl⟩) (cd_eqIT (by rw [star h1 hN2])) (nomark _)) fun _ => ed_one (ed_cmpD (ed_len rfl B_len (ed_var (i := 8)) (.d _)) (ed_if (r := .d (.int (if 2 < petN N n then ((petN N n : Nat) : Int) else ((petN N n : Nat) : Int) - 1))) (bt_cmpD (ed_var (i := 7)) ed_int cd_gt (nomark _)) (fun h => ed_conv (ed_var (i := 7)) (by rw [if_pos (by have := of_decide_eq_true h; omega)])) (fun h => ed_conv (ed_sub (ed_var (i := 7)) ed_int) (by rw [if_neg (by have := of_decide_eq_false h; omega)]))) (cd_eqIT (by rw [List.length_map, clen]; split <;> omega)) (nomark _))) rfl)))
  · refine sd_cons (sd_ifF (bt_cmpD (ed_var (i := 7)) ed_int (cd_gtF (by omega)) (nomark _)) (sd_ifEF (bw_bt (bw_or (bt_cmpD (ed_call (ds := [_]) G_chord_step (hr.mono (by decide)) (ad_cons (ed_var (i := 2)) ad_nil) ⟨N, n, sd, hg, rfl, rfl⟩) ed_int (cd_neIT (by rw [step_one h1 (by omega)]; rfl)) (nomark _)) (bw_or1 (bt_cmpD (ed_var (i := 8)) (ed_rel (ed_lstO (ds := []) ad_nil (Nat.le_of_ble_eq_true rfl))) (cd_neT hr.units (.d _) (.d _) (gd_prs _) (by show PyData.list ((ssort (chZ N n st (petN N n))).map prC) = _; rw [List.eq_nil_of_length_eq_zero (show (ssort (chZ N n st (petN N n))).length = 0 by rw [clen]; split <;> omega)]; rfl)) (nomark _))))) sd_nil)) (sd_rt (sd_ret (ed_conv (ed_andB (ed_cmpD (ed_call (ds := [_, _]) G_crossings_after (hr.mono (by decide)) (ad_cons (ed_var (i := 2)) (ad_cons (ed_conv (ed_min2 rfl rfl B_min (ad_cons ed_int (ad_cons (ed_var (i := 7)) ad_nil))) (show _ = Slot.d (.int ((petN N n : Nat) : Int)) from by congr 2; omega)) ad_nil)) ⟨N, n, sd, petN N n, hg, (show petN N n ≤ 150 by omega), rfl, rfl⟩) (ed_call (ds := [_]) G_crossings (hr.mono (by decide)) (ad_cons (ed_var (i := 2)) ad_nil) ⟨N, n, sd, hg, rfl, rfl⟩) (cd_eqIT (by rw [star h1 hN2])) (nomark _)) fun _ => ed_one (ed_cmpD (ed_len rfl B_len (ed_var (i := 8)) (.d _)) (ed_if (r := .d (.int (if 2 < petN N n then ((petN N n : Nat) : Int) else ((petN N n : Nat) : Int) - 1))) (bt_cmpD (ed_var (i := 7)) ed_int cd_gt (nomark _)) (fun h => ed_conv (ed_var (i := 7)) (by rw [if_pos (by have := of_decide_eq_true h; omega)])) (fun h => ed_conv (ed_sub (ed_var (i := 7)) ed_int) (by rw [if_neg (by have := of_decide_eq_false h; omega)]))) (cd_eqIT (by rw [List.length_map, clen]; split <;> omega)) (nomark _))) rfl)))

end
theorem all_of {l : PySem.W.OpenLaw} {w : World} {K : PySem.W.Frag} {h : Heap} {mg : Str → Option Value} {fa : Addr} (KX : K.In h) (G : h.Ns mainGlobals mg) (hfa : mg "law" = some (.ref fa))
    (F_is_int : FunAt K mg "is_int" "is_int" s_is_int)
    (F_common : FunAt K mg "common" "common" s_common)
    (F_is_gear : FunAt K mg "is_gear" "is_gear" s_is_gear)
    (F_check_gear : FunAt K mg "check_gear" "check_gear" s_check_gear)
    (F_check_tooth : FunAt K mg "check_tooth" "check_tooth" s_check_tooth)
    (F_check_arcs : FunAt K mg "check_arcs" "check_arcs" s_check_arcs)
    (F_shared_of : FunAt K mg "shared_of" "shared_of" s_shared_of)
    (F_petals_of : FunAt K mg "petals_of" "petals_of" s_petals_of)
    (F_petals : FunAt K mg "petals" "petals" s_petals)
    (F_rounds_of : FunAt K mg "rounds_of" "rounds_of" s_rounds_of)
    (F_tips_of : FunAt K mg "tips_of" "tips_of" s_tips_of)
    (F_chord_step : FunAt K mg "chord_step" "chord_step" s_chord_step)
    (F_chords_of : FunAt K mg "chords_of" "chords_of" s_chords_of)
    (F_chords : FunAt K mg "chords" "chords" s_chords)
    (F_cross : FunAt K mg "cross" "cross" s_cross)
    (F_crossings_after : FunAt K mg "crossings_after" "crossings_after" s_crossings_after)
    (F_crossings : FunAt K mg "crossings" "crossings" s_crossings)
    (F_crossed_by : FunAt K mg "crossed_by" "crossed_by" s_crossed_by)
    (F_law_start : FunAt K mg "_law_start" "_law_start" s_law_start)
    (F_law_draw : FunAt K mg "_law_draw" "_law_draw" s_law_draw)
    (F_law_pick : FunAt K mg "_law_pick" "_law_pick" s_law_pick)
    (F_law_gear : FunAt K mg "_law_gear" "_law_gear" s_law_gear)
    (F_law_line : FunAt K mg "_law_line" "_law_line" s_law_line)
    (F_law_cross : FunAt K mg "_law_cross" "_law_cross" s_law_cross)
    (F_law_pairs : FunAt K mg "_law_pairs" "_law_pairs" s_law_pairs)
    (F_law : FunAt K mg "law" "law" s_law)
    (X_WheelError : ∃ C, Exc K mg "WheelError" C)
    (X_BadGear : ∃ C, Exc K mg "BadGear" C)
    (X_BadTooth : ∃ C, Exc K mg "BadTooth" C)
    (X_BadNumber : ∃ C, Exc K mg "BadNumber" C)
    (B_ValueError : mg "ValueError" = none)
    (B_isinstance : mg "isinstance" = none)
    (B_len : mg "len" = none)
    (B_range : mg "range" = none)
    (B_min : mg "min" = none)
    (B_max : mg "max" = none)
    (B_abs : mg "abs" = none)
    (B_sum : mg "sum" = none)
    (B_list : mg "list" = none)
    (B_sorted : mg "sorted" = none)
    (B_set : mg "set" = none)
    (B_zip : mg "zip" = none)
    (B_enumerate : mg "enumerate" = none)
    (B_int : mg "int" = none)
    (B_bool : mg "bool" = none)
    (B_str : mg "str" = none)
    (B_tuple : mg "tuple" = none) :
    ∃ fd : FuncData, (∀ (s : Shared) (v : Value), BindsTo s fd ⟨[v], []⟩ [("script", v)]) ∧ ∀ base : Heap, K.In base → base.Ns mainGlobals mg → FnOk l.prog w K mg base (L2.CX l.prog w) 8 fa fd ["script"] (spLaw K) := by
  obtain ⟨fl, fdl, Fl, gl⟩ := F_law.ex
  have e := hfa.symm.trans gl
  cases e
  obtain ⟨C_WheelError, X_WheelError⟩ := X_WheelError
  obtain ⟨C_BadGear, X_BadGear⟩ := X_BadGear
  obtain ⟨C_BadTooth, X_BadTooth⟩ := X_BadTooth
  obtain ⟨C_BadNumber, X_BadNumber⟩ := X_BadNumber
  refine ⟨fdl, ?_, fun base _ _ => ?_⟩
  · obtain ⟨oc, od, kV, doc, pm, an, cdv, ct, osl, rfl, lk, hcd⟩ := Fl.ex
    exact fun s v => .of_eq rfl
  · have G_is_int := ok_is_int (P := l.prog) (w := w) (base := base) F_is_int B_isinstance B_int B_bool
    have G_common := ok_common (P := l.prog) (w := w) (base := base) F_common
    have G_is_gear := ok_is_gear (P := l.prog) (w := w) (base := base) F_is_gear G_is_int B_isinstance B_tuple B_str B_len
    have G_check_gear := ok_check_gear (P := l.prog) (w := w) (base := base) (⟨C_BadGear, C_BadTooth, C_BadNumber, 0, 0, 0⟩ : Cl) F_check_gear G_is_gear X_BadGear
    have G_check_tooth := ok_check_tooth (P := l.prog) (w := w) (base := base) (⟨C_BadGear, C_BadTooth, C_BadNumber, 0, 0, 0⟩ : Cl) F_check_tooth G_is_int X_BadTooth
    have G_check_arcs := ok_check_arcs (P := l.prog) (w := w) (base := base) (⟨C_BadGear, C_BadTooth, C_BadNumber, 0, 0, 0⟩ : Cl) F_check_arcs G_is_int X_BadNumber
    have G_shared_of := ok_shared_of (P := l.prog) (w := w) (base := base) F_shared_of G_common
    have G_petals_of := ok_petals_of (P := l.prog) (w := w) (base := base) F_petals_of G_shared_of
    have G_petals := ok_petals (P := l.prog) (w := w) (base := base) (⟨C_BadGear, C_BadTooth, C_BadNumber, 0, 0, 0⟩ : Cl) F_petals G_check_gear G_petals_of
    have G_rounds_of := ok_rounds_of (P := l.prog) (w := w) (base := base) F_rounds_of G_shared_of
    have G_tips_of := ok_tips_of (P := l.prog) (w := w) (base := base) F_tips_of B_range
    have G_chord_step := ok_chord_step (P := l.prog) (w := w) (base := base) (⟨C_BadGear, C_BadTooth, C_BadNumber, 0, 0, 0⟩ : Cl) F_chord_step G_check_gear G_petals_of G_rounds_of B_min
    have G_chords_of := ok_chords_of (P := l.prog) (w := w) (base := base) F_chords_of G_tips_of B_min B_max B_sorted B_set B_zip
    have G_chords := ok_chords (P := l.prog) (w := w) (base := base) (⟨C_BadGear, C_BadTooth, C_BadNumber, 0, 0, 0⟩ : Cl) F_chords G_check_gear G_check_tooth G_check_arcs G_chords_of
    have G_cross := ok_cross (P := l.prog) (w := w) (base := base) F_cross
    have G_crossings_after := ok_crossings_after (P := l.prog) (w := w) (base := base) (⟨C_BadGear, C_BadTooth, C_BadNumber, 0, 0, 0⟩ : Cl) F_crossings_after G_check_gear G_check_arcs G_chords_of G_cross B_len B_sum B_enumerate
    have G_crossings := ok_crossings (P := l.prog) (w := w) (base := base) (⟨C_BadGear, C_BadTooth, C_BadNumber, 0, 0, 0⟩ : Cl) F_crossings G_check_gear G_petals_of G_rounds_of B_min
    have G_crossed_by := ok_crossed_by (P := l.prog) (w := w) (base := base) (⟨C_BadGear, C_BadTooth, C_BadNumber, 0, 0, 0⟩ : Cl) F_crossed_by G_check_gear G_check_tooth G_tips_of G_petals_of G_chords_of G_cross B_len B_min B_max
    have G_law_start := ok_law_start (P := l.prog) (w := w) (base := base) F_law_start B_list
    have G_law_draw := ok_law_draw (P := l.prog) (w := w) (base := base) F_law_draw B_len
    have G_law_pick := ok_law_pick (P := l.prog) (w := w) (base := base) F_law_pick G_law_draw B_len
    have G_law_gear := ok_law_gear (P := l.prog) (w := w) (base := base) F_law_gear G_law_draw G_law_pick B_min
    have G_law_line := ok_law_line (P := l.prog) (w := w) (base := base) F_law_line B_range
    have G_law_cross := ok_law_cross (P := l.prog) (w := w) (base := base) F_law_cross B_len B_set
    have G_law_pairs := ok_law_pairs (P := l.prog) (w := w) (base := base) F_law_pairs G_law_cross B_len B_range
    exact ok_law (P := l.prog) (w := w) (base := base) Fl G_law_start G_law_gear G_law_line G_petals G_law_draw G_chords G_crossings_after G_law_pairs G_crossings G_crossed_by G_chord_step G_law_cross B_len B_range B_min B_max B_abs B_sorted B_set
end K06
open PySem PySem.W PyProof.Rows
set_option maxRecDepth 100000 in
set_option maxHeartbeats 0 in
theorem PySem.Challenge.cw_wheelcurves_k06_whole_chords_holds : PySem.Challenge.rw_wheelcurves_k06_whole_chords.Holds := by
  w_on; o_law; k_head; (case hw => w_witness2)
  k_fill
  refine L2.walk_ofB (l := PySem.Challenge.rw_wheelcurves_k06_whole_chords) (n := 63) (k := 8) (x := "script") (CX := fun w => L2.CX PySem.Challenge.rw_wheelcurves_k06_whole_chords.prog w) (sp := fun w => WC.spLaw _) rfl (by decide) rfl ⟨rfl, by decide, by decide⟩ (fun w h Y => PySem.W.kIn_of Y) ?F (fun _ _ a ns hl _ _ hS => ⟨a, ns, rfl, hS, hl, fun _ => rfl⟩) (fun _ _ _ _ _ h => WC.cx_false h)
  case F =>
    intro w mg fa h KX G hmg
    refine' K06.all_of KX G hmg ?F_is_int ?F_common ?F_is_gear ?F_check_gear ?F_check_tooth ?F_check_arcs ?F_shared_of ?F_petals_of ?F_petals ?F_rounds_of ?F_tips_of ?F_chord_step ?F_chords_of ?F_chords ?F_cross ?F_crossings_after ?F_crossings ?F_crossed_by ?F_law_start ?F_law_draw ?F_law_pick ?F_law_gear ?F_law_line ?F_law_cross ?F_law_pairs ?F_law ?X_WheelError ?X_BadGear ?X_BadTooth ?X_BadNumber ?B_ValueError ?B_isinstance ?B_len ?B_range ?B_min ?B_max ?B_abs ?B_sum ?B_list ?B_sorted ?B_set ?B_zip ?B_enumerate ?B_int ?B_bool ?B_str ?B_tuple
    (case F_is_int => (refine' WC.funAt_mk KX G ?a ?l ?c ?k; (case a => k_is); (case l => k_is); (case c => k_is); (case k => k_is)))
    (case F_common => (refine' WC.funAt_mk KX G ?a ?l ?c ?k; (case a => k_is); (case l => k_is); (case c => k_is); (case k => k_is)))
    (case F_is_gear => (refine' WC.funAt_mk KX G ?a ?l ?c ?k; (case a => k_is); (case l => k_is); (case c => k_is); (case k => k_is)))
    (case F_check_gear => (refine' WC.funAt_mk KX G ?a ?l ?c ?k; (case a => k_is); (case l => k_is); (case c => k_is); (case k => k_is)))
    (case F_check_tooth => (refine' WC.funAt_mk KX G ?a ?l ?c ?k; (case a => k_is); (case l => k_is); (case c => k_is); (case k => k_is)))
    (case F_check_arcs => (refine' WC.funAt_mk KX G ?a ?l ?c ?k; (case a => k_is); (case l => k_is); (case c => k_is); (case k => k_is)))
    (case F_shared_of => (refine' WC.funAt_mk KX G ?a ?l ?c ?k; (case a => k_is); (case l => k_is); (case c => k_is); (case k => k_is)))
    (case F_petals_of => (refine' WC.funAt_mk KX G ?a ?l ?c ?k; (case a => k_is); (case l => k_is); (case c => k_is); (case k => k_is)))
    (case F_petals => (refine' WC.funAt_mk KX G ?a ?l ?c ?k; (case a => k_is); (case l => k_is); (case c => k_is); (case k => k_is)))
    (case F_rounds_of => (refine' WC.funAt_mk KX G ?a ?l ?c ?k; (case a => k_is); (case l => k_is); (case c => k_is); (case k => k_is)))
    (case F_tips_of => (refine' WC.funAt_mk KX G ?a ?l ?c ?k; (case a => k_is); (case l => k_is); (case c => k_is); (case k => k_is)))
    (case F_chord_step => (refine' WC.funAt_mk KX G ?a ?l ?c ?k; (case a => k_is); (case l => k_is); (case c => k_is); (case k => k_is)))
    (case F_chords_of => (refine' WC.funAt_mk KX G ?a ?l ?c ?k; (case a => k_is); (case l => k_is); (case c => k_is); (case k => k_is)))
    (case F_chords => (refine' WC.funAt_mk KX G ?a ?l ?c ?k; (case a => k_is); (case l => k_is); (case c => k_is); (case k => k_is)))
    (case F_cross => (refine' WC.funAt_mk KX G ?a ?l ?c ?k; (case a => k_is); (case l => k_is); (case c => k_is); (case k => k_is)))
    (case F_crossings_after => (refine' WC.funAt_mk KX G ?a ?l ?c ?k; (case a => k_is); (case l => k_is); (case c => k_is); (case k => k_is)))
    (case F_crossings => (refine' WC.funAt_mk KX G ?a ?l ?c ?k; (case a => k_is); (case l => k_is); (case c => k_is); (case k => k_is)))
    (case F_crossed_by => (refine' WC.funAt_mk KX G ?a ?l ?c ?k; (case a => k_is); (case l => k_is); (case c => k_is); (case k => k_is)))
    (case F_law_start => (refine' WC.funAt_mk KX G ?a ?l ?c ?k; (case a => k_is); (case l => k_is); (case c => k_is); (case k => k_is)))
    (case F_law_draw => (refine' WC.funAt_mk KX G ?a ?l ?c ?k; (case a => k_is); (case l => k_is); (case c => k_is); (case k => k_is)))
    (case F_law_pick => (refine' WC.funAt_mk KX G ?a ?l ?c ?k; (case a => k_is); (case l => k_is); (case c => k_is); (case k => k_is)))
    (case F_law_gear => (refine' WC.funAt_mk KX G ?a ?l ?c ?k; (case a => k_is); (case l => k_is); (case c => k_is); (case k => k_is)))
    (case F_law_line => (refine' WC.funAt_mk KX G ?a ?l ?c ?k; (case a => k_is); (case l => k_is); (case c => k_is); (case k => k_is)))
    (case F_law_cross => (refine' WC.funAt_mk KX G ?a ?l ?c ?k; (case a => k_is); (case l => k_is); (case c => k_is); (case k => k_is)))
    (case F_law_pairs => (refine' WC.funAt_mk KX G ?a ?l ?c ?k; (case a => k_is); (case l => k_is); (case c => k_is); (case k => k_is)))
    (case F_law => (refine' WC.funAt_mk KX G ?a ?l ?c ?k; (case a => k_is); (case l => k_is); (case c => k_is); (case k => k_is)))
    (case X_WheelError => (refine' WC.exc_mk KX G ?a ?xq ?k ?b ?t; (case a => k_is); (case xq => k_exc); (case k => k_is); (case b => k_is); (case t => k_is)))
    (case X_BadGear => (refine' WC.exc_mk KX G ?a ?xq ?k ?b ?t; (case a => k_is); (case xq => k_exc); (case k => k_is); (case b => k_is); (case t => k_is)))
    (case X_BadTooth => (refine' WC.exc_mk KX G ?a ?xq ?k ?b ?t; (case a => k_is); (case xq => k_exc); (case k => k_is); (case b => k_is); (case t => k_is)))
    (case X_BadNumber => (refine' WC.exc_mk KX G ?a ?xq ?k ?b ?t; (case a => k_is); (case xq => k_exc); (case k => k_is); (case b => k_is); (case t => k_is)))
    (case B_ValueError => (refine' PySem.W.mg_none_of KX G ?z; (case z => k_is)))
    (case B_isinstance => (refine' PySem.W.mg_none_of KX G ?z; (case z => k_is)))
    (case B_len => (refine' PySem.W.mg_none_of KX G ?z; (case z => k_is)))
    (case B_range => (refine' PySem.W.mg_none_of KX G ?z; (case z => k_is)))
    (case B_min => (refine' PySem.W.mg_none_of KX G ?z; (case z => k_is)))
    (case B_max => (refine' PySem.W.mg_none_of KX G ?z; (case z => k_is)))
    (case B_abs => (refine' PySem.W.mg_none_of KX G ?z; (case z => k_is)))
    (case B_sum => (refine' PySem.W.mg_none_of KX G ?z; (case z => k_is)))
    (case B_list => (refine' PySem.W.mg_none_of KX G ?z; (case z => k_is)))
    (case B_sorted => (refine' PySem.W.mg_none_of KX G ?z; (case z => k_is)))
    (case B_set => (refine' PySem.W.mg_none_of KX G ?z; (case z => k_is)))
    (case B_zip => (refine' PySem.W.mg_none_of KX G ?z; (case z => k_is)))
    (case B_enumerate => (refine' PySem.W.mg_none_of KX G ?z; (case z => k_is)))
    (case B_int => (refine' PySem.W.mg_none_of KX G ?z; (case z => k_is)))
    (case B_bool => (refine' PySem.W.mg_none_of KX G ?z; (case z => k_is)))
    (case B_str => (refine' PySem.W.mg_none_of KX G ?z; (case z => k_is)))
    (case B_tuple => (refine' PySem.W.mg_none_of KX G ?z; (case z => k_is)))

