import PyProof.Rows.All
import Wide.All
import OpenK.AllK
import Wide.FinOn
import HandS.ForMost
import HandS.Wide
import HandS.IsInst
import HandS.Conv
import HandS.Deep
import KE.GoesZip
import KE.GoesMore
import KE.KDictZip
import HandS.Zip
import HandS.Style
import HandS.SortInts
import HandS.SetFor
import HandS.More
import PySem.Challenge.RW_swaptower_k09_marks_grow
/-! ## DW1.lean -/
set_option Elab.async false
set_option linter.all false
set_option maxRecDepth 100000
set_option maxHeartbeats 2000000
/-! DW1: plain data, own cells, and how they lie in the abstract heap. -/
namespace DW
open PySem PySem.Spec L2
open PyProof.Rows hiding St

/-- plain data; texts by their number in a table -/
inductive D where
  | non | bl (b : Bool) | int (i : Int) | str (k : Nat) | lst (ds : List D) | tup (ds : List D) | dic (kds : List (Nat × D)) | scr (ns : List Int)
  deriving Inhabited
/-- a value: data that nobody changes, or one of one's own objects -/
inductive Rv where
  | dat (d : D) | ref (c : Nat)
  deriving Inhabited
/-- one's own object: a list, a dict, or one that nobody changes any more -/
inductive Cell where
  | lst (rs : List Rv) | dic (krs : List (Nat × Rv)) | fz (d : D) | dead
  deriving Inhabited

/-- the words of the text, and what its top has written -/
structure Kt where
  w : List Str
  K : PySem.W.Frag
/-- two lists of one length, item by item -/
inductive All2 {α β : Type} (R : α → β → Prop) : List α → List β → Prop
  | nil : All2 R [] []
  | cons {a : α} {b : β} {l : List α} {m : List β} : R a b → All2 R l m → All2 R (a :: l) (b :: m)
section
variable {α β γ : Type} {R S : α → β → Prop}
theorem All2.length {l : List α} {m : List β} (h : All2 R l m) : l.length = m.length := by
  induction h with
  | nil => rfl
  | cons _ _ ih => simp [ih]
theorem All2.imp {l : List α} {m : List β} (f : ∀ a b, R a b → S a b) (h : All2 R l m) : All2 S l m := by
  induction h with
  | nil => exact .nil
  | cons a _ ih => exact .cons (f _ _ a) ih
theorem All2.append {l l' : List α} {m m' : List β} (h : All2 R l m) (h' : All2 R l' m') : All2 R (l ++ l') (m ++ m') := by
  induction h with
  | nil => exact h'
  | cons a _ ih => exact .cons a ih
theorem All2.get : ∀ {l : List α} {m : List β} {i : Nat} {b : β}, All2 R l m → m[i]? = some b → ∃ a, l[i]? = some a ∧ R a b
  | _, _, _, _, .nil, e => by simp at e
  | _, _, 0, _, .cons r _, e => by simp at e; subst e; exact ⟨_, rfl, r⟩
  | _, _, i + 1, b, .cons _ t, e => by
    obtain ⟨a, h1, h2⟩ := All2.get (i := i) t (by simpa using e)
    exact ⟨a, by simpa using h1, h2⟩
theorem All2.get' : ∀ {l : List α} {m : List β} {i : Nat} {a : α}, All2 R l m → l[i]? = some a → ∃ b, m[i]? = some b ∧ R a b
  | _, _, _, _, .nil, e => by simp at e
  | _, _, 0, _, .cons r _, e => by simp at e; subst e; exact ⟨_, rfl, r⟩
  | _, _, i + 1, b, .cons _ t, e => by
    obtain ⟨a, h1, h2⟩ := All2.get' (i := i) t (by simpa using e)
    exact ⟨a, by simpa using h1, h2⟩
theorem All2.set {a : α} {b : β} (r : R a b) : ∀ {l : List α} {m : List β} (i : Nat), All2 R l m → All2 R (l.set i a) (m.set i b)
  | _, _, _, .nil => .nil
  | _, _, 0, .cons _ t => .cons r t
  | _, _, i + 1, .cons q t => .cons q (All2.set r i t)
theorem All2.drop : ∀ {l : List α} {m : List β} (n : Nat), All2 R l m → All2 R (l.drop n) (m.drop n)
  | _, _, 0, r => r
  | _, _, _ + 1, .nil => .nil
  | _, _, n + 1, .cons _ t => All2.drop n t
theorem All2.take : ∀ {l : List α} {m : List β} (n : Nat), All2 R l m → All2 R (l.take n) (m.take n)
  | _, _, 0, _ => .nil
  | _, _, _ + 1, .nil => .nil
  | _, _, n + 1, .cons r t => .cons r (All2.take n t)
theorem All2.dropLast {l : List α} {m : List β} (h : All2 R l m) : All2 R l.dropLast m.dropLast := by
  rw [List.dropLast_eq_take, List.dropLast_eq_take, h.length]
  exact h.take _
theorem All2.eraseIdx : ∀ {l : List α} {m : List β} (n : Nat), All2 R l m → All2 R (l.eraseIdx n) (m.eraseIdx n)
  | _, _, _, .nil => .nil
  | _, _, 0, .cons _ t => t
  | _, _, n + 1, .cons r t => .cons r (All2.eraseIdx n t)
theorem All2.reverse {l : List α} {m : List β} (h : All2 R l m) : All2 R l.reverse m.reverse := by
  induction h with
  | nil => exact .nil
  | cons a _ ih => rw [List.reverse_cons, List.reverse_cons]; exact ih.append (.cons a .nil)
theorem All2.mapR {f : β → γ} {S : α → γ → Prop} (g : ∀ a b, R a b → S a (f b)) {l : List α} {m : List β} (h : All2 R l m) : All2 S l (m.map f) := by
  induction h with
  | nil => exact .nil
  | cons a _ ih => exact .cons (g _ _ a) ih
theorem All2.of_mapR {f : β → γ} {S : α → γ → Prop} (g : ∀ a b, S a (f b) → R a b) : ∀ {l : List α} {m : List β}, All2 S l (m.map f) → All2 R l m
  | [], [], _ => .nil
  | [], _ :: _, h => by cases h
  | _ :: _, [], h => by cases h
  | _ :: _, _ :: _, .cons a t => .cons (g _ _ a) (All2.of_mapR g t)
theorem All2.nil_left {m : List β} (h : All2 R [] m) : m = [] := by cases h; rfl
end

section
variable (ks : Kt) (F : Hp)
mutual
/-- the value v is the datum d; all its objects stand in F -/
inductive At : V → D → Prop
  | non : At .non .non
  | bl (b : Bool) : At (.bl b) (.bl b)
  | int (i : Int) : At (.int i) (.int i)
  | str {k : Nat} {x : Str} (h : ks.w[k]? = some x) : At (.str x) (.str k)
  | lst {a : Addr} {xs : List V} {ds : List D} : F a = some (.lst xs) → Ats xs ds → At (.ref a) (.lst ds)
  | tup {a : Addr} {xs : List V} {ds : List D} : F a = some (.tup xs) → Ats xs ds → At (.ref a) (.tup ds)
  | dic {a : Addr} {kvs : List (Key × V)} {kds : List (Nat × D)} : F a = some (.dK kvs) → Atk kvs kds → At (.ref a) (.dic kds)
  | scr {a : Addr} {ns : List Int} : SqL ks.K F a (ns.map V.int) → At (.ref a) (.scr ns)
inductive Ats : List V → List D → Prop
  | nil : Ats [] []
  | cons {v : V} {d : D} {vs : List V} {ds : List D} : At v d → Ats vs ds → Ats (v :: vs) (d :: ds)
inductive Atk : List (Key × V) → List (Nat × D) → Prop
  | nil : Atk [] []
  | cons {k : Nat} {x : Str} {v : V} {d : D} {r : List (Key × V)} {s : List (Nat × D)} : ks.w[k]? = some x → At v d → Atk r s → Atk ((.inr x, v) :: r) ((k, d) :: s)
end
end

section
variable {ks : Kt} {F F' : Hp}
mutual
theorem At.mono (h : Same F F') : ∀ {v : V} {d : D}, At ks F v d → At ks F' v d
  | _, _, .non => .non
  | _, _, .bl b => .bl b
  | _, _, .int i => .int i
  | _, _, .str e => .str e
  | _, _, .lst e s => .lst (h _ _ e) (Ats.mono h s)
  | _, _, .tup e s => .tup (h _ _ e) (Ats.mono h s)
  | _, _, .dic e s => .dic (h _ _ e) (Atk.mono h s)
  | _, _, .scr e => .scr (h.seq e)
theorem Ats.mono (h : Same F F') : ∀ {v : List V} {d : List D}, Ats ks F v d → Ats ks F' v d
  | _, _, .nil => .nil
  | _, _, .cons a s => .cons (At.mono h a) (Ats.mono h s)
theorem Atk.mono (h : Same F F') : ∀ {v : List (Key × V)} {d : List (Nat × D)}, Atk ks F v d → Atk ks F' v d
  | _, _, .nil => .nil
  | _, _, .cons e a s => .cons e (At.mono h a) (Atk.mono h s)
end
theorem Ats.all2 : ∀ {v : List V} {d : List D}, Ats ks F v d → All2 (At ks F) v d
  | _, _, .nil => .nil
  | _, _, .cons a s => .cons a (Ats.all2 s)
theorem Ats.of_all2 : ∀ {v : List V} {d : List D}, All2 (At ks F) v d → Ats ks F v d
  | _, _, .nil => .nil
  | _, _, .cons a s => .cons a (Ats.of_all2 s)
end

/-! ### the entry of a def, its own cells -/
/-- what stood at the entry: the data, the heap, the caller's own objects -/
structure Ent where
  F : Hp
  H : Hp
  A : Addr → Prop
structure Ch (C : Ent) (F H : Hp) : Prop where
  ff : Same C.F F
  fh : Same F H
  hh : ∀ b o, C.H b = some o → ¬ C.A b → H b = some o
  nw : ∀ b, C.F b = none → C.H b ≠ none → ¬ C.A b → F b = none
def RvOk (ks : Kt) (F : Hp) (κ : List Addr) (v : V) : Rv → Prop
  | .dat d => At ks F v d
  | .ref c => ∃ a, κ[c]? = some a ∧ v = .ref a
def KvOk (ks : Kt) (F : Hp) (κ : List Addr) (p : Key × V) (q : Nat × Rv) : Prop := (∃ x, ks.w[q.1]? = some x ∧ p.1 = .inr x) ∧ RvOk ks F κ p.2 q.2
def CellOk (ks : Kt) (F H : Hp) (κ : List Addr) (W : Addr → Prop) (a : Addr) : Cell → Prop
  | .lst rs => F a = none ∧ W a ∧ ∃ xs, H a = some (.lst xs) ∧ All2 (RvOk ks F κ) xs rs
  | .dic krs => F a = none ∧ W a ∧ ∃ kvs, H a = some (.dK kvs) ∧ All2 (KvOk ks F κ) kvs krs
  | .fz d => At ks F (.ref a) d
  | .dead => True
structure GOk (ks : Kt) (F H : Hp) (κ : List Addr) (W : Addr → Prop) (g : List Cell) : Prop where
  len : κ.length = g.length
  cells : ∀ (c : Nat) (cell : Cell) (a : Addr), g[c]? = some cell → κ[c]? = some a → CellOk ks F H κ W a cell
  nd : κ.Nodup
  live : ∀ a ∈ κ, H a ≠ none
  wf : ∀ a ∈ κ, W a ∨ F a ≠ none
abbrev En := List (Option Rv)
set_option autoImplicit false
structure Ok (ks : Kt) (C : Ent) (σ : St) (F H : Hp) (κ : List Addr) (env : En) (g : List Cell) : Prop where
  g : GOk ks F H κ (fun a => C.A a ∨ C.H a = none) g
  ch : Ch C F H
  len : σ.length = env.length
  env : ∀ (i : Nat) (r : Rv), env[i]? = some (some r) → ∃ v, σ[i]? = some (some v) ∧ RvOk ks F κ v r
/-- addresses are added at the end -/
def Pre (κ κ' : List Addr) : Prop := ∀ (c : Nat) (a : Addr), κ[c]? = some a → κ'[c]? = some a
theorem Pre.refl (κ : List Addr) : Pre κ κ := fun _ _ h => h
theorem Pre.trans {a b c : List Addr} (h : Pre a b) (h' : Pre b c) : Pre a c := fun i x e => h' i x (h i x e)
theorem Pre.app (κ l : List Addr) : Pre κ (κ ++ l) := fun c a e => by
  rw [List.getElem?_append_left (List.getElem?_eq_some_iff.mp e).1]
  exact e
section
variable {ks : Kt} {F F' H H' : Hp} {κ κ' : List Addr}
theorem RvOk.mono (f : Same F F') (p : Pre κ κ') {v : V} : ∀ {r : Rv}, RvOk ks F κ v r → RvOk ks F' κ' v r
  | .dat _, h => At.mono f h
  | .ref _, ⟨a, e, q⟩ => ⟨a, p _ _ e, q⟩
theorem KvOk.mono (f : Same F F') (p : Pre κ κ') {x : Key × V} {r : Nat × Rv} (h : KvOk ks F κ x r) : KvOk ks F' κ' x r := ⟨h.1, h.2.mono f p⟩
theorem CellOk.mono {W : Addr → Prop} {a : Addr} {c : Cell} (f : Same F F') (p : Pre κ κ') (hn : F a = none → F' a = none) (hh : H' a = H a) (h : CellOk ks F H κ W a c) : CellOk ks F' H' κ' W a c := by
  cases c with
  | lst rs =>
    obtain ⟨h1, h2, xs, h3, h4⟩ := h
    exact ⟨hn h1, h2, xs, hh.trans h3, h4.imp fun _ _ q => q.mono f p⟩
  | dic krs =>
    obtain ⟨h1, h2, xs, h3, h4⟩ := h
    exact ⟨hn h1, h2, xs, hh.trans h3, h4.imp fun _ _ q => q.mono f p⟩
  | fz d => exact At.mono f h
  | dead => exact True.intro
/-- a new object that nobody changes -/
theorem Ok.newD {C : Ent} {σ : St} {env : En} {g : List Cell} {p : Addr} {o : HO} (h : Ok ks C σ F H κ env g) (hp : H p = none) : Ok ks C σ (upd F p o) (upd H p o) κ env g := by
  have hF : F p = none := by
    cases q : F p with
    | none => rfl
    | some u => have := h.ch.fh p u q; rw [hp] at this; cases this
  have sF : Same F (upd F p o) := fun b u e => by rw [upd_ne (ne_of_none e hF)]; exact e
  have nk : ∀ a ∈ κ, a ≠ p := fun a ha e => h.g.live a ha (by rw [e]; exact hp)
  refine ⟨⟨h.g.len, fun c cell a e1 e2 => ?_, h.g.nd, fun a ha => ?_, fun a ha => (h.g.wf a ha).imp (fun z => z) fun z => by rw [upd_ne (nk a ha)]; exact z⟩, ⟨fun b u e => sF b u (h.ch.ff b u e), fun b u e => ?_, fun b u e n => ?_, fun b e1 e2 e3 => ?_⟩, h.len, fun i r e => ?_⟩
  · have hne := nk a (List.mem_of_getElem? e2)
    exact (h.g.cells c cell a e1 e2).mono sF (Pre.refl κ) (fun z => by rw [upd_ne hne]; exact z) (upd_ne hne)
  · rw [upd_ne (nk a ha)]; exact h.g.live a ha
  · by_cases hb : b = p
    · subst hb; rw [upd_same] at e ⊢; exact e
    · rw [upd_ne hb] at e ⊢; exact h.ch.fh b u e
  · have := h.ch.hh b u e n
    rw [upd_ne (ne_of_none this hp)]; exact this
  · have hb : b ≠ p := by
      rintro rfl
      cases q : C.H b with
      | none => exact e2 q
      | some u => have := h.ch.hh b u q e3; rw [hp] at this; cases this
    rw [upd_ne hb]; exact h.ch.nw b e1 e2 e3
  · obtain ⟨v, h1, h2⟩ := h.env i r e
    exact ⟨v, h1, h2.mono sF (Pre.refl κ)⟩
theorem Ok.newD_F {C : Ent} {σ : St} {env : En} {g : List Cell} {p : Addr} {o : HO} (h : Ok ks C σ F H κ env g) (hp : H p = none) : Same F (upd F p o) := by
  have hF : F p = none := by
    cases q : F p with
    | none => rfl
    | some u => have := h.ch.fh p u q; rw [hp] at this; cases this
  exact fun b u e => by rw [upd_ne (ne_of_none e hF)]; exact e
/-- a new own cell -/
theorem Ok.newC {C : Ent} {σ : St} {env : En} {g : List Cell} {p : Addr} {o : HO} {cell : Cell} (h : Ok ks C σ F H κ env g) (hp : H p = none)
    (hc : CellOk ks F (upd H p o) (κ ++ [p]) (fun a => C.A a ∨ C.H a = none) p cell) : Ok ks C σ F (upd H p o) (κ ++ [p]) env (g ++ [cell]) := by
  have hWp : C.A p ∨ C.H p = none := by
    cases q : C.H p with
    | none => exact .inr rfl
    | some u =>
      by_cases z : C.A p
      · exact .inl z
      · have := h.ch.hh p u q z; rw [hp] at this; cases this
  have nk : ∀ a ∈ κ, a ≠ p := fun a ha e => h.g.live a ha (by rw [e]; exact hp)
  refine ⟨⟨by simp [h.g.len], fun c cell' a e1 e2 => ?_, ?_, fun a ha => ?_, fun a ha => ?_⟩, ⟨h.ch.ff, fun b u e => ?_, fun b u e n => ?_, h.ch.nw⟩, h.len, fun i r e => ?_⟩
  · by_cases hlt : c < g.length
    · rw [List.getElem?_append_left hlt] at e1
      rw [List.getElem?_append_left (by rw [h.g.len]; exact hlt)] at e2
      have hne := nk a (List.mem_of_getElem? e2)
      exact (h.g.cells c cell' a e1 e2).mono (Same.refl F) (Pre.app κ [p]) (fun z => z) (upd_ne hne)
    · rw [List.getElem?_append_right (by omega)] at e1
      rw [List.getElem?_append_right (by rw [h.g.len]; omega)] at e2
      have : c - g.length = 0 := by
        rcases Nat.eq_zero_or_pos (c - g.length) with z | z
        · exact z
        · rw [List.getElem?_eq_none (by simp; omega)] at e1; cases e1
      rw [this] at e1
      rw [h.g.len, this] at e2
      simp at e1 e2
      subst e1; subst e2
      exact hc
  · refine List.nodup_append.mpr ⟨h.g.nd, by simp, fun a ha b hb => ?_⟩
    simp at hb; subst hb
    exact nk a ha
  · rcases List.mem_append.mp ha with ha | ha
    · rw [upd_ne (nk a ha)]; exact h.g.live a ha
    · simp at ha; subst ha; rw [upd_same]; simp
  · rcases List.mem_append.mp ha with ha | ha
    · exact h.g.wf a ha
    · simp at ha; subst ha; exact .inl hWp
  · have := h.ch.fh b u e
    rw [upd_ne (ne_of_none this hp)]; exact this
  · have := h.ch.hh b u e n
    rw [upd_ne (ne_of_none this hp)]; exact this
  · obtain ⟨v, h1, h2⟩ := h.env i r e
    exact ⟨v, h1, h2.mono (Same.refl F) (Pre.app κ [p])⟩
/-- an own cell is written -/
theorem Ok.putC {C : Ent} {σ : St} {env : En} {g : List Cell} {c : Nat} {a : Addr} {o : HO} {cell : Cell} (h : Ok ks C σ F H κ env g) (ha : κ[c]? = some a) (hF : F a = none) (hW : C.A a ∨ C.H a = none)
    (hc : CellOk ks F (upd H a o) κ (fun a => C.A a ∨ C.H a = none) a cell) : Ok ks C σ F (upd H a o) κ env (g.set c cell) := by
  refine ⟨⟨by simp [h.g.len], fun c' cell' a' e1 e2 => ?_, h.g.nd, fun a' ha' => ?_, h.g.wf⟩, ⟨h.ch.ff, fun b u e => ?_, fun b u e n => ?_, h.ch.nw⟩, h.len, h.env⟩
  · by_cases hcc : c' = c
    · subst hcc
      rw [ha] at e2; cases e2
      have hl : c' < g.length := by rw [← h.g.len]; exact (List.getElem?_eq_some_iff.mp ha).1
      rw [List.getElem?_set_self hl] at e1
      cases e1
      exact hc
    · rw [List.getElem?_set_ne (Ne.symm hcc)] at e1
      have hne : a' ≠ a := by
        rintro rfl
        obtain ⟨l1, q1⟩ := List.getElem?_eq_some_iff.mp e2
        obtain ⟨l2, q2⟩ := List.getElem?_eq_some_iff.mp ha
        exact hcc ((List.getElem_inj h.g.nd).mp (q1.trans q2.symm))
      exact (h.g.cells c' cell' a' e1 e2).mono (Same.refl F) (Pre.refl κ) (fun z => z) (upd_ne hne)
  · by_cases hb : a' = a
    · subst hb; rw [upd_same]; simp
    · rw [upd_ne hb]; exact h.g.live a' ha'
  · have hb : b ≠ a := by rintro rfl; rw [hF] at e; cases e
    rw [upd_ne hb]; exact h.ch.fh b u e
  · have hb : b ≠ a := by
      rintro rfl
      rcases hW with z | z
      · exact n z
      · rw [z] at e; cases e
    rw [upd_ne hb]; exact h.ch.hh b u e n
theorem Ok.addr {C : Ent} {σ : St} {env : En} {g : List Cell} {c : Nat} {cell : Cell} (h : Ok ks C σ F H κ env g) (e : g[c]? = some cell) : ∃ a, κ[c]? = some a ∧ CellOk ks F H κ (fun a => C.A a ∨ C.H a = none) a cell := by
  have hl : c < κ.length := by rw [h.g.len]; exact (List.getElem?_eq_some_iff.mp e).1
  exact ⟨κ[c], List.getElem?_eq_getElem hl, h.g.cells c cell _ e (List.getElem?_eq_getElem hl)⟩
end
end DW

/-! ## DW2.lean -/
set_option Elab.async false
set_option linter.all false
set_option maxRecDepth 100000
set_option maxHeartbeats 2000000
set_option autoImplicit false
/-! DW2: expressions, their data-level reading. -/
namespace DW
open PySem PySem.Spec L2
open PyProof.Rows hiding St

abbrev Rg := List Cell
abbrev RQ := Rv → Rg → Prop
/-- what a def is worth: from its arguments and the own objects to its answer and the own objects behind -/
abbrev SpD := List Rv → Rg → RQ → Prop

/-! ### the semantic preconditions -/
section
variable (X : Cx)
def wE (e : Expr) : TE := fun σ H Q => ∀ pins s, Inv X pins σ H s → wpAny (model X.prog X.w) X.A (eval e X.env) (EP X pins σ Q) X.xe s
def wT (e : Expr) : TT := fun σ H Q => ∀ pins s, Inv X pins σ H s → wpAny (model X.prog X.w) X.A (isTrue e X.env (eval e X.env)) (TP X pins σ Q) X.xe s
def wW (e : Expr) : TT := fun σ H Q => ∀ whole pins s, Inv X pins σ H s → wpAny (model X.prog X.w) X.A (isTrue e X.env whole) (TP X pins σ Q) X.xe s
def wA (es : List Expr) : TA := fun σ H Q => ∀ pos pins s, Inv X pins σ H s → wpAny (model X.prog X.w) X.A (spliced (backTo pos (starEach es X.env))) (AP X pins σ Q) X.xe s
end
section
variable {X : Cx} {e : Expr} {es : List Expr}
theorem pe_w : PE X e (wE X e) := ⟨fun pins s σ H Q I h => h pins s I⟩
theorem pt_w : PT X e (wT X e) := ⟨fun pins s σ H Q I h => h pins s I⟩
theorem pw_w : PW X e (wW X e) := ⟨fun wh pins s σ H Q I h => h wh pins s I⟩
theorem pa_w : PA X es (wA X es) := ⟨fun pos pins s σ H Q I h => h pos pins s I⟩
theorem wE_of {t : TE} {σ : L2.St} {H : Hp} {Q : VK} (p : PE X e t) (h : t σ H Q) : wE X e σ H Q := fun pins s I => p.run pins s σ H Q I h
theorem wT_of {t : TT} {σ : L2.St} {H : Hp} {Q : Bool → Hp → Prop} (p : PT X e t) (h : t σ H Q) : wT X e σ H Q := fun pins s I => p.run pins s σ H Q I h
theorem wW_of {t : TT} {σ : L2.St} {H : Hp} {Q : Bool → Hp → Prop} (p : PW X e t) (h : t σ H Q) : wW X e σ H Q := fun wh pins s I => p.run wh pins s σ H Q I h
theorem wA_of {t : TA} {σ : L2.St} {H : Hp} {Q : List V → Hp → Prop} (p : PA X es t) (h : t σ H Q) : wA X es σ H Q := fun pos pins s I => p.run pos pins s σ H Q I h
end

/-! ### judgements -/
section
variable (ks : Kt) (X : Cx) (C : Ent) (env : En)
/-- what is wanted behind: every state that the data tells -/
def Kont (σ : L2.St) (F : Hp) (κ : List Addr) (Q : RQ) (Qv : VK) : Prop :=
  ∀ v F' H' κ' r g', Ok ks C σ F' H' κ' env g' → Same F F' → Pre κ κ' → RvOk ks F' κ' v r → Q r g' → Qv v H'
def KontT (σ : L2.St) (F : Hp) (κ : List Addr) (Q : Bool → Rg → Prop) (Qb : Bool → Hp → Prop) : Prop :=
  ∀ b F' H' κ' g', Ok ks C σ F' H' κ' env g' → Same F F' → Pre κ κ' → Q b g' → Qb b H'
def KontA (σ : L2.St) (F : Hp) (κ : List Addr) (Q : List Rv → Rg → Prop) (Qa : List V → Hp → Prop) : Prop :=
  ∀ vs F' H' κ' rs g', Ok ks C σ F' H' κ' env g' → Same F F' → Pre κ κ' → All2 (RvOk ks F' κ') vs rs → Q rs g' → Qa vs H'
def SE (e : Expr) (W : Rg → RQ → Prop) : Prop := ∀ g Q, W g Q → ∀ σ F H κ Qv, Ok ks C σ F H κ env g → Kont ks C env σ F κ Q Qv → wE X e σ H Qv
def ST (e : Expr) (W : Rg → (Bool → Rg → Prop) → Prop) : Prop := ∀ g Q, W g Q → ∀ σ F H κ Qv, Ok ks C σ F H κ env g → KontT ks C env σ F κ Q Qv → wT X e σ H Qv
def SW (e : Expr) (W : Rg → (Bool → Rg → Prop) → Prop) : Prop := ∀ g Q, W g Q → ∀ σ F H κ Qv, Ok ks C σ F H κ env g → KontT ks C env σ F κ Q Qv → wW X e σ H Qv
def SA (es : List Expr) (W : Rg → (List Rv → Rg → Prop) → Prop) : Prop := ∀ g Q, W g Q → ∀ σ F H κ Qv, Ok ks C σ F H κ env g → KontA ks C env σ F κ Q Qv → wA X es σ H Qv
end
section
variable {ks : Kt} {X : Cx} {C : Ent} {env : En} {σ : L2.St} {F F1 H : Hp} {κ κ1 : List Addr}
theorem Kont.at {Q : RQ} {Qv : VK} (k : Kont ks C env σ F κ Q Qv) (f : Same F F1) (p : Pre κ κ1) : Kont ks C env σ F1 κ1 Q Qv :=
  fun v F' H' κ' r g' ok s q => k v F' H' κ' r g' ok (f.trans s) (p.trans q)
theorem KontT.at {Q : Bool → Rg → Prop} {Qv : Bool → Hp → Prop} (k : KontT ks C env σ F κ Q Qv) (f : Same F F1) (p : Pre κ κ1) : KontT ks C env σ F1 κ1 Q Qv :=
  fun v F' H' κ' g' ok s q => k v F' H' κ' g' ok (f.trans s) (p.trans q)
theorem KontA.at {Q : List Rv → Rg → Prop} {Qv : List V → Hp → Prop} (k : KontA ks C env σ F κ Q Qv) (f : Same F F1) (p : Pre κ κ1) : KontA ks C env σ F1 κ1 Q Qv :=
  fun v F' H' κ' r g' ok s q => k v F' H' κ' r g' ok (f.trans s) (p.trans q)
theorem Kont.here {Q : RQ} {Qv : VK} {v : V} {r : Rv} {g : Rg} (k : Kont ks C env σ F κ Q Qv) (ok : Ok ks C σ F H κ env g) (rv : RvOk ks F κ v r) (q : Q r g) : Qv v H :=
  k v F H κ r g ok (Same.refl F) (Pre.refl κ) rv q

/-! ### values -/
/-- a cell that nobody changes any more is data -/
def nrm (g : Rg) : Rv → Rv
  | .dat d => .dat d
  | .ref c => match g[c]? with | some (.fz d) => .dat d | _ => .ref c
theorem RvOk.nrm {g : Rg} {v : V} {r : Rv} (ok : Ok ks C σ F H κ env g) (h : RvOk ks F κ v r) : RvOk ks F κ v (nrm g r) := by
  cases r with
  | dat d => exact h
  | ref c =>
    obtain ⟨a, e, rfl⟩ := id h
    unfold DW.nrm
    dsimp only
    split
    · rename_i d hd
      exact ok.g.cells c _ a hd e
    · exact h
/-- what may be read as a list: its items -/
def lstOf (g : Rg) : Rv → Option (List Rv)
  | .dat (.lst ds) => some (ds.map .dat)
  | .dat _ => none
  | .ref c => match g[c]? with | some (.lst rs) => some rs | some (.fz (.lst ds)) => some (ds.map .dat) | _ => none
theorem RvOk.lst {g : Rg} {v : V} {r : Rv} {rs : List Rv} (ok : Ok ks C σ F H κ env g) (h : RvOk ks F κ v r) (e : lstOf g r = some rs) : ∃ a xs, v = .ref a ∧ H a = some (.lst xs) ∧ All2 (RvOk ks F κ) xs rs := by
  have fromD : ∀ {v : V} {ds : List D}, At ks F v (.lst ds) → ∃ a xs, v = .ref a ∧ H a = some (.lst xs) ∧ All2 (RvOk ks F κ) xs (ds.map .dat) := fun {v ds} q => by
    cases q with
    | lst e1 s => exact ⟨_, _, rfl, ok.ch.fh _ _ e1, (Ats.all2 s).mapR (f := Rv.dat) (S := RvOk ks F κ) fun _ _ z => z⟩
  cases r with
  | dat d =>
    cases d with
    | lst ds => simp only [lstOf, Option.some.injEq] at e; subst e; exact fromD h
    | _ => simp [lstOf] at e
  | ref c =>
    obtain ⟨a, e1, rfl⟩ := h
    simp only [lstOf] at e
    split at e
    · rename_i rs' hc
      cases e
      obtain ⟨_, _, xs, h1, h2⟩ := ok.g.cells c _ a hc e1
      exact ⟨a, xs, rfl, h1, h2⟩
    · rename_i ds hc
      cases e
      exact fromD (ok.g.cells c _ a hc e1)
    · cases e
/-- .. as a tuple -/
theorem At.tupI {v : V} {ds : List D} (h : At ks F v (.tup ds)) : ∃ a xs, v = .ref a ∧ F a = some (.tup xs) ∧ Ats ks F xs ds := by
  cases h with
  | tup e s => exact ⟨_, _, rfl, e, s⟩
theorem At.dicI {v : V} {ds : List (Nat × D)} (h : At ks F v (.dic ds)) : ∃ a xs, v = .ref a ∧ F a = some (.dK xs) ∧ Atk ks F xs ds := by
  cases h with
  | dic e s => exact ⟨_, _, rfl, e, s⟩
theorem At.intI {v : V} {i : Int} (h : At ks F v (.int i)) : v = .int i := by cases h; rfl
theorem At.blI {v : V} {i : Bool} (h : At ks F v (.bl i)) : v = .bl i := by cases h; rfl
theorem At.nonI {v : V} (h : At ks F v .non) : v = .non := by cases h; rfl
theorem At.strI {v : V} {k : Nat} (h : At ks F v (.str k)) : ∃ x, v = .str x ∧ ks.w[k]? = some x := by cases h with | str e => exact ⟨_, rfl, e⟩
theorem At.scrI {v : V} {ns : List Int} (h : At ks F v (.scr ns)) : ∃ a, v = .ref a ∧ SqL ks.K F a (ns.map V.int) := by cases h with | scr e => exact ⟨_, rfl, e⟩

/-! ### own objects become data -/
mutual
/-- r reads as d in g; its own objects are those from m on -/
inductive RD (g : Rg) (m : Nat) : Rv → D → Prop
  | dat (d : D) : RD g m (.dat d) d
  | fz {c : Nat} {d : D} : g[c]? = some (.fz d) → RD g m (.ref c) d
  | lst {c : Nat} {rs : List Rv} {ds : List D} : m ≤ c → g[c]? = some (.lst rs) → RDs g m rs ds → RD g m (.ref c) (.lst ds)
  | dic {c : Nat} {rs : List (Nat × Rv)} {ds : List (Nat × D)} : m ≤ c → g[c]? = some (.dic rs) → RDk g m rs ds → RD g m (.ref c) (.dic ds)
inductive RDs (g : Rg) (m : Nat) : List Rv → List D → Prop
  | nil : RDs g m [] []
  | cons {r : Rv} {d : D} {rs : List Rv} {ds : List D} : RD g m r d → RDs g m rs ds → RDs g m (r :: rs) (d :: ds)
inductive RDk (g : Rg) (m : Nat) : List (Nat × Rv) → List (Nat × D) → Prop
  | nil : RDk g m [] []
  | cons {k : Nat} {r : Rv} {d : D} {rs : List (Nat × Rv)} {ds : List (Nat × D)} : RD g m r d → RDk g m rs ds → RDk g m ((k, r) :: rs) ((k, d) :: ds)
end
/-- items that are data -/
def datsN (g : Rg) : List Rv → Option (List D)
  | [] => some []
  | r :: t => match nrm g r with | .dat d => (datsN g t).map (d :: ·) | .ref _ => none
def datsK (g : Rg) : List (Nat × Rv) → Option (List (Nat × D))
  | [] => some []
  | (k, r) :: t => match nrm g r with | .dat d => (datsK g t).map ((k, d) :: ·) | .ref _ => none
/-- r made data d; the own objects behind -/
def frz1 (g : Rg) : Rv → Option (D × Rg)
  | .dat d => some (d, g)
  | .ref c => match g[c]? with
    | some (.fz d) => some (d, g)
    | some (.lst rs) => (datsN g rs).map fun ds => (.lst ds, g.set c (.fz (.lst ds)))
    | some (.dic krs) => (datsK g krs).map fun ds => (.dic ds, g.set c (.fz (.dic ds)))
    | _ => none
def frzs (g : Rg) : List Rv → Option (List D × Rg)
  | [] => some ([], g)
  | r :: t => match frz1 g r with | some (d, g1) => (frzs g1 t).map fun p => (d :: p.1, p.2) | none => none
def wFrz (r : Rv) (g : Rg) (Q : D → Rg → Prop) : Prop := match frz1 g r with | some p => Q p.1 p.2 | none => ∃ m d, RD g m r d ∧ m ≤ g.length ∧ Q d (g.take m ++ List.replicate (g.length - m) .dead)
def wFrzL (rs : List Rv) (g : Rg) (Q : List D → Rg → Prop) : Prop := match frzs g rs with | some p => Q p.1 p.2 | none => ∃ m ds, RDs g m rs ds ∧ m ≤ g.length ∧ Q ds (g.take m ++ List.replicate (g.length - m) .dead)

open Classical in
noncomputable def frzF (F H : Hp) (κ : List Addr) (P : Nat → Prop) : Hp := fun b => if ∃ c, P c ∧ κ[c]? = some b then H b else F b
theorem frzF_in {P : Nat → Prop} {c : Nat} {a : Addr} (h : P c) (e : κ[c]? = some a) : frzF F H κ P a = H a := by unfold frzF; rw [if_pos ⟨c, h, e⟩]
theorem frzF_out {P : Nat → Prop} {a : Addr} (h : ∀ c, P c → κ[c]? ≠ some a) : frzF F H κ P a = F a := by
  unfold frzF; rw [if_neg]; rintro ⟨c, h1, h2⟩; exact h c h1 h2
theorem nd_at {κ : List Addr} (nd : κ.Nodup) {i j : Nat} {a : Addr} (h : κ[i]? = some a) (h' : κ[j]? = some a) : i = j := by
  obtain ⟨l1, q1⟩ := List.getElem?_eq_some_iff.mp h
  obtain ⟨l2, q2⟩ := List.getElem?_eq_some_iff.mp h'
  exact (List.getElem_inj nd).mp (q1.trans q2.symm)
def Own (g : Rg) (c : Nat) : Prop := (∃ rs, g[c]? = some (.lst rs)) ∨ ∃ rs, g[c]? = some (.dic rs)
theorem Ok.own {g : Rg} (ok : Ok ks C σ F H κ env g) {c : Nat} {a : Addr} (h : Own g c) (e : κ[c]? = some a) : F a = none ∧ (C.A a ∨ C.H a = none) := by
  rcases h with ⟨rs, h⟩ | ⟨rs, h⟩
  · obtain ⟨h1, h2, _⟩ := ok.g.cells c _ a h e; exact ⟨h1, h2⟩
  · obtain ⟨h1, h2, _⟩ := ok.g.cells c _ a h e; exact ⟨h1, h2⟩
theorem frzF_same {g : Rg} {P : Nat → Prop} (ok : Ok ks C σ F H κ env g) (own : ∀ c, P c → Own g c) : Same F (frzF F H κ P) := fun b o e => by
  rw [frzF_out fun c h1 h2 => by
    have := (ok.own (own c h1) h2).1
    rw [this] at e; cases e]
  exact e
theorem Ok.freeze {g g' : Rg} {P : Nat → Prop} (ok : Ok ks C σ F H κ env g) (own : ∀ c, P c → Own g c) (hl : g'.length = g.length)
    (hc : ∀ (c : Nat) (cell : Cell) (a : Addr), g'[c]? = some cell → κ[c]? = some a → (¬ P c ∧ g[c]? = some cell) ∨ cell = .dead ∨ ∃ d, cell = .fz d ∧ At ks (frzF F H κ P) (.ref a) d) :
    Ok ks C σ (frzF F H κ P) H κ env g' := by
  have sF := frzF_same ok own
  refine ⟨⟨ok.g.len.trans hl.symm, fun c cell a e1 e2 => ?_, ok.g.nd, ok.g.live, fun a ha => (ok.g.wf a ha).imp (fun z => z) fun z q => by
    cases e : F a with
    | none => exact z e
    | some o => rw [sF a o e] at q; cases q⟩, ⟨fun b o e => sF b o (ok.ch.ff b o e), fun b o e => ?_, ok.ch.hh, fun b e1 e2 e3 => ?_⟩, ok.len, fun i r e => ?_⟩
  · rcases hc c cell a e1 e2 with ⟨n, q⟩ | rfl | ⟨d, rfl, q⟩
    · refine (ok.g.cells c cell a q e2).mono sF (Pre.refl κ) (fun z => ?_) rfl
      rw [frzF_out fun c' h1 h2 => n (nd_at ok.g.nd h2 e2 ▸ h1)]
      exact z
    · exact True.intro
    · exact q
  · by_cases h : ∃ c, P c ∧ κ[c]? = some b
    · obtain ⟨c, h1, h2⟩ := h
      rw [frzF_in h1 h2] at e; exact e
    · rw [frzF_out fun c h1 h2 => h ⟨c, h1, h2⟩] at e
      exact ok.ch.fh b o e
  · rw [frzF_out fun c h1 h2 => ?_]
    · exact ok.ch.nw b e1 e2 e3
    · rcases (ok.own (own c h1) h2).2 with z | z
      · exact e3 z
      · exact e2 z
  · obtain ⟨v, h1, h2⟩ := ok.env i r e
    exact ⟨v, h1, h2.mono sF (Pre.refl κ)⟩
mutual
theorem RD.at {g : Rg} {m : Nat} (ok : Ok ks C σ F H κ env g) (sF : Same F (frzF F H κ fun c => m ≤ c ∧ Own g c)) : ∀ {r : Rv} {d : D} {v : V}, RD g m r d → RvOk ks F κ v r → At ks (frzF F H κ fun c => m ≤ c ∧ Own g c) v d
  | _, _, _, .dat d, h => At.mono sF h
  | _, _, _, .fz e, ⟨a, e1, e2⟩ => by subst e2; exact At.mono sF (ok.g.cells _ _ a e e1)
  | _, _, _, .lst hm e s, ⟨a, e1, e2⟩ => by
    subst e2
    obtain ⟨_, _, xs, h1, h2⟩ := ok.g.cells _ _ a e e1
    exact .lst ((frzF_in ⟨hm, .inl ⟨_, e⟩⟩ e1).trans h1) (RDs.at ok sF s h2)
  | _, _, _, .dic hm e s, ⟨a, e1, e2⟩ => by
    subst e2
    obtain ⟨_, _, xs, h1, h2⟩ := ok.g.cells _ _ a e e1
    exact .dic ((frzF_in ⟨hm, .inr ⟨_, e⟩⟩ e1).trans h1) (RDk.at ok sF s h2)
theorem RDs.at {g : Rg} {m : Nat} (ok : Ok ks C σ F H κ env g) (sF : Same F (frzF F H κ fun c => m ≤ c ∧ Own g c)) : ∀ {r : List Rv} {d : List D} {v : List V}, RDs g m r d → All2 (RvOk ks F κ) v r → Ats ks (frzF F H κ fun c => m ≤ c ∧ Own g c) v d
  | _, _, _, .nil, h => by cases h; exact .nil
  | _, _, _, .cons a s, h => by
    cases h with
    | cons h1 h2 => exact .cons (RD.at ok sF a h1) (RDs.at ok sF s h2)
theorem RDk.at {g : Rg} {m : Nat} (ok : Ok ks C σ F H κ env g) (sF : Same F (frzF F H κ fun c => m ≤ c ∧ Own g c)) : ∀ {r : List (Nat × Rv)} {d : List (Nat × D)} {v : List (Key × V)}, RDk g m r d → All2 (KvOk ks F κ) v r → Atk ks (frzF F H κ fun c => m ≤ c ∧ Own g c) v d
  | _, _, _, .nil, h => by cases h; exact .nil
  | _, _, _, .cons a s, h => by
    cases h with
    | @cons p _ l _ h1 h2 =>
      obtain ⟨⟨x, hx, hp⟩, hv⟩ := h1
      obtain ⟨p1, p2⟩ := p
      cases hp
      exact .cons hx (RD.at ok sF a hv) (RDk.at ok sF s h2)
end
theorem Ok.deep {g : Rg} {m : Nat} (ok : Ok ks C σ F H κ env g) (hm : m ≤ g.length) : Same F (frzF F H κ fun c' => m ≤ c' ∧ Own g c') ∧ Ok ks C σ (frzF F H κ fun c' => m ≤ c' ∧ Own g c') H κ env (g.take m ++ List.replicate (g.length - m) .dead) := by
  have own : ∀ c', (m ≤ c' ∧ Own g c') → Own g c' := fun c' z => z.2
  have sF := frzF_same (P := fun c' => m ≤ c' ∧ Own g c') ok own
  refine ⟨sF, ok.freeze own (by simp; omega) fun c' cell a' q1 q2 => ?_⟩
  by_cases hlt : c' < m
  · rw [List.getElem?_append_left (by simp; omega), List.getElem?_take_of_lt hlt] at q1
    exact .inl ⟨fun z => by omega, q1⟩
  · rw [List.getElem?_append_right (by simp; omega), List.getElem?_replicate] at q1
    split at q1
    · cases q1; exact .inr (.inl rfl)
    · cases q1
theorem RD.ok {g : Rg} {m : Nat} {r : Rv} {d : D} {v : V} (f : RD g m r d) (hm : m ≤ g.length) (ok : Ok ks C σ F H κ env g) (h : RvOk ks F κ v r) : ∃ F', Same F F' ∧ Ok ks C σ F' H κ env (g.take m ++ List.replicate (g.length - m) .dead) ∧ At ks F' v d :=
  ⟨_, (ok.deep hm).1, (ok.deep hm).2, RD.at ok (ok.deep hm).1 f h⟩
theorem datsN_at {g : Rg} (ok : Ok ks C σ F H κ env g) : ∀ {rs : List Rv} {ds : List D} {vs : List V}, datsN g rs = some ds → All2 (RvOk ks F κ) vs rs → Ats ks F vs ds
  | [], _, _, e, h => by cases e; cases h; exact .nil
  | r :: t, ds, _, e, h => by
    cases h with
    | cons h1 h2 =>
      have h3 := h1.nrm ok
      simp only [datsN] at e
      split at e
      · rename_i d hd
        rw [hd] at h3
        obtain ⟨ds', e1, e2⟩ := Option.map_eq_some_iff.mp e
        subst e2
        exact .cons h3 (datsN_at ok e1 h2)
      · cases e
theorem datsK_at {g : Rg} (ok : Ok ks C σ F H κ env g) : ∀ {rs : List (Nat × Rv)} {ds : List (Nat × D)} {vs : List (Key × V)}, datsK g rs = some ds → All2 (KvOk ks F κ) vs rs → Atk ks F vs ds
  | [], _, _, e, h => by cases e; cases h; exact .nil
  | (k, r) :: t, ds, _, e, h => by
    cases h with
    | @cons p _ l _ h1 h2 =>
      obtain ⟨⟨x, hx, hp⟩, hv⟩ := h1
      obtain ⟨p1, p2⟩ := p
      cases hp
      have h3 := RvOk.nrm ok hv
      simp only [datsK] at e
      split at e
      · rename_i d hd
        rw [hd] at h3
        obtain ⟨ds', e1, e2⟩ := Option.map_eq_some_iff.mp e
        subst e2
        exact .cons hx h3 (datsK_at ok e1 h2)
      · cases e
theorem Ok.leaf {g : Rg} {c : Nat} {a : Addr} {d : D} (ok : Ok ks C σ F H κ env g) (e1 : κ[c]? = some a) (hown : Own g c) (hA : At ks (frzF F H κ fun c' => c' = c) (.ref a) d) : Ok ks C σ (frzF F H κ fun c' => c' = c) H κ env (g.set c (.fz d)) := by
  have own : ∀ c', c' = c → Own g c' := fun c' z => by subst z; exact hown
  refine ok.freeze own (by simp) fun c' cell a' q1 q2 => ?_
  by_cases hcc : c' = c
  · subst hcc
    have hlt : c' < g.length := by rcases hown with ⟨_, e⟩ | ⟨_, e⟩ <;> exact (List.getElem?_eq_some_iff.mp e).1
    rw [List.getElem?_set_self hlt] at q1
    cases q1
    rw [e1] at q2; cases q2
    exact .inr (.inr ⟨_, rfl, hA⟩)
  · rw [List.getElem?_set_ne (Ne.symm hcc)] at q1
    exact .inl ⟨hcc, q1⟩
theorem frz1_ok {g : Rg} {r : Rv} {p : D × Rg} {v : V} (f : frz1 g r = some p) (ok : Ok ks C σ F H κ env g) (h : RvOk ks F κ v r) : ∃ F', Same F F' ∧ Ok ks C σ F' H κ env p.2 ∧ At ks F' v p.1 := by
  cases r with
  | dat d => cases f; exact ⟨F, Same.refl F, ok, h⟩
  | ref c =>
    obtain ⟨a, e1, rfl⟩ := h
    simp only [frz1] at f
    split at f
    · rename_i d e
      cases f
      exact ⟨F, Same.refl F, ok, ok.g.cells _ _ a e e1⟩
    · rename_i rs e
      obtain ⟨ds, hd, hp⟩ := Option.map_eq_some_iff.mp f
      subst hp
      have own : Own g c := .inl ⟨_, e⟩
      have sF := frzF_same (P := fun c' => c' = c) ok fun c' z => by subst z; exact own
      obtain ⟨_, _, xs, h1, h2⟩ := ok.g.cells _ _ a e e1
      have hA : At ks (frzF F H κ fun c' => c' = c) (.ref a) (.lst ds) := .lst ((frzF_in (P := fun c' => c' = c) (c := c) rfl e1).trans h1) (Ats.mono sF (datsN_at ok hd h2))
      exact ⟨_, sF, ok.leaf e1 own hA, hA⟩
    · rename_i rs e
      obtain ⟨ds, hd, hp⟩ := Option.map_eq_some_iff.mp f
      subst hp
      have own : Own g c := .inr ⟨_, e⟩
      have sF := frzF_same (P := fun c' => c' = c) ok fun c' z => by subst z; exact own
      obtain ⟨_, _, xs, h1, h2⟩ := ok.g.cells _ _ a e e1
      have hA : At ks (frzF F H κ fun c' => c' = c) (.ref a) (.dic ds) := .dic ((frzF_in (P := fun c' => c' = c) (c := c) rfl e1).trans h1) (Atk.mono sF (datsK_at ok hd h2))
      exact ⟨_, sF, ok.leaf e1 own hA, hA⟩
    · cases f
theorem frzs_ok : ∀ {rs : List Rv} {g : Rg} {p : List D × Rg} {F : Hp} {vs : List V}, frzs g rs = some p → Ok ks C σ F H κ env g → All2 (RvOk ks F κ) vs rs → ∃ F', Same F F' ∧ Ok ks C σ F' H κ env p.2 ∧ Ats ks F' vs p.1
  | [], _, _, F, _, e, ok, h => by cases e; cases h; exact ⟨F, Same.refl F, ok, .nil⟩
  | r :: t, g, _, F, _, e, ok, h => by
    cases h with
    | cons h1 h2 =>
      simp only [frzs] at e
      split at e
      · rename_i d g1 hd
        obtain ⟨p, e1, e2⟩ := Option.map_eq_some_iff.mp e
        subst e2
        obtain ⟨F1, s1, ok1, a1⟩ := frz1_ok hd ok h1
        obtain ⟨F2, s2, ok2, a2⟩ := frzs_ok e1 ok1 (h2.imp fun _ _ z => z.mono s1 (Pre.refl κ))
        exact ⟨F2, s1.trans s2, ok2, .cons (At.mono s2 a1) a2⟩
      · cases e
theorem wFrz_ok {g : Rg} {r : Rv} {v : V} {Q : D → Rg → Prop} (w : wFrz r g Q) (ok : Ok ks C σ F H κ env g) (h : RvOk ks F κ v r) : ∃ F' d g', Same F F' ∧ Ok ks C σ F' H κ env g' ∧ At ks F' v d ∧ Q d g' := by
  unfold wFrz at w
  split at w
  · rename_i p hp
    obtain ⟨F', s, ok', a⟩ := frz1_ok hp ok h
    exact ⟨F', _, _, s, ok', a, w⟩
  · obtain ⟨m, d, hd, hm, q⟩ := w
    obtain ⟨F', s, ok', a⟩ := hd.ok hm ok h
    exact ⟨F', _, _, s, ok', a, q⟩
theorem wFrzL_ok {g : Rg} {rs : List Rv} {vs : List V} {Q : List D → Rg → Prop} (w : wFrzL rs g Q) (ok : Ok ks C σ F H κ env g) (h : All2 (RvOk ks F κ) vs rs) : ∃ F' ds g', Same F F' ∧ Ok ks C σ F' H κ env g' ∧ Ats ks F' vs ds ∧ Q ds g' := by
  unfold wFrzL at w
  split at w
  · rename_i p hp
    obtain ⟨F', s, ok', a⟩ := frzs_ok hp ok h
    exact ⟨F', _, _, s, ok', a, w⟩
  · obtain ⟨m, d, hd, hm, q⟩ := w
    exact ⟨_, _, _, (ok.deep hm).1, (ok.deep hm).2, RDs.at ok (ok.deep hm).1 hd h, q⟩
end

/-! ### reading, for simp -/
theorem rd_dat {g : Rg} {m : Nat} {e d : D} : RD g m (.dat e) d ↔ d = e := ⟨fun h => by cases h; rfl, fun h => h ▸ .dat _⟩
theorem rd_ref {g : Rg} {m c : Nat} {d : D} : RD g m (.ref c) d ↔ match g[c]? with | some (.fz e) => d = e | some (.lst rs) => m ≤ c ∧ ∃ ds, RDs g m rs ds ∧ d = .lst ds | some (.dic rs) => m ≤ c ∧ ∃ ds, RDk g m rs ds ∧ d = .dic ds | _ => False := by
  constructor
  · intro h
    cases h with
    | fz e => rw [e]
    | lst hm e s => rw [e]; exact ⟨hm, _, s, rfl⟩
    | dic hm e s => rw [e]; exact ⟨hm, _, s, rfl⟩
  · intro h
    split at h
    · rename_i e he; subst h; exact .fz he
    · rename_i rs he; obtain ⟨hm, ds, s, rfl⟩ := h; exact .lst hm he s
    · rename_i rs he; obtain ⟨hm, ds, s, rfl⟩ := h; exact .dic hm he s
    · exact h.elim
theorem rds_nil {g : Rg} {m : Nat} {ds : List D} : RDs g m [] ds ↔ ds = [] := ⟨fun h => by cases h; rfl, fun h => h ▸ .nil⟩
theorem rds_cons {g : Rg} {m : Nat} {r : Rv} {rs : List Rv} {ds : List D} : RDs g m (r :: rs) ds ↔ ∃ d, RD g m r d ∧ ∃ t, RDs g m rs t ∧ ds = d :: t :=
  ⟨fun h => by cases h with | cons a b => exact ⟨_, a, _, b, rfl⟩, fun ⟨_, a, _, b, e⟩ => e ▸ .cons a b⟩
theorem rdk_nil {g : Rg} {m : Nat} {ds : List (Nat × D)} : RDk g m [] ds ↔ ds = [] := ⟨fun h => by cases h; rfl, fun h => h ▸ .nil⟩
theorem rdk_cons {g : Rg} {m k : Nat} {r : Rv} {rs : List (Nat × Rv)} {ds : List (Nat × D)} : RDk g m ((k, r) :: rs) ds ↔ ∃ d, RD g m r d ∧ ∃ t, RDk g m rs t ∧ ds = (k, d) :: t :=
  ⟨fun h => by cases h with | cons a b => exact ⟨_, a, _, b, rfl⟩, fun ⟨_, a, _, b, e⟩ => e ▸ .cons a b⟩
theorem rds_map {g : Rg} {m : Nat} : ∀ {es ds : List D}, RDs g m (es.map .dat) ds ↔ ds = es
  | [], ds => rds_nil
  | e :: es, ds => by
    rw [List.map_cons, rds_cons]
    exact ⟨fun ⟨d, a, t, b, q⟩ => by rw [q, rd_dat.mp a, rds_map.mp b], fun h => ⟨e, rd_dat.mpr rfl, es, rds_map.mpr rfl, h⟩⟩
theorem datsN_map {g : Rg} : ∀ {ds : List D}, datsN g (ds.map .dat) = some ds
  | [] => rfl
  | d :: ds => by simp only [List.map_cons, datsN, nrm, datsN_map, Option.map_some]
theorem datsN_app {g : Rg} : ∀ {rs ts : List Rv}, datsN g (rs ++ ts) = (datsN g rs).bind fun a => (datsN g ts).map (a ++ ·)
  | [], ts => by simp [datsN]
  | r :: rs, ts => by
    simp only [List.cons_append, datsN]
    split
    · rw [datsN_app]; cases datsN g rs <;> cases datsN g ts <;> rfl
    · rfl
theorem rds_app {g : Rg} {m : Nat} : ∀ {rs ts : List Rv} {ds : List D}, RDs g m (rs ++ ts) ds ↔ ∃ a, RDs g m rs a ∧ ∃ b, RDs g m ts b ∧ ds = a ++ b
  | [], ts, ds => ⟨fun h => ⟨[], .nil, ds, h, rfl⟩, fun ⟨a, h, b, q, e⟩ => by rw [rds_nil.mp h] at e; rw [e]; exact q⟩
  | r :: rs, ts, ds => by
    rw [List.cons_append, rds_cons]
    constructor
    · rintro ⟨d, h, t, q, rfl⟩
      obtain ⟨a, h1, b, h2, rfl⟩ := rds_app.mp q
      exact ⟨d :: a, .cons h h1, b, h2, rfl⟩
    · rintro ⟨a, h, b, q, rfl⟩
      obtain ⟨d, h1, t, h2, rfl⟩ := rds_cons.mp h
      exact ⟨d, h1, t ++ b, rds_app.mpr ⟨t, h2, b, q, rfl⟩, rfl⟩
end DW

/-! ## DW3.lean -/
set_option Elab.async false
set_option linter.all false
set_option maxRecDepth 100000
set_option maxHeartbeats 2000000
set_option autoImplicit false
/-! DW3: the rules of expressions. -/
namespace DW
open PySem PySem.Spec L2
open PyProof.Rows hiding St

section
variable {ks : Kt} {X : Cx} {C : Ent} {env : En} {pos : Pos}

section
variable {F : Hp} {κ : List Addr}
theorem rv_int (n : Int) : RvOk ks F κ (.int n) (.dat (.int n)) := At.int n
theorem rv_bl (n : Bool) : RvOk ks F κ (.bl n) (.dat (.bl n)) := At.bl n
theorem rv_non : RvOk ks F κ .non (.dat .non) := At.non
theorem rv_str {i : Nat} {x : Str} (hx : ks.w[i]? = some x) : RvOk ks F κ (.str x) (.dat (.str i)) := At.str hx
theorem rv_d {v : V} {d : D} (h : At ks F v d) : RvOk ks F κ v (.dat d) := h
theorem rv_ref {c : Nat} {a : Addr} (h : κ[c]? = some a) : RvOk ks F κ (.ref a) (.ref c) := ⟨a, h, rfl⟩
theorem rv_new {p : Addr} {n : Nat} (h : κ.length = n) : RvOk ks F (κ ++ [p]) (.ref p) (.ref n) := ⟨p, by subst h; simp, rfl⟩
end
theorem Ok.fresh {σ : L2.St} {F H : Hp} {κ : List Addr} {g : Rg} {p : Addr} (ok : Ok ks C σ F H κ env g) (hp : H p = none) : F p = none ∧ (C.A p ∨ C.H p = none) := by
  constructor
  · cases q : F p with
    | none => rfl
    | some u => have := ok.ch.fh p u q; rw [hp] at this; cases this
  · cases q : C.H p with
    | none => exact .inr rfl
    | some u =>
      by_cases z : C.A p
      · exact .inl z
      · have := ok.ch.hh p u q z; rw [hp] at this; cases this
/-! ### constants, names -/
theorem se_int {n : Int} {j : Nat} : SE ks X C env (.Constant (.int n) j pos) (fun g Q => Q (.dat (.int n)) g) :=
  fun g Q h σ F H κ Qv ok k => wE_of pe_int (k.here ok (rv_int n) h)
theorem se_bl {b : Bool} {j : Nat} : SE ks X C env (.Constant (.bool b) j pos) (fun g Q => Q (.dat (.bl b)) g) :=
  fun g Q h σ F H κ Qv ok k => wE_of pe_bl (k.here ok (rv_bl b) h)
theorem se_non {j : Nat} : SE ks X C env (.Constant .none j pos) (fun g Q => Q (.dat .non) g) :=
  fun g Q h σ F H κ Qv ok k => wE_of pe_non (k.here ok rv_non h)
theorem se_str {i : Nat} {x : Str} {j : Nat} (hx : ks.w[i]? = some x) : SE ks X C env (.Constant (.str x) j pos) (fun g Q => Q (.dat (.str i)) g) :=
  fun g Q h σ F H κ Qv ok k => wE_of pe_str (k.here ok (rv_str hx) h)
/-- a name's value -/
def wVar (env : En) (i : Nat) (g : Rg) (Q : RQ) : Prop := ∃ r, env[i]? = some (some r) ∧ Q (nrm g r) g
theorem se_var {i : Nat} {x : Str} (hN : X.N[i]? = some x) (hv : Vis X.env.scope x) (hd : (x == ("__debug__" : Str)) = false) (hcd : (x == ("__classdict__" : Str)) = false) : SE ks X C env (.Name x pos) (wVar env i) :=
  fun g Q ⟨r, e, h⟩ σ F H κ Qv ok k => by
    obtain ⟨v, h1, h2⟩ := ok.env i r e
    exact wE_of (pe_var hN hv hd hcd) ⟨v, h1, k.here ok (h2.nrm ok) h⟩
theorem se_glob {x : Str} {n : Int} {t : Tok} (hg : Gl X x) (hm : X.mg x = some (.int n t)) (hd : (x == ("__debug__" : Str)) = false) : SE ks X C env (.Name x pos) (fun g Q => Q (.dat (.int n)) g) :=
  fun g Q h σ F H κ Qv ok k => wE_of (pe_glob hg hm (v := .int n) ⟨t, rfl⟩ hd) (k.here ok (rv_int n) h)

/-! ### several expressions -/
theorem sa_nil : SA ks X C env [] (fun g Q => Q [] g) :=
  fun g Q h σ F H κ Qv ok k => wA_of pa_nil (k [] F H κ [] g ok (Same.refl F) (Pre.refl κ) .nil h)
theorem sa_cons {e : Expr} {es : List Expr} {W : Rg → RQ → Prop} {Ws : Rg → (List Rv → Rg → Prop) → Prop} (he : SE ks X C env e W) (hs : SA ks X C env es Ws) (hst : starEach (e :: es) X.env = (false, eval e X.env) :: starEach es X.env) :
    SA ks X C env (e :: es) (fun g Q => W g fun r g => Ws g fun rs g => Q (r :: rs) g) :=
  fun g Q h σ F H κ Qv ok k => wA_of (pa_cons pe_w pa_w hst) (he g _ h σ F H κ _ ok fun v F1 H1 κ1 r g1 ok1 s1 p1 rv q1 =>
    hs g1 _ q1 σ F1 H1 κ1 _ ok1 fun vs F2 H2 κ2 rs g2 ok2 s2 p2 rvs q2 => k _ F2 H2 κ2 _ g2 ok2 (s1.trans s2) (p1.trans p2) (.cons (rv.mono s2 p2) rvs) q2)

/-! ### two operands -/
/-- what an operator on values gives -/
def BinOk (ks : Kt) (X : Cx) (C : Ent) (env : En) (r : R2) (B : Rv → Rv → Rg → RQ → Prop) : Prop :=
  ∀ g rx ry Q, B rx ry g Q → ∀ σ F H κ Qv x y, Ok ks C σ F H κ env g → RvOk ks F κ x rx → RvOk ks F κ y ry → Kont ks C env σ F κ Q Qv → r x y H Qv
section
variable {a b : Expr} {Wa Wb : Rg → RQ → Prop} {r : R2} {B : Rv → Rv → Rg → RQ → Prop}
theorem two {Qv : VK} {σ : L2.St} {F H : Hp} {κ : List Addr} {g : Rg} {Q : RQ} (ha : SE ks X C env a Wa) (hb : SE ks X C env b Wb) (hB : BinOk ks X C env r B) (ok : Ok ks C σ F H κ env g) (k : Kont ks C env σ F κ Q Qv)
    (h : Wa g fun r1 g1 => Wb g1 fun r2 g2 => B r1 r2 g2 Q) : wE X a σ H fun x H1 => wE X b σ H1 fun y H2 => r x y H2 Qv :=
  ha g _ h σ F H κ _ ok fun v F1 H1 κ1 r1 g1 ok1 s1 p1 rv1 q1 => hb g1 _ q1 σ F1 H1 κ1 _ ok1 fun w F2 H2 κ2 r2 g2 ok2 s2 p2 rv2 q2 =>
    hB g2 r1 r2 Q q2 σ F2 H2 κ2 Qv v w ok2 (rv1.mono s2 p2) rv2 (k.at (s1.trans s2) (p1.trans p2))
theorem se_op {op : Operator} (ho : OpR X (binaryOp op) r) (ha : SE ks X C env a Wa) (hb : SE ks X C env b Wb) (hB : BinOk ks X C env r B) :
    SE ks X C env (.BinOp a op b pos) (fun g Q => Wa g fun r1 g1 => Wb g1 fun r2 g2 => B r1 r2 g2 Q) :=
  fun g Q h σ F H κ Qv ok k => wE_of (pe_op ho pe_w pe_w) (two ha hb hB ok k h)
theorem se_cmp {op : CmpOp} (ho : OpR X (compareOp op) r) (hm : behindInMarks op b = false) (ha : SE ks X C env a Wa) (hb : SE ks X C env b Wb) (hB : BinOk ks X C env r B) :
    SE ks X C env (.Compare a [op] [b] pos) (fun g Q => Wa g fun r1 g1 => Wb g1 fun r2 g2 => B r1 r2 g2 Q) :=
  fun g Q h σ F H κ Qv ok k => wE_of (pe_cmpR ho pe_w pe_w hm) (two ha hb hB ok k h)
/-- a bool wanted -/
def wantB (Q : Bool → Rg → Prop) : RQ := fun r g => ∃ b, r = .dat (.bl b) ∧ Q b g
theorem st_cmp {op : CmpOp} (ho : OpR X (compareOp op) r) (hm : behindInMarks op b = false) (ha : SE ks X C env a Wa) (hb : SE ks X C env b Wb) (hB : BinOk ks X C env r B) :
    ST ks X C env (.Compare a [op] [b] pos) (fun g Q => Wa g fun r1 g1 => Wb g1 fun r2 g2 => B r1 r2 g2 (wantB Q)) :=
  fun g Q h σ F H κ Qv ok k => wT_of (pt_cmpR ho pe_w pe_w hm) (two (Q := wantB Q) (Qv := fun x H' => ∃ k, x = .bl k ∧ Qv k H') ha hb hB ok (fun v F' H' κ' r g' ok' s p rv q => by
    obtain ⟨c, rfl, q⟩ := q
    exact ⟨c, At.blI rv, k c F' H' κ' g' ok' s p q⟩) h)
/-- an expression whose value is a bool, as a test -/
theorem st_val {e : Expr} {W : Rg → RQ → Prop} (he : SE ks X C env e W) (hp : ∀ whole, isTrue e X.env whole = (do let v ← whole; standAt e.pos; holding [v] (truthy v))) : ST ks X C env e (fun g Q => W g (wantB Q)) :=
  fun g Q h σ F H κ Qv ok k => wT_of (pt_val pe_w hp) (he g _ h σ F H κ _ ok fun v F' H' κ' r g' ok' s p rv q => by
    obtain ⟨c, rfl, q⟩ := q
    exact ⟨c, At.blI rv, k c F' H' κ' g' ok' s p q⟩)
/-- a < b < c -/
theorem se_chain {c : Expr} {op op' : CmpOp} {r' : R2} {B' : Rv → Rv → Rg → RQ → Prop} {Wc : Rg → RQ → Prop} (ho : OpR X (compareOp op) r) (ho' : OpR X (compareOp op') r') (ha : SE ks X C env a Wa) (hb : SE ks X C env b Wb) (hc : SE ks X C env c Wc)
    (hB : BinOk ks X C env r B) (hB' : BinOk ks X C env r' B') {tch : TE} (hpe : tch = tChain r r' (wE X a) (wE X b) (wE X c)) (hch : PE X (.Compare a [op, op'] [b, c] pos) tch) :
    SE ks X C env (.Compare a [op, op'] [b, c] pos) (fun g Q => Wa g fun r1 g1 => Wb g1 fun r2 g2 => B r1 r2 g2 (wantB fun k g3 => (k = true → Wc g3 fun r3 g4 => B' r2 r3 g4 Q) ∧ (k = false → Q (.dat (.bl false)) g3))) := by
  subst hpe
  intro g Q h σ F H κ Qv ok k
  refine wE_of hch ?_
  refine ha g _ h σ F H κ _ ok fun v F1 H1 κ1 r1 g1 ok1 s1 p1 rv1 q1 => hb g1 _ q1 σ F1 H1 κ1 _ ok1 fun w F2 H2 κ2 r2 g2 ok2 s2 p2 rv2 q2 => ?_
  refine hB g2 r1 r2 _ q2 σ F2 H2 κ2 _ v w ok2 (rv1.mono s2 p2) rv2 fun z F3 H3 κ3 r3 g3 ok3 s3 p3 rv3 q3 => ?_
  obtain ⟨k3, rfl, q4, q5⟩ := q3
  refine ⟨k3, At.blI rv3, ?_⟩
  cases k3 with
  | true =>
    rw [if_pos rfl]
    exact hc g3 _ (q4 rfl) σ F3 H3 κ3 _ ok3 fun u F4 H4 κ4 r4 g4 ok4 s4 p4 rv4 q6 => hB' g4 r2 r4 Q q6 σ F4 H4 κ4 Qv w u ok4 (rv2.mono (s3.trans s4) (p3.trans p4)) rv4 (k.at (((s1.trans s2).trans s3).trans s4) (((p1.trans p2).trans p3).trans p4))
  | false =>
    rw [if_neg Bool.false_ne_true]
    exact k _ F3 H3 κ3 _ g3 ok3 ((s1.trans s2).trans s3) ((p1.trans p2).trans p3) (rv_bl false) (q5 rfl)
end

/-! ### and, or, not -/
section
variable {a b : Expr} {rest : List Expr} {Wa Wb : Rg → RQ → Prop} {Ta Tb : Rg → (Bool → Rg → Prop) → Prop}
theorem se_one {op : BoolOp} (ha : SE ks X C env a Wa) : SE ks X C env (.BoolOp op [a] pos) Wa := fun g Q h σ F H κ Qv ok k => wE_of (pe_one pe_w) (ha g Q h σ F H κ Qv ok k)
def wAndV (Wa Wb : Rg → RQ → Prop) : Rg → RQ → Prop := fun g Q => Wa g (wantB fun k g1 => (k = true → Wb g1 Q) ∧ (k = false → Q (.dat (.bl false)) g1))
def wOrV (Wa Wb : Rg → RQ → Prop) : Rg → RQ → Prop := fun g Q => Wa g (wantB fun k g1 => (k = true → Q (.dat (.bl true)) g1) ∧ (k = false → Wb g1 Q))
theorem se_and (ha : SE ks X C env a Wa) (hb : SE ks X C env (.BoolOp .And (b :: rest) pos) Wb) : SE ks X C env (.BoolOp .And (a :: b :: rest) pos) (wAndV Wa Wb) := by
  intro g Q h σ F H κ Qv ok k
  refine wE_of (pe_and pe_w pe_w) (ha g _ h σ F H κ _ ok fun v F1 H1 κ1 r1 g1 ok1 s1 p1 rv1 q1 => ?_)
  obtain ⟨c, rfl, q2, q3⟩ := q1
  refine ⟨c, At.blI rv1, ?_⟩
  cases c with
  | true => rw [if_pos rfl]; exact hb g1 Q (q2 rfl) σ F1 H1 κ1 Qv ok1 (k.at s1 p1)
  | false => rw [if_neg Bool.false_ne_true]; exact k _ F1 H1 κ1 _ g1 ok1 s1 p1 (rv_bl false) (q3 rfl)
theorem se_or (ha : SE ks X C env a Wa) (hb : SE ks X C env (.BoolOp .Or (b :: rest) pos) Wb) : SE ks X C env (.BoolOp .Or (a :: b :: rest) pos) (wOrV Wa Wb) := by
  intro g Q h σ F H κ Qv ok k
  refine wE_of (pe_or pe_w pe_w) (ha g _ h σ F H κ _ ok fun v F1 H1 κ1 r1 g1 ok1 s1 p1 rv1 q1 => ?_)
  obtain ⟨c, rfl, q2, q3⟩ := q1
  refine ⟨c, At.blI rv1, ?_⟩
  cases c with
  | true => rw [if_pos rfl]; exact k _ F1 H1 κ1 _ g1 ok1 s1 p1 (rv_bl true) (q2 rfl)
  | false => rw [if_neg Bool.false_ne_true]; exact hb g1 Q (q3 rfl) σ F1 H1 κ1 Qv ok1 (k.at s1 p1)
def wNotV (Wa : Rg → RQ → Prop) : Rg → RQ → Prop := fun g Q => Wa g (wantB fun k g1 => Q (.dat (.bl (!k))) g1)
theorem se_not (ha : SE ks X C env a Wa) : SE ks X C env (.UnaryOp .Not a pos) (wNotV Wa) := by
  intro g Q h σ F H κ Qv ok k
  refine wE_of (pe_not pe_w) (ha g _ h σ F H κ _ ok fun v F1 H1 κ1 r1 g1 ok1 s1 p1 rv1 q1 => ?_)
  obtain ⟨c, rfl, q2⟩ := q1
  exact ⟨c, At.blI rv1, k _ F1 H1 κ1 _ g1 ok1 s1 p1 (rv_bl _) q2⟩
theorem sw_one {op : BoolOp} (ho : op = .And ∨ op = .Or) (ha : ST ks X C env a Ta) : SW ks X C env (.BoolOp op [a] pos) Ta := by
  intro g Q h σ F H κ Qv ok k
  rcases ho with rfl | rfl
  · exact wW_of (pw_and1 pt_w) (ha g Q h σ F H κ Qv ok k)
  · exact wW_of (pw_or1 pt_w) (ha g Q h σ F H κ Qv ok k)
theorem st_w (ha : SW ks X C env a Ta) : ST ks X C env a Ta := fun g Q h σ F H κ Qv ok k => wT_of pw_w.pt (ha g Q h σ F H κ Qv ok k)
def wAndT (Ta Tb : Rg → (Bool → Rg → Prop) → Prop) : Rg → (Bool → Rg → Prop) → Prop := fun g Q => Ta g fun k g1 => (k = true → Tb g1 Q) ∧ (k = false → Q false g1)
def wOrT (Ta Tb : Rg → (Bool → Rg → Prop) → Prop) : Rg → (Bool → Rg → Prop) → Prop := fun g Q => Ta g fun k g1 => (k = true → Q true g1) ∧ (k = false → Tb g1 Q)
theorem sw_and (ha : ST ks X C env a Ta) (hb : SW ks X C env (.BoolOp .And (b :: rest) pos) Tb) : SW ks X C env (.BoolOp .And (a :: b :: rest) pos) (wAndT Ta Tb) := by
  intro g Q h σ F H κ Qv ok k
  refine wW_of (pw_and pt_w pw_w) (ha g _ h σ F H κ _ ok fun c F1 H1 κ1 g1 ok1 s1 p1 q1 => ?_)
  cases c with
  | true => rw [if_pos rfl]; exact hb g1 Q (q1.1 rfl) σ F1 H1 κ1 Qv ok1 (k.at s1 p1)
  | false => rw [if_neg Bool.false_ne_true]; exact k _ F1 H1 κ1 g1 ok1 s1 p1 (q1.2 rfl)
theorem sw_or (ha : ST ks X C env a Ta) (hb : SW ks X C env (.BoolOp .Or (b :: rest) pos) Tb) : SW ks X C env (.BoolOp .Or (a :: b :: rest) pos) (wOrT Ta Tb) := by
  intro g Q h σ F H κ Qv ok k
  refine wW_of (pw_or pt_w pw_w) (ha g _ h σ F H κ _ ok fun c F1 H1 κ1 g1 ok1 s1 p1 q1 => ?_)
  cases c with
  | true => rw [if_pos rfl]; exact k _ F1 H1 κ1 g1 ok1 s1 p1 (q1.1 rfl)
  | false => rw [if_neg Bool.false_ne_true]; exact hb g1 Q (q1.2 rfl) σ F1 H1 κ1 Qv ok1 (k.at s1 p1)
theorem st_not (ha : ST ks X C env a Ta) : ST ks X C env (.UnaryOp .Not a pos) (fun g Q => Ta g fun k g1 => Q (!k) g1) := by
  intro g Q h σ F H κ Qv ok k
  exact wT_of (pt_not pt_w) (ha g _ h σ F H κ _ ok fun c F1 H1 κ1 g1 ok1 s1 p1 q1 => k _ F1 H1 κ1 g1 ok1 s1 p1 q1)
end

/-! ### displays -/
theorem sizeL {n : Nat} (h : n ≤ 1000000) : n ≤ sizeLine := Nat.le_trans h (by decide)
theorem se_tup {es : List Expr} {x1 : Nat} {W : Rg → (List Rv → Rg → Prop) → Prop} (hs : SA ks X C env es W) :
    SE ks X C env (.Tuple es x1 pos) (fun g Q => W g fun rs g1 => wFrzL rs g1 fun ds g2 => ds.length ≤ 1000000 ∧ Q (.dat (.tup ds)) g2) := by
  intro g Q h σ F H κ Qv ok k
  refine wE_of (pe_tup pa_w) (hs g _ h σ F H κ _ ok fun vs F1 H1 κ1 rs g1 ok1 s1 p1 rv1 q1 => ?_)
  obtain ⟨F2, ds, g2, s2, ok2, a2, hl, q⟩ := wFrzL_ok q1 ok1 rv1
  have el : vs.length = ds.length := (Ats.all2 a2).length
  refine ⟨sizeL (by omega), fun p hp => ?_⟩
  have sF := ok2.newD_F (o := .tup vs) hp
  exact k _ _ _ κ1 _ g2 (ok2.newD hp) ((s1.trans s2).trans sF) p1 (rv_d (.tup upd_same (Ats.mono sF a2))) q
theorem se_lst {es : List Expr} {W : Rg → (List Rv → Rg → Prop) → Prop} (hs : SA ks X C env es W) :
    SE ks X C env (.List es pos) (fun g Q => W g fun rs g1 => rs.length ≤ 1000000 ∧ Q (.ref g1.length) (g1 ++ [.lst rs])) := by
  intro g Q h σ F H κ Qv ok k
  refine wE_of (pe_lst pa_w) (hs g _ h σ F H κ _ ok fun vs F1 H1 κ1 rs g1 ok1 s1 p1 rv1 q1 => ?_)
  have el := rv1.length
  refine ⟨sizeL (by omega), fun p hp => ?_⟩
  have fresh := ok1.fresh hp
  exact k _ _ _ (κ1 ++ [p]) _ _ (ok1.newC (cell := .lst rs) hp ⟨fresh.1, fresh.2, vs, upd_same, rv1.imp fun _ _ z => z.mono (Same.refl _) (Pre.app _ _)⟩) s1 (p1.trans (Pre.app _ _)) (rv_new ok1.g.len) q1.2
end
end DW

/-! ## DW4.lean -/
set_option Elab.async false
set_option linter.all false
set_option maxRecDepth 100000
set_option maxHeartbeats 2000000
set_option autoImplicit false
/-! DW4: equality of data; the operators. -/
namespace DW
open PySem PySem.Spec L2
open PyProof.Rows hiding St

/-! ### == -/
mutual
def eqv : D → D → Bool
  | .non, e => match e with | .non => true | _ => false
  | .bl a, e => match e with | .bl b => a == b | .int j => (if a then 1 else 0) == j | _ => false
  | .int i, e => match e with | .bl b => i == (if b then 1 else 0) | .int j => i == j | _ => false
  | .str a, e => match e with | .str b => a == b | _ => false
  | .lst ds, e => match e with | .lst es => eqvs ds es | _ => false
  | .tup ds, e => match e with | .tup es => eqvs ds es | _ => false
  | .dic _, _ => false
  | .scr _, _ => false
def eqvs : List D → List D → Bool
  | [], es => es.isEmpty
  | d :: ds, es => match es with | [] => false | e :: es => eqv d e && eqvs ds es
end
mutual
/-- no dicts in it, of depth n at most -/
def plN : Nat → D → Bool
  | _, .non => true
  | _, .bl _ => true
  | _, .int _ => true
  | _, .str _ => true
  | n, .lst ds => plAll n ds
  | n, .tup ds => plAll n ds
  | _, .dic _ => false
  | _, .scr _ => false
def plAll : Nat → List D → Bool
  | _, [] => true
  | 0, _ :: _ => false
  | n + 1, d :: ds => plN n d && plAll (n + 1) ds
end
mutual
def toPy (ks : Kt) : D → PyData
  | .non => .none
  | .bl b => .bool b
  | .int i => .int i
  | .str k => .str (ks.w.getD k ⟨#[]⟩)
  | .lst ds => .list (toPys ks ds)
  | .tup ds => .tuple (toPys ks ds)
  | .dic _ => .none
  | .scr _ => .none
def toPys (ks : Kt) : List D → List PyData
  | [] => []
  | d :: ds => toPy ks d :: toPys ks ds
end
section
variable {ks : Kt} {X : Cx} {C : Ent} {env : En} {σ : L2.St} {F H : Hp} {κ : List Addr}
theorem getD_of {k : Nat} {x : Str} (h : ks.w[k]? = some x) : ks.w.getD k ⟨#[]⟩ = x := by rw [List.getD_eq_getElem?_getD, h]; rfl
mutual
theorem At.dp {K : PySem.W.Frag} (s : Same F H) : ∀ {d : D} {n : Nat} {v : V}, At ks F v d → plN n d = true → Dp K H v (toPy ks d)
  | .non, _, _, h, _ => by cases h; simp only [toPy]; exact .non
  | .bl b, _, _, h, _ => by cases h; simp only [toPy]; exact .bl b
  | .int i, _, _, h, _ => by cases h; simp only [toPy]; exact .int i
  | .str k, _, _, h, _ => by
    cases h with
    | str e => simp only [toPy]; rw [getD_of e]; exact .str _
  | .lst ds, n, _, h, p => by
    cases h with
    | lst e a => simp only [toPy]; exact .lst (SqL.of (s _ _ e)) (Ats.dp s a (by simpa only [plN] using p))
  | .tup ds, n, _, h, p => by
    cases h with
    | tup e a => simp only [toPy]; exact .tup (SqT.of (s _ _ e)) (Ats.dp s a (by simpa only [plN] using p))
  | .dic _, _, _, _, p => by simp [plN] at p
  | .scr _, _, _, _, p => by simp [plN] at p
theorem Ats.dp {K : PySem.W.Frag} (s : Same F H) : ∀ {ds : List D} {n : Nat} {vs : List V}, Ats ks F vs ds → plAll n ds = true → DpAll K H vs (toPys ks ds)
  | [], _, _, h, _ => by cases h; simp only [toPys]; exact .nil
  | d :: ds, 0, _, _, p => by simp [plAll] at p
  | d :: ds, n + 1, _, h, p => by
    simp only [plAll, Bool.and_eq_true] at p
    cases h with
    | cons a b => simp only [toPys]; exact .cons (At.dp s a p.1) (Ats.dp s b p.2)
end
mutual
theorem depth_le : ∀ {d : D} {n : Nat}, plN n d = true → (toPy ks d).depth ≤ n + 1
  | .non, n, _ => by simp [toPy, PyData.depth]
  | .bl _, n, _ => by simp [toPy, PyData.depth]
  | .int _, n, _ => by simp [toPy, PyData.depth]
  | .str _, n, _ => by simp [toPy, PyData.depth]
  | .lst ds, n, p => by
    have h := depths_le (ds := ds) (n := n) (by simpa only [plN] using p)
    simp only [toPy, PyData.depth]; omega
  | .tup ds, n, p => by
    have h := depths_le (ds := ds) (n := n) (by simpa only [plN] using p)
    simp only [toPy, PyData.depth]; omega
  | .dic _, _, p => by simp [plN] at p
  | .scr _, _, p => by simp [plN] at p
theorem depths_le : ∀ {ds : List D} {n : Nat}, plAll n ds = true → PyData.depthAll (toPys ks ds) ≤ n
  | [], n, _ => by simp [toPys, PyData.depthAll]
  | d :: ds, 0, p => by simp [plAll] at p
  | d :: ds, n + 1, p => by
    simp only [plAll, Bool.and_eq_true] at p
    have h1 := depth_le (d := d) (n := n) p.1
    have h2 := depths_le (ds := ds) (n := n + 1) p.2
    simp only [toPys, PyData.depthAll]; omega
end
mutual
theorem canLay (hs : ∀ x ∈ ks.w, PyData.strOk x = true) : ∀ {d : D} {n : Nat}, plN n d = true → (toPy ks d).canLay0 = true
  | .non, n, _ => by simp [toPy, PyData.canLay0]
  | .bl _, n, _ => by simp [toPy, PyData.canLay0]
  | .int _, n, _ => by simp [toPy, PyData.canLay0]
  | .str k, n, _ => by
    simp only [toPy, PyData.canLay0]
    by_cases h : k < ks.w.length
    · rw [getD_of (List.getElem?_eq_getElem h)]; exact hs _ (List.getElem_mem h)
    · rw [List.getD_eq_getElem?_getD, List.getElem?_eq_none (by omega)]; simp [PyData.strOk]
  | .lst ds, n, p => by
    simp only [toPy, PyData.canLay0]
    exact canLays hs (by simpa only [plN] using p)
  | .tup ds, n, p => by
    simp only [toPy, PyData.canLay0]
    exact canLays hs (by simpa only [plN] using p)
  | .dic _, _, p => by simp [plN] at p
  | .scr _, _, p => by simp [plN] at p
theorem canLays (hs : ∀ x ∈ ks.w, PyData.strOk x = true) : ∀ {ds : List D} {n : Nat}, plAll n ds = true → PyData.canLayAll0 (toPys ks ds) = true
  | [], n, _ => by simp [toPys, PyData.canLayAll0]
  | d :: ds, 0, p => by simp [plAll] at p
  | d :: ds, n + 1, p => by
    simp only [plAll, Bool.and_eq_true] at p
    simp only [toPys, PyData.canLayAll0, canLay hs p.1, canLays hs p.2, Bool.and_self]
end
theorem shaped_pl (hs : ∀ x ∈ ks.w, PyData.strOk x = true) {d : D} (p : plN 60 d = true) : SeqAt.shaped (toPy ks d) = true := by
  unfold SeqAt.shaped
  rw [canLay hs p]
  have := depth_le (ks := ks) p
  simp; omega
theorem str_eqv (nd : ks.w.Nodup) {a b : Nat} {x y : Str} (h : ks.w[a]? = some x) (h' : ks.w[b]? = some y) : (x == y) = (a == b) := by
  by_cases e : a = b
  · subst e
    rw [h] at h'; cases h'
    simp
  · have : x ≠ y := by
      rintro rfl
      obtain ⟨l1, q1⟩ := List.getElem?_eq_some_iff.mp h
      obtain ⟨l2, q2⟩ := List.getElem?_eq_some_iff.mp h'
      exact e ((List.getElem_inj nd).mp (q1.trans q2.symm))
    rw [beq_eq_false_iff_ne.mpr this, beq_eq_false_iff_ne.mpr e]
mutual
theorem eqv_py (nd : ks.w.Nodup) {F2 : Hp} : ∀ {d e : D} {n m : Nat} {v w : V}, At ks F v d → At ks F2 w e → plN n d = true → plN m e = true → PyData.eqv (toPy ks d) (toPy ks e) = eqv d e
  | .non, e, _, _, _, _, _, h', _, p' => by cases e <;> first | rfl | simp [plN] at p'
  | .bl a, e, _, _, _, _, _, h', _, p' => by cases e <;> first | rfl | simp [toPy, PyData.eqv, eqv] | simp [plN] at p'
  | .int a, e, _, _, _, _, _, h', _, p' => by cases e <;> first | rfl | simp [toPy, PyData.eqv, eqv] | simp [plN] at p'
  | .str a, e, _, _, _, _, h, h', _, p' => by
    cases e with
    | str b =>
      cases h with
      | str q =>
        cases h' with
        | str q' =>
          simp only [toPy, PyData.eqv, eqv]
          rw [getD_of q, getD_of q']
          exact str_eqv nd q q'
    | _ => first | rfl | simp [plN] at p'
  | .lst ds, e, n, m, _, _, h, h', p, p' => by
    cases e with
    | lst es =>
      cases h with
      | lst _ a =>
        cases h' with
        | lst _ b =>
          simp only [toPy, PyData.eqv, eqv]
          exact eqvs_py nd a b (by simpa only [plN] using p) (by simpa only [plN] using p')
    | _ => first | rfl | simp [plN] at p'
  | .tup ds, e, n, m, _, _, h, h', p, p' => by
    cases e with
    | tup es =>
      cases h with
      | tup _ a =>
        cases h' with
        | tup _ b =>
          simp only [toPy, PyData.eqv, eqv]
          exact eqvs_py nd a b (by simpa only [plN] using p) (by simpa only [plN] using p')
    | _ => first | rfl | simp [plN] at p'
  | .dic _, _, _, _, _, _, _, _, p, _ => by simp [plN] at p
  | .scr _, _, _, _, _, _, _, _, p, _ => by simp [plN] at p
theorem eqvs_py (nd : ks.w.Nodup) {F2 : Hp} : ∀ {ds es : List D} {n m : Nat} {vs ws : List V}, Ats ks F vs ds → Ats ks F2 ws es → plAll n ds = true → plAll m es = true → PyData.eqvAll (toPys ks ds) (toPys ks es) = eqvs ds es
  | [], [], _, _, _, _, _, _, _, _ => by simp [toPys, PyData.eqvAll, eqvs]
  | [], _ :: _, _, _, _, _, _, _, _, _ => by simp [toPys, PyData.eqvAll, eqvs]
  | _ :: _, [], _, _, _, _, _, _, _, _ => by simp [toPys, PyData.eqvAll, eqvs]
  | d :: ds, e :: es, 0, _, _, _, _, _, p, _ => by simp [plAll] at p
  | d :: ds, e :: es, _, 0, _, _, _, _, _, p => by simp [plAll] at p
  | d :: ds, e :: es, n + 1, m + 1, _, _, h, h', p, p' => by
    simp only [plAll, Bool.and_eq_true] at p p'
    cases h with
    | cons a b =>
      cases h' with
      | cons a' b' =>
        simp only [toPys, PyData.eqvAll, eqvs]
        rw [eqv_py nd a a' p.1 p'.1, eqvs_py nd b b' p.2 p'.2]
end
end

/-! ### the operators -/
section
variable {ks : Kt} {X : Cx} {C : Ent} {env : En} {pos : Pos}
def bI0 (f : Int → Int → D) : Rv → Rv → Rg → RQ → Prop := fun rx ry g Q => ∃ i j, rx = .dat (.int i) ∧ ry = .dat (.int j) ∧ Q (.dat (f i j)) g
def bIC (cnd : Int → Int → Prop) (f : Int → Int → D) : Rv → Rv → Rg → RQ → Prop := fun rx ry g Q => ∃ i j, rx = .dat (.int i) ∧ ry = .dat (.int j) ∧ cnd i j ∧ Q (.dat (f i j)) g
theorem binI {f : Int → Int → Int} : BinOk ks X C env (rI0 fun i j => .int (f i j)) (bI0 fun i j => .int (f i j)) := by
  rintro g rx ry Q ⟨i, j, rfl, rfl, q⟩ σ F H κ Qv x y ok hx hy k
  exact ⟨i, j, At.intI hx, At.intI hy, k.here ok (rv_int _) q⟩
theorem binB {f : Int → Int → Bool} : BinOk ks X C env (rI0 fun i j => .bl (f i j)) (bI0 fun i j => .bl (f i j)) := by
  rintro g rx ry Q ⟨i, j, rfl, rfl, q⟩ σ F H κ Qv x y ok hx hy k
  exact ⟨i, j, At.intI hx, At.intI hy, k.here ok (rv_bl _) q⟩
theorem binIC {cnd : Int → Int → Prop} {f : Int → Int → Int} : BinOk ks X C env (rI cnd fun i j => .int (f i j)) (bIC cnd fun i j => .int (f i j)) := by
  rintro g rx ry Q ⟨i, j, rfl, rfl, c, q⟩ σ F H κ Qv x y ok hx hy k
  exact ⟨i, j, At.intI hx, At.intI hy, c, k.here ok (rv_int _) q⟩
/-- what the words of the text must be for == -/
structure KsOk (ks : Kt) : Prop where
  nd : ks.w.Nodup
  ok : ∀ x ∈ ks.w, PyData.strOk x = true
def bEq (neg : Bool) : Rv → Rv → Rg → RQ → Prop := fun rx ry g Q => ∃ d e, RD g 0 rx d ∧ RD g 0 ry e ∧ plN 60 d = true ∧ plN 60 e = true ∧ Q (.dat (.bl (if neg then !eqv d e else eqv d e))) g
theorem RD.dp {σ : L2.St} {F H : Hp} {κ : List Addr} {g : Rg} {r : Rv} {d : D} {v : V} {K : PySem.W.Frag} (h : RD g 0 r d) (ok : Ok ks C σ F H κ env g) (rv : RvOk ks F κ v r) (p : plN 60 d = true) :
    ∃ F', At ks F' v d ∧ Dp K H v (toPy ks d) := by
  obtain ⟨F', s, ok', a⟩ := h.ok (Nat.zero_le _) ok rv
  exact ⟨F', a, At.dp ok'.ch.fh a p⟩
theorem binEq (hk : KsOk ks) : BinOk ks X C env (rEqD X.K) (bEq false) := by
  rintro g rx ry Q ⟨d, e, hd, he, pd, pe, q⟩ σ F H κ Qv x y ok hx hy k
  obtain ⟨F1, a1, d1⟩ := hd.dp (K := X.K) ok hx pd
  obtain ⟨F2, a2, d2⟩ := he.dp (K := X.K) ok hy pe
  refine ⟨_, _, d1, d2, shaped_pl hk.ok pd, shaped_pl hk.ok pe, ?_⟩
  rw [eqv_py hk.nd a1 a2 pd pe]
  exact k.here ok (rv_bl _) q
theorem binNe (hk : KsOk ks) : BinOk ks X C env (rNeD X.K) (bEq true) := by
  rintro g rx ry Q ⟨d, e, hd, he, pd, pe, q⟩ σ F H κ Qv x y ok hx hy k
  obtain ⟨F1, a1, d1⟩ := hd.dp (K := X.K) ok hx pd
  obtain ⟨F2, a2, d2⟩ := he.dp (K := X.K) ok hy pe
  refine ⟨_, _, d1, d2, shaped_pl hk.ok pd, shaped_pl hk.ok pe, ?_⟩
  rw [eqv_py hk.nd a1 a2 pd pe]
  exact k.here ok (rv_bl _) q
def isNon : Rv → Bool
  | .dat .non => true
  | _ => false
def bIs (neg : Bool) : Rv → Rv → Rg → RQ → Prop := fun rx ry g Q => ry = .dat .non ∧ Q (.dat (.bl (if neg then !isNon rx else isNon rx))) g
theorem isNon_of {F : Hp} {κ : List Addr} {x : V} {rx : Rv} (h : RvOk ks F κ x rx) : decide (x = .non) = isNon rx := by
  cases rx with
  | ref c => obtain ⟨a, _, rfl⟩ := h; rfl
  | dat d => cases h <;> rfl
theorem binIs : BinOk ks X C env (fun x y H Q => y = .non ∧ Q (.bl (decide (x = .non))) H) (bIs false) := by
  rintro g rx ry Q ⟨rfl, q⟩ σ F H κ Qv x y ok hx hy k
  refine ⟨At.nonI hy, ?_⟩
  rw [isNon_of hx]
  exact k.here ok (rv_bl _) q
theorem binIsNot : BinOk ks X C env (fun x y H Q => y = .non ∧ Q (.bl (!decide (x = .non))) H) (bIs true) := by
  rintro g rx ry Q ⟨rfl, q⟩ σ F H κ Qv x y ok hx hy k
  refine ⟨At.nonI hy, ?_⟩
  rw [isNon_of hx]
  exact k.here ok (rv_bl _) q
/-! in, over a list of data -/
def bIn (neg : Bool) : Rv → Rv → Rg → RQ → Prop := fun rx ry g Q => ∃ (d : D) (ds : List D), RD g 0 rx d ∧ RD g 0 ry (.lst ds) ∧ plN 60 d = true ∧ plAll 60 ds = true ∧ Q (.dat (.bl (if neg then !(ds.any fun e => eqv e d) else ds.any fun e => eqv e d))) g
theorem any_py (nd : ks.w.Nodup) {F F2 : Hp} {d : D} {n m : Nat} {w : V} (hd : At ks F2 w d) (pd : plN m d = true) : ∀ {ds : List D} {vs : List V}, Ats ks F vs ds → plAll n ds = true → ((toPys ks ds).any fun z => PyData.eqv z (toPy ks d)) = ds.any fun e => eqv e d
  | [], _, _, _ => by simp [toPys]
  | e :: ds, _, h, p => by
    cases n with
    | zero => simp [plAll] at p
    | succ n =>
      simp only [plAll, Bool.and_eq_true] at p
      cases h with
      | cons a b =>
        simp only [toPys, List.any_cons]
        rw [eqv_py nd a hd p.1 pd, any_py nd hd pd b p.2]
theorem binIn (hk : KsOk ks) (neg : Bool) : BinOk ks X C env (if neg then rNotInD X.K else rInD X.K) (bIn neg) := by
  rintro g rx ry Q ⟨d, ds, hd, he, pd, pe, q⟩ σ F H κ Qv x y ok hx hy k
  have pe' : plN 60 (.lst ds) = true := by simpa only [plN] using pe
  obtain ⟨F1, a1, d1⟩ := hd.dp (K := X.K) ok hx pd
  obtain ⟨F2, a2, d2⟩ := he.dp (K := X.K) ok hy pe'
  have e : ((toPys ks ds).any fun z => PyData.eqv z (toPy ks d)) = ds.any fun e => eqv e d := by
    cases a2 with
    | lst _ b => exact any_py hk.nd a1 pd b pe
  have sh := shaped_pl hk.ok pe'
  simp only [toPy] at d2 sh
  cases neg with
  | false =>
    refine ⟨_, _, d1, d2, shaped_pl hk.ok pd, sh, ?_⟩
    rw [e]
    exact k.here ok (rv_bl _) q
  | true =>
    refine ⟨_, _, d1, d2, shaped_pl hk.ok pd, sh, ?_⟩
    rw [e]
    exact k.here ok (rv_bl _) q
/-! lists, tuples -/
def bCat : Rv → Rv → Rg → RQ → Prop := fun rx ry g Q => ∃ xs ys, lstOf g rx = some xs ∧ lstOf g ry = some ys ∧ xs.length + ys.length ≤ 1000000 ∧ Q (.ref g.length) (g ++ [.lst (xs ++ ys)])
theorem Ok.newL {σ : L2.St} {F H : Hp} {κ : List Addr} {g : Rg} {p : Addr} {xs : List V} {rs : List Rv} (ok : Ok ks C σ F H κ env g) (hp : H p = none) (h : All2 (RvOk ks F κ) xs rs) :
    Ok ks C σ F (upd H p (.lst xs)) (κ ++ [p]) env (g ++ [.lst rs]) :=
  ok.newC (cell := .lst rs) hp ⟨(ok.fresh hp).1, (ok.fresh hp).2, xs, upd_same, h.imp fun _ _ z => z.mono (Same.refl _) (Pre.app _ _)⟩
theorem Kont.newL {σ : L2.St} {F H : Hp} {κ : List Addr} {g : Rg} {p : Addr} {xs : List V} {rs : List Rv} {Q : RQ} {Qv : VK} (k : Kont ks C env σ F κ Q Qv) (ok : Ok ks C σ F H κ env g) (hp : H p = none) (h : All2 (RvOk ks F κ) xs rs) (q : Q (.ref g.length) (g ++ [.lst rs])) :
    Qv (.ref p) (upd H p (.lst xs)) := k _ F _ _ _ _ (ok.newL hp h) (Same.refl F) (Pre.app _ _) (rv_new ok.g.len) q
theorem binCat : BinOk ks X C env rCat bCat := by
  rintro g rx ry Q ⟨xs, ys, e1, e2, l, q⟩ σ F H κ Qv x y ok hx hy k
  obtain ⟨a, vs, rfl, h1, h2⟩ := hx.lst ok e1
  obtain ⟨b, ws, rfl, h3, h4⟩ := hy.lst ok e2
  refine ⟨a, b, vs, ws, rfl, rfl, h1, h3, ?_, fun p hp => k.newL ok hp (h2.append h4) q⟩
  rw [h2.length, h4.length]
  exact sizeL l
def bRep : Rv → Rv → Rg → RQ → Prop := fun rx ry g Q => ∃ xs n, lstOf g rx = some xs ∧ ry = .dat (.int n) ∧ -(2 ^ 63) ≤ n ∧ n < 2 ^ 63 ∧ xs.length * n.toNat ≤ 1000000 ∧ Q (.ref g.length) (g ++ [.lst ((List.replicate n.toNat xs).flatten)])
theorem All2.rep {α β : Type} {R : α → β → Prop} {l : List α} {m : List β} (h : All2 R l m) : ∀ n : Nat, All2 R (List.replicate n l).flatten (List.replicate n m).flatten
  | 0 => .nil
  | n + 1 => by
    rw [List.replicate_succ, List.replicate_succ, List.flatten_cons, List.flatten_cons]
    exact h.append (All2.rep h n)
theorem binRep : BinOk ks X C env rRep bRep := by
  rintro g rx ry Q ⟨xs, n, e1, rfl, l1, l2, l, q⟩ σ F H κ Qv x y ok hx hy k
  obtain ⟨a, vs, rfl, h1, h2⟩ := hx.lst ok e1
  refine ⟨a, n, vs, rfl, At.intI hy, h1, l1, l2, ?_, fun p hp => k.newL ok hp (h2.rep _) q⟩
  rw [h2.length]
  exact sizeL l
def bCatT : Rv → Rv → Rg → RQ → Prop := fun rx ry g Q => ∃ xs ys, rx = .dat (.tup xs) ∧ ry = .dat (.tup ys) ∧ xs ≠ [] ∧ ys ≠ [] ∧ xs.length + ys.length ≤ 1000000 ∧ Q (.dat (.tup (xs ++ ys))) g
theorem Kont.newT {σ : L2.St} {F H : Hp} {κ : List Addr} {g : Rg} {p : Addr} {xs : List V} {ds : List D} {Q : RQ} {Qv : VK} (k : Kont ks C env σ F κ Q Qv) (ok : Ok ks C σ F H κ env g) (hp : H p = none) (h : Ats ks F xs ds) (q : Q (.dat (.tup ds)) g) :
    Qv (.ref p) (upd H p (.tup xs)) := k _ _ _ κ _ g (ok.newD hp) (ok.newD_F hp) (Pre.refl κ) (rv_d (.tup upd_same (Ats.mono (ok.newD_F hp) h))) q
theorem binCatT : BinOk ks X C env (rCatT X.K) bCatT := by
  rintro g rx ry Q ⟨xs, ys, rfl, rfl, n1, n2, l, q⟩ σ F H κ Qv x y ok hx hy k
  obtain ⟨a, vs, rfl, h1, h2⟩ := At.tupI hx
  obtain ⟨b, ws, rfl, h3, h4⟩ := At.tupI hy
  have l1 := (Ats.all2 h2).length
  have l2 := (Ats.all2 h4).length
  refine ⟨a, b, vs, ws, rfl, rfl, SqT.of (ok.ch.fh _ _ h1), SqT.of (ok.ch.fh _ _ h3), ?_, by rw [l1, l2]; exact sizeL l, ?_⟩
  · rintro rfl; apply n1; cases xs with | nil => rfl | cons _ _ => simp at l1
  · refine ⟨fun z => ?_, fun _ p hp => k.newT ok hp (Ats.of_all2 ((Ats.all2 h2).append (Ats.all2 h4))) q⟩
    subst z; exact absurd (by cases ys with | nil => rfl | cons _ _ => simp at l2) n2
/-! subscripts -/
section
variable {a b : Expr} {Wa Wb : Rg → RQ → Prop} {r : R2} {B : Rv → Rv → Rg → RQ → Prop}
theorem se_ix (hr : IxR X r) (hs : PlainIx b) (ha : SE ks X C env a Wa) (hb : SE ks X C env b Wb) (hB : BinOk ks X C env r B) :
    SE ks X C env (.Subscript a b pos) (fun g Q => Wa g fun r1 g1 => Wb g1 fun r2 g2 => B r1 r2 g2 Q) :=
  fun g Q h σ F H κ Qv ok k => wE_of (pe_ix hr pe_w pe_w hs) (two ha hb hB ok k h)
end
theorem All2.atI {α β : Type} {R : α → β → Prop} {l : List α} {m : List β} (h : All2 R l m) {i : Int} {y : β} (e : atI m i = some y) : ∃ x, atI l i = some x ∧ R x y := by
  unfold L2.atI at e ⊢
  rw [h.length]
  obtain ⟨j, h1, h2⟩ := Option.bind_eq_some_iff.mp e
  obtain ⟨x, h3, h4⟩ := h.get h2
  exact ⟨x, by rw [h1]; exact h3, h4⟩
def bIxL : Rv → Rv → Rg → RQ → Prop := fun rx ry g Q => ∃ rs i r, lstOf g rx = some rs ∧ ry = .dat (.int i) ∧ atI rs i = some r ∧ Q (nrm g r) g
theorem binIxL : BinOk ks X C env (rIxL X.K) bIxL := by
  rintro g rx ry Q ⟨rs, i, r, e1, rfl, e2, q⟩ σ F H κ Qv x y ok hx hy k
  obtain ⟨a, vs, rfl, h1, h2⟩ := hx.lst ok e1
  obtain ⟨v, h3, h4⟩ := h2.atI e2
  exact ⟨a, vs, i, v, rfl, At.intI hy, SqL.of h1, h3, k.here ok (h4.nrm ok) q⟩
def bIxT : Rv → Rv → Rg → RQ → Prop := fun rx ry g Q => ∃ ds i d, rx = .dat (.tup ds) ∧ ry = .dat (.int i) ∧ atI ds i = some d ∧ Q (.dat d) g
theorem binIxT : BinOk ks X C env (rIxT X.K) bIxT := by
  rintro g rx ry Q ⟨ds, i, d, rfl, rfl, e2, q⟩ σ F H κ Qv x y ok hx hy k
  obtain ⟨a, vs, rfl, h1, h2⟩ := At.tupI hx
  obtain ⟨v, h3, h4⟩ := (Ats.all2 h2).atI e2
  exact ⟨a, vs, i, v, rfl, At.intI hy, SqT.of (ok.ch.fh _ _ h1), h3, k.here ok (rv_d h4) q⟩
def bIxS : Rv → Rv → Rg → RQ → Prop := fun rx ry g Q => ∃ ns i n, rx = .dat (.scr ns) ∧ ry = .dat (.int i) ∧ atI ns i = some n ∧ Q (.dat (.int n)) g
theorem binIxS (hK : ks.K = X.K) : BinOk ks X C env (rIxL X.K) bIxS := by
  rintro g rx ry Q ⟨ns, i, n, rfl, rfl, e2, q⟩ σ F H κ Qv x y ok hx hy k
  obtain ⟨a, rfl, h1⟩ := At.scrI hx
  rw [hK] at h1
  refine ⟨a, ns.map V.int, i, .int n, rfl, At.intI hy, ok.ch.fh.seq h1, ?_, k.here ok (rv_int n) q⟩
  unfold L2.atI at e2 ⊢
  obtain ⟨j, h1, h2⟩ := Option.bind_eq_some_iff.mp e2
  rw [List.length_map, h1]
  show (ns.map V.int)[j]? = _
  rw [List.getElem?_map, h2]; rfl
/-! dicts -/
def dicOf (g : Rg) : Rv → Option (List (Nat × Rv))
  | .dat (.dic kds) => some (kds.map fun p => (p.1, .dat p.2))
  | .dat _ => none
  | .ref c => match g[c]? with | some (.dic rs) => some rs | some (.fz (.dic kds)) => some (kds.map fun p => (p.1, .dat p.2)) | _ => none
theorem Atk.all2 {F : Hp} {κ : List Addr} : ∀ {v : List (Key × V)} {d : List (Nat × D)}, Atk ks F v d → All2 (KvOk ks F κ) v (d.map fun p => (p.1, .dat p.2))
  | _, _, .nil => .nil
  | _, _, .cons e a s => .cons ⟨⟨_, e, rfl⟩, a⟩ (Atk.all2 s)
theorem RvOk.dic {σ : L2.St} {F H : Hp} {κ : List Addr} {g : Rg} {v : V} {r : Rv} {rs : List (Nat × Rv)} (ok : Ok ks C σ F H κ env g) (h : RvOk ks F κ v r) (e : dicOf g r = some rs) : ∃ a xs, v = .ref a ∧ H a = some (.dK xs) ∧ All2 (KvOk ks F κ) xs rs := by
  have fromD : ∀ {v : V} {ds : List (Nat × D)}, At ks F v (.dic ds) → ∃ a xs, v = .ref a ∧ H a = some (.dK xs) ∧ All2 (KvOk ks F κ) xs (ds.map fun p => (p.1, .dat p.2)) := fun {v ds} q => by
    cases q with
    | dic e1 s => exact ⟨_, _, rfl, ok.ch.fh _ _ e1, Atk.all2 s⟩
  cases r with
  | dat d =>
    cases d with
    | dic ds => simp only [dicOf, Option.some.injEq] at e; subst e; exact fromD h
    | _ => simp [dicOf] at e
  | ref c =>
    obtain ⟨a, e1, rfl⟩ := h
    simp only [dicOf] at e
    split at e
    · rename_i rs' hc
      cases e
      obtain ⟨_, _, xs, h1, h2⟩ := ok.g.cells c _ a hc e1
      exact ⟨a, xs, rfl, h1, h2⟩
    · rename_i ds hc
      cases e
      exact fromD (ok.g.cells c _ a hc e1)
    · cases e
theorem key_eq (nd : ks.w.Nodup) {a b : Nat} {x y : Str} (h : ks.w[a]? = some x) (h' : ks.w[b]? = some y) : (decide ((.inr x : Key) = .inr y)) = (b == a) := by
  rw [key_rr]
  have := str_eqv nd h h'
  by_cases e : x = y
  · rw [decide_eq_true e]
    rw [beq_iff_eq.mpr e] at this
    have z : a = b := beq_iff_eq.mp this.symm
    rw [z]; simp
  · rw [decide_eq_false e]
    rw [beq_eq_false_iff_ne.mpr e] at this
    have z : a ≠ b := beq_eq_false_iff_ne.mp this.symm
    exact (beq_eq_false_iff_ne.mpr (Ne.symm z)).symm
theorem lookup_kv (nd : ks.w.Nodup) {F : Hp} {κ : List Addr} {k : Nat} {x : Str} (hx : ks.w[k]? = some x) : ∀ {kvs : List (Key × V)} {krs : List (Nat × Rv)}, All2 (KvOk ks F κ) kvs krs →
    (∀ r, krs.lookup k = some r → ∃ v, valV kvs (.inr x) = some v ∧ RvOk ks F κ v r)
  | _, _, .nil => fun r e => by simp at e
  | _, _, @All2.cons _ _ _ p q l m h t => fun r e => by
    obtain ⟨p1, p2⟩ := p
    obtain ⟨q1, q2⟩ := q
    obtain ⟨⟨y, hy, ep⟩, hv⟩ := h
    dsimp only at hy ep hv
    subst ep
    rw [List.lookup_cons] at e
    unfold valV
    rw [List.find?_cons]
    dsimp only
    rw [key_eq nd hy hx]
    cases hb : (k == q1) with
    | true =>
      rw [hb] at e
      simp only [Option.some.injEq] at e
      subst e
      exact ⟨p2, rfl, hv⟩
    | false =>
      rw [hb] at e
      exact lookup_kv nd hx t r e
def bIxK : Rv → Rv → Rg → RQ → Prop := fun rx ry g Q => ∃ kr k r, dicOf g rx = some kr ∧ ry = .dat (.str k) ∧ kr.lookup k = some r ∧ Q (nrm g r) g
theorem se_dget {a b : Expr} {Wa Wb : Rg → RQ → Prop} (hk : KsOk ks) (hu : X.A.units + 1 < cLine) (hs : NoSl b) (ha : SE ks X C env a Wa) (hb : SE ks X C env b Wb) :
    SE ks X C env (.Subscript a b pos) (fun g Q => Wa g fun r1 g1 => Wb g1 fun r2 g2 => bIxK r1 r2 g2 Q) := by
  intro g Q h σ F H κ Qv ok k
  refine wE_of (pe_dget hu pe_w pe_w hs) ?_
  refine two (r := fun x y H Q => ∃ a v, x = .ref a ∧ DGet H a y (some v) ∧ Q v H) (B := bIxK) ha hb ?_ ok k h
  rintro g rx ry Q ⟨kr, kk, r, e1, rfl, e2, q⟩ σ F H κ Qv x y ok hx hy k
  obtain ⟨a, kvs, rfl, h1, h2⟩ := hx.dic ok e1
  obtain ⟨z, rfl, hz⟩ := At.strI hy
  obtain ⟨v, h3, h4⟩ := lookup_kv hk.nd hz h2 r e2
  refine ⟨a, v, rfl, ?_, k.here ok (h4.nrm ok) q⟩
  have q := DGet.k (H := H) (a := a) (kvs := kvs) (k := .inr z) h1
  rw [h3] at q
  exact q
end
end DW

/-! ## DW5.lean -/
set_option Elab.async false
set_option linter.all false
set_option maxRecDepth 100000
set_option maxHeartbeats 2000000
set_option autoImplicit false
/-! DW5: slices, calls, methods, dict displays, what is walked, comprehensions. -/
namespace DW
open PySem PySem.Spec L2
open PyProof.Rows hiding St

section
variable {ks : Kt} {X : Cx} {C : Ent} {env : En} {pos : Pos}
/-! ### slices -/
def wO (X : Cx) (e : Option Expr) : TO := fun σ H Q => ∀ pins s, Inv X pins σ H s → wpAny (model X.prog X.w) X.A (evalPart e X.env) (fun u s' => ∃ o H', Inv X pins σ H' s' ∧ IsPart u o ∧ Q o H') X.xe s
theorem po_w {e : Option Expr} : PO X e (wO X e) := ⟨fun pins s σ H Q I h => h pins s I⟩
theorem wO_of {e : Option Expr} {t : TO} {σ : L2.St} {H : Hp} {Q : Option Int → Hp → Prop} (p : PO X e t) (h : t σ H Q) : wO X e σ H Q := fun pins s I => p.run pins s σ H Q I h
def SO (ks : Kt) (X : Cx) (C : Ent) (env : En) (e : Option Expr) (W : Rg → (Option Int → Rg → Prop) → Prop) : Prop := ∀ g Q, W g Q → ∀ σ F H κ Qo, Ok ks C σ F H κ env g →
  (∀ o F' H' κ' g', Ok ks C σ F' H' κ' env g' → Same F F' → Pre κ κ' → Q o g' → Qo o H') → wO X e σ H Qo
theorem so_none : SO ks X C env none (fun g Q => Q none g) := fun g Q h σ F H κ Qo ok k => wO_of po_none (k none F H κ g ok (Same.refl F) (Pre.refl κ) h)
theorem so_some {e : Expr} {W : Rg → RQ → Prop} (he : SE ks X C env e W) : SO ks X C env (some e) (fun g Q => W g fun r g1 => ∃ i, r = .dat (.int i) ∧ Q (some i) g1) :=
  fun g Q h σ F H κ Qo ok k => wO_of (po_some pe_w) (he g _ h σ F H κ _ ok fun v F' H' κ' r g' ok' s p rv q => by
    obtain ⟨i, rfl, q⟩ := q
    exact ⟨i, At.intI rv, k (some i) F' H' κ' g' ok' s p q⟩)
def cutL {α : Type} (xs : List α) (lo hi : Option Int) : List α := (xs.drop (HT.sIx xs.length 0 lo)).take (HT.sIx xs.length xs.length hi - HT.sIx xs.length 0 lo)
theorem All2.cut {β : Type} {R : V → β → Prop} {l : List V} {m : List β} (h : All2 R l m) (lo hi : Option Int) : All2 R (cutV l lo hi) (cutL m lo hi) := by
  unfold cutV cutL
  rw [h.length]
  exact (h.drop _).take _
theorem se_slL {e : Expr} {lo hi : Option Expr} {p2 : Pos} {W : Rg → RQ → Prop} {Wl Wh : Rg → (Option Int → Rg → Prop) → Prop} (he : SE ks X C env e W) (hl : SO ks X C env lo Wl) (hh : SO ks X C env hi Wh) :
    SE ks X C env (.Subscript e (.Slice lo hi none p2) pos) (fun g Q => W g fun r g1 => Wl g1 fun l g2 => Wh g2 fun u g3 => ∃ rs, lstOf g3 r = some rs ∧ Q (.ref g3.length) (g3 ++ [.lst (cutL rs l u)])) := by
  intro g Q h σ F H κ Qv ok k
  refine wE_of (pe_slice sl_list pe_w po_w po_w) ?_
  refine he g _ h σ F H κ _ ok fun v F1 H1 κ1 r1 g1 ok1 s1 p1 rv1 q1 => hl g1 _ q1 σ F1 H1 κ1 _ ok1 fun l F2 H2 κ2 g2 ok2 s2 p2 q2 => hh g2 _ q2 σ F2 H2 κ2 _ ok2 fun u F3 H3 κ3 g3 ok3 s3 p3 q3 => ?_
  obtain ⟨rs, e1, q⟩ := q3
  obtain ⟨a, xs, rfl, h1, h2⟩ := (rv1.mono (s2.trans s3) (p2.trans p3)).lst ok3 e1
  exact ⟨a, xs, rfl, SqL.of h1, fun p hp => (k.at ((s1.trans s2).trans s3) ((p1.trans p2).trans p3)).newL ok3 hp (h2.cut l u) q⟩
theorem se_slT {e : Expr} {lo hi : Option Expr} {p2 : Pos} {W : Rg → RQ → Prop} {Wl Wh : Rg → (Option Int → Rg → Prop) → Prop} (he : SE ks X C env e W) (hl : SO ks X C env lo Wl) (hh : SO ks X C env hi Wh) :
    SE ks X C env (.Subscript e (.Slice lo hi none p2) pos) (fun g Q => W g fun r g1 => Wl g1 fun l g2 => Wh g2 fun u g3 => ∃ ds, r = .dat (.tup ds) ∧ ¬ (HT.sIx ds.length 0 l = 0 ∧ HT.sIx ds.length ds.length u = ds.length) ∧ Q (.dat (.tup (cutL ds l u))) g3) := by
  intro g Q h σ F H κ Qv ok k
  refine wE_of (pe_slice sl_tup pe_w po_w po_w) ?_
  refine he g _ h σ F H κ _ ok fun v F1 H1 κ1 r1 g1 ok1 s1 p1 rv1 q1 => hl g1 _ q1 σ F1 H1 κ1 _ ok1 fun l F2 H2 κ2 g2 ok2 s2 p2 q2 => hh g2 _ q2 σ F2 H2 κ2 _ ok2 fun u F3 H3 κ3 g3 ok3 s3 p3 q3 => ?_
  obtain ⟨ds, rfl, n, q⟩ := q3
  obtain ⟨a, xs, rfl, h1, h2⟩ := At.tupI (rv1.mono (s2.trans s3) (p2.trans p3))
  have el := (Ats.all2 h2).length
  exact ⟨a, xs, rfl, SqT.of (ok3.ch.fh _ _ h1), by rw [el]; exact n, fun p hp => (k.at ((s1.trans s2).trans s3) ((p1.trans p2).trans p3)).newT ok3 hp (Ats.of_all2 ((Ats.all2 h2).cut l u)) q⟩

/-! ### calls of defs -/
/-- what a def promises, over data -/
def PSpD (ks : Kt) (S : SpD) : Sp := fun vs H Q _ => ∃ (F : Hp) (κ : List Addr) (g : Rg) (rs : List Rv), Same F H ∧ GOk ks F H κ (fun _ => True) g ∧ All2 (RvOk ks F κ) vs rs ∧
  S rs g (fun r g' => ∀ v F' H' κ', Ch ⟨F, H, fun b => b ∈ κ⟩ F' H' → Pre κ κ' → GOk ks F' H' κ' (fun a => a ∈ κ ∨ H a = none) g' → RvOk ks F' κ' v r → Q v H')
structure FnIn (ks : Kt) (X : Cx) (x : Str) (S : SpD) : Prop where
  mono : ∀ rs g (P P' : RQ), (∀ r g', P r g' → P' r g') → S rs g P → S rs g P'
  fn : ∃ (fa : Addr) (fd : FuncData) (k : Nat) (ps : List Str), X.mg x = some (.ref fa) ∧ PySem.W.keepIn X.K (.ref fa) = true ∧ Binds X.K fd ps [] ∧ Room k X.A ∧ FnOk X.prog X.w X.K X.mg X.base CX0 k fa fd ps (PSpD ks S)
theorem GOk.monoW {F H : Hp} {κ : List Addr} {W W' : Addr → Prop} {g : Rg} (h : GOk ks F H κ W g) (hw : ∀ a ∈ κ, F a = none → W a → W' a) : GOk ks F H κ W' g := by
  refine ⟨h.len, fun c cell a e1 e2 => ?_, h.nd, h.live, fun a ha => ?_⟩
  · have hm := List.mem_of_getElem? e2
    have := h.cells c cell a e1 e2
    cases cell with
    | lst rs => exact ⟨this.1, hw a hm this.1 this.2.1, this.2.2⟩
    | dic rs => exact ⟨this.1, hw a hm this.1 this.2.1, this.2.2⟩
    | fz d => exact this
    | dead => exact this
  · rcases h.wf a ha with z | z
    · cases q : F a with
      | none => exact .inl (hw a ha q z)
      | some u => exact .inr (by simp)
    · exact .inr z
theorem mem_ix {κ : List Addr} {a : Addr} (h : a ∈ κ) : ∃ c : Nat, κ[c]? = some a := by
  obtain ⟨i, hi, e⟩ := List.mem_iff_getElem.mp h
  exact ⟨i, by rw [List.getElem?_eq_getElem hi, e]⟩
/-- behind a call -/
theorem Ok.back {σ : L2.St} {F H F' H' : Hp} {κ κ' : List Addr} {g g' : Rg} (ok : Ok ks C σ F H κ env g) (ch : Ch ⟨F, H, fun b => b ∈ κ⟩ F' H') (pre : Pre κ κ') (gk : GOk ks F' H' κ' (fun a => a ∈ κ ∨ H a = none) g') :
    Ok ks C σ F' H' κ' env g' := by
  have stay : ∀ b o, C.H b = some o → ¬ C.A b → H' b = some o := fun b o e n => by
    have hb := ok.ch.hh b o e n
    by_cases hk : b ∈ κ
    · rcases ok.g.wf b hk with (z | z) | z
      · exact absurd z n
      · rw [z] at e; cases e
      · cases q : F b with
        | none => exact absurd q z
        | some u =>
          have h1 := ok.ch.fh b u q
          rw [hb] at h1; cases h1
          exact ch.fh b _ (ch.ff b _ q)
    · exact ch.hh b o hb hk
  refine ⟨gk.monoW fun a _ hF hw => ?_, ⟨fun b o e => ch.ff b o (ok.ch.ff b o e), ch.fh, stay, fun b e1 e2 e3 => ?_⟩, ok.len, fun i r e => ?_⟩
  · rcases hw with hk | hn
    · rcases ok.g.wf a hk with z | z
      · exact z
      · cases q : F a with
        | none => exact absurd q z
        | some u => have := ch.ff a u q; rw [hF] at this; cases this
    · cases q : C.H a with
      | none => exact .inr rfl
      | some u =>
        by_cases z : C.A a
        · exact .inl z
        · have := ok.ch.hh a u q z; rw [hn] at this; cases this
  · have h1 := ok.ch.nw b e1 e2 e3
    refine ch.nw b h1 ?_ ?_
    · intro z
      cases q : C.H b with
      | none => exact e2 q
      | some u => have := ok.ch.hh b u q e3; rw [show H b = none from z] at this; cases this
    · intro hk
      rcases ok.g.wf b hk with (z | z) | z
      · exact e3 z
      · exact e2 z
      · exact z h1
  · obtain ⟨v, h1, h2⟩ := ok.env i r e
    exact ⟨v, h1, h2.mono ch.ff pre⟩
theorem run_spd {σ : L2.St} {F H : Hp} {κ : List Addr} {g : Rg} {vs : List V} {rs : List Rv} {S : SpD} {Q : RQ} {Qv : VK} {E : XK} (ok : Ok ks C σ F H κ env g) (rv : All2 (RvOk ks F κ) vs rs) (k : Kont ks C env σ F κ Q Qv)
    (mono : ∀ rs g (P P' : RQ), (∀ r g', P r g' → P' r g') → S rs g P → S rs g P') (h : S rs g Q) : PSpD ks S vs H Qv E :=
  ⟨F, κ, g, rs, ok.ch.fh, ok.g.monoW fun _ _ _ _ => True.intro, rv, mono _ _ _ _ (fun r g' q v F' H' κ' ch pre gk rvv => k v F' H' κ' r g' (ok.back ch pre gk) ch.ff pre rvv q) h⟩
theorem se_call {x : Str} {p : Pos} {e : Expr} {es : List Expr} {S : SpD} {Ws : Rg → (List Rv → Rg → Prop) → Prop} (fi : FnIn ks X x S) (hg : Gl X x) (ha : SA ks X C env (e :: es) Ws) (hdb : (x == ("__debug__" : Str)) = false)
    (he : starEach (e :: es) X.env = (false, eval e X.env) :: starEach es X.env) (hpl : (backTo pos (starEach es X.env)).any (·.1) = false) : SE ks X C env (.Call (.Name x p) (e :: es) [] pos) (fun g Q => Ws g fun rs g1 => S rs g1 Q) := by
  obtain ⟨fa, fd, k, ps, hm, hkp, hb, hr, F⟩ := fi.fn
  intro g Q h σ F' H κ Qv ok kk
  refine wE_of (pe_call F hr hg hm hkp hb .nil pass0 pa_w hdb he hpl) ?_
  refine ha g _ h σ F' H κ _ ok fun vs F1 H1 κ1 rs g1 ok1 s1 p1 rv q => ?_
  show PSpD ks S (vs ++ []) H1 Qv E0
  rw [List.append_nil]
  exact run_spd ok1 rv (kk.at s1 p1) fi.mono q

/-! ### built-ins -/
def CallOk (ks : Kt) (X : Cx) (C : Ent) (env : En) (r : List V → Hp → VK → Prop) (B : List Rv → Rg → RQ → Prop) : Prop :=
  ∀ g rs Q, B rs g Q → ∀ σ F H κ Qv vs, Ok ks C σ F H κ env g → All2 (RvOk ks F κ) vs rs → Kont ks C env σ F κ Q Qv → r vs H Qv
section
variable {x : Str} {p : Pos} {e : Expr} {es : List Expr} {Ws : Rg → (List Rv → Rg → Prop) → Prop} {r : List V → Hp → VK → Prop} {B : List Rv → Rg → RQ → Prop}
theorem se_bi {id : String} (hc : CallR X (.builtin id) r) (hB : CallOk ks X C env r B) (hg : Gl X x) (hm : X.mg x = none) (hv : bootBuiltins x = some (.builtin id)) (ha : SA ks X C env (e :: es) Ws) (hn : x ≠ "__name__") (hdb : (x == ("__debug__" : Str)) = false)
    (he : starEach (e :: es) X.env = (false, eval e X.env) :: starEach es X.env) (hpl : (backTo pos (starEach es X.env)).any (·.1) = false) : SE ks X C env (.Call (.Name x p) (e :: es) [] pos) (fun g Q => Ws g fun rs g1 => B rs g1 Q) :=
  fun g Q h σ F' H κ Qv ok kk => wE_of (pe_callB hc hg hm hv pa_w hn hdb he hpl) (ha g _ h σ F' H κ _ ok fun vs F1 H1 κ1 rs g1 ok1 s1 p1 rv q => hB g1 rs Q q σ F1 H1 κ1 Qv vs ok1 rv (kk.at s1 p1))
theorem se_ty {T : String} (hc : CallR X (.type T) r) (hB : CallOk ks X C env r B) (hg : Gl X x) (hm : X.mg x = none) (hv : bootBuiltins x = some (.type T)) (ha : SA ks X C env (e :: es) Ws) (hn : x ≠ "__name__") (hdb : (x == ("__debug__" : Str)) = false)
    (he : starEach (e :: es) X.env = (false, eval e X.env) :: starEach es X.env) (hpl : (backTo pos (starEach es X.env)).any (·.1) = false) : SE ks X C env (.Call (.Name x p) (e :: es) [] pos) (fun g Q => Ws g fun rs g1 => B rs g1 Q) :=
  fun g Q h σ F' H κ Qv ok kk => wE_of (pe_callTy hc hg hm hv pa_w hn hdb he hpl) (ha g _ h σ F' H κ _ ok fun vs F1 H1 κ1 rs g1 ok1 s1 p1 rv q => hB g1 rs Q q σ F1 H1 κ1 Qv vs ok1 rv (kk.at s1 p1))
end
theorem All2.one {α β : Type} {R : α → β → Prop} {l : List α} {b : β} (h : All2 R l [b]) : ∃ a, l = [a] ∧ R a b := by
  cases h with | cons h1 h2 => cases h2; exact ⟨_, rfl, h1⟩
theorem All2.two {α β : Type} {R : α → β → Prop} {l : List α} {b c : β} (h : All2 R l [b, c]) : ∃ a a', l = [a, a'] ∧ R a b ∧ R a' c := by
  cases h with | cons h1 h2 => obtain ⟨a', rfl, h3⟩ := h2.one; exact ⟨_, _, rfl, h1, h3⟩
/-- len -/
def lenOf (g : Rg) : Rv → Option Nat
  | .dat (.tup ds) => some ds.length
  | .dat (.scr ns) => some ns.length
  | r => (lstOf g r).map List.length
def cLen : List Rv → Rg → RQ → Prop := fun rs g Q => ∃ r n, rs = [r] ∧ lenOf g r = some n ∧ Q (.dat (.int n)) g
theorem callLen (hK : ks.K = X.K) : CallOk ks X C env (fun xs H Q => ∃ p ys, xs = [.ref p] ∧ (SqL X.K H p ys ∨ SqT X.K H p ys) ∧ Q (.int ys.length) H) cLen := by
  rintro g rs Q ⟨r, n, rfl, e, q⟩ σ F H κ Qv vs ok rv k
  obtain ⟨v, rfl, h1⟩ := rv.one
  have viaL : ∀ {rs : List Rv}, lstOf g r = some rs → rs.length = n → ∃ p ys, [v] = [V.ref p] ∧ (SqL X.K H p ys ∨ SqT X.K H p ys) ∧ Qv (.int ys.length) H := fun {rs} e1 e2 => by
    obtain ⟨a, xs, rfl, h2, h3⟩ := h1.lst ok e1
    refine ⟨a, xs, rfl, .inl (SqL.of h2), ?_⟩
    rw [h3.length, e2]
    exact k.here ok (rv_int _) q
  unfold lenOf at e
  split at e
  · rename_i ds
    cases e
    obtain ⟨a, xs, rfl, h2, h3⟩ := At.tupI h1
    refine ⟨a, xs, rfl, .inr (SqT.of (ok.ch.fh _ _ h2)), ?_⟩
    rw [(Ats.all2 h3).length]
    exact k.here ok (rv_int _) q
  · rename_i ns
    cases e
    obtain ⟨a, rfl, h2⟩ := At.scrI h1
    rw [hK] at h2
    refine ⟨a, ns.map V.int, rfl, .inl (ok.ch.fh.seq h2), ?_⟩
    rw [List.length_map]
    exact k.here ok (rv_int _) q
  · obtain ⟨rs, e1, e2⟩ := Option.map_eq_some_iff.mp e
    exact viaL e1 e2
/-- int(flag), int(n) -/
def cInt : List Rv → Rg → RQ → Prop := fun rs g Q => (∃ i, rs = [.dat (.int i)] ∧ Q (.dat (.int i)) g) ∨ ∃ b, rs = [.dat (.bl b)] ∧ Q (.dat (.int (if b then 1 else 0))) g
theorem callInt : CallOk ks X C env (fun xs H Q => (∃ i, xs = [.int i] ∧ Q (.int i) H) ∨ ∃ k, xs = [.bl k] ∧ Q (.int (if k then 1 else 0)) H) cInt := by
  rintro g rs Q h σ F H κ Qv vs ok rv k
  rcases h with ⟨i, rfl, q⟩ | ⟨b, rfl, q⟩
  · obtain ⟨v, rfl, h1⟩ := rv.one
    cases At.intI h1
    exact .inl ⟨i, rfl, k.here ok (rv_int _) q⟩
  · obtain ⟨v, rfl, h1⟩ := rv.one
    cases At.blI h1
    exact .inr ⟨b, rfl, k.here ok (rv_int _) q⟩
/-- min(i, j) -/
def cMin2 : List Rv → Rg → RQ → Prop := fun rs g Q => ∃ i j, rs = [.dat (.int i), .dat (.int j)] ∧ Q (.dat (.int (if j < i then j else i))) g
theorem callMin2 : CallOk ks X C env (fun xs H Q => ∃ i j, xs = [.int i, .int j] ∧ Q (.int (if j < i then j else i)) H) cMin2 := by
  rintro g rs Q ⟨i, j, rfl, q⟩ σ F H κ Qv vs ok rv k
  obtain ⟨v, w, rfl, h1, h2⟩ := rv.two
  cases At.intI h1; cases At.intI h2
  exact ⟨i, j, rfl, k.here ok (rv_int _) q⟩
/-- any(list of truths) -/
def cAny : List Rv → Rg → RQ → Prop := fun rs g Q => ∃ (r : Rv) (bs : List Bool), rs = [r] ∧ lstOf g r = some (bs.map fun b => .dat (.bl b)) ∧ Q (.dat (.bl (bs.any id))) g
theorem bls_of {F : Hp} {κ : List Addr} : ∀ {xs : List V} {bs : List Bool}, All2 (RvOk ks F κ) xs (bs.map fun b => .dat (.bl b)) → xs = bs.map V.bl
  | [], [], _ => rfl
  | _ :: _, [], h => by cases h
  | [], _ :: _, h => by cases h
  | x :: xs, b :: bs, .cons h t => by rw [List.map_cons, ← bls_of t, At.blI h]
theorem ints_of {F : Hp} {κ : List Addr} : ∀ {xs : List V} {bs : List Int}, All2 (RvOk ks F κ) xs (bs.map fun b => .dat (.int b)) → xs = bs.map V.int
  | [], [], _ => rfl
  | _ :: _, [], h => by cases h
  | [], _ :: _, h => by cases h
  | x :: xs, b :: bs, .cons h t => by rw [List.map_cons, ← ints_of t, At.intI h]
theorem callAny : CallOk ks X C env (rAny X.K) cAny := by
  rintro g rs Q ⟨r, bs, rfl, e, q⟩ σ F H κ Qv vs ok rv k
  obtain ⟨v, rfl, h1⟩ := rv.one
  obtain ⟨a, xs, rfl, h2, h3⟩ := h1.lst ok e
  have e2 := bls_of h3
  subst e2
  exact ⟨a, bs, rfl, SqL.of h2, k.here ok (rv_bl _) q⟩
/-- max(list of ints) -/
def cMax : List Rv → Rg → RQ → Prop := fun rs g Q => ∃ (r : Rv) (ns : List Int), rs = [r] ∧ lstOf g r = some (ns.map fun b => .dat (.int b)) ∧ 0 < ns.length ∧ ∀ m, m ∈ ns → (∀ y, y ∈ ns → y ≤ m) → Q (.dat (.int m)) g
theorem callMax : CallOk ks X C env (rMax X.K) cMax := by
  rintro g rs Q ⟨r, ns, rfl, e, l, q⟩ σ F H κ Qv vs ok rv k
  obtain ⟨v, rfl, h1⟩ := rv.one
  obtain ⟨a, xs, rfl, h2, h3⟩ := h1.lst ok e
  have e2 := ints_of h3
  subst e2
  exact ⟨a, ns, rfl, SqL.of h2, l, fun m hm hy => k.here ok (rv_int _) (q m hm hy)⟩
/-- list(xs), list(t) -/
def seqOf (g : Rg) : Rv → Option (List Rv)
  | .dat (.tup ds) => some (ds.map .dat)
  | r => lstOf g r
theorem RvOk.seq {σ : L2.St} {F H : Hp} {κ : List Addr} {g : Rg} {v : V} {r : Rv} {rs : List Rv} (ok : Ok ks C σ F H κ env g) (h : RvOk ks F κ v r) (e : seqOf g r = some rs) : ∃ a xs, v = .ref a ∧ (H a = some (.lst xs) ∨ H a = some (.tup xs)) ∧ All2 (RvOk ks F κ) xs rs := by
  unfold seqOf at e
  split at e
  · cases e
    obtain ⟨a, xs, rfl, h2, h3⟩ := At.tupI h
    exact ⟨a, xs, rfl, .inr (ok.ch.fh _ _ h2), (Ats.all2 h3).mapR (f := Rv.dat) (S := RvOk ks F κ) fun _ _ z => z⟩
  · obtain ⟨a, xs, rfl, h2, h3⟩ := h.lst ok e
    exact ⟨a, xs, rfl, .inl h2, h3⟩
def cList : List Rv → Rg → RQ → Prop := fun rs g Q => ∃ r l, rs = [r] ∧ seqOf g r = some l ∧ Q (.ref g.length) (g ++ [.lst l])
theorem callList : CallOk ks X C env (fun xs H Q => ∃ p ys, xs = [.ref p] ∧ (SqL X.K H p ys ∨ SqT X.K H p ys) ∧ ∀ l, H l = none → Q (.ref l) (upd H l (.lst ys))) cList := by
  rintro g rs Q ⟨r, l, rfl, e, q⟩ σ F H κ Qv vs ok rv k
  obtain ⟨v, rfl, h1⟩ := rv.one
  obtain ⟨a, xs, rfl, h2, h3⟩ := h1.seq ok e
  exact ⟨a, xs, rfl, h2.imp (fun z => SqL.of z) fun z => SqT.of z, fun p hp => k.newL ok hp h3 q⟩
/-- tuple(xs) of data -/
def cTup : List Rv → Rg → RQ → Prop := fun rs g Q => ∃ (r : Rv) (ds : List D), rs = [r] ∧ lstOf g r = some (ds.map .dat) ∧ Q (.dat (.tup ds)) g
theorem callTup : CallOk ks X C env (fun xs H Q => ∃ p ys, xs = [.ref p] ∧ ((SqL X.K H p ys ∧ ∀ l, H l = none → Q (.ref l) (upd H l (.tup ys))) ∨ (SqT X.K H p ys ∧ Q (.ref p) H))) cTup := by
  rintro g rs Q ⟨r, ds, rfl, e, q⟩ σ F H κ Qv vs ok rv k
  obtain ⟨v, rfl, h1⟩ := rv.one
  obtain ⟨a, xs, rfl, h2, h3⟩ := h1.lst ok e
  exact ⟨a, xs, rfl, .inl ⟨SqL.of h2, fun p hp => k.newT ok hp (Ats.of_all2 (All2.of_mapR (f := Rv.dat) (S := RvOk ks F κ) (fun _ _ z => z) h3)) q⟩⟩
end
end DW

/-! ## DW6.lean -/
set_option Elab.async false
set_option linter.all false
set_option maxRecDepth 100000
set_option maxHeartbeats 2000000
set_option autoImplicit false
/-! DW6: methods, dict displays, isinstance, what is walked, comprehensions. -/
namespace DW
open PySem PySem.Spec L2
open PyProof.Rows hiding St

section
variable {ks : Kt} {X : Cx} {C : Ent} {env : En} {pos : Pos}
/-! ### methods of own lists -/
theorem Ok.putL {σ : L2.St} {F H : Hp} {κ : List Addr} {g : Rg} {c : Nat} {a : Addr} {rs rs' : List Rv} {xs' : List V} (ok : Ok ks C σ F H κ env g) (e : g[c]? = some (.lst rs)) (ha : κ[c]? = some a) (h : All2 (RvOk ks F κ) xs' rs') :
    Ok ks C σ F (upd H a (.lst xs')) κ env (g.set c (.lst rs')) := by
  obtain ⟨h1, h2, _⟩ := ok.g.cells c _ a e ha
  exact ok.putC (cell := .lst rs') ha h1 h2 ⟨h1, h2, xs', upd_same, h⟩
theorem Ok.putK {σ : L2.St} {F H : Hp} {κ : List Addr} {g : Rg} {c : Nat} {a : Addr} {rs rs' : List (Nat × Rv)} {xs' : List (Key × V)} (ok : Ok ks C σ F H κ env g) (e : g[c]? = some (.dic rs)) (ha : κ[c]? = some a) (h : All2 (KvOk ks F κ) xs' rs') :
    Ok ks C σ F (upd H a (.dK xs')) κ env (g.set c (.dic rs')) := by
  obtain ⟨h1, h2, _⟩ := ok.g.cells c _ a e ha
  exact ok.putC (cell := .dic rs') ha h1 h2 ⟨h1, h2, xs', upd_same, h⟩
theorem Ok.lstAt {σ : L2.St} {F H : Hp} {κ : List Addr} {g : Rg} {c : Nat} {rs : List Rv} (ok : Ok ks C σ F H κ env g) (e : g[c]? = some (.lst rs)) : ∃ a xs, κ[c]? = some a ∧ H a = some (.lst xs) ∧ All2 (RvOk ks F κ) xs rs := by
  obtain ⟨a, h1, _, _, xs, h2, h3⟩ := ok.addr e
  exact ⟨a, xs, h1, h2, h3⟩
theorem Ok.dicAt {σ : L2.St} {F H : Hp} {κ : List Addr} {g : Rg} {c : Nat} {rs : List (Nat × Rv)} (ok : Ok ks C σ F H κ env g) (e : g[c]? = some (.dic rs)) : ∃ a xs, κ[c]? = some a ∧ H a = some (.dK xs) ∧ All2 (KvOk ks F κ) xs rs := by
  obtain ⟨a, h1, _, _, xs, h2, h3⟩ := ok.addr e
  exact ⟨a, xs, h1, h2, h3⟩
section
variable {o e : Expr} {apos : Pos} {Wo We : Rg → RQ → Prop}
def mAppend (ro r : Rv) (g : Rg) (Q : RQ) : Prop := ∃ c l, ro = .ref c ∧ g[c]? = some (.lst l) ∧ l.length < 1000000 ∧ Q (.dat .non) (g.set c (.lst (l ++ [r])))
theorem se_append (ho : SE ks X C env o Wo) (he : SE ks X C env e We) (hbase : attributeBase o "append" X.env (eval o X.env) = eval o X.env) (hline : (apos.endLine == pos.line) = true) (hs : starEach [e] X.env = [(false, eval e X.env)]) :
    SE ks X C env (.Call (.Attribute o "append" apos) [e] [] pos) (fun g Q => Wo g fun ro g1 => (lstOf g1 ro).isSome = true ∧ We g1 fun r g2 => mAppend ro r g2 Q) := by
  intro g Q h σ F H κ Qv ok k
  refine wE_of (pe_bm PySem.F.plainAttrs_list PySem.F.slot_list_append PySem.F.type_list_append mt_append pe_w (pa_cons pe_w pa_nil hs) hbase (by rw [hs]; rfl) hline hs rfl) ?_
  refine ho g _ h σ F H κ _ ok fun v F1 H1 κ1 r1 g1 ok1 s1 p1 rv1 q1 => ?_
  obtain ⟨q0, q1⟩ := q1
  obtain ⟨rs0, e0⟩ := Option.isSome_iff_exists.mp q0
  obtain ⟨a0, xs0, rfl, h0, _⟩ := rv1.lst ok1 e0
  refine ⟨.inl ⟨rfl, _, SqL.of h0⟩, ?_⟩
  refine he g1 _ q1 σ F1 H1 κ1 _ ok1 fun w F2 H2 κ2 r2 g2 ok2 s2 p2 rv2 q2 => ?_
  obtain ⟨c, l, rfl, e1, hl, q⟩ := q2
  obtain ⟨a, ha, ea⟩ := rv1.mono s2 p2
  cases ea
  obtain ⟨a', xs, ha', h1, h2⟩ := ok2.lstAt e1
  rw [ha] at ha'; cases ha'
  refine ⟨a0, xs, w, rfl, rfl, h1, by rw [h2.length]; exact Nat.lt_of_lt_of_le hl (by decide), ?_⟩
  exact k _ F2 _ κ2 _ _ (ok2.putL e1 ha (h2.append (.cons rv2 .nil))) (s1.trans s2) (p1.trans p2) rv_non q
def mPop (ro : Rv) (g : Rg) (Q : RQ) : Prop := ∃ c l r, ro = .ref c ∧ g[c]? = some (.lst l) ∧ l[l.length - 1]? = some r ∧ Q (nrm g r) (g.set c (.lst l.dropLast))
theorem nrm_dat {g : Rg} {d : D} : nrm g (.dat d) = .dat d := rfl
theorem se_pop (ho : SE ks X C env o Wo) (hbase : attributeBase o "pop" X.env (eval o X.env) = eval o X.env) (hline : (apos.endLine == pos.line) = true) :
    SE ks X C env (.Call (.Attribute o "pop" apos) [] [] pos) (fun g Q => Wo g fun ro g1 => mPop ro g1 Q) := by
  intro g Q h σ F H κ Qv ok k
  refine wE_of (pe_bm0 PySem.F.plainAttrs_list PySem.F.slot_list_pop PySem.F.type_list_pop mt_pop pe_w hbase hline) ?_
  refine ho g _ h σ F H κ _ ok fun v F1 H1 κ1 r1 g1 ok1 s1 p1 rv1 q1 => ?_
  obtain ⟨c, l, r, rfl, e1, e2, q⟩ := q1
  obtain ⟨a, ha, rfl⟩ := rv1
  obtain ⟨a', xs, ha', h1, h2⟩ := ok1.lstAt e1
  rw [ha] at ha'; cases ha'
  obtain ⟨y, hy, ry⟩ := h2.get e2
  refine ⟨.inl ⟨rfl, _, SqL.of h1⟩, a, xs, y, rfl, rfl, h1, by rw [h2.length]; exact hy, ?_⟩
  exact k _ F1 _ κ1 _ _ (ok1.putL e1 ha h2.dropLast) s1 p1 (ry.nrm ok1) q
def mPopAt (ro ri : Rv) (g : Rg) (Q : RQ) : Prop := ∃ c l i k r, ro = .ref c ∧ ri = .dat (.int i) ∧ g[c]? = some (.lst l) ∧ -(2 ^ 63) ≤ i ∧ i < 2 ^ 63 ∧ seqIndex? i l.length = some k ∧ l[k]? = some r ∧ Q (nrm g r) (g.set c (.lst (l.eraseIdx k)))
theorem se_popAt (ho : SE ks X C env o Wo) (he : SE ks X C env e We) (hbase : attributeBase o "pop" X.env (eval o X.env) = eval o X.env) (hline : (apos.endLine == pos.line) = true) (hs : starEach [e] X.env = [(false, eval e X.env)]) :
    SE ks X C env (.Call (.Attribute o "pop" apos) [e] [] pos) (fun g Q => Wo g fun ro g1 => (lstOf g1 ro).isSome = true ∧ We g1 fun r g2 => mPopAt ro r g2 Q) := by
  intro g Q h σ F H κ Qv ok k
  refine wE_of (pe_bm PySem.F.plainAttrs_list PySem.F.slot_list_pop PySem.F.type_list_pop mt_popAt pe_w (pa_cons pe_w pa_nil hs) hbase (by rw [hs]; rfl) hline hs rfl) ?_
  refine ho g _ h σ F H κ _ ok fun v F1 H1 κ1 r1 g1 ok1 s1 p1 rv1 q1 => ?_
  obtain ⟨q0, q1⟩ := q1
  obtain ⟨rs0, e0⟩ := Option.isSome_iff_exists.mp q0
  obtain ⟨a0, xs0, rfl, h0, _⟩ := rv1.lst ok1 e0
  refine ⟨.inl ⟨rfl, _, SqL.of h0⟩, ?_⟩
  refine he g1 _ q1 σ F1 H1 κ1 _ ok1 fun w F2 H2 κ2 r2 g2 ok2 s2 p2 rv2 q2 => ?_
  obtain ⟨c, l, i, kk, r, rfl, rfl, e1, b1, b2, e2, e3, q⟩ := q2
  obtain ⟨a, ha, ea⟩ := rv1.mono s2 p2
  cases ea
  obtain ⟨a', xs, ha', h1, h2⟩ := ok2.lstAt e1
  rw [ha] at ha'; cases ha'
  obtain ⟨y, hy, ry⟩ := h2.get e3
  refine ⟨a0, xs, i, kk, y, rfl, by rw [At.intI rv2], h1, b1, b2, by rw [h2.length]; exact e2, hy, ?_⟩
  exact k _ F2 _ κ2 _ _ (ok2.putL e1 ha (h2.eraseIdx kk)) (s1.trans s2) (p1.trans p2) (ry.nrm ok2) q
def mClear (ro : Rv) (g : Rg) (Q : RQ) : Prop := ∃ c l, ro = .ref c ∧ g[c]? = some (.lst l) ∧ Q (.dat .non) (g.set c (.lst []))
theorem se_clear (ho : SE ks X C env o Wo) (hbase : attributeBase o "clear" X.env (eval o X.env) = eval o X.env) (hline : (apos.endLine == pos.line) = true) :
    SE ks X C env (.Call (.Attribute o "clear" apos) [] [] pos) (fun g Q => Wo g fun ro g1 => mClear ro g1 Q) := by
  intro g Q h σ F H κ Qv ok k
  refine wE_of (pe_bm0 PySem.F.plainAttrs_list PySem.F.slot_list_clear PySem.F.type_list_clear mt_clear pe_w hbase hline) ?_
  refine ho g _ h σ F H κ _ ok fun v F1 H1 κ1 r1 g1 ok1 s1 p1 rv1 q1 => ?_
  obtain ⟨c, l, rfl, e1, q⟩ := q1
  obtain ⟨a, ha, rfl⟩ := rv1
  obtain ⟨a', xs, ha', h1, h2⟩ := ok1.lstAt e1
  rw [ha] at ha'; cases ha'
  refine ⟨.inl ⟨rfl, _, SqL.of h1⟩, a, xs, rfl, rfl, h1, ?_⟩
  exact k _ F1 _ κ1 _ _ (ok1.putL e1 ha .nil) s1 p1 rv_non q
end

/-! ### dict displays -/
def PvOk (ks : Kt) (F : Hp) (κ : List Addr) (p : V × V) (q : Nat × Rv) : Prop := (∃ x, ks.w[q.1]? = some x ∧ p.1 = .str x) ∧ RvOk ks F κ p.2 q.2
def SPr (ks : Kt) (X : Cx) (C : Ent) (env : En) (pos : Pos) (keys : List (Option Expr)) (vals : List Expr) (W : Rg → (List (Nat × Rv) → Rg → Prop) → Prop) : Prop :=
  ∃ trs, PPs X pos keys vals trs ∧ ∀ g Q, W g Q → ∀ σ F H κ Qp, Ok ks C σ F H κ env g →
    (∀ ps F' H' κ' rs g', Ok ks C σ F' H' κ' env g' → Same F F' → Pre κ κ' → All2 (PvOk ks F' κ') ps rs → Q rs g' → Qp ps H') → tPairs trs σ H Qp
theorem spr_nil : SPr ks X C env pos [] [] (fun g Q => Q [] g) := ⟨[], pps_nil, fun g Q h σ F H κ Qp ok k => k [] F H κ [] g ok (Same.refl F) (Pre.refl κ) .nil h⟩
theorem spr_cons {i : Nat} {x : Str} {j : Nat} {kp : Pos} {v : Expr} {keys : List (Option Expr)} {vals : List Expr} {Wv : Rg → RQ → Prop} {W : Rg → (List (Nat × Rv) → Rg → Prop) → Prop} (hx : ks.w[i]? = some x) (hv : SE ks X C env v Wv) (hr : SPr ks X C env pos keys vals W) :
    SPr ks X C env pos (some (.Constant (.str x) j kp) :: keys) (v :: vals) (fun g Q => Wv g fun r g1 => W g1 fun rs g2 => Q ((i, r) :: rs) g2) := by
  obtain ⟨trs, hp, hw⟩ := hr
  refine ⟨_, pps_cons (pe_w (e := .Constant (.str x) j kp)) (pe_w (e := v)) hp, fun g Q h σ F H κ Qp ok k => ?_⟩
  refine wE_of pe_str ?_
  refine hv g _ h σ F H κ _ ok fun u F1 H1 κ1 r g1 ok1 s1 p1 rv1 q1 => ?_
  refine hw g1 _ q1 σ F1 H1 κ1 _ ok1 fun ps F2 H2 κ2 rs g2 ok2 s2 p2 rv2 q2 => ?_
  exact k _ F2 H2 κ2 _ g2 ok2 (s1.trans s2) (p1.trans p2) (.cons ⟨⟨x, hx, rfl⟩, rv1.mono s2 p2⟩ rv2) q2
theorem merge_new (nd : ks.w.Nodup) {F : Hp} {κ : List Addr} : ∀ {kvs : List (Key × V)} {rs : List (Nat × Rv)} {acc : List (Key × V)} {ra : List (Nat × Rv)}, All2 (KvOk ks F κ) acc ra → All2 (KvOk ks F κ) kvs rs → ((ra ++ rs).map (·.1)).Nodup →
    mergeK acc kvs = acc ++ kvs
  | [], _, acc, ra, _, _, _ => by rw [List.append_nil]; rfl
  | p :: kvs, [], acc, ra, _, h, _ => by cases h
  | p :: kvs, q :: rs, acc, ra, ha, .cons h t, hn => by
    obtain ⟨p1, p2⟩ := p
    obtain ⟨q1, q2⟩ := q
    obtain ⟨⟨y, hy, ep⟩, hv⟩ := id h
    dsimp only at hy ep hv
    subst ep
    have hnot : (acc.any fun kv => decide (kv.1 = (.inr y : Key))) = false := by
      rw [List.any_eq_false]
      intro z hz
      obtain ⟨i, hi, ez⟩ := List.mem_iff_getElem.mp hz
      obtain ⟨b, hb, ⟨⟨w, hw, ew⟩, _⟩⟩ := ha.get' (i := i) (a := z) (by rw [List.getElem?_eq_getElem hi, ez])
      intro hd
      have e2 := of_decide_eq_true hd
      rw [ew] at e2
      cases e2
      have : b.1 = q1 := by
        obtain ⟨l1, z1⟩ := List.getElem?_eq_some_iff.mp hw
        obtain ⟨l2, z2⟩ := List.getElem?_eq_some_iff.mp hy
        exact (List.getElem_inj nd).mp (z1.trans z2.symm)
      rw [List.map_append, List.nodup_append] at hn
      exact hn.2.2 b.1 (List.mem_map_of_mem (List.mem_of_getElem? hb)) q1 (by simp) this
    have e1 : L2.putK acc (.inr y) p2 = acc ++ [(.inr y, p2)] := by unfold L2.putK; rw [if_neg (by rw [hnot]; decide)]
    show mergeK (L2.putK acc (.inr y) p2) kvs = _
    rw [e1, merge_new nd (ha.append (.cons h .nil)) t (by simpa using hn), List.append_assoc]
    rfl
theorem kvs_of {F : Hp} {κ : List Addr} : ∀ {ps : List (V × V)} {rs : List (Nat × Rv)}, All2 (PvOk ks F κ) ps rs → ∃ kvs : List (Key × V), ps = kvs.map (fun kv => (kV kv.1, kv.2)) ∧ All2 (KvOk ks F κ) kvs rs
  | _, _, .nil => ⟨[], rfl, .nil⟩
  | _, _, @All2.cons _ _ _ p q l m h t => by
    obtain ⟨kvs, e, a⟩ := kvs_of t
    obtain ⟨⟨x, hx, ep⟩, hv⟩ := h
    obtain ⟨p1, p2⟩ := p
    dsimp only at ep hv
    subst ep
    exact ⟨(.inr x, p2) :: kvs, by rw [e]; rfl, .cons ⟨⟨x, hx, rfl⟩, hv⟩ a⟩
theorem se_dic {keys : List (Option Expr)} {vals : List Expr} {W : Rg → (List (Nat × Rv) → Rg → Prop) → Prop} (hk : KsOk ks) (hp : SPr ks X C env pos keys vals W) (hall : keys.all (·.isSome) = true) (hl : keys.length = vals.length) (h0 : keys ≠ []) (h15 : keys.length ≤ 15) :
    SE ks X C env (.Dict keys vals pos) (fun g Q => W (g ++ [.dic []]) fun rs g2 => g2[g.length]? = some (.dic []) ∧ (rs.map (·.1)).Nodup ∧ rs.length ≤ 15 ∧ Q (.ref g.length) (g2.set g.length (.dic rs))) := by
  obtain ⟨trs, hpp, hw⟩ := hp
  intro g Q h σ F H κ Qv ok k
  refine wE_of (pe_disp hpp hall hl h0 h15) fun p hp => ?_
  have ok1 := ok.newC (cell := .dic []) hp ⟨(ok.fresh hp).1, (ok.fresh hp).2, [], upd_same, .nil⟩
  refine hw _ _ h σ F _ (κ ++ [p]) _ ok1 fun ps F2 H2 κ2 rs g2 ok2 s2 p2 rv2 q2 => ?_
  obtain ⟨e1, nd, hl, q⟩ := q2
  obtain ⟨a, xs, ha, h1, h2⟩ := ok2.dicAt e1
  have hap : κ2[g.length]? = some p := p2 _ _ (by rw [← ok.g.len]; simp)
  rw [hap] at ha; cases ha
  cases h2
  obtain ⟨kvs, e2, hk2⟩ := kvs_of rv2
  refine ⟨h1, kvs, e2, by rw [hk2.length]; exact hl, ?_⟩
  rw [merge_new hk.nd (acc := []) .nil hk2 (by simpa using nd)]
  exact k _ F2 _ κ2 _ _ (ok2.putK e1 hap hk2) s2 ((Pre.app κ [p]).trans p2) (rv_ref hap) q

/-! ### isinstance -/
def tyD : D → Option String
  | .non => some "NoneType" | .bl _ => some "bool" | .int _ => some "int" | .str _ => some "str" | .lst _ => some "list" | .tup _ => some "tuple" | .dic _ => some "dict" | .scr _ => none
def tyR (g : Rg) : Rv → Option String
  | .dat d => tyD d
  | .ref c => match g[c]? with | some (.lst _) => some "list" | some (.dic _) => some "dict" | some (.fz d) => tyD d | _ => none
theorem At.ty {F H : Hp} {K : PySem.W.Frag} (s : Same F H) {v : V} {d : D} {t : String} (h : At ks F v d) (et : tyD d = some t) : TyX K H v (.type t) := by
  cases h with
  | non => cases et; exact .base .non
  | bl b => cases et; exact .base (.bl b)
  | int i => cases et; exact .base (.int i)
  | str e => cases et; exact .base (.str _)
  | lst e _ => cases et; exact .base (.lst (s _ _ e))
  | tup e _ => cases et; exact .base (.tup (s _ _ e))
  | dic e _ => cases et; exact .base (.dK (s _ _ e))
  | scr e => cases et
theorem RvOk.ty {σ : L2.St} {F H : Hp} {κ : List Addr} {g : Rg} {K : PySem.W.Frag} {v : V} {r : Rv} {t : String} (ok : Ok ks C σ F H κ env g) (h : RvOk ks F κ v r) (e : tyR g r = some t) : TyX K H v (.type t) := by
  cases r with
  | dat d => exact At.ty ok.ch.fh h e
  | ref c =>
    obtain ⟨a, ha, rfl⟩ := h
    simp only [tyR] at e
    split at e
    · rename_i rs hc
      cases e
      obtain ⟨_, _, xs, h1, _⟩ := ok.g.cells c _ a hc ha
      exact .base (.lst h1)
    · rename_i rs hc
      cases e
      obtain ⟨_, _, xs, h1, _⟩ := ok.g.cells c _ a hc ha
      exact .base (.dK h1)
    · rename_i d hc
      exact At.ty ok.ch.fh (ok.g.cells c _ a hc ha) e
    · cases e
/-- isinstance(x, T): the answer by the library's table -/
theorem se_isin {o : Expr} {T x : Str} {Ts : String} {p1 p2 : Pos} {Wo : Rg → RQ → Prop} (ho : SE ks X C env o Wo) (hg : Gl X x) (hx : x = "isinstance") (hm : X.mg x = none) (hgT : Gl X T) (hmT : X.mg T = none) (hvT : bootBuiltins T = some (.type Ts)) (hnT : T ≠ "__name__") (hdT : (T == ("__debug__" : Str)) = false)
    (hs : starEach [o, .Name T p2] X.env = (false, eval o X.env) :: starEach [.Name T p2] X.env) : SE ks X C env (.Call (.Name x p1) [o, .Name T p2] [] pos) (fun g Q => Wo g fun r g1 => ∃ t b, tyR g1 r = some t ∧ kitB t Ts = some b ∧ Q (.dat (.bl b)) g1) := by
  subst hx
  intro g Q h σ F H κ Qv ok k
  refine wE_of (pe_callB call_isi hg hm PyProof.Rows.boot_isinstance (pa_cons (pe_w (e := o)) (pa_cons (pe_bltn (v := .ty Ts) hgT hmT hvT rfl hnT hdT) pa_nil) hs) (by decide) (by decide) hs rfl) ?_
  refine ho g _ h σ F H κ _ ok fun v F1 H1 κ1 r1 g1 ok1 s1 p1 rv1 q1 => ?_
  obtain ⟨t, b, e1, e2, q⟩ := q1
  exact ⟨v, .ty Ts, _, _, b, rfl, .ty Ts, rv1.ty ok1 e1, kit_ty e2, k _ F1 H1 κ1 _ g1 ok1 s1 p1 (rv_bl b) q⟩
end
end DW

/-! ## DW7.lean -/
set_option Elab.async false
set_option linter.all false
set_option maxRecDepth 100000
set_option maxHeartbeats 2000000
set_option autoImplicit false
/-! DW7: what is walked; comprehensions. -/
namespace DW
open PySem PySem.Spec L2
open PyProof.Rows hiding St

section
variable {ks : Kt} {X : Cx} {C : Ent} {env : En} {pos : Pos}
/-- isinstance(x, (T, U)) -/
theorem se_isin2 {o : Expr} {T U x : Str} {Ts Us : String} {p1 p2 p3 p4 : Pos} {k4 : Nat} {Wo : Rg → RQ → Prop} (ho : SE ks X C env o Wo) (hg : Gl X x) (hx : x = "isinstance") (hm : X.mg x = none)
    (hgT : Gl X T) (hmT : X.mg T = none) (hvT : bootBuiltins T = some (.type Ts)) (hnT : T ≠ "__name__") (hdT : (T == ("__debug__" : Str)) = false)
    (hgU : Gl X U) (hmU : X.mg U = none) (hvU : bootBuiltins U = some (.type Us)) (hnU : U ≠ "__name__") (hdU : (U == ("__debug__" : Str)) = false)
    (hs : starEach [o, .Tuple [.Name T p2, .Name U p3] k4 p4] X.env = (false, eval o X.env) :: starEach [.Tuple [.Name T p2, .Name U p3] k4 p4] X.env) :
    SE ks X C env (.Call (.Name x p1) [o, .Tuple [.Name T p2, .Name U p3] k4 p4] [] pos) (fun g Q => Wo g fun r g1 => ∃ t b b', tyR g1 r = some t ∧ kitB t Ts = some b ∧ kitB t Us = some b' ∧ Q (.dat (.bl (b || b'))) g1) := by
  subst hx
  intro g Q h σ F H κ Qv ok k
  refine wE_of (pe_callB call_isiT hg hm PyProof.Rows.boot_isinstance (pa_cons (pe_w (e := o)) (pa_cons (pe_tup (pa_cons (pe_bltn (v := .ty Ts) hgT hmT hvT rfl hnT hdT) (pa_cons (pe_bltn (v := .ty Us) hgU hmU hvU rfl hnU hdU) pa_nil))) pa_nil) hs) (by decide) (by decide) hs rfl) ?_
  refine ho g _ h σ F H κ _ ok fun v F1 H1 κ1 r1 g1 ok1 s1 p1 rv1 q1 => ?_
  obtain ⟨t, b, b', e1, e2, e3, q⟩ := q1
  refine ⟨by show 2 ≤ sizeLine; decide, fun p hp => ?_⟩
  have sF := ok1.newD_F (o := .tup [.ty Ts, .ty Us]) hp
  have ok2 := ok1.newD (o := .tup [.ty Ts, .ty Us]) hp
  refine ⟨v, p, [.ty Ts, .ty Us], _, [.type Ts, .type Us], b || b', rfl, upd_same, .cons (.ty Ts) (.cons (.ty Us) .nil), (rv1.mono sF (Pre.refl κ1)).ty ok2 e1, ?_, k _ _ _ κ1 _ g1 ok2 (s1.trans sF) p1 (rv_bl _) q⟩
  refine kitAny_cons (kit_ty e2) (fun z => ?_) (fun z => by rw [z]; rfl)
  subst z
  refine kitAny_cons (kit_ty e3) (fun z => ?_) (fun z => by rw [z]; rfl)
  subst z
  rfl

/-! ### what is walked -/
def wI (X : Cx) (tg iter : Expr) : TI := fun σ H R => ∀ pins s, Inv X pins σ H s → wpAny (model X.prog X.w) X.A (eval iter X.env) (fun v s1 => wpAny (model X.prog X.w) X.A (pyIter v) (fun itv s2 => PIE X pins σ tg R itv s2) X.xe s1) X.xe s
structure JOk (ks : Kt) (C : Ent) (J : It) (F : Hp) (κ : List Addr) (its : List Rv) (keep : Rg → Prop) : Prop where
  stop : ∀ {i σ env F' H' κ' g'}, Ok ks C σ F' H' κ' env g' → Same F F' → Pre κ κ' → keep g' → its.length ≤ i → J.stop i H'
  go : ∀ {i σ env F' H' κ' g'}, Ok ks C σ F' H' κ' env g' → Same F F' → Pre κ κ' → keep g' → i < its.length → J.go i H'
  yld : ∀ {i σ env F' H' κ' g' x H2}, Ok ks C σ F' H' κ' env g' → Same F F' → Pre κ κ' → keep g' → i < its.length → J.yld i H' x H2 → ∃ F2 r, Ok ks C σ F2 H2 κ' env g' ∧ Same F' F2 ∧ its[i]? = some r ∧ RvOk ks F2 κ' x r
abbrev IQ := List Rv → (Rg → Prop) → Rg → Prop
def SI (ks : Kt) (X : Cx) (C : Ent) (env : En) (tg iter : Expr) (W : Rg → IQ → Prop) : Prop := ∃ wi : TI, PI X tg iter wi ∧ ∀ g Q, W g Q → ∀ σ F H κ R, Ok ks C σ F H κ env g →
  (∀ J F' H' κ' its keep g', Ok ks C σ F' H' κ' env g' → Same F F' → Pre κ κ' → JOk ks C J F' κ' its keep → keep g' → Q its keep g' → R J H') → wi σ H R
/-- a list, own or not -/
theorem si_list {tg iter : Expr} {W : Rg → RQ → Prop} (he : SE ks X C env iter W) : SI ks X C env tg iter (fun g Q => W g fun r g1 => ∃ rs, lstOf g1 r = some rs ∧ Q rs (fun g' => lstOf g' r = some rs) g1) := by
  refine ⟨_, pi_list pe_w, fun g Q h σ F H κ R ok k => ?_⟩
  refine he g _ h σ F H κ _ ok fun v F1 H1 κ1 r g1 ok1 s1 p1 rv q => ?_
  obtain ⟨rs, e, q⟩ := q
  obtain ⟨a, xs, rfl, h1, h2⟩ := rv.lst ok1 e
  refine ⟨a, rfl, ⟨xs, SqL.of h1⟩, k _ F1 H1 κ1 rs _ g1 ok1 s1 p1 ⟨?_, ?_, ?_⟩ e q⟩
  · intro i σ env F' H' κ' g' ok' s p kp hi
    obtain ⟨a', xs', ea, h3, h4⟩ := (rv.mono s p).lst ok' kp
    cases ea
    exact ⟨xs', SqL.of h3, by rw [h4.length]; exact hi⟩
  · intro i σ env F' H' κ' g' ok' s p kp hi
    obtain ⟨a', xs', ea, h3, h4⟩ := (rv.mono s p).lst ok' kp
    cases ea
    obtain ⟨x, hx, _⟩ := h4.get (i := i) (List.getElem?_eq_getElem hi)
    exact ⟨xs', x, SqL.of h3, hx⟩
  · intro i σ env F' H' κ' g' x H2 ok' s p kp hi hy
    obtain ⟨a', xs', ea, h3, h4⟩ := (rv.mono s p).lst ok' kp
    cases ea
    obtain ⟨rfl, hy⟩ := hy
    obtain ⟨r', hr, hv⟩ := h4.get' (hy xs' (SqL.of h3))
    exact ⟨F', r', ok', Same.refl F', hr, hv⟩
def rngs (lo : Int) (n : Nat) : List Rv := (List.range n).map fun i => .dat (.int (lo + (i : Nat)))
theorem rngs_length (lo : Int) (n : Nat) : (rngs lo n).length = n := by unfold rngs; simp
theorem rngs_get {lo : Int} {n i : Nat} (h : i < n) : (rngs lo n)[i]? = some (.dat (.int (lo + (i : Nat)))) := by unfold rngs; rw [List.getElem?_map, List.getElem?_range h]; rfl
theorem jok_range {F : Hp} {κ : List Addr} {lo : Int} {n : Nat} : JOk ks C (Itr lo n) F κ (rngs lo n) (fun _ => True) := by
  refine ⟨?_, ?_, ?_⟩
  · intro i σ env F' H' κ' g' ok' s p kp hi
    rw [rngs_length] at hi; exact hi
  · intro i σ env F' H' κ' g' ok' s p kp hi
    rw [rngs_length] at hi; exact hi
  · intro i σ env F' H' κ' g' x H2 ok' s p kp hi hy
    rw [rngs_length] at hi
    obtain ⟨rfl, rfl⟩ := hy
    exact ⟨F', _, ok', Same.refl F', rngs_get hi, rv_int _⟩
theorem si_range1 {tg a : Expr} {x : Str} {p : Pos} {W : Rg → RQ → Prop} (hx : x = "range") (hg : Gl X x) (hm : X.mg x = none) (ha : SE ks X C env a W) (hs : starEach [a] X.env = [(false, eval a X.env)]) :
    SI ks X C env tg (.Call (.Name x p) [a] [] pos) (fun g Q => W g fun r g1 => ∃ j : Int, r = .dat (.int j) ∧ -(2 ^ 62) ≤ j ∧ j < 2 ^ 62 ∧ Q (rngs 0 j.toNat) (fun _ => True) g1) := by
  subst hx
  refine ⟨_, pi_range1 hg hm (pa_cons (pe_w (e := a)) pa_nil hs) hs, fun g Q h σ F H κ R ok k => ?_⟩
  refine ha g _ h σ F H κ _ ok fun v F1 H1 κ1 r g1 ok1 s1 p1 rv q => ?_
  obtain ⟨j, rfl, l1, l2, q⟩ := q
  exact ⟨j, by rw [At.intI rv], l1, l2, k _ F1 H1 κ1 _ _ g1 ok1 s1 p1 jok_range True.intro q⟩
theorem si_range2 {tg a b : Expr} {x : Str} {p : Pos} {W W' : Rg → RQ → Prop} (hx : x = "range") (hg : Gl X x) (hm : X.mg x = none) (ha : SE ks X C env a W) (hb : SE ks X C env b W') (hs : starEach [a, b] X.env = [(false, eval a X.env), (false, eval b X.env)]) (hs2 : starEach [b] X.env = [(false, eval b X.env)]) :
    SI ks X C env tg (.Call (.Name x p) [a, b] [] pos) (fun g Q => W g fun r g1 => W' g1 fun r2 g2 => ∃ i j : Int, r = .dat (.int i) ∧ r2 = .dat (.int j) ∧ (-(2 ^ 62) ≤ i ∧ i < 2 ^ 62 ∧ -(2 ^ 62) ≤ j ∧ j < 2 ^ 62) ∧ Q (rngs i (j - i).toNat) (fun _ => True) g2) := by
  subst hx
  refine ⟨_, pi_range2 hg hm (pa_cons (pe_w (e := a)) (pa_cons (pe_w (e := b)) pa_nil hs2) (by rw [hs, hs2])) hs hs2, fun g Q h σ F H κ R ok k => ?_⟩
  refine ha g _ h σ F H κ _ ok fun v F1 H1 κ1 r g1 ok1 s1 p1 rv q => ?_
  refine hb g1 _ q σ F1 H1 κ1 _ ok1 fun v2 F2 H2 κ2 r2 g2 ok2 s2 p2 rv2 q2 => ?_
  obtain ⟨i, j, rfl, rfl, l, q⟩ := q2
  exact ⟨i, j, by rw [At.intI rv, At.intI rv2], l, k _ F2 H2 κ2 _ _ g2 ok2 (s1.trans s2) (p1.trans p2) jok_range True.intro q⟩
def enums (ds : List D) : List Rv := (List.range ds.length).map fun i => .dat (.tup [.int (i : Nat), ds.getD i .non])
theorem si_enum {e : Expr} {x : Str} {p tpos : Pos} {elts : List Expr} {kk : Nat} {W : Rg → RQ → Prop} (hx : x = "enumerate") (hg : Gl X x) (hm : X.mg x = none) (he : SE ks X C env e W) (hs : starEach [e] X.env = [(false, eval e X.env)]) :
    SI ks X C env (.Tuple elts kk tpos) (.Call (.Name x p) [e] [] pos) (fun g Q => W g fun r g1 => ∃ ds : List D, lstOf g1 r = some (ds.map .dat) ∧ Q (enums ds) (fun g' => lstOf g' r = some (ds.map .dat)) g1) := by
  subst hx
  refine ⟨_, pi_enum hg hm (pa_cons (pe_w (e := e)) pa_nil hs) hs, fun g Q h σ F H κ R ok k => ?_⟩
  refine he g _ h σ F H κ _ ok fun v F1 H1 κ1 r g1 ok1 s1 p1 rv q => ?_
  obtain ⟨ds, e, q⟩ := q
  obtain ⟨a, xs, rfl, h1, h2⟩ := rv.lst ok1 e
  refine ⟨a, xs, rfl, SqL.of h1, k _ F1 H1 κ1 (enums ds) _ g1 ok1 s1 p1 ⟨?_, ?_, ?_⟩ e q⟩
  · intro i σ env F' H' κ' g' ok' s p kp hi
    obtain ⟨a', xs', ea, h3, h4⟩ := (rv.mono s p).lst ok' kp
    cases ea
    unfold enums at hi
    rw [List.length_map, List.length_range] at hi
    exact ⟨xs', SqL.of h3, by rw [h4.length, List.length_map]; exact hi⟩
  · intro i σ env F' H' κ' g' ok' s p kp hi
    obtain ⟨a', xs', ea, h3, h4⟩ := (rv.mono s p).lst ok' kp
    cases ea
    unfold enums at hi
    rw [List.length_map, List.length_range] at hi
    obtain ⟨x, hx, _⟩ := h4.get (i := i) (List.getElem?_eq_getElem (by rw [List.length_map]; exact hi))
    exact ⟨xs', x, SqL.of h3, hx⟩
  · intro i σ env F' H' κ' g' x H2 ok' s p kp hi hy
    obtain ⟨a', xs', ea, h3, h4⟩ := (rv.mono s p).lst ok' kp
    cases ea
    unfold enums at hi
    rw [List.length_map, List.length_range] at hi
    obtain ⟨T, y, rfl, hT, rfl, hy⟩ := hy
    obtain ⟨r', hr, hv⟩ := h4.get' (hy xs' (SqL.of h3))
    rw [List.getElem?_map, List.getElem?_eq_getElem hi] at hr
    cases hr
    have sF := ok'.newD_F (o := .tup [.int (i : Nat), y]) hT
    refine ⟨_, _, ok'.newD hT, sF, ?_, rv_d (.tup upd_same (.cons (.int _) (.cons (At.mono sF hv) .nil)))⟩
    unfold enums
    rw [List.getElem?_map, List.getElem?_range hi]
    simp [List.getD_eq_getElem?_getD, List.getElem?_eq_getElem hi]

/-! ### targets -/
inductive Tg where
  | name (i : Nat) | pair (i j : Nat)
def Tg.put (env : En) (r : Rv) : Tg → Option En
  | .name i => some (env.set i (some r))
  | .pair i j => match r with | .dat (.tup [a, b]) => some ((env.set i (some (.dat a))).set j (some (.dat b))) | _ => none
def Tg.at : Tg → List Nat
  | .name i => [i]
  | .pair i j => [i, j]
/-- how a target takes a value -/
def Tg.G (K : PySem.W.Frag) : Tg → TG
  | .name i => gName i
  | .pair i j => gTup K 2 (gCons (gName i) (gCons (gName j) gNil))
theorem Ok.setE {σ : L2.St} {F H : Hp} {κ : List Addr} {g : Rg} {v : V} {r : Rv} {i : Nat} (ok : Ok ks C σ F H κ env g) (h : RvOk ks F κ v r) : Ok ks C (σ.set i (some v)) F H κ (env.set i (some r)) g := by
  refine ⟨ok.g, ok.ch, by simpa using ok.len, fun j r' e => ?_⟩
  by_cases hj : i = j
  · subst hj
    have hl : i < env.length := by
      have := (List.getElem?_eq_some_iff.mp e).1
      simpa using this
    rw [List.getElem?_set_self hl] at e
    cases e
    exact ⟨v, by rw [List.getElem?_set_self (by rw [ok.len]; exact hl)], h⟩
  · rw [List.getElem?_set_ne hj] at e
    obtain ⟨w, h1, h2⟩ := ok.env j r' e
    exact ⟨w, by rw [List.getElem?_set_ne hj]; exact h1, h2⟩
theorem Ok.wipeE {σ : L2.St} {F H : Hp} {κ : List Addr} {g : Rg} {i : Nat} (ok : Ok ks C σ F H κ env g) : Ok ks C (σ.set i none) F H κ (env.set i none) g := by
  refine ⟨ok.g, ok.ch, by simpa using ok.len, fun j r' e => ?_⟩
  by_cases hj : i = j
  · subst hj
    have hl : i < env.length := by
      have := (List.getElem?_eq_some_iff.mp e).1
      simpa using this
    rw [List.getElem?_set_self hl] at e
    cases e
  · rw [List.getElem?_set_ne hj] at e
    obtain ⟨w, h1, h2⟩ := ok.env j r' e
    exact ⟨w, by rw [List.getElem?_set_ne hj]; exact h1, h2⟩
/-- names forgotten -/
def wipeN (env : En) : List Nat → En
  | [] => env
  | v :: vs => (wipeN env vs).set v none
theorem Ok.wipe {σ : L2.St} {F H : Hp} {κ : List Addr} {g : Rg} (ok : Ok ks C σ F H κ env g) : ∀ vs : List Nat, Ok ks C (L2.wipe σ vs) F H κ (wipeN env vs) g
  | [] => ok
  | v :: vs => (Ok.wipe ok vs).wipeE
theorem wipe_set_in {σ : L2.St} {i : Nat} {x : Option V} : ∀ {vs : List Nat}, i ∈ vs → wipe (σ.set i x) vs = wipe σ vs
  | [], h => by cases h
  | v :: vs, h => by
    show (wipe (σ.set i x) vs).set v none = (wipe σ vs).set v none
    by_cases hm : i ∈ vs
    · rw [wipe_set_in hm]
    · have e : i = v := by
        rcases List.mem_cons.mp h with e | e
        · exact e
        · exact absurd e hm
      subst e
      have comm : ∀ {us : List Nat}, i ∉ us → wipe (σ.set i x) us = (wipe σ us).set i x := by
        intro us
        induction us with
        | nil => intro _; rfl
        | cons u us ih =>
          intro hn
          have h1 : u ≠ i := fun z => hn (by rw [z]; exact List.mem_cons_self)
          show (wipe (σ.set i x) us).set u none = ((wipe σ us).set u none).set i x
          rw [ih fun z => hn (List.mem_cons_of_mem _ z), List.set_comm _ _ h1.symm]
      rw [comm hm, List.set_set]
theorem wipe_idem (σ : L2.St) : ∀ vs : List Nat, wipe (wipe σ vs) vs = wipe σ vs := by
  have key : ∀ (us : List Nat) (τ : L2.St), (∀ u ∈ us, τ[u]? = some none ∨ τ.length ≤ u) → wipe τ us = τ := by
    intro us
    induction us with
    | nil => intro τ _; rfl
    | cons u us ih =>
      intro τ h
      show (wipe τ us).set u none = τ
      rw [ih τ fun z hz => h z (List.mem_cons_of_mem _ hz)]
      rcases h u List.mem_cons_self with e | e
      · obtain ⟨l, e⟩ := List.getElem?_eq_some_iff.mp e
        rw [← e]; exact List.set_getElem_self l
      · exact List.set_eq_of_length_le e
  intro vs
  refine key vs _ fun u hu => ?_
  induction vs with
  | nil => cases hu
  | cons v vs ih =>
    show ((wipe σ vs).set v none)[u]? = some none ∨ ((wipe σ vs).set v none).length ≤ u
    by_cases e : v = u
    · subst e
      by_cases l : v < (wipe σ vs).length
      · exact .inl (List.getElem?_set_self l)
      · exact .inr (by rw [List.length_set]; omega)
    · rw [List.getElem?_set_ne e, List.length_set]
      rcases List.mem_cons.mp hu with z | z
      · exact absurd z.symm e
      · exact ih z
theorem Tg.G_ok {K : PySem.W.Frag} {T : Tg} {σ : L2.St} {F H : Hp} {κ : List Addr} {env env' : En} {g : Rg} {v : V} {r : Rv} {Q : L2.St → Hp → Prop} (ok : Ok ks C σ F H κ env g) (rv : RvOk ks F κ v r) (e : T.put env r = some env')
    (k : ∀ σ', Ok ks C σ' F H κ env' g → (∀ vs : List Nat, (∀ i ∈ T.at, i ∈ vs) → wipe σ' vs = wipe σ vs) → Q σ' H) : T.G K v σ H Q := by
  cases T with
  | name i =>
    cases e
    exact k _ (ok.setE rv) fun vs h => wipe_set_in (h i (by simp [Tg.at]))
  | pair i j =>
    simp only [Tg.put] at e
    split at e
    · rename_i a b
      cases e
      obtain ⟨p, xs, rfl, h1, h2⟩ := At.tupI rv
      cases h2 with
      | cons ha t =>
        cases t with
        | cons hb t =>
          cases t
          refine ⟨p, _, rfl, SqT.of (ok.ch.fh _ _ h1), rfl, _, _, rfl, _, _, rfl, rfl, ?_⟩
          refine k _ ((ok.setE (rv_d ha)).setE (rv_d hb)) fun vs h => ?_
          rw [wipe_set_in (h j (by simp [Tg.at])), wipe_set_in (h i (by simp [Tg.at]))]
    · cases e
theorem pg_n {i : Nat} {x : Str} (hN : X.N.Nodup) (hi : X.N[i]? = some x) (hx : Loc X.env.scope x) (hf : X.fn x = true ∨ X.env.scope.names.lookup x = some .local) : PG X (.Name x pos) ((Tg.name i).G X.K) := pg_name hN hi hx hf
theorem pg_p {i j : Nat} {x y : Str} {px py : Pos} {kk : Nat} (hc : X.calm = true) (hN : X.N.Nodup) (hi : X.N[i]? = some x) (hx : Loc X.env.scope x) (hf : X.fn x = true ∨ X.env.scope.names.lookup x = some .local)
    (hj : X.N[j]? = some y) (hy : Loc X.env.scope y) (hf' : X.fn y = true ∨ X.env.scope.names.lookup y = some .local) : PG X (.Tuple [.Name x px, .Name y py] kk pos) ((Tg.pair i j).G X.K) :=
  pg_tup hc (pgs_cons (pg_name hN hi hx hf) (pgs_cons (pg_name hN hj hy hf') pgs_nil))
/-! ### comprehensions -/
theorem Ok.slots {σ σ2 : L2.St} {F H F3 H3 : Hp} {κ κ3 : List Addr} {env env2 : En} {g g3 : Rg} (ok : Ok ks C σ F H κ env g) (ok3 : Ok ks C σ2 F3 H3 κ3 env2 g3) (s : Same F F3) (p : Pre κ κ3) : Ok ks C σ F3 H3 κ3 env g3 :=
  ⟨ok3.g, ok3.ch, ok.len, fun i r e => let ⟨v, h1, h2⟩ := ok.env i r e; ⟨v, h1, h2.mono s p⟩⟩
/-- a block's element, its test, whatever it starts from -/
def wEb (X : Cx) (scope : Scope) (e : Expr) : TE := fun σ H Q => ∀ s H0 Cc cl fp, wE (X.blk s H0 scope (compEnvC scope cl Cc X.env) fp) e σ H Q
def wTb (X : Cx) (scope : Scope) (e : Expr) : TT := fun σ H Q => ∀ s H0 Cc cl fp, wT (X.blk s H0 scope (compEnvC scope cl Cc X.env) fp) e σ H Q
theorem pe_wb {scope : Scope} {e : Expr} (s : Shared) (H0 : Hp) (Cc : Addr) (cl : List (Str × Addr)) (fp : List Addr) : PE (X.blk s H0 scope (compEnvC scope cl Cc X.env) fp) e (wEb X scope e) := ⟨fun pins s' σ H Q I h => h s H0 Cc cl fp pins s' I⟩
theorem pt_wb {scope : Scope} {e : Expr} (s : Shared) (H0 : Hp) (Cc : Addr) (cl : List (Str × Addr)) (fp : List Addr) : PT (X.blk s H0 scope (compEnvC scope cl Cc X.env) fp) e (wTb X scope e) := ⟨fun pins s' σ H Q I h => h s H0 Cc cl fp pins s' I⟩
/-- the test of a clause: none, or one -/
def ttOf (X : Cx) (scope : Scope) : List Expr → TT
  | [] => tYes
  | c :: _ => wTb X scope c
theorem pts_of {scope : Scope} {ifs : List Expr} (hl : ifs.length ≤ 1) (s : Shared) (H0 : Hp) (Cc : Addr) (cl : List (Str × Addr)) (fp : List Addr) : PTs (X.blk s H0 scope (compEnvC scope cl Cc X.env) fp) ifs (ttOf X scope ifs) := by
  match ifs, hl with
  | [], _ => exact pts_nil
  | [c], _ => exact pts_one (pt_wb s H0 Cc cl fp)
  | _ :: _ :: _, h => simp at h
/-- the tests' reading in a block -/
def SC (ks : Kt) (X : Cx) (C : Ent) (scope : Scope) (ifs : List Expr) (W : En → Rg → (Bool → Rg → Prop) → Prop) : Prop := ∀ env g Q, W env g Q → ∀ σ F H κ Qv, Ok ks C σ F H κ env g → KontT ks C env σ F κ Q Qv → ttOf X scope ifs σ H Qv
theorem sc_nil {scope : Scope} : SC ks X C scope [] (fun _ g Q => Q true g) := fun env g Q h σ F H κ Qv ok k => k true F H κ g ok (Same.refl F) (Pre.refl κ) h
theorem sc_one {scope : Scope} {c : Expr} {W : En → Rg → (Bool → Rg → Prop) → Prop} (h : ∀ env s H0 Cc cl fp, ST ks (X.blk s H0 scope (compEnvC scope cl Cc X.env) fp) C env c (W env)) : SC ks X C scope [c] W :=
  fun env g Q hw σ F H κ Qv ok k s H0 Cc cl fp => h env s H0 Cc cl fp g Q hw σ F H κ Qv ok k
def WComp (T : Tg) (vs : List Nat) (env : En) (Wt : En → Rg → (Bool → Rg → Prop) → Prop) (We : En → Rg → RQ → Prop) (its : List Rv) (keep : Rg → Prop) (g1 : Rg) (Q : RQ) : Prop :=
  ∃ Inv : Nat → List Rv → Rg → Prop, Inv 0 [] (g1 ++ [.lst []]) ∧ (∀ k acc g, Inv k acc g → keep g ∧ g[g1.length]? = some (.lst acc)) ∧
  (∀ k r acc g, its[k]? = some r → Inv k acc g → ∃ env', T.put (wipeN env vs) (nrm g r) = some env' ∧ Wt env' g fun b g2 =>
    (b = true → We env' g2 fun y g3 => g3[g1.length]? = some (.lst acc) ∧ acc.length < 1000000 ∧ Inv (k + 1) (acc ++ [y]) (g3.set g1.length (.lst (acc ++ [y])))) ∧ (b = false → Inv (k + 1) acc g2)) ∧
  ∀ acc g, Inv its.length acc g → Q (.ref g1.length) g
theorem lc_sem {elt : Expr} {ifs : List Expr} {scope : Scope} {T : Tg} {vs : List Nat} {WI : Rg → IQ → Prop} {Wt : En → Rg → (Bool → Rg → Prop) → Prop} {We : En → Rg → RQ → Prop} {wi : TI}
    (hi : ∀ g Q, WI g Q → ∀ σ F H κ R, Ok ks C σ F H κ env g → (∀ J F' H' κ' its keep g', Ok ks C σ F' H' κ' env g' → Same F F' → Pre κ κ' → JOk ks C J F' κ' its keep → keep g' → Q its keep g' → R J H') → wi σ H R)
    (ht : SC ks X C scope ifs Wt) (he : ∀ env s H0 Cc cl fp, SE ks (X.blk s H0 scope (compEnvC scope cl Cc X.env) fp) C env elt (We env)) (hT : ∀ i ∈ T.at, i ∈ vs)
    {g : Rg} {Q : RQ} {σ : L2.St} {F H : Hp} {κ : List Addr} {Qv : VK} (h : WI g fun its keep g1 => WComp T vs env Wt We its keep g1 Q) (ok : Ok ks C σ F H κ env g) (k : Kont ks C env σ F κ Q Qv) :
    tLc wi (T.G X.K) (ttOf X scope ifs) (wEb X scope elt) vs σ H Qv := by
  refine hi g _ h σ F H κ _ ok fun J F1 H1 κ1 its keep g1 ok1 s1 p1 jok kp0 q => ?_
  intro D hD
  obtain ⟨Inv, i0, ik, istep, iend⟩ := q
  have ok2 := ok1.newL hD (All2.nil (R := RvOk ks F1 κ1))
  refine ⟨fun i m H' => m = its.length - i ∧ i ≤ its.length ∧ ∃ F' κ' acc g', Ok ks C σ F' H' κ' env g' ∧ Same F1 F' ∧ Pre (κ1 ++ [D]) κ' ∧ Inv i acc g',
    ⟨its.length, by simp, Nat.zero_le _, F1, κ1 ++ [D], [], _, ok2, Same.refl F1, Pre.refl _, i0⟩, ?_⟩
  rintro i m H' ⟨rfl, hil, F', κ', acc, g', ok', s', p', inv⟩
  obtain ⟨kp, hacc⟩ := ik i acc g' inv
  have p1' : Pre κ1 κ' := (Pre.app κ1 [D]).trans p'
  have hDk : κ'[g1.length]? = some D := p' _ _ (by rw [← ok1.g.len]; simp)
  by_cases hlt : i < its.length
  · refine .inr ⟨jok.go ok' s' p1' kp hlt, fun H'' => ∃ F'' κ'' acc'' g'', Ok ks C σ F'' H'' κ'' env g'' ∧ Same F1 F'' ∧ Pre (κ1 ++ [D]) κ'' ∧ Inv (i + 1) acc'' g'',
      fun H'' n => ⟨its.length - (i + 1), by omega, rfl, hlt, n⟩, fun x H2 hy => ?_⟩
    obtain ⟨F2, r, okb, sb, hr, hv⟩ := jok.yld ok' s' p1' kp hlt hy
    obtain ⟨env', ep, q⟩ := istep i r acc g' hr inv
    refine Tg.G_ok (okb.wipe vs) (hv.nrm okb) ep fun σ2 ok3 hw => ⟨by rw [hw vs hT, wipe_idem], ?_⟩
    refine ht env' g' _ q σ2 F2 H2 κ' _ ok3 fun b F3 H3 κ3 g3 ok4 s4 p4 q4 => ?_
    cases b with
    | false =>
      rw [if_neg Bool.false_ne_true]
      exact ⟨F3, κ3, acc, g3, okb.slots ok4 s4 p4, (s'.trans sb).trans s4, p'.trans p4, q4.2 rfl⟩
    | true =>
      rw [if_pos rfl]
      intro s H0 Cc cl fp
      refine he env' s H0 Cc cl fp g3 _ (q4.1 rfl) σ2 F3 H3 κ3 _ ok4 fun y F5 H5 κ5 ry g5 ok5 s5 p5 rv5 q5 => ?_
      obtain ⟨e5, l5, inv5⟩ := q5
      obtain ⟨a, xs, ha, h1, h2⟩ := ok5.lstAt e5
      have hD5 : κ5[g1.length]? = some D := p5 _ _ (p4 _ _ hDk)
      rw [hD5] at ha; cases ha
      refine ⟨xs, h1, by rw [h2.length]; exact Nat.lt_of_lt_of_le l5 (by decide), F5, κ5, _, _, ?_, ((s'.trans sb).trans s4).trans s5, (p'.trans p4).trans p5, inv5⟩
      exact (okb.slots (ok5.putL e5 hD5 (h2.append (.cons rv5 .nil))) (s4.trans s5) (p4.trans p5))
  · have e : i = its.length := by omega
    subst e
    exact .inl ⟨jok.stop ok' s' p1' kp (Nat.le_refl _), k _ F' H' κ' _ g' ok' (s1.trans s') (p1.trans p1') (rv_ref hDk) (iend acc g' inv)⟩
theorem se_comp {elt tg iter : Expr} {ifs : List Expr} {scope : Scope} {own : List (Str × Nat)} {T : Tg} {WI : Rg → IQ → Prop} {Wt : En → Rg → (Bool → Rg → Prop) → Prop} {We : En → Rg → RQ → Prop}
    (hc : X.calm = true) (hN : X.N.Nodup) (hi : SI ks X C env tg iter WI) (bok : BlkOk X.N X.env.scope scope own) (hg : ∀ s H0 Cc cl fp, PG (X.blk s H0 scope (compEnvC scope cl Cc X.env) fp) tg (T.G X.K)) (hl : ifs.length ≤ 1)
    (ht : SC ks X C scope ifs Wt) (he : ∀ env s H0 Cc cl fp, SE ks (X.blk s H0 scope (compEnvC scope cl Cc X.env) fp) C env elt (We env)) (hT : ∀ i ∈ T.at, i ∈ own.map (·.2)) (hs : ∀ x, foldedSetIterable iter X.env x = pure x) :
    SE ks X C env (.ListComp elt [⟨tg, iter, ifs, 0⟩] scope pos) (fun g Q => WI g fun its keep g1 => WComp T (own.map (·.2)) env Wt We its keep g1 Q) := by
  obtain ⟨wi, hp, hw⟩ := hi
  intro g Q h σ F H κ Qv ok k
  exact wE_of (pe_lc hc hN hp bok hg (fun s H0 Cc cl fp => pts_of hl s H0 Cc cl fp) (fun s H0 Cc cl fp => pe_wb s H0 Cc cl fp) hs) (lc_sem hw ht he hT h ok k)
end
end DW

/-! ## DW8.lean -/
set_option Elab.async false
set_option linter.all false
set_option maxRecDepth 100000
set_option maxHeartbeats 2000000
set_option autoImplicit false
/-! DW8: statements; a def by its body. -/
namespace DW
open PySem PySem.Spec L2
open PyProof.Rows hiding St

abbrev EQ := En → Rg → Prop
section
variable {ks : Kt} {X : Cx} {C : Ent} {pos : Pos}
def wSs (X : Cx) (sts : List Stmt) : TS := fun D σ H => ∀ pins s, Inv X pins σ H s → wpAny (model X.prog X.w) X.A (execs sts X.env) (SP X pins D) X.xe s
def wS (X : Cx) (st : Stmt) : TS := fun D σ H => ∀ pins s, Inv X pins σ H s → wpAny (model X.prog X.w) X.A (exec st X.env) (SP X pins D) X.xe s
theorem pss_w {sts : List Stmt} : PSs X sts (wSs X sts) := ⟨fun pins s σ H Q I h => h pins s I⟩
theorem ps_w {st : Stmt} : PS X st (wS X st) := ⟨fun pins s σ H Q I h => h pins s I⟩
theorem wSs_of {sts : List Stmt} {t : TS} {D : Ends} {σ : L2.St} {H : Hp} (p : PSs X sts t) (h : t D σ H) : wSs X sts D σ H := fun pins s I => p.run pins s σ H D I h
theorem wS_of {st : Stmt} {t : TS} {D : Ends} {σ : L2.St} {H : Hp} (p : PS X st t) (h : t D σ H) : wS X st D σ H := fun pins s I => p.run pins s σ H D I h
structure KontS (ks : Kt) (C : Ent) (F : Hp) (κ : List Addr) (N : EQ) (R : RQ) (D : Ends) : Prop where
  nx : ∀ σ' F' H' κ' env' g', Ok ks C σ' F' H' κ' env' g' → Same F F' → Pre κ κ' → N env' g' → D.nx σ' H'
  rt : ∀ σ' env' v F' H' κ' r g', Ok ks C σ' F' H' κ' env' g' → Same F F' → Pre κ κ' → RvOk ks F' κ' v r → R r g' → D.rt v H'
abbrev SWt := En → Rg → EQ → RQ → Prop
def SS (ks : Kt) (X : Cx) (C : Ent) (st : Stmt) (W : SWt) : Prop := ∀ env g N R, W env g N R → ∀ σ F H κ D, Ok ks C σ F H κ env g → KontS ks C F κ N R D → wS X st D σ H
def SB (ks : Kt) (X : Cx) (C : Ent) (sts : List Stmt) (W : SWt) : Prop := ∀ env g N R, W env g N R → ∀ σ F H κ D, Ok ks C σ F H κ env g → KontS ks C F κ N R D → wSs X sts D σ H
theorem KontS.at {F F1 : Hp} {κ κ1 : List Addr} {N : EQ} {R : RQ} {D : Ends} (k : KontS ks C F κ N R D) (s : Same F F1) (p : Pre κ κ1) : KontS ks C F1 κ1 N R D :=
  ⟨fun σ' F' H' κ' env' g' ok s' p' q => k.nx σ' F' H' κ' env' g' ok (s.trans s') (p.trans p') q, fun σ' env' v F' H' κ' r g' ok s' p' rv q => k.rt σ' env' v F' H' κ' r g' ok (s.trans s') (p.trans p') rv q⟩
theorem sb_nil : SB ks X C [] (fun env g N R => N env g) := fun env g N R h σ F H κ D ok k => wSs_of pss_nil (k.nx σ F H κ env g ok (Same.refl F) (Pre.refl κ) h)
theorem sb_cons {st : Stmt} {rest : List Stmt} {W W' : SWt} (h1 : SS ks X C st W) (h2 : SB ks X C rest W') : SB ks X C (st :: rest) (fun env g N R => W env g (fun env g => W' env g N R) R) := by
  intro env g N R h σ F H κ D ok k
  refine wSs_of (pss_cons ps_w pss_w) ?_
  exact h1 env g _ R h σ F H κ _ ok ⟨fun σ' F' H' κ' env' g' ok' s p q => h2 env' g' N R q σ' F' H' κ' D ok' (k.at s p), k.rt⟩
theorem ss_pass : SS ks X C (.Pass pos) (fun env g N R => N env g) := fun env g N R h σ F H κ D ok k => wS_of ps_pass (k.nx σ F H κ env g ok (Same.refl F) (Pre.refl κ) h)
theorem ss_never {st : Stmt} : SS ks X C st (fun env g N R => False) := fun env g N R h => h.elim
theorem ss_set {i : Nat} {x : Str} {e : Expr} {pos' : Pos} {W : En → Rg → RQ → Prop} (hN : X.N.Nodup) (hi : X.N[i]? = some x) (hx : Loc X.env.scope x) (he : ∀ env, SE ks X C env e (W env)) (hs : swapsWith e (some (.Name x pos')) pos.line X.env = pure false)
    (hf : X.fn x = true ∨ X.env.scope.names.lookup x = some .local) : SS ks X C (.Assign [.Name x pos'] e pos) (fun env g N R => W env g fun r g1 => N (env.set i (some r)) g1) := by
  intro env g N R h σ F H κ D ok k
  refine wS_of (ps_set hN hi hx pe_w hs hf) ?_
  exact he env g _ h σ F H κ _ ok fun v F1 H1 κ1 r g1 ok1 s1 p1 rv q => k.nx _ F1 H1 κ1 _ g1 (ok1.setE rv) s1 p1 q
theorem ss_setC {i : Nat} {y : Str} {py spos : Pos} {elt tg iter : Expr} {ifs : List Expr} {scope : Scope} {own : List (Str × Nat)} {T : Tg} {WI : En → Rg → IQ → Prop} {Wt : En → Rg → (Bool → Rg → Prop) → Prop} {We : En → Rg → RQ → Prop}
    (hc : X.calm = true) (hN : X.N.Nodup) (hy : X.N[i]? = some y) (hyl : X.env.scope.names.lookup y = some .local) (hsw : swapsWith (.ListComp elt [⟨tg, iter, ifs, 0⟩] scope pos) (some (.Name y py)) spos.line X.env = pure true)
    (hi : ∀ env, SI ks X C env tg iter (WI env)) (bok : BlkOk X.N X.env.scope scope own) (hg : ∀ s H0 Cc cl fp, PG (X.blk s H0 scope (compEnvC scope cl Cc X.env) fp) tg (T.G X.K)) (hl : ifs.length ≤ 1)
    (ht : SC ks X C scope ifs Wt) (he : ∀ env s H0 Cc cl fp, SE ks (X.blk s H0 scope (compEnvC scope cl Cc X.env) fp) C env elt (We env)) (hT : ∀ i ∈ T.at, i ∈ own.map (·.2)) (hs : ∀ x, foldedSetIterable iter X.env x = pure x) :
    SS ks X C (.Assign [.Name y py] (.ListComp elt [⟨tg, iter, ifs, 0⟩] scope pos) spos) (fun env g N R => WI env g fun its keep g1 => WComp T (own.map (·.2)) env Wt We its keep g1 fun r g2 => N (env.set i (some r)) g2) := by
  intro env g N R h σ F H κ D ok k
  obtain ⟨wi, hp, hw⟩ := hi env
  refine wS_of (ps_setLc hc hN hy hyl hsw hp bok hg (fun s H0 Cc cl fp => pts_of hl s H0 Cc cl fp) (fun s H0 Cc cl fp => pe_wb s H0 Cc cl fp) hs) ?_
  exact lc_sem hw ht he hT h ok fun v F1 H1 κ1 r g1 ok1 s1 p1 rv q => k.nx _ F1 H1 κ1 _ g1 (ok1.setE rv) s1 p1 q
def wSetIx (ro ri r : Rv) (g : Rg) (Q : Rg → Prop) : Prop := ∃ c l i j, ro = .ref c ∧ ri = .dat (.int i) ∧ g[c]? = some (.lst l) ∧ ixN l.length i = some j ∧ Q (g.set c (.lst (l.set j r)))
theorem ss_setIx {a b e : Expr} {p2 : Pos} {W Wa Wb : En → Rg → RQ → Prop} (he : ∀ env, SE ks X C env e (W env)) (ha : ∀ env, SE ks X C env a (Wa env)) (hb : ∀ env, SE ks X C env b (Wb env))
    (hs : swapsWithSole [.Subscript a b p2] e pos.line X.env = pure false) (hw : swappedStores [.Subscript a b p2] e X.env = pure none) (h1 : (assignEach [.Subscript a b p2] X.env).map (·.2) = [assign (.Subscript a b p2) X.env])
    (hsub : ∀ v, assign (.Subscript a b p2) X.env v = (do
      let ov ← holding [v] (eval a X.env)
      let iv ← holding [v, ov] (eval b X.env)
      standAt p2
      holding [v, ov, iv] (setItem ov iv v)
      release [v, ov, iv] [])) :
    SS ks X C (.Assign [.Subscript a b p2] e pos) (fun env g N R => W env g fun r g1 => Wa env g1 fun ro g2 => Wb env g2 fun ri g3 => wSetIx ro ri r g3 fun g4 => N env g4) := by
  intro env g N R h σ F H κ D ok k
  refine wS_of (ps_asg pe_w (pg_sub pe_w pe_w set_list hsub) hs hw h1) ?_
  refine he env g _ h σ F H κ _ ok fun v F1 H1 κ1 r g1 ok1 s1 p1 rv1 q1 => ha env g1 _ q1 σ F1 H1 κ1 _ ok1 fun vo F2 H2 κ2 ro g2 ok2 s2 p2 rv2 q2 => hb env g2 _ q2 σ F2 H2 κ2 _ ok2 fun vi F3 H3 κ3 ri g3 ok3 s3 p3 rv3 q3 => ?_
  obtain ⟨c, l, i, j, rfl, rfl, e1, e2, q⟩ := q3
  obtain ⟨a', ha', rfl⟩ := rv2.mono s3 p3
  obtain ⟨a'', xs, hb', h2, h3⟩ := ok3.lstAt e1
  rw [ha'] at hb'; cases hb'
  refine ⟨a', xs, i, j, rfl, At.intI rv3, h2, by rw [h3.length]; exact e2, ?_⟩
  exact k.nx σ F3 _ κ3 env _ (ok3.putL e1 ha' (All2.set (rv1.mono (s2.trans s3) (p2.trans p3)) j h3)) ((s1.trans s2).trans s3) ((p1.trans p2).trans p3) q
/-- a dict's pairs with one more, or one changed -/
def putN (krs : List (Nat × Rv)) (k : Nat) (r : Rv) : List (Nat × Rv) := if (krs.any fun p => p.1 == k) = true then krs.map (fun p => if p.1 == k then (p.1, r) else p) else krs ++ [(k, r)]
theorem putK_of (nd : ks.w.Nodup) {F : Hp} {κ : List Addr} {k : Nat} {x : Str} {v : V} {r : Rv} (hx : ks.w[k]? = some x) (hv : RvOk ks F κ v r) {kvs : List (Key × V)} {krs : List (Nat × Rv)} (h : All2 (KvOk ks F κ) kvs krs) :
    All2 (KvOk ks F κ) (L2.putK kvs (.inr x) v) (putN krs k r) := by
  have key : ∀ {p : Key × V} {q : Nat × Rv}, KvOk ks F κ p q → (decide (p.1 = (.inr x : Key))) = (q.1 == k) := fun {p q} ⟨⟨y, hy, e⟩, _⟩ => by
    rw [e, key_eq nd hy hx]
    by_cases z : k = q.1
    · subst z; rfl
    · rw [beq_eq_false_iff_ne.mpr z, beq_eq_false_iff_ne.mpr (Ne.symm z)]
  have ha : (kvs.any fun kv => decide (kv.1 = (.inr x : Key))) = krs.any fun p => p.1 == k := by
    induction h with
    | nil => rfl
    | cons a _ ih => rw [List.any_cons, List.any_cons, key a, ih]
  unfold L2.putK putN
  rw [ha]
  split
  · rename_i hif
    clear ha hif
    induction h with
    | nil => exact .nil
    | @cons p q _ _ a _ ih =>
      rw [List.map_cons, List.map_cons]
      refine .cons ?_ ih
      have e := key a
      by_cases z : p.1 = (.inr x : Key)
      · rw [decide_eq_true z] at e
        rw [if_pos z, if_pos e.symm]
        exact ⟨a.1, hv⟩
      · rw [decide_eq_false z] at e
        rw [if_neg z, if_neg (by rw [← e]; decide)]
        exact a
  · exact h.append (.cons ⟨⟨x, hx, rfl⟩, hv⟩ .nil)
def wSetKey (ro ri r : Rv) (g : Rg) (Q : Rg → Prop) : Prop := ∃ c l k, ro = .ref c ∧ ri = .dat (.str k) ∧ g[c]? = some (.dic l) ∧ l.length < 1000000 ∧ Q (g.set c (.dic (putN l k r)))
theorem ss_setKey {a b e : Expr} {p2 : Pos} {W Wa Wb : En → Rg → RQ → Prop} (hk : KsOk ks) (hu : X.A.units + 1 < cLine) (he : ∀ env, SE ks X C env e (W env)) (ha : ∀ env, SE ks X C env a (Wa env)) (hb : ∀ env, SE ks X C env b (Wb env))
    (hs : swapsWith e (some (.Subscript a b p2)) pos.line X.env = pure false) :
    SS ks X C (.Assign [.Subscript a b p2] e pos) (fun env g N R => W env g fun r g1 => Wa env g1 fun ro g2 => Wb env g2 fun ri g3 => wSetKey ro ri r g3 fun g4 => N env g4) := by
  intro env g N R h σ F H κ D ok k
  refine wS_of (ps_dput hu pe_w pe_w pe_w hs) ?_
  refine he env g _ h σ F H κ _ ok fun v F1 H1 κ1 r g1 ok1 s1 p1 rv1 q1 => ha env g1 _ q1 σ F1 H1 κ1 _ ok1 fun vo F2 H2 κ2 ro g2 ok2 s2 p2 rv2 q2 => hb env g2 _ q2 σ F2 H2 κ2 _ ok2 fun vi F3 H3 κ3 ri g3 ok3 s3 p3 rv3 q3 => ?_
  obtain ⟨c, l, kk, rfl, rfl, e1, e2, q⟩ := q3
  obtain ⟨a', ha', rfl⟩ := rv2.mono s3 p3
  obtain ⟨a'', kvs, hb', h2, h3⟩ := ok3.dicAt e1
  rw [ha'] at hb'; cases hb'
  obtain ⟨z, rfl, hz⟩ := At.strI rv3
  refine ⟨a', _, rfl, DPut.k (k := .inr z) h2 (by rw [h3.length]; exact Nat.lt_of_lt_of_le e2 (by decide)), ?_⟩
  exact k.nx σ F3 _ κ3 env _ (ok3.putK e1 ha' (putK_of hk.nd hz (rv1.mono (s2.trans s3) (p2.trans p3)) h3)) ((s1.trans s2).trans s3) ((p1.trans p2).trans p3) q
theorem ss_expr {e : Expr} {W : En → Rg → RQ → Prop} (he : ∀ env, SE ks X C env e (W env)) (hs : swapsWith e none pos.line X.env = pure false) : SS ks X C (.Expr e pos) (fun env g N R => W env g fun _ g1 => N env g1) := by
  intro env g N R h σ F H κ D ok k
  refine wS_of (ps_expr pe_w hs) ?_
  exact he env g _ h σ F H κ _ ok fun v F1 H1 κ1 r g1 ok1 s1 p1 rv q => k.nx σ F1 H1 κ1 env g1 ok1 s1 p1 q
theorem ss_ret {e : Expr} {W : En → Rg → RQ → Prop} (he : ∀ env, SE ks X C env e (W env)) : SS ks X C (.Return (some e) pos) (fun env g N R => W env g R) := by
  intro env g N R h σ F H κ D ok k
  refine wS_of (ps_ret pe_w) ?_
  exact he env g _ h σ F H κ _ ok fun v F1 H1 κ1 r g1 ok1 s1 p1 rv q => k.rt σ env v F1 H1 κ1 r g1 ok1 s1 p1 rv q
theorem ss_if {c : Expr} {a b : List Stmt} {Wc : En → Rg → (Bool → Rg → Prop) → Prop} {Wa Wb : SWt} (hc : ∀ env, ST ks X C env c (Wc env)) (ha : SB ks X C a Wa) (hb : SB ks X C b Wb) :
    SS ks X C (.If c a b pos) (fun env g N R => Wc env g fun k g1 => (k = true → Wa env g1 N R) ∧ (k = false → Wb env g1 N R)) := by
  intro env g N R h σ F H κ D ok k
  refine wS_of (ps_if pt_w pss_w pss_w) ?_
  refine hc env g _ h σ F H κ _ ok fun t F1 H1 κ1 g1 ok1 s1 p1 q => ?_
  cases t with
  | true => rw [if_pos rfl]; exact ha env g1 N R (q.1 rfl) σ F1 H1 κ1 D ok1 (k.at s1 p1)
  | false => rw [if_neg Bool.false_ne_true]; exact hb env g1 N R (q.2 rfl) σ F1 H1 κ1 D ok1 (k.at s1 p1)
def WWhile (Wc : En → Rg → (Bool → Rg → Prop) → Prop) (Wb : SWt) : SWt := fun env g N R => ∃ Inv : Nat → En → Rg → Prop, (∃ m, Inv m env g) ∧ ∀ m env g, Inv m env g →
  Wc env g fun k g1 => (k = true → Wb env g1 (fun env' g' => ∃ m', m' < m ∧ Inv m' env' g') R) ∧ (k = false → N env g1)
theorem ss_while {c : Expr} {body : List Stmt} {Wc : En → Rg → (Bool → Rg → Prop) → Prop} {Wb : SWt} (hp : PassesOwn (model X.prog X.w) X.A X.env X.xe) (hc : ∀ env, ST ks X C env c (Wc env)) (hb : SB ks X C body Wb) : SS ks X C (.While c body [] pos) (WWhile Wc Wb) := by
  intro env g N R h σ F H κ D ok k
  obtain ⟨Inv, ⟨m0, i0⟩, istep⟩ := h
  refine wS_of (ps_while hp pt_w pss_w) ?_
  refine ⟨fun m σ H => ∃ F' κ' env g, Ok ks C σ F' H κ' env g ∧ Same F F' ∧ Pre κ κ' ∧ Inv m env g, ⟨m0, F, κ, env, g, ok, Same.refl F, Pre.refl κ, i0⟩, ?_⟩
  rintro m σ' H' ⟨F', κ', env', g', ok', s', p', inv⟩
  refine hc env' g' _ (istep m env' g' inv) σ' F' H' κ' _ ok' fun t F1 H1 κ1 g1 ok1 s1 p1 q => ?_
  cases t with
  | true =>
    rw [if_pos rfl]
    refine ⟨fun σ2 H2 => ∃ m', m' < m ∧ ∃ F' κ' env g, Ok ks C σ2 F' H2 κ' env g ∧ Same F F' ∧ Pre κ κ' ∧ Inv m' env g, fun σ2 H2 n => n, ?_⟩
    refine hb env' g1 _ R (q.1 rfl) σ' F1 H1 κ1 _ ok1 ⟨fun σ2 F2 H2 κ2 env2 g2 ok2 s2 p2 ⟨m', hm, i2⟩ => ⟨m', hm, F2, κ2, env2, g2, ok2, (s'.trans s1).trans s2, (p'.trans p1).trans p2, i2⟩, ?_⟩
    exact (k.at (s'.trans s1) (p'.trans p1)).rt
  | false =>
    rw [if_neg Bool.false_ne_true]
    exact k.nx σ' F1 H1 κ1 env' g1 ok1 (s'.trans s1) (p'.trans p1) (q.2 rfl)
def WFor (WI : En → Rg → IQ → Prop) (T : Tg) (Wb : SWt) : SWt := fun env g N R => WI env g fun its keep g1 => ∃ Inv : Nat → En → Rg → Prop, Inv 0 env g1 ∧ (∀ k env g, Inv k env g → keep g) ∧
  (∀ k r env g, its[k]? = some r → Inv k env g → ∃ env', T.put env (nrm g r) = some env' ∧ Wb env' g (Inv (k + 1)) R) ∧ ∀ env g, Inv its.length env g → N env g
theorem ss_for {tg iter : Expr} {body : List Stmt} {T : Tg} {WI : En → Rg → IQ → Prop} {Wb : SWt} (hp : PassesOwn (model X.prog X.w) X.A X.env X.xe) (hcm : X.calm = true) (hi : ∀ env, SI ks X C env tg iter (WI env)) (hg : PG X tg (T.G X.K)) (hb : SB ks X C body Wb)
    (hs : ∀ x, foldedSetIterable iter X.env x = pure x) : SS ks X C (.For tg iter body [] pos) (WFor WI T Wb) := by
  intro env g N R h σ F H κ D ok k
  obtain ⟨wi, hpi, hw⟩ := hi env
  refine wS_of (ps_for hp hcm hpi hg pss_w hs) ?_
  refine hw g _ h σ F H κ _ ok fun J F1 H1 κ1 its keep g1 ok1 s1 p1 jok kp0 q => ?_
  obtain ⟨Inv, i0, ik, istep, iend⟩ := q
  refine ⟨fun i m σ H => m = its.length - i ∧ i ≤ its.length ∧ ∃ F' κ' env g, Ok ks C σ F' H κ' env g ∧ Same F1 F' ∧ Pre κ1 κ' ∧ Inv i env g, ⟨its.length, by simp, Nat.zero_le _, F1, κ1, env, g1, ok1, Same.refl F1, Pre.refl κ1, i0⟩, ?_⟩
  rintro i m σ' H' ⟨rfl, hil, F', κ', env', g', ok', s', p', inv⟩
  have kp := ik i env' g' inv
  by_cases hlt : i < its.length
  · refine .inr ⟨jok.go ok' s' p' kp hlt, fun σ2 H2 => ∃ F' κ' env g, Ok ks C σ2 F' H2 κ' env g ∧ Same F1 F' ∧ Pre κ1 κ' ∧ Inv (i + 1) env g, fun σ2 H2 n => ⟨its.length - (i + 1), by omega, rfl, hlt, n⟩, fun x H2 hy => ?_⟩
    obtain ⟨F2, r, ok2, s2, hr, hv⟩ := jok.yld ok' s' p' kp hlt hy
    obtain ⟨env2, ep, q⟩ := istep i r env' g' hr inv
    refine Tg.G_ok ok2 (hv.nrm ok2) ep fun σ3 ok3 _ => ?_
    refine hb env2 g' _ R q σ3 F2 H2 κ' _ ok3 ⟨fun σ4 F4 H4 κ4 env4 g4 ok4 s4 p4 i4 => ⟨F4, κ4, env4, g4, ok4, (s'.trans s2).trans s4, p'.trans p4, i4⟩, ?_⟩
    exact (k.at ((s1.trans s').trans s2) (p1.trans p')).rt
  · have e : i = its.length := by omega
    subst e
    exact .inl ⟨jok.stop ok' s' p' kp (Nat.le_refl _), k.nx σ' F' H' κ' env' g' ok' (s1.trans s') (p1.trans p') (iend env' g' inv)⟩

/-! ### a def by its body -/
/-- what stands in a cell refers to the first m alone -/
def Rv.lt (m : Nat) : Rv → Prop
  | .dat _ => True
  | .ref c => c < m
def Cell.lt (m : Nat) : Cell → Prop
  | .lst rs => ∀ r ∈ rs, r.lt m
  | .dic krs => ∀ p ∈ krs, p.2.lt m
  | .fz _ => True
  | .dead => True
/-- what a def's end gives its caller, whose own objects are g0: his own objects come first; the answer is data, or one of the first m -/
inductive Fin (g0 : Rg) (P : RQ) : RQ
  | sub {r : Rv} {g : Rg} (m : Nat) (hm : g0.length ≤ m) (hl : m ≤ g.length) (hc : ∀ (c : Nat) (cell : Cell), c < m → g[c]? = some cell → g0[c]? = some cell ∨ cell.lt m) (hr : r.lt m) (h : P r (g.take m)) : Fin g0 P r g
  | frz {r : Rv} {g : Rg} (d : D) (hd : RD g g0.length r d) (hl : g0.length ≤ g.length) (hc : ∀ (c : Nat) (cell : Cell), c < g0.length → g[c]? = some cell → g0[c]? = some cell ∨ cell.lt g0.length) (h : P (.dat d) (g.take g0.length)) : Fin g0 P r g
theorem RvOk.cut {F : Hp} {κ : List Addr} {m : Nat} {v : V} : ∀ {r : Rv}, RvOk ks F κ v r → r.lt m → RvOk ks F (κ.take m) v r
  | .dat _, h, _ => h
  | .ref c, ⟨a, e, q⟩, hl => ⟨a, by rw [List.getElem?_take_of_lt hl]; exact e, q⟩
theorem All2.impR {α β : Type} {R S : α → β → Prop} : ∀ {l : List α} {m : List β}, All2 R l m → (∀ a b, b ∈ m → R a b → S a b) → All2 S l m
  | _, _, .nil, _ => .nil
  | _, _, .cons a t, f => .cons (f _ _ List.mem_cons_self a) (All2.impR t fun a b hb => f a b (List.mem_cons_of_mem _ hb))
theorem CellOk.cut {F H : Hp} {κ : List Addr} {W : Addr → Prop} {m : Nat} {a : Addr} {cell : Cell} (h : CellOk ks F H κ W a cell) (hl : cell.lt m) : CellOk ks F H (κ.take m) W a cell := by
  cases cell with
  | lst rs => exact ⟨h.1, h.2.1, h.2.2.imp fun xs q => ⟨q.1, q.2.impR fun _ r hr z => z.cut (hl r hr)⟩⟩
  | dic rs => exact ⟨h.1, h.2.1, h.2.2.imp fun xs q => ⟨q.1, q.2.impR fun _ r hr z => ⟨z.1, z.2.cut (hl r hr)⟩⟩⟩
  | fz d => exact h
  | dead => exact True.intro
theorem CellOk.ltLen {F H : Hp} {κ : List Addr} {W : Addr → Prop} {a : Addr} {cell : Cell} (h : CellOk ks F H κ W a cell) : cell.lt κ.length := by
  have one : ∀ {v : V} {r : Rv}, RvOk ks F κ v r → r.lt κ.length := fun {v r} q => by
    cases r with
    | dat d => exact True.intro
    | ref c => obtain ⟨a, e, _⟩ := q; exact (List.getElem?_eq_some_iff.mp e).1
  cases cell with
  | lst rs =>
    obtain ⟨_, _, xs, _, h⟩ := h
    intro r hr
    obtain ⟨i, hi, e⟩ := List.mem_iff_getElem.mp hr
    obtain ⟨v, _, q⟩ := h.get (i := i) (b := r) (by rw [List.getElem?_eq_getElem hi, e])
    exact one q
  | dic rs =>
    obtain ⟨_, _, xs, _, h⟩ := h
    intro r hr
    obtain ⟨i, hi, e⟩ := List.mem_iff_getElem.mp hr
    obtain ⟨v, _, q⟩ := h.get (i := i) (b := r) (by rw [List.getElem?_eq_getElem hi, e])
    exact one q.2
  | fz d => exact True.intro
  | dead => exact True.intro
theorem GOk.take {F H : Hp} {κ : List Addr} {W : Addr → Prop} {g : Rg} (h : GOk ks F H κ W g) (m : Nat) (hc : ∀ (c : Nat) (cell : Cell), c < m → g[c]? = some cell → cell.lt m) : GOk ks F H (κ.take m) W (g.take m) := by
  refine ⟨by rw [List.length_take, List.length_take, h.len], fun c cell a e1 e2 => ?_, h.nd.sublist (List.take_sublist _ _), fun a ha => h.live a (List.mem_of_mem_take ha), fun a ha => h.wf a (List.mem_of_mem_take ha)⟩
  have hlt : c < m := by
    have := (List.getElem?_eq_some_iff.mp e1).1
    rw [List.length_take] at this; omega
  rw [List.getElem?_take_of_lt hlt] at e1 e2
  exact (h.cells c cell a e1 e2).cut (hc c cell hlt e1)
theorem Pre.take {κ κ' : List Addr} {m : Nat} (h : Pre κ κ') (hm : κ.length ≤ m) : Pre κ (κ'.take m) := fun c a e => by
  have := (List.getElem?_eq_some_iff.mp e).1
  rw [List.getElem?_take_of_lt (by omega)]; exact h c a e
/-- the caller's wish is met where the data's is -/
theorem Fin.ok {F0 H0 : Hp} {κ0 : List Addr} {g0 : Rg} {P : RQ} {Qv : VK} (gk0 : GOk ks F0 H0 κ0 (fun _ => True) g0)
    (hP : ∀ r g', P r g' → ∀ v F' H' κ', Ch ⟨F0, H0, fun b => b ∈ κ0⟩ F' H' → Pre κ0 κ' → GOk ks F' H' κ' (fun a => a ∈ κ0 ∨ H0 a = none) g' → RvOk ks F' κ' v r → Qv v H')
    {σ : L2.St} {env : En} {F H : Hp} {κ : List Addr} {g : Rg} {r : Rv} {v : V} (f : Fin g0 P r g) (ok : Ok ks ⟨F0, H0, fun b => b ∈ κ0⟩ σ F H κ env g) (pre : Pre κ0 κ) (rv : RvOk ks F κ v r) : Qv v H := by
  have old : ∀ {m : Nat} {c : Nat} {cell : Cell}, g0.length ≤ m → g0[c]? = some cell ∨ cell.lt m → cell.lt m := fun {m c cell} hm z => by
    rcases z with z | z
    · have hl : c < κ0.length := by rw [gk0.len]; exact (List.getElem?_eq_some_iff.mp z).1
      have := (gk0.cells c cell _ z (List.getElem?_eq_getElem hl)).ltLen
      rw [gk0.len] at this
      cases cell with
      | lst rs => exact fun r hr => by have := this r hr; cases r with | dat d => exact True.intro | ref c => exact Nat.lt_of_lt_of_le this hm
      | dic rs => exact fun r hr => by have := this r hr; obtain ⟨k, r⟩ := r; cases r with | dat d => exact True.intro | ref c => exact Nat.lt_of_lt_of_le this hm
      | fz d => exact True.intro
      | dead => exact True.intro
    · exact z
  cases f with
  | sub m hm hl hc hr h =>
    exact hP r _ h v F H (κ.take m) ok.ch (pre.take (by rw [gk0.len]; exact hm)) (ok.g.take m fun c cell hcm e => old hm (hc c cell hcm e)) (rv.cut hr)
  | frz d hd hl hc h =>
    obtain ⟨F', s, ok', a⟩ := hd.ok hl ok rv
    have hm : g0.length ≤ g0.length := Nat.le_refl _
    have e1 : (g.take g0.length ++ List.replicate (g.length - g0.length) Cell.dead).take g0.length = g.take g0.length := by
      rw [List.take_append_of_le_length (by rw [List.length_take]; omega), List.take_take, Nat.min_self]
    have gk := ok'.g.take g0.length fun c cell hcm e => by
      rw [List.getElem?_append_left (by rw [List.length_take]; omega), List.getElem?_take_of_lt hcm] at e
      exact old hm (hc c cell hcm e)
    rw [e1] at gk
    exact hP _ _ h v F' H (κ.take g0.length) ok'.ch (pre.take (by rw [gk0.len]; exact hm)) gk (rv_d a)
theorem start_env {N : List Str} {F : Hp} {κ : List Addr} {vs : List V} {rs : List Rv} (h : All2 (RvOk ks F κ) vs rs) (i : Nat) (r : Rv) (e : (rs.map some ++ List.replicate (N.length - rs.length) none)[i]? = some (some r)) :
    ∃ v, (L2.start N vs)[i]? = some (some v) ∧ RvOk ks F κ v r := by
  unfold L2.start
  by_cases hi : i < rs.length
  · rw [List.getElem?_append_left (by simpa using hi), List.getElem?_map] at e
    rw [List.getElem?_append_left (by rw [List.length_map, h.length]; exact hi), List.getElem?_map]
    rw [List.getElem?_eq_getElem hi] at e
    cases e
    obtain ⟨v, h1, h2⟩ := h.get (List.getElem?_eq_getElem hi)
    exact ⟨v, by rw [h1]; rfl, h2⟩
  · rw [List.getElem?_append_right (by simp; omega), List.getElem?_replicate] at e
    split at e <;> cases e
/-- THE RULE: a def keeps its promise if its body's data-level reading does -/
theorem fn_ok {P : Program} {w : World} {K : PySem.W.Frag} {mg : Str → Option Value} {base : Heap} {x qual : Str} {st : Stmt} {f : Addr} {fd : FuncData} {N ps : List Str} {k : Nat} {S : SpD} {W : SWt} (Fn : Fun K x qual st f fd) (Sc : FnScope N ps (defScope st))
    (hlen : ∀ rs g Q, S rs g Q → rs.length = ps.length) (hN : ps.length ≤ N.length)
    (body : ∀ (C : Ent) (cdv : Value) (A : Around) (outer : List Env) (s : Shared) (H : Hp) (E : XK), Room k (A.deeper (envOfC qual (defScope st) s.heap.objs.size f cdv)) → SB ks (cxOf CX0 P w K mg base N qual (defScope st) f cdv A outer s H E).nox C (defBody st) W)
    (hS : ∀ rs g Q, S rs g Q → W (rs.map some ++ List.replicate (N.length - rs.length) none) g (fun _ g' => Fin g Q (.dat .non) g') (Fin g Q)) :
    FnOk P w K mg base CX0 (k + 1) f fd ps (PSpD ks S) := by
  refine Fn.ok Sc (fun vs H Q E h => ?_) (fun cdv A outer s H vs Q E hr h => ?_)
  · obtain ⟨F, κ, g, rs, _, _, rv, h⟩ := h
    rw [rv.length]; exact hlen _ _ _ h
  · obtain ⟨F, κ, g, rs, sF, gk, rv, h⟩ := h
    refine ⟨_, pss_w, ?_⟩
    have hl := hlen _ _ _ h
    have ok : Ok ks ⟨F, H, fun b => b ∈ κ⟩ (L2.start N vs) F H κ (rs.map some ++ List.replicate (N.length - rs.length) none) g := by
      refine ⟨gk.monoW fun a ha _ _ => .inl ha, ⟨Same.refl F, sF, fun b o e _ => e, fun b e _ _ => e⟩, ?_, start_env rv⟩
      unfold L2.start
      rw [List.length_append, List.length_append, List.length_map, List.length_map, List.length_replicate, List.length_replicate, rv.length]
    have hP := fun r g' (q : (fun r g' => ∀ v F' H' κ', Ch ⟨F, H, fun b => b ∈ κ⟩ F' H' → Pre κ κ' → GOk ks F' H' κ' (fun a => a ∈ κ ∨ H a = none) g' → RvOk ks F' κ' v r → Q v H') r g') => q
    refine body ⟨F, H, fun b => b ∈ κ⟩ cdv A outer s H E hr _ g _ _ (hS rs g _ h) _ F H κ _ ok ⟨fun σ' F' H' κ' env' g' ok' s' p' q => ?_, fun σ' env' v F' H' κ' r g' ok' s' p' rv' q => ?_⟩
    · exact Fin.ok gk hP q ok' p' rv_non
    · exact Fin.ok gk hP q ok' p' rv'
end
end DW

/-! ## ZP.lean -/
set_option Elab.async false
set_option linter.all false
set_option maxRecDepth 100000
set_option maxHeartbeats 2000000
set_option autoImplicit false
/-! ZP: list(zip(xs, ys)). -/
namespace ZL
open PySem PySem.W PySem.Spec PyProof.Rows L2

section
variable {prog : Program} {w : World} {A : Around} {E : Value → Shared → Prop} {s : Shared} {zq tI tO j1 j2 tT lS : Addr} {fp1 fp2 : List Addr} {n1 n2 i : Nat} {P1 P2 : Nat → Value → Prop} {St1 St2 : Nat → Heap → Prop}
theorem held_item {f : Bool} {oT : Obj} {Q : Value → Shared → Prop} (Z : ZipSep2 zq tI tO j1 j2 fp1 fp2) (D1 : Draws prog w A j1 fp1 n1 P1 St1) (D2 : Draws prog w A j2 fp2 n2 P2 St2)
    (hz : IsZipHeld s.heap zq tI tO tT f) (hT : s.heap.get? tT = some oT) (hI : IsTupOf2 s.heap tI (.ref j1) (.ref j2)) (st1 : St1 i s.heap) (st2 : St2 i s.heap) (l1 : i < n1) (l2 : i < n2)
    (hQ : ∀ x1 x2 h' tk, P1 i x1 → P2 i x2 → IsZipHeld h' zq tI tO tT true → St1 (i + 1) h' → St2 (i + 1) h' → IsTupOf2 h' s.heap.objs.size x1 x2 →
      (∀ c o, c ≠ zq → c ≠ j1 → c ≠ j2 → s.heap.get? c = some o → h'.get? c = some o) → Q (.ref s.heap.objs.size) { s with heap := h', toks := tk }) :
    wpAny (model prog w) A (Builtin.«zip.__next__» ⟨[.ref zq], []⟩) (fun fin s' => ∃ v, fin = .done (.ret v) ∧ Q v s') E s := by
  obtain ⟨hp, ge, dr, tk0, os⟩ := s
  show wpAny _ _ (field (.ref zq) 2 >>= _) _ _ _; refine wpAny_bind (wpAny_field hz rfl (x := .bool false) rfl ?_)
  show wpAny _ _ (field (.ref zq) 3 >>= _) _ _ _; refine wpAny_bind (wpAny_field hz rfl (x := .ref tI) rfl ?_)
  refine wpAny_bind (wpAny_seqItems hI rfl ?_); show wpAny _ _ (Builtin.SmallTypes.ownedTupleIsFree (.ref zq) >>= _) _ _ _
  refine wpAny_bind (wpAny_tupleHeld_zip hz hT fun u1 hu1 hs1 => ?_); replace hs1 : Heap.SameBut zq hp u1 := hs1
  simp only [Bool.false_eq_true, if_false]; refine wpAny_bind ?_; rw [← Array.forIn_toList]; simp only [List.forIn_cons, List.forIn_nil]
  refine wpAny_bind (wpAny_bind (wpAny_holding ?_)); show wpAny _ _ (Builtin.SmallTypes.nextOf (.ref j1) >>= _) _ _ ⟨u1, ge, dr, tk0, os⟩
  refine wpAny_bind (D1.item i _ _ _ l1 (D1.over st1 hs1 Z.zf1) fun x1 p1 tk1 hx1 sn1 hp1 => wpAny_pure ?_)
  replace hp1 : Heap.SameBut j1 u1 p1 := hp1; refine wpAny_pure ?_
  refine wpAny_bind (wpAny_bind (wpAny_holding ?_)); show wpAny _ _ (Builtin.SmallTypes.nextOf (.ref j2) >>= _) _ _ ⟨p1, ge, dr, tk1, os⟩
  refine wpAny_bind (D2.item i _ _ _ l2 (D2.over (D2.over st2 hs1 Z.zf2) hp1 Z.sep1_2) fun x2 p2 tk2 hx2 sn2 hp2 => wpAny_pure ?_)
  replace hp2 : Heap.SameBut j2 p1 p2 := hp2; refine wpAny_pure (wpAny_pure ?_)
  show wpAny _ _ (newTuple [x1, x2] >>= _) _ _ ⟨p2, ge, dr, tk2, os⟩
  refine wpAny_bind (wpAny_newTuple ?_); refine wpAny_pure ⟨_, rfl, ?_⟩
  have hsz : p2.objs.size = hp.objs.size := by rw [hp2.1, hp1.1, hs1.1]
  have hz3 : IsZipHeld p2 zq tI tO tT true := hp2.extBut _ _ Z.zi2 (hp1.extBut _ _ Z.zi1 hu1)
  have hk : ∀ c o, c ≠ zq → c ≠ j1 → c ≠ j2 → hp.get? c = some o → p2.get? c = some o := fun c o c1 c2 c3 e => hp2.extBut _ _ c3 (hp1.extBut _ _ c2 (hs1.extBut _ _ c1 e))
  have sn1' : St1 (i + 1) p2 := D1.over sn1 hp2 Z.sep2_1
  have hpn : IsTupOf2 (p2.push { cls := .type "tuple", data := .seq #[x1, x2] }) p2.objs.size x1 x2 := Heap.get?_push_size _ rfl
  show Q (.ref p2.objs.size) _; rw [hsz] at hpn ⊢
  exact hQ x1 x2 _ tk2 hx1 hx2 (Heap.get?_push_of_some _ hz3) (D1.frame _ _ _ sn1' fun b _ o e => Heap.get?_push_of_some _ e) (D2.frame _ _ _ sn2 fun b _ o e => Heap.get?_push_of_some _ e) hpn fun c o c1 c2 c3 e => Heap.get?_push_of_some _ (hk c o c1 c2 c3 e)

theorem held_end {f : Bool} {oT : Obj} {Q : Fin → Shared → Prop} (Z : ZipSep2 zq tI tO j1 j2 fp1 fp2) (D1 : Draws prog w A j1 fp1 n1 P1 St1) (D2 : Draws prog w A j2 fp2 n2 P2 St2)
    (hz : IsZipHeld s.heap zq tI tO tT f) (hT : s.heap.get? tT = some oT) (hI : IsTupOf2 s.heap tI (.ref j1) (.ref j2)) (st1 : St1 i s.heap) (st2 : St2 i s.heap) (hle1 : i ≤ n1) (hle2 : i ≤ n2) (hend : i = n1 ∨ i = n2)
    (hE : ∀ h' tk e, (∀ c o, c ≠ zq → c ≠ j1 → c ≠ j2 → s.heap.get? c = some o → h'.get? c = some o) → (∃ o, h'.get? e = some o ∧ o.cls = .type "StopIteration") → E (.ref e) { s with heap := h', toks := tk }) :
    wpAny (model prog w) A (Builtin.«zip.__next__» ⟨[.ref zq], []⟩) Q E s := by
  obtain ⟨hp, ge, dr, tk0, os⟩ := s
  show wpAny _ _ (field (.ref zq) 2 >>= _) _ _ _; refine wpAny_bind (wpAny_field hz rfl (x := .bool false) rfl ?_)
  show wpAny _ _ (field (.ref zq) 3 >>= _) _ _ _; refine wpAny_bind (wpAny_field hz rfl (x := .ref tI) rfl ?_)
  refine wpAny_bind (wpAny_seqItems hI rfl ?_); show wpAny _ _ (Builtin.SmallTypes.ownedTupleIsFree (.ref zq) >>= _) _ _ _
  refine wpAny_bind (wpAny_tupleHeld_zip hz hT fun u1 hu1 hs1 => ?_); replace hs1 : Heap.SameBut zq hp u1 := hs1
  simp only [Bool.false_eq_true, if_false]; refine wpAny_bind ?_; rw [← Array.forIn_toList]; simp only [List.forIn_cons, List.forIn_nil]
  refine wpAny_bind (wpAny_bind (wpAny_holding ?_)); show wpAny _ _ (Builtin.SmallTypes.nextOf (.ref j1) >>= _) _ _ ⟨u1, ge, dr, tk0, os⟩
  by_cases l1 : i < n1
  · refine wpAny_bind (D1.item i _ _ _ l1 (D1.over st1 hs1 Z.zf1) fun x1 p1 tk1 hx1 sn1 hp1 => wpAny_pure ?_)
    replace hp1 : Heap.SameBut j1 u1 p1 := hp1; refine wpAny_pure ?_
    refine wpAny_bind (wpAny_bind (wpAny_holding ?_)); show wpAny _ _ (Builtin.SmallTypes.nextOf (.ref j2) >>= _) _ _ ⟨p1, ge, dr, tk1, os⟩
    have hi2 : i = n2 := by omega
    refine wpAny_bind (D2.done ⟨p1, ge, dr, tk1, os⟩ _ _ (by rw [← hi2]; exact D2.over (D2.over st2 hs1 Z.zf2) hp1 Z.sep1_2) fun q e hq he => ?_)
    replace hq : Heap.ExtBut j2 p1 q := hq
    exact hE q tk1 e (fun c o c1 c2 c3 x => hq _ _ c3 (hp1.extBut _ _ c2 (hs1.extBut _ _ c1 x))) he
  · have hi1 : i = n1 := by omega
    refine wpAny_bind (D1.done ⟨u1, ge, dr, tk0, os⟩ _ _ (by rw [← hi1]; exact D1.over st1 hs1 Z.zf1) fun q e hq he => ?_)
    replace hq : Heap.ExtBut j1 u1 q := hq
    exact hE q tk0 e (fun c o c1 c2 _ x => hq _ _ c2 (hs1.extBut _ _ c1 x)) he

/-- a zip at its turn i, whatever became of the tuples it gave out; lS is another cell -/
def ZS (zq tI tO j1 j2 lS : Addr) (St1 St2 : Nat → Heap → Prop) (i : Nat) (h : Heap) : Prop :=
  ((IsZip h zq tI tO .none ∧ ∃ a b, IsTupOf2 h tO a b) ∨ ∃ T f oT, IsZipHeld h zq tI tO T f ∧ h.get? T = some oT ∧ T ≠ zq ∧ T ≠ j1 ∧ T ≠ j2 ∧ T ≠ lS) ∧ IsTupOf2 h tI (.ref j1) (.ref j2) ∧ St1 i h ∧ St2 i h
theorem zs_lt {h : Heap} (z : ZS zq tI tO j1 j2 lS St1 St2 i h) : zq < h.objs.size := by
  rcases z.1 with ⟨q, _⟩ | ⟨T, f, oT, q, _⟩ <;> exact Heap.lt_size q
theorem zs_ty {z : ZS zq tI tO j1 j2 lS St1 St2 i s.heap} : s.TypeIs (.ref zq) "zip" := by
  rcases z.1 with ⟨q, _⟩ | ⟨T, f, oT, q, _⟩ <;> exact ⟨_, q, rfl⟩
theorem zs_item {Q : Option Value → Shared → Prop} (Z : ZipSep2 zq tI tO j1 j2 fp1 fp2) (D1 : Draws prog w A.in1 j1 fp1 n1 P1 St1) (D2 : Draws prog w A.in1 j2 fp2 n2 P2 St2)
    (z : ZS zq tI tO j1 j2 lS St1 St2 i s.heap) (hlS : lS < s.heap.objs.size) (l1 : i < n1) (l2 : i < n2)
    (hQ : ∀ x1 x2 h' tk, P1 i x1 → P2 i x2 → ZS zq tI tO j1 j2 lS St1 St2 (i + 1) h' → IsTupOf2 h' s.heap.objs.size x1 x2 →
      (∀ c o, c ∉ [zq, tI, tO, j1, j2] → s.heap.get? c = some o → h'.get? c = some o) → Q (some (.ref s.heap.objs.size)) { s with heap := h', toks := tk }) :
    wpAny (model prog w) A (pyNext (.ref zq)) Q E s := by
  obtain ⟨hz, hI, st1, st2⟩ := id z
  have hzl := zs_lt z
  obtain ⟨o1, e1⟩ := D1.live _ _ st1
  obtain ⟨o2, e2⟩ := D2.live _ _ st2
  have nz := Nat.ne_of_gt hzl
  have n1' := Nat.ne_of_gt (Heap.lt_size e1)
  have n2' := Nat.ne_of_gt (Heap.lt_size e2)
  rcases hz with ⟨hz, a, b, hO⟩ | ⟨T, f, oT, hz, hT, t1, t2, t3, t4⟩
  · refine wpAny_pyNext_zipD2_item Z D1 D2 hz hI hO st1 st2 l1 l2 fun x1 x2 h' tk y1 y2 b1 b2 d1 d2 b5 b6 b7 => ?_
    refine hQ x1 x2 h' tk y1 y2 ⟨.inr ⟨_, false, _, b1, b5, nz, n1', n2', Nat.ne_of_gt hlS⟩, b7 _ _ Z.TIz Z.TITO Z.TIi1 Z.TIi2 hI, d1, d2⟩ b5 fun c o hc e => ?_
    simp only [List.mem_cons, List.not_mem_nil, or_false, not_or] at hc
    exact b7 c o hc.1 hc.2.2.1 hc.2.2.2.1 hc.2.2.2.2 e
  · have hTy : s.TypeIs (.ref zq) "zip" := ⟨_, hz, rfl⟩
    unfold pyNext
    refine wpAny_bind (wpAny_attempt (wpAny_callSpecial?_slot (name := Str.ofString "__next__") hTy F.slot_zip_next (wpAny_call_entry F.slot_zip_next hTy F.entry_zip_next (held_item Z D1 D2 hz hT hI st1 st2 l1 l2 fun x1 x2 h' tk y1 y2 b1 d1 d2 b5 b7 => ?_) (F.args_zip_next_1 _))))
    refine wpAny_pure (hQ x1 x2 h' tk y1 y2 ⟨.inr ⟨T, true, oT, b1, b7 _ _ t1 t2 t3 hT, t1, t2, t3, t4⟩, b7 _ _ Z.TIz Z.TIi1 Z.TIi2 hI, d1, d2⟩ b5 fun c o hc e => ?_)
    simp only [List.mem_cons, List.not_mem_nil, or_false, not_or] at hc
    exact b7 c o hc.1 hc.2.2.2.1 hc.2.2.2.2 e
theorem zs_end {Q : Option Value → Shared → Prop} (Z : ZipSep2 zq tI tO j1 j2 fp1 fp2) (D1 : Draws prog w A.in1 j1 fp1 n1 P1 St1) (D2 : Draws prog w A.in1 j2 fp2 n2 P2 St2)
    (z : ZS zq tI tO j1 j2 lS St1 St2 i s.heap) (hle1 : i ≤ n1) (hle2 : i ≤ n2) (hend : i = n1 ∨ i = n2)
    (hQ : ∀ h' tk, (∀ c o, c ∉ [zq, tI, tO, j1, j2] → s.heap.get? c = some o → h'.get? c = some o) → Q none { s with heap := h', toks := tk }) :
    wpAny (model prog w) A (pyNext (.ref zq)) Q E s := by
  obtain ⟨hz, hI, st1, st2⟩ := id z
  rcases hz with ⟨hz, a, b, hO⟩ | ⟨T, f, oT, hz, hT, t1, t2, t3, t4⟩
  · refine wpAny_pyNext_zipD2_end Z D1 D2 hz hI hO st1 st2 hle1 hle2 hend fun h' tk b7 => hQ h' tk fun c o hc e => ?_
    simp only [List.mem_cons, List.not_mem_nil, or_false, not_or] at hc
    exact b7 c o hc.1 hc.2.2.1 hc.2.2.2.1 hc.2.2.2.2 e
  · have hTy : s.TypeIs (.ref zq) "zip" := ⟨_, hz, rfl⟩
    unfold pyNext
    refine wpAny_bind (wpAny_attempt (wpAny_callSpecial?_slot (name := Str.ofString "__next__") hTy F.slot_zip_next (wpAny_call_entry F.slot_zip_next hTy F.entry_zip_next (held_end Z D1 D2 hz hT hI st1 st2 hle1 hle2 hend fun h' tk e b7 he => ?_) (F.args_zip_next_1 _))))
    obtain ⟨o, ho, hc⟩ := he
    refine wpAny_bind (wpAny_isInstance (T := "StopIteration") (b := true) ⟨o, ho, hc⟩ isSubtype_stop ?_)
    refine wpAny_pure (hQ h' tk fun c o hc e => ?_)
    simp only [List.mem_cons, List.not_mem_nil, or_false, not_or] at hc
    exact b7 c o hc.1 hc.2.2.2.1 hc.2.2.2.2 e
end

/-- the pairs laid one by one behind acc, in the list at l -/
def zipW (l : Addr) (Q : Hp → Prop) : List (V × V) → List V → Hp → Prop
  | [], _, H => Q H
  | (x, y) :: r, acc, H => ∀ T, H T = none → T ≠ l → zipW l Q r (acc ++ [.ref T]) (upd (upd H T (.tup [x, y])) l (.lst (acc ++ [.ref T])))
theorem zip_drop {xs ys : List V} {i : Nat} {x y : V} (hx : xs[i]? = some x) (hy : ys[i]? = some y) : (xs.zip ys).drop i = (x, y) :: (xs.zip ys).drop (i + 1) := by
  have h : (xs.zip ys)[i]? = some (x, y) := by rw [List.getElem?_zip_eq_some]; exact ⟨hx, hy⟩
  obtain ⟨hl, he⟩ := List.getElem?_eq_some_iff.mp h
  rw [List.drop_eq_getElem_cons hl, he]
section
variable {X : Cx} {pins : List (Addr × Obj)} {σ : L2.St} {A : Around} {zq tI tO j1 j2 lS : Addr} {fp1 fp2 : List Addr} {n : Nat} {P1 P2 : Nat → Value → Prop} {St1 St2 : Nat → Heap → Prop} {xs ys : List V} {R : Result → Shared → Prop} {Qk : Hp → Prop} {res : Value}
theorem zl_loop (Z : ZipSep2 zq tI tO j1 j2 fp1 fp2) (D1 : Draws X.prog X.w A.in1.in1 j1 fp1 n P1 St1) (D2 : Draws X.prog X.w A.in1.in1 j2 fp2 n P2 St2)
    (hP1 : ∀ i v, P1 i v → ∃ x, xs[i]? = some x ∧ RelV x v) (hP2 : ∀ i v, P2 i v → ∃ x, ys[i]? = some x ∧ RelV x v) (ex : xs.length = n) (ey : ys.length = n) (hn : n ≤ 1000000)
    (f1 : lS ∉ fp1) (f2 : lS ∉ fp2) (f3 : lS ≠ zq) (f4 : lS ≠ tI) (f5 : lS ≠ tO) (fl : ∀ c ∈ [zq, tI, tO, j1, j2], c < lS)
    (hR : ∀ s' H', Inv X pins σ H' s' → Qk H' → R (.ok (.ret res)) s') :
    ∀ (k i : Nat) (s : Shared) (H : Hp) (acc : List V), n - i = k → i ≤ n → Inv X pins σ H s → (∀ c ∈ [zq, tI, tO, j1, j2], FpOk X pins H c) → ZS zq tI tO j1 j2 lS St1 St2 i s.heap → H lS = some (.lst acc) → acc.length = i →
      zipW lS Qk ((xs.zip ys).drop i) acc H → codeAny (model X.prog X.w) A (.builtin "list.extend.loop" ⟨[.ref lS, .ref zq, res], []⟩) R s := by
  intro k
  induction k with
  | zero =>
    intro i s H acc hk hi I hf z hH hl q
    have hin : i = n := by omega
    refine codeAny_builtin PySem.F.entry_extend_loop ?_; rw [Around.under_plainId PySem.F.plain_extend_loop _]
    show wpAny _ A.in1 (pyNext (.ref zq) >>= _) _ _ s
    refine wpAny_bind (zs_end Z D1 D2 z hi hi (.inl hin) fun h' tk hkp => ?_)
    refine wpAny_pure (hR _ H (I.turnedL hkp hf) ?_)
    rw [List.drop_eq_nil_of_le (by rw [List.length_zip]; omega)] at q
    exact q
  | succ k ih =>
    intro i s H acc hk hi I hf z hH hl q
    have hlt : i < n := by omega
    obtain ⟨_, its0, n0, _, _, e0⟩ := I.lstM hH
    refine codeAny_builtin PySem.F.entry_extend_loop ?_; rw [Around.under_plainId PySem.F.plain_extend_loop _]
    show wpAny _ A.in1 (pyNext (.ref zq) >>= _) _ _ s
    refine wpAny_bind (zs_item Z D1 D2 z (Heap.lt_size e0) hlt hlt fun x1 x2 h' tk y1 y2 z' hT hkp => ?_)
    obtain ⟨x, hx, rx⟩ := hP1 _ _ y1
    obtain ⟨y, hy, ry⟩ := hP2 _ _ y2
    have hNl : s.heap.objs.size ≠ lS := Nat.ne_of_gt (Heap.lt_size e0)
    have hN : H s.heap.objs.size = none := I.hok.fresh (Nat.le_refl _)
    have new : ObjOk X.prog X.w (upd H s.heap.objs.size (.tup [x, y])) h' s.heap.objs.size (.tup [x, y]) := ⟨by show 2 ≤ sizeLine; decide, [x1, x2], .cons rx (.cons ry .nil), ⟨_, hT, rfl, _, rfl⟩⟩
    have I1 : Inv X pins σ (upd H s.heap.objs.size (.tup [x, y])) { s with heap := h', toks := tk } := I.turnedNew hkp hf (Nat.le_refl _) new
    have hH1 : upd H s.heap.objs.size (.tup [x, y]) lS = some (.lst acc) := by rw [upd_ne (Ne.symm hNl)]; exact hH
    obtain ⟨z1, its, m, rv, hlen, e⟩ := I1.lstM hH1
    have I2 := I1.lset (its' := its ++ [.ref s.heap.objs.size]) (f := (·.push (.ref s.heap.objs.size))) (ys := acc ++ [.ref s.heap.objs.size]) (t' := tk) hH1 e (by simp) (rv.append (.cons (show RelV (V.ref s.heap.objs.size) (Value.ref s.heap.objs.size) from rfl) .nil)) (by
      rw [List.length_append, hl]; show i + 1 ≤ sizeLine; exact Nat.le_trans (by omega) (show 1000000 ≤ sizeLine by decide))
    rw [zip_drop hx hy] at q
    show wpAny _ A.in1 (updateSeq lS (·.push (.ref s.heap.objs.size)) >>= _) _ _ _
    refine wpAny_bind ?_
    have keepS : ∀ c o, c ≠ lS → h'.get? c = some o → (h'.update lS (Obj.mapSeq (·.push (.ref s.heap.objs.size)))).get? c = some o := fun c o hc e => (Heap.get?_update_other _ _ (Ne.symm hc)).trans e
    have isz : its.toArray.size ≤ 1000000 := by rw [List.size_toArray]; omega
    refine wpAny_updateSeq e rfl (wpAny_pure ⟨plainId_quiet PySem.F.plain_extend_loop _, ih (i + 1) _ _ (acc ++ [.ref s.heap.objs.size]) (by omega) hlt I2 (fun c hc => ?_) ?_ upd_same (by rw [List.length_append, hl]; rfl) (q _ hN hNl)⟩)
      (by exact Nat.le_trans isz (by decide)) (by show (its.toArray.push (.ref s.heap.objs.size)).size ≤ sizeLine + 1; rw [Array.size_push]; exact Nat.le_trans (Nat.succ_le_succ isz) (by decide))
    · obtain ⟨g1, g2⟩ := hf c hc
      have hcl : c ≠ lS := fun e' => by rw [e', hH] at g1; cases g1
      have hcn : c ≠ s.heap.objs.size := Nat.ne_of_lt (Nat.lt_trans (fl c hc) (Heap.lt_size e0))
      exact ⟨by rw [upd_ne hcl, upd_ne hcn]; exact g1, g2⟩
    · obtain ⟨hz, hI, st1, st2⟩ := z'
      refine ⟨?_, keepS _ _ (Ne.symm f4) hI, D1.frame _ _ _ st1 fun b hb o e => keepS _ _ (fun q => f1 (q ▸ hb)) e, D2.frame _ _ _ st2 fun b hb o e => keepS _ _ (fun q => f2 (q ▸ hb)) e⟩
      rcases hz with ⟨hz, a, b, hO⟩ | ⟨T, f, oT, hz, hT', t1, t2, t3, t4⟩
      · exact .inl ⟨keepS _ _ (Ne.symm f3) hz, a, b, keepS _ _ (Ne.symm f5) hO⟩
      · exact .inr ⟨T, f, oT, keepS _ _ (Ne.symm f3) hz, keepS _ _ t4 hT', t1, t2, t3, t4⟩
theorem upd_id {H : Hp} {a : Addr} {o : HO} (h : H a = some o) : upd H a o = H := by
  funext b
  by_cases e : b = a
  · subst e; rw [upd_same, h]
  · rw [upd_ne e]
theorem zip_no_ln : typeLookup (.type "zip") "__len__" = pure none := by rw [typeLookup_type, builtinLookup_eq_fast]; kernel_rfl
theorem zip_no_hn : typeLookup (.type "zip") "__length_hint__" = pure none := by rw [typeLookup_type, builtinLookup_eq_fast]; kernel_rfl
theorem zl_extend {s : Shared} {H : Hp} (Z : ZipSep2 zq tI tO j1 j2 fp1 fp2) (D1 : Draws X.prog X.w A.in1.in1 j1 fp1 n P1 St1) (D2 : Draws X.prog X.w A.in1.in1 j2 fp2 n P2 St2)
    (hP1 : ∀ i v, P1 i v → ∃ x, xs[i]? = some x ∧ RelV x v) (hP2 : ∀ i v, P2 i v → ∃ x, ys[i]? = some x ∧ RelV x v) (ex : xs.length = n) (ey : ys.length = n) (hn : n ≤ 1000000)
    (f1 : lS ∉ fp1) (f2 : lS ∉ fp2) (f3 : lS ≠ zq) (f4 : lS ≠ tI) (f5 : lS ≠ tO) (fl : ∀ c ∈ [zq, tI, tO, j1, j2], c < lS)
    (hR : ∀ s' H', Inv X pins σ H' s' → Qk H' → R (.ok (.ret res)) s')
    (I : Inv X pins σ H s) (hf : ∀ c ∈ [zq, tI, tO, j1, j2], FpOk X pins H c) (hz : IsZip s.heap zq tI tO .none) (hO : ∃ a b, IsTupOf2 s.heap tO a b) (hI : IsTupOf2 s.heap tI (.ref j1) (.ref j2)) (st1 : St1 0 s.heap) (st2 : St2 0 s.heap)
    (hH : H lS = some (.lst [])) (q : zipW lS Qk (xs.zip ys) [] H) :
    wpAny (model X.prog X.w) A.in1 (Builtin.List.listExtendWith (.ref lS) (.ref zq) res)
      (fun fin s' => match fin with | .done f => R (.ok f) s' | .again c' => c'.quiet = true ∧ codeAny (model X.prog X.w) A c' R s') (fun e s' => R (.error e) s') s := by
  have hTy : s.TypeIs (.ref zq) "zip" := ⟨_, hz, rfl⟩
  obtain ⟨_, its0, n0, _, hl0, e0⟩ := I.lstM hH
  have ei : its0 = [] := List.eq_nil_of_length_eq_zero (by rw [← hl0]; rfl)
  subst ei
  unfold Builtin.List.listExtendWith
  refine wpAny_bind (wpAny_typeOf hTy ?_)
  have h1 : Builtin.List.listSameRef (.ref lS) (.ref zq) = false := by simp [Builtin.List.listSameRef, f3]
  have g2 : (Value.type "zip" == Value.type "list") = false := by decide
  have g3 : (Value.type "zip" == Value.type "tuple") = false := by decide
  simp only [h1, g2, g3, Bool.or_false, Bool.false_eq_true, if_false]
  refine wpAny_bind (wpAny_pyIter_zip hz ?_); refine wpAny_bind (wpAny_holding ?_)
  unfold Builtin.List.listLengthHint
  refine wpAny_bind (wpAny_specialOf hTy zip_no_ln ?_); show wpAny _ A.in1 (specialOf (Value.ref zq) (Str.ofString "__length_hint__") >>= _) _ _ _
  refine wpAny_bind (wpAny_specialOf hTy zip_no_hn ?_); refine wpAny_pure ?_
  show wpAny _ A.in1 (rule "list.extend.makes-room" >>= fun _ => Builtin.List.listTouch (.ref lS) >>= fun _ => again (.builtin "list.extend.loop" ⟨[.ref lS, .ref zq, res], []⟩)) _ _ _
  refine wpAny_bind (wpAny_rule ?_); refine wpAny_bind ?_
  show wpAny _ A.in1 (updateSeq lS (·.push .none) >>= fun _ => updateSeq lS (·.pop)) _ _ _
  refine wpAny_bind (wpAny_updateSeq e0 rfl ?_); have hS2 := Heap.get?_update_self (Obj.mapSeq (·.push Value.none)) e0 rfl
  refine wpAny_updateSeq hS2 rfl ?_; have hS3 := Heap.get?_update_self (Obj.mapSeq (·.pop)) hS2 rfl
  have oth : ∀ b o, b ≠ lS → s.heap.get? b = some o → ((s.heap.update lS (Obj.mapSeq (·.push Value.none))).update lS (Obj.mapSeq (·.pop))).get? b = some o := fun b o hb e => (Heap.get?_update_other _ _ (Ne.symm hb)).trans ((Heap.get?_update_other _ _ (Ne.symm hb)).trans e)
  have I2 : Inv X pins σ (upd H lS (.lst [])) { s with heap := (s.heap.update lS (Obj.mapSeq (·.push Value.none))).update lS (Obj.mapSeq (·.pop)), toks := s.toks } :=
    I.write (x := lS) (e := lS) (by rw [hH]; exact trivial) (.inl rfl) oth ⟨_, hS3⟩ ⟨by show 0 ≤ sizeLine; exact Nat.zero_le _, [], _, .nil, hS3⟩
  rw [upd_id hH] at I2
  refine wpAny_pure ⟨plainId_quiet PySem.F.plain_extend_loop _, zl_loop Z D1 D2 hP1 hP2 ex ey hn f1 f2 f3 f4 f5 fl hR n 0 _ H [] rfl (Nat.zero_le _) I2 hf ?_ hH rfl q⟩
  obtain ⟨a, b, hO⟩ := hO
  exact ⟨.inl ⟨oth _ _ (Ne.symm f3) hz, a, b, oth _ _ (Ne.symm f5) hO⟩, oth _ _ (Ne.symm f4) hI, D1.frame _ _ _ st1 fun b hb o e => oth _ _ (fun q => f1 (q ▸ hb)) e, D2.frame _ _ _ st2 fun b hb o e => oth _ _ (fun q => f2 (q ▸ hb)) e⟩
theorem zl_call {s : Shared} {H : Hp} {Q : Value → Shared → Prop} {E : Value → Shared → Prop} (Z : ZipSep2 zq tI tO j1 j2 fp1 fp2) (D1 : ∀ A' : Around, A'.handled = none → Draws X.prog X.w A' j1 fp1 n P1 St1) (D2 : ∀ A' : Around, A'.handled = none → Draws X.prog X.w A' j2 fp2 n P2 St2)
    (hP1 : ∀ i v, P1 i v → ∃ x, xs[i]? = some x ∧ RelV x v) (hP2 : ∀ i v, P2 i v → ∃ x, ys[i]? = some x ∧ RelV x v) (ex : xs.length = n) (ey : ys.length = n) (hn : n ≤ 1000000)
    (hh : A.handled = none) (I : Inv X pins σ H s) (hf : ∀ c ∈ [zq, tI, tO, j1, j2], FpOk X pins H c) (hz : IsZip s.heap zq tI tO .none) (hO : ∃ a b, IsTupOf2 s.heap tO a b) (hI : IsTupOf2 s.heap tI (.ref j1) (.ref j2)) (st1 : St1 0 s.heap) (st2 : St2 0 s.heap)
    (fl : ∀ c ∈ zq :: tI :: tO :: (fp1 ++ fp2), c < s.heap.objs.size) (hj1 : j1 ∈ fp1) (hj2 : j2 ∈ fp2)
    (q : ∀ l, H l = none → zipW l (fun H' => ∀ s', Inv X pins σ H' s' → Q (.ref l) s') (xs.zip ys) [] (upd H l (.lst []))) :
    wpAny (model X.prog X.w) A (call (.type "list") [.ref zq]) Q E s := by
  refine callType_codes (Q₁ := fun obj s₁ => obj = .ref s.heap.objs.size ∧ s₁ = { s with heap := s.heap.push { cls := .type "list", data := .seq #[] } }) PySem.F.called_list (PySem.F.typeCall_list_1 _) PySem.F.entry_list_init (code_list_new _ ⟨rfl, rfl⟩) fun obj s₁ h₁ => ?_
  obtain ⟨rfl, rfl⟩ := h₁
  have hS : (s.heap.push { cls := .type "list", data := .seq #[] }).get? s.heap.objs.size = some { cls := .type "list", data := .seq #[] } := Heap.get?_push_size _ rfl
  have hN : H s.heap.objs.size = none := I.hok.fresh (Nat.le_refl _)
  have I1 : Inv X pins σ (upd H s.heap.objs.size (.lst [])) { s with heap := s.heap.push { cls := .type "list", data := .seq #[] }, toks := s.toks } := I.lnew (its := []) .nil (Nat.zero_le _)
  refine ⟨⟨_, hS, rfl⟩, PySem.F.args_list_init_2 _ _, ?_⟩
  show wpAny _ _ (do let old ← Builtin.List.listItems (.ref s.heap.objs.size); Builtin.List.listUpdate (.ref s.heap.objs.size) (fun _ => #[]); letGo old.toList.reverse; Builtin.List.listExtendWith (.ref s.heap.objs.size) (.ref zq) .none) _ _ _
  refine wpAny_bind ?_; unfold Builtin.List.listItems
  refine wpAny_bind (wpAny_seqItems hS rfl (wpAny_pure ?_))
  show wpAny _ _ (updateSeq s.heap.objs.size (fun _ => #[]) >>= fun _ => letGo (#[] : Array Value).toList.reverse >>= fun _ => Builtin.List.listExtendWith (.ref s.heap.objs.size) (.ref zq) .none) _ _ _
  refine wpAny_bind (wpAny_updateSeq hS rfl ?_); have hS2 := Heap.get?_update_self (Obj.mapSeq (fun _ => (#[] : Array Value))) hS rfl
  have oth : ∀ b o, b ≠ s.heap.objs.size → (s.heap.push { cls := .type "list", data := .seq #[] }).get? b = some o → ((s.heap.push { cls := .type "list", data := .seq #[] }).update s.heap.objs.size (Obj.mapSeq (fun _ => (#[] : Array Value)))).get? b = some o :=
    fun b o hb e => (Heap.get?_update_other _ _ (Ne.symm hb)).trans e
  have old : ∀ b o, s.heap.get? b = some o → ((s.heap.push { cls := .type "list", data := .seq #[] }).update s.heap.objs.size (Obj.mapSeq (fun _ => (#[] : Array Value)))).get? b = some o := fun b o e => oth b o (Nat.ne_of_lt (Heap.lt_size e)) (Heap.get?_push_of_some _ e)
  have I2 := I1.write (h' := (s.heap.push { cls := .type "list", data := .seq #[] }).update s.heap.objs.size (Obj.mapSeq (fun _ => (#[] : Array Value)))) (t' := s.toks) (x := s.heap.objs.size) (e := s.heap.objs.size) (o := .lst []) (by rw [upd_same]; exact trivial) (.inl rfl) oth ⟨_, hS2⟩ ⟨by show 0 ≤ sizeLine; exact Nat.zero_le _, [], _, .nil, hS2⟩
  rw [upd_id upd_same] at I2
  refine wpAny_bind (wpAny_letGo ?_)
  have lt := fun c hc => Nat.ne_of_lt (fl c hc)
  obtain ⟨a, b, hO⟩ := hO
  refine zl_extend (A := A.in1) (lS := s.heap.objs.size) (Qk := fun H' => ∀ s', Inv X pins σ H' s' → Q (.ref s.heap.objs.size) s') Z (D1 _ hh) (D2 _ hh) hP1 hP2 ex ey hn (fun z => Nat.lt_irrefl _ (fl _ (by simp [z]))) (fun z => Nat.lt_irrefl _ (fl _ (by simp [z]))) (Ne.symm (lt _ (by simp))) (Ne.symm (lt _ (by simp))) (Ne.symm (lt _ (by simp))) (fun c hc => fl c ?_) (fun s' H' I' q' => ⟨rfl, q' s' I'⟩) I2 (fun c hc => ?_) (old _ _ hz) ⟨a, b, old _ _ hO⟩ (old _ _ hI) ?_ ?_ upd_same (q _ hN)
  · simp only [List.mem_cons, List.not_mem_nil, or_false] at hc
    rcases hc with rfl | rfl | rfl | rfl | rfl <;> simp [hj1, hj2]
  · obtain ⟨g1, g2⟩ := hf c hc
    refine ⟨?_, g2⟩
    rw [upd_ne (lt c (by
      simp only [List.mem_cons, List.not_mem_nil, or_false] at hc
      rcases hc with rfl | rfl | rfl | rfl | rfl <;> simp [hj1, hj2]))]
    exact g1
  · exact (D1 A hh).frame _ _ _ st1 fun b hb o e => old b o e
  · exact (D2 A hh).frame _ _ _ st2 fun b hb o e => old b o e
end

theorem vals_back : ∀ {xs : List V} {us : List Value} {i : Nat} {u : Value}, Vals xs us → us[i]? = some u → ∃ x, xs[i]? = some x ∧ RelV x u
  | _, _, _, _, .nil, e => by simp at e
  | _, _, 0, _, .cons r _, e => by simp at e; subst e; exact ⟨_, rfl, r⟩
  | _, _, i + 1, u, .cons _ t, e => by
    obtain ⟨x, h1, h2⟩ := vals_back (i := i) t (by simpa using e)
    exact ⟨x, by simpa using h1, h2⟩
theorem zipW_imp {l : Addr} {Q Q' : Hp → Prop} (h : ∀ H, Q H → Q' H) : ∀ {ps : List (V × V)} {acc : List V} {H : Hp}, zipW l Q ps acc H → zipW l Q' ps acc H
  | [], _, _, q => h _ q
  | (_, _) :: _, _, _, q => fun T h1 h2 => zipW_imp h (q T h1 h2)
def tLzip (K : PySem.W.Frag) (ta : TA) : TE := fun σ H Q => ta σ H fun vs H1 => ∃ (a b : Addr) (xs ys : List V), vs = [.ref a, .ref b] ∧ ((SqL K H1 a xs ∧ SqL K H1 b ys) ∨ (SqT K H1 a xs ∧ SqT K H1 b ys)) ∧ xs.length = ys.length ∧ xs.length ≤ 1000000 ∧
  ∀ l, H1 l = none → zipW l (fun H2 => Q (.ref l) H2) (xs.zip ys) [] (upd H1 l (.lst []))
theorem sep_of {N a b : Nat} (la : a < N) (lb : b < N) : ZipSep2 (N + 4) (N + 2) (N + 3) N (N + 1) [N, a] [N + 1, b] :=
  have m0 : ∀ {x y z : Nat}, x ≠ y → x ≠ z → x ∉ [y, z] := fun h1 h2 => by simp [h1, h2]
  ⟨show (N + 2 : Nat) ≠ N + 4 by omega, show (N + 3 : Nat) ≠ N + 4 by omega, show (N + 2 : Nat) ≠ N + 3 by omega, show (N + 2 : Nat) ≠ N by omega, List.mem_cons_self, m0 (show (N + 4 : Nat) ≠ N by omega) (by omega), m0 (show (N + 3 : Nat) ≠ N by omega) (by omega),
   show (N + 2 : Nat) ≠ N + 1 by omega, List.mem_cons_self, m0 (show (N + 4 : Nat) ≠ N + 1 by omega) (by omega), m0 (show (N + 3 : Nat) ≠ N + 1 by omega) (by omega), m0 (show (N : Nat) ≠ N + 1 by omega) (by omega), m0 (show (N + 1 : Nat) ≠ N by omega) (by omega)⟩
theorem ne_lt {a N : Nat} (la : a < N) : a ≠ N := by omega
theorem ne_lt1 {a N : Nat} (la : a < N) : a ≠ N + 1 := by omega
theorem cells_of {N c : Nat} (h : c ∈ [N + 4, N + 2, N + 3, N, N + 1]) : N ≤ c := by
  simp only [List.mem_cons, List.not_mem_nil, or_false] at h; omega
theorem cells_lt {N a b c : Nat} (la : a < N) (lb : b < N) (h : c ∈ (N + 4) :: (N + 2) :: (N + 3) :: ([N, a] ++ [N + 1, b])) : c < N + 5 := by
  simp only [List.mem_cons, List.cons_append, List.nil_append, List.not_mem_nil, or_false] at h; omega
theorem pe_lzip {X : Cx} {a b : Expr} {ta : TA} {p p2 p3 pos : Pos} (hc : X.calm = true) (hg : Gl X "list") (hm : X.mg "list" = none) (hg2 : Gl X "zip") (hm2 : X.mg "zip" = none) (ha : PA X [a, b] ta)
    (hs : starEach [a, b] X.env = (false, eval a X.env) :: starEach [b] X.env) (hpl : (backTo p3 (starEach [b] X.env)).any (·.1) = false) (na : starEach [.Call (.Name "zip" p2) [a, b] [] p3] X.env = (false, eval (.Call (.Name "zip" p2) [a, b] [] p3) X.env) :: starEach [] X.env := by rfl) :
    PE X (.Call (.Name "list" p) [.Call (.Name "zip" p2) [a, b] [] p3] [] pos) (tLzip X.K ta) := by
  refine ⟨fun pins s σ H Q I h => ?_⟩
  have hh : X.A.handled = none := I.ok.hd hc
  have inner : wpAny (model X.prog X.w) X.A (eval (.Call (.Name "zip" p2) [a, b] [] p3) X.env) (fun v s1 => wpAny (model X.prog X.w) X.A (call (.type "list") [v]) (EP X pins σ Q) X.xe s1) X.xe s := by
    refine Call_ (ld_blt I hg2 hm2 PyProof.Rows.boot_zip (PyProof.Rows.callWith_type1 (thn (ha.run p3 pins s σ H _ I h) fun us s1 ⟨vs, H1, I1, r1, q1⟩ => ?_) hs hpl))
    obtain ⟨a1, b1, xs, ys, ev, hk, el, ez, q1⟩ := q1
    subst ev
    cases r1 with
    | cons r rr =>
      cases rr with
      | cons r' rr =>
        cases rr
        cases r
        cases r'
        have fin : ∀ {c : Addr}, s1.heap.objs.size ≤ c → FpOk X pins H1 c := fun hle => I1.fpOk hle (I1.hok.fresh hle)
        have q2 : ∀ l, H1 l = none → zipW l (fun H2 => ∀ s', Inv X pins σ H2 s' → EP X pins σ Q (.ref l) s') (xs.zip ys) [] (upd H1 l (.lst [])) := fun l hl => zipW_imp (fun H2 q s' I' => ⟨.ref l, H2, I', rfl, q⟩) (q1 l hl)
        rcases hk with ⟨hx, hy⟩ | ⟨hx, hy⟩
        · obtain ⟨its, rv, k1, _⟩ := I1.list hx
          obtain ⟨its2, rv2, k2, _⟩ := I1.list hy
          have e1 : its.toArray.size = xs.length := by rw [← show its.length = its.toArray.size by simp]; exact rv.length.symm
          have e2 : its2.toArray.size = xs.length := by rw [← show its2.length = its2.toArray.size by simp, el]; exact rv2.length.symm
          have la : a1 < s1.heap.objs.size := k1.lt
          have lb : b1 < s1.heap.objs.size := k2.lt
          refine call_zip_2 k1.isList k2.isList fun h' hz hTI hTO h1 h2 hsz hk => ?_
          have I2 : Inv X pins σ H1 { s1 with heap := h' } := I1.kept (t' := s1.toks) hk
          refine zl_call (zq := s1.heap.objs.size + 4) (tI := s1.heap.objs.size + 2) (tO := s1.heap.objs.size + 3) (fp1 := [s1.heap.objs.size, a1]) (fp2 := [s1.heap.objs.size + 1, b1]) (n := xs.length)
            (P1 := fun i v => its.toArray[i]? = some v) (P2 := fun i v => its2.toArray[i]? = some v) (St1 := fun i h => h.IsListIter s1.heap.objs.size a1 i ∧ h.IsList a1 its.toArray) (St2 := fun i h => h.IsListIter (s1.heap.objs.size + 1) b1 i ∧ h.IsList b1 its2.toArray)
            (sep_of la lb) (fun A' hA => e1 ▸ Draws.list (prog := X.prog) (w := X.w) hA s1.heap.objs.size a1 (ne_lt la) its.toArray) (fun A' hA => e2 ▸ Draws.list (prog := X.prog) (w := X.w) hA (s1.heap.objs.size + 1) b1 (ne_lt1 lb) its2.toArray)
            (fun i v e => vals_back rv (by simpa using e)) (fun i v e => vals_back rv2 (by simpa using e)) rfl el.symm ez hh I2 (fun c hcm => fin (cells_of hcm)) hz ⟨_, _, hTO⟩ hTI ⟨h1, k1.isList.at fun o e => hk _ o e⟩ ⟨h2, k2.isList.at fun o e => hk _ o e⟩ (fun c hcm => ?_) (by simp) (by simp) q2
          show c < h'.objs.size; rw [hsz]; exact cells_lt la lb hcm
        · obtain ⟨its, rv, k1, _⟩ := I1.tuple hx
          obtain ⟨its2, rv2, k2, _⟩ := I1.tuple hy
          have e1 : its.toArray.size = xs.length := by rw [← show its.length = its.toArray.size by simp]; exact rv.length.symm
          have e2 : its2.toArray.size = xs.length := by rw [← show its2.length = its2.toArray.size by simp, el]; exact rv2.length.symm
          obtain ⟨o1, ho1, _⟩ := id k1
          obtain ⟨o2, ho2, _⟩ := id k2
          have la : a1 < s1.heap.objs.size := Heap.lt_size ho1
          have lb : b1 < s1.heap.objs.size := Heap.lt_size ho2
          have t1 : s1.heap.IsTuple a1 its.toArray := k1
          have t2 : s1.heap.IsTuple b1 its2.toArray := k2
          refine RZ.call_zipT t1 t2 fun h' hz hTI hTO h1 h2 hsz hk => ?_
          have I2 : Inv X pins σ H1 { s1 with heap := h' } := I1.kept (t' := s1.toks) hk
          refine zl_call (zq := s1.heap.objs.size + 4) (tI := s1.heap.objs.size + 2) (tO := s1.heap.objs.size + 3) (fp1 := [s1.heap.objs.size, a1]) (fp2 := [s1.heap.objs.size + 1, b1]) (n := xs.length)
            (P1 := fun i v => its.toArray[i]? = some v) (P2 := fun i v => its2.toArray[i]? = some v) (St1 := fun i h => h.IsTupleIter s1.heap.objs.size a1 i ∧ h.IsTuple a1 its.toArray) (St2 := fun i h => h.IsTupleIter (s1.heap.objs.size + 1) b1 i ∧ h.IsTuple b1 its2.toArray)
            (sep_of la lb) (fun A' hA => e1 ▸ Draws.tuple (prog := X.prog) (w := X.w) hA s1.heap.objs.size a1 (ne_lt la) its.toArray) (fun A' hA => e2 ▸ Draws.tuple (prog := X.prog) (w := X.w) hA (s1.heap.objs.size + 1) b1 (ne_lt1 lb) its2.toArray)
            (fun i v e => vals_back rv (by simpa using e)) (fun i v e => vals_back rv2 (by simpa using e)) rfl el.symm ez hh I2 (fun c hcm => fin (cells_of hcm)) hz ⟨_, _, hTO⟩ hTI ⟨h1, t1.at fun o e => hk _ o e⟩ ⟨h2, t2.at fun o e => hk _ o e⟩ (fun c hcm => ?_) (by simp) (by simp) q2
          show c < h'.objs.size; rw [hsz]; exact cells_lt la lb hcm
  exact Call_ (ld_blt I hg hm boot_list (PyProof.Rows.callWith_type1 (args_cons (thn inner fun v s1 q => args_nil q) na) na))
end ZL

/-! ## DX.lean -/
set_option Elab.async false
set_option linter.all false
set_option maxRecDepth 100000
set_option maxHeartbeats 4000000
set_option autoImplicit false
/-! DX: more calls: list(range(n)), list(zip(a, b)), dict(d), sorted(ints), xs[::-1], a written table. -/
namespace DW
open PySem PySem.Spec L2
open PyProof.Rows hiding St
section
variable {ks : Kt} {X : Cx} {C : Ent} {env : En} {pos : Pos}
/-- list(range(n)) -/
theorem se_lrg {a : Expr} {x y : Str} {p p2 p3 : Pos} {Wa : Rg → RQ → Prop} (hc : X.calm = true) (hx : x = "list") (hy : y = "range") (hg : Gl X x) (hm : X.mg x = none) (hg2 : Gl X y) (hm2 : X.mg y = none) (ha : SE ks X C env a Wa) (hs : starEach [a] X.env = (false, eval a X.env) :: starEach [] X.env) :
    SE ks X C env (.Call (.Name x p) [.Call (.Name y p2) [a] [] p3] [] pos) (fun g Q => Wa g fun r g1 => ∃ n : Int, r = .dat (.int n) ∧ n ≤ 16777216 ∧ -1000000 ≤ n ∧ Q (.ref g1.length) (g1 ++ [.lst (rngs 0 n.toNat)])) := by
  subst hx hy
  intro g Q h σ F H κ Qv ok k
  refine wE_of (pe_listRg hc hg hm (prg_1 hg2 hm2 pe_w hs) rfl) (ha g _ h σ F H κ _ ok fun v F1 H1 κ1 r g1 ok1 s1 p1 rv q => ?_)
  obtain ⟨n, rfl, l1, l2, q⟩ := q
  refine ⟨n, At.intI rv, ⟨by decide, by decide, by omega, by omega, by omega⟩, fun p hp => (k.at s1 p1).newL ok1 hp ?_ q⟩
  have e : rgV 0 n = (List.range n.toNat).map fun (i : Nat) => V.int (0 + (i : Int)) := by unfold rgV; rw [show (n - 0).toNat = n.toNat by simp]
  rw [e]; unfold rngs
  generalize List.range n.toNat = l
  induction l with
  | nil => exact .nil
  | cons i l ih => exact .cons (rv_int _) ih
/-- xs[::-1] -/
theorem se_rev {a : Expr} {k1 : Nat} {p1 p2 p3 : Pos} {Wa : Rg → RQ → Prop} (ha : SE ks X C env a Wa) :
    SE ks X C env (.Subscript a (.Slice none none (some (.UnaryOp .USub (.Constant (.int 1) k1 p1) p2)) p3) pos) (fun g Q => Wa g fun r g1 => ∃ rs, lstOf g1 r = some rs ∧ Q (.ref g1.length) (g1 ++ [.lst rs.reverse])) := by
  intro g Q h σ F H κ Qv ok k
  refine wE_of (pe_revL pe_w) (ha g _ h σ F H κ _ ok fun v F1 H1 κ1 r g1 ok1 s1 pp1 rv q => ?_)
  obtain ⟨rs, e, q⟩ := q
  obtain ⟨c, xs, rfl, h2, h3⟩ := rv.lst ok1 e
  exact ⟨c, xs, rfl, SqL.of h2, fun p hp => (k.at s1 pp1).newL ok1 hp h3.reverse q⟩
/-- dict(d) -/
def cDict : List Rv → Rg → RQ → Prop := fun rs g Q => ∃ r kr, rs = [r] ∧ dicOf g r = some kr ∧ Q (.ref g.length) (g ++ [.dic kr])
theorem callDict : CallOk ks X C env (fun xs H Q => ∃ (a : Addr) (kvs : List (Key × V)), xs = [.ref a] ∧ Rd H a (.dK kvs) ∧ ∀ p, H p = none → Q (.ref p) (upd H p (.dK kvs))) cDict := by
  rintro g rs Q ⟨r, kr, rfl, e, q⟩ σ F H κ Qv vs ok rv k
  obtain ⟨v, rfl, h1⟩ := rv.one
  obtain ⟨a, xs, rfl, h2, h3⟩ := h1.dic ok e
  refine ⟨a, xs, rfl, Rd.of h2, fun p hp => ?_⟩
  have fresh := ok.fresh hp
  exact k _ F _ (κ ++ [p]) _ _ (ok.newC (cell := .dic kr) hp ⟨fresh.1, fresh.2, xs, upd_same, h3.imp fun _ _ z => ⟨z.1, z.2.mono (Same.refl _) (Pre.app _ _)⟩⟩) (Same.refl F) (Pre.app _ _) (rv_new ok.g.len) q
/-- sorted(ints) -/
def cSort : List Rv → Rg → RQ → Prop := fun rs g Q => ∃ (r : Rv) (ns : List Int), rs = [r] ∧ lstOf g r = some (ns.map fun b => .dat (.int b)) ∧ ∀ ns' : List Int, ns'.Perm ns → ns'.Pairwise (· ≤ ·) → Q (.ref g.length) (g ++ [.lst (ns'.map fun b => .dat (.int b))])
theorem ints_to {F : Hp} {κ : List Addr} : ∀ {bs : List Int}, All2 (RvOk ks F κ) (bs.map V.int) (bs.map fun b => .dat (.int b))
  | [] => .nil
  | b :: bs => .cons (rv_int _) ints_to
theorem callSort : CallOk ks X C env (rSortedI X.K) cSort := by
  rintro g rs Q ⟨r, ns, rfl, e, q⟩ σ F H κ Qv vs ok rv k
  obtain ⟨v, rfl, h1⟩ := rv.one
  obtain ⟨a, xs, rfl, h2, h3⟩ := h1.lst ok e
  have e2 := ints_of h3
  subst e2
  exact ⟨a, ns, rfl, SqL.of h2, fun ns' p hp hw hn => k.newL ok hn ints_to (q ns' hp hw)⟩
/-- TABLE[k] of a table that the module has written, texts to texts -/
def TabOk (ks : Kt) (X : Cx) (x : Str) (t : List (Nat × Nat)) : Prop := ∃ p : Addr, X.mg x = some (.ref p) ∧ ∀ k v, t.lookup k = some v → ∀ kx, ks.w[k]? = some kx → ∃ vx, ks.w[v]? = some vx ∧ KDct X.K X.w p kx (.str vx)
theorem se_tab {b : Expr} {x : Str} {p : Pos} {t : List (Nat × Nat)} {Wb : Rg → RQ → Prop} (hg : Gl X x) (hd : (x == ("__debug__" : Str)) = false) (ht : TabOk ks X x t) (hs : PlainIx b) (hb : SE ks X C env b Wb) :
    SE ks X C env (.Subscript (.Name x p) b pos) (fun g Q => Wb g fun r g1 => ∃ k v, r = .dat (.str k) ∧ t.lookup k = some v ∧ Q (.dat (.str v)) g1) := by
  obtain ⟨a, hm, hk⟩ := ht
  intro g Q h σ F H κ Qv ok k
  refine wE_of (pe_ix ix_kdict (pe_glob (v := .ref a) hg hm rfl hd) pe_w hs) ?_
  show wE X b σ H _
  refine hb g _ h σ F H κ _ ok fun v F1 H1 κ1 r g1 ok1 s1 p1 rv q => ?_
  obtain ⟨n, m, rfl, e, q⟩ := q
  obtain ⟨kx, rfl, hkx⟩ := At.strI rv
  obtain ⟨vx, hvx, kd⟩ := hk n m e kx hkx
  exact ⟨a, kx, .str vx, rfl, rfl, kd, k _ F1 H1 κ1 _ g1 ok1 s1 p1 (rv_d (.str hvx)) q⟩
/-- list(zip(a, b)) of data -/
def cZip (r1 r2 : Rv) (g : Rg) (Q : RQ) : Prop := ∃ ds es : List D, ((lstOf g r1 = some (ds.map .dat) ∧ lstOf g r2 = some (es.map .dat)) ∨ (r1 = .dat (.tup ds) ∧ r2 = .dat (.tup es))) ∧ ds.length = es.length ∧ ds.length ≤ 1000000 ∧
  Q (.ref g.length) (g ++ [.lst ((ds.zip es).map fun p => .dat (.tup [p.1, p.2]))])
theorem zip_ok {l : Addr} {σ : L2.St} {κ : List Addr} {g : Rg} {Qk : Hp → Prop} : ∀ {ps : List (V × V)} {dps : List (D × D)} {acc : List V} {dacc : List Rv} {F H : Hp}, All2 (fun p q => At ks F p.1 q.1 ∧ At ks F p.2 q.2) ps dps → Ok ks C σ F H κ env (g ++ [.lst dacc]) → κ[g.length]? = some l → All2 (RvOk ks F κ) acc dacc →
    (∀ F' H', Same F F' → Ok ks C σ F' H' κ env (g ++ [.lst (dacc ++ dps.map fun p => .dat (.tup [p.1, p.2]))]) → Qk H') → ZL.zipW l Qk ps acc H
  | [], _, acc, dacc, F, H, h, ok, hk, ha, q => by
    cases h
    exact q F H (Same.refl F) (by simpa using ok)
  | (x, y) :: ps, _, acc, dacc, F, H, h, ok, hk, ha, q => by
    cases h with
    | @cons _ d _ dps h1 h2 =>
      obtain ⟨hx, hy⟩ := h1
      intro T hT hTl
      have sF := ok.newD_F (o := .tup [x, y]) hT
      have ok1 := ok.newD (o := .tup [x, y]) hT
      have hTa : At ks (upd F T (.tup [x, y])) (.ref T) (.tup [d.1, d.2]) := .tup upd_same (.cons (At.mono sF hx) (.cons (At.mono sF hy) .nil))
      have hacc : All2 (RvOk ks (upd F T (.tup [x, y])) κ) (acc ++ [.ref T]) (dacc ++ [.dat (.tup [d.1, d.2])]) := (ha.imp fun _ _ z => z.mono sF (Pre.refl κ)).append (.cons (rv_d hTa) .nil)
      have ok2 := ok1.putL (c := g.length) (rs := dacc) (by rw [List.getElem?_append_right (Nat.le_refl _)]; simp) hk hacc
      rw [List.set_append_right _ _ (Nat.le_refl _), Nat.sub_self, List.set_cons_zero] at ok2
      refine zip_ok (h2.imp fun _ _ z => ⟨At.mono sF z.1, At.mono sF z.2⟩) ok2 hk hacc fun F' H' s' ok' => q F' H' (sF.trans s') ?_
      rw [List.append_assoc] at ok'
      exact ok'
theorem All2.zip {α β γ δ : Type} {R : α → β → Prop} {S : γ → δ → Prop} : ∀ {a : List α} {b : List β} {c : List γ} {d : List δ}, All2 R a b → All2 S c d → All2 (fun p q => R p.1 q.1 ∧ S p.2 q.2) (a.zip c) (b.zip d)
  | _, _, _, _, .nil, _ => by simpa using All2.nil
  | _, _, _, _, .cons _ _, .nil => by simpa using All2.nil
  | _, _, _, _, .cons r t, .cons s u => .cons ⟨r, s⟩ (All2.zip t u)
theorem se_lzip {a b : Expr} {x y : Str} {p p2 p3 : Pos} {Ws : Rg → (List Rv → Rg → Prop) → Prop} (hc : X.calm = true) (hx : x = "list") (hy : y = "zip") (hg : Gl X x) (hm : X.mg x = none) (hg2 : Gl X y) (hm2 : X.mg y = none) (ha : SA ks X C env [a, b] Ws)
    (hs : starEach [a, b] X.env = (false, eval a X.env) :: starEach [b] X.env) (hpl : (backTo p3 (starEach [b] X.env)).any (·.1) = false) :
    SE ks X C env (.Call (.Name x p) [.Call (.Name y p2) [a, b] [] p3] [] pos) (fun g Q => Ws g fun rs g1 => ∃ r1 r2, rs = [r1, r2] ∧ cZip r1 r2 g1 Q) := by
  subst hx hy
  intro g Q h σ F H κ Qv ok k
  refine wE_of (ZL.pe_lzip hc hg hm hg2 hm2 pa_w hs hpl rfl) (ha g _ h σ F H κ _ ok fun vs F1 H1 κ1 rs g1 ok1 s1 pp1 rv q => ?_)
  obtain ⟨r1, r2, rfl, ds, es, hk, el, ez, q⟩ := q
  obtain ⟨v, w, rfl, h1, h2⟩ := rv.two
  have fin : ∀ {a b : Addr} {xs ys : List V}, All2 (At ks F1) xs ds → All2 (At ks F1) ys es → ∀ l, H1 l = none → ZL.zipW l (fun H2 => Qv (.ref l) H2) (xs.zip ys) [] (upd H1 l (.lst [])) := fun {a b xs ys} hx hy l hl => by
    refine zip_ok (g := g1) (κ := κ1 ++ [l]) (F := F1) (dacc := []) (hx.zip hy) (ok1.newL hl .nil) (by rw [← ok1.g.len, List.getElem?_append_right (Nat.le_refl _)]; simp) .nil fun F2 H2 s2 ok2 => ?_
    exact k _ F2 H2 (κ1 ++ [l]) _ _ ok2 (s1.trans s2) (pp1.trans (Pre.app _ _)) (rv_new ok1.g.len) q
  rcases hk with ⟨e1, e2⟩ | ⟨rfl, rfl⟩
  · obtain ⟨a1, xs, rfl, k1, k2⟩ := h1.lst ok1 e1
    obtain ⟨b1, ys, rfl, k3, k4⟩ := h2.lst ok1 e2
    have l1 := k2.length
    have l2 := k4.length
    rw [List.length_map] at l1 l2
    exact ⟨a1, b1, xs, ys, rfl, .inl ⟨SqL.of k1, SqL.of k3⟩, by omega, by omega, fin (a := a1) (b := b1) (All2.of_mapR (f := Rv.dat) (S := RvOk ks F1 κ1) (fun _ _ z => z) k2) (All2.of_mapR (f := Rv.dat) (S := RvOk ks F1 κ1) (fun _ _ z => z) k4)⟩
  · obtain ⟨a1, xs, rfl, k1, k2⟩ := At.tupI h1
    obtain ⟨b1, ys, rfl, k3, k4⟩ := At.tupI h2
    have l1 := (Ats.all2 k2).length
    have l2 := (Ats.all2 k4).length
    exact ⟨a1, b1, xs, ys, rfl, .inr ⟨SqT.of (ok1.ch.fh _ _ k1), SqT.of (ok1.ch.fh _ _ k3)⟩, by omega, by omega, fin (a := a1) (b := b1) (Ats.all2 k2) (Ats.all2 k4)⟩
end
end DW

/-! ## DW9.lean -/
set_option Elab.async false
set_option linter.all false
set_option maxRecDepth 100000
set_option maxHeartbeats 4000000
set_option autoImplicit false
/-! DW9: a small language; what it reads as; how a text of the program is seen to be one of its texts. -/
namespace DW
open PySem PySem.Spec L2
open PyProof.Rows hiding St

inductive BOp | addI | subI | mulI | fdivI | modI | powI | cat | catT | rep
inductive COp | lt | le | gt | ge | eq | ne | isN | notN | inF | notIn
inductive IxK | l | t | s | k
inductive Bi | len | int1 | min2 | any1 | max1 | list1 | tup1 | dict1 | sort1
inductive ItK | list | r1 | r2 | en
mutual
inductive Ex where
  | var (i : Nat) | int (n : Int) | str (k : Nat) | bl (b : Bool) | non | glob (k : Nat)
  | tup (es : Es) | lst (es : Es) | dic (keys : List Nat) (es : Es)
  | bin (op : BOp) (a b : Ex) | neg (a : Ex) | cmp (op : COp) (a b : Ex) | chain (o1 o2 : COp) (a b c : Ex)
  | one (a : Ex) | and (a b : Ex) | or (a b : Ex) | not (a : Ex)
  | ix (k : IxK) (a b : Ex) | slL (a : Ex) (hl : Bool) (lo : Ex) (hh : Bool) (hi : Ex) | slT (a : Ex) (hl : Bool) (lo : Ex) (hh : Bool) (hi : Ex)
  | call (f : Nat) (es : Es) | bi (b : Bi) (es : Es) | isin (a : Ex) (T : Nat) | isin2 (a : Ex) (T U : Nat)
  | app (o e : Ex) | pop (o : Ex) | popAt (o e : Ex) | clr (o : Ex)
  | comp (elt : Ex) (tg : Tg) (ik : ItK) (a b : Ex) (hc : Bool) (c : Ex) (own : List Nat)
  | frz (a : Ex)
  | lrg (a : Ex) | rev (a : Ex) | tab (t : Nat) (a : Ex) | lzip (es : Es)
inductive Es where
  | nil | cons (e : Ex) (es : Es)
end
mutual
inductive Sm where
  | set (i : Nat) (e : Ex) | setC (i : Nat) (e : Ex) | setIx (a b e : Ex) | setKey (a b e : Ex) | expr (e : Ex) | ret (e : Ex) | ite (c : Ex) (a b : Ss)
  | for_ (tg : Tg) (ik : ItK) (a b : Ex) (body : Ss) | while_ (c : Ex) (body : Ss) | never | pass
inductive Ss where
  | nil | cons (s : Sm) (ss : Ss)
end

/-! ### its reading -/
structure Wd where
  fn : Nat → SpD
  gl : List Int
  dt : List (List (Nat × Nat))
def BOp.B : BOp → Rv → Rv → Rg → RQ → Prop
  | .addI => bI0 fun i j => .int (i + j)
  | .subI => bI0 fun i j => .int (i - j)
  | .mulI => bIC CMul fun i j => .int (i * j)
  | .fdivI => bIC CDiv fun i j => .int (i / j)
  | .modI => bIC (fun _ j => 0 < j) fun i j => .int (i % j)
  | .powI => bIC CPow fun i j => .int (i ^ j.toNat)
  | .cat => bCat
  | .catT => bCatT
  | .rep => bRep
def COp.B : COp → Rv → Rv → Rg → RQ → Prop
  | .lt => bI0 fun i j => .bl (decide (i < j))
  | .le => bI0 fun i j => .bl (decide (i ≤ j))
  | .gt => bI0 fun i j => .bl (decide (j < i))
  | .ge => bI0 fun i j => .bl (decide (j ≤ i))
  | .eq => bEq false
  | .ne => bEq true
  | .isN => bIs false
  | .notN => bIs true
  | .inF => bIn false
  | .notIn => bIn true
def IxK.B : IxK → Rv → Rv → Rg → RQ → Prop
  | .l => bIxL
  | .t => bIxT
  | .s => bIxS
  | .k => bIxK
def Bi.B : Bi → List Rv → Rg → RQ → Prop
  | .len => cLen
  | .int1 => cInt
  | .min2 => cMin2
  | .any1 => cAny
  | .max1 => cMax
  | .list1 => cList
  | .tup1 => cTup
  | .dict1 => cDict
  | .sort1 => cSort
def tyNames : List String := ["int", "bool", "str", "tuple", "list"]
def wIter (ik : ItK) (Wa Wb : Rg → RQ → Prop) : Rg → IQ → Prop := match ik with
  | .list => fun g Q => Wa g fun r g1 => ∃ rs, lstOf g1 r = some rs ∧ Q rs (fun g' => lstOf g' r = some rs) g1
  | .r1 => fun g Q => Wa g fun r g1 => ∃ j : Int, r = .dat (.int j) ∧ -(2 ^ 62) ≤ j ∧ j < 2 ^ 62 ∧ Q (rngs 0 j.toNat) (fun _ => True) g1
  | .r2 => fun g Q => Wa g fun r g1 => Wb g1 fun r2 g2 => ∃ i j : Int, r = .dat (.int i) ∧ r2 = .dat (.int j) ∧ (-(2 ^ 62) ≤ i ∧ i < 2 ^ 62 ∧ -(2 ^ 62) ≤ j ∧ j < 2 ^ 62) ∧ Q (rngs i (j - i).toNat) (fun _ => True) g2
  | .en => fun g Q => Wa g fun r g1 => ∃ ds : List D, lstOf g1 r = some (ds.map .dat) ∧ Q (enums ds) (fun g' => lstOf g' r = some (ds.map .dat)) g1
def wPart (h : Bool) (W : Rg → RQ → Prop) : Rg → (Option Int → Rg → Prop) → Prop := fun g Q => match h with
  | false => Q none g
  | true => W g fun r g1 => ∃ i, r = .dat (.int i) ∧ Q (some i) g1
def tstW (h : Bool) (W : Rg → (Bool → Rg → Prop) → Prop) : Rg → (Bool → Rg → Prop) → Prop := fun g Q => match h with
  | false => Q true g
  | true => W g Q
mutual
def Ex.W (Γ : Wd) : Ex → En → Rg → RQ → Prop
  | .var i, env => wVar env i
  | .int n, _ => fun g Q => Q (.dat (.int n)) g
  | .str k, _ => fun g Q => Q (.dat (.str k)) g
  | .bl b, _ => fun g Q => Q (.dat (.bl b)) g
  | .non, _ => fun g Q => Q (.dat .non) g
  | .glob k, _ => fun g Q => ∃ n, Γ.gl[k]? = some n ∧ Q (.dat (.int n)) g
  | .tup es, env => fun g Q => es.W Γ env g fun rs g1 => wFrzL rs g1 fun ds g2 => ds.length ≤ 1000000 ∧ Q (.dat (.tup ds)) g2
  | .lst es, env => fun g Q => es.W Γ env g fun rs g1 => rs.length ≤ 1000000 ∧ Q (.ref g1.length) (g1 ++ [.lst rs])
  | .dic keys es, env => fun g Q => es.W Γ env (g ++ [.dic []]) fun rs g2 => g2[g.length]? = some (.dic []) ∧ (keys.zip rs |>.map (·.1)).Nodup ∧ (keys.zip rs).length ≤ 15 ∧ Q (.ref g.length) (g2.set g.length (.dic (keys.zip rs)))
  | .bin op a b, env => fun g Q => a.W Γ env g fun r1 g1 => b.W Γ env g1 fun r2 g2 => op.B r1 r2 g2 Q
  | .neg a, env => fun g Q => a.W Γ env g fun r g1 => ∃ i, r = .dat (.int i) ∧ Q (.dat (.int (-i))) g1
  | .cmp op a b, env => fun g Q => a.W Γ env g fun r1 g1 => b.W Γ env g1 fun r2 g2 => op.B r1 r2 g2 Q
  | .chain o1 o2 a b c, env => fun g Q => a.W Γ env g fun r1 g1 => b.W Γ env g1 fun r2 g2 => o1.B r1 r2 g2 (wantB fun k g3 => (k = true → c.W Γ env g3 fun r3 g4 => o2.B r2 r3 g4 Q) ∧ (k = false → Q (.dat (.bl false)) g3))
  | .one a, env => a.W Γ env
  | .and a b, env => wAndV (a.W Γ env) (b.W Γ env)
  | .or a b, env => wOrV (a.W Γ env) (b.W Γ env)
  | .not a, env => wNotV (a.W Γ env)
  | .ix k a b, env => fun g Q => a.W Γ env g fun r1 g1 => b.W Γ env g1 fun r2 g2 => k.B r1 r2 g2 Q
  | .slL a hl lo hh hi, env => fun g Q => a.W Γ env g fun r g1 => wPart hl (lo.W Γ env) g1 fun l g2 => wPart hh (hi.W Γ env) g2 fun u g3 => ∃ rs, lstOf g3 r = some rs ∧ Q (.ref g3.length) (g3 ++ [.lst (cutL rs l u)])
  | .slT a hl lo hh hi, env => fun g Q => a.W Γ env g fun r g1 => wPart hl (lo.W Γ env) g1 fun l g2 => wPart hh (hi.W Γ env) g2 fun u g3 => ∃ ds, r = .dat (.tup ds) ∧ ¬ (HT.sIx ds.length 0 l = 0 ∧ HT.sIx ds.length ds.length u = ds.length) ∧ Q (.dat (.tup (cutL ds l u))) g3
  | .call f es, env => fun g Q => es.W Γ env g fun rs g1 => Γ.fn f rs g1 Q
  | .bi b es, env => fun g Q => es.W Γ env g fun rs g1 => b.B rs g1 Q
  | .isin a T, env => fun g Q => a.W Γ env g fun r g1 => ∃ t b, tyR g1 r = some t ∧ kitB t (tyNames.getD T "") = some b ∧ Q (.dat (.bl b)) g1
  | .isin2 a T U, env => fun g Q => a.W Γ env g fun r g1 => ∃ t b b', tyR g1 r = some t ∧ kitB t (tyNames.getD T "") = some b ∧ kitB t (tyNames.getD U "") = some b' ∧ Q (.dat (.bl (b || b'))) g1
  | .app o e, env => fun g Q => o.W Γ env g fun ro g1 => (lstOf g1 ro).isSome = true ∧ e.W Γ env g1 fun r g2 => mAppend ro r g2 Q
  | .pop o, env => fun g Q => o.W Γ env g fun ro g1 => mPop ro g1 Q
  | .popAt o e, env => fun g Q => o.W Γ env g fun ro g1 => (lstOf g1 ro).isSome = true ∧ e.W Γ env g1 fun r g2 => mPopAt ro r g2 Q
  | .clr o, env => fun g Q => o.W Γ env g fun ro g1 => mClear ro g1 Q
  | .comp elt tg ik a b hc c own, env => fun g Q => wIter ik (a.W Γ env) (b.W Γ env) g fun its keep g1 => WComp tg own env (fun env => tstW hc (c.T Γ env)) (fun env => elt.W Γ env) its keep g1 Q
  | .frz a, env => fun g Q => a.W Γ env g fun r g1 => wFrz r g1 fun d g2 => Q (.dat d) g2
  | .lrg a, env => fun g Q => a.W Γ env g fun r g1 => ∃ n : Int, r = .dat (.int n) ∧ n ≤ 16777216 ∧ -1000000 ≤ n ∧ Q (.ref g1.length) (g1 ++ [.lst (rngs 0 n.toNat)])
  | .rev a, env => fun g Q => a.W Γ env g fun r g1 => ∃ rs, lstOf g1 r = some rs ∧ Q (.ref g1.length) (g1 ++ [.lst rs.reverse])
  | .tab t a, env => fun g Q => a.W Γ env g fun r g1 => ∃ k v, r = .dat (.str k) ∧ (Γ.dt.getD t []).lookup k = some v ∧ Q (.dat (.str v)) g1
  | .lzip es, env => fun g Q => es.W Γ env g fun rs g1 => ∃ r1 r2, rs = [r1, r2] ∧ cZip r1 r2 g1 Q
def Ex.T (Γ : Wd) : Ex → En → Rg → (Bool → Rg → Prop) → Prop
  | .one a, env => a.T Γ env
  | .and a b, env => wAndT (a.T Γ env) (b.T Γ env)
  | .or a b, env => wOrT (a.T Γ env) (b.T Γ env)
  | .not a, env => fun g Q => a.T Γ env g fun k g1 => Q (!k) g1
  | .cmp op a b, env => fun g Q => a.W Γ env g fun r1 g1 => b.W Γ env g1 fun r2 g2 => op.B r1 r2 g2 (wantB Q)
  | .var i, env => fun g Q => wVar env i g (wantB Q)
  | .call f es, env => fun g Q => es.W Γ env g fun rs g1 => Γ.fn f rs g1 (wantB Q)
  | .bi b es, env => fun g Q => es.W Γ env g fun rs g1 => b.B rs g1 (wantB Q)
  | .isin a T, env => fun g Q => a.W Γ env g fun r g1 => ∃ t b, tyR g1 r = some t ∧ kitB t (tyNames.getD T "") = some b ∧ wantB Q (.dat (.bl b)) g1
  | .isin2 a T U, env => fun g Q => a.W Γ env g fun r g1 => ∃ t b b', tyR g1 r = some t ∧ kitB t (tyNames.getD T "") = some b ∧ kitB t (tyNames.getD U "") = some b' ∧ wantB Q (.dat (.bl (b || b'))) g1
  | .ix k a b, env => fun g Q => a.W Γ env g fun r1 g1 => b.W Γ env g1 fun r2 g2 => k.B r1 r2 g2 (wantB Q)
  | .chain o1 o2 a b c, env => fun g Q => a.W Γ env g fun r1 g1 => b.W Γ env g1 fun r2 g2 => o1.B r1 r2 g2 (wantB fun k g3 => (k = true → c.W Γ env g3 fun r3 g4 => o2.B r2 r3 g4 (wantB Q)) ∧ (k = false → Q false g3))
  | _, _ => fun _ _ => False
def Es.W (Γ : Wd) : Es → En → Rg → (List Rv → Rg → Prop) → Prop
  | .nil, _ => fun g Q => Q [] g
  | .cons e es, env => fun g Q => e.W Γ env g fun r g1 => es.W Γ env g1 fun rs g2 => Q (r :: rs) g2
end
mutual
def Sm.W (Γ : Wd) : Sm → SWt
  | .set i e => fun env g N R => e.W Γ env g fun r g1 => N (env.set i (some r)) g1
  | .setC i e => fun env g N R => e.W Γ env g fun r g1 => N (env.set i (some r)) g1
  | .setIx a b e => fun env g N R => e.W Γ env g fun r g1 => a.W Γ env g1 fun ro g2 => b.W Γ env g2 fun ri g3 => wSetIx ro ri r g3 fun g4 => N env g4
  | .setKey a b e => fun env g N R => e.W Γ env g fun r g1 => a.W Γ env g1 fun ro g2 => b.W Γ env g2 fun ri g3 => wSetKey ro ri r g3 fun g4 => N env g4
  | .expr e => fun env g N R => e.W Γ env g fun _ g1 => N env g1
  | .ret e => fun env g N R => e.W Γ env g R
  | .ite c a b => fun env g N R => c.T Γ env g fun k g1 => (k = true → a.W Γ env g1 N R) ∧ (k = false → b.W Γ env g1 N R)
  | .for_ tg ik a b body => WFor (fun env => wIter ik (a.W Γ env) (b.W Γ env)) tg (body.W Γ)
  | .while_ c body => WWhile (c.T Γ) (body.W Γ)
  | .never => fun _ _ _ _ => False
  | .pass => fun env g N _ => N env g
def Ss.W (Γ : Wd) : Ss → SWt
  | .nil => fun env g N _ => N env g
  | .cons s ss => fun env g N R => s.W Γ env g (fun env g => ss.W Γ env g N R) R
end
end DW

/-! ## DW10.lean -/
set_option Elab.async false
set_option linter.all false
set_option maxRecDepth 100000
set_option maxHeartbeats 4000000
set_option autoImplicit false
/-! DW10: the correspondence with the program's text. -/
namespace DW
open PySem PySem.Spec L2
open PyProof.Rows hiding St

structure Tbl where
  N : List Str
  sc : Scope
  ks : List Str
  fn : List Str
  gl : List (Str × Int)
  dt : List Str
  top : Bool
/-- its words, with what the top has written -/
abbrev Tbl.kt (tb : Tbl) (X : Cx) : Kt := ⟨tb.ks, X.K⟩
def nst : Expr → Bool | .Starred .. => false | _ => true
def nsl : Expr → Bool | .Slice .. => false | _ => true
def ncp : Expr → Bool | .ListComp .. => false | .SetComp .. => false | .DictComp .. => false | _ => true
def ncall : Expr → Bool | .Call .. => false | _ => true
def nset : Expr → Bool | .Set .. => false | _ => true
def okN (x : Str) : Bool := !(x == ("__debug__" : Str)) && !(x == ("__classdict__" : Str)) && !(x == ("__name__" : Str))
def visB (sc : Scope) (x : Str) : Bool := match sc.names.lookup x with | some .local => true | some .cell => true | some .free => true | _ => false
def glB (sc : Scope) (x : Str) : Bool := match sc.names.lookup x with | some .globalImplicit => true | _ => false
def tgB (tb : Tbl) (x : Str) : Bool := match tb.sc.names.lookup x with | some .local => true | some .cell => tb.top | _ => false
def BOp.ok : BOp → Operator → Bool
  | .addI, .Add => true | .subI, .Sub => true | .mulI, .Mult => true | .fdivI, .FloorDiv => true | .modI, .Mod => true | .powI, .Pow => true | .cat, .Add => true | .catT, .Add => true | .rep, .Mult => true
  | _, _ => false
def COp.ok : COp → CmpOp → Bool
  | .lt, .Lt => true | .le, .LtE => true | .gt, .Gt => true | .ge, .GtE => true | .eq, .Eq => true | .ne, .NotEq => true | .isN, .Is => true | .notN, .IsNot => true | .inF, .In => true | .notIn, .NotIn => true
  | _, _ => false
def Bi.nm : Bi → Str
  | .len => "len" | .int1 => "int" | .min2 => "min" | .any1 => "any" | .max1 => "max" | .list1 => "list" | .tup1 => "tuple" | .dict1 => "dict" | .sort1 => "sorted"
def isLC : Expr → Bool | .ListComp .. => true | _ => false
def isComp : Ex → Bool | .comp .. => true | _ => false
def chOk : COp → Bool | .lt => true | .le => true | .gt => true | .ge => true | _ => false
def corrTg (tb : Tbl) : Tg → Expr → Bool
  | .name i, e => match e with | .Name x _ => decide (tb.N[i]? = some x) && tgB tb x | _ => false
  | .pair i j, e => match e with | .Tuple es _ _ => (match es with | [.Name x _, .Name y _] => decide (tb.N[i]? = some x) && tgB tb x && decide (tb.N[j]? = some y) && tgB tb y | _ => false) | _ => false
def isPair : Expr → Bool | .Tuple .. => true | _ => false
def keysB (ks : List Str) : List Nat → List (Option Expr) → Bool
  | [], l => l.isEmpty
  | k :: r, l => match l with | some (.Constant (.str x) _ _) :: t => decide (ks[k]? = some x) && keysB ks r t | _ => false
def Tbl.blk (tb : Tbl) (scope : Scope) : Tbl := { tb with sc := relS scope tb.sc, top := false }
mutual
def Ex.ok (tb : Tbl) : Ex → Expr → Bool
  | .var i, e => match e with | .Name x _ => decide (tb.N[i]? = some x) && visB tb.sc x && okN x | _ => false
  | .int n, e => match e with | .Constant (.int m) _ _ => n == m | _ => false
  | .str k, e => match e with | .Constant (.str x) _ _ => decide (tb.ks[k]? = some x) | _ => false
  | .bl b, e => match e with | .Constant (.bool c) _ _ => b == c | _ => false
  | .non, e => match e with | .Constant .none _ _ => true | _ => false
  | .glob k, e => match e with | .Name x _ => decide ((tb.gl[k]?).map (·.1) = some x) && glB tb.sc x && okN x | _ => false
  | .tup es, e => match e with | .Tuple l _ _ => es.ok tb l | _ => false
  | .lst es, e => match e with | .List l _ => es.ok tb l | _ => false
  | .dic keys es, e => match e with | .Dict kl l _ => keysB tb.ks keys kl && es.ok tb l && !kl.isEmpty && decide (kl.length ≤ 15) && decide (kl.length = l.length) | _ => false
  | .bin op a b, e => match e with | .BinOp l o r _ => op.ok o && a.ok tb l && b.ok tb r | _ => false
  | .neg a, e => match e with | .UnaryOp .USub x _ => a.ok tb x | _ => false
  | .cmp op a b, e => match e with | .Compare l [o] [r] _ => op.ok o && nset r && a.ok tb l && b.ok tb r | _ => false
  | .chain o1 o2 a b c, e => match e with | .Compare l [p1, p2] [r1, r2] _ => o1.ok p1 && o2.ok p2 && chOk o1 && chOk o2 && nset r2 && a.ok tb l && b.ok tb r1 && c.ok tb r2 | _ => false
  | .one a, e => match e with | .BoolOp _ [x] _ => a.ok tb x | _ => false
  | .and a b, e => match e with | .BoolOp .And (x :: y :: r) p => a.ok tb x && b.ok tb (.BoolOp .And (y :: r) p) | _ => false
  | .or a b, e => match e with | .BoolOp .Or (x :: y :: r) p => a.ok tb x && b.ok tb (.BoolOp .Or (y :: r) p) | _ => false
  | .not a, e => match e with | .UnaryOp .Not x _ => a.ok tb x | _ => false
  | .ix _ a b, e => match e with | .Subscript x y _ => nsl y && a.ok tb x && b.ok tb y | _ => false
  | .slL a hl lo hh hi, e => match e with | .Subscript x (.Slice l u none _) _ => a.ok tb x && (match hl, l with | false, none => true | true, some z => lo.ok tb z | _, _ => false) && (match hh, u with | false, none => true | true, some z => hi.ok tb z | _, _ => false) | _ => false
  | .slT a hl lo hh hi, e => match e with | .Subscript x (.Slice l u none _) _ => a.ok tb x && (match hl, l with | false, none => true | true, some z => lo.ok tb z | _, _ => false) && (match hh, u with | false, none => true | true, some z => hi.ok tb z | _, _ => false) | _ => false
  | .call f es, e => match e with | .Call (.Name x _) (a :: l) [] _ => decide (tb.fn[f]? = some x) && glB tb.sc x && okN x && es.ok tb (a :: l) | _ => false
  | .bi b es, e => match e with | .Call (.Name x _) (a :: l) [] _ => decide (x = b.nm) && glB tb.sc x && es.ok tb (a :: l) | _ => false
  | .isin a T, e => match e with | .Call (.Name x _) [o, .Name t _] [] _ => decide (x = "isinstance") && glB tb.sc x && glB tb.sc t && decide ((tyNames[T]?).map Str.ofString = some t) && nst o && a.ok tb o | _ => false
  | .isin2 a T U, e => match e with | .Call (.Name x _) [o, .Tuple [.Name t _, .Name u _] _ _] [] _ => decide (x = "isinstance") && glB tb.sc x && glB tb.sc t && glB tb.sc u && decide ((tyNames[T]?).map Str.ofString = some t) && decide ((tyNames[U]?).map Str.ofString = some u) && nst o && a.ok tb o | _ => false
  | .app o e1, e => match e with | .Call (.Attribute x m ap) [y] [] p => decide (m = "append") && (ap.endLine == p.line) && ncall x && nst y && o.ok tb x && e1.ok tb y | _ => false
  | .pop o, e => match e with | .Call (.Attribute x m ap) [] [] p => decide (m = "pop") && (ap.endLine == p.line) && ncall x && o.ok tb x | _ => false
  | .popAt o e1, e => match e with | .Call (.Attribute x m ap) [y] [] p => decide (m = "pop") && (ap.endLine == p.line) && ncall x && nst y && o.ok tb x && e1.ok tb y | _ => false
  | .clr o, e => match e with | .Call (.Attribute x m ap) [] [] p => decide (m = "clear") && (ap.endLine == p.line) && ncall x && o.ok tb x | _ => false
  | .comp elt tg ik a b hc c own, e => match e with
    | .ListComp el [⟨t, it, ifs, 0⟩] scope _ => blkC tb.N tb.sc scope (own.map fun i => (tb.N.getD i ⟨#[]⟩, i)) && corrTg (tb.blk scope) tg t && tg.at.all (fun i => own.contains i) && nset it && elt.ok (tb.blk scope) el &&
        (match hc, ifs with | false, [] => true | true, [z] => c.ok (tb.blk scope) z | _, _ => false) &&
        (match ik with
          | .list => a.ok tb it
          | .r1 => (match it with | .Call (.Name x _) [y] [] _ => decide (x = "range") && glB tb.sc x && nst y && a.ok tb y | _ => false)
          | .r2 => (match it with | .Call (.Name x _) [y, z] [] _ => decide (x = "range") && glB tb.sc x && nst y && nst z && a.ok tb y && b.ok tb z | _ => false)
          | .en => (match it with | .Call (.Name x _) [y] [] _ => decide (x = "enumerate") && glB tb.sc x && isPair t && nst y && a.ok tb y | _ => false))
    | _ => false
  | .frz a, e => a.ok tb e
  | .lrg a, e => match e with | .Call (.Name x _) [.Call (.Name y _) [z] [] _] [] _ => decide (x = "list") && decide (y = "range") && glB tb.sc x && glB tb.sc y && nst z && a.ok tb z | _ => false
  | .rev a, e => match e with | .Subscript x (.Slice none none (some (.UnaryOp .USub (.Constant (.int m) _ _) _)) _) _ => m == 1 && a.ok tb x | _ => false
  | .tab t a, e => match e with | .Subscript (.Name x _) y _ => decide (tb.dt[t]? = some x) && glB tb.sc x && okN x && nsl y && a.ok tb y | _ => false
  | .lzip es, e => match e with | .Call (.Name x _) [.Call (.Name y _) [u, v] [] _] [] _ => decide (x = "list") && decide (y = "zip") && glB tb.sc x && glB tb.sc y && es.ok tb [u, v] | _ => false
def Es.ok (tb : Tbl) : Es → List Expr → Bool
  | .nil, l => l.isEmpty
  | .cons e es, l => match l with | x :: r => nst x && e.ok tb x && es.ok tb r | [] => false
end
mutual
def Sm.ok (tb : Tbl) : Sm → Stmt → Bool
  | .set i e, s => match s with | .Assign [.Name x _] v _ => decide (tb.N[i]? = some x) && tgB tb x && (ncp v || (isLC v && (match tb.sc.names.lookup x with | some .cell => true | _ => false))) && e.ok tb v | _ => false
  | .setC i e, s => match s with
    | .Assign [.Name x px] v p => (match v with
      | .ListComp _ _ scope lp => isComp e && decide (tb.N[i]? = some x) && (match tb.sc.names.lookup x with | some .local => true | _ => false) && (px.line == lp.line) && !(scope.names.any fun (n, k) => n == x && (k == .local || k == .cell)) && e.ok tb v
      | _ => false)
    | _ => false
  | .setIx a b e, s => match s with | .Assign [.Subscript x y _] v _ => ncp v && nsl y && a.ok tb x && b.ok tb y && e.ok tb v | _ => false
  | .setKey a b e, s => match s with | .Assign [.Subscript x y _] v _ => ncp v && nsl y && a.ok tb x && b.ok tb y && e.ok tb v | _ => false
  | .expr e, s => match s with | .Expr v _ => ncp v && e.ok tb v | _ => false
  | .ret e, s => match s with | .Return (some v) _ => e.ok tb v | _ => false
  | .ite c a b, s => match s with | .If t x y _ => c.ok tb t && a.ok tb x && b.ok tb y | _ => false
  | .for_ tg ik a b body, s => match s with
    | .For t it bd [] _ => corrTg tb tg t && nset it && body.ok tb bd &&
        (match ik with
          | .list => a.ok tb it
          | .r1 => (match it with | .Call (.Name x _) [y] [] _ => decide (x = "range") && glB tb.sc x && nst y && a.ok tb y | _ => false)
          | .r2 => (match it with | .Call (.Name x _) [y, z] [] _ => decide (x = "range") && glB tb.sc x && nst y && nst z && a.ok tb y && b.ok tb z | _ => false)
          | .en => (match it with | .Call (.Name x _) [y] [] _ => decide (x = "enumerate") && glB tb.sc x && isPair t && nst y && a.ok tb y | _ => false))
    | _ => false
  | .while_ c body, s => match s with | .While t bd [] _ => c.ok tb t && body.ok tb bd | _ => false
  | .never, _ => true
  | .pass, s => match s with | .Pass _ => true | _ => false
def Ss.ok (tb : Tbl) : Ss → List Stmt → Bool
  | .nil, l => l.isEmpty
  | .cons s ss, l => match l with | x :: r => s.ok tb x && ss.ok tb r | [] => false
end

/-! ### what the context must be -/
structure XOk (tb : Tbl) (Γ : Wd) (X : Cx) : Prop where
  N : X.N = tb.N
  sc : X.env.scope = tb.sc
  nd : tb.N.Nodup
  kind : tb.sc.kind = .function
  calm : X.calm = true
  hu : X.A.units + 65 < cLine
  ks : KsOk (tb.kt X)
  top : tb.top = true → ∀ x, X.fn x = true
  bn : ∀ x ∈ (["len", "isinstance", "int", "bool", "str", "tuple", "list", "range", "min", "max", "any", "enumerate", "zip", "dict", "sorted"] : List Str), X.mg x = none
  fn : ∀ (i : Nat) (x : Str), tb.fn[i]? = some x → FnIn (tb.kt X) X x (Γ.fn i)
  gl : ∀ (i : Nat) (x : Str), (tb.gl[i]?).map (·.1) = some x → ∃ n t, Γ.gl[i]? = some n ∧ X.mg x = some (.int n t)
  dt : ∀ (i : Nat) (x : Str), tb.dt[i]? = some x → TabOk (tb.kt X) X x (Γ.dt.getD i [])
  pass : PassesOwn (model X.prog X.w) X.A X.env X.xe
section
variable {tb : Tbl} {Γ : Wd} {X : Cx} {env : Env}
theorem starEach_n {e : Expr} {es : List Expr} (h : nst e = true) : starEach (e :: es) env = (false, eval e env) :: starEach es env := by cases e <;> first | rfl | simp [nst] at h
theorem plain_ix {e : Expr} (h : nsl e = true) : PlainIx e := fun o i => by cases e <;> first | rfl | simp [nsl] at h
theorem plain_no {e : Expr} (h : nsl e = true) : NoSl e := fun o i => by cases e <;> first | rfl | simp [nsl] at h
theorem swaps_n {e : Expr} {t : Option Expr} {l : Nat} (h : ncp e = true) : swapsWith e t l env = pure false := by cases e <;> first | rfl | simp [ncp] at h
theorem base_n {o : Expr} {a : Str} {w : Sem Value} (h : ncall o = true) : attributeBase o a env w = w := by cases o <;> first | rfl | simp [ncall] at h
theorem marks_n {op : CmpOp} {e : Expr} (h : nset e = true) : behindInMarks op e = false := by cases e <;> first | rfl | simp [nset] at h
theorem folded_n {e : Expr} (h : nset e = true) (x : Value) : foldedSetIterable e env x = pure x := by cases e <;> first | rfl | simp [nset] at h
theorem assign_n {o i : Expr} {pos : Pos} (h : nsl i = true) (v : Value) : assign (.Subscript o i pos) env v = (do
      let ov ← holding [v] (eval o env)
      let iv ← holding [v, ov] (eval i env)
      standAt pos
      holding [v, ov, iv] (setItem ov iv v)
      release [v, ov, iv] []) := by cases i <;> first | rfl | simp [nsl] at h
theorem okN_d {x : Str} (h : okN x = true) : (x == ("__debug__" : Str)) = false ∧ (x == ("__classdict__" : Str)) = false ∧ x ≠ "__name__" := by
  unfold okN at h
  simp only [Bool.and_eq_true, Bool.not_eq_true'] at h
  exact ⟨h.1.1, h.1.2, fun z => by rw [z] at h; exact absurd h.2 (by decide)⟩
theorem XOk.vis (h : XOk tb Γ X) {x : Str} (v : visB tb.sc x = true) : Vis X.env.scope x := by
  rw [h.sc]
  unfold visB at v
  unfold Vis
  split at v <;> simp_all
theorem XOk.glo (h : XOk tb Γ X) {x : Str} (v : glB tb.sc x = true) : Gl X x := by
  unfold glB at v
  show X.env.scope.names.lookup x = _
  rw [h.sc]
  split at v
  · assumption
  · cases v
theorem XOk.tg (h : XOk tb Γ X) {x : Str} (v : tgB tb x = true) : Loc X.env.scope x ∧ (X.fn x = true ∨ X.env.scope.names.lookup x = some .local) := by
  rw [h.sc]
  unfold tgB at v
  split at v
  · rename_i e; exact ⟨.inl e, .inr e⟩
  · rename_i e; exact ⟨.inr e, .inl (h.top v x)⟩
  · cases v
theorem XOk.blk (h : XOk tb Γ X) (scope : Scope) (hk : scope.kind = .function) (s : Shared) (H : Hp) (Cc : Addr) (cl : List (Str × Addr)) (fp : List Addr) : XOk (tb.blk scope) Γ (X.blk s H scope (compEnvC scope cl Cc X.env) fp) where
  N := h.N
  sc := by show relS scope X.env.scope = relS scope tb.sc; rw [h.sc]
  nd := h.nd
  kind := hk
  calm := h.calm
  hu := h.hu
  ks := h.ks
  top := fun z => by cases z
  bn := h.bn
  fn := fun i x e => ⟨(h.fn i x e).mono, (h.fn i x e).fn⟩
  dt := h.dt
  gl := h.gl
  pass := PassesOwn.never
end
end DW

/-! ## DW11.lean -/
set_option Elab.async false
set_option linter.all false
set_option maxRecDepth 100000
set_option maxHeartbeats 4000000
set_option autoImplicit false
/-! DW11: the reading is sound. -/
namespace DW
open PySem PySem.Spec L2
open PyProof.Rows hiding St

section
variable {ks : Kt} {X : Cx} {C : Ent} {env : En} {pos : Pos}
theorem se_neg {a : Expr} {Wa : Rg → RQ → Prop} (ha : SE ks X C env a Wa) : SE ks X C env (.UnaryOp .USub a pos) (fun g Q => Wa g fun r g1 => ∃ i, r = .dat (.int i) ∧ Q (.dat (.int (-i))) g1) := by
  intro g Q h σ F H κ Qv ok k
  refine wE_of (pe_un un_neg pe_w) (ha g _ h σ F H κ _ ok fun v F1 H1 κ1 r1 g1 ok1 s1 p1 rv1 q1 => ?_)
  obtain ⟨i, rfl, q⟩ := q1
  exact ⟨i, At.intI rv1, k _ F1 H1 κ1 _ g1 ok1 s1 p1 (rv_int _) q⟩
theorem se_frz {a : Expr} {Wa : Rg → RQ → Prop} (ha : SE ks X C env a Wa) : SE ks X C env a (fun g Q => Wa g fun r g1 => wFrz r g1 fun d g2 => Q (.dat d) g2) := by
  intro g Q h σ F H κ Qv ok k
  refine ha g _ h σ F H κ _ ok fun v F1 H1 κ1 r1 g1 ok1 s1 p1 rv1 q1 => ?_
  obtain ⟨F2, d, g2, s2, ok2, a2, q⟩ := wFrz_ok q1 ok1 rv1
  exact k _ F2 H1 κ1 _ g2 ok2 (s1.trans s2) p1 (rv_d a2) q
theorem st_chain {a b c : Expr} {Wa Wb Wc : Rg → RQ → Prop} {r r' : R2} {B B' : Rv → Rv → Rg → RQ → Prop} {op op' : CmpOp} (ho : OpR X (compareOp op) r) (ho' : OpR X (compareOp op') r') (ha : SE ks X C env a Wa) (hb : SE ks X C env b Wb) (hc : SE ks X C env c Wc)
    (hB : BinOk ks X C env r B) (hB' : BinOk ks X C env r' B') (hm : lastMarks [op, op'] [b, c] = false) :
    ST ks X C env (.Compare a [op, op'] [b, c] pos) (fun g Q => Wa g fun r1 g1 => Wb g1 fun r2 g2 => B r1 r2 g2 (wantB fun k g3 => (k = true → Wc g3 fun r3 g4 => B' r2 r3 g4 (wantB Q)) ∧ (k = false → Q false g3))) := by
  intro g Q h σ F H κ Qv ok k
  refine wT_of (pt_chain ho ho' (pe_w (e := a)) (pe_w (e := b)) (pe_w (e := c)) hm) ?_
  refine ha g _ h σ F H κ _ ok fun v F1 H1 κ1 r1 g1 ok1 s1 p1 rv1 q1 => hb g1 _ q1 σ F1 H1 κ1 _ ok1 fun w F2 H2 κ2 r2 g2 ok2 s2 p2 rv2 q2 => ?_
  refine hB g2 r1 r2 _ q2 σ F2 H2 κ2 _ v w ok2 (rv1.mono s2 p2) rv2 fun z F3 H3 κ3 r3 g3 ok3 s3 p3 rv3 q3 => ?_
  obtain ⟨k3, rfl, q4, q5⟩ := q3
  refine ⟨k3, At.blI rv3, ?_⟩
  cases k3 with
  | true =>
    rw [if_pos rfl]
    refine hc g3 _ (q4 rfl) σ F3 H3 κ3 _ ok3 fun u F4 H4 κ4 r4 g4 ok4 s4 p4 rv4 q6 => hB' g4 r2 r4 _ q6 σ F4 H4 κ4 _ w u ok4 (rv2.mono (s3.trans s4) (p3.trans p4)) rv4 fun z F5 H5 κ5 r5 g5 ok5 s5 p5 rv5 q7 => ?_
    obtain ⟨b, rfl, q7⟩ := q7
    exact ⟨b, At.blI rv5, k b F5 H5 κ5 g5 ok5 ((((s1.trans s2).trans s3).trans s4).trans s5) ((((p1.trans p2).trans p3).trans p4).trans p5) q7⟩
  | false =>
    rw [if_neg Bool.false_ne_true]
    exact ⟨false, rfl, k false F3 H3 κ3 g3 ok3 ((s1.trans s2).trans s3) ((p1.trans p2).trans p3) (q5 rfl)⟩
/-- an operator's rule, whatever rule it is -/
def OpS (ks : Kt) (X : Cx) (C : Ent) (env : En) (f : Value → Value → Sem Value) (B : Rv → Rv → Rg → RQ → Prop) : Prop := ∃ r, OpR X f r ∧ BinOk ks X C env r B
theorem BOp.sound {op : BOp} {o : Operator} (h : op.ok o = true) : OpS ks X C env (binaryOp o) op.B := by
  cases op <;> cases o <;> first | (simp [BOp.ok] at h; done) | skip
  · exact ⟨_, op_add, binI⟩
  · exact ⟨_, op_sub, binI⟩
  · exact ⟨_, op_mul, binIC⟩
  · exact ⟨_, op_fdiv, binIC⟩
  · exact ⟨_, op_mod, binIC⟩
  · exact ⟨_, op_pow, binIC⟩
  · exact ⟨_, op_cat, binCat⟩
  · exact ⟨_, op_catT, binCatT⟩
  · exact ⟨_, op_rep, binRep⟩
theorem COp.sound {op : COp} {o : CmpOp} (hk : KsOk ks) (hu : X.A.units + 65 < cLine) (h : op.ok o = true) : OpS ks X C env (compareOp o) op.B := by
  cases op <;> cases o <;> first | (simp [COp.ok] at h; done) | skip
  · exact ⟨_, op_lt, binB⟩
  · exact ⟨_, op_le, binB⟩
  · exact ⟨_, op_gt, binB⟩
  · exact ⟨_, op_ge, binB⟩
  · exact ⟨_, op_eqD (by omega), binEq hk⟩
  · exact ⟨_, op_neD (by omega), binNe hk⟩
  · exact ⟨_, op_isN, binIs⟩
  · exact ⟨_, op_notN, binIsNot⟩
  · exact ⟨_, op_inD hu, binIn hk false⟩
  · exact ⟨_, op_notInD hu, binIn hk true⟩
theorem IxK.sound {k : IxK} {a b : Expr} {Wa Wb : Rg → RQ → Prop} (hK : ks.K = X.K) (hk : KsOk ks) (hu : X.A.units + 65 < cLine) (hs : nsl b = true) (ha : SE ks X C env a Wa) (hb : SE ks X C env b Wb) :
    SE ks X C env (.Subscript a b pos) (fun g Q => Wa g fun r1 g1 => Wb g1 fun r2 g2 => k.B r1 r2 g2 Q) := by
  cases k
  · exact se_ix ix_list (plain_ix hs) ha hb binIxL
  · exact se_ix ix_tup (plain_ix hs) ha hb binIxT
  · exact se_ix ix_list (plain_ix hs) ha hb (binIxS hK)
  · exact se_dget hk (by omega) (plain_no hs) ha hb
theorem so_part {h : Bool} {o : Option Expr} {W : Rg → RQ → Prop} (hs : match h, o with | false, none => True | true, some z => SE ks X C env z W | _, _ => False) : SO ks X C env o (wPart h W) := by
  cases h <;> cases o <;> first | exact hs.elim | skip
  · exact so_none
  · exact so_some hs
end
theorem Es.plain {tb : Tbl} {env : Env} {pos : Pos} : ∀ {es : Es} {l : List Expr}, es.ok tb l = true → (backTo pos (starEach l env)).any (·.1) = false
  | .nil, [], _ => rfl
  | .nil, _ :: _, h => by simp [Es.ok] at h
  | .cons _ _, [], h => by simp [Es.ok] at h
  | .cons e es, x :: r, h => by
    simp only [Es.ok, Bool.and_eq_true] at h
    rw [starEach_n h.1.1]
    show (false || (backTo pos (starEach r env)).any (·.1)) = false
    rw [Es.plain h.2]; rfl
theorem Es.head {tb : Tbl} : ∀ {es : Es} {x : Expr} {r : List Expr}, es.ok tb (x :: r) = true → nst x = true ∧ ∃ es' : Es, es'.ok tb r = true
  | .nil, _, _, h => by simp [Es.ok] at h
  | .cons e es, x, r, h => by
    simp only [Es.ok, Bool.and_eq_true] at h
    exact ⟨h.1.1, es, h.2⟩
theorem ty_boot {T : Nat} {t : Str} (h : (tyNames[T]?).map Str.ofString = some t) : bootBuiltins t = some (.type (tyNames.getD T "")) ∧ (t == ("__debug__" : Str)) = false ∧ t ≠ "__name__" ∧ t ∈ (["len", "isinstance", "int", "bool", "str", "tuple", "list", "range", "min", "max", "any", "enumerate", "zip", "dict", "sorted"] : List Str) := by
  match T, h with
  | 0, h => cases h; exact by decide +kernel
  | 1, h => cases h; exact by decide +kernel
  | 2, h => cases h; exact by decide +kernel
  | 3, h => cases h; exact by decide +kernel
  | 4, h => cases h; exact by decide +kernel
  | T + 5, h => simp [tyNames] at h
theorem Bi.mem (b : Bi) : b.nm ∈ (["len", "isinstance", "int", "bool", "str", "tuple", "list", "range", "min", "max", "any", "enumerate", "zip", "dict", "sorted"] : List Str) ∧ (b.nm == ("__debug__" : Str)) = false ∧ b.nm ≠ "__name__" := by cases b <;> decide +kernel
section
variable {tb : Tbl} {Γ : Wd} {X : Cx} {C : Ent} {env : En} {pos : Pos}
theorem Bi.sound {b : Bi} {x : Str} {p : Pos} {e : Expr} {l : List Expr} {es : Es} {Ws : Rg → (List Rv → Rg → Prop) → Prop} (hX : XOk tb Γ X) (hx : x = b.nm) (hg : glB tb.sc x = true) (ho : es.ok tb (e :: l) = true) (ha : SA (tb.kt X) X C env (e :: l) Ws) :
    SE (tb.kt X) X C env (.Call (.Name x p) (e :: l) [] pos) (fun g Q => Ws g fun rs g1 => b.B rs g1 Q) := by
  subst hx
  obtain ⟨m1, m2, m3⟩ := b.mem
  obtain ⟨h1, es', h2⟩ := Es.head ho
  have hs := starEach_n (env := X.env) (es := l) h1
  have hp := Es.plain (env := X.env) (pos := pos) h2
  have hm := hX.bn _ m1
  cases b
  · exact se_bi call_len_seq (callLen rfl) (hX.glo hg) hm PySem.boot_len ha m3 m2 hs hp
  · exact se_ty call_int1 callInt (hX.glo hg) hm PyProof.Rows.boot_int ha m3 m2 hs hp
  · exact se_bi (call_min2 hX.calm) callMin2 (hX.glo hg) hm PyProof.Rows.boot_min ha m3 m2 hs hp
  · exact se_bi (cr_any hX.calm) callAny (hX.glo hg) hm PyProof.Rows.boot_any ha m3 m2 hs hp
  · exact se_bi (cr_max hX.calm) callMax (hX.glo hg) hm PyProof.Rows.boot_max ha m3 m2 hs hp
  · exact se_ty call_list_of callList (hX.glo hg) hm PyProof.Rows.boot_list ha m3 m2 hs hp
  · exact se_ty call_tuple_of callTup (hX.glo hg) hm PyProof.Rows.boot_tuple ha m3 m2 hs hp
  · exact se_ty call_dictD callDict (hX.glo hg) hm PyProof.Rows.boot_dict ha m3 m2 hs hp
  · exact se_bi cr_sortedI callSort (hX.glo hg) hm PyProof.Rows.boot_sorted ha m3 m2 hs hp
/-- what is walked -/
theorem it_sound {ik : ItK} {tg it : Expr} {Wa Wb : Rg → RQ → Prop} {a b : Ex} (hX : XOk tb Γ X) (sa : ∀ e, a.ok tb e = true → SE (tb.kt X) X C env e Wa) (sb : ∀ e, b.ok tb e = true → SE (tb.kt X) X C env e Wb)
    (h : (match ik with
          | .list => a.ok tb it
          | .r1 => (match it with | .Call (.Name x _) [y] [] _ => decide (x = "range") && glB tb.sc x && nst y && a.ok tb y | _ => false)
          | .r2 => (match it with | .Call (.Name x _) [y, z] [] _ => decide (x = "range") && glB tb.sc x && nst y && nst z && a.ok tb y && b.ok tb z | _ => false)
          | .en => (match it with | .Call (.Name x _) [y] [] _ => decide (x = "enumerate") && glB tb.sc x && isPair tg && nst y && a.ok tb y | _ => false)) = true) :
    SI (tb.kt X) X C env tg it (wIter ik Wa Wb) := by
  cases ik with
  | list => exact si_list (sa it h)
  | r1 =>
    dsimp only at h
    split at h
    · rename_i x p y q
      simp only [Bool.and_eq_true, decide_eq_true_eq] at h
      obtain ⟨⟨⟨h1, h2⟩, h3⟩, h4⟩ := h
      exact si_range1 h1 (hX.glo h2) (hX.bn _ (by rw [h1]; decide +kernel)) (sa y h4) (starEach_n h3)
    · cases h
  | r2 =>
    dsimp only at h
    split at h
    · rename_i x p y z q
      simp only [Bool.and_eq_true, decide_eq_true_eq] at h
      obtain ⟨⟨⟨⟨⟨h1, h2⟩, h3⟩, h4⟩, h5⟩, h6⟩ := h
      exact si_range2 h1 (hX.glo h2) (hX.bn _ (by rw [h1]; decide +kernel)) (sa y h5) (sb z h6) (by rw [starEach_n h3, starEach_n h4]; rfl) (starEach_n h4)
    · cases h
  | en =>
    dsimp only at h
    split at h
    · rename_i x p y q
      simp only [Bool.and_eq_true, decide_eq_true_eq] at h
      obtain ⟨⟨⟨⟨h1, h2⟩, h3⟩, h4⟩, h5⟩ := h
      cases tg <;> first | (simp [isPair] at h3; done) | skip
      exact si_enum h1 (hX.glo h2) (hX.bn _ (by rw [h1]; decide +kernel)) (sa y h5) (starEach_n h4)
    · cases h
theorem tg_sound {T : Tg} {tg : Expr} (hX : XOk tb Γ X) (h : corrTg tb T tg = true) : PG X tg (T.G X.K) := by
  have hN : X.N.Nodup := by rw [hX.N]; exact hX.nd
  cases T with
  | name i =>
    simp only [corrTg] at h
    split at h
    · rename_i x p
      simp only [Bool.and_eq_true, decide_eq_true_eq] at h
      obtain ⟨a, b⟩ := hX.tg h.2
      exact pg_n hN (by rw [hX.N]; exact h.1) a b
    · cases h
  | pair i j =>
    simp only [corrTg] at h
    split at h
    · split at h
      · simp only [Bool.and_eq_true, decide_eq_true_eq] at h
        obtain ⟨⟨⟨h1, h2⟩, h3⟩, h4⟩ := h
        obtain ⟨a, b⟩ := hX.tg h2
        obtain ⟨a', b'⟩ := hX.tg h4
        exact pg_p hX.calm hN (by rw [hX.N]; exact h1) a b (by rw [hX.N]; exact h3) a' b'
      · cases h
    · cases h
theorem comp_own {N : List Str} {own : List Nat} : (own.map fun i => (N.getD i ⟨#[]⟩, i)).map (·.2) = own := by rw [List.map_map]; exact (List.map_congr_left fun _ _ => rfl).trans (List.map_id own)
end
mutual
theorem Ex.sound {Γ : Wd} {C : Ent} : ∀ (m : Ex) {tb : Tbl} {X : Cx} {e : Expr} {env : En}, XOk tb Γ X → m.ok tb e = true → SE (tb.kt X) X C env e (m.W Γ env)
  | .var i, tb, X, e, env, hX, h => by
    simp only [Ex.ok] at h
    split at h
    · simp only [Bool.and_eq_true, decide_eq_true_eq] at h
      obtain ⟨⟨h1, h2⟩, h3⟩ := h
      obtain ⟨d1, d2, _⟩ := okN_d h3
      exact se_var (by rw [hX.N]; exact h1) (hX.vis h2) d1 d2
    · cases h
  | .int n, tb, X, e, env, hX, h => by
    simp only [Ex.ok] at h
    split at h
    · have := beq_iff_eq.mp h; subst this; exact se_int
    · cases h
  | .str k, tb, X, e, env, hX, h => by
    simp only [Ex.ok] at h
    split at h
    · exact se_str (of_decide_eq_true h)
    · cases h
  | .bl b, tb, X, e, env, hX, h => by
    simp only [Ex.ok] at h
    split at h
    · have := beq_iff_eq.mp h; subst this; exact se_bl
    · cases h
  | .non, tb, X, e, env, hX, h => by
    simp only [Ex.ok] at h
    split at h
    · exact se_non
    · cases h
  | .glob k, tb, X, e, env, hX, h => by
    simp only [Ex.ok] at h
    split at h
    · simp only [Bool.and_eq_true, decide_eq_true_eq] at h
      obtain ⟨⟨h1, h2⟩, h3⟩ := h
      obtain ⟨n, t, e1, e2⟩ := hX.gl k _ h1
      intro g Q hq
      obtain ⟨n', e3, q⟩ := hq
      rw [e1] at e3; cases e3
      exact se_glob (hX.glo h2) e2 (okN_d h3).1 g Q q
    · cases h
  | .tup es, tb, X, e, env, hX, h => by
    simp only [Ex.ok] at h
    split at h
    · exact se_tup (Es.sound es hX h)
    · cases h
  | .lst es, tb, X, e, env, hX, h => by
    simp only [Ex.ok] at h
    split at h
    · exact se_lst (Es.sound es hX h)
    · cases h
  | .dic keys es, tb, X, e, env, hX, h => by
    simp only [Ex.ok] at h
    split at h
    · rename_i kl l p
      simp only [Bool.and_eq_true, decide_eq_true_eq, Bool.not_eq_true'] at h
      obtain ⟨⟨⟨⟨h1, h2⟩, h3⟩, h4⟩, h5⟩ := h
      have hp := Es.soundP (C := C) (env := env) (pos := p) es hX (keys := keys) h1 h2 h5
      refine se_dic hX.ks hp ?_ h5 (by intro z; subst z; simp at h3) h4
      clear hp h2 h3 h4 h5
      revert keys
      induction kl with
      | nil => intro keys _; rfl
      | cons a t ih =>
        intro keys h1
        cases keys with
        | nil => simp [keysB] at h1
        | cons k r =>
          simp only [keysB] at h1
          split at h1
          · rename_i e1
            cases e1
            simp only [Bool.and_eq_true] at h1
            rw [List.all_cons, ih r h1.2]; rfl
          · cases h1
    · cases h
  | .bin op a b, tb, X, e, env, hX, h => by
    simp only [Ex.ok] at h
    split at h
    · simp only [Bool.and_eq_true] at h
      obtain ⟨⟨h1, h2⟩, h3⟩ := h
      obtain ⟨r, ho, hB⟩ := BOp.sound (ks := tb.kt X) (X := X) (C := C) (env := env) h1
      exact se_op ho (Ex.sound a hX h2) (Ex.sound b hX h3) hB
    · cases h
  | .neg a, tb, X, e, env, hX, h => by
    simp only [Ex.ok] at h
    split at h
    · exact se_neg (Ex.sound a hX h)
    · cases h
  | .cmp op a b, tb, X, e, env, hX, h => by
    simp only [Ex.ok] at h
    split at h
    · simp only [Bool.and_eq_true] at h
      obtain ⟨⟨⟨h1, h2⟩, h3⟩, h4⟩ := h
      obtain ⟨r, ho, hB⟩ := COp.sound (ks := tb.kt X) (X := X) (C := C) (env := env) hX.ks hX.hu h1
      exact se_cmp ho (marks_n h2) (Ex.sound a hX h3) (Ex.sound b hX h4) hB
    · cases h
  | .chain o1 o2 a b c, tb, X, e, env, hX, h => by
    simp only [Ex.ok] at h
    split at h
    · simp only [Bool.and_eq_true] at h
      obtain ⟨⟨⟨⟨⟨⟨⟨h1, h2⟩, _⟩, _⟩, h3⟩, h4⟩, h5⟩, h6⟩ := h
      obtain ⟨r, ho, hB⟩ := COp.sound (ks := tb.kt X) (X := X) (C := C) (env := env) hX.ks hX.hu h1
      obtain ⟨r', ho', hB'⟩ := COp.sound (ks := tb.kt X) (X := X) (C := C) (env := env) hX.ks hX.hu h2
      exact se_chain ho ho' (Ex.sound a hX h4) (Ex.sound b hX h5) (Ex.sound c hX h6) hB hB' rfl (pe_chain ho ho' pe_w pe_w pe_w (marks_n h3))
    · cases h
  | .one a, tb, X, e, env, hX, h => by
    simp only [Ex.ok] at h
    split at h
    · exact se_one (Ex.sound a hX h)
    · cases h
  | .and a b, tb, X, e, env, hX, h => by
    simp only [Ex.ok] at h
    split at h
    · simp only [Bool.and_eq_true] at h
      exact se_and (Ex.sound a hX h.1) (Ex.sound b hX h.2)
    · cases h
  | .or a b, tb, X, e, env, hX, h => by
    simp only [Ex.ok] at h
    split at h
    · simp only [Bool.and_eq_true] at h
      exact se_or (Ex.sound a hX h.1) (Ex.sound b hX h.2)
    · cases h
  | .not a, tb, X, e, env, hX, h => by
    simp only [Ex.ok] at h
    split at h
    · exact se_not (Ex.sound a hX h)
    · cases h
  | .ix k a b, tb, X, e, env, hX, h => by
    simp only [Ex.ok] at h
    split at h
    · simp only [Bool.and_eq_true] at h
      exact IxK.sound rfl hX.ks hX.hu h.1.1 (Ex.sound a hX h.1.2) (Ex.sound b hX h.2)
    · cases h
  | .slL a hl lo hh hi, tb, X, e, env, hX, h => by
    simp only [Ex.ok] at h
    split at h
    · simp only [Bool.and_eq_true] at h
      obtain ⟨⟨h1, h2⟩, h3⟩ := h
      refine se_slL (Ex.sound a hX h1) (so_part ?_) (so_part ?_)
      · split at h2 <;> first | exact True.intro | exact Ex.sound lo hX h2 | cases h2
      · split at h3 <;> first | exact True.intro | exact Ex.sound hi hX h3 | cases h3
    · cases h
  | .slT a hl lo hh hi, tb, X, e, env, hX, h => by
    simp only [Ex.ok] at h
    split at h
    · simp only [Bool.and_eq_true] at h
      obtain ⟨⟨h1, h2⟩, h3⟩ := h
      refine se_slT (Ex.sound a hX h1) (so_part ?_) (so_part ?_)
      · split at h2 <;> first | exact True.intro | exact Ex.sound lo hX h2 | cases h2
      · split at h3 <;> first | exact True.intro | exact Ex.sound hi hX h3 | cases h3
    · cases h
  | .call f es, tb, X, e, env, hX, h => by
    simp only [Ex.ok] at h
    split at h
    · simp only [Bool.and_eq_true, decide_eq_true_eq] at h
      obtain ⟨⟨⟨h1, h2⟩, h3⟩, h4⟩ := h
      obtain ⟨n1, es', n2⟩ := Es.head h4
      exact se_call (hX.fn f _ h1) (hX.glo h2) (Es.sound es hX h4) (okN_d h3).1 (starEach_n n1) (Es.plain n2)
    · cases h
  | .bi b es, tb, X, e, env, hX, h => by
    simp only [Ex.ok] at h
    split at h
    · simp only [Bool.and_eq_true, decide_eq_true_eq] at h
      obtain ⟨⟨h1, h2⟩, h3⟩ := h
      exact Bi.sound hX h1 h2 h3 (Es.sound es hX h3)
    · cases h
  | .isin a T, tb, X, e, env, hX, h => by
    simp only [Ex.ok] at h
    split at h
    · simp only [Bool.and_eq_true, decide_eq_true_eq] at h
      obtain ⟨⟨⟨⟨⟨h1, h2⟩, h3⟩, h4⟩, h5⟩, h6⟩ := h
      obtain ⟨t1, t2, t3, t4⟩ := ty_boot h4
      exact se_isin (Ex.sound a hX h6) (hX.glo h2) h1 (hX.bn _ (by rw [h1]; decide +kernel)) (hX.glo h3) (hX.bn _ t4) t1 t3 t2 (starEach_n h5)
    · cases h
  | .isin2 a T U, tb, X, e, env, hX, h => by
    simp only [Ex.ok] at h
    split at h
    · simp only [Bool.and_eq_true, decide_eq_true_eq] at h
      obtain ⟨⟨⟨⟨⟨⟨⟨h1, h2⟩, h3⟩, h3'⟩, h4⟩, h4'⟩, h5⟩, h6⟩ := h
      obtain ⟨t1, t2, t3, t4⟩ := ty_boot h4
      obtain ⟨u1, u2, u3, u4⟩ := ty_boot h4'
      exact se_isin2 (Ex.sound a hX h6) (hX.glo h2) h1 (hX.bn _ (by rw [h1]; decide +kernel)) (hX.glo h3) (hX.bn _ t4) t1 t3 t2 (hX.glo h3') (hX.bn _ u4) u1 u3 u2 (starEach_n h5)
    · cases h
  | .app o e1, tb, X, e, env, hX, h => by
    simp only [Ex.ok] at h
    split at h
    · simp only [Bool.and_eq_true, decide_eq_true_eq] at h
      obtain ⟨⟨⟨⟨⟨h1, h2⟩, h3⟩, h4⟩, h5⟩, h6⟩ := h
      subst h1
      exact se_append (Ex.sound o hX h5) (Ex.sound e1 hX h6) (base_n h3) h2 (starEach_n h4)
    · cases h
  | .pop o, tb, X, e, env, hX, h => by
    simp only [Ex.ok] at h
    split at h
    · simp only [Bool.and_eq_true, decide_eq_true_eq] at h
      obtain ⟨⟨⟨h1, h2⟩, h3⟩, h5⟩ := h
      subst h1
      exact se_pop (Ex.sound o hX h5) (base_n h3) h2
    · cases h
  | .popAt o e1, tb, X, e, env, hX, h => by
    simp only [Ex.ok] at h
    split at h
    · simp only [Bool.and_eq_true, decide_eq_true_eq] at h
      obtain ⟨⟨⟨⟨⟨h1, h2⟩, h3⟩, h4⟩, h5⟩, h6⟩ := h
      subst h1
      exact se_popAt (Ex.sound o hX h5) (Ex.sound e1 hX h6) (base_n h3) h2 (starEach_n h4)
    · cases h
  | .clr o, tb, X, e, env, hX, h => by
    simp only [Ex.ok] at h
    split at h
    · simp only [Bool.and_eq_true, decide_eq_true_eq] at h
      obtain ⟨⟨⟨h1, h2⟩, h3⟩, h5⟩ := h
      subst h1
      exact se_clear (Ex.sound o hX h5) (base_n h3) h2
    · cases h
  | .comp elt tg ik a b hc c own, tb, X, e, env, hX, h => by
    simp only [Ex.ok] at h
    split at h
    · rename_i el t it ifs scope p
      simp only [Bool.and_eq_true] at h
      obtain ⟨⟨⟨⟨⟨⟨h1, h2⟩, h3⟩, h4⟩, h5⟩, h6⟩, h7⟩ := h
      have hk : scope.kind = .function := (blkOk_by h1).kind
      have hB := fun s H0 Cc cl fp => hX.blk scope hk s H0 Cc cl fp
      have hi : SI (tb.kt X) X C env t it (wIter ik (a.W Γ env) (b.W Γ env)) := it_sound hX (fun e he => Ex.sound a hX he) (fun e he => Ex.sound b hX he) h7
      have hts : ifs.length ≤ 1 ∧ SC (tb.kt X) X C scope ifs (fun env => tstW hc (c.T Γ env)) := by
        split at h6
        · exact ⟨by simp, sc_nil⟩
        · exact ⟨by simp, sc_one fun env s H0 Cc cl fp => Ex.soundT c (tb := tb.blk scope) (hB s H0 Cc cl fp) h6⟩
        · cases h6
      have hp := se_comp (own := own.map fun i => (tb.N.getD i ⟨#[]⟩, i)) (pos := p) hX.calm (by rw [hX.N]; exact hX.nd) hi (by rw [hX.N, hX.sc]; exact blkOk_by h1) (fun s H0 Cc cl fp => tg_sound (hB s H0 Cc cl fp) h2) hts.1 hts.2
        (fun env s H0 Cc cl fp => Ex.sound elt (tb := tb.blk scope) (hB s H0 Cc cl fp) h5) (fun i hi => by rw [comp_own]; exact List.contains_iff_mem.mp (List.all_eq_true.mp h3 i hi)) (folded_n h4)
      rw [comp_own] at hp
      exact hp
    · cases h
  | .frz a, tb, X, e, env, hX, h => se_frz (Ex.sound a hX (by simpa only [Ex.ok] using h))
  | .lrg a, tb, X, e, env, hX, h => by
    simp only [Ex.ok] at h
    split at h
    · simp only [Bool.and_eq_true, decide_eq_true_eq] at h
      obtain ⟨⟨⟨⟨⟨h1, h2⟩, h3⟩, h4⟩, h5⟩, h6⟩ := h
      exact se_lrg hX.calm h1 h2 (hX.glo h3) (hX.bn _ (by rw [h1]; decide +kernel)) (hX.glo h4) (hX.bn _ (by rw [h2]; decide +kernel)) (Ex.sound a hX h6) (starEach_n h5)
    · cases h
  | .rev a, tb, X, e, env, hX, h => by
    simp only [Ex.ok] at h
    split at h
    · simp only [Bool.and_eq_true, beq_iff_eq] at h
      obtain ⟨h1, h2⟩ := h
      subst h1
      exact se_rev (Ex.sound a hX h2)
    · cases h
  | .tab t a, tb, X, e, env, hX, h => by
    simp only [Ex.ok] at h
    split at h
    · simp only [Bool.and_eq_true, decide_eq_true_eq] at h
      obtain ⟨⟨⟨⟨h1, h2⟩, h3⟩, h4⟩, h5⟩ := h
      exact se_tab (hX.glo h2) (okN_d h3).1 (hX.dt _ _ h1) (plain_ix h4) (Ex.sound a hX h5)
    · cases h
  | .lzip es, tb, X, e, env, hX, h => by
    simp only [Ex.ok] at h
    split at h
    · simp only [Bool.and_eq_true, decide_eq_true_eq] at h
      obtain ⟨⟨⟨⟨h1, h2⟩, h3⟩, h4⟩, h5⟩ := h
      obtain ⟨n1, es', n2⟩ := Es.head h5
      exact se_lzip hX.calm h1 h2 (hX.glo h3) (hX.bn _ (by rw [h1]; decide +kernel)) (hX.glo h4) (hX.bn _ (by rw [h2]; decide +kernel)) (Es.sound es hX h5) (starEach_n n1) (Es.plain n2)
    · cases h
theorem Ex.soundT {Γ : Wd} {C : Ent} : ∀ (m : Ex) {tb : Tbl} {X : Cx} {e : Expr} {env : En}, XOk tb Γ X → m.ok tb e = true → ST (tb.kt X) X C env e (m.T Γ env)
  | .one a, tb, X, e, env, hX, h => by
    simp only [Ex.ok] at h
    split at h
    · rename_i op x p
      exact st_w (sw_one (by cases op <;> simp) (Ex.soundT a hX h))
    · cases h
  | .and a b, tb, X, e, env, hX, h => st_w (Ex.soundW (.and a b) hX rfl h)
  | .or a b, tb, X, e, env, hX, h => st_w (Ex.soundW (.or a b) hX rfl h)
  | .not a, tb, X, e, env, hX, h => by
    simp only [Ex.ok] at h
    split at h
    · exact st_not (Ex.soundT a hX h)
    · cases h
  | .cmp op a b, tb, X, e, env, hX, h => by
    simp only [Ex.ok] at h
    split at h
    · simp only [Bool.and_eq_true] at h
      obtain ⟨⟨⟨h1, h2⟩, h3⟩, h4⟩ := h
      obtain ⟨r, ho, hB⟩ := COp.sound (ks := tb.kt X) (X := X) (C := C) (env := env) hX.ks hX.hu h1
      exact st_cmp ho (marks_n h2) (Ex.sound a hX h3) (Ex.sound b hX h4) hB
    · cases h
  | .chain o1 o2 a b c, tb, X, e, env, hX, h => by
    simp only [Ex.ok] at h
    split at h
    · simp only [Bool.and_eq_true] at h
      obtain ⟨⟨⟨⟨⟨⟨⟨h1, h2⟩, _⟩, _⟩, h3⟩, h4⟩, h5⟩, h6⟩ := h
      obtain ⟨r, ho, hB⟩ := COp.sound (ks := tb.kt X) (X := X) (C := C) (env := env) hX.ks hX.hu h1
      obtain ⟨r', ho', hB'⟩ := COp.sound (ks := tb.kt X) (X := X) (C := C) (env := env) hX.ks hX.hu h2
      exact st_chain ho ho' (Ex.sound a hX h4) (Ex.sound b hX h5) (Ex.sound c hX h6) hB hB' (marks_n h3)
    · cases h
  | .var i, tb, X, e, env, hX, h => by
    have hs := Ex.sound (C := C) (env := env) (.var i) hX h
    simp only [Ex.ok] at h
    split at h
    · exact st_val hs fun _ => rfl
    · cases h
  | .call f es, tb, X, e, env, hX, h => by
    have hs := Ex.sound (C := C) (env := env) (.call f es) hX h
    simp only [Ex.ok] at h
    split at h
    · exact st_val hs fun _ => rfl
    · cases h
  | .bi b es, tb, X, e, env, hX, h => by
    have hs := Ex.sound (C := C) (env := env) (.bi b es) hX h
    simp only [Ex.ok] at h
    split at h
    · exact st_val hs fun _ => rfl
    · cases h
  | .isin a T, tb, X, e, env, hX, h => by
    have hs := Ex.sound (C := C) (env := env) (.isin a T) hX h
    simp only [Ex.ok] at h
    split at h
    · exact st_val hs fun _ => rfl
    · cases h
  | .isin2 a T U, tb, X, e, env, hX, h => by
    have hs := Ex.sound (C := C) (env := env) (.isin2 a T U) hX h
    simp only [Ex.ok] at h
    split at h
    · exact st_val hs fun _ => rfl
    · cases h
  | .ix k a b, tb, X, e, env, hX, h => by
    have hs := Ex.sound (C := C) (env := env) (.ix k a b) hX h
    simp only [Ex.ok] at h
    split at h
    · exact st_val hs fun _ => rfl
    · cases h
  | .int _, _, _, _, _, _, _ => fun g Q hq => hq.elim
  | .str _, _, _, _, _, _, _ => fun g Q hq => hq.elim
  | .bl _, _, _, _, _, _, _ => fun g Q hq => hq.elim
  | .non, _, _, _, _, _, _ => fun g Q hq => hq.elim
  | .glob _, _, _, _, _, _, _ => fun g Q hq => hq.elim
  | .tup _, _, _, _, _, _, _ => fun g Q hq => hq.elim
  | .lst _, _, _, _, _, _, _ => fun g Q hq => hq.elim
  | .dic _ _, _, _, _, _, _, _ => fun g Q hq => hq.elim
  | .bin _ _ _, _, _, _, _, _, _ => fun g Q hq => hq.elim
  | .neg _, _, _, _, _, _, _ => fun g Q hq => hq.elim
  | .slL _ _ _ _ _, _, _, _, _, _, _ => fun g Q hq => hq.elim
  | .slT _ _ _ _ _, _, _, _, _, _, _ => fun g Q hq => hq.elim
  | .app _ _, _, _, _, _, _, _ => fun g Q hq => hq.elim
  | .pop _, _, _, _, _, _, _ => fun g Q hq => hq.elim
  | .popAt _ _, _, _, _, _, _, _ => fun g Q hq => hq.elim
  | .clr _, _, _, _, _, _, _ => fun g Q hq => hq.elim
  | .comp _ _ _ _ _ _ _ _, _, _, _, _, _, _ => fun g Q hq => hq.elim
  | .frz _, _, _, _, _, _, _ => fun g Q hq => hq.elim
  | .lrg _, _, _, _, _, _, _ => fun g Q hq => hq.elim
  | .rev _, _, _, _, _, _, _ => fun g Q hq => hq.elim
  | .tab _ _, _, _, _, _, _, _ => fun g Q hq => hq.elim
  | .lzip _, _, _, _, _, _, _ => fun g Q hq => hq.elim
theorem Ex.soundW {Γ : Wd} {C : Ent} : ∀ (m : Ex) {tb : Tbl} {X : Cx} {e : Expr} {env : En}, XOk tb Γ X → (match m with | .and _ _ => true | .or _ _ => true | .one _ => true | _ => false) = true → m.ok tb e = true → SW (tb.kt X) X C env e (m.T Γ env)
  | .and a b, tb, X, e, env, hX, _, h => by
    simp only [Ex.ok] at h
    split at h
    · simp only [Bool.and_eq_true] at h
      refine sw_and (Ex.soundT a hX h.1) ?_
      cases b with
      | and b1 b2 => exact Ex.soundW (.and b1 b2) hX rfl h.2
      | one b1 => exact Ex.soundW (.one b1) hX rfl h.2
      | frz b1 => exact fun g Q hq => hq.elim
      | _ => simp [Ex.ok] at h
    · cases h
  | .or a b, tb, X, e, env, hX, _, h => by
    simp only [Ex.ok] at h
    split at h
    · simp only [Bool.and_eq_true] at h
      refine sw_or (Ex.soundT a hX h.1) ?_
      cases b with
      | or b1 b2 => exact Ex.soundW (.or b1 b2) hX rfl h.2
      | one b1 => exact Ex.soundW (.one b1) hX rfl h.2
      | frz b1 => exact fun g Q hq => hq.elim
      | _ => simp [Ex.ok] at h
    · cases h
  | .one a, tb, X, e, env, hX, _, h => by
    simp only [Ex.ok] at h
    split at h
    · rename_i op x p
      exact sw_one (by cases op <;> simp) (Ex.soundT a hX h)
    · cases h
  | .not _, _, _, _, _, _, hh, _ => by cases hh
  | .cmp _ _ _, _, _, _, _, _, hh, _ => by cases hh
  | .chain _ _ _ _ _, _, _, _, _, _, hh, _ => by cases hh
  | .var _, _, _, _, _, _, hh, _ => by cases hh
  | .call _ _, _, _, _, _, _, hh, _ => by cases hh
  | .bi _ _, _, _, _, _, _, hh, _ => by cases hh
  | .isin _ _, _, _, _, _, _, hh, _ => by cases hh
  | .isin2 _ _ _, _, _, _, _, _, hh, _ => by cases hh
  | .ix _ _ _, _, _, _, _, _, hh, _ => by cases hh
  | .int _, _, _, _, _, _, hh, _ => by cases hh
  | .str _, _, _, _, _, _, hh, _ => by cases hh
  | .bl _, _, _, _, _, _, hh, _ => by cases hh
  | .non, _, _, _, _, _, hh, _ => by cases hh
  | .glob _, _, _, _, _, _, hh, _ => by cases hh
  | .tup _, _, _, _, _, _, hh, _ => by cases hh
  | .lst _, _, _, _, _, _, hh, _ => by cases hh
  | .dic _ _, _, _, _, _, _, hh, _ => by cases hh
  | .bin _ _ _, _, _, _, _, _, hh, _ => by cases hh
  | .neg _, _, _, _, _, _, hh, _ => by cases hh
  | .slL _ _ _ _ _, _, _, _, _, _, hh, _ => by cases hh
  | .slT _ _ _ _ _, _, _, _, _, _, hh, _ => by cases hh
  | .app _ _, _, _, _, _, _, hh, _ => by cases hh
  | .pop _, _, _, _, _, _, hh, _ => by cases hh
  | .popAt _ _, _, _, _, _, _, hh, _ => by cases hh
  | .clr _, _, _, _, _, _, hh, _ => by cases hh
  | .comp _ _ _ _ _ _ _ _, _, _, _, _, _, hh, _ => by cases hh
  | .frz _, _, _, _, _, _, hh, _ => by cases hh
  | .lrg _, _, _, _, _, _, hh, _ => by cases hh
  | .rev _, _, _, _, _, _, hh, _ => by cases hh
  | .tab _ _, _, _, _, _, _, hh, _ => by cases hh
  | .lzip _, _, _, _, _, _, hh, _ => by cases hh
theorem Es.sound {Γ : Wd} {C : Ent} : ∀ (m : Es) {tb : Tbl} {X : Cx} {l : List Expr} {env : En}, XOk tb Γ X → m.ok tb l = true → SA (tb.kt X) X C env l (m.W Γ env)
  | .nil, tb, X, l, env, hX, h => by
    cases l with
    | nil => exact sa_nil
    | cons _ _ => simp [Es.ok] at h
  | .cons e es, tb, X, l, env, hX, h => by
    cases l with
    | nil => simp [Es.ok] at h
    | cons x r =>
      simp only [Es.ok, Bool.and_eq_true] at h
      exact sa_cons (Ex.sound e hX h.1.2) (Es.sound es hX h.2) (starEach_n h.1.1)
theorem Es.soundP {Γ : Wd} {C : Ent} : ∀ (m : Es) {tb : Tbl} {X : Cx} {l : List Expr} {env : En} {pos : Pos} {keys : List Nat} {kl : List (Option Expr)}, XOk tb Γ X → keysB tb.ks keys kl = true → m.ok tb l = true → kl.length = l.length →
    SPr (tb.kt X) X C env pos kl l (fun g Q => m.W Γ env g fun rs g2 => Q (keys.zip rs) g2)
  | .nil, tb, X, l, env, pos, keys, kl, hX, hk, h, hl => by
    cases l with
    | nil =>
      cases kl with
      | nil =>
        cases keys with
        | nil => exact spr_nil
        | cons _ _ => simp [keysB] at hk
      | cons _ _ => simp at hl
    | cons _ _ => simp [Es.ok] at h
  | .cons e es, tb, X, l, env, pos, keys, kl, hX, hk, h, hl => by
    cases l with
    | nil => simp [Es.ok] at h
    | cons x r =>
      simp only [Es.ok, Bool.and_eq_true] at h
      cases kl with
      | nil => simp at hl
      | cons a t =>
        cases keys with
        | nil => simp [keysB] at hk
        | cons k kr =>
          simp only [keysB] at hk
          split at hk
          · rename_i e1
            cases e1
            simp only [Bool.and_eq_true, decide_eq_true_eq] at hk
            exact spr_cons hk.1 (Ex.sound e hX h.1.2) (Es.soundP es hX hk.2 h.2 (by simpa using hl))
          · cases hk
end
end DW

/-! ## DW12.lean -/
set_option Elab.async false
set_option linter.all false
set_option maxRecDepth 100000
set_option maxHeartbeats 4000000
set_option autoImplicit false
/-! DW12: statements are sound; a def by its mini text. -/
namespace DW
open PySem PySem.Spec L2
open PyProof.Rows hiding St

theorem swaps_cell {elt : Expr} {gs : List Comprehension} {scope : Scope} {pos py : Pos} {y : Str} {l : Nat} {env : Env} (hy : env.scope.names.lookup y = some .cell) : swapsWith (.ListComp elt gs scope pos) (some (.Name y py)) l env = pure false := by
  have ky : env.kindOf y = some .cell := hy
  unfold swapsWith
  simp only [ky]
  have : ((some NameKind.cell == some NameKind.local) : Bool) = false := by decide
  rw [this]
  simp
mutual
theorem Sm.sound {Γ : Wd} {C : Ent} {tb : Tbl} {X : Cx} (hX : XOk tb Γ X) : ∀ (m : Sm) {st : Stmt}, m.ok tb st = true → SS (tb.kt X) X C st (m.W Γ)
  | .set i e, st, h => by
    simp only [Sm.ok] at h
    split at h
    · rename_i x px v p
      simp only [Bool.and_eq_true, decide_eq_true_eq] at h
      obtain ⟨⟨⟨h1, h2⟩, h3⟩, h4⟩ := h
      obtain ⟨a, b⟩ := hX.tg h2
      refine ss_set (by rw [hX.N]; exact hX.nd) (by rw [hX.N]; exact h1) a (fun env => Ex.sound e hX h4) ?_ b
      simp only [Bool.or_eq_true, Bool.and_eq_true] at h3
      rcases h3 with h3 | ⟨h3, h5⟩
      · exact swaps_n h3
      · cases v <;> first | (simp [isLC] at h3; done) | skip
        refine swaps_cell ?_
        rw [hX.sc]
        split at h5
        · assumption
        · cases h5
    · cases h
  | .setC i e, st, h => by
    simp only [Sm.ok] at h
    split at h
    · rename_i x px v p
      split at h
      · rename_i el gens scope lp
        simp only [Bool.and_eq_true, decide_eq_true_eq, Bool.not_eq_true'] at h
        obtain ⟨⟨⟨⟨⟨h0, h1⟩, h2⟩, h3⟩, h4⟩, h5⟩ := h
        have hl : tb.sc.names.lookup x = some .local := by
          split at h2
          · assumption
          · cases h2
        cases e <;> first | (simp [isComp] at h0; done) | skip
        rename_i elt tg ik a b hc c own
        simp only [Ex.ok] at h5
        split at h5
        · rename_i e0 el2 t it ifs scope2 p' heq
          cases heq
          simp only [Bool.and_eq_true] at h5
          obtain ⟨⟨⟨⟨⟨⟨g1, g2⟩, g3⟩, g4⟩, g5⟩, g6⟩, g7⟩ := h5
          have hk : scope.kind = .function := (blkOk_by g1).kind
          have hB := fun s H0 Cc cl fp => hX.blk scope hk s H0 Cc cl fp
          have hi : ∀ env, SI (tb.kt X) X C env t it (wIter ik (a.W Γ env) (b.W Γ env)) := fun env => it_sound hX (fun e he => Ex.sound a hX he) (fun e he => Ex.sound b hX he) g7
          have hts : ifs.length ≤ 1 ∧ SC (tb.kt X) X C scope ifs (fun env => tstW hc (c.T Γ env)) := by
            split at g6
            · exact ⟨by simp, sc_nil⟩
            · exact ⟨by simp, sc_one fun env s H0 Cc cl fp => Ex.soundT c (tb := tb.blk scope) (hB s H0 Cc cl fp) g6⟩
            · cases g6
          have hp := ss_setC (own := own.map fun i => (tb.N.getD i ⟨#[]⟩, i)) (pos := lp) (spos := p) (i := i) (y := x) (py := px) hX.calm (by rw [hX.N]; exact hX.nd) (by rw [hX.N]; exact h1) (by rw [hX.sc]; exact hl)
            (sw_true (by rw [hX.sc]; exact hX.kind) (by rw [hX.sc]; exact hl) h3 h4) hi (by rw [hX.N, hX.sc]; exact blkOk_by g1) (fun s H0 Cc cl fp => tg_sound (hB s H0 Cc cl fp) g2) hts.1 hts.2
            (fun env s H0 Cc cl fp => Ex.sound elt (tb := tb.blk scope) (hB s H0 Cc cl fp) g5) (fun i hi => by rw [comp_own]; exact List.contains_iff_mem.mp (List.all_eq_true.mp g3 i hi)) (folded_n g4)
          rw [comp_own] at hp
          exact hp
        · cases h5
      · cases h
    · cases h
  | .setIx a b e, st, h => by
    simp only [Sm.ok] at h
    split at h
    · rename_i x y p2 v p
      simp only [Bool.and_eq_true] at h
      obtain ⟨⟨⟨⟨h1, h2⟩, h3⟩, h4⟩, h5⟩ := h
      exact ss_setIx (fun env => Ex.sound e hX h5) (fun env => Ex.sound a hX h3) (fun env => Ex.sound b hX h4) (show swapsWith v (some (.Subscript x y p2)) p.line X.env = pure false from swaps_n h1) rfl rfl (assign_n h2)
    · cases h
  | .setKey a b e, st, h => by
    simp only [Sm.ok] at h
    split at h
    · rename_i x y p2 v p
      simp only [Bool.and_eq_true] at h
      obtain ⟨⟨⟨⟨h1, h2⟩, h3⟩, h4⟩, h5⟩ := h
      have hu := hX.hu
      exact ss_setKey hX.ks (by omega) (fun env => Ex.sound e hX h5) (fun env => Ex.sound a hX h3) (fun env => Ex.sound b hX h4) (swaps_n h1)
    · cases h
  | .expr e, st, h => by
    simp only [Sm.ok] at h
    split at h
    · simp only [Bool.and_eq_true] at h
      exact ss_expr (fun env => Ex.sound e hX h.2) (swaps_n h.1)
    · cases h
  | .ret e, st, h => by
    simp only [Sm.ok] at h
    split at h
    · exact ss_ret fun env => Ex.sound e hX h
    · cases h
  | .ite c a b, st, h => by
    simp only [Sm.ok] at h
    split at h
    · simp only [Bool.and_eq_true] at h
      exact ss_if (fun env => Ex.soundT c hX h.1.1) (Ss.sound hX a h.1.2) (Ss.sound hX b h.2)
    · cases h
  | .for_ tg ik a b body, st, h => by
    simp only [Sm.ok] at h
    split at h
    · simp only [Bool.and_eq_true] at h
      obtain ⟨⟨⟨h1, h2⟩, h3⟩, h4⟩ := h
      exact ss_for hX.pass hX.calm (fun env => it_sound hX (fun e he => Ex.sound a hX he) (fun e he => Ex.sound b hX he) h4) (tg_sound hX h1) (Ss.sound hX body h3) (folded_n h2)
    · cases h
  | .while_ c body, st, h => by
    simp only [Sm.ok] at h
    split at h
    · simp only [Bool.and_eq_true] at h
      exact ss_while hX.pass (fun env => Ex.soundT c hX h.1) (Ss.sound hX body h.2)
    · cases h
  | .never, st, h => ss_never
  | .pass, st, h => by
    simp only [Sm.ok] at h
    split at h
    · exact ss_pass
    · cases h
theorem Ss.sound {Γ : Wd} {C : Ent} {tb : Tbl} {X : Cx} (hX : XOk tb Γ X) : ∀ (m : Ss) {sts : List Stmt}, m.ok tb sts = true → SB (tb.kt X) X C sts (m.W Γ)
  | .nil, sts, h => by
    cases sts with
    | nil => exact sb_nil
    | cons _ _ => simp [Ss.ok] at h
  | .cons s ss, sts, h => by
    cases sts with
    | nil => simp [Ss.ok] at h
    | cons x r =>
      simp only [Ss.ok, Bool.and_eq_true] at h
      exact sb_cons (W := s.W Γ) (W' := ss.W Γ) (Sm.sound hX s h.1) (Ss.sound hX ss h.2)
end
theorem hu65 {k : Nat} {A : Around} (hr : Room k A) : A.units + 65 < cLine := by have := hr.un; omega
/-- the module's facts that every def's context needs -/
structure MOk (ks : List Str) (fn : List Str) (gl : List (Str × Int)) (dt : List Str) (Γ : Wd) (P : Program) (w : World) (K : PySem.W.Frag) (mg : Str → Option Value) (base : Heap) (k : Nat) : Prop where
  kso : KsOk ⟨ks, K⟩
  bn : ∀ x ∈ (["len", "isinstance", "int", "bool", "str", "tuple", "list", "range", "min", "max", "any", "enumerate", "zip", "dict", "sorted"] : List Str), mg x = none
  gl : ∀ (i : Nat) (x : Str), (gl[i]?).map (·.1) = some x → ∃ n t, Γ.gl[i]? = some n ∧ mg x = some (.int n t)
  dt : ∀ (i : Nat) (x : Str), dt[i]? = some x → ∃ p : Addr, mg x = some (.ref p) ∧ ∀ k v, (Γ.dt.getD i []).lookup k = some v → ∀ kx, ks[k]? = some kx → ∃ vx, ks[v]? = some vx ∧ KDct K w p kx (.str vx)
  fn : ∀ (i : Nat) (x : Str), fn[i]? = some x → (∀ rs g (P P' : RQ), (∀ r g', P r g' → P' r g') → Γ.fn i rs g P → Γ.fn i rs g P') ∧
    ∃ (fa : Addr) (fd : FuncData) (j : Nat) (ps : List Str), mg x = some (.ref fa) ∧ PySem.W.keepIn K (.ref fa) = true ∧ Binds K fd ps [] ∧ j ≤ k ∧ FnOk P w K mg base CX0 j fa fd ps (PSpD ⟨ks, K⟩ (Γ.fn i))
/-- THE RULE: a def of the text keeps its promise if its mini text's reading does -/
theorem fn_mini {P : Program} {w : World} {K : PySem.W.Frag} {mg : Str → Option Value} {base : Heap} {x qual : Str} {st : Stmt} {f : Addr} {fd : FuncData} {N ps ks fn : List Str} {gl : List (Str × Int)} {dt : List Str} {Γ : Wd} {k : Nat} {S : SpD} (m : Ss)
    (Fn : Fun K x qual st f fd) (Sc : FnScope N ps (defScope st)) (M : MOk ks fn gl dt Γ P w K mg base k) (hm : m.ok ⟨N, defScope st, ks, fn, gl, dt, true⟩ (defBody st) = true)
    (hlen : ∀ rs g Q, S rs g Q → rs.length = ps.length)
    (hS : ∀ rs g Q, S rs g Q → m.W Γ (rs.map some ++ List.replicate (N.length - rs.length) none) g (fun _ g' => Fin g Q (.dat .non) g') (Fin g Q)) :
    FnOk P w K mg base CX0 (k + 1) f fd ps (PSpD ⟨ks, K⟩ S) := by
  have hN : ps.length ≤ N.length := by have := congrArg List.length Sc.pre; rw [List.length_take] at this; omega
  refine fn_ok (W := m.W Γ) Fn Sc hlen hN (fun C cdv A outer s H E hr => ?_) hS
  refine Ss.sound (X := (cxOf CX0 P w K mg base N qual (defScope st) f cdv A outer s H E).nox) (Γ := Γ) (tb := ⟨N, defScope st, ks, fn, gl, dt, true⟩) ⟨rfl, rfl, Sc.nd, Sc.kind, rfl, hu65 hr, M.kso, fun _ _ => rfl, M.bn, fun i y e => ?_, M.gl, M.dt, PassesOwn.never⟩ m hm
  obtain ⟨h1, fa, fd', j, ps', h2, h3, h4, h5, h6⟩ := M.fn i y e
  exact ⟨h1, fa, fd', j, ps', h2, h3, h4, hr.mono h5, h6⟩
end DW

/-! ## DW13.lean -/
set_option Elab.async false
set_option linter.all false
set_option maxRecDepth 100000
set_option maxHeartbeats 4000000
set_option autoImplicit false
/-! DW13: defs put together; the law's end. -/
namespace DW
open PySem PySem.Spec L2
open PyProof.Rows hiding St

def Mono (S : SpD) : Prop := ∀ rs g (P P' : RQ), (∀ r g', P r g' → P' r g') → S rs g P → S rs g P'
/-- a def that may be called -/
structure Cal (ks : List Str) (P : Program) (w : World) (K : PySem.W.Frag) (mg : Str → Option Value) (base : Heap) (x : Str) (S : SpD) (k : Nat) : Prop where
  mono : Mono S
  fn : ∃ (fa : Addr) (fd : FuncData) (j : Nat) (ps : List Str), mg x = some (.ref fa) ∧ PySem.W.keepIn K (.ref fa) = true ∧ Binds K fd ps [] ∧ j ≤ k ∧ FnOk P w K mg base CX0 j fa fd ps (PSpD ⟨ks, K⟩ S)
theorem Cal.up {ks : List Str} {P : Program} {w : World} {K : PySem.W.Frag} {mg : Str → Option Value} {base : Heap} {x : Str} {S : SpD} {k j : Nat} (c : Cal ks P w K mg base x S k) (h : k ≤ j) : Cal ks P w K mg base x S j :=
  ⟨c.mono, let ⟨fa, fd, i, ps, h1, h2, h3, h4, h5⟩ := c.fn; ⟨fa, fd, i, ps, h1, h2, h3, Nat.le_trans h4 h, h5⟩⟩
/-- what the module's top leaves, for every def -/
structure Bas (ks : List Str) (gl : List (Str × Int)) (dt : List (Str × List (Nat × Nat))) (w : World) (K : PySem.W.Frag) (mg : Str → Option Value) : Prop where
  nd : ks.Nodup
  ok : ∀ x ∈ ks, PyData.strOk x = true
  bn : ∀ x ∈ (["len", "isinstance", "int", "bool", "str", "tuple", "list", "range", "min", "max", "any", "enumerate", "zip", "dict", "sorted"] : List Str), mg x = none
  gl : ∀ (i : Nat) (x : Str), (gl[i]?).map (·.1) = some x → ∃ t, mg x = some (.int ((gl.map (·.2)).getD i 0) t)
  dt : ∀ (i : Nat) (x : Str), (dt.map (·.1))[i]? = some x → ∃ p : Addr, mg x = some (.ref p) ∧ ∀ k v, ((dt.map (·.2)).getD i []).lookup k = some v → ∀ kx, ks[k]? = some kx → ∃ vx, ks[v]? = some vx ∧ KDct K w p kx (.str vx)
/-- the callees of a def -/
inductive Cals (ks : List Str) (P : Program) (w : World) (K : PySem.W.Frag) (mg : Str → Option Value) (base : Heap) (k : Nat) : List Str → List SpD → Prop
  | nil : Cals ks P w K mg base k [] []
  | cons {x : Str} {S : SpD} {xs : List Str} {Ss : List SpD} : Cal ks P w K mg base x S k → Cals ks P w K mg base k xs Ss → Cals ks P w K mg base k (x :: xs) (S :: Ss)
theorem Cals.at {ks : List Str} {P : Program} {w : World} {K : PySem.W.Frag} {mg : Str → Option Value} {base : Heap} {k : Nat} : ∀ {xs : List Str} {Ss : List SpD} {i : Nat} {x : Str}, Cals ks P w K mg base k xs Ss → xs[i]? = some x → Cal ks P w K mg base x (Ss.getD i fun _ _ _ => False) k
  | _, _, _, _, .nil, e => by simp at e
  | _, _, 0, _, .cons c _, e => by simp at e; subst e; exact c
  | _, _, i + 1, _, .cons _ t, e => Cals.at (i := i) t (by simpa using e)
/-- the readings of a def's callees and constants -/
abbrev wd (Ss : List SpD) (gl : List (Str × Int)) (dt : List (Str × List (Nat × Nat))) : Wd := ⟨fun i => Ss.getD i fun _ _ _ => False, gl.map (·.2), dt.map (·.2)⟩
theorem cal_of {P : Program} {w : World} {K : PySem.W.Frag} {mg : Str → Option Value} {base : Heap} {x : Str} {st : Stmt} {f : Addr} {fd : FuncData} {N ps ks fn : List Str} {gl : List (Str × Int)} {dt : List (Str × List (Nat × Nat))} {Ss : List SpD} {k : Nat} {S : SpD} (m : DW.Ss)
    (B : Bas ks gl dt w K mg) (C : Cals ks P w K mg base k fn Ss) (Fn : Fun K x x st f fd) (hm : mg x = some (.ref f)) (hb : Binds K fd ps []) (Sc : FnScope N ps (defScope st))
    (ho : m.ok ⟨N, defScope st, ks, fn, gl, dt.map (·.1), true⟩ (defBody st) = true) (mo : Mono S) (hlen : ∀ rs g Q, S rs g Q → rs.length = ps.length)
    (hS : ∀ rs g Q, S rs g Q → m.W (wd Ss gl dt) (rs.map some ++ List.replicate (N.length - rs.length) none) g (fun _ g' => Fin g Q (.dat .non) g') (Fin g Q)) :
    Cal ks P w K mg base x S (k + 1) := by
  refine ⟨mo, f, fd, k + 1, ps, hm, Fn.kp, hb, Nat.le_refl _, fn_mini (Γ := wd Ss gl dt) m Fn Sc ⟨⟨B.nd, B.ok⟩, B.bn, fun i y e => ?_, B.dt, fun i y e => ?_⟩ ho hlen hS⟩
  · obtain ⟨t, h⟩ := B.gl i y e
    refine ⟨_, t, ?_, h⟩
    obtain ⟨p, hp, _⟩ := Option.map_eq_some_iff.mp e
    show (gl.map (·.2))[i]? = _
    rw [List.getElem?_map, hp, List.getD_eq_getElem?_getD, List.getElem?_map, hp]; rfl
  · obtain ⟨h1, h2⟩ := C.at e
    exact ⟨h1, h2⟩
/-- a def of data alone: what it gives for its arguments -/
def datsOf : List Rv → Option (List D)
  | [] => some []
  | .dat d :: r => (datsOf r).map (d :: ·)
  | .ref _ :: _ => none
theorem datsOf_eq : ∀ {rs : List Rv} {ds : List D}, datsOf rs = some ds → rs = ds.map .dat
  | [], _, h => by cases h; rfl
  | .dat d :: r, _, h => by
    simp only [datsOf] at h
    obtain ⟨e, h1, h2⟩ := Option.map_eq_some_iff.mp h
    subst h2
    rw [datsOf_eq h1]; rfl
  | .ref _ :: _, _, h => by simp [datsOf] at h
def pureS (R : List D → D → Prop) : SpD := fun rs g Q => ∃ ds, datsOf rs = some ds ∧ ∃ d, R ds d ∧ Q (.dat d) g
theorem pureS_mono (R : List D → D → Prop) : Mono (pureS R) := fun rs g P P' h ⟨ds, e, d, r, q⟩ => ⟨ds, e, d, r, h _ _ q⟩
theorem pureS_len {R : List D → D → Prop} {n : Nat} (h : ∀ ds d, R ds d → ds.length = n) : ∀ rs g Q, pureS R rs g Q → rs.length = n := fun rs g Q ⟨ds, e, d, r, _⟩ => by rw [datsOf_eq e, List.length_map]; exact h ds d r
theorem fin_dat {g g' : Rg} {Q : RQ} {d : D} (j : Rg) (h : g' = g ++ j) (q : Q (.dat d) g) : Fin g Q (.dat d) g' := by
  subst h
  refine .sub g.length (Nat.le_refl _) (by simp) (fun c cell hc e => .inl ?_) True.intro (by rw [List.take_left]; exact q)
  rw [List.getElem?_append_left hc] at e; exact e
theorem fin_frz {g g' : Rg} {Q : RQ} {r : Rv} (d : D) (j : Rg) (h : g' = g ++ j) (hd : RD g' g.length r d) (q : Q (.dat d) g) : Fin g Q r g' := by
  subst h
  refine .frz d hd (by simp) (fun c cell hc e => .inl ?_) (by rw [List.take_left]; exact q)
  rw [List.getElem?_append_left hc] at e; exact e

/-! ### own cells behind the caller's -/
theorem get_app {g l : List Cell} {k : Nat} : (g ++ l)[g.length + k]? = l[k]? := by rw [List.getElem?_append_right (by omega)]; congr 1; omega
theorem get_app0 {g l : List Cell} : (g ++ l)[g.length]? = l[0]? := by rw [List.getElem?_append_right (by omega)]; congr 1; omega
theorem set_app {g l : List Cell} {k : Nat} {c : Cell} : (g ++ l).set (g.length + k) c = g ++ l.set k c := by rw [List.set_append_right _ _ (by omega)]; congr 2; omega
theorem set_app0 {g l : List Cell} {c : Cell} : (g ++ l).set g.length c = g ++ l.set 0 c := by rw [List.set_append_right _ _ (by omega)]; congr 2; omega

/-! ### the law's end -/
def lawS : SpD := fun rs g Q => ∃ ns : List Int, rs = [.dat (.scr ns)] ∧ ns.length ≤ 63 ∧ Q (.dat (.bl true)) g
theorem lawS_mono : Mono lawS := fun rs g P P' h ⟨ns, e, l, q⟩ => ⟨ns, e, l, h _ _ q⟩
def spLaw (K : PySem.W.Frag) : Sp := fun vs H Q _ => ∃ (a : Addr) (ns : List Int), vs = [.ref a] ∧ SqL K H a (ns.map V.int) ∧ ns.length ≤ 63 ∧ ∀ H', Q (.bl true) H'
theorem law_fn {ks : List Str} {P : Program} {w : World} {K : PySem.W.Frag} {mg : Str → Option Value} {base : Heap} {k : Nat} {f : Addr} {fd : FuncData} {ps : List Str} (F : FnOk P w K mg base CX0 k f fd ps (PSpD ⟨ks, K⟩ lawS)) : FnOk P w K mg base CX0 k f fd ps (spLaw K) := by
  refine F.imp fun vs H Q E ⟨a, ns, e, hs, hl, q⟩ => ?_
  refine ⟨H, [], [], [.dat (.scr ns)], Same.refl H, ⟨rfl, fun c cell a e => by simp at e, List.nodup_nil, fun a ha => (by cases ha), fun a ha => (by cases ha)⟩, ?_, ns, rfl, hl, fun v F' H' κ' _ _ _ rv => ?_⟩
  · subst e
    exact .cons (rv_d (.scr hs)) .nil
  · cases At.blI rv
    exact q H'
theorem law_walk {l : PySem.W.OpenLaw} {q : Program} {loose : List Str} {XP : (Str → Option Value) → Heap → Prop} {YP : World → Heap → Prop} {d : DefRec} {K : Params → PySem.W.Frag} {k : Nat} (hr : Room k callerA) (hn : l.most = some 63) (hdf : d.params.defaults = [])
    (hY : ∀ (w : World) (h : Heap), YP w h → (K w.params).In h)
    (F : ∀ (w : World) (mg : Str → Option Value) (fa : Addr) (h : Heap), (K w.params).In h → h.Ns mainGlobals mg → mg d.name = some (.ref fa) →
      ∃ fd : FuncData, (∀ (s : Shared) (u : Value), BindsTo s fd ⟨[u], []⟩ [("_law_script", u)]) ∧ ∀ base : Heap, (K w.params).In base → base.Ns mainGlobals mg → FnOk l.prog w (K w.params) mg base CX0 k fa fd ["_law_script"] (spLaw (K w.params))) :
    PySem.W.WalkO q loose XP YP l.row.toRowW d [] (fun f vs => PySem.call f vs) :=
  L2.walk_of (n := 63) (k := k) (x := "_law_script") (CX := fun _ => CX0) (sp := fun w => spLaw (K w.params)) hn (by decide) hdf hr hY F (fun _ _ a ns hl _ hS => ⟨a, ns, rfl, hS, hl, fun _ => rfl⟩) fun _ _ _ _ _ z => z
end DW
namespace DW
open PySem PySem.Spec L2
open PyProof.Rows hiding St
theorem fn_of_cals {P : Program} {w : World} {K : PySem.W.Frag} {mg : Str → Option Value} {base : Heap} {x : Str} {st : Stmt} {f : Addr} {fd : FuncData} {N ps ks fn : List Str} {gl : List (Str × Int)} {dt : List (Str × List (Nat × Nat))} {Ss : List SpD} {k : Nat} {S : SpD} (m : DW.Ss)
    (B : Bas ks gl dt w K mg) (C : Cals ks P w K mg base k fn Ss) (Fn : Fun K x x st f fd) (Sc : FnScope N ps (defScope st))
    (ho : m.ok ⟨N, defScope st, ks, fn, gl, dt.map (·.1), true⟩ (defBody st) = true) (hlen : ∀ rs g Q, S rs g Q → rs.length = ps.length)
    (hS : ∀ rs g Q, S rs g Q → m.W (wd Ss gl dt) (rs.map some ++ List.replicate (N.length - rs.length) none) g (fun _ g' => Fin g Q (.dat .non) g') (Fin g Q)) :
    FnOk P w K mg base CX0 (k + 1) f fd ps (PSpD ⟨ks, K⟩ S) :=
  fn_mini (Γ := wd Ss gl dt) m Fn Sc ⟨⟨B.nd, B.ok⟩, B.bn, fun i y e => by
    obtain ⟨t, h⟩ := B.gl i y e
    refine ⟨_, t, ?_, h⟩
    obtain ⟨p, hp, _⟩ := Option.map_eq_some_iff.mp e
    show (gl.map (·.2))[i]? = _
    rw [List.getElem?_map, hp, List.getD_eq_getElem?_getD, List.getElem?_map, hp]; rfl, B.dt, fun i y e => ⟨(C.at e).1, (C.at e).2⟩⟩ ho hlen hS
end DW

namespace DW
open PySem PySem.Spec L2
open PyProof.Rows hiding St
section
variable {P : Program} {w : World} {K : PySem.W.Frag} {mg : Str → Option Value} {base : Heap} {x : Str} {st : Stmt} {f : Addr} {fd : FuncData} {N ps ks fn : List Str} {gl glF : List (Str × Int)} {dt dtF : List (Str × List (Nat × Nat))} {Ss : List SpD} {k : Nat} {S : SpD}
theorem mok_of (pg : gl <+: glF) (pd : dt <+: dtF) (B : Bas ks gl dt w K mg) (C : Cals ks P w K mg base k fn Ss) : MOk ks fn gl (dt.map (·.1)) (wd Ss glF dtF) P w K mg base k := by
  refine ⟨⟨B.nd, B.ok⟩, B.bn, fun i y e => ?_, fun i y e => ?_, fun i y e => ⟨(C.at e).1, (C.at e).2⟩⟩
  · obtain ⟨t, h⟩ := B.gl i y e
    refine ⟨_, t, ?_, h⟩
    obtain ⟨p, hp, _⟩ := Option.map_eq_some_iff.mp e
    obtain ⟨l, hl⟩ := pg
    show (glF.map (·.2))[i]? = _
    rw [← hl, List.map_append, List.getElem?_append_left (by rw [List.length_map]; exact (List.getElem?_eq_some_iff.mp hp).1), List.getElem?_map, hp, List.getD_eq_getElem?_getD, List.getElem?_map, hp]; rfl
  · obtain ⟨p, h1, h2⟩ := B.dt i y e
    refine ⟨p, h1, ?_⟩
    have hi : i < dt.length := by have := (List.getElem?_eq_some_iff.mp e).1; rw [List.length_map] at this; exact this
    obtain ⟨l, hl⟩ := pd
    have e2 : (wd Ss glF dtF).dt.getD i [] = (dt.map (·.2)).getD i [] := by
      show (dtF.map (·.2)).getD i [] = _
      rw [← hl, List.map_append, List.getD_eq_getElem?_getD, List.getD_eq_getElem?_getD, List.getElem?_append_left (by rw [List.length_map]; exact hi)]
    rw [e2]; exact h2
theorem cal_of2 (n : Nat) (m : DW.Ss) (pg : gl <+: glF) (pd : dt <+: dtF)
    (B : Bas ks gl dt w K mg) (C : Cals ks P w K mg base k fn Ss) (Fn : Fun K x x st f fd) (hm : mg x = some (.ref f)) (hb : Binds K fd ps []) (Sc : FnScope N ps (defScope st)) (hn : N.length = n)
    (ho : m.ok ⟨N, defScope st, ks, fn, gl, dt.map (·.1), true⟩ (defBody st) = true) (mo : Mono S) (hlen : ∀ rs g Q, S rs g Q → rs.length = ps.length)
    (hS : ∀ rs g Q, S rs g Q → m.W (wd Ss glF dtF) (rs.map some ++ List.replicate (n - rs.length) none) g (fun _ g' => Fin g Q (.dat .non) g') (Fin g Q)) :
    Cal ks P w K mg base x S (k + 1) := by
  subst hn
  exact ⟨mo, f, fd, k + 1, ps, hm, Fn.kp, hb, Nat.le_refl _, fn_mini (Γ := wd Ss glF dtF) m Fn Sc (mok_of pg pd B C) ho hlen hS⟩
theorem fn_of_cals2 (n : Nat) (m : DW.Ss) (pg : gl <+: glF) (pd : dt <+: dtF)
    (B : Bas ks gl dt w K mg) (C : Cals ks P w K mg base k fn Ss) (Fn : Fun K x x st f fd) (Sc : FnScope N ps (defScope st)) (hn : N.length = n)
    (ho : m.ok ⟨N, defScope st, ks, fn, gl, dt.map (·.1), true⟩ (defBody st) = true) (hlen : ∀ rs g Q, S rs g Q → rs.length = ps.length)
    (hS : ∀ rs g Q, S rs g Q → m.W (wd Ss glF dtF) (rs.map some ++ List.replicate (n - rs.length) none) g (fun _ g' => Fin g Q (.dat .non) g') (Fin g Q)) :
    FnOk P w K mg base CX0 (k + 1) f fd ps (PSpD ⟨ks, K⟩ S) := by
  subst hn
  exact fn_mini (Γ := wd Ss glF dtF) m Fn Sc (mok_of pg pd B C) ho hlen hS
end
end DW

/-! ## M0.lean -/
set_option linter.all false
set_option autoImplicit false
/-! M0: the tower as a plain machine. -/
namespace DW
inductive Deed where
  | push (v : Int) | swap (v : Int) | pop | top | clear
  deriving DecidableEq, Inhabited
inductive Kd where
  | marks | bare | new
  deriving DecidableEq, Inhabited
inductive Ph where
  | idle | take | look | see | check | put | walk
  deriving DecidableEq, Inhabited
abbrev Hd := Option Nat × Nat
/-- what a hand has got: values, or what it saw in a box -/
inductive Got where
  | vals (l : List Int) | pair (v : Int) (w : Option Nat)
  deriving DecidableEq, Inhabited
structure Hand where
  deeds : List Deed
  at_ : Nat
  ph : Ph
  box : Option Nat
  seen : Option Hd
  got : Got
  begun : Nat
  deriving Inhabited
inductive Ans where
  | non | val (v : Int) | tup (vs : List Int)
  deriving DecidableEq, Inhabited
structure MRow where
  hand : Nat
  at_ : Nat
  deed : Deed
  begun : Nat
  point : Nat
  ended : Option Nat
  ans : Ans
  deriving Inhabited
structure St where
  kind : Kd
  head : Hd
  boxes : List (Int × Option Nat)
  spare : List Nat
  hands : List Hand
  rows : List MRow
  time : Nat
  deriving Inhabited
inductive Step where
  | rest | take (b : Nat) | look (b : Option Nat) (m : Nat) | see (b : Nat) (v : Int) (w : Option Nat) | put (k : Bool)
  deriving DecidableEq, Inhabited
def Deed.own : Deed → Bool
  | .push _ => true
  | .swap _ => true
  | _ => false
def Deed.val : Deed → Int
  | .push v => v
  | .swap v => v
  | _ => 0
def Deed.isClear : Deed → Bool
  | .clear => true
  | _ => false
def Hand.deed (h : Hand) : Deed := h.deeds.getD h.at_ .pop
def St.inside (s : St) (b : Nat) : Int × Option Nat := s.boxes.getD b (0, none)
def stillB (k : Kd) (hd seen : Hd) : Bool := match k with | .marks => decide (hd = seen) | _ => decide (hd.1 = seen.1)
theorem stillB_o {k : Kd} {a b : Hd} (h : k ≠ .marks) : stillB k a b = decide (a.1 = b.1) := by cases k <;> first | rfl | exact absurd rfl h
theorem stillB_m {k : Kd} {a b : Hd} (h : k = .marks) : stillB k a b = decide (a = b) := by rw [h]; rfl
def St.setHead (s : St) (b : Option Nat) : St := { s with head := (b, s.head.2 + 1) }
def St.point (s : St) (h : Hand) (n : Nat) (e : Option Nat) (a : Ans) : St := { s with rows := s.rows ++ [⟨n, h.at_, h.deed, h.begun, s.time, e, a⟩] }
def Hand.next (h : Hand) : Hand := { h with at_ := h.at_ + 1, ph := .idle, box := none, seen := none, got := .vals [] }
def Hand.own (h : Hand) : Nat := h.box.getD 0
def Hand.sawB (h : Hand) : Nat := (h.seen.getD (none, 0)).1.getD 0
def Got.val : Got → Int
  | .pair v _ => v
  | _ => 0
def Got.below : Got → Option Nat
  | .pair _ w => w
  | _ => none
def Got.list : Got → List Int
  | .vals l => l
  | _ => []
/-- what a take takes, and what is left -/
def St.takeBox (s : St) : Nat := if s.kind = .new ∨ s.spare = [] then s.boxes.length else s.spare.getLastD 0
def St.took (s : St) (v : Int) : St := if s.kind = .new ∨ s.spare = [] then { s with boxes := s.boxes ++ [(v, none)] } else { s with spare := s.spare.dropLast, boxes := s.boxes.set (s.spare.getLastD 0) (v, none) }
def stepTake (s : St) (h : Hand) : St × Hand × Step := (s.took h.deed.val, { h with box := some s.takeBox, ph := .look }, .take s.takeBox)
def St.below (s : St) (b : Nat) (w : Option Nat) : St := { s with boxes := s.boxes.set b ((s.inside b).1, w) }
def St.free (s : St) (b : Nat) : St := { s with spare := s.spare ++ [b] }
def stepLook (s : St) (h : Hand) (n : Nat) : St × Hand × Step :=
  let h1 := { h with seen := some s.head }
  let r : St × Hand := match h.deed with
    | .push _ => (s.below h.own s.head.1, { h1 with ph := .put })
    | .clear => if s.head.1 = none then (s.point h1 n (some s.time) (.tup []), h1.next) else (s, { h1 with ph := .put })
    | .swap _ => if s.head.1 = none then ((s.free h.own).point h1 n (some s.time) .non, h1.next) else (s, { h1 with ph := .see })
    | _ => if s.head.1 = none then (s.point h1 n (some s.time) .non, h1.next) else (s, { h1 with ph := .see })
  (r.1, r.2, .look s.head.1 s.head.2)
def stepSee (s : St) (h : Hand) : St × Hand × Step :=
  let i := s.inside h.sawB
  let h1 := { h with got := .pair i.1 i.2 }
  let r : St × Hand := match h.deed with
    | .top => (s, { h1 with ph := .check })
    | .swap _ => (s.below h.own i.2, { h1 with ph := .put })
    | _ => (s, { h1 with ph := .put })
  (r.1, r.2, .see h.sawB i.1 i.2)
def stepCheck (s : St) (h : Hand) (n : Nat) : St × Hand × Step :=
  if stillB s.kind s.head (h.seen.getD (none, 0)) = true then (s.point h n (some s.time) (.val h.got.val), h.next, .look s.head.1 s.head.2)
  else (s, { h with ph := .look }, .look s.head.1 s.head.2)
def stepPut (s : St) (h : Hand) (n : Nat) : St × Hand × Step :=
  if stillB s.kind s.head (h.seen.getD (none, 0)) = true then
    let r : St × Hand := match h.deed with
      | .push _ => ((s.setHead h.box).point h n (some s.time) .non, h.next)
      | .clear => ((s.setHead none).point h n none .non, { h with box := some h.sawB, ph := .walk })
      | .pop => (((s.setHead h.got.below).free h.sawB).point h n (some s.time) (.val h.got.val), h.next)
      | _ => (((s.setHead h.box).free h.sawB).point h n (some s.time) (.val h.got.val), h.next)
    (r.1, r.2, .put true)
  else (s, { h with ph := .look }, .put false)
def endRow (n a t : Nat) (vs : List Int) (r : MRow) : MRow := if r.hand = n ∧ r.at_ = a then { r with ended := some t, ans := .tup vs } else r
def stepWalk (s : St) (h : Hand) (n : Nat) : St × Hand × Step :=
  let b := h.own
  let i := s.inside b
  let h1 := { h with got := .vals (h.got.list ++ [i.1]), box := i.2 }
  if i.2 = none then ({ s.free b with rows := s.rows.map (endRow n h.at_ s.time (h.got.list ++ [i.1])) }, h1.next, .see b i.1 i.2)
  else (s.free b, h1, .see b i.1 i.2)
/-- a hand begins its next deed -/
def Hand.begin (h : Hand) (t : Nat) : Hand := if h.ph = .idle then { h with ph := if h.deed.own then .take else .look, begun := t } else h
def stepOf (s : St) (h : Hand) (n : Nat) : St × Hand × Step :=
  if h.at_ = h.deeds.length then (s, h, .rest) else
  let h1 := h.begin s.time
  match h1.ph with
  | .take => stepTake s h1
  | .look => stepLook s h1 n
  | .see => stepSee s h1
  | .check => stepCheck s h1 n
  | .put => stepPut s h1 n
  | _ => stepWalk s h1 n
def St.hand (s : St) (n : Nat) : Hand := s.hands.getD n default
def step (s : St) (n : Nat) : St × Step :=
  let r := stepOf s (s.hand n) n
  ({ r.1 with hands := s.hands.set n r.2.1, time := s.time + 1 }, r.2.2)
def run : St → List Nat → St × List Step
  | s, [] => (s, [])
  | s, n :: w => let r := run (step s n).1 w; (r.1, (step s n).2 :: r.2)
/-- the start -/
def handOf (ds : List Deed) : Hand := ⟨ds, 0, .idle, none, none, .vals [], 0⟩
def boxesOf (start : List Int) : List (Int × Option Nat) := (List.range start.length).map fun k => (start.getD k 0, if k + 1 = start.length then none else some (k + 1))
def towerOf (start : List Int) (progs : List (List Deed)) (k : Kd) : St :=
  ⟨k, (if start = [] then none else some 0, 0), boxesOf start, [], progs.map handOf, [], 0⟩
end DW

/-! ## MA.lean -/
set_option Elab.async false
set_option linter.all false
set_option maxRecDepth 100000
set_option maxHeartbeats 4000000
set_option autoImplicit false
/-! MA: the law's draws and the program's values, in plain Lean. -/
namespace DW
open PySem PySem.Spec L2
open PyProof.Rows hiding St
abbrev ksL : List Str := (["push", "swap", "pop", "top", "clear", "marks", "bare", "new", "take", "look", "see", "put", "check", "walk", "rest", "pile", "spare", "held", "kind", "head"] : List Str) ++ (["boxes", "hands", "rows", "time", "deeds", "at", "phase", "box", "seen", "got", "begun", "", "no deed", "1", "no kind", "too many values", "too many hands", "no value", "too many deeds", "no hand"] : List Str) ++ (["too many steps", "mark", "Marks", "first", "due", "own", "below", "looks", "saw", "point", "0"] : List Str)
abbrev glF : List (Str × Int) := [("MOST_VALUES", 60), ("MOST_HANDS", 20), ("MOST_DEEDS", 60), ("MOST_STEPS", 2000), ("MOST_ROWS", 7)]
abbrev dtF : List (Str × List (Nat × Nat)) := [("FIRST", [(0, 8), (1, 8), (2, 9), (3, 9), (4, 9)])]
def mixed (c k : Int) : Int := ((c + 7919 * k) * 48271 % 2147483647) * ((c + 7919 * k) * 48271 % 2147483647) % 2147483629
theorem mixed_lo (c k : Int) : 0 ≤ mixed c k := Int.emod_nonneg _ (by decide)
theorem mixed_hi (c k : Int) : mixed c k < 2147483629 := Int.emod_lt_of_pos _ (by decide)
/-- a script's cell -/
def cellAt (ns : List Int) (k : Nat) : Int := match ns[k]? with | some n => mixed n k | none => 0
theorem cellAt_lo (ns : List Int) (k : Nat) : 0 ≤ cellAt ns k := by unfold cellAt; split; exact mixed_lo _ _; exact Int.le_refl 0
theorem cellAt_hi (ns : List Int) (k : Nat) : cellAt ns k < 2147483629 := by unfold cellAt; split; exact mixed_hi _ _; decide
def valueBy (c : Int) : Int := if c % 4 = 0 then c / 4 * 7919 * 7919 * 7919 - 10 ^ 20 else c / 4 % 5 - 1
def Deed.enc : Deed → D
  | .push v => .tup [.str 0, .int v]
  | .swap v => .tup [.str 1, .int v]
  | .pop => .tup [.str 2]
  | .top => .tup [.str 3]
  | .clear => .tup [.str 4]
def deedBy (c : Int) : Deed :=
  if c % 12 < 4 then .push (valueBy (c / 12)) else if c % 12 < 7 then .pop else if c % 12 < 9 then .top else if c % 12 < 11 then .swap (valueBy (c / 12)) else .clear
theorem eqv_ii {i j : Int} : eqv (.int i) (.int j) = (i == j) := by simp only [eqv]
theorem eqv_ss {i j : Nat} : eqv (.str i) (.str j) = (i == j) := by simp only [eqv]
theorem eqv_bb {i j : Bool} : eqv (.bl i) (.bl j) = (i == j) := by simp only [eqv]
theorem eqv_nn : eqv .non .non = true := by simp only [eqv]
theorem eqv_ll {i j : List D} : eqv (.lst i) (.lst j) = eqvs i j := by simp only [eqv]
theorem eqv_tt {i j : List D} : eqv (.tup i) (.tup j) = eqvs i j := by simp only [eqv]
theorem eqn_non_int {i : Int} : eqv .non (.int i) = false := by simp only [eqv]
theorem eqn_non_str {k : Nat} : eqv .non (.str k) = false := by simp only [eqv]
theorem eqn_non_lst {l : List D} : eqv .non (.lst l) = false := by simp only [eqv]
theorem eqn_non_tup {t : List D} : eqv .non (.tup t) = false := by simp only [eqv]
theorem eqn_non_bl {b : Bool} : eqv .non (.bl b) = false := by simp only [eqv]
theorem eqn_non_dic {m : List (Nat × D)} : eqv .non (.dic m) = false := by simp only [eqv]
theorem eqn_int_non {i : Int} : eqv (.int i) .non = false := by simp only [eqv]
theorem eqn_int_str {i : Int} {k : Nat} : eqv (.int i) (.str k) = false := by simp only [eqv]
theorem eqn_int_lst {i : Int} {l : List D} : eqv (.int i) (.lst l) = false := by simp only [eqv]
theorem eqn_int_tup {i : Int} {t : List D} : eqv (.int i) (.tup t) = false := by simp only [eqv]
theorem eqn_int_dic {i : Int} {m : List (Nat × D)} : eqv (.int i) (.dic m) = false := by simp only [eqv]
theorem eqn_str_non {k : Nat} : eqv (.str k) .non = false := by simp only [eqv]
theorem eqn_str_int {k : Nat} {i : Int} : eqv (.str k) (.int i) = false := by simp only [eqv]
theorem eqn_str_lst {k : Nat} {l : List D} : eqv (.str k) (.lst l) = false := by simp only [eqv]
theorem eqn_str_tup {k : Nat} {t : List D} : eqv (.str k) (.tup t) = false := by simp only [eqv]
theorem eqn_str_bl {k : Nat} {b : Bool} : eqv (.str k) (.bl b) = false := by simp only [eqv]
theorem eqn_str_dic {k : Nat} {m : List (Nat × D)} : eqv (.str k) (.dic m) = false := by simp only [eqv]
theorem eqn_lst_non {l : List D} : eqv (.lst l) .non = false := by simp only [eqv]
theorem eqn_lst_int {l : List D} {i : Int} : eqv (.lst l) (.int i) = false := by simp only [eqv]
theorem eqn_lst_str {l : List D} {k : Nat} : eqv (.lst l) (.str k) = false := by simp only [eqv]
theorem eqn_lst_tup {l : List D} {t : List D} : eqv (.lst l) (.tup t) = false := by simp only [eqv]
theorem eqn_lst_bl {l : List D} {b : Bool} : eqv (.lst l) (.bl b) = false := by simp only [eqv]
theorem eqn_lst_dic {l : List D} {m : List (Nat × D)} : eqv (.lst l) (.dic m) = false := by simp only [eqv]
theorem eqn_tup_non {t : List D} : eqv (.tup t) .non = false := by simp only [eqv]
theorem eqn_tup_int {t : List D} {i : Int} : eqv (.tup t) (.int i) = false := by simp only [eqv]
theorem eqn_tup_str {t : List D} {k : Nat} : eqv (.tup t) (.str k) = false := by simp only [eqv]
theorem eqn_tup_lst {t : List D} {l : List D} : eqv (.tup t) (.lst l) = false := by simp only [eqv]
theorem eqn_tup_bl {t : List D} {b : Bool} : eqv (.tup t) (.bl b) = false := by simp only [eqv]
theorem eqn_tup_dic {t : List D} {m : List (Nat × D)} : eqv (.tup t) (.dic m) = false := by simp only [eqv]
theorem eqn_bl_non {b : Bool} : eqv (.bl b) .non = false := by simp only [eqv]
theorem eqn_bl_str {b : Bool} {k : Nat} : eqv (.bl b) (.str k) = false := by simp only [eqv]
theorem eqn_bl_lst {b : Bool} {l : List D} : eqv (.bl b) (.lst l) = false := by simp only [eqv]
theorem eqn_bl_tup {b : Bool} {t : List D} : eqv (.bl b) (.tup t) = false := by simp only [eqv]
theorem eqn_bl_dic {b : Bool} {m : List (Nat × D)} : eqv (.bl b) (.dic m) = false := by simp only [eqv]
theorem atI_lit {α : Type} {xs : List α} {n : Nat} : atI xs (no_index (@OfNat.ofNat Int n _)) = xs[(@OfNat.ofNat Nat n _)]? := by
  have h : (0 : Int) ≤ (n : Int) := Int.natCast_nonneg n
  show atI xs (n : Int) = xs[n]?
  unfold L2.atI L2.ixN
  by_cases hl : n < xs.length
  · rw [if_pos (by omega), if_pos (by omega)]; simp
  · rw [if_pos (by omega), if_neg (by omega), List.getElem?_eq_none (by omega)]; rfl
theorem cdiv_lit {i : Int} {n : Nat} : CDiv i (no_index (@OfNat.ofNat Int n _)) ↔ 0 < n ∧ n < 1073741824 := by
  show CDiv i (n : Int) ↔ _
  unfold CDiv; omega
theorem cmul_r {i : Int} {n : Nat} : CMul i (no_index (@OfNat.ofNat Int n _)) ↔ (-(2 ^ 64) < i ∧ i < 2 ^ 64) ∨ n < 18446744073709551616 := by
  show CMul i (n : Int) ↔ _
  unfold CMul; omega
theorem cmul_l {i : Int} {n : Nat} : CMul (no_index (@OfNat.ofNat Int n _)) i ↔ n < 18446744073709551616 ∨ (-(2 ^ 64) < i ∧ i < 2 ^ 64) := by
  show CMul (n : Int) i ↔ _
  unfold CMul; omega
theorem cpow_lit {a b : Nat} : CPow (no_index (@OfNat.ofNat Int a _)) (no_index (@OfNat.ofNat Int b _)) ↔ b ≤ 1000000 ∧ a < 18446744073709551616 := by
  show CPow (a : Int) (b : Int) ↔ _
  unfold CPow; omega
theorem nrm_ref {g : Rg} {c : Nat} : nrm g (.ref c) = match g[c]? with | some (.fz d) => .dat d | _ => .ref c := rfl
theorem cast_lit {n : Nat} : ((no_index (@OfNat.ofNat Nat n _) : Nat) : Int) = @OfNat.ofNat Int n _ := rfl
mutual
theorem plN_mono : ∀ {d : D} {n m : Nat}, plN n d = true → n ≤ m → plN m d = true
  | .non, n, m, _, _ => by simp only [plN]
  | .bl _, n, m, _, _ => by simp only [plN]
  | .int _, n, m, _, _ => by simp only [plN]
  | .str _, n, m, _, _ => by simp only [plN]
  | .lst ds, n, m, p, h => by
    simp only [plN] at p ⊢; exact plAll_mono p h
  | .tup ds, n, m, p, h => by
    simp only [plN] at p ⊢; exact plAll_mono p h
  | .dic _, _, _, p, _ => by simp [plN] at p
  | .scr _, _, _, p, _ => by simp [plN] at p
theorem plAll_mono : ∀ {ds : List D} {n m : Nat}, plAll n ds = true → n ≤ m → plAll m ds = true
  | [], n, m, _, _ => by simp only [plAll]
  | d :: ds, 0, _, p, _ => by simp [plAll] at p
  | d :: ds, n + 1, 0, _, h => by omega
  | d :: ds, n + 1, m + 1, p, h => by
    simp only [plAll, Bool.and_eq_true] at p ⊢
    exact ⟨plN_mono p.1 (by omega), plAll_mono p.2 h⟩
end
/-- a for loop, its items known -/
def WLoop (T : Tg) (Wb : SWt) (its : List Rv) (keep : Rg → Prop) (env : En) (g : Rg) (N : En → Rg → Prop) (R : RQ) : Prop := ∃ Inv : Nat → En → Rg → Prop, Inv 0 env g ∧ (∀ k env g, Inv k env g → keep g) ∧
  (∀ k r env g, its[k]? = some r → Inv k env g → ∃ env', T.put env (nrm g r) = some env' ∧ Wb env' g (Inv (k + 1)) R) ∧ ∀ env g, Inv its.length env g → N env g
theorem wfor_eq {WI : En → Rg → IQ → Prop} {T : Tg} {Wb : SWt} {env : En} {g : Rg} {N : En → Rg → Prop} {R : RQ} : WFor WI T Wb env g N R = WI env g fun its keep g1 => WLoop T Wb its keep env g1 N R := rfl
theorem wloop {T : Tg} {Wb : SWt} {its : List Rv} {keep : Rg → Prop} {env : En} {g : Rg} {N : En → Rg → Prop} {R : RQ} (Inv : Nat → En → Rg → Prop) (h0 : Inv 0 env g) (hk : ∀ k env g, Inv k env g → keep g)
    (hs : ∀ k r env g, its[k]? = some r → Inv k env g → ∃ env', T.put env (nrm g r) = some env' ∧ Wb env' g (Inv (k + 1)) R) (he : ∀ env g, Inv its.length env g → N env g) : WLoop T Wb its keep env g N R := ⟨Inv, h0, hk, hs, he⟩
theorem wwhile {Wc : En → Rg → (Bool → Rg → Prop) → Prop} {Wb : SWt} {env : En} {g : Rg} {N : En → Rg → Prop} {R : RQ} (Inv : Nat → En → Rg → Prop) (m : Nat) (h0 : Inv m env g)
    (hs : ∀ m env g, Inv m env g → Wc env g fun k g1 => (k = true → Wb env g1 (fun env' g' => ∃ m', m' < m ∧ Inv m' env' g') R) ∧ (k = false → N env g1)) : WWhile Wc Wb env g N R := ⟨Inv, ⟨m, h0⟩, hs⟩
theorem rngs_get' {n : Int} {k : Nat} {r : Rv} (h : (rngs 0 n.toNat)[k]? = some r) : r = .dat (.int k) ∧ (k : Int) < n := by
  have hl := (List.getElem?_eq_some_iff.mp h).1
  rw [rngs_length] at hl
  rw [rngs_get hl] at h
  cases h
  exact ⟨by simp, by omega⟩
/-- a list of data made item by item -/
theorem comp_map {T : Tg} {vs : List Nat} {env : En} {W : Rg → (Bool → Rg → Prop) → Prop} {We : En → Rg → RQ → Prop} {its : List Rv} {keep : Rg → Prop} {g1 : Rg} {Q : RQ} (f : Nat → D) (hl : its.length ≤ 1000000) (hk : ∀ j, keep (g1 ++ j))
    (hs : ∀ k r l P, its[k]? = some r → (∀ j, P (.dat (f k)) (g1 ++ (l ++ j))) → ∃ env', T.put (wipeN env vs) (nrm (g1 ++ l) r) = some env' ∧ We env' (g1 ++ l) P)
    (hQ : ∀ j, Q (.ref g1.length) (g1 ++ (.lst (((List.range its.length).map f).map .dat) :: j))) :
    WComp T vs env (fun _ => tstW false W) We its keep g1 Q := by
  refine ⟨fun k acc g => ∃ j, g = g1 ++ (.lst acc :: j) ∧ acc = ((List.range k).map f).map .dat ∧ k ≤ its.length, ⟨[], rfl, rfl, Nat.zero_le _⟩, ?_, ?_, ?_⟩
  · rintro k acc g ⟨j, rfl, ha, hle⟩
    exact ⟨hk _, by rw [List.getElem?_append_right (Nat.le_refl _)]; simp⟩
  · rintro k r acc g hr ⟨j, rfl, ha, hle⟩
    have hlt := (List.getElem?_eq_some_iff.mp hr).1
    have hal : acc.length = k := by rw [ha]; simp
    obtain ⟨env', h1, h2⟩ := hs k r (.lst acc :: j) (fun y g3 => g3[g1.length]? = some (.lst acc) ∧ acc.length < 1000000 ∧ ∃ j, g3.set g1.length (.lst (acc ++ [y])) = g1 ++ (.lst (acc ++ [y]) :: j) ∧ acc ++ [y] = ((List.range (k + 1)).map f).map .dat ∧ k + 1 ≤ its.length) hr fun j2 => by
      refine ⟨by rw [List.getElem?_append_right (Nat.le_refl _)]; simp, by omega, j ++ j2, by rw [List.set_append_right _ _ (Nat.le_refl _)]; simp, ?_, hlt⟩
      rw [ha, List.range_succ, List.map_append, List.map_append]; rfl
    exact ⟨env', h1, fun _ => h2, fun z => by cases z⟩
  · rintro acc g ⟨j, rfl, ha, hle⟩
    rw [ha]; exact hQ j
theorem ixD {l : List D} {i : Int} {P : Rv → Prop} : (∃ r, atI (l.map Rv.dat) i = some r ∧ P r) ↔ ∃ d, atI l i = some d ∧ P (.dat d) := by
  have e : atI (l.map Rv.dat) i = (atI l i).map .dat := by unfold L2.atI; rw [List.length_map]; cases L2.ixN l.length i <;> simp [Option.bind, List.getElem?_map, Option.map]
  rw [e]
  exact ⟨fun ⟨r, h, p⟩ => by obtain ⟨d, h1, h2⟩ := Option.map_eq_some_iff.mp h; exact ⟨d, h1, h2 ▸ p⟩, fun ⟨d, h, p⟩ => ⟨_, by rw [h]; rfl, p⟩⟩
theorem ixM {α : Type} {l : List α} {f : α → D} {i : Int} {P : D → Prop} : (∃ r, atI (l.map f) i = some r ∧ P r) ↔ ∃ d, atI l i = some d ∧ P (f d) := by
  have e : atI (l.map f) i = (atI l i).map f := by unfold L2.atI; rw [List.length_map]; cases L2.ixN l.length i <;> simp [Option.bind, List.getElem?_map, Option.map]
  rw [e]
  exact ⟨fun ⟨r, h, p⟩ => by obtain ⟨d, h1, h2⟩ := Option.map_eq_some_iff.mp h; exact ⟨d, h1, h2 ▸ p⟩, fun ⟨d, h, p⟩ => ⟨_, by rw [h]; rfl, p⟩⟩
theorem kbs : kitB "NoneType" "int" = some false ∧ kitB "NoneType" "bool" = some false ∧ kitB "NoneType" "str" = some false ∧ kitB "NoneType" "tuple" = some false ∧ kitB "NoneType" "list" = some false ∧ kitB "bool" "int" = some true ∧ kitB "bool" "bool" = some true ∧ kitB "bool" "str" = some false ∧ kitB "bool" "tuple" = some false ∧ kitB "bool" "list" = some false ∧ kitB "int" "int" = some true ∧ kitB "int" "bool" = some false ∧ kitB "int" "str" = some false ∧ kitB "int" "tuple" = some false ∧ kitB "int" "list" = some false ∧ kitB "str" "int" = some false ∧ kitB "str" "bool" = some false ∧ kitB "str" "str" = some true ∧ kitB "str" "tuple" = some false ∧ kitB "str" "list" = some false ∧ kitB "list" "int" = some false ∧ kitB "list" "bool" = some false ∧ kitB "list" "str" = some false ∧ kitB "list" "tuple" = some false ∧ kitB "list" "list" = some true ∧ kitB "tuple" "int" = some false ∧ kitB "tuple" "bool" = some false ∧ kitB "tuple" "str" = some false ∧ kitB "tuple" "tuple" = some true ∧ kitB "tuple" "list" = some false ∧ kitB "dict" "int" = some false ∧ kitB "dict" "bool" = some false ∧ kitB "dict" "str" = some false ∧ kitB "dict" "tuple" = some false ∧ kitB "dict" "list" = some false := by
  refine ⟨?_, ?_, ?_, ?_, ?_, ?_, ?_, ?_, ?_, ?_, ?_, ?_, ?_, ?_, ?_, ?_, ?_, ?_, ?_, ?_, ?_, ?_, ?_, ?_, ?_, ?_, ?_, ?_, ?_, ?_, ?_, ?_, ?_, ?_, ?_⟩ <;> decide +kernel
theorem atI_nat' {α : Type} {xs : List α} {n : Nat} {x : α} (h : xs[n]? = some x) : atI xs (n : Int) = some x := by
  have hl := (List.getElem?_eq_some_iff.mp h).1
  unfold L2.atI L2.ixN
  rw [if_pos (by omega), if_pos (by omega)]
  simpa using h
end DW

/-! ## MB.lean -/
set_option Elab.async false
set_option linter.all false
set_option maxRecDepth 100000
set_option maxHeartbeats 4000000
set_option autoImplicit false
/-! MB: rows. -/
namespace DW
open PySem PySem.Spec L2
open PyProof.Rows hiding St
def optI : Option Int → D
  | none => .non
  | some i => .int i
/-- a row of a deed -/
structure Row where
  hand : Int
  at_ : Int
  deed : D
  begun : Int
  point : Int
  ended : Option Int
  answer : D
  deriving Inhabited
def Row.enc (r : Row) : D := .tup [.int r.hand, .int r.at_, r.deed, .int r.begun, .int r.point, optI r.ended, r.answer]
def aheadR (a b : Row) : Bool := match a.ended with | some e => decide (e < b.begun) | none => false
def natD (n : Nat) : D := .int (n : Int)
theorem eqvs_nil {l : List D} : eqvs l [] = l.isEmpty := by cases l <;> simp [eqvs]
theorem plAll_nat {n : Nat} {l : List Nat} : plAll (n + 1) (l.map natD) = true := by
  induction l with
  | nil => simp [plAll]
  | cons a l ih => simp [plAll, natD, plN]; exact ih
theorem eqvs_self : ∀ {l : List D}, (∀ d ∈ l, eqv d d = true) → eqvs l l = true
  | [], _ => by simp [eqvs]
  | d :: l, h => by simp only [eqvs, Bool.and_eq_true]; exact ⟨h d List.mem_cons_self, eqvs_self fun e he => h e (List.mem_cons_of_mem _ he)⟩
mutual
theorem eqv_refl : ∀ {d : D} {n : Nat}, plN n d = true → eqv d d = true
  | .non, _, _ => by simp [eqv]
  | .bl _, _, _ => by simp [eqv]
  | .int _, _, _ => by simp [eqv]
  | .str _, _, _ => by simp [eqv]
  | .lst ds, n, p => by simp only [eqv]; exact eqvs_refl (n := n) (by simpa only [plN] using p)
  | .tup ds, n, p => by simp only [eqv]; exact eqvs_refl (n := n) (by simpa only [plN] using p)
  | .dic _, _, p => by simp [plN] at p
  | .scr _, _, p => by simp [plN] at p
theorem eqvs_refl : ∀ {ds : List D} {n : Nat}, plAll n ds = true → eqvs ds ds = true
  | [], _, _ => by simp [eqvs]
  | d :: ds, 0, p => by simp [plAll] at p
  | d :: ds, n + 1, p => by
    simp only [plAll, Bool.and_eq_true] at p
    simp only [eqvs, Bool.and_eq_true]; exact ⟨eqv_refl p.1, eqvs_refl p.2⟩
end
theorem er_map {α β : Type} {f : α → β} : ∀ {l : List α} {i : Nat}, (l.map f).eraseIdx i = (l.eraseIdx i).map f
  | [], _ => by simp
  | a :: l, 0 => by simp
  | a :: l, i + 1 => by simp [er_map (l := l) (i := i)]
theorem cut_take {α : Type} {l : List α} {k : Nat} : cutL l none (some (k : Int)) = l.take k := by
  unfold cutL
  rw [HT.sIx_none, HT.sIx_nat]
  simp only [List.drop_zero, Nat.sub_zero]
  by_cases h : k ≤ l.length
  · rw [Nat.min_eq_left h]
  · rw [Nat.min_eq_right (by omega), List.take_of_length_le (Nat.le_refl _), List.take_of_length_le (by omega)]
theorem cut_one {α : Type} {l : List α} : cutL l (some 1) none = l.tail := by
  unfold cutL
  rw [HT.sIx_none, show HT.sIx l.length 0 (some 1) = min 1 l.length from HT.sIx_nat _ _ 1]
  cases l with
  | nil => rfl
  | cons a l => simp
theorem rngs_getN {n : Nat} {k : Nat} {r : Rv} (h : (rngs 0 n)[k]? = some r) : r = .dat (.int k) ∧ k < n := by
  have hl := (List.getElem?_eq_some_iff.mp h).1
  rw [rngs_length] at hl
  rw [rngs_get hl] at h
  cases h
  exact ⟨by simp, hl⟩
theorem plAll_int {n : Nat} {l : List Int} : plAll (n + 1) (l.map D.int) = true := by
  induction l with
  | nil => simp [plAll]
  | cons a l ih => simp [plAll, plN]; exact ih
theorem mapint_inj {l m : List Int} : (l.map D.int = m.map D.int) ↔ l = m := by
  refine ⟨fun h => ?_, fun h => h ▸ rfl⟩
  induction l generalizing m with
  | nil => cases m <;> simp_all
  | cons a l ih => cases m with
    | nil => simp at h
    | cons b m =>
      simp only [List.map_cons, List.cons.injEq, D.int.injEq] at h ⊢
      exact ⟨h.1, ih h.2⟩
theorem mapnat_inj {l m : List Nat} : (l.map natD = m.map natD) ↔ l = m := by
  refine ⟨fun h => ?_, fun h => h ▸ rfl⟩
  induction l generalizing m with
  | nil => cases m <;> simp_all
  | cons a l ih => cases m with
    | nil => simp at h
    | cons b m =>
      simp only [List.map_cons, List.cons.injEq, natD, D.int.injEq] at h ⊢
      exact ⟨by omega, ih h.2⟩
theorem denc_inj {a b : Deed} : (a.enc = b.enc) ↔ a = b := by
  refine ⟨fun h => ?_, fun h => h ▸ rfl⟩
  cases a <;> cases b <;> simp [Deed.enc] at h ⊢ <;> exact h
theorem seqIx_nat {i : Int} {n : Nat} (h0 : 0 ≤ i) (h : i < n) : seqIndex? i n = some i.toNat := by
  unfold seqIndex?
  simp [show ¬ i < 0 by omega]
  omega
end DW
namespace DW
open PySem PySem.Spec L2
open PyProof.Rows hiding St
mutual
/-- how much there is in it -/
def dsize : D → Nat
  | .lst ds => 1 + dsizes ds
  | .tup ds => 1 + dsizes ds
  | _ => 1
def dsizes : List D → Nat
  | [] => 0
  | d :: ds => dsize d + dsizes ds
end
open Classical in
/-- the same datum -/
noncomputable def deq (a b : D) : Bool := decide (a = b)
theorem deq_self (a : D) : deq a a = true := by unfold deq; simp
theorem deq_true {a b : D} : deq a b = true ↔ a = b := by unfold deq; simp
theorem deq_false {a b : D} : deq a b = false ↔ a ≠ b := by unfold deq; simp
theorem dsize_pos (d : D) : 0 < dsize d := by cases d <;> simp [dsize] <;> omega
theorem dsizes_len (l : List D) : l.length ≤ dsizes l := by
  induction l with
  | nil => simp
  | cons d l ih => simp only [List.length_cons, dsizes]; have := dsize_pos d; omega
theorem dsizes_app (l m : List D) : dsizes (l ++ m) = dsizes l + dsizes m := by
  induction l with
  | nil => simp [dsizes]
  | cons d l ih => simp only [List.cons_append, dsizes, ih]; omega
theorem dsizes_take_drop (l : List D) : dsizes (l.dropLast) + (match l.getLast? with | some d => dsize d | none => 0) = dsizes l := by
  rcases List.eq_nil_or_concat l with rfl | ⟨m, d, rfl⟩
  · simp [dsizes]
  · simp [dsizes_app, dsizes]
theorem zip_map_eq {a b : List D} (h : a.length = b.length) : (∀ p ∈ a.zip b, p.1 = p.2) ↔ a = b := by
  induction a generalizing b with
  | nil => cases b <;> simp_all
  | cons x a ih =>
    cases b with
    | nil => simp at h
    | cons y b =>
      have := ih (b := b) (by simpa using h)
      simp only [List.zip_cons_cons, List.mem_cons, forall_eq_or_imp, List.cons.injEq]
      rw [this]
theorem zip_snd {a b : List D} (h : a.length = b.length) : dsizes ((a.zip b).map (·.2)) = dsizes b := by
  rw [List.map_snd_zip (by omega)]
theorem plAll_mem {n : Nat} : ∀ {l : List D}, plAll n l = true → ∀ d ∈ l, plN (n - 1) d = true
  | [], _, d, h => by cases h
  | x :: l, p, d, h => by
    cases n with
    | zero => simp [plAll] at p
    | succ n =>
      simp only [plAll, Bool.and_eq_true] at p
      rcases List.mem_cons.mp h with rfl | h
      · exact p.1
      · exact plAll_mem p.2 d h
theorem plAll_of {n : Nat} : ∀ {l : List D}, (∀ d ∈ l, plN n d = true) → plAll (n + 1) l = true
  | [], _ => by simp [plAll]
  | x :: l, h => by
    simp only [plAll, Bool.and_eq_true]
    exact ⟨h x List.mem_cons_self, plAll_of fun d hd => h d (List.mem_cons_of_mem _ hd)⟩
end DW

/-! ## M1.lean -/
set_option linter.all false
set_option autoImplicit false
set_option maxHeartbeats 1000000
/-! M1: what every state of the machine keeps. -/
namespace DW
def inB (nb : Nat) (o : Option Nat) : Prop := ∀ b, o = some b → b < nb
theorem inB_none {nb : Nat} : inB nb none := fun b h => by cases h
theorem inB_some {nb b : Nat} (h : b < nb) : inB nb (some b) := fun c e => by cases e; exact h
theorem inB.mono {nb nc : Nat} {o : Option Nat} (h : inB nb o) (l : nb ≤ nc) : inB nc o := fun b e => Nat.lt_of_lt_of_le (h b e) l
def PhOk (h : Hand) : Prop := (h.deed.own = false → h.ph ≠ .walk → h.box = none) ∧ match h.ph with
  | .idle => h.box = none ∧ h.got = .vals [] ∧ h.seen = none
  | .take => h.deed.own = true ∧ h.box = none ∧ h.got = .vals [] ∧ h.seen = none
  | .look => (h.deed.own = true → h.box ≠ none) ∧ (h.deed = .clear → h.got = .vals [])
  | .see => (∀ v, h.deed ≠ .push v) ∧ h.deed ≠ .clear ∧ (∃ b m, h.seen = some (some b, m)) ∧ (h.deed.own = true → h.box ≠ none)
  | .check => h.deed = .top ∧ (∃ b m, h.seen = some (some b, m)) ∧ ∃ v w, h.got = .pair v w
  | .put => h.deed ≠ .top ∧ (∃ o m, h.seen = some (o, m) ∧ (o = none → ∃ v, h.deed = .push v)) ∧ (h.deed.own = true → h.box ≠ none) ∧ (h.deed = .clear → h.got = .vals []) ∧ (h.deed = .pop → ∃ v w, h.got = .pair v w) ∧ (∀ x, h.deed = .swap x → ∃ v w, h.got = .pair v w)
  | .walk => h.deed = .clear ∧ h.box ≠ none ∧ ∃ l, h.got = .vals l
/-- a hand in a tower of so many boxes, at a time -/
structure HOk (nb t : Nat) (h : Hand) : Prop where
  le : h.at_ ≤ h.deeds.length
  lt : h.ph ≠ .idle → h.at_ < h.deeds.length
  box : inB nb h.box
  seen : ∀ p, h.seen = some p → inB nb p.1
  got : inB nb h.got.below
  ph : PhOk h
  size : h.got.list.length ≤ t
  mark : ∀ p, h.seen = some p → p.2 ≤ t
  begun : h.begun ≤ t
structure WfS (s : St) : Prop where
  head : inB s.boxes.length s.head.1
  boxes : ∀ p ∈ s.boxes, inB s.boxes.length p.2
  spare : ∀ b ∈ s.spare, b < s.boxes.length
  hands : ∀ h ∈ s.hands, HOk s.boxes.length s.time h
  nb : s.boxes.length ≤ 60 + s.time
  ns : s.spare.length ≤ s.time
  nr : s.rows.length ≤ s.time
  mark : s.head.2 ≤ s.time
theorem HOk.mono {nb nc t u : Nat} {h : Hand} (k : HOk nb t h) (l : nb ≤ nc) (m : t ≤ u) : HOk nc u h :=
  ⟨k.le, k.lt, k.box.mono l, fun p e => (k.seen p e).mono l, k.got.mono l, k.ph, Nat.le_trans k.size m, fun p e => Nat.le_trans (k.mark p e) m, Nat.le_trans k.begun m⟩
/-- one step's state apart from the hands -/
structure WfT (t : Nat) (s : St) : Prop where
  head : inB s.boxes.length s.head.1
  boxes : ∀ p ∈ s.boxes, inB s.boxes.length p.2
  spare : ∀ b ∈ s.spare, b < s.boxes.length
  nb : s.boxes.length ≤ 60 + t
  ns : s.spare.length ≤ t
  nr : s.rows.length ≤ t
  mark : s.head.2 ≤ t
theorem WfS.t {s : St} (w : WfS s) : WfT s.time s := ⟨w.head, w.boxes, w.spare, w.nb, w.ns, w.nr, w.mark⟩
theorem begin_deed {h : Hand} {t : Nat} : (h.begin t).deed = h.deed ∧ (h.begin t).at_ = h.at_ ∧ (h.begin t).deeds = h.deeds ∧ (h.begin t).box = h.box ∧ (h.begin t).seen = h.seen ∧ (h.begin t).got = h.got := by
  unfold Hand.begin; split <;> exact ⟨rfl, rfl, rfl, rfl, rfl, rfl⟩
theorem begin_ok {nb t : Nat} {h : Hand} (k : HOk nb t h) (hl : h.at_ < h.deeds.length) : HOk nb t (h.begin t) ∧ (h.begin t).ph ≠ .idle := by
  unfold Hand.begin
  split
  · rename_i e
    have p := k.ph
    unfold PhOk at p
    rw [e] at p
    dsimp only at p
    obtain ⟨p0, p1, p2, p3⟩ := p
    by_cases ho : h.deed.own = true
    · rw [if_pos ho]
      refine ⟨⟨k.le, fun _ => hl, k.box, k.seen, k.got, ?_, k.size, k.mark, Nat.le_refl t⟩, by simp⟩
      exact ⟨fun h1 _ => p1, ho, p1, p2, p3⟩
    · rw [if_neg ho]
      refine ⟨⟨k.le, fun _ => hl, k.box, k.seen, k.got, ?_, k.size, k.mark, Nat.le_refl t⟩, by simp⟩
      exact ⟨fun h1 _ => p1, fun h1 => absurd h1 ho, fun _ => p2⟩
  · rename_i e
    exact ⟨k, e⟩
theorem next_ok {nb t : Nat} {h : Hand} (k : HOk nb t h) (hl : h.at_ < h.deeds.length) : HOk nb t h.next :=
  ⟨hl, fun z => absurd rfl z, inB_none, fun p e => (by cases e), inB_none, ⟨fun _ _ => rfl, rfl, rfl, rfl⟩, Nat.zero_le _, fun p e => (by cases e), k.begun⟩
theorem inside_ok {t : Nat} {s : St} (w : WfT t s) (b : Nat) : inB s.boxes.length (s.inside b).2 := by
  unfold St.inside
  rw [List.getD_eq_getElem?_getD]
  cases e : s.boxes[b]? with
  | none => exact inB_none
  | some p => exact w.boxes p (List.mem_of_getElem? e)
theorem wt_below {t : Nat} {s : St} (w : WfT t s) (b : Nat) {o : Option Nat} (h : inB s.boxes.length o) : WfT t (s.below b o) := by
  unfold St.below
  refine ⟨by simpa using w.head, fun p hp => ?_, by simpa using w.spare, by simpa using w.nb, w.ns, w.nr, w.mark⟩
  dsimp only at hp ⊢
  rw [List.length_set]
  rcases List.mem_or_eq_of_mem_set hp with hp | rfl
  · exact w.boxes p hp
  · exact h
theorem wt_free {t : Nat} {s : St} (w : WfT t s) {b : Nat} (h : b < s.boxes.length) : WfT (t + 1) (s.free b) := by
  refine ⟨w.head, w.boxes, fun c hc => ?_, Nat.le_succ_of_le w.nb, ?_, Nat.le_succ_of_le w.nr, Nat.le_succ_of_le w.mark⟩
  · rcases List.mem_append.mp hc with hc | hc
    · exact w.spare c hc
    · rw [List.mem_singleton.mp hc]; exact h
  · show (s.spare ++ [b]).length ≤ t + 1
    rw [List.length_append]; exact Nat.succ_le_succ w.ns
/-- rows and mark may grow by one in a step -/
structure WfU (t r m : Nat) (s : St) : Prop where
  head : inB s.boxes.length s.head.1
  boxes : ∀ p ∈ s.boxes, inB s.boxes.length p.2
  spare : ∀ b ∈ s.spare, b < s.boxes.length
  nb : s.boxes.length ≤ 60 + t
  ns : s.spare.length ≤ t
  nr : s.rows.length ≤ r
  mark : s.head.2 ≤ m
theorem took_ok {t : Nat} {s : St} (w : WfT t s) (v : Int) : WfT (t + 1) (s.took v) ∧ s.boxes.length ≤ (s.took v).boxes.length ∧ s.takeBox < (s.took v).boxes.length := by
  unfold St.took St.takeBox
  by_cases h : s.kind = .new ∨ s.spare = []
  · rw [if_pos h, if_pos h]
    refine ⟨⟨?_, fun p hp => ?_, fun b hb => ?_, ?_, Nat.le_succ_of_le w.ns, Nat.le_succ_of_le w.nr, Nat.le_succ_of_le w.mark⟩, ?_, ?_⟩ <;> dsimp only <;> try rw [List.length_append]
    · exact w.head.mono (Nat.le_add_right _ _)
    · rcases List.mem_append.mp hp with hp | hp
      · exact (w.boxes p hp).mono (Nat.le_add_right _ _)
      · rw [List.mem_singleton.mp hp]; exact inB_none
    · exact Nat.lt_of_lt_of_le (w.spare b hb) (Nat.le_add_right _ _)
    · have := w.nb; simp; omega
    · exact Nat.le_add_right _ _
    · simp
  · rw [if_neg h, if_neg h]
    have hne : s.spare ≠ [] := fun z => h (.inr z)
    have hm : s.spare.getLastD 0 ∈ s.spare := by
      rw [List.getLastD_eq_getLast?, List.getLast?_eq_some_getLast hne]; exact List.getLast_mem hne
    refine ⟨⟨?_, fun p hp => ?_, fun b hb => ?_, ?_, ?_, Nat.le_succ_of_le w.nr, Nat.le_succ_of_le w.mark⟩, ?_, ?_⟩ <;> dsimp only <;> try rw [List.length_set]
    · exact w.head
    · rcases List.mem_or_eq_of_mem_set hp with hp | rfl
      · exact w.boxes p hp
      · exact inB_none
    · exact w.spare b (List.dropLast_subset _ hb)
    · exact Nat.le_succ_of_le w.nb
    · have := w.ns; rw [List.length_dropLast]; omega
    · exact Nat.le_refl _
    · exact w.spare _ hm
/-- what a step leaves -/
structure StepOk (s : St) (h : Hand) (r : St × Hand × Step) : Prop where
  t : WfT (s.time + 1) r.1
  hk : HOk r.1.boxes.length (s.time + 1) r.2.1
  nb : s.boxes.length ≤ r.1.boxes.length
  hs : r.1.hands = s.hands
  tm : r.1.time = s.time
  kd : r.1.kind = s.kind
  ds : r.2.1.deeds = h.deeds
theorem WfT.up {t : Nat} {s : St} (w : WfT t s) : WfT (t + 1) s := ⟨w.head, w.boxes, w.spare, Nat.le_succ_of_le w.nb, Nat.le_succ_of_le w.ns, Nat.le_succ_of_le w.nr, Nat.le_succ_of_le w.mark⟩
theorem wt_point {t : Nat} {s : St} (w : WfT t s) (h : Hand) (n : Nat) (e : Option Nat) (a : Ans) : WfT (t + 1) (s.point h n e a) :=
  ⟨w.head, w.boxes, w.spare, Nat.le_succ_of_le w.nb, Nat.le_succ_of_le w.ns, by show (s.rows ++ [_]).length ≤ t + 1; rw [List.length_append]; exact Nat.succ_le_succ w.nr, Nat.le_succ_of_le w.mark⟩
theorem wt_pointF {t : Nat} {s : St} (w : WfT t s) (h : Hand) (n : Nat) (e : Option Nat) (a : Ans) (b : Nat) (hb : b < s.boxes.length) (o : Option Nat) (ho : inB s.boxes.length o) : WfT (t + 1) (((s.setHead o).free b).point h n e a) :=
  ⟨ho, w.boxes, (wt_free w hb).spare, Nat.le_succ_of_le w.nb, (wt_free w hb).ns, (wt_point w h n e a).nr, Nat.succ_le_succ w.mark⟩
theorem wt_pointH {t : Nat} {s : St} (w : WfT t s) (h : Hand) (n : Nat) (e : Option Nat) (a : Ans) (o : Option Nat) (ho : inB s.boxes.length o) : WfT (t + 1) ((s.setHead o).point h n e a) :=
  ⟨ho, w.boxes, w.spare, Nat.le_succ_of_le w.nb, Nat.le_succ_of_le w.ns, (wt_point w h n e a).nr, Nat.succ_le_succ w.mark⟩
theorem wt_freeP {t : Nat} {s : St} (w : WfT t s) (h : Hand) (n : Nat) (e : Option Nat) (a : Ans) (b : Nat) (hb : b < s.boxes.length) : WfT (t + 1) ((s.free b).point h n e a) :=
  ⟨w.head, w.boxes, (wt_free w hb).spare, Nat.le_succ_of_le w.nb, (wt_free w hb).ns, (wt_point w h n e a).nr, Nat.le_succ_of_le w.mark⟩
theorem wt_walk {t : Nat} {s : St} (w : WfT t s) (b : Nat) (hb : b < s.boxes.length) (f : MRow → MRow) : WfT (t + 1) { s.free b with rows := s.rows.map f } :=
  ⟨w.head, w.boxes, (wt_free w hb).spare, Nat.le_succ_of_le w.nb, (wt_free w hb).ns, by show (s.rows.map f).length ≤ t + 1; rw [List.length_map]; exact Nat.le_succ_of_le w.nr, Nat.le_succ_of_le w.mark⟩
theorem own_some {h : Hand} (e : h.box ≠ none) : h.box = some h.own := by
  unfold Hand.own; cases q : h.box with
  | none => exact absurd q e
  | some b => rfl
theorem own_lt {nb t : Nat} {h : Hand} (k : HOk nb t h) (e : h.box ≠ none) : h.own < nb := k.box _ (own_some e)
theorem saw_some {h : Hand} {b m : Nat} (e : h.seen = some (some b, m)) : h.sawB = b := by unfold Hand.sawB; rw [e]; rfl
theorem deed_own_swap {h : Hand} {x : Int} (e : h.deed = .swap x) : h.deed.own = true := by rw [e]; rfl
theorem deed_own_push {h : Hand} {x : Int} (e : h.deed = .push x) : h.deed.own = true := by rw [e]; rfl
theorem take_ok {s : St} {h : Hand} (w : WfT s.time s) (k : HOk s.boxes.length s.time h) (e : h.ph = .take) : StepOk s h (stepTake s h) := by
  have hl := k.lt (by rw [e]; decide)
  have p := k.ph
  unfold PhOk at p; rw [e] at p; dsimp only at p
  obtain ⟨p0, p1, p2, p3, p4⟩ := p
  obtain ⟨a, b, c⟩ := took_ok w h.deed.val
  refine ⟨a, ⟨k.le, fun _ => hl, inB_some c, fun p e => ?_, k.got.mono b, ?_, Nat.le_succ_of_le k.size, fun p e => Nat.le_succ_of_le (k.mark p e), Nat.le_succ_of_le k.begun⟩, b, ?_, ?_, ?_, rfl⟩
  · exact (k.seen p e).mono b
  · refine ⟨fun z => ?_, fun _ => by simp [stepTake], fun _ => p3⟩
    exact absurd z (by show ¬ h.deed.own = false; rw [p1]; decide)
  all_goals (show _ = _; unfold stepTake St.took; dsimp only; split <;> rfl)
theorem look_ok {s : St} {h : Hand} (n : Nat) (w : WfT s.time s) (k : HOk s.boxes.length s.time h) (e : h.ph = .look) : StepOk s h (stepLook s h n) := by
  have hl := k.lt (by rw [e]; decide)
  have p := k.ph
  unfold PhOk at p; rw [e] at p; dsimp only at p
  obtain ⟨p0, p1, p2⟩ := p
  have p0 := fun z => p0 z (by decide)
  have hn : ∀ nb t, s.boxes.length ≤ nb → s.time ≤ t → HOk nb t h.next := fun nb t a b => (next_ok k hl).mono a b
  have mk : ∀ (ph : Ph), (PhOk { h with seen := some s.head, ph := ph }) → HOk s.boxes.length (s.time + 1) { h with seen := some s.head, ph := ph } := fun ph a =>
    ⟨k.le, fun _ => hl, k.box, fun p e => (by cases e; exact w.head), k.got, a, Nat.le_succ_of_le k.size, fun p e => (by cases e; exact Nat.le_succ_of_le w.mark), Nat.le_succ_of_le k.begun⟩
  unfold stepLook
  cases hd : h.deed with
  | push v =>
    dsimp only
    have ho := p1 (deed_own_push hd)
    have w' := wt_below w h.own w.head
    refine ⟨w'.up, ?_, by simp [St.below], rfl, rfl, rfl, rfl⟩
    have e2 : (s.below h.own s.head.1).boxes.length = s.boxes.length := by simp [St.below]
    rw [e2]
    refine mk .put ?_
    have hd' : Hand.deed { h with seen := some s.head, ph := .put } = .push v := hd
    refine ⟨fun z => (by rw [hd'] at z; cases z), ?_⟩
    dsimp only
    rw [hd']
    exact ⟨by simp, ⟨_, _, rfl, fun _ => ⟨v, rfl⟩⟩, fun _ => ho, fun z => (by cases z), fun z => (by cases z), fun _ z => (by cases z)⟩
  | clear =>
    dsimp only
    split
    · exact ⟨wt_point w _ _ _ _, hn _ _ (Nat.le_refl _) (Nat.le_succ _), Nat.le_refl _, rfl, rfl, rfl, rfl⟩
    · rename_i hne
      refine ⟨w.up, mk .put ?_, Nat.le_refl _, rfl, rfl, rfl, rfl⟩
      have hd' : Hand.deed { h with seen := some s.head, ph := .put } = .clear := hd
      refine ⟨fun _ _ => p0 (by rw [hd]; rfl), ?_⟩
      dsimp only
      rw [hd']
      exact ⟨by simp, ⟨_, _, rfl, fun z => absurd z hne⟩, fun z => (by cases z), fun _ => p2 hd, fun z => (by cases z), fun _ z => (by cases z)⟩
  | swap v =>
    dsimp only
    have ho := p1 (deed_own_swap hd)
    split
    · exact ⟨wt_freeP w _ _ _ _ _ (own_lt k ho), hn _ _ (Nat.le_refl _) (Nat.le_succ _), Nat.le_refl _, rfl, rfl, rfl, rfl⟩
    · rename_i hne
      refine ⟨w.up, mk .see ?_, Nat.le_refl _, rfl, rfl, rfl, rfl⟩
      have hd' : Hand.deed { h with seen := some s.head, ph := .see } = .swap v := hd
      refine ⟨fun z => (by rw [hd'] at z; cases z), ?_⟩
      dsimp only
      rw [hd']
      refine ⟨fun _ z => (by cases z), by simp, ?_, fun _ => ho⟩
      cases q : s.head.1 with
      | none => exact absurd q hne
      | some b => exact ⟨b, s.head.2, by rw [← q]⟩
  | pop =>
    dsimp only
    split
    · exact ⟨wt_point w _ _ _ _, hn _ _ (Nat.le_refl _) (Nat.le_succ _), Nat.le_refl _, rfl, rfl, rfl, rfl⟩
    · rename_i hne
      refine ⟨w.up, mk .see ?_, Nat.le_refl _, rfl, rfl, rfl, rfl⟩
      have hd' : Hand.deed { h with seen := some s.head, ph := .see } = .pop := hd
      refine ⟨fun _ _ => p0 (by rw [hd]; rfl), ?_⟩
      dsimp only
      rw [hd']
      refine ⟨fun _ z => (by cases z), by simp, ?_, fun z => (by cases z)⟩
      cases q : s.head.1 with
      | none => exact absurd q hne
      | some b => exact ⟨b, s.head.2, by rw [← q]⟩
  | top =>
    dsimp only
    split
    · exact ⟨wt_point w _ _ _ _, hn _ _ (Nat.le_refl _) (Nat.le_succ _), Nat.le_refl _, rfl, rfl, rfl, rfl⟩
    · rename_i hne
      refine ⟨w.up, mk .see ?_, Nat.le_refl _, rfl, rfl, rfl, rfl⟩
      have hd' : Hand.deed { h with seen := some s.head, ph := .see } = .top := hd
      refine ⟨fun _ _ => p0 (by rw [hd]; rfl), ?_⟩
      dsimp only
      rw [hd']
      refine ⟨fun _ z => (by cases z), by simp, ?_, fun z => (by cases z)⟩
      cases q : s.head.1 with
      | none => exact absurd q hne
      | some b => exact ⟨b, s.head.2, by rw [← q]⟩
theorem see_ok {s : St} {h : Hand} (w : WfT s.time s) (k : HOk s.boxes.length s.time h) (e : h.ph = .see) : StepOk s h (stepSee s h) := by
  have hl := k.lt (by rw [e]; decide)
  have p := k.ph
  unfold PhOk at p; rw [e] at p; dsimp only at p
  obtain ⟨p0, p1, p2, ⟨b, m, hs⟩, p3⟩ := p
  have p0 := fun z => p0 z (by decide)
  have hi := inside_ok w h.sawB
  have mk : ∀ (ph : Ph), PhOk { h with got := .pair (s.inside h.sawB).1 (s.inside h.sawB).2, ph := ph } → HOk s.boxes.length (s.time + 1) { h with got := .pair (s.inside h.sawB).1 (s.inside h.sawB).2, ph := ph } := fun ph a =>
    ⟨k.le, fun _ => hl, k.box, k.seen, hi, a, Nat.zero_le _, fun p e => Nat.le_succ_of_le (k.mark p e), Nat.le_succ_of_le k.begun⟩
  unfold stepSee
  cases hd : h.deed with
  | push v => exact absurd hd (p1 v)
  | clear => exact absurd hd p2
  | top =>
    dsimp only
    refine ⟨w.up, mk .check ?_, Nat.le_refl _, rfl, rfl, rfl, rfl⟩
    exact ⟨fun _ _ => p0 (by rw [hd]; rfl), hd, ⟨b, m, hs⟩, _, _, rfl⟩
  | swap v =>
    dsimp only
    have w' := wt_below w h.own hi
    refine ⟨w'.up, ?_, by simp [St.below], rfl, rfl, rfl, rfl⟩
    have e2 : (s.below h.own (s.inside h.sawB).2).boxes.length = s.boxes.length := by simp [St.below]
    rw [e2]
    refine mk .put ?_
    have hd' : Hand.deed { h with got := .pair (s.inside h.sawB).1 (s.inside h.sawB).2, ph := .put } = .swap v := hd
    refine ⟨fun z => (by rw [hd'] at z; cases z), ?_⟩
    dsimp only
    rw [hd']
    exact ⟨by simp, ⟨some b, m, hs, fun z => (by cases z)⟩, fun _ => p3 (deed_own_swap hd), fun z => (by cases z), fun z => (by cases z), fun _ _ => ⟨_, _, rfl⟩⟩
  | pop =>
    dsimp only
    refine ⟨w.up, mk .put ?_, Nat.le_refl _, rfl, rfl, rfl, rfl⟩
    have hd' : Hand.deed { h with got := .pair (s.inside h.sawB).1 (s.inside h.sawB).2, ph := .put } = .pop := hd
    refine ⟨fun _ _ => p0 (by rw [hd]; rfl), ?_⟩
    dsimp only
    rw [hd']
    exact ⟨by simp, ⟨some b, m, hs, fun z => (by cases z)⟩, fun z => (by cases z), fun z => (by cases z), fun _ => ⟨_, _, rfl⟩, fun _ z => (by cases z)⟩
theorem check_yes {s : St} {h : Hand} {n : Nat} {p : Hd} (hs : h.seen = some p) (e : stillB s.kind s.head p = true) : stepCheck s h n = (s.point h n (some s.time) (.val h.got.val), h.next, .look s.head.1 s.head.2) := by
  unfold stepCheck; rw [if_pos]; rw [hs]; exact e
theorem check_no {s : St} {h : Hand} {n : Nat} {p : Hd} (hs : h.seen = some p) (e : stillB s.kind s.head p = false) : stepCheck s h n = (s, { h with ph := .look }, .look s.head.1 s.head.2) := by
  unfold stepCheck; rw [if_neg]; rw [hs]; show ¬ stillB s.kind s.head p = true; rw [e]; decide
theorem put_no {s : St} {h : Hand} {n : Nat} {p : Hd} (hs : h.seen = some p) (e : stillB s.kind s.head p = false) : stepPut s h n = (s, { h with ph := .look }, .put false) := by
  unfold stepPut; rw [if_neg]; rw [hs]; show ¬ stillB s.kind s.head p = true; rw [e]; decide
section
variable {s : St} {h : Hand} {n : Nat} {p : Hd}
theorem put_yes (hs : h.seen = some p) (e : stillB s.kind s.head p = true) : stepPut s h n =
    let r : St × Hand := match h.deed with
      | .push _ => ((s.setHead h.box).point h n (some s.time) .non, h.next)
      | .clear => ((s.setHead none).point h n none .non, { h with box := some h.sawB, ph := .walk })
      | .pop => (((s.setHead h.got.below).free h.sawB).point h n (some s.time) (.val h.got.val), h.next)
      | _ => (((s.setHead h.box).free h.sawB).point h n (some s.time) (.val h.got.val), h.next)
    (r.1, r.2, .put true) := by
  have c : stillB s.kind s.head (h.seen.getD (none, 0)) = true := by rw [hs]; exact e
  unfold stepPut; exact if_pos c
theorem put_push {x : Int} (hs : h.seen = some p) (e : stillB s.kind s.head p = true) (d : h.deed = .push x) : stepPut s h n = ((s.setHead h.box).point h n (some s.time) .non, h.next, .put true) := by rw [put_yes hs e, d]
theorem put_clear (hs : h.seen = some p) (e : stillB s.kind s.head p = true) (d : h.deed = .clear) : stepPut s h n = ((s.setHead none).point h n none .non, { h with box := some h.sawB, ph := .walk }, .put true) := by rw [put_yes hs e, d]
theorem put_pop (hs : h.seen = some p) (e : stillB s.kind s.head p = true) (d : h.deed = .pop) : stepPut s h n = (((s.setHead h.got.below).free h.sawB).point h n (some s.time) (.val h.got.val), h.next, .put true) := by rw [put_yes hs e, d]
theorem put_swap {x : Int} (hs : h.seen = some p) (e : stillB s.kind s.head p = true) (d : h.deed = .swap x) : stepPut s h n = (((s.setHead h.box).free h.sawB).point h n (some s.time) (.val h.got.val), h.next, .put true) := by rw [put_yes hs e, d]
theorem look_push {x : Int} (d : h.deed = .push x) : stepLook s h n = (s.below h.own s.head.1, { h with seen := some s.head, ph := .put }, .look s.head.1 s.head.2) := by unfold stepLook; rw [d]
theorem look_none {x : Ans} (e : s.head.1 = none) (d : h.deed.own = false) (hx : x = if h.deed = .clear then .tup [] else .non) : stepLook s h n = (s.point { h with seen := some s.head } n (some s.time) x, Hand.next { h with seen := some s.head }, .look s.head.1 s.head.2) := by
  unfold stepLook; cases q : h.deed <;> rw [q] at d hx <;> first | (cases d; done) | skip
  all_goals (simp only [e, if_true]; rw [hx]; rfl)
theorem look_swap0 {x : Int} (e : s.head.1 = none) (d : h.deed = .swap x) : stepLook s h n = ((s.free h.own).point { h with seen := some s.head } n (some s.time) .non, Hand.next { h with seen := some s.head }, .look s.head.1 s.head.2) := by
  unfold stepLook; rw [d]; simp only [e, if_true]
theorem look_some {b : Nat} (e : s.head.1 = some b) (d : ∀ x, h.deed ≠ .push x) : stepLook s h n = (s, { h with seen := some s.head, ph := if h.deed = .clear then .put else .see }, .look s.head.1 s.head.2) := by
  unfold stepLook; cases q : h.deed <;> first | exact absurd q (d _) | (simp [e])
theorem see_top (d : h.deed = .top) : stepSee s h = (s, { h with got := .pair (s.inside h.sawB).1 (s.inside h.sawB).2, ph := .check }, .see h.sawB (s.inside h.sawB).1 (s.inside h.sawB).2) := by unfold stepSee; rw [d]
theorem see_pop (d : h.deed = .pop) : stepSee s h = (s, { h with got := .pair (s.inside h.sawB).1 (s.inside h.sawB).2, ph := .put }, .see h.sawB (s.inside h.sawB).1 (s.inside h.sawB).2) := by unfold stepSee; rw [d]
theorem see_swap {x : Int} (d : h.deed = .swap x) : stepSee s h = (s.below h.own (s.inside h.sawB).2, { h with got := .pair (s.inside h.sawB).1 (s.inside h.sawB).2, ph := .put }, .see h.sawB (s.inside h.sawB).1 (s.inside h.sawB).2) := by unfold stepSee; rw [d]
theorem walk_end (e : (s.inside h.own).2 = none) : stepWalk s h n = ({ s.free h.own with rows := s.rows.map (endRow n h.at_ s.time (h.got.list ++ [(s.inside h.own).1])) }, Hand.next { h with got := .vals (h.got.list ++ [(s.inside h.own).1]), box := (s.inside h.own).2 }, .see h.own (s.inside h.own).1 (s.inside h.own).2) := by
  unfold stepWalk; simp only [e, if_true]
theorem walk_on (e : (s.inside h.own).2 ≠ none) : stepWalk s h n = (s.free h.own, { h with got := .vals (h.got.list ++ [(s.inside h.own).1]), box := (s.inside h.own).2 }, .see h.own (s.inside h.own).1 (s.inside h.own).2) := by
  unfold stepWalk; simp only [e, if_false]
theorem take_new (e : s.kind = .new ∨ s.spare = []) : stepTake s h = ({ s with boxes := s.boxes ++ [(h.deed.val, none)] }, { h with box := some s.boxes.length, ph := .look }, .take s.boxes.length) := by
  unfold stepTake St.took St.takeBox; rw [if_pos e, if_pos e]
theorem take_old (e : ¬ (s.kind = .new ∨ s.spare = [])) : stepTake s h = ({ s with spare := s.spare.dropLast, boxes := s.boxes.set (s.spare.getLastD 0) (h.deed.val, none) }, { h with box := some (s.spare.getLastD 0), ph := .look }, .take (s.spare.getLastD 0)) := by
  unfold stepTake St.took St.takeBox; rw [if_neg e, if_neg e]
end
theorem check_ok {s : St} {h : Hand} (n : Nat) (w : WfT s.time s) (k : HOk s.boxes.length s.time h) (e : h.ph = .check) : StepOk s h (stepCheck s h n) := by
  have hl := k.lt (by rw [e]; decide)
  have p := k.ph
  unfold PhOk at p; rw [e] at p; dsimp only at p
  obtain ⟨p0, hd, ⟨b, m, hs⟩, p3⟩ := p
  have p0 := fun z => p0 z (by decide)
  unfold stepCheck
  split
  · exact ⟨wt_point w _ _ _ _, (next_ok k hl).mono (Nat.le_refl _) (Nat.le_succ _), Nat.le_refl _, rfl, rfl, rfl, rfl⟩
  · refine ⟨w.up, ⟨k.le, fun _ => hl, k.box, k.seen, k.got, ?_, Nat.le_succ_of_le k.size, fun p e => Nat.le_succ_of_le (k.mark p e), Nat.le_succ_of_le k.begun⟩, Nat.le_refl _, rfl, rfl, rfl, rfl⟩
    have hd' : Hand.deed { h with ph := .look } = .top := hd
    refine ⟨fun _ _ => p0 (by rw [hd]; rfl), ?_⟩
    dsimp only
    rw [hd']
    exact ⟨fun z => (by cases z), fun z => (by cases z)⟩
theorem put_ok {s : St} {h : Hand} (n : Nat) (w : WfT s.time s) (k : HOk s.boxes.length s.time h) (e : h.ph = .put) : StepOk s h (stepPut s h n) := by
  have hl := k.lt (by rw [e]; decide)
  have p := k.ph
  unfold PhOk at p; rw [e] at p; dsimp only at p
  obtain ⟨p0, p1, ⟨o, m, hs, ho⟩, p2, p3, p4, p5⟩ := p
  have p0 := fun z => p0 z (by decide)
  have hn := (next_ok k hl).mono (Nat.le_refl _) (Nat.le_succ s.time)
  have saw : (∀ v, h.deed ≠ .push v) → h.sawB < s.boxes.length := fun z => by
    cases q : o with
    | none => obtain ⟨v, hv⟩ := ho q; exact absurd hv (z v)
    | some b => rw [q] at hs; rw [saw_some hs]; exact k.seen _ hs b rfl
  unfold stepPut
  split
  · cases hd : h.deed with
    | push v => exact ⟨wt_pointH w _ _ _ _ _ k.box, hn, Nat.le_refl _, rfl, rfl, rfl, rfl⟩
    | clear =>
      have hb := saw fun v z => by rw [hd] at z; cases z
      refine ⟨wt_pointH w _ _ _ _ _ inB_none, ⟨k.le, fun _ => hl, inB_some hb, k.seen, k.got, ?_, Nat.le_succ_of_le k.size, fun p e => Nat.le_succ_of_le (k.mark p e), Nat.le_succ_of_le k.begun⟩, Nat.le_refl _, rfl, rfl, rfl, rfl⟩
      exact ⟨fun _ z => absurd rfl z, hd, by simp, [], p3 hd⟩
    | pop =>
      have hb := saw fun v z => by rw [hd] at z; cases z
      exact ⟨wt_pointF w _ _ _ _ _ hb _ k.got, hn, Nat.le_refl _, rfl, rfl, rfl, rfl⟩
    | top => exact absurd hd p1
    | swap v =>
      have hb := saw fun v z => by rw [hd] at z; cases z
      exact ⟨wt_pointF w _ _ _ _ _ hb _ k.box, hn, Nat.le_refl _, rfl, rfl, rfl, rfl⟩
  · refine ⟨w.up, ⟨k.le, fun _ => hl, k.box, k.seen, k.got, ?_, Nat.le_succ_of_le k.size, fun p e => Nat.le_succ_of_le (k.mark p e), Nat.le_succ_of_le k.begun⟩, Nat.le_refl _, rfl, rfl, rfl, rfl⟩
    exact ⟨fun z _ => p0 z, p2, p3⟩
theorem walk_ok {s : St} {h : Hand} (n : Nat) (w : WfT s.time s) (k : HOk s.boxes.length s.time h) (e : h.ph = .walk) : StepOk s h (stepWalk s h n) := by
  have hl := k.lt (by rw [e]; decide)
  have p := k.ph
  unfold PhOk at p; rw [e] at p; dsimp only at p
  obtain ⟨p0, hd, p1, l, hg⟩ := p
  have hi := inside_ok w h.own
  have hsz := k.size
  unfold stepWalk
  dsimp only
  split
  · exact ⟨wt_walk w _ (own_lt k p1) _, (next_ok k hl).mono (Nat.le_refl _) (Nat.le_succ _), Nat.le_refl _, rfl, rfl, rfl, rfl⟩
  · rename_i hne
    refine ⟨wt_free w (own_lt k p1), ⟨k.le, fun _ => hl, hi, k.seen, inB_none, ?_, ?_, fun p e => Nat.le_succ_of_le (k.mark p e), Nat.le_succ_of_le k.begun⟩, Nat.le_refl _, rfl, rfl, rfl, rfl⟩
    · refine ⟨fun _ z => absurd e z, ?_⟩
      dsimp only
      rw [e]
      exact ⟨hd, hne, _, rfl⟩
    · show (h.got.list ++ [_]).length ≤ _
      rw [List.length_append]; exact Nat.succ_le_succ hsz
theorem stepOf_ok {s : St} {h : Hand} (n : Nat) (w : WfT s.time s) (k : HOk s.boxes.length s.time h) : StepOk s h (stepOf s h n) := by
  unfold stepOf
  split
  · exact ⟨w.up, k.mono (Nat.le_refl _) (Nat.le_succ _), Nat.le_refl _, rfl, rfl, rfl, rfl⟩
  · rename_i hne
    obtain ⟨k1, hi⟩ := begin_ok k (Nat.lt_of_le_of_ne k.le hne)
    have hds := (begin_deed (h := h) (t := s.time)).2.2.1
    have fix : ∀ {r}, StepOk s (h.begin s.time) r → StepOk s h r := fun {r} a => ⟨a.t, a.hk, a.nb, a.hs, a.tm, a.kd, a.ds.trans hds⟩
    dsimp only
    split <;> rename_i e
    · exact fix (take_ok w k1 e)
    · exact fix (look_ok n w k1 e)
    · exact fix (see_ok w k1 e)
    · exact fix (check_ok n w k1 e)
    · exact fix (put_ok n w k1 e)
    · exact fix (walk_ok n w k1 (by cases q : (h.begin s.time).ph <;> simp_all))
theorem hand_at {s : St} {n : Nat} (hn : n < s.hands.length) : s.hands[n]? = some (s.hand n) := by
  unfold St.hand; rw [List.getD_eq_getElem?_getD, List.getElem?_eq_getElem hn]; rfl
theorem hand_mem {s : St} {n : Nat} (hn : n < s.hands.length) : s.hand n ∈ s.hands := List.mem_of_getElem? (hand_at hn)
theorem wf_step {s : St} {n : Nat} (w : WfS s) (hn : n < s.hands.length) : WfS (step s n).1 ∧ (step s n).1.hands.length = s.hands.length ∧ (step s n).1.time = s.time + 1 ∧ (step s n).1.kind = s.kind := by
  have o := stepOf_ok n w.t (w.hands _ (hand_mem hn))
  unfold step
  dsimp only
  refine ⟨⟨o.t.head, o.t.boxes, o.t.spare, fun h hh => ?_, o.t.nb, o.t.ns, o.t.nr, o.t.mark⟩, by simp, rfl, o.kd⟩
  rcases List.mem_or_eq_of_mem_set hh with hh | rfl
  · exact (w.hands h hh).mono o.nb (Nat.le_succ _)
  · exact o.hk
theorem wf_run {w : List Nat} : ∀ {s : St}, WfS s → (∀ n ∈ w, n < s.hands.length) → WfS (run s w).1 ∧ (run s w).1.hands.length = s.hands.length ∧ (run s w).1.time = s.time + w.length ∧ (run s w).1.kind = s.kind ∧ (run s w).2.length = w.length := by
  induction w with
  | nil => intro s k _; exact ⟨k, rfl, rfl, rfl, rfl⟩
  | cons n w ih =>
    intro s k hw
    obtain ⟨a, b, c, d⟩ := wf_step k (hw n List.mem_cons_self)
    obtain ⟨e, f, g, i, j⟩ := ih a fun m hm => by rw [b]; exact hw m (List.mem_cons_of_mem _ hm)
    refine ⟨e, f.trans b, ?_, i.trans d, ?_⟩
    · show (run (step s n).1 w).1.time = _
      rw [g, c, List.length_cons]; omega
    · show (run (step s n).1 w).2.length + 1 = _
      rw [j]; rfl
theorem wf_tower {start : List Int} {progs : List (List Deed)} {k : Kd} (hl : start.length ≤ 60) : WfS (towerOf start progs k) := by
  have hb : (boxesOf start).length = start.length := by unfold boxesOf; simp
  refine ⟨?_, ?_, fun b h => (by cases h), ?_, ?_, Nat.le_refl _, Nat.le_refl _, Nat.le_refl _⟩
  · show inB (boxesOf start).length (if start = [] then none else some 0)
    split
    · exact inB_none
    · rename_i h
      rw [hb]
      exact inB_some (by cases start with | nil => exact absurd rfl h | cons _ _ => simp)
  · show ∀ p ∈ boxesOf start, inB (boxesOf start).length p.2
    rw [hb]
    intro p hp
    unfold boxesOf at hp
    obtain ⟨i, hi, rfl⟩ := List.mem_map.mp hp
    have := List.mem_range.mp hi
    dsimp only
    split
    · exact inB_none
    · exact inB_some (by omega)
  · intro h hh
    obtain ⟨ds, _, rfl⟩ := List.mem_map.mp hh
    exact ⟨Nat.zero_le _, fun z => absurd rfl z, inB_none, fun p e => (by cases e), inB_none, ⟨fun _ _ => rfl, rfl, rfl, rfl⟩, Nat.le_refl _, fun p e => (by cases e), Nat.le_refl _⟩
  · show (boxesOf start).length ≤ 60 + 0
    rw [hb]; exact hl
end DW

/-! ## MC.lean -/
set_option Elab.async false
set_option linter.all false
set_option maxRecDepth 100000
set_option maxHeartbeats 4000000
set_option autoImplicit false
/-! MC: the machine's states as data, and as own cells. -/
namespace DW
open PySem PySem.Spec L2
open PyProof.Rows hiding St
def optN : Option Nat → D
  | none => .non
  | some n => .int (n : Int)
def Kd.k : Kd → Nat
  | .marks => 5
  | .bare => 6
  | .new => 7
def Ph.k : Ph → Nat
  | .idle => 31
  | .take => 8
  | .look => 9
  | .see => 10
  | .check => 12
  | .put => 11
  | .walk => 13
theorem phk : Ph.idle.k = 31 ∧ Ph.take.k = 8 ∧ Ph.look.k = 9 ∧ Ph.see.k = 10 ∧ Ph.check.k = 12 ∧ Ph.put.k = 11 ∧ Ph.walk.k = 13 := ⟨rfl, rfl, rfl, rfl, rfl, rfl, rfl⟩
theorem kdk : Kd.marks.k = 5 ∧ Kd.bare.k = 6 ∧ Kd.new.k = 7 := ⟨rfl, rfl, rfl⟩
theorem denc_push {v : Int} : (Deed.push v).enc = .tup [.str 0, .int v] := rfl
theorem denc_swap {v : Int} : (Deed.swap v).enc = .tup [.str 1, .int v] := rfl
theorem denc_pop : Deed.pop.enc = .tup [.str 2] := rfl
theorem denc_top : Deed.top.enc = .tup [.str 3] := rfl
theorem denc_clear : Deed.clear.enc = .tup [.str 4] := rfl
def hdD (p : Hd) : D := .tup [optN p.1, .int (p.2 : Int)]
def seenD : Option Hd → D
  | none => .non
  | some p => hdD p
def Got.items : Got → List D
  | .vals l => l.map D.int
  | .pair v w => [.int v, optN w]
def Ans.enc : Ans → D
  | .non => .non
  | .val v => .int v
  | .tup vs => .tup (vs.map D.int)
def boxD (p : Int × Option Nat) : D := .tup [.int p.1, optN p.2]
theorem optN_some {n : Nat} : optN (some n) = .int (n : Int) := rfl
theorem optN_none : optN none = .non := rfl
theorem seenD_some {p : Hd} : seenD (some p) = .tup [optN p.1, .int (p.2 : Int)] := rfl
theorem seenD_none : seenD none = .non := rfl
theorem items_pair {v : Int} {w : Option Nat} : (Got.pair v w).items = [.int v, optN w] := rfl
theorem items_vals {l : List Int} : (Got.vals l).items = l.map D.int := rfl
def MRow.enc (r : MRow) : D := .tup [.int (r.hand : Int), .int (r.at_ : Int), r.deed.enc, .int (r.begun : Int), .int (r.point : Int), optN r.ended, r.ans.enc]
def Step.enc : Step → D
  | .rest => .tup [.str 14]
  | .take b => .tup [.str 8, .int (b : Int)]
  | .look b m => .tup [.str 9, optN b, .int (m : Int)]
  | .see b v w => .tup [.str 10, .int (b : Int), .int v, optN w]
  | .put k => .tup [.str 11, .bl k]
def Hand.enc (h : Hand) : D := .dic [(24, .lst (h.deeds.map Deed.enc)), (25, .int (h.at_ : Int)), (26, .str h.ph.k), (27, optN h.box), (28, seenD h.seen), (29, .lst h.got.items), (30, .int (h.begun : Int))]
def St.enc (s : St) : D := .dic [(18, .str s.kind.k), (19, hdD s.head), (20, .lst (s.boxes.map boxD)), (16, .lst (s.spare.map natD)), (21, .lst (s.hands.map Hand.enc)), (22, .lst (s.rows.map MRow.enc)), (23, .int (s.time : Int))]
/-! own cells -/
theorem dicOf_ref {g : Rg} {c : Nat} : dicOf g (.ref c) = match g[c]? with | some (.dic rs) => some rs | some (.fz (.dic kds)) => some (kds.map fun p => (p.1, .dat p.2)) | _ => none := rfl
theorem dicOf_dic {g : Rg} {kds : List (Nat × D)} : dicOf g (.dat (.dic kds)) = some (kds.map fun p => (p.1, .dat p.2)) := rfl
theorem lstOf_ref {g : Rg} {c : Nat} : lstOf g (.ref c) = match g[c]? with | some (.lst rs) => some rs | some (.fz (.lst ds)) => some (ds.map .dat) | _ => none := rfl
theorem lstOf_lst {g : Rg} {ds : List D} : lstOf g (.dat (.lst ds)) = some (ds.map .dat) := rfl
theorem ltaddr {a b c : Nat} (h : a < b) : a < b + c := Nat.lt_add_right c h
def hdR (a b c d e f i : Rv) : List (Nat × Rv) := [(24, a), (25, b), (26, c), (27, d), (28, e), (29, f), (30, i)]
def stR (a b c d e f i : Rv) : List (Nat × Rv) := [(18, a), (19, b), (20, c), (16, d), (21, e), (22, f), (23, i)]
def handL (h : Hand) (r : Rv) : List (Nat × Rv) := hdR (.dat (.lst (h.deeds.map Deed.enc))) (.dat (.int (h.at_ : Int))) (.dat (.str h.ph.k)) (.dat (optN h.box)) (.dat (seenD h.seen)) r (.dat (.int (h.begun : Int)))
def stL (s : St) (b p c r : Rv) : List (Nat × Rv) := stR (.dat (.str s.kind.k)) (.dat (hdD s.head)) b p c r (.dat (.int (s.time : Int)))
section
variable {a b c d e f i x : Rv}
theorem hdR_len : (hdR a b c d e f i).length = 7 := rfl
theorem stR_len : (stR a b c d e f i).length = 7 := rfl
theorem hdR_24 : (hdR a b c d e f i).lookup 24 = some a := rfl
theorem hdR_25 : (hdR a b c d e f i).lookup 25 = some b := rfl
theorem hdR_26 : (hdR a b c d e f i).lookup 26 = some c := rfl
theorem hdR_27 : (hdR a b c d e f i).lookup 27 = some d := rfl
theorem hdR_28 : (hdR a b c d e f i).lookup 28 = some e := rfl
theorem hdR_29 : (hdR a b c d e f i).lookup 29 = some f := rfl
theorem hdR_30 : (hdR a b c d e f i).lookup 30 = some i := rfl
theorem stR_18 : (stR a b c d e f i).lookup 18 = some a := rfl
theorem stR_19 : (stR a b c d e f i).lookup 19 = some b := rfl
theorem stR_20 : (stR a b c d e f i).lookup 20 = some c := rfl
theorem stR_16 : (stR a b c d e f i).lookup 16 = some d := rfl
theorem stR_21 : (stR a b c d e f i).lookup 21 = some e := rfl
theorem stR_22 : (stR a b c d e f i).lookup 22 = some f := rfl
theorem stR_23 : (stR a b c d e f i).lookup 23 = some i := rfl
theorem hdP_25 : putN (hdR a b c d e f i) 25 x = hdR a x c d e f i := rfl
theorem hdP_26 : putN (hdR a b c d e f i) 26 x = hdR a b x d e f i := rfl
theorem hdP_27 : putN (hdR a b c d e f i) 27 x = hdR a b c x e f i := rfl
theorem hdP_28 : putN (hdR a b c d e f i) 28 x = hdR a b c d x f i := rfl
theorem hdP_29 : putN (hdR a b c d e f i) 29 x = hdR a b c d e x i := rfl
theorem hdP_30 : putN (hdR a b c d e f i) 30 x = hdR a b c d e f x := rfl
theorem stP_19 : putN (stR a b c d e f i) 19 x = stR a x c d e f i := rfl
theorem stP_20 : putN (stR a b c d e f i) 20 x = stR a b x d e f i := rfl
theorem stP_16 : putN (stR a b c d e f i) 16 x = stR a b c x e f i := rfl
theorem stP_21 : putN (stR a b c d e f i) 21 x = stR a b c d x f i := rfl
theorem stP_22 : putN (stR a b c d e f i) 22 x = stR a b c d e x i := rfl
theorem stP_23 : putN (stR a b c d e f i) 23 x = stR a b c d e f x := rfl
end
def dats (l : List D) : List Rv := l.map Rv.dat
/-- where the own cells of a state and of one of its hands are -/
structure Vw where
  cs : Nat
  cb : Nat
  cp : Nat
  cl : Nat
  ch : Nat
  cr : Nat
  cg : Nat
  n : Nat
  hl : List Rv
structure Mem (g : Rg) (v : Vw) (s : St) (h : Hand) : Prop where
  st : g[v.cs]? = some (.dic (stL s (.ref v.cb) (.ref v.cp) (.ref v.cl) (.ref v.cr)))
  bx : g[v.cb]? = some (.lst ((s.boxes.map boxD).map Rv.dat))
  sp : g[v.cp]? = some (.lst ((s.spare.map natD).map Rv.dat))
  hs : g[v.cl]? = some (.lst v.hl)
  hn : v.hl[v.n]? = some (.ref v.ch)
  rw : g[v.cr]? = some (.lst ((s.rows.map MRow.enc).map Rv.dat))
  hd : g[v.ch]? = some (.dic (handL h (.ref v.cg)))
  gt : g[v.cg]? = some (.lst (h.got.items.map Rv.dat))
  nd : [v.cs, v.cb, v.cp, v.cl, v.ch, v.cr, v.cg].Nodup
structure Go (g : Rg) (v : Vw) (g' : Rg) (v' : Vw) : Prop where
  eq : v' = { v with cr := v'.cr, cg := v'.cg }
  cr : v'.cr = v.cr ∨ g.length ≤ v'.cr
  cg : v'.cg = v.cg ∨ g.length ≤ v'.cg
  len : g.length ≤ g'.length
  fr : ∀ c, c < g.length → c ∉ [v.cs, v.cb, v.cp, v.ch, v.cr, v.cg] → g'[c]? = g[c]?
  clo : ∀ (c : Nat) (cell : Cell), g'[c]? = some cell → g[c]? = some cell ∨ cell.lt g'.length
theorem Cell.lt_mono {c : Cell} {n m : Nat} (h : c.lt n) (l : n ≤ m) : c.lt m := by
  have one : ∀ r : Rv, r.lt n → r.lt m := fun r q => by cases r with | dat _ => exact True.intro | ref c => exact Nat.lt_of_lt_of_le q l
  cases c with
  | lst rs => exact fun r hr => one r (h r hr)
  | dic rs => exact fun p hp => one _ (h p hp)
  | fz _ => exact True.intro
  | dead => exact True.intro
theorem Go.same {g g' : Rg} {v v' : Vw} (k : Go g v g' v') : v'.cs = v.cs ∧ v'.n = v.n ∧ v'.ch = v.ch ∧ v'.cp = v.cp ∧ v'.cb = v.cb ∧ v'.cl = v.cl ∧ v'.hl = v.hl := by rw [k.eq]; exact ⟨rfl, rfl, rfl, rfl, rfl, rfl, rfl⟩
theorem Go.refl (g : Rg) (v : Vw) : Go g v g v := ⟨rfl, .inl rfl, .inl rfl, Nat.le_refl _, fun _ _ _ => rfl, fun _ _ h => .inl h⟩
theorem Go.trans {g g1 g2 : Rg} {v v1 v2 : Vw} (a : Go g v g1 v1) (b : Go g1 v1 g2 v2) : Go g v g2 v2 := by
  have e1 : v1.cs = v.cs ∧ v1.cb = v.cb ∧ v1.cp = v.cp ∧ v1.ch = v.ch := by rw [a.eq]; exact ⟨rfl, rfl, rfl, rfl⟩
  refine ⟨?_, ?_, ?_, Nat.le_trans a.len b.len, fun c hc hn => ?_, fun c cell e => ?_⟩
  · have := b.eq; rw [a.eq] at this; exact this
  · rcases b.cr with h | h
    · rw [h]; exact a.cr
    · exact .inr (Nat.le_trans a.len h)
  · rcases b.cg with h | h
    · rw [h]; exact a.cg
    · exact .inr (Nat.le_trans a.len h)
  · rw [b.fr c (Nat.lt_of_lt_of_le hc a.len) ?_, a.fr c hc hn]
    simp only [List.mem_cons, List.not_mem_nil, or_false, not_or] at hn ⊢
    rw [e1.1, e1.2.1, e1.2.2.1, e1.2.2.2]
    refine ⟨hn.1, hn.2.1, hn.2.2.1, hn.2.2.2.1, ?_, ?_⟩
    · rcases a.cr with h | h
      · rw [h]; exact hn.2.2.2.2.1
      · omega
    · rcases a.cg with h | h
      · rw [h]; exact hn.2.2.2.2.2
      · omega
  · rcases b.clo c cell e with h | h
    · rcases a.clo c cell h with h | h
      · exact .inl h
      · exact .inr (Cell.lt_mono h b.len)
    · exact .inr h
theorem fin_go {g0 g' : Rg} {v v' : Vw} {Q : RQ} {d : D} (k : Go g0 v g' v') (q : Q (.dat d) g') : Fin g0 Q (.dat d) g' :=
  .sub g'.length k.len (Nat.le_refl _) (fun c cell _ e => k.clo c cell e) True.intro (by rw [List.take_length]; exact q)
/-- one cell written -/
theorem Go.set {g g1 : Rg} {v v1 : Vw} (a : Go g v g1 v1) {c : Nat} {cell : Cell} (hc : c ∈ [v1.cs, v1.cb, v1.cp, v1.ch, v1.cr, v1.cg]) (hl : cell.lt g1.length) : Go g v (g1.set c cell) v1 := by
  refine a.trans ⟨rfl, .inl rfl, .inl rfl, by simp, fun d hd hn => ?_, fun d x e => ?_⟩
  · rw [List.getElem?_set_ne]; rintro rfl; exact hn hc
  · by_cases h : c = d
    · subst h
      by_cases hlt : c < g1.length
      · rw [List.getElem?_set_self hlt] at e; cases e; exact .inr (by rw [List.length_set]; exact hl)
      · rw [List.getElem?_eq_none (by rw [List.length_set]; omega)] at e; cases e
    · rw [List.getElem?_set_ne h] at e; exact .inl e
/-- a new list -/
theorem Go.app {g g1 : Rg} {v v1 : Vw} (a : Go g v g1 v1) {cell : Cell} (hl : cell.lt g1.length) : Go g v (g1 ++ [cell]) v1 := by
  refine a.trans ⟨rfl, .inl rfl, .inl rfl, by simp, fun d hd hn => by rw [List.getElem?_append_left hd], fun d x e => ?_⟩
  by_cases h : d < g1.length
  · rw [List.getElem?_append_left h] at e; exact .inl e
  · rw [List.getElem?_append_right (by omega)] at e
    cases q : d - g1.length with
    | zero => rw [q] at e; cases e; exact .inr (Cell.lt_mono hl (by simp))
    | succ n => rw [q] at e; simp at e
theorem lt_dats {l : List D} {n : Nat} : Cell.lt n (.lst (l.map Rv.dat)) := fun r hr => by
  obtain ⟨d, _, rfl⟩ := List.mem_map.mp hr; exact True.intro
theorem lt_hand {h : Hand} {c n : Nat} (l : c < n) : Cell.lt n (.dic (handL h (.ref c))) := fun p hp => by
  simp only [handL, hdR, List.mem_cons, List.not_mem_nil, or_false] at hp
  rcases hp with rfl | rfl | rfl | rfl | rfl | rfl | rfl <;> first | exact True.intro | exact l
theorem lt_st {s : St} {a b c d n : Nat} (h1 : a < n) (h2 : b < n) (h3 : c < n) (h4 : d < n) : Cell.lt n (.dic (stL s (.ref a) (.ref b) (.ref c) (.ref d))) := fun p hp => by
  simp only [stL, stR, List.mem_cons, List.not_mem_nil, or_false] at hp
  rcases hp with rfl | rfl | rfl | rfl | rfl | rfl | rfl <;> first | exact True.intro | assumption
section
variable {g : Rg} {v : Vw} {s : St} {h : Hand}
theorem lt_of_some {c : Nat} {x : Cell} (e : g[c]? = some x) : c < g.length := (List.getElem?_eq_some_iff.mp e).1
/-- all that is told of the cells' numbers -/
theorem Mem.ne (m : Mem g v s h) : (v.cs ≠ v.cb ∧ v.cs ≠ v.cp ∧ v.cs ≠ v.cl ∧ v.cs ≠ v.ch ∧ v.cs ≠ v.cr ∧ v.cs ≠ v.cg) ∧ (v.cb ≠ v.cp ∧ v.cb ≠ v.cl ∧ v.cb ≠ v.ch ∧ v.cb ≠ v.cr ∧ v.cb ≠ v.cg) ∧ (v.cp ≠ v.cl ∧ v.cp ≠ v.ch ∧ v.cp ≠ v.cr ∧ v.cp ≠ v.cg) ∧ (v.cl ≠ v.ch ∧ v.cl ≠ v.cr ∧ v.cl ≠ v.cg) ∧ (v.ch ≠ v.cr ∧ v.ch ≠ v.cg) ∧ v.cr ≠ v.cg := by
  have := m.nd
  simp only [List.nodup_cons, List.mem_cons, List.not_mem_nil, or_false, not_or, List.nodup_nil, and_true, not_false_eq_true] at this
  exact this
theorem Mem.nes (m : Mem g v s h) : ((¬ v.cb = v.cs ∧ ¬ v.cp = v.cs ∧ ¬ v.cl = v.cs ∧ ¬ v.ch = v.cs ∧ ¬ v.cr = v.cs ∧ ¬ v.cg = v.cs) ∧ (¬ v.cp = v.cb ∧ ¬ v.cl = v.cb ∧ ¬ v.ch = v.cb ∧ ¬ v.cr = v.cb ∧ ¬ v.cg = v.cb) ∧ (¬ v.cl = v.cp ∧ ¬ v.ch = v.cp ∧ ¬ v.cr = v.cp ∧ ¬ v.cg = v.cp) ∧ (¬ v.ch = v.cl ∧ ¬ v.cr = v.cl ∧ ¬ v.cg = v.cl) ∧ (¬ v.cr = v.ch ∧ ¬ v.cg = v.ch) ∧ ¬ v.cg = v.cr) ∧
    ((¬ v.cs = v.cb ∧ ¬ v.cs = v.cp ∧ ¬ v.cs = v.cl ∧ ¬ v.cs = v.ch ∧ ¬ v.cs = v.cr ∧ ¬ v.cs = v.cg) ∧ (¬ v.cb = v.cp ∧ ¬ v.cb = v.cl ∧ ¬ v.cb = v.ch ∧ ¬ v.cb = v.cr ∧ ¬ v.cb = v.cg) ∧ (¬ v.cp = v.cl ∧ ¬ v.cp = v.ch ∧ ¬ v.cp = v.cr ∧ ¬ v.cp = v.cg) ∧ (¬ v.cl = v.ch ∧ ¬ v.cl = v.cr ∧ ¬ v.cl = v.cg) ∧ (¬ v.ch = v.cr ∧ ¬ v.ch = v.cg) ∧ ¬ v.cr = v.cg) ∧
    (v.cs < g.length ∧ v.cb < g.length ∧ v.cp < g.length ∧ v.cl < g.length ∧ v.ch < g.length ∧ v.cr < g.length ∧ v.cg < g.length) := by
  obtain ⟨⟨n1, n2, n3, n4, n5, n6⟩, ⟨n7, n8, n9, n10, n11⟩, ⟨n12, n13, n14, n15⟩, ⟨n16, n17, n18⟩, ⟨n19, n20⟩, n21⟩ := m.ne
  exact ⟨⟨⟨n1.symm, n2.symm, n3.symm, n4.symm, n5.symm, n6.symm⟩, ⟨n7.symm, n8.symm, n9.symm, n10.symm, n11.symm⟩, ⟨n12.symm, n13.symm, n14.symm, n15.symm⟩, ⟨n16.symm, n17.symm, n18.symm⟩, ⟨n19.symm, n20.symm⟩, n21.symm⟩,
    ⟨⟨n1, n2, n3, n4, n5, n6⟩, ⟨n7, n8, n9, n10, n11⟩, ⟨n12, n13, n14, n15⟩, ⟨n16, n17, n18⟩, ⟨n19, n20⟩, n21⟩,
    lt_of_some m.st, lt_of_some m.bx, lt_of_some m.sp, lt_of_some m.hs, lt_of_some m.hd, lt_of_some m.rw, lt_of_some m.gt⟩
/-- a hand's own fields -/
theorem Mem.setH (m : Mem g v s h) (h' : Hand) (e : h'.got = h.got) : Mem (g.set v.ch (.dic (handL h' (.ref v.cg)))) v s h' := by
  obtain ⟨⟨n1, n2, n3, n4, n5, n6⟩, ⟨n7, n8, n9, n10, n11⟩, ⟨n12, n13, n14, n15⟩, ⟨n16, n17, n18⟩, ⟨n19, n20⟩, n21⟩ := m.ne
  refine ⟨?_, ?_, ?_, ?_, m.hn, ?_, ?_, ?_, m.nd⟩
  · rw [List.getElem?_set_ne (by first | assumption | (apply Ne.symm; assumption) | exact Nat.ne_of_lt (lt_of_some m.hd) | exact Ne.symm hn.1 | exact Ne.symm hn.2.1 | exact Ne.symm hn.2.2.1)]; exact m.st
  · rw [List.getElem?_set_ne (by first | assumption | (apply Ne.symm; assumption) | exact Nat.ne_of_lt (lt_of_some m.hd) | exact Ne.symm hn.1 | exact Ne.symm hn.2.1 | exact Ne.symm hn.2.2.1)]; exact m.bx
  · rw [List.getElem?_set_ne (by first | assumption | (apply Ne.symm; assumption) | exact Nat.ne_of_lt (lt_of_some m.hd) | exact Ne.symm hn.1 | exact Ne.symm hn.2.1 | exact Ne.symm hn.2.2.1)]; exact m.sp
  · rw [List.getElem?_set_ne (by first | assumption | (apply Ne.symm; assumption) | exact Nat.ne_of_lt (lt_of_some m.hd) | exact Ne.symm hn.1 | exact Ne.symm hn.2.1 | exact Ne.symm hn.2.2.1)]; exact m.hs
  · rw [List.getElem?_set_ne (by first | assumption | (apply Ne.symm; assumption) | exact Nat.ne_of_lt (lt_of_some m.hd) | exact Ne.symm hn.1 | exact Ne.symm hn.2.1 | exact Ne.symm hn.2.2.1)]; exact m.rw
  · exact List.getElem?_set_self (lt_of_some m.hd)
  · rw [List.getElem?_set_ne (by first | assumption | (apply Ne.symm; assumption) | exact Nat.ne_of_lt (lt_of_some m.hd) | exact Ne.symm hn.1 | exact Ne.symm hn.2.1 | exact Ne.symm hn.2.2.1), e]; exact m.gt
theorem Mem.goH {g0 : Rg} {v0 : Vw} (m : Mem g v s h) (k : Go g0 v0 g v) (h' : Hand) : Go g0 v0 (g.set v.ch (.dic (handL h' (.ref v.cg)))) v :=
  k.set (by simp) (lt_hand (lt_of_some m.gt))
/-- a state's own fields -/
theorem Mem.setS (m : Mem g v s h) (s' : St) (e1 : s'.boxes = s.boxes) (e2 : s'.spare = s.spare) (e3 : s'.rows = s.rows) : Mem (g.set v.cs (.dic (stL s' (.ref v.cb) (.ref v.cp) (.ref v.cl) (.ref v.cr)))) v s' h := by
  obtain ⟨⟨n1, n2, n3, n4, n5, n6⟩, ⟨n7, n8, n9, n10, n11⟩, ⟨n12, n13, n14, n15⟩, ⟨n16, n17, n18⟩, ⟨n19, n20⟩, n21⟩ := m.ne
  refine ⟨List.getElem?_set_self (lt_of_some m.st), ?_, ?_, ?_, m.hn, ?_, ?_, ?_, m.nd⟩
  · rw [List.getElem?_set_ne (by first | assumption | (apply Ne.symm; assumption) | exact Nat.ne_of_lt (lt_of_some m.hd) | exact Ne.symm hn.1 | exact Ne.symm hn.2.1 | exact Ne.symm hn.2.2.1), e1]; exact m.bx
  · rw [List.getElem?_set_ne (by first | assumption | (apply Ne.symm; assumption) | exact Nat.ne_of_lt (lt_of_some m.hd) | exact Ne.symm hn.1 | exact Ne.symm hn.2.1 | exact Ne.symm hn.2.2.1), e2]; exact m.sp
  · rw [List.getElem?_set_ne (by first | assumption | (apply Ne.symm; assumption) | exact Nat.ne_of_lt (lt_of_some m.hd) | exact Ne.symm hn.1 | exact Ne.symm hn.2.1 | exact Ne.symm hn.2.2.1)]; exact m.hs
  · rw [List.getElem?_set_ne (by first | assumption | (apply Ne.symm; assumption) | exact Nat.ne_of_lt (lt_of_some m.hd) | exact Ne.symm hn.1 | exact Ne.symm hn.2.1 | exact Ne.symm hn.2.2.1), e3]; exact m.rw
  · rw [List.getElem?_set_ne (by first | assumption | (apply Ne.symm; assumption) | exact Nat.ne_of_lt (lt_of_some m.hd) | exact Ne.symm hn.1 | exact Ne.symm hn.2.1 | exact Ne.symm hn.2.2.1)]; exact m.hd
  · rw [List.getElem?_set_ne (by first | assumption | (apply Ne.symm; assumption) | exact Nat.ne_of_lt (lt_of_some m.hd) | exact Ne.symm hn.1 | exact Ne.symm hn.2.1 | exact Ne.symm hn.2.2.1)]; exact m.gt
theorem Mem.goS {g0 : Rg} {v0 : Vw} (m : Mem g v s h) (k : Go g0 v0 g v) (s' : St) : Go g0 v0 (g.set v.cs (.dic (stL s' (.ref v.cb) (.ref v.cp) (.ref v.cl) (.ref v.cr)))) v :=
  k.set (by simp) (lt_st (lt_of_some m.bx) (lt_of_some m.sp) (lt_of_some m.hs) (lt_of_some m.rw))
theorem Mem.setB (m : Mem g v s h) (l : List (Int × Option Nat)) : Mem (g.set v.cb (.lst ((l.map boxD).map Rv.dat))) v { s with boxes := l } h := by
  obtain ⟨⟨n1, n2, n3, n4, n5, n6⟩, ⟨n7, n8, n9, n10, n11⟩, ⟨n12, n13, n14, n15⟩, ⟨n16, n17, n18⟩, ⟨n19, n20⟩, n21⟩ := m.ne
  refine ⟨?_, List.getElem?_set_self (lt_of_some m.bx), ?_, ?_, m.hn, ?_, ?_, ?_, m.nd⟩
  · rw [List.getElem?_set_ne (by first | assumption | (apply Ne.symm; assumption) | exact Nat.ne_of_lt (lt_of_some m.hd) | exact Ne.symm hn.1 | exact Ne.symm hn.2.1 | exact Ne.symm hn.2.2.1)]; exact m.st
  · rw [List.getElem?_set_ne (by first | assumption | (apply Ne.symm; assumption) | exact Nat.ne_of_lt (lt_of_some m.hd) | exact Ne.symm hn.1 | exact Ne.symm hn.2.1 | exact Ne.symm hn.2.2.1)]; exact m.sp
  · rw [List.getElem?_set_ne (by first | assumption | (apply Ne.symm; assumption) | exact Nat.ne_of_lt (lt_of_some m.hd) | exact Ne.symm hn.1 | exact Ne.symm hn.2.1 | exact Ne.symm hn.2.2.1)]; exact m.hs
  · rw [List.getElem?_set_ne (by first | assumption | (apply Ne.symm; assumption) | exact Nat.ne_of_lt (lt_of_some m.hd) | exact Ne.symm hn.1 | exact Ne.symm hn.2.1 | exact Ne.symm hn.2.2.1)]; exact m.rw
  · rw [List.getElem?_set_ne (by first | assumption | (apply Ne.symm; assumption) | exact Nat.ne_of_lt (lt_of_some m.hd) | exact Ne.symm hn.1 | exact Ne.symm hn.2.1 | exact Ne.symm hn.2.2.1)]; exact m.hd
  · rw [List.getElem?_set_ne (by first | assumption | (apply Ne.symm; assumption) | exact Nat.ne_of_lt (lt_of_some m.hd) | exact Ne.symm hn.1 | exact Ne.symm hn.2.1 | exact Ne.symm hn.2.2.1)]; exact m.gt
theorem Mem.goB {g0 : Rg} {v0 : Vw} (m : Mem g v s h) (k : Go g0 v0 g v) (l : List D) : Go g0 v0 (g.set v.cb (.lst (l.map Rv.dat))) v := k.set (by simp) lt_dats
theorem Mem.setP (m : Mem g v s h) (l : List Nat) : Mem (g.set v.cp (.lst ((l.map natD).map Rv.dat))) v { s with spare := l } h := by
  obtain ⟨⟨n1, n2, n3, n4, n5, n6⟩, ⟨n7, n8, n9, n10, n11⟩, ⟨n12, n13, n14, n15⟩, ⟨n16, n17, n18⟩, ⟨n19, n20⟩, n21⟩ := m.ne
  refine ⟨?_, ?_, List.getElem?_set_self (lt_of_some m.sp), ?_, m.hn, ?_, ?_, ?_, m.nd⟩
  · rw [List.getElem?_set_ne (by first | assumption | (apply Ne.symm; assumption) | exact Nat.ne_of_lt (lt_of_some m.hd) | exact Ne.symm hn.1 | exact Ne.symm hn.2.1 | exact Ne.symm hn.2.2.1)]; exact m.st
  · rw [List.getElem?_set_ne (by first | assumption | (apply Ne.symm; assumption) | exact Nat.ne_of_lt (lt_of_some m.hd) | exact Ne.symm hn.1 | exact Ne.symm hn.2.1 | exact Ne.symm hn.2.2.1)]; exact m.bx
  · rw [List.getElem?_set_ne (by first | assumption | (apply Ne.symm; assumption) | exact Nat.ne_of_lt (lt_of_some m.hd) | exact Ne.symm hn.1 | exact Ne.symm hn.2.1 | exact Ne.symm hn.2.2.1)]; exact m.hs
  · rw [List.getElem?_set_ne (by first | assumption | (apply Ne.symm; assumption) | exact Nat.ne_of_lt (lt_of_some m.hd) | exact Ne.symm hn.1 | exact Ne.symm hn.2.1 | exact Ne.symm hn.2.2.1)]; exact m.rw
  · rw [List.getElem?_set_ne (by first | assumption | (apply Ne.symm; assumption) | exact Nat.ne_of_lt (lt_of_some m.hd) | exact Ne.symm hn.1 | exact Ne.symm hn.2.1 | exact Ne.symm hn.2.2.1)]; exact m.hd
  · rw [List.getElem?_set_ne (by first | assumption | (apply Ne.symm; assumption) | exact Nat.ne_of_lt (lt_of_some m.hd) | exact Ne.symm hn.1 | exact Ne.symm hn.2.1 | exact Ne.symm hn.2.2.1)]; exact m.gt
theorem Mem.goP {g0 : Rg} {v0 : Vw} (m : Mem g v s h) (k : Go g0 v0 g v) (l : List D) : Go g0 v0 (g.set v.cp (.lst (l.map Rv.dat))) v := k.set (by simp) lt_dats
theorem Mem.setR (m : Mem g v s h) (l : List MRow) : Mem (g.set v.cr (.lst ((l.map MRow.enc).map Rv.dat))) v { s with rows := l } h := by
  obtain ⟨⟨n1, n2, n3, n4, n5, n6⟩, ⟨n7, n8, n9, n10, n11⟩, ⟨n12, n13, n14, n15⟩, ⟨n16, n17, n18⟩, ⟨n19, n20⟩, n21⟩ := m.ne
  refine ⟨?_, ?_, ?_, ?_, m.hn, List.getElem?_set_self (lt_of_some m.rw), ?_, ?_, m.nd⟩
  · rw [List.getElem?_set_ne (by first | assumption | (apply Ne.symm; assumption) | exact Nat.ne_of_lt (lt_of_some m.hd) | exact Ne.symm hn.1 | exact Ne.symm hn.2.1 | exact Ne.symm hn.2.2.1)]; exact m.st
  · rw [List.getElem?_set_ne (by first | assumption | (apply Ne.symm; assumption) | exact Nat.ne_of_lt (lt_of_some m.hd) | exact Ne.symm hn.1 | exact Ne.symm hn.2.1 | exact Ne.symm hn.2.2.1)]; exact m.bx
  · rw [List.getElem?_set_ne (by first | assumption | (apply Ne.symm; assumption) | exact Nat.ne_of_lt (lt_of_some m.hd) | exact Ne.symm hn.1 | exact Ne.symm hn.2.1 | exact Ne.symm hn.2.2.1)]; exact m.sp
  · rw [List.getElem?_set_ne (by first | assumption | (apply Ne.symm; assumption) | exact Nat.ne_of_lt (lt_of_some m.hd) | exact Ne.symm hn.1 | exact Ne.symm hn.2.1 | exact Ne.symm hn.2.2.1)]; exact m.hs
  · rw [List.getElem?_set_ne (by first | assumption | (apply Ne.symm; assumption) | exact Nat.ne_of_lt (lt_of_some m.hd) | exact Ne.symm hn.1 | exact Ne.symm hn.2.1 | exact Ne.symm hn.2.2.1)]; exact m.hd
  · rw [List.getElem?_set_ne (by first | assumption | (apply Ne.symm; assumption) | exact Nat.ne_of_lt (lt_of_some m.hd) | exact Ne.symm hn.1 | exact Ne.symm hn.2.1 | exact Ne.symm hn.2.2.1)]; exact m.gt
theorem Mem.goR {g0 : Rg} {v0 : Vw} (m : Mem g v s h) (k : Go g0 v0 g v) (l : List D) : Go g0 v0 (g.set v.cr (.lst (l.map Rv.dat))) v := k.set (by simp) lt_dats
/-- what the hand has got, in place -/
theorem Mem.setG (m : Mem g v s h) (x : Got) : Mem (g.set v.cg (.lst (x.items.map Rv.dat))) v s { h with got := x } := by
  obtain ⟨⟨n1, n2, n3, n4, n5, n6⟩, ⟨n7, n8, n9, n10, n11⟩, ⟨n12, n13, n14, n15⟩, ⟨n16, n17, n18⟩, ⟨n19, n20⟩, n21⟩ := m.ne
  refine ⟨?_, ?_, ?_, ?_, m.hn, ?_, ?_, List.getElem?_set_self (lt_of_some m.gt), m.nd⟩
  · rw [List.getElem?_set_ne (by first | assumption | (apply Ne.symm; assumption) | exact Nat.ne_of_lt (lt_of_some m.hd) | exact Ne.symm hn.1 | exact Ne.symm hn.2.1 | exact Ne.symm hn.2.2.1)]; exact m.st
  · rw [List.getElem?_set_ne (by first | assumption | (apply Ne.symm; assumption) | exact Nat.ne_of_lt (lt_of_some m.hd) | exact Ne.symm hn.1 | exact Ne.symm hn.2.1 | exact Ne.symm hn.2.2.1)]; exact m.bx
  · rw [List.getElem?_set_ne (by first | assumption | (apply Ne.symm; assumption) | exact Nat.ne_of_lt (lt_of_some m.hd) | exact Ne.symm hn.1 | exact Ne.symm hn.2.1 | exact Ne.symm hn.2.2.1)]; exact m.sp
  · rw [List.getElem?_set_ne (by first | assumption | (apply Ne.symm; assumption) | exact Nat.ne_of_lt (lt_of_some m.hd) | exact Ne.symm hn.1 | exact Ne.symm hn.2.1 | exact Ne.symm hn.2.2.1)]; exact m.hs
  · rw [List.getElem?_set_ne (by first | assumption | (apply Ne.symm; assumption) | exact Nat.ne_of_lt (lt_of_some m.hd) | exact Ne.symm hn.1 | exact Ne.symm hn.2.1 | exact Ne.symm hn.2.2.1)]; exact m.rw
  · rw [List.getElem?_set_ne (by first | assumption | (apply Ne.symm; assumption) | exact Nat.ne_of_lt (lt_of_some m.hd) | exact Ne.symm hn.1 | exact Ne.symm hn.2.1 | exact Ne.symm hn.2.2.1)]; exact m.hd
theorem Mem.goG {g0 : Rg} {v0 : Vw} (m : Mem g v s h) (k : Go g0 v0 g v) (l : List D) : Go g0 v0 (g.set v.cg (.lst (l.map Rv.dat))) v := k.set (by simp) lt_dats
theorem Go.re {g0 g1 : Rg} {v0 v1 : Vw} (k : Go g0 v0 g1 v1) (r c : Nat) (hr : r = v1.cr ∨ g0.length ≤ r) (hc : c = v1.cg ∨ g0.length ≤ c) : Go g0 v0 g1 { v1 with cr := r, cg := c } := by
  refine ⟨?_, ?_, ?_, k.len, k.fr, k.clo⟩
  · have := k.eq; rw [this]
  · rcases hr with rfl | h
    · exact k.cr
    · exact .inr h
  · rcases hc with rfl | h
    · exact k.cg
    · exact .inr h
/-- .. as a new list -/
theorem Mem.newG (m : Mem g v s h) (x : Got) (h' : Hand) (e : h'.got = x) : Mem ((g ++ [Cell.lst (x.items.map Rv.dat)]).set v.ch (.dic (handL h' (.ref g.length)))) { v with cg := g.length } s h' := by
  obtain ⟨⟨n1, n2, n3, n4, n5, n6⟩, ⟨n7, n8, n9, n10, n11⟩, ⟨n12, n13, n14, n15⟩, ⟨n16, n17, n18⟩, ⟨n19, n20⟩, n21⟩ := m.ne
  have l1 := lt_of_some m.st; have l2 := lt_of_some m.bx; have l3 := lt_of_some m.sp; have l4 := lt_of_some m.hs; have l5 := lt_of_some m.rw; have l6 := lt_of_some m.hd
  refine ⟨?_, ?_, ?_, ?_, m.hn, ?_, ?_, ?_, ?_⟩
  · dsimp only; rw [List.getElem?_set_ne (by first | assumption | (apply Ne.symm; assumption) | exact Nat.ne_of_lt (lt_of_some m.hd) | exact Ne.symm hn.1 | exact Ne.symm hn.2.1 | exact Ne.symm hn.2.2.1), List.getElem?_append_left l1]; exact m.st
  · dsimp only; rw [List.getElem?_set_ne (by first | assumption | (apply Ne.symm; assumption) | exact Nat.ne_of_lt (lt_of_some m.hd) | exact Ne.symm hn.1 | exact Ne.symm hn.2.1 | exact Ne.symm hn.2.2.1), List.getElem?_append_left l2]; exact m.bx
  · dsimp only; rw [List.getElem?_set_ne (by first | assumption | (apply Ne.symm; assumption) | exact Nat.ne_of_lt (lt_of_some m.hd) | exact Ne.symm hn.1 | exact Ne.symm hn.2.1 | exact Ne.symm hn.2.2.1), List.getElem?_append_left l3]; exact m.sp
  · dsimp only; rw [List.getElem?_set_ne (by first | assumption | (apply Ne.symm; assumption) | exact Nat.ne_of_lt (lt_of_some m.hd) | exact Ne.symm hn.1 | exact Ne.symm hn.2.1 | exact Ne.symm hn.2.2.1), List.getElem?_append_left l4]; exact m.hs
  · dsimp only; rw [List.getElem?_set_ne (by first | assumption | (apply Ne.symm; assumption) | exact Nat.ne_of_lt (lt_of_some m.hd) | exact Ne.symm hn.1 | exact Ne.symm hn.2.1 | exact Ne.symm hn.2.2.1), List.getElem?_append_left l5]; exact m.rw
  · exact List.getElem?_set_self (by rw [List.length_append]; exact Nat.lt_of_lt_of_le l6 (Nat.le_add_right _ _))
  · dsimp only; rw [List.getElem?_set_ne (by first | assumption | (apply Ne.symm; assumption) | exact Nat.ne_of_lt (lt_of_some m.hd) | exact Ne.symm hn.1 | exact Ne.symm hn.2.1 | exact Ne.symm hn.2.2.1), e, List.getElem?_append_right (Nat.le_refl _), Nat.sub_self]; rfl
  · simp only [List.nodup_cons, List.mem_cons, List.not_mem_nil, or_false, not_or, List.nodup_nil, and_true, not_false_eq_true]; refine ⟨⟨?_, ?_, ?_, ?_, ?_, ?_⟩, ⟨?_, ?_, ?_, ?_, ?_⟩, ⟨?_, ?_, ?_, ?_⟩, ⟨?_, ?_, ?_⟩, ⟨?_, ?_⟩, ?_⟩ <;> first | assumption | (apply Nat.ne_of_lt; assumption) | (apply Ne.symm; first | assumption | exact hn.1 | exact hn.2.1 | exact hn.2.2.1 | exact hn.2.2.2.1 | exact hn.2.2.2.2.1 | exact hn.2.2.2.2.2) | exact hn.1 | exact hn.2.1 | exact hn.2.2.1 | exact hn.2.2.2.1 | exact hn.2.2.2.2.1 | exact hn.2.2.2.2.2
theorem Mem.goN {g0 : Rg} {v0 : Vw} (m : Mem g v s h) (k : Go g0 v0 g v) (x : Got) (h' : Hand) : Go g0 v0 ((g ++ [Cell.lst (x.items.map Rv.dat)]).set v.ch (.dic (handL h' (.ref g.length)))) { v with cg := g.length } :=
  (((k.app lt_dats).re v.cr g.length (.inl rfl) (.inr k.len)).set (by simp) (lt_hand (by simp)))
/-- the rows as a new list -/
theorem Mem.newR (m : Mem g v s h) (l : List MRow) {c : Nat} (hc : g[c]? = some (.lst ((l.map MRow.enc).map Rv.dat))) (hn : c ∉ [v.cs, v.cb, v.cp, v.cl, v.ch, v.cg]) : Mem (g.set v.cs (.dic (stL s (.ref v.cb) (.ref v.cp) (.ref v.cl) (.ref c)))) { v with cr := c } { s with rows := l } h := by
  obtain ⟨⟨n1, n2, n3, n4, n5, n6⟩, ⟨n7, n8, n9, n10, n11⟩, ⟨n12, n13, n14, n15⟩, ⟨n16, n17, n18⟩, ⟨n19, n20⟩, n21⟩ := m.ne
  simp only [List.mem_cons, List.not_mem_nil, or_false, not_or] at hn
  have l1 := lt_of_some m.st
  refine ⟨List.getElem?_set_self l1, ?_, ?_, ?_, m.hn, ?_, ?_, ?_, ?_⟩
  · dsimp only; rw [List.getElem?_set_ne (by first | assumption | (apply Ne.symm; assumption) | exact Nat.ne_of_lt (lt_of_some m.hd) | exact Ne.symm hn.1 | exact Ne.symm hn.2.1 | exact Ne.symm hn.2.2.1)]; exact m.bx
  · dsimp only; rw [List.getElem?_set_ne (by first | assumption | (apply Ne.symm; assumption) | exact Nat.ne_of_lt (lt_of_some m.hd) | exact Ne.symm hn.1 | exact Ne.symm hn.2.1 | exact Ne.symm hn.2.2.1)]; exact m.sp
  · dsimp only; rw [List.getElem?_set_ne (by first | assumption | (apply Ne.symm; assumption) | exact Nat.ne_of_lt (lt_of_some m.hd) | exact Ne.symm hn.1 | exact Ne.symm hn.2.1 | exact Ne.symm hn.2.2.1)]; exact m.hs
  · dsimp only; rw [List.getElem?_set_ne (by first | assumption | (apply Ne.symm; assumption) | exact Nat.ne_of_lt (lt_of_some m.hd) | exact Ne.symm hn.1 | exact Ne.symm hn.2.1 | exact Ne.symm hn.2.2.1)]; exact hc
  · dsimp only; rw [List.getElem?_set_ne (by first | assumption | (apply Ne.symm; assumption) | exact Nat.ne_of_lt (lt_of_some m.hd) | exact Ne.symm hn.1 | exact Ne.symm hn.2.1 | exact Ne.symm hn.2.2.1)]; exact m.hd
  · dsimp only; rw [List.getElem?_set_ne (by first | assumption | (apply Ne.symm; assumption) | exact Nat.ne_of_lt (lt_of_some m.hd) | exact Ne.symm hn.1 | exact Ne.symm hn.2.1 | exact Ne.symm hn.2.2.1)]; exact m.gt
  · simp only [List.nodup_cons, List.mem_cons, List.not_mem_nil, or_false, not_or, List.nodup_nil, and_true, not_false_eq_true]; refine ⟨⟨?_, ?_, ?_, ?_, ?_, ?_⟩, ⟨?_, ?_, ?_, ?_, ?_⟩, ⟨?_, ?_, ?_, ?_⟩, ⟨?_, ?_, ?_⟩, ⟨?_, ?_⟩, ?_⟩ <;> first | assumption | (apply Nat.ne_of_lt; assumption) | (apply Ne.symm; first | assumption | exact hn.1 | exact hn.2.1 | exact hn.2.2.1 | exact hn.2.2.2.1 | exact hn.2.2.2.2.1 | exact hn.2.2.2.2.2) | exact hn.1 | exact hn.2.1 | exact hn.2.2.1 | exact hn.2.2.2.1 | exact hn.2.2.2.2.1 | exact hn.2.2.2.2.2
theorem Mem.goQ {g0 : Rg} {v0 : Vw} (m : Mem g v s h) (k : Go g0 v0 g v) {c : Nat} (hl : c < g.length) (hc : g0.length ≤ c) : Go g0 v0 (g.set v.cs (.dic (stL s (.ref v.cb) (.ref v.cp) (.ref v.cl) (.ref c)))) { v with cr := c } :=
  ((k.re c v.cg (.inr hc) (.inl rfl)).set (by simp) (lt_st (lt_of_some m.bx) (lt_of_some m.sp) (lt_of_some m.hs) hl))
/-- new cells behind -/
theorem Mem.more (m : Mem g v s h) (l : Rg) : Mem (g ++ l) v s h := by
  have ap : ∀ {c : Nat} {x : Cell}, g[c]? = some x → (g ++ l)[c]? = some x := fun e => by rw [List.getElem?_append_left (lt_of_some e)]; exact e
  exact ⟨ap m.st, ap m.bx, ap m.sp, ap m.hs, m.hn, ap m.rw, ap m.hd, ap m.gt, m.nd⟩
end
/-- two times written: the last counts; written apart: in whatever order -/
theorem set_two {g : Rg} {c : Nat} {x y : Cell} : (g.set c x).set c y = g.set c y := List.set_set ..

/-- all lookups of a state's cells -/
theorem Mem.all {g : Rg} {v : Vw} {s : St} {h : Hand} (m : Mem g v s h) :
    g[v.cs]? = some (.dic (stR (.dat (.str s.kind.k)) (.dat (.tup [optN s.head.1, .int (s.head.2 : Int)])) (.ref v.cb) (.ref v.cp) (.ref v.cl) (.ref v.cr) (.dat (.int (s.time : Int))))) ∧
    g[v.cb]? = some (.lst ((s.boxes.map boxD).map Rv.dat)) ∧ g[v.cp]? = some (.lst ((s.spare.map natD).map Rv.dat)) ∧ g[v.cl]? = some (.lst v.hl) ∧ atI v.hl (v.n : Int) = some (.ref v.ch) ∧ g[v.cr]? = some (.lst ((s.rows.map MRow.enc).map Rv.dat)) ∧
    g[v.ch]? = some (.dic (hdR (.dat (.lst (h.deeds.map Deed.enc))) (.dat (.int (h.at_ : Int))) (.dat (.str h.ph.k)) (.dat (optN h.box)) (.dat (seenD h.seen)) (.ref v.cg) (.dat (.int (h.begun : Int))))) ∧
    g[v.cg]? = some (.lst (h.got.items.map Rv.dat)) := ⟨m.st, m.bx, m.sp, m.hs, atI_nat' m.hn, m.rw, m.hd, m.gt⟩
/-- what was at the start, what is now -/
structure MG (g0 : Rg) (v0 : Vw) (g : Rg) (v : Vw) (s : St) (h : Hand) : Prop where
  m : Mem g v s h
  k : Go g0 v0 g v
section
variable {g0 g : Rg} {v0 v : Vw} {s : St} {h : Hand}
theorem Mem.mg (m : Mem g v s h) : MG g v g v s h := ⟨m, Go.refl g v⟩
theorem MG.hw (x : MG g0 v0 g v s h) (h' : Hand) (e : h'.got = h.got) : MG g0 v0 (g.set v.ch (.dic (handL h' (.ref v.cg)))) v s h' := ⟨x.m.setH h' e, x.m.goH x.k h'⟩
theorem MG.sw (x : MG g0 v0 g v s h) (s' : St) (e1 : s'.boxes = s.boxes) (e2 : s'.spare = s.spare) (e3 : s'.rows = s.rows) : MG g0 v0 (g.set v.cs (.dic (stL s' (.ref v.cb) (.ref v.cp) (.ref v.cl) (.ref v.cr)))) v s' h := ⟨x.m.setS s' e1 e2 e3, x.m.goS x.k s'⟩
theorem MG.bw (x : MG g0 v0 g v s h) (l : List (Int × Option Nat)) : MG g0 v0 (g.set v.cb (.lst ((l.map boxD).map Rv.dat))) v { s with boxes := l } h := ⟨x.m.setB l, x.m.goB x.k _⟩
theorem MG.pw (x : MG g0 v0 g v s h) (l : List Nat) : MG g0 v0 (g.set v.cp (.lst ((l.map natD).map Rv.dat))) v { s with spare := l } h := ⟨x.m.setP l, x.m.goP x.k _⟩
theorem MG.rw (x : MG g0 v0 g v s h) (l : List MRow) : MG g0 v0 (g.set v.cr (.lst ((l.map MRow.enc).map Rv.dat))) v { s with rows := l } h := ⟨x.m.setR l, x.m.goR x.k _⟩
theorem MG.gw (x : MG g0 v0 g v s h) (y : Got) : MG g0 v0 (g.set v.cg (.lst (y.items.map Rv.dat))) v s { h with got := y } := ⟨x.m.setG y, x.m.goG x.k _⟩
theorem MG.nw (x : MG g0 v0 g v s h) (y : Got) (h' : Hand) (e : h'.got = y) : MG g0 v0 ((g ++ [Cell.lst (y.items.map Rv.dat)]).set v.ch (.dic (handL h' (.ref g.length)))) { v with cg := g.length } s h' := ⟨x.m.newG y h' e, x.m.goN x.k y h'⟩
theorem Mem.notin (m : Mem g v s h) {c : Nat} (l : g.length ≤ c) : c ∉ [v.cs, v.cb, v.cp, v.cl, v.ch, v.cg] := by
  intro hc
  simp only [List.mem_cons, List.not_mem_nil, or_false] at hc
  rcases hc with rfl | rfl | rfl | rfl | rfl | rfl
  · exact absurd (lt_of_some m.st) (Nat.not_lt.mpr l)
  · exact absurd (lt_of_some m.bx) (Nat.not_lt.mpr l)
  · exact absurd (lt_of_some m.sp) (Nat.not_lt.mpr l)
  · exact absurd (lt_of_some m.hs) (Nat.not_lt.mpr l)
  · exact absurd (lt_of_some m.hd) (Nat.not_lt.mpr l)
  · exact absurd (lt_of_some m.gt) (Nat.not_lt.mpr l)
theorem MG.qw (x : MG g0 v0 g v s h) (l : List MRow) (cell : Cell) (e : cell = .lst ((l.map MRow.enc).map Rv.dat)) : MG g0 v0 ((g ++ [cell]).set v.cs (.dic (stL s (.ref v.cb) (.ref v.cp) (.ref v.cl) (.ref g.length)))) { v with cr := g.length } { s with rows := l } h := by
  subst e
  have y : MG g0 v0 (g ++ [Cell.lst ((l.map MRow.enc).map Rv.dat)]) v s h := ⟨x.m.more _, x.k.app lt_dats⟩
  have hc : (g ++ [Cell.lst ((l.map MRow.enc).map Rv.dat)])[g.length]? = some (.lst ((l.map MRow.enc).map Rv.dat)) := by rw [List.getElem?_append_right (Nat.le_refl _), Nat.sub_self]; rfl
  exact ⟨y.m.newR l hc (x.m.notin (Nat.le_refl _)), y.m.goQ y.k (lt_of_some hc) x.k.len⟩
theorem MG.box_set (x : MG g0 v0 g v s h) (b : Nat) (p : Int × Option Nat) : MG g0 v0 (g.set v.cb (.lst (((s.boxes.map boxD).map Rv.dat).set b (.dat (boxD p))))) v { s with boxes := s.boxes.set b p } h := by
  have := x.bw (s.boxes.set b p); rw [List.map_set, List.map_set] at this; exact this
theorem MG.box_app (x : MG g0 v0 g v s h) (p : Int × Option Nat) : MG g0 v0 (g.set v.cb (.lst ((s.boxes.map boxD).map Rv.dat ++ [.dat (boxD p)]))) v { s with boxes := s.boxes ++ [p] } h := by
  have := x.bw (s.boxes ++ [p]); rw [List.map_append, List.map_append] at this; exact this
theorem MG.sp_app (x : MG g0 v0 g v s h) (b : Nat) : MG g0 v0 (g.set v.cp (.lst ((s.spare.map natD).map Rv.dat ++ [.dat (natD b)]))) v { s with spare := s.spare ++ [b] } h := by
  have := x.pw (s.spare ++ [b]); rw [List.map_append, List.map_append] at this; exact this
theorem MG.row_app (x : MG g0 v0 g v s h) (b : MRow) : MG g0 v0 (g.set v.cr (.lst ((s.rows.map MRow.enc).map Rv.dat ++ [.dat b.enc]))) v { s with rows := s.rows ++ [b] } h := by
  have := x.rw (s.rows ++ [b]); rw [List.map_append, List.map_append] at this; exact this
theorem MG.on {g1 : Rg} {v1 : Vw} {s1 : St} {h1 : Hand} (x : MG g0 v0 g v s h) (m : Mem g1 v1 s1 h1) (k : Go g v g1 v1) : MG g0 v0 g1 v1 s1 h1 := ⟨m, x.k.trans k⟩
theorem MG.more (x : MG g0 v0 g v s h) (cell : Cell) (hl : cell.lt g.length) : MG g0 v0 (g ++ [cell]) v s h := ⟨x.m.more [cell], x.k.app hl⟩
theorem MG.sp_pop (x : MG g0 v0 g v s h) : MG g0 v0 (g.set v.cp (.lst ((s.spare.map natD).map Rv.dat).dropLast)) v { s with spare := s.spare.dropLast } h := by
  have := x.pw s.spare.dropLast; rw [List.map_dropLast, List.map_dropLast] at this; exact this
theorem last_get {l : List Nat} (h : l ≠ []) : ((l.map natD).map Rv.dat)[l.length - 1]? = some (.dat (.int (l.getLastD 0 : Nat))) := by
  have hp : 0 < l.length := List.length_pos_iff.mpr h
  rw [List.getElem?_map, List.getElem?_map, List.getElem?_eq_getElem (by omega), List.getLastD_eq_getLast?, List.getLast?_eq_some_getLast h, List.getLast_eq_getElem]; rfl
theorem last_mem {l : List Nat} (h : l ≠ []) : l.getLastD 0 ∈ l := by
  rw [List.getLastD_eq_getLast?, List.getLast?_eq_some_getLast h]; exact List.getLast_mem h
/-- what a step of a hand is worth -/
def Post (g : Rg) (v : Vw) (r : St × Hand × Step) (Q : RQ) : Prop := ∀ g' v', Mem g' v' r.1 r.2.1 → Go g v g' v' → Q (.dat r.2.2.enc) g'
theorem fin_mk {r : St × Hand × Step} {Q : RQ} (q : Post g0 v0 r Q) (x : MG g0 v0 g v r.1 r.2.1) : Fin g0 Q (.dat r.2.2.enc) g := fin_go x.k (q _ _ x.m x.k)
theorem fin_non {Q : RQ} {s' : St} {h' : Hand} (q : ∀ g' v', Mem g' v' s' h' → Go g0 v0 g' v' → Q (.dat .non) g') (x : MG g0 v0 g v s' h') : Fin g0 Q (.dat .non) g := fin_go x.k (q _ _ x.m x.k)
end
theorem deed_at {h : Hand} (l : h.at_ < h.deeds.length) : atI h.deeds (h.at_ : Int) = some h.deed := by
  refine atI_nat' ?_
  unfold Hand.deed; rw [List.getD_eq_getElem?_getD, List.getElem?_eq_getElem l]; rfl
theorem inside_at {s : St} {b : Nat} (l : b < s.boxes.length) : atI s.boxes (b : Int) = some (s.inside b) := by
  refine atI_nat' ?_
  unfold St.inside; rw [List.getD_eq_getElem?_getD, List.getElem?_eq_getElem l]; rfl
theorem ixN_nat' {n m : Nat} (h : m < n) : ixN n (m : Int) = some m := by
  unfold L2.ixN; rw [if_pos (by omega), if_pos (by omega)]; simp
theorem eqv_optN {a b : Option Nat} : eqv (optN a) (optN b) = decide (a = b) := by
  cases a <;> cases b <;> simp [optN, eqv, Bool.beq_eq_decide_eq]
  rename_i x y
  by_cases h : x = y
  · subst h; simp
  · have : ¬ (x : Int) = (y : Int) := by omega
    simp [h, this]
theorem plN_optN {a : Option Nat} {n : Nat} : plN n (optN a) = true := by cases a <;> simp [optN, plN]
theorem isNon_optN {a : Option Nat} : isNon (.dat (optN a)) = decide (a = none) := by cases a <;> rfl
end DW

/-! ## F_p_is_value.lean -/
set_option Elab.async false
set_option linter.all false
set_option maxRecDepth 100000
set_option maxHeartbeats 4000000
set_option autoImplicit false
namespace DW
open PySem PySem.Spec L2
open PyProof.Rows hiding St

local macro_rules | `(tactic| walk_at "dw") => `(tactic| simp (config := { maxSteps := 1000000 }) only [and_assoc, natD, mapint_inj, mapnat_inj, denc_inj, wfor_eq, ixD, ixM, cut_one, List.tail_cons, List.tail_nil, eqvs_nil, List.isEmpty_cons, List.isEmpty_nil, plAll_int, plAll_nat, Ss.W, Sm.W, Ex.W, Ex.T, Es.W, wVar, BOp.B, COp.B, Bi.B, IxK.B, bI0, bIC, bEq, bIs, bIn, bIxL, bIxT, bIxS, bIxK, bCat, bCatT, bRep, cLen, cInt, cMin2, cList, cTup, wantB, wAndT, wOrT, wAndV, wOrV, wNotV, lenOf, lstOf_ref, lstOf_lst, seqOf, dicOf_ref, dicOf_dic, wPart, wIter, tstW, mAppend, mPop, mPopAt, mClear, wSetIx, wSetKey, Tg.put, wipeN, Cell.lst.injEq, Cell.dic.injEq, Cell.fz.injEq, List.length_map, tyR, tyD,
    eqv_ii, eqv_ss, eqv_bb, eqv_nn, eqv_ll, eqv_tt, eqn_non_int, eqn_non_str, eqn_non_lst, eqn_non_tup, eqn_non_bl, eqn_non_dic, eqn_int_non, eqn_int_str, eqn_int_lst, eqn_int_tup, eqn_int_dic, eqn_str_non, eqn_str_int, eqn_str_lst, eqn_str_tup, eqn_str_bl, eqn_str_dic, eqn_lst_non, eqn_lst_int, eqn_lst_str, eqn_lst_tup, eqn_lst_bl, eqn_lst_dic, eqn_tup_non, eqn_tup_int, eqn_tup_str, eqn_tup_lst, eqn_tup_bl, eqn_tup_dic, eqn_bl_non, eqn_bl_str, eqn_bl_lst, eqn_bl_tup, eqn_bl_dic, eqvs, atI_lit, cdiv_lit, cmul_r, cmul_l, cpow_lit, nrm_dat, nrm_ref, plN, plAll, rd_dat, rd_ref, rds_nil, rds_cons, rds_map, rdk_nil, rdk_cons, wFrz, frz1, wFrzL, frzs, datsN, datsN_map, datsK, isNon, tyNames, kbs,
    Option.map_some, Option.map_none, Option.isSome_some, List.getD_cons_zero, List.getD_cons_succ, List.getD_nil, get_app, get_app0, set_app, set_app0, List.length_append, List.append_assoc, List.any_cons, List.any_nil, List.zip_cons_cons, List.zip_nil_left, List.zip_nil_right,
    List.map_cons, List.map_nil, List.cons_append, List.nil_append, List.append_nil, List.length_cons, List.length_nil, List.replicate, List.set_cons_zero, List.set_cons_succ, List.getElem?_cons_zero, List.getElem?_cons_succ, List.set_nil, List.getElem?_nil,
    Nat.reduceAdd, Nat.reduceSub, Nat.reduceBEq, Nat.reduceLeDiff, Nat.reduceEqDiff, Nat.sub_self, Nat.zero_add, Nat.add_zero, Nat.zero_le, Nat.le_add_right, Nat.le_refl, Int.reduceToNat, Int.reduceLE, Nat.reduceLT, Nat.reducePow, Int.reducePow, Int.reduceNeg, or_true, true_or, Int.reduceLT, Bool.false_eq_true, if_true, if_false, forall_const, false_implies, true_implies, implies_true, Int.reduceEq, cast_lit, not_true_eq_false, not_false_eq_true, Bool.not_true, Bool.not_false, Bool.not_eq_true', Bool.not_eq_false', Bool.and_true, Bool.true_and, Bool.and_false, Bool.false_and, Bool.or_false, Bool.false_or, Bool.or_true, Bool.true_or, reduceCtorEq, false_and, and_false, or_false, false_or, beq_self_eq_true,
    Option.some.injEq, Prod.mk.injEq, Rv.dat.injEq, Rv.ref.injEq, D.int.injEq, D.bl.injEq, D.str.injEq, D.tup.injEq, D.lst.injEq, D.dic.injEq, D.scr.injEq, List.cons.injEq, and_true, true_and, exists_and_left, exists_and_right, exists_eq_left, exists_eq_left', exists_eq_right, exists_eq_right', exists_eq, exists_eq', exists_const, decide_eq_true_eq, decide_eq_false_iff_not, Bool.and_eq_true, beq_iff_eq, beq_eq_false_iff_ne, ne_eq, decide_true, decide_false, hdR_len, stR_len, hdR_24, hdR_25, hdR_26, hdR_27, hdR_28, hdR_29, hdR_30, stR_16, stR_18, stR_19, stR_20, stR_21, stR_22, stR_23, hdP_25, hdP_26, hdP_27, hdP_28, hdP_29, hdP_30, stP_16, stP_19, stP_20, stP_21, stP_22, stP_23, hdD, List.length_set, set_two, denc_push, denc_swap, denc_pop, denc_top, denc_clear, eqv_optN, plN_optN, isNon_optN, optN_some, optN_none, seenD_some, seenD_none, items_pair, items_vals, phk, kdk, List.getElem?_set_self, List.getElem?_set_ne, List.getElem?_append_left, ltaddr, boxD, cDict])
local macro_rules | `(tactic| walk_at "dwh") => `(tactic| simp (config := { maxSteps := 1000000 }) only [and_assoc, natD, mapint_inj, mapnat_inj, denc_inj, wfor_eq, ixD, ixM, cut_one, List.tail_cons, List.tail_nil, eqvs_nil, List.isEmpty_cons, List.isEmpty_nil, plAll_int, plAll_nat, Ss.W, Sm.W, Ex.W, Ex.T, Es.W, wVar, BOp.B, COp.B, Bi.B, IxK.B, bI0, bIC, bEq, bIs, bIn, bIxL, bIxT, bIxS, bIxK, bCat, bCatT, bRep, cLen, cInt, cMin2, cList, cTup, wantB, wAndT, wOrT, wAndV, wOrV, wNotV, lenOf, lstOf_ref, lstOf_lst, seqOf, dicOf_ref, dicOf_dic, wPart, wIter, tstW, mAppend, mPop, mPopAt, mClear, wSetIx, wSetKey, Tg.put, wipeN, Cell.lst.injEq, Cell.dic.injEq, Cell.fz.injEq, List.length_map, tyR, tyD,
    eqv_ii, eqv_ss, eqv_bb, eqv_nn, eqv_ll, eqv_tt, eqn_non_int, eqn_non_str, eqn_non_lst, eqn_non_tup, eqn_non_bl, eqn_non_dic, eqn_int_non, eqn_int_str, eqn_int_lst, eqn_int_tup, eqn_int_dic, eqn_str_non, eqn_str_int, eqn_str_lst, eqn_str_tup, eqn_str_bl, eqn_str_dic, eqn_lst_non, eqn_lst_int, eqn_lst_str, eqn_lst_tup, eqn_lst_bl, eqn_lst_dic, eqn_tup_non, eqn_tup_int, eqn_tup_str, eqn_tup_lst, eqn_tup_bl, eqn_tup_dic, eqn_bl_non, eqn_bl_str, eqn_bl_lst, eqn_bl_tup, eqn_bl_dic, eqvs, atI_lit, cdiv_lit, cmul_r, cmul_l, cpow_lit, nrm_dat, nrm_ref, plN, plAll, rd_dat, rd_ref, rds_nil, rds_cons, rds_map, rdk_nil, rdk_cons, wFrz, frz1, wFrzL, frzs, datsN, datsN_map, datsK, isNon, tyNames, kbs,
    Option.map_some, Option.map_none, Option.isSome_some, List.getD_cons_zero, List.getD_cons_succ, List.getD_nil, get_app, get_app0, set_app, set_app0, List.length_append, List.append_assoc, List.any_cons, List.any_nil, List.zip_cons_cons, List.zip_nil_left, List.zip_nil_right,
    List.map_cons, List.map_nil, List.cons_append, List.nil_append, List.append_nil, List.length_cons, List.length_nil, List.replicate, List.set_cons_zero, List.set_cons_succ, List.getElem?_cons_zero, List.getElem?_cons_succ, List.set_nil, List.getElem?_nil,
    Nat.reduceAdd, Nat.reduceSub, Nat.reduceBEq, Nat.reduceLeDiff, Nat.reduceEqDiff, Nat.sub_self, Nat.zero_add, Nat.add_zero, Nat.zero_le, Nat.le_add_right, Nat.le_refl, Int.reduceToNat, Int.reduceLE, Nat.reduceLT, Nat.reducePow, Int.reducePow, Int.reduceNeg, or_true, true_or, Int.reduceLT, Bool.false_eq_true, if_true, if_false, forall_const, false_implies, true_implies, implies_true, Int.reduceEq, cast_lit, not_true_eq_false, not_false_eq_true, Bool.not_true, Bool.not_false, Bool.not_eq_true', Bool.not_eq_false', Bool.and_true, Bool.true_and, Bool.and_false, Bool.false_and, Bool.or_false, Bool.false_or, Bool.or_true, Bool.true_or, reduceCtorEq, false_and, and_false, or_false, false_or, beq_self_eq_true,
    Option.some.injEq, Prod.mk.injEq, Rv.dat.injEq, Rv.ref.injEq, D.int.injEq, D.bl.injEq, D.str.injEq, D.tup.injEq, D.lst.injEq, D.dic.injEq, D.scr.injEq, List.cons.injEq, and_true, true_and, exists_and_left, exists_and_right, exists_eq_left, exists_eq_left', exists_eq_right, exists_eq_right', exists_eq, exists_eq', exists_const, decide_eq_true_eq, decide_eq_false_iff_not, Bool.and_eq_true, beq_iff_eq, beq_eq_false_iff_ne, ne_eq, decide_true, decide_false, hdR_len, stR_len, hdR_24, hdR_25, hdR_26, hdR_27, hdR_28, hdR_29, hdR_30, stR_16, stR_18, stR_19, stR_20, stR_21, stR_22, stR_23, hdP_25, hdP_26, hdP_27, hdP_28, hdP_29, hdP_30, stP_16, stP_19, stP_20, stP_21, stP_22, stP_23, hdD, List.length_set, set_two, denc_push, denc_swap, denc_pop, denc_top, denc_clear, eqv_optN, plN_optN, isNon_optN, optN_some, optN_none, seenD_some, seenD_none, items_pair, items_vals, phk, kdk, List.getElem?_set_self, List.getElem?_set_ne, List.getElem?_append_left, ltaddr, boxD, cDict, *])
local macro_rules | `(tactic| walk_at "dwf") => `(tactic| simp (config := { maxSteps := 1000000 }) only [and_assoc, natD, mapint_inj, mapnat_inj, denc_inj, wfor_eq, ixD, ixM, cut_one, List.tail_cons, List.tail_nil, eqvs_nil, List.isEmpty_cons, List.isEmpty_nil, plAll_int, plAll_nat, Ss.W, Sm.W, Ex.W, Ex.T, Es.W, wVar, BOp.B, COp.B, Bi.B, IxK.B, bI0, bIC, bEq, bIs, bIn, bIxL, bIxT, bIxS, bIxK, bCat, bCatT, bRep, cLen, cInt, cMin2, cList, cTup, wantB, wAndT, wOrT, wAndV, wOrV, wNotV, lenOf, lstOf_ref, lstOf_lst, seqOf, dicOf_ref, dicOf_dic, wPart, wIter, tstW, mAppend, mPop, mPopAt, mClear, wSetIx, wSetKey, Tg.put, wipeN, Cell.lst.injEq, Cell.dic.injEq, Cell.fz.injEq, List.length_map, tyR, tyD,
    eqv_ii, eqv_ss, eqv_bb, eqv_nn, eqv_ll, eqv_tt, eqn_non_int, eqn_non_str, eqn_non_lst, eqn_non_tup, eqn_non_bl, eqn_non_dic, eqn_int_non, eqn_int_str, eqn_int_lst, eqn_int_tup, eqn_int_dic, eqn_str_non, eqn_str_int, eqn_str_lst, eqn_str_tup, eqn_str_bl, eqn_str_dic, eqn_lst_non, eqn_lst_int, eqn_lst_str, eqn_lst_tup, eqn_lst_bl, eqn_lst_dic, eqn_tup_non, eqn_tup_int, eqn_tup_str, eqn_tup_lst, eqn_tup_bl, eqn_tup_dic, eqn_bl_non, eqn_bl_str, eqn_bl_lst, eqn_bl_tup, eqn_bl_dic, eqvs, atI_lit, cdiv_lit, cmul_r, cmul_l, cpow_lit, nrm_dat, nrm_ref, plN, plAll, rd_dat, rd_ref, rds_nil, rds_cons, rds_map, rdk_nil, rdk_cons,               isNon, tyNames, kbs,
    Option.map_some, Option.map_none, Option.isSome_some, List.getD_cons_zero, List.getD_cons_succ, List.getD_nil, get_app, get_app0, set_app, set_app0, List.length_append, List.append_assoc, List.any_cons, List.any_nil, List.zip_cons_cons, List.zip_nil_left, List.zip_nil_right,
    List.map_cons, List.map_nil, List.cons_append, List.nil_append, List.append_nil, List.length_cons, List.length_nil, List.replicate, List.set_cons_zero, List.set_cons_succ, List.getElem?_cons_zero, List.getElem?_cons_succ, List.set_nil, List.getElem?_nil,
    Nat.reduceAdd, Nat.reduceSub, Nat.reduceBEq, Nat.reduceLeDiff, Nat.reduceEqDiff, Nat.sub_self, Nat.zero_add, Nat.add_zero, Nat.zero_le, Nat.le_add_right, Nat.le_refl, Int.reduceToNat, Int.reduceLE, Nat.reduceLT, Nat.reducePow, Int.reducePow, Int.reduceNeg, or_true, true_or, Int.reduceLT, Bool.false_eq_true, if_true, if_false, forall_const, false_implies, true_implies, implies_true, Int.reduceEq, cast_lit, not_true_eq_false, not_false_eq_true, Bool.not_true, Bool.not_false, Bool.not_eq_true', Bool.not_eq_false', Bool.and_true, Bool.true_and, Bool.and_false, Bool.false_and, Bool.or_false, Bool.false_or, Bool.or_true, Bool.true_or, reduceCtorEq, false_and, and_false, or_false, false_or, beq_self_eq_true,
    Option.some.injEq, Prod.mk.injEq, Rv.dat.injEq, Rv.ref.injEq, D.int.injEq, D.bl.injEq, D.str.injEq, D.tup.injEq, D.lst.injEq, D.dic.injEq, D.scr.injEq, List.cons.injEq, and_true, true_and, exists_and_left, exists_and_right, exists_eq_left, exists_eq_left', exists_eq_right, exists_eq_right', exists_eq, exists_eq', exists_const, decide_eq_true_eq, decide_eq_false_iff_not, Bool.and_eq_true, beq_iff_eq, beq_eq_false_iff_ne, ne_eq, decide_true, decide_false, hdR_len, stR_len, hdR_24, hdR_25, hdR_26, hdR_27, hdR_28, hdR_29, hdR_30, stR_16, stR_18, stR_19, stR_20, stR_21, stR_22, stR_23, hdP_25, hdP_26, hdP_27, hdP_28, hdP_29, hdP_30, stP_16, stP_19, stP_20, stP_21, stP_22, stP_23, hdD, List.length_set, set_two, denc_push, denc_swap, denc_pop, denc_top, denc_clear, eqv_optN, plN_optN, isNon_optN, optN_some, optN_none, seenD_some, seenD_none, items_pair, items_vals, phk, kdk, List.getElem?_set_self, List.getElem?_set_ne, List.getElem?_append_left, ltaddr, boxD, cDict, *])
abbrev fn_p_is_value : List Str := []
def m_p_is_value : DW.Ss := (.cons (.ret (.and (.isin (.var 0) 0) (.one (.not (.isin (.var 0) 1)))))
  .nil)
abbrev Ss_p_is_value : List SpD := []
def isVal : D → Bool
  | .int _ => true
  | _ => false
def S_p_is_value : SpD := fun rs g Q => match rs with
  | [.dat d] => plN 60 d = true ∧ Q (.dat (.bl (isVal d))) g
  | _ => False
theorem mo_p_is_value : Mono S_p_is_value := by
  intro rs g P P2 h
  unfold S_p_is_value
  split
  · intro q; first | exact h _ _ q | exact ⟨q.1, h _ _ q.2⟩ | exact ⟨q.1, q.2.1, h _ _ q.2.2⟩ | exact q.imp fun _ z => ⟨z.1, h _ _ z.2⟩
  · exact id
theorem len_p_is_value : ∀ rs g Q, S_p_is_value rs g Q → rs.length = 1 := by
  intro rs g Q q
  unfold S_p_is_value at q
  split at q
  · rfl
  · exact q.elim
theorem hS_p_is_value : ∀ rs g Q, S_p_is_value rs g Q → m_p_is_value.W (wd Ss_p_is_value glF dtF) (rs.map some ++ List.replicate (1 - rs.length) none) g (fun _ g2 => Fin g Q (.dat .non) g2) (Fin g Q) := by
  intro rs g Q q
  unfold S_p_is_value at q
  split at q
  · rename_i d
    unfold m_p_is_value
    obtain ⟨hp, q⟩ := q
    cases d <;> first | (exfalso; simp [plN] at hp; done) | walk_at "dw"
    all_goals first | exact fin_dat [] (by simp) q
  · exact q.elim

end DW

/-! ## F_p_is_deed.lean -/
set_option Elab.async false
set_option linter.all false
set_option maxRecDepth 100000
set_option maxHeartbeats 4000000
set_option autoImplicit false
namespace DW
open PySem PySem.Spec L2
open PyProof.Rows hiding St

local macro_rules | `(tactic| walk_at "dw") => `(tactic| simp (config := { maxSteps := 1000000 }) only [and_assoc, natD, mapint_inj, mapnat_inj, denc_inj, wfor_eq, ixD, ixM, cut_one, List.tail_cons, List.tail_nil, eqvs_nil, List.isEmpty_cons, List.isEmpty_nil, plAll_int, plAll_nat, Ss.W, Sm.W, Ex.W, Ex.T, Es.W, wVar, BOp.B, COp.B, Bi.B, IxK.B, bI0, bIC, bEq, bIs, bIn, bIxL, bIxT, bIxS, bIxK, bCat, bCatT, bRep, cLen, cInt, cMin2, cList, cTup, wantB, wAndT, wOrT, wAndV, wOrV, wNotV, lenOf, lstOf_ref, lstOf_lst, seqOf, dicOf_ref, dicOf_dic, wPart, wIter, tstW, mAppend, mPop, mPopAt, mClear, wSetIx, wSetKey, Tg.put, wipeN, Cell.lst.injEq, Cell.dic.injEq, Cell.fz.injEq, List.length_map, tyR, tyD,
    eqv_ii, eqv_ss, eqv_bb, eqv_nn, eqv_ll, eqv_tt, eqn_non_int, eqn_non_str, eqn_non_lst, eqn_non_tup, eqn_non_bl, eqn_non_dic, eqn_int_non, eqn_int_str, eqn_int_lst, eqn_int_tup, eqn_int_dic, eqn_str_non, eqn_str_int, eqn_str_lst, eqn_str_tup, eqn_str_bl, eqn_str_dic, eqn_lst_non, eqn_lst_int, eqn_lst_str, eqn_lst_tup, eqn_lst_bl, eqn_lst_dic, eqn_tup_non, eqn_tup_int, eqn_tup_str, eqn_tup_lst, eqn_tup_bl, eqn_tup_dic, eqn_bl_non, eqn_bl_str, eqn_bl_lst, eqn_bl_tup, eqn_bl_dic, eqvs, atI_lit, cdiv_lit, cmul_r, cmul_l, cpow_lit, nrm_dat, nrm_ref, plN, plAll, rd_dat, rd_ref, rds_nil, rds_cons, rds_map, rdk_nil, rdk_cons, wFrz, frz1, wFrzL, frzs, datsN, datsN_map, datsK, isNon, tyNames, kbs,
    Option.map_some, Option.map_none, Option.isSome_some, List.getD_cons_zero, List.getD_cons_succ, List.getD_nil, get_app, get_app0, set_app, set_app0, List.length_append, List.append_assoc, List.any_cons, List.any_nil, List.zip_cons_cons, List.zip_nil_left, List.zip_nil_right,
    List.map_cons, List.map_nil, List.cons_append, List.nil_append, List.append_nil, List.length_cons, List.length_nil, List.replicate, List.set_cons_zero, List.set_cons_succ, List.getElem?_cons_zero, List.getElem?_cons_succ, List.set_nil, List.getElem?_nil,
    Nat.reduceAdd, Nat.reduceSub, Nat.reduceBEq, Nat.reduceLeDiff, Nat.reduceEqDiff, Nat.sub_self, Nat.zero_add, Nat.add_zero, Nat.zero_le, Nat.le_add_right, Nat.le_refl, Int.reduceToNat, Int.reduceLE, Nat.reduceLT, Nat.reducePow, Int.reducePow, Int.reduceNeg, or_true, true_or, Int.reduceLT, Bool.false_eq_true, if_true, if_false, forall_const, false_implies, true_implies, implies_true, Int.reduceEq, cast_lit, not_true_eq_false, not_false_eq_true, Bool.not_true, Bool.not_false, Bool.not_eq_true', Bool.not_eq_false', Bool.and_true, Bool.true_and, Bool.and_false, Bool.false_and, Bool.or_false, Bool.false_or, Bool.or_true, Bool.true_or, reduceCtorEq, false_and, and_false, or_false, false_or, beq_self_eq_true,
    Option.some.injEq, Prod.mk.injEq, Rv.dat.injEq, Rv.ref.injEq, D.int.injEq, D.bl.injEq, D.str.injEq, D.tup.injEq, D.lst.injEq, D.dic.injEq, D.scr.injEq, List.cons.injEq, and_true, true_and, exists_and_left, exists_and_right, exists_eq_left, exists_eq_left', exists_eq_right, exists_eq_right', exists_eq, exists_eq', exists_const, decide_eq_true_eq, decide_eq_false_iff_not, Bool.and_eq_true, beq_iff_eq, beq_eq_false_iff_ne, ne_eq, decide_true, decide_false, hdR_len, stR_len, hdR_24, hdR_25, hdR_26, hdR_27, hdR_28, hdR_29, hdR_30, stR_16, stR_18, stR_19, stR_20, stR_21, stR_22, stR_23, hdP_25, hdP_26, hdP_27, hdP_28, hdP_29, hdP_30, stP_16, stP_19, stP_20, stP_21, stP_22, stP_23, hdD, List.length_set, set_two, denc_push, denc_swap, denc_pop, denc_top, denc_clear, eqv_optN, plN_optN, isNon_optN, optN_some, optN_none, seenD_some, seenD_none, items_pair, items_vals, phk, kdk, List.getElem?_set_self, List.getElem?_set_ne, List.getElem?_append_left, ltaddr, boxD, cDict, S_p_is_value])
local macro_rules | `(tactic| walk_at "dwh") => `(tactic| simp (config := { maxSteps := 1000000 }) only [and_assoc, natD, mapint_inj, mapnat_inj, denc_inj, wfor_eq, ixD, ixM, cut_one, List.tail_cons, List.tail_nil, eqvs_nil, List.isEmpty_cons, List.isEmpty_nil, plAll_int, plAll_nat, Ss.W, Sm.W, Ex.W, Ex.T, Es.W, wVar, BOp.B, COp.B, Bi.B, IxK.B, bI0, bIC, bEq, bIs, bIn, bIxL, bIxT, bIxS, bIxK, bCat, bCatT, bRep, cLen, cInt, cMin2, cList, cTup, wantB, wAndT, wOrT, wAndV, wOrV, wNotV, lenOf, lstOf_ref, lstOf_lst, seqOf, dicOf_ref, dicOf_dic, wPart, wIter, tstW, mAppend, mPop, mPopAt, mClear, wSetIx, wSetKey, Tg.put, wipeN, Cell.lst.injEq, Cell.dic.injEq, Cell.fz.injEq, List.length_map, tyR, tyD,
    eqv_ii, eqv_ss, eqv_bb, eqv_nn, eqv_ll, eqv_tt, eqn_non_int, eqn_non_str, eqn_non_lst, eqn_non_tup, eqn_non_bl, eqn_non_dic, eqn_int_non, eqn_int_str, eqn_int_lst, eqn_int_tup, eqn_int_dic, eqn_str_non, eqn_str_int, eqn_str_lst, eqn_str_tup, eqn_str_bl, eqn_str_dic, eqn_lst_non, eqn_lst_int, eqn_lst_str, eqn_lst_tup, eqn_lst_bl, eqn_lst_dic, eqn_tup_non, eqn_tup_int, eqn_tup_str, eqn_tup_lst, eqn_tup_bl, eqn_tup_dic, eqn_bl_non, eqn_bl_str, eqn_bl_lst, eqn_bl_tup, eqn_bl_dic, eqvs, atI_lit, cdiv_lit, cmul_r, cmul_l, cpow_lit, nrm_dat, nrm_ref, plN, plAll, rd_dat, rd_ref, rds_nil, rds_cons, rds_map, rdk_nil, rdk_cons, wFrz, frz1, wFrzL, frzs, datsN, datsN_map, datsK, isNon, tyNames, kbs,
    Option.map_some, Option.map_none, Option.isSome_some, List.getD_cons_zero, List.getD_cons_succ, List.getD_nil, get_app, get_app0, set_app, set_app0, List.length_append, List.append_assoc, List.any_cons, List.any_nil, List.zip_cons_cons, List.zip_nil_left, List.zip_nil_right,
    List.map_cons, List.map_nil, List.cons_append, List.nil_append, List.append_nil, List.length_cons, List.length_nil, List.replicate, List.set_cons_zero, List.set_cons_succ, List.getElem?_cons_zero, List.getElem?_cons_succ, List.set_nil, List.getElem?_nil,
    Nat.reduceAdd, Nat.reduceSub, Nat.reduceBEq, Nat.reduceLeDiff, Nat.reduceEqDiff, Nat.sub_self, Nat.zero_add, Nat.add_zero, Nat.zero_le, Nat.le_add_right, Nat.le_refl, Int.reduceToNat, Int.reduceLE, Nat.reduceLT, Nat.reducePow, Int.reducePow, Int.reduceNeg, or_true, true_or, Int.reduceLT, Bool.false_eq_true, if_true, if_false, forall_const, false_implies, true_implies, implies_true, Int.reduceEq, cast_lit, not_true_eq_false, not_false_eq_true, Bool.not_true, Bool.not_false, Bool.not_eq_true', Bool.not_eq_false', Bool.and_true, Bool.true_and, Bool.and_false, Bool.false_and, Bool.or_false, Bool.false_or, Bool.or_true, Bool.true_or, reduceCtorEq, false_and, and_false, or_false, false_or, beq_self_eq_true,
    Option.some.injEq, Prod.mk.injEq, Rv.dat.injEq, Rv.ref.injEq, D.int.injEq, D.bl.injEq, D.str.injEq, D.tup.injEq, D.lst.injEq, D.dic.injEq, D.scr.injEq, List.cons.injEq, and_true, true_and, exists_and_left, exists_and_right, exists_eq_left, exists_eq_left', exists_eq_right, exists_eq_right', exists_eq, exists_eq', exists_const, decide_eq_true_eq, decide_eq_false_iff_not, Bool.and_eq_true, beq_iff_eq, beq_eq_false_iff_ne, ne_eq, decide_true, decide_false, hdR_len, stR_len, hdR_24, hdR_25, hdR_26, hdR_27, hdR_28, hdR_29, hdR_30, stR_16, stR_18, stR_19, stR_20, stR_21, stR_22, stR_23, hdP_25, hdP_26, hdP_27, hdP_28, hdP_29, hdP_30, stP_16, stP_19, stP_20, stP_21, stP_22, stP_23, hdD, List.length_set, set_two, denc_push, denc_swap, denc_pop, denc_top, denc_clear, eqv_optN, plN_optN, isNon_optN, optN_some, optN_none, seenD_some, seenD_none, items_pair, items_vals, phk, kdk, List.getElem?_set_self, List.getElem?_set_ne, List.getElem?_append_left, ltaddr, boxD, cDict, S_p_is_value, *])
local macro_rules | `(tactic| walk_at "dwf") => `(tactic| simp (config := { maxSteps := 1000000 }) only [and_assoc, natD, mapint_inj, mapnat_inj, denc_inj, wfor_eq, ixD, ixM, cut_one, List.tail_cons, List.tail_nil, eqvs_nil, List.isEmpty_cons, List.isEmpty_nil, plAll_int, plAll_nat, Ss.W, Sm.W, Ex.W, Ex.T, Es.W, wVar, BOp.B, COp.B, Bi.B, IxK.B, bI0, bIC, bEq, bIs, bIn, bIxL, bIxT, bIxS, bIxK, bCat, bCatT, bRep, cLen, cInt, cMin2, cList, cTup, wantB, wAndT, wOrT, wAndV, wOrV, wNotV, lenOf, lstOf_ref, lstOf_lst, seqOf, dicOf_ref, dicOf_dic, wPart, wIter, tstW, mAppend, mPop, mPopAt, mClear, wSetIx, wSetKey, Tg.put, wipeN, Cell.lst.injEq, Cell.dic.injEq, Cell.fz.injEq, List.length_map, tyR, tyD,
    eqv_ii, eqv_ss, eqv_bb, eqv_nn, eqv_ll, eqv_tt, eqn_non_int, eqn_non_str, eqn_non_lst, eqn_non_tup, eqn_non_bl, eqn_non_dic, eqn_int_non, eqn_int_str, eqn_int_lst, eqn_int_tup, eqn_int_dic, eqn_str_non, eqn_str_int, eqn_str_lst, eqn_str_tup, eqn_str_bl, eqn_str_dic, eqn_lst_non, eqn_lst_int, eqn_lst_str, eqn_lst_tup, eqn_lst_bl, eqn_lst_dic, eqn_tup_non, eqn_tup_int, eqn_tup_str, eqn_tup_lst, eqn_tup_bl, eqn_tup_dic, eqn_bl_non, eqn_bl_str, eqn_bl_lst, eqn_bl_tup, eqn_bl_dic, eqvs, atI_lit, cdiv_lit, cmul_r, cmul_l, cpow_lit, nrm_dat, nrm_ref, plN, plAll, rd_dat, rd_ref, rds_nil, rds_cons, rds_map, rdk_nil, rdk_cons,               isNon, tyNames, kbs,
    Option.map_some, Option.map_none, Option.isSome_some, List.getD_cons_zero, List.getD_cons_succ, List.getD_nil, get_app, get_app0, set_app, set_app0, List.length_append, List.append_assoc, List.any_cons, List.any_nil, List.zip_cons_cons, List.zip_nil_left, List.zip_nil_right,
    List.map_cons, List.map_nil, List.cons_append, List.nil_append, List.append_nil, List.length_cons, List.length_nil, List.replicate, List.set_cons_zero, List.set_cons_succ, List.getElem?_cons_zero, List.getElem?_cons_succ, List.set_nil, List.getElem?_nil,
    Nat.reduceAdd, Nat.reduceSub, Nat.reduceBEq, Nat.reduceLeDiff, Nat.reduceEqDiff, Nat.sub_self, Nat.zero_add, Nat.add_zero, Nat.zero_le, Nat.le_add_right, Nat.le_refl, Int.reduceToNat, Int.reduceLE, Nat.reduceLT, Nat.reducePow, Int.reducePow, Int.reduceNeg, or_true, true_or, Int.reduceLT, Bool.false_eq_true, if_true, if_false, forall_const, false_implies, true_implies, implies_true, Int.reduceEq, cast_lit, not_true_eq_false, not_false_eq_true, Bool.not_true, Bool.not_false, Bool.not_eq_true', Bool.not_eq_false', Bool.and_true, Bool.true_and, Bool.and_false, Bool.false_and, Bool.or_false, Bool.false_or, Bool.or_true, Bool.true_or, reduceCtorEq, false_and, and_false, or_false, false_or, beq_self_eq_true,
    Option.some.injEq, Prod.mk.injEq, Rv.dat.injEq, Rv.ref.injEq, D.int.injEq, D.bl.injEq, D.str.injEq, D.tup.injEq, D.lst.injEq, D.dic.injEq, D.scr.injEq, List.cons.injEq, and_true, true_and, exists_and_left, exists_and_right, exists_eq_left, exists_eq_left', exists_eq_right, exists_eq_right', exists_eq, exists_eq', exists_const, decide_eq_true_eq, decide_eq_false_iff_not, Bool.and_eq_true, beq_iff_eq, beq_eq_false_iff_ne, ne_eq, decide_true, decide_false, hdR_len, stR_len, hdR_24, hdR_25, hdR_26, hdR_27, hdR_28, hdR_29, hdR_30, stR_16, stR_18, stR_19, stR_20, stR_21, stR_22, stR_23, hdP_25, hdP_26, hdP_27, hdP_28, hdP_29, hdP_30, stP_16, stP_19, stP_20, stP_21, stP_22, stP_23, hdD, List.length_set, set_two, denc_push, denc_swap, denc_pop, denc_top, denc_clear, eqv_optN, plN_optN, isNon_optN, optN_some, optN_none, seenD_some, seenD_none, items_pair, items_vals, phk, kdk, List.getElem?_set_self, List.getElem?_set_ne, List.getElem?_append_left, ltaddr, boxD, cDict, S_p_is_value, *])
abbrev fn_p_is_deed : List Str := ["is_value"]
def m_p_is_deed : DW.Ss := (.cons (.ite (.or (.not (.isin (.var 0) 3)) (.one (.not (.chain .le .le (.int 1) (.bi .len (.cons (.var 0) .nil)) (.int 2))))) (.cons (.ret (.bl false))
  .nil) .nil)
  (.cons (.ite (.cmp .eq (.bi .len (.cons (.var 0) .nil)) (.int 2)) (.cons (.ret (.and (.cmp .inF (.ix .t (.var 0) (.int 0)) (.lst (.cons (.str 0) (.cons (.str 1) .nil)))) (.one (.call 0 (.cons (.frz (.ix .t (.var 0) (.int 1))) .nil)))))
  .nil) .nil)
  (.cons (.ret (.cmp .inF (.ix .t (.var 0) (.int 0)) (.lst (.cons (.str 2) (.cons (.str 3) (.cons (.str 4) .nil))))))
  .nil)))
abbrev Ss_p_is_deed : List SpD := [S_p_is_value]
def isDeedB : D → Bool
  | .tup [.str k] => k == 2 || (k == 3 || k == 4)
  | .tup [.str k, d] => (k == 0 || k == 1) && isVal d
  | _ => false
theorem isDeedB1 (x : D) : isDeedB (.tup [x]) = (eqv (.str 2) x || (eqv (.str 3) x || eqv (.str 4) x)) := by
  cases x <;> simp [isDeedB, eqv, Bool.beq_comm (a := (_ : Nat))]
theorem isDeedB2 (x y : D) : isDeedB (.tup [x, y]) = ((eqv (.str 0) x || eqv (.str 1) x) && isVal y) := by
  cases x <;> simp [isDeedB, eqv, Bool.beq_comm (a := (_ : Nat))]
def S_p_is_deed : SpD := fun rs g Q => match rs with
  | [.dat d] => plN 60 d = true ∧ Q (.dat (.bl (isDeedB d))) g
  | _ => False
theorem mo_p_is_deed : Mono S_p_is_deed := by
  intro rs g P P2 h
  unfold S_p_is_deed
  split
  · intro q; first | exact h _ _ q | exact ⟨q.1, h _ _ q.2⟩ | exact ⟨q.1, q.2.1, h _ _ q.2.2⟩ | exact q.imp fun _ z => ⟨z.1, h _ _ z.2⟩
  · exact id
theorem len_p_is_deed : ∀ rs g Q, S_p_is_deed rs g Q → rs.length = 1 := by
  intro rs g Q q
  unfold S_p_is_deed at q
  split at q
  · rfl
  · exact q.elim
theorem hS_p_is_deed : ∀ rs g Q, S_p_is_deed rs g Q → m_p_is_deed.W (wd Ss_p_is_deed glF dtF) (rs.map some ++ List.replicate (1 - rs.length) none) g (fun _ g2 => Fin g Q (.dat .non) g2) (Fin g Q) := by
  intro rs g Q q
  unfold S_p_is_deed at q
  split at q
  · rename_i d
    unfold m_p_is_deed
    obtain ⟨hp, q⟩ := q
    cases d <;> first | (exfalso; simp [plN] at hp; done) | walk_at "dw"
    case tup ds =>
      match ds with
      | [] => walk_at "dw"; exact fin_dat [] (by simp) q
      | [x] =>
        walk_at "dw"; rw [isDeedB1] at q
        have hx : plN 60 x = true := plN_mono (n := 59) (by simpa only [plN, plAll, Bool.and_true] using hp) (by decide)
        exact ⟨hx, fin_dat _ rfl q⟩
      | [x, y] =>
        walk_at "dw"; rw [isDeedB2] at q
        simp only [plN, plAll, Bool.and_true, Bool.and_eq_true] at hp
        have hx : plN 60 x = true := plN_mono (n := 59) hp.1 (by decide)
        have hy : plN 60 y = true := plN_mono (n := 59) hp.2 (by decide)
        exact ⟨hx, fun h => ⟨hy, fin_dat _ rfl (by rw [h, Bool.true_and] at q; exact q)⟩, fun h => fin_dat _ rfl (by rw [h, Bool.false_and] at q; exact q)⟩
      | x :: y :: z :: t =>
        walk_at "dw"
        have e1 : (1 : Int) ≤ ((t.length + 1 + 1 + 1 : Nat) : Int) := by omega
        have e2 : ¬ ((t.length + 1 + 1 + 1 : Nat) : Int) ≤ 2 := by omega
        have e3 : isDeedB (.tup (x :: y :: z :: t)) = false := by cases x <;> rfl
        rw [e3] at q
        exact ⟨fun _ => ⟨fun _ => fin_dat [] (by simp) q, fun h => absurd h e2⟩, fun h => absurd e1 h⟩
    all_goals exact fin_dat [] (by simp) q
  · exact q.elim

end DW

/-! ## MD.lean -/
set_option Elab.async false
set_option linter.all false
set_option maxRecDepth 100000
set_option maxHeartbeats 4000000
set_option autoImplicit false
/-! MD: a state's own copy. -/
namespace DW
open PySem PySem.Spec L2
open PyProof.Rows hiding St
theorem dicOf_st {g : Rg} {s : St} : dicOf g (.dat s.enc) = some (stL s (.dat (.lst (s.boxes.map boxD))) (.dat (.lst (s.spare.map natD))) (.dat (.lst (s.hands.map Hand.enc))) (.dat (.lst (s.rows.map MRow.enc)))) := rfl
theorem dicOf_hd {g : Rg} {h : Hand} : dicOf g (.dat h.enc) = some (handL h (.dat (.lst h.got.items))) := rfl
/-- hands' own cells, from b on -/
def hcells (b : Nat) : List Hand → Rg
  | [] => []
  | h :: t => .dic (handL h (.ref (b + 1))) :: .lst (h.got.items.map Rv.dat) :: hcells (b + 2) t
theorem hcells_len : ∀ {l : List Hand} {b : Nat}, (hcells b l).length = 2 * l.length
  | [], _ => rfl
  | h :: t, b => by simp only [hcells, List.length_cons, hcells_len (l := t)]; omega
theorem hcells_app : ∀ {l : List Hand} {b : Nat} {h : Hand}, hcells b (l ++ [h]) = hcells b l ++ [.dic (handL h (.ref (b + 2 * l.length + 1))), .lst (h.got.items.map Rv.dat)]
  | [], b, h => rfl
  | x :: t, b, h => by
    simp only [hcells, List.cons_append, hcells_app (l := t), List.length_cons]
    have e : b + 2 + 2 * t.length + 1 = b + 2 * (t.length + 1) + 1 := by omega
    rw [e]
theorem hcells_at : ∀ {l : List Hand} {b i : Nat} {h : Hand}, l[i]? = some h → (hcells b l)[2 * i]? = some (.dic (handL h (.ref (b + 2 * i + 1)))) ∧ (hcells b l)[2 * i + 1]? = some (.lst (h.got.items.map Rv.dat))
  | [], _, _, _, e => by simp at e
  | x :: t, b, 0, h, e => by simp at e; subst e; exact ⟨rfl, rfl⟩
  | x :: t, b, i + 1, h, e => by
    have := hcells_at (l := t) (b := b + 2) (i := i) (by simpa using e)
    have e1 : 2 * (i + 1) = 2 * i + 1 + 1 := by omega
    have e2 : b + 2 * (i + 1) + 1 = b + 2 + 2 * i + 1 := by omega
    rw [e2, e1]
    exact this
def hrefs (b k : Nat) : List Rv := (List.range k).map fun i => .ref (b + 2 * i)
theorem hrefs_succ {b k : Nat} : hrefs b (k + 1) = hrefs b k ++ [.ref (b + 2 * k)] := by unfold hrefs; rw [List.range_succ, List.map_append]; rfl
theorem hrefs_at {b k i : Nat} (h : i < k) : (hrefs b k)[i]? = some (.ref (b + 2 * i)) := by unfold hrefs; rw [List.getElem?_map, List.getElem?_range h]; rfl
theorem hrefs_len {b k : Nat} : (hrefs b k).length = k := by unfold hrefs; simp
/-- the cells of a copy, from b on -/
def copyC (b : Nat) (s : St) : Rg := .lst (hrefs (b + 1) s.hands.length) :: (hcells (b + 1) s.hands ++ [.dic (stL s (.ref (b + 1 + 2 * s.hands.length + 1)) (.ref (b + 1 + 2 * s.hands.length + 2)) (.ref b) (.ref (b + 1 + 2 * s.hands.length + 3))), .lst ((s.boxes.map boxD).map Rv.dat), .lst ((s.spare.map natD).map Rv.dat), .lst ((s.rows.map MRow.enc).map Rv.dat)])
theorem copyC_len {b : Nat} {s : St} : (copyC b s).length = 2 * s.hands.length + 5 := by unfold copyC; simp [hcells_len]
/-- where they are -/
def copyV (b n : Nat) (s : St) : Vw := ⟨b + 1 + 2 * s.hands.length, b + 1 + 2 * s.hands.length + 1, b + 1 + 2 * s.hands.length + 2, b, b + 1 + 2 * n, b + 1 + 2 * s.hands.length + 3, b + 1 + 2 * n + 1, n, hrefs (b + 1) s.hands.length⟩
section
variable {g : Rg} {s : St}
theorem copy_hand {i : Nat} {h : Hand} (e : s.hands[i]? = some h) : (g ++ copyC g.length s)[g.length + 1 + 2 * i]? = some (.dic (handL h (.ref (g.length + 1 + 2 * i + 1)))) ∧ (g ++ copyC g.length s)[g.length + 1 + 2 * i + 1]? = some (.lst (h.got.items.map Rv.dat)) := by
  have hi : i < s.hands.length := (List.getElem?_eq_some_iff.mp e).1
  obtain ⟨h1, h2⟩ := hcells_at (b := g.length + 1) e
  have e1 : ∀ k, g.length + 1 + 2 * i + k - g.length = (2 * i + k) + 1 := by intro k; omega
  constructor
  · rw [List.getElem?_append_right (by omega)]
    have := e1 0
    rw [Nat.add_zero, Nat.add_zero] at this
    rw [this]
    unfold copyC
    rw [List.getElem?_cons_succ, List.getElem?_append_left (by rw [hcells_len]; omega)]
    exact h1
  · rw [List.getElem?_append_right (by omega), e1 1]
    unfold copyC
    rw [List.getElem?_cons_succ, List.getElem?_append_left (by rw [hcells_len]; omega)]
    exact h2
theorem copy_end {k : Nat} : (g ++ copyC g.length s)[g.length + 1 + 2 * s.hands.length + k]? = ([.dic (stL s (.ref (g.length + 1 + 2 * s.hands.length + 1)) (.ref (g.length + 1 + 2 * s.hands.length + 2)) (.ref g.length) (.ref (g.length + 1 + 2 * s.hands.length + 3))), .lst ((s.boxes.map boxD).map Rv.dat), .lst ((s.spare.map natD).map Rv.dat), .lst ((s.rows.map MRow.enc).map Rv.dat)] : Rg)[k]? := by
  rw [List.getElem?_append_right (by omega)]
  have e1 : g.length + 1 + 2 * s.hands.length + k - g.length = (2 * s.hands.length + k) + 1 := by omega
  rw [e1]
  unfold copyC
  rw [List.getElem?_cons_succ, List.getElem?_append_right (by rw [hcells_len]; omega), hcells_len]
  congr 1; omega
theorem copy_mem {n : Nat} (hn : n < s.hands.length) : Mem (g ++ copyC g.length s) (copyV g.length n s) s (s.hand n) := by
  obtain ⟨h1, h2⟩ := copy_hand (g := g) (hand_at hn)
  refine ⟨copy_end (k := 0), copy_end (k := 1), copy_end (k := 2), ?_, hrefs_at hn, copy_end (k := 3), h1, h2, ?_⟩
  · show (g ++ copyC g.length s)[g.length]? = _
    rw [List.getElem?_append_right (Nat.le_refl _), Nat.sub_self]; rfl
  · simp only [copyV, List.nodup_cons, List.mem_cons, List.not_mem_nil, or_false, not_or, List.nodup_nil, and_true, not_false_eq_true]
    refine ⟨⟨?_, ?_, ?_, ?_, ?_, ?_⟩, ⟨?_, ?_, ?_, ?_, ?_⟩, ⟨?_, ?_, ?_, ?_⟩, ⟨?_, ?_, ?_⟩, ⟨?_, ?_⟩, ?_⟩ <;> omega
theorem rd_dats {m : Nat} {l : List D} : RDs g m (l.map .dat) l := rds_map.mpr rfl
theorem rd_hand {m c d : Nat} {h : Hand} (hc : m ≤ c) (hd : m ≤ d) (e : g[c]? = some (.dic (handL h (.ref d)))) (e2 : g[d]? = some (.lst (h.got.items.map Rv.dat))) : RD g m (.ref c) h.enc :=
  .dic hc e (.cons (.dat _) (.cons (.dat _) (.cons (.dat _) (.cons (.dat _) (.cons (.dat _) (.cons (.lst hd e2 rd_dats) (.cons (.dat _) .nil)))))))
theorem rds_hands {m : Nat} : ∀ {rs : List Rv} {hs : List Hand}, rs.length = hs.length → (∀ (i : Nat) (r : Rv) (h : Hand), rs[i]? = some r → hs[i]? = some h → RD g m r h.enc) → RDs g m rs (hs.map Hand.enc)
  | [], [], _, _ => .nil
  | r :: rs, h :: hs, e, f => .cons (f 0 r h rfl rfl) (rds_hands (by simpa using e) fun i r h a b => f (i + 1) r h (by simpa using a) (by simpa using b))
/-- behind a step of hand n the whole reads as the next state -/
theorem copy_rd {n : Nat} {g' : Rg} {v' : Vw} {s' : St} {h' : Hand} {s2 : St} (hn : n < s.hands.length) (m : Mem g' v' s' h') (k : Go (g ++ copyC g.length s) (copyV g.length n s) g' v') (e : s2 = { s' with hands := s.hands.set n h' }) : RD g' g.length (.ref v'.cs) s2.enc := by
  subst e
  have hL : (g ++ copyC g.length s).length = g.length + 2 * s.hands.length + 5 := by rw [List.length_append, copyC_len]; omega
  have sm := k.same
  have hcr : g.length ≤ v'.cr := by
    rcases k.cr with h | h
    · rw [h]; show g.length ≤ g.length + 1 + 2 * s.hands.length + 3; omega
    · rw [hL] at h; omega
  have hcg : g.length ≤ v'.cg := by
    rcases k.cg with h | h
    · rw [h]; show g.length ≤ g.length + 1 + 2 * n + 1; omega
    · rw [hL] at h; omega
  have c1 : v'.cs = g.length + 1 + 2 * s.hands.length := sm.1
  have c2 : v'.cb = g.length + 1 + 2 * s.hands.length + 1 := sm.2.2.2.2.1
  have c3 : v'.cp = g.length + 1 + 2 * s.hands.length + 2 := sm.2.2.2.1
  have c4 : v'.cl = g.length := sm.2.2.2.2.2.1
  have c5 : v'.ch = g.length + 1 + 2 * n := sm.2.2.1
  have c6 : v'.hl = hrefs (g.length + 1) s.hands.length := sm.2.2.2.2.2.2
  refine .dic (by rw [c1]; omega) m.st (.cons (.dat _) (.cons (.dat _) (.cons (.lst (by rw [c2]; omega) m.bx rd_dats) (.cons (.lst (by rw [c3]; omega) m.sp rd_dats) (.cons ?_ (.cons (.lst hcr m.rw rd_dats) (.cons (.dat _) .nil)))))))
  refine .lst (by rw [c4]; exact Nat.le_refl _) m.hs ?_
  rw [c6]
  refine rds_hands (by rw [hrefs_len, List.length_set]) fun i r h a b => ?_
  have hi : i < s.hands.length := by have := (List.getElem?_eq_some_iff.mp a).1; rw [hrefs_len] at this; exact this
  rw [hrefs_at hi] at a
  cases a
  by_cases hin : n = i
  · subst hin
    rw [List.getElem?_set_self hi] at b
    cases b
    exact rd_hand (by omega) hcg (by rw [← c5]; exact m.hd) m.gt
  · rw [List.getElem?_set_ne hin] at b
    obtain ⟨h1, h2⟩ := copy_hand (g := g) b
    have no : ∀ c, c = g.length + 1 + 2 * i ∨ c = g.length + 1 + 2 * i + 1 → g'[c]? = (g ++ copyC g.length s)[c]? := fun c hc => by
      refine k.fr c (by rw [hL]; omega) ?_
      simp only [copyV, List.mem_cons, List.not_mem_nil, or_false, not_or]
      refine ⟨?_, ?_, ?_, ?_, ?_, ?_⟩ <;> omega
    exact rd_hand (by omega) (by omega) ((no _ (.inl rfl)).trans h1) ((no _ (.inr rfl)).trans h2)
end

theorem fin_app {g l : Rg} {Q : RQ} {r : Rv} (hl : ∀ cell ∈ l, Cell.lt (g.length + l.length) cell) (hr : r.lt (g.length + l.length)) (q : Q r (g ++ l)) : Fin g Q r (g ++ l) := by
  refine .sub (g.length + l.length) (Nat.le_add_right _ _) (by rw [List.length_append]; exact Nat.le_refl _) (fun c cell hc e => ?_) hr (by rw [List.take_of_length_le (by rw [List.length_append]; exact Nat.le_refl _)]; exact q)
  by_cases h : c < g.length
  · rw [List.getElem?_append_left h] at e; exact .inl e
  · rw [List.getElem?_append_right (by omega)] at e; exact .inr (hl _ (List.mem_of_getElem? e))
theorem hcells_lt : ∀ {l : List Hand} {b : Nat}, ∀ cell ∈ hcells b l, Cell.lt (b + 2 * l.length) cell
  | [], _, _, h => by cases h
  | x :: t, b, cell, h => by
    simp only [hcells, List.mem_cons] at h
    rcases h with rfl | rfl | h
    · exact lt_hand (by simp only [List.length_cons]; omega)
    · exact lt_dats
    · exact Cell.lt_mono (hcells_lt (l := t) cell h) (by simp only [List.length_cons]; omega)
theorem copyC_lt {b : Nat} {s : St} : ∀ cell ∈ copyC b s, Cell.lt (b + (copyC b s).length) cell := by
  intro cell h
  rw [copyC_len]
  simp only [copyC, List.mem_cons, List.mem_append, List.not_mem_nil, or_false] at h
  rcases h with rfl | h | rfl | rfl | rfl | rfl
  · intro r hr
    unfold hrefs at hr
    obtain ⟨i, hi, rfl⟩ := List.mem_map.mp hr
    have := List.mem_range.mp hi
    show b + 1 + 2 * i < _
    omega
  · exact Cell.lt_mono (hcells_lt cell h) (by omega)
  · exact lt_st (by omega) (by omega) (by omega) (by omega)
  · exact lt_dats
  · exact lt_dats
  · exact lt_dats
theorem fin_copy {g : Rg} {s : St} {Q : RQ} (q : Q (.ref (g.length + 1 + 2 * s.hands.length)) (g ++ copyC g.length s)) : Fin g Q (.ref (g.length + 1 + 2 * s.hands.length)) (g ++ copyC g.length s) :=
  fin_app copyC_lt (by show _ < _; rw [copyC_len]; omega) q

theorem copy_take {g : Rg} {s : St} {n : Nat} {g' : Rg} {v' : Vw} (k : Go (g ++ copyC g.length s) (copyV g.length n s) g' v') : g'.take g.length = g := by
  have hl := k.len
  rw [List.length_append] at hl
  refine List.ext_getElem? fun c => ?_
  by_cases hc : c < g.length
  · rw [List.getElem?_take_of_lt hc, k.fr c (by rw [List.length_append]; omega) ?_, List.getElem?_append_left hc]
    simp only [copyV, List.mem_cons, List.not_mem_nil, or_false, not_or]
    refine ⟨?_, ?_, ?_, ?_, ?_, ?_⟩ <;> omega
  · rw [List.getElem?_eq_none (by rw [List.length_take]; omega), List.getElem?_eq_none (by omega)]
theorem frzs_none {g : Rg} {c b : Nat} {s : St} {x y z : Rv} {l rs : List Rv} (h1 : g[c]? = some (.dic (stL s (.ref b) x y z))) (h2 : g[b]? = some (.lst l)) : frzs g (.ref c :: rs) = none := by
  have e : datsK g (stL s (.ref b) x y z) = none := by
    unfold stL stR
    simp only [datsK, nrm, h2]
    rfl
  have e2 : frz1 g (.ref c) = none := by simp only [frz1, h1, e]; rfl
  simp only [frzs, e2]

/-- a program's deeds -/
def progD (p : List Deed) : D := .lst (p.map Deed.enc)

/-- references one behind the other -/
def nrefs (b n : Nat) : List Rv := (List.range n).map fun i => .ref (b + (i + 1))
theorem nrefs_at {b n i : Nat} (h : i < n) : (nrefs b n)[i]? = some (.ref (b + (i + 1))) := by unfold nrefs; rw [List.getElem?_map, List.getElem?_range h]; rfl
theorem nrefs_len {b n : Nat} : (nrefs b n).length = n := by unfold nrefs; simp
theorem nrefs_succ {b n : Nat} : nrefs b (n + 1) = nrefs b n ++ [.ref (b + (n + 1))] := by unfold nrefs; rw [List.range_succ, List.map_append]; rfl
/-- a comprehension that makes a new object a turn -/
theorem comp_new {T : Tg} {vs : List Nat} {env : En} {W : Rg → (Bool → Rg → Prop) → Prop} {We : En → Rg → RQ → Prop} {its : List Rv} {keep : Rg → Prop} {g1 : Rg} {Q : RQ} (f : Nat → Cell) (hl : its.length ≤ 1000000) (hk : ∀ j, keep (g1 ++ j))
    (hs : ∀ k r l P, its[k]? = some r → P (.ref (g1 ++ l).length) ((g1 ++ l) ++ [f k]) → ∃ env', T.put (wipeN env vs) (nrm (g1 ++ l) r) = some env' ∧ We env' (g1 ++ l) P)
    (hQ : Q (.ref g1.length) (g1 ++ (.lst (nrefs g1.length its.length) :: (List.range its.length).map f))) :
    WComp T vs env (fun _ => tstW false W) We its keep g1 Q := by
  refine ⟨fun k acc g => g = g1 ++ (.lst acc :: (List.range k).map f) ∧ acc = nrefs g1.length k ∧ k ≤ its.length, ⟨rfl, rfl, Nat.zero_le _⟩, ?_, ?_, ?_⟩
  · rintro k acc g ⟨rfl, ha, hle⟩
    exact ⟨hk _, by rw [List.getElem?_append_right (Nat.le_refl _)]; simp⟩
  · rintro k r acc g hr ⟨rfl, ha, hle⟩
    have hlt := (List.getElem?_eq_some_iff.mp hr).1
    have hal : acc.length = k := by rw [ha, nrefs_len]
    obtain ⟨P, hPd⟩ : ∃ P : RQ, P = fun (y : Rv) (g3 : Rg) => g3[g1.length]? = some (.lst acc) ∧ acc.length < 1000000 ∧ g3.set g1.length (.lst (acc ++ [y])) = g1 ++ (.lst (acc ++ [y]) :: (List.range (k + 1)).map f) ∧ acc ++ [y] = nrefs g1.length (k + 1) ∧ k + 1 ≤ its.length := ⟨_, rfl⟩
    have hP : P (.ref (g1 ++ (.lst acc :: (List.range k).map f)).length) ((g1 ++ (.lst acc :: (List.range k).map f)) ++ [f k]) := by
      rw [hPd]
      refine ⟨by rw [List.append_assoc, List.getElem?_append_right (Nat.le_refl _)]; simp, by omega, ?_, ?_, hlt⟩
      · rw [List.append_assoc, List.set_append_right _ _ (Nat.le_refl _), List.range_succ, List.map_append]; simp
      · rw [nrefs_succ, ← ha]; simp
    obtain ⟨env', h1, h2⟩ := hs k r (.lst acc :: (List.range k).map f) P hr hP
    subst hPd
    exact ⟨env', h1, fun _ => h2, fun z => by cases z⟩
  · rintro acc g ⟨rfl, ha, hle⟩
    rw [ha]; exact hQ

/-- a new list handed back -/
theorem fin_one {g j : Rg} {Q : RQ} {l : List D} (q : Q (.ref g.length) (g ++ [.lst (l.map .dat)])) : Fin g Q (.ref g.length) (g ++ (.lst (l.map .dat) :: j)) := by
  refine .sub (g.length + 1) (Nat.le_succ _) (by rw [List.length_append, List.length_cons]; omega) (fun c cell hc e => ?_) (Nat.lt_succ_self _) ?_
  · by_cases h : c < g.length
    · rw [List.getElem?_append_left h] at e; exact .inl e
    · have : c = g.length := by omega
      subst this
      rw [get_app0] at e
      cases e
      exact .inr lt_dats
  · have : (g ++ (Cell.lst (l.map Rv.dat) :: j)).take (g.length + 1) = g ++ [.lst (l.map .dat)] := by
      rw [show g ++ (Cell.lst (l.map Rv.dat) :: j) = (g ++ [Cell.lst (l.map Rv.dat)]) ++ j by simp, List.take_append_of_le_length (by simp), List.take_of_length_le (by simp)]
    rw [this]; exact q
end DW

/-! ## F_p_hand_of.lean -/
set_option Elab.async false
set_option linter.all false
set_option maxRecDepth 100000
set_option maxHeartbeats 4000000
set_option autoImplicit false
namespace DW
open PySem PySem.Spec L2
open PyProof.Rows hiding St

local macro_rules | `(tactic| walk_at "dw") => `(tactic| simp (config := { maxSteps := 1000000 }) only [and_assoc, natD, mapint_inj, mapnat_inj, denc_inj, wfor_eq, ixD, ixM, cut_one, List.tail_cons, List.tail_nil, eqvs_nil, List.isEmpty_cons, List.isEmpty_nil, plAll_int, plAll_nat, Ss.W, Sm.W, Ex.W, Ex.T, Es.W, wVar, BOp.B, COp.B, Bi.B, IxK.B, bI0, bIC, bEq, bIs, bIn, bIxL, bIxT, bIxS, bIxK, bCat, bCatT, bRep, cLen, cInt, cMin2, cList, cTup, wantB, wAndT, wOrT, wAndV, wOrV, wNotV, lenOf, lstOf_ref, lstOf_lst, seqOf, dicOf_ref, dicOf_dic, wPart, wIter, tstW, mAppend, mPop, mPopAt, mClear, wSetIx, wSetKey, Tg.put, wipeN, Cell.lst.injEq, Cell.dic.injEq, Cell.fz.injEq, List.length_map, tyR, tyD,
    eqv_ii, eqv_ss, eqv_bb, eqv_nn, eqv_ll, eqv_tt, eqn_non_int, eqn_non_str, eqn_non_lst, eqn_non_tup, eqn_non_bl, eqn_non_dic, eqn_int_non, eqn_int_str, eqn_int_lst, eqn_int_tup, eqn_int_dic, eqn_str_non, eqn_str_int, eqn_str_lst, eqn_str_tup, eqn_str_bl, eqn_str_dic, eqn_lst_non, eqn_lst_int, eqn_lst_str, eqn_lst_tup, eqn_lst_bl, eqn_lst_dic, eqn_tup_non, eqn_tup_int, eqn_tup_str, eqn_tup_lst, eqn_tup_bl, eqn_tup_dic, eqn_bl_non, eqn_bl_str, eqn_bl_lst, eqn_bl_tup, eqn_bl_dic, eqvs, atI_lit, cdiv_lit, cmul_r, cmul_l, cpow_lit, nrm_dat, nrm_ref, plN, plAll, rd_dat, rd_ref, rds_nil, rds_cons, rds_map, rdk_nil, rdk_cons, wFrz, frz1, wFrzL, frzs, datsN, datsN_map, datsK, isNon, tyNames, kbs,
    Option.map_some, Option.map_none, Option.isSome_some, List.getD_cons_zero, List.getD_cons_succ, List.getD_nil, get_app, get_app0, set_app, set_app0, List.length_append, List.append_assoc, List.any_cons, List.any_nil, List.zip_cons_cons, List.zip_nil_left, List.zip_nil_right,
    List.map_cons, List.map_nil, List.cons_append, List.nil_append, List.append_nil, List.length_cons, List.length_nil, List.replicate, List.set_cons_zero, List.set_cons_succ, List.getElem?_cons_zero, List.getElem?_cons_succ, List.set_nil, List.getElem?_nil,
    Nat.reduceAdd, Nat.reduceSub, Nat.reduceBEq, Nat.reduceLeDiff, Nat.reduceEqDiff, Nat.sub_self, Nat.zero_add, Nat.add_zero, Nat.zero_le, Nat.le_add_right, Nat.le_refl, Int.reduceToNat, Int.reduceLE, Nat.reduceLT, Nat.reducePow, Int.reducePow, Int.reduceNeg, or_true, true_or, Int.reduceLT, Bool.false_eq_true, if_true, if_false, forall_const, false_implies, true_implies, implies_true, Int.reduceEq, cast_lit, not_true_eq_false, not_false_eq_true, Bool.not_true, Bool.not_false, Bool.not_eq_true', Bool.not_eq_false', Bool.and_true, Bool.true_and, Bool.and_false, Bool.false_and, Bool.or_false, Bool.false_or, Bool.or_true, Bool.true_or, reduceCtorEq, false_and, and_false, or_false, false_or, beq_self_eq_true,
    Option.some.injEq, Prod.mk.injEq, Rv.dat.injEq, Rv.ref.injEq, D.int.injEq, D.bl.injEq, D.str.injEq, D.tup.injEq, D.lst.injEq, D.dic.injEq, D.scr.injEq, List.cons.injEq, and_true, true_and, exists_and_left, exists_and_right, exists_eq_left, exists_eq_left', exists_eq_right, exists_eq_right', exists_eq, exists_eq', exists_const, decide_eq_true_eq, decide_eq_false_iff_not, Bool.and_eq_true, beq_iff_eq, beq_eq_false_iff_ne, ne_eq, decide_true, decide_false, hdR_len, stR_len, hdR_24, hdR_25, hdR_26, hdR_27, hdR_28, hdR_29, hdR_30, stR_16, stR_18, stR_19, stR_20, stR_21, stR_22, stR_23, hdP_25, hdP_26, hdP_27, hdP_28, hdP_29, hdP_30, stP_16, stP_19, stP_20, stP_21, stP_22, stP_23, hdD, List.length_set, set_two, denc_push, denc_swap, denc_pop, denc_top, denc_clear, eqv_optN, plN_optN, isNon_optN, optN_some, optN_none, seenD_some, seenD_none, items_pair, items_vals, phk, kdk, List.getElem?_set_self, List.getElem?_set_ne, List.getElem?_append_left, ltaddr, boxD, cDict])
local macro_rules | `(tactic| walk_at "dwh") => `(tactic| simp (config := { maxSteps := 1000000 }) only [and_assoc, natD, mapint_inj, mapnat_inj, denc_inj, wfor_eq, ixD, ixM, cut_one, List.tail_cons, List.tail_nil, eqvs_nil, List.isEmpty_cons, List.isEmpty_nil, plAll_int, plAll_nat, Ss.W, Sm.W, Ex.W, Ex.T, Es.W, wVar, BOp.B, COp.B, Bi.B, IxK.B, bI0, bIC, bEq, bIs, bIn, bIxL, bIxT, bIxS, bIxK, bCat, bCatT, bRep, cLen, cInt, cMin2, cList, cTup, wantB, wAndT, wOrT, wAndV, wOrV, wNotV, lenOf, lstOf_ref, lstOf_lst, seqOf, dicOf_ref, dicOf_dic, wPart, wIter, tstW, mAppend, mPop, mPopAt, mClear, wSetIx, wSetKey, Tg.put, wipeN, Cell.lst.injEq, Cell.dic.injEq, Cell.fz.injEq, List.length_map, tyR, tyD,
    eqv_ii, eqv_ss, eqv_bb, eqv_nn, eqv_ll, eqv_tt, eqn_non_int, eqn_non_str, eqn_non_lst, eqn_non_tup, eqn_non_bl, eqn_non_dic, eqn_int_non, eqn_int_str, eqn_int_lst, eqn_int_tup, eqn_int_dic, eqn_str_non, eqn_str_int, eqn_str_lst, eqn_str_tup, eqn_str_bl, eqn_str_dic, eqn_lst_non, eqn_lst_int, eqn_lst_str, eqn_lst_tup, eqn_lst_bl, eqn_lst_dic, eqn_tup_non, eqn_tup_int, eqn_tup_str, eqn_tup_lst, eqn_tup_bl, eqn_tup_dic, eqn_bl_non, eqn_bl_str, eqn_bl_lst, eqn_bl_tup, eqn_bl_dic, eqvs, atI_lit, cdiv_lit, cmul_r, cmul_l, cpow_lit, nrm_dat, nrm_ref, plN, plAll, rd_dat, rd_ref, rds_nil, rds_cons, rds_map, rdk_nil, rdk_cons, wFrz, frz1, wFrzL, frzs, datsN, datsN_map, datsK, isNon, tyNames, kbs,
    Option.map_some, Option.map_none, Option.isSome_some, List.getD_cons_zero, List.getD_cons_succ, List.getD_nil, get_app, get_app0, set_app, set_app0, List.length_append, List.append_assoc, List.any_cons, List.any_nil, List.zip_cons_cons, List.zip_nil_left, List.zip_nil_right,
    List.map_cons, List.map_nil, List.cons_append, List.nil_append, List.append_nil, List.length_cons, List.length_nil, List.replicate, List.set_cons_zero, List.set_cons_succ, List.getElem?_cons_zero, List.getElem?_cons_succ, List.set_nil, List.getElem?_nil,
    Nat.reduceAdd, Nat.reduceSub, Nat.reduceBEq, Nat.reduceLeDiff, Nat.reduceEqDiff, Nat.sub_self, Nat.zero_add, Nat.add_zero, Nat.zero_le, Nat.le_add_right, Nat.le_refl, Int.reduceToNat, Int.reduceLE, Nat.reduceLT, Nat.reducePow, Int.reducePow, Int.reduceNeg, or_true, true_or, Int.reduceLT, Bool.false_eq_true, if_true, if_false, forall_const, false_implies, true_implies, implies_true, Int.reduceEq, cast_lit, not_true_eq_false, not_false_eq_true, Bool.not_true, Bool.not_false, Bool.not_eq_true', Bool.not_eq_false', Bool.and_true, Bool.true_and, Bool.and_false, Bool.false_and, Bool.or_false, Bool.false_or, Bool.or_true, Bool.true_or, reduceCtorEq, false_and, and_false, or_false, false_or, beq_self_eq_true,
    Option.some.injEq, Prod.mk.injEq, Rv.dat.injEq, Rv.ref.injEq, D.int.injEq, D.bl.injEq, D.str.injEq, D.tup.injEq, D.lst.injEq, D.dic.injEq, D.scr.injEq, List.cons.injEq, and_true, true_and, exists_and_left, exists_and_right, exists_eq_left, exists_eq_left', exists_eq_right, exists_eq_right', exists_eq, exists_eq', exists_const, decide_eq_true_eq, decide_eq_false_iff_not, Bool.and_eq_true, beq_iff_eq, beq_eq_false_iff_ne, ne_eq, decide_true, decide_false, hdR_len, stR_len, hdR_24, hdR_25, hdR_26, hdR_27, hdR_28, hdR_29, hdR_30, stR_16, stR_18, stR_19, stR_20, stR_21, stR_22, stR_23, hdP_25, hdP_26, hdP_27, hdP_28, hdP_29, hdP_30, stP_16, stP_19, stP_20, stP_21, stP_22, stP_23, hdD, List.length_set, set_two, denc_push, denc_swap, denc_pop, denc_top, denc_clear, eqv_optN, plN_optN, isNon_optN, optN_some, optN_none, seenD_some, seenD_none, items_pair, items_vals, phk, kdk, List.getElem?_set_self, List.getElem?_set_ne, List.getElem?_append_left, ltaddr, boxD, cDict, *])
local macro_rules | `(tactic| walk_at "dwf") => `(tactic| simp (config := { maxSteps := 1000000 }) only [and_assoc, natD, mapint_inj, mapnat_inj, denc_inj, wfor_eq, ixD, ixM, cut_one, List.tail_cons, List.tail_nil, eqvs_nil, List.isEmpty_cons, List.isEmpty_nil, plAll_int, plAll_nat, Ss.W, Sm.W, Ex.W, Ex.T, Es.W, wVar, BOp.B, COp.B, Bi.B, IxK.B, bI0, bIC, bEq, bIs, bIn, bIxL, bIxT, bIxS, bIxK, bCat, bCatT, bRep, cLen, cInt, cMin2, cList, cTup, wantB, wAndT, wOrT, wAndV, wOrV, wNotV, lenOf, lstOf_ref, lstOf_lst, seqOf, dicOf_ref, dicOf_dic, wPart, wIter, tstW, mAppend, mPop, mPopAt, mClear, wSetIx, wSetKey, Tg.put, wipeN, Cell.lst.injEq, Cell.dic.injEq, Cell.fz.injEq, List.length_map, tyR, tyD,
    eqv_ii, eqv_ss, eqv_bb, eqv_nn, eqv_ll, eqv_tt, eqn_non_int, eqn_non_str, eqn_non_lst, eqn_non_tup, eqn_non_bl, eqn_non_dic, eqn_int_non, eqn_int_str, eqn_int_lst, eqn_int_tup, eqn_int_dic, eqn_str_non, eqn_str_int, eqn_str_lst, eqn_str_tup, eqn_str_bl, eqn_str_dic, eqn_lst_non, eqn_lst_int, eqn_lst_str, eqn_lst_tup, eqn_lst_bl, eqn_lst_dic, eqn_tup_non, eqn_tup_int, eqn_tup_str, eqn_tup_lst, eqn_tup_bl, eqn_tup_dic, eqn_bl_non, eqn_bl_str, eqn_bl_lst, eqn_bl_tup, eqn_bl_dic, eqvs, atI_lit, cdiv_lit, cmul_r, cmul_l, cpow_lit, nrm_dat, nrm_ref, plN, plAll, rd_dat, rd_ref, rds_nil, rds_cons, rds_map, rdk_nil, rdk_cons,               isNon, tyNames, kbs,
    Option.map_some, Option.map_none, Option.isSome_some, List.getD_cons_zero, List.getD_cons_succ, List.getD_nil, get_app, get_app0, set_app, set_app0, List.length_append, List.append_assoc, List.any_cons, List.any_nil, List.zip_cons_cons, List.zip_nil_left, List.zip_nil_right,
    List.map_cons, List.map_nil, List.cons_append, List.nil_append, List.append_nil, List.length_cons, List.length_nil, List.replicate, List.set_cons_zero, List.set_cons_succ, List.getElem?_cons_zero, List.getElem?_cons_succ, List.set_nil, List.getElem?_nil,
    Nat.reduceAdd, Nat.reduceSub, Nat.reduceBEq, Nat.reduceLeDiff, Nat.reduceEqDiff, Nat.sub_self, Nat.zero_add, Nat.add_zero, Nat.zero_le, Nat.le_add_right, Nat.le_refl, Int.reduceToNat, Int.reduceLE, Nat.reduceLT, Nat.reducePow, Int.reducePow, Int.reduceNeg, or_true, true_or, Int.reduceLT, Bool.false_eq_true, if_true, if_false, forall_const, false_implies, true_implies, implies_true, Int.reduceEq, cast_lit, not_true_eq_false, not_false_eq_true, Bool.not_true, Bool.not_false, Bool.not_eq_true', Bool.not_eq_false', Bool.and_true, Bool.true_and, Bool.and_false, Bool.false_and, Bool.or_false, Bool.false_or, Bool.or_true, Bool.true_or, reduceCtorEq, false_and, and_false, or_false, false_or, beq_self_eq_true,
    Option.some.injEq, Prod.mk.injEq, Rv.dat.injEq, Rv.ref.injEq, D.int.injEq, D.bl.injEq, D.str.injEq, D.tup.injEq, D.lst.injEq, D.dic.injEq, D.scr.injEq, List.cons.injEq, and_true, true_and, exists_and_left, exists_and_right, exists_eq_left, exists_eq_left', exists_eq_right, exists_eq_right', exists_eq, exists_eq', exists_const, decide_eq_true_eq, decide_eq_false_iff_not, Bool.and_eq_true, beq_iff_eq, beq_eq_false_iff_ne, ne_eq, decide_true, decide_false, hdR_len, stR_len, hdR_24, hdR_25, hdR_26, hdR_27, hdR_28, hdR_29, hdR_30, stR_16, stR_18, stR_19, stR_20, stR_21, stR_22, stR_23, hdP_25, hdP_26, hdP_27, hdP_28, hdP_29, hdP_30, stP_16, stP_19, stP_20, stP_21, stP_22, stP_23, hdD, List.length_set, set_two, denc_push, denc_swap, denc_pop, denc_top, denc_clear, eqv_optN, plN_optN, isNon_optN, optN_some, optN_none, seenD_some, seenD_none, items_pair, items_vals, phk, kdk, List.getElem?_set_self, List.getElem?_set_ne, List.getElem?_append_left, ltaddr, boxD, cDict, *])
abbrev fn_p_hand_of : List Str := []
def m_p_hand_of : DW.Ss := (.cons (.ret (.dic [24, 25, 26, 27, 28, 29, 30] (.cons (.bi .list1 (.cons (.var 0) .nil)) (.cons (.int 0) (.cons (.str 31) (.cons .non (.cons .non (.cons (.lst .nil) (.cons (.int 0) .nil)))))))))
  .nil)
abbrev Ss_p_hand_of : List SpD := []
def S_p_hand_of : SpD := fun rs g Q => ∃ (ds : List Deed), rs = [.dat (.lst (ds.map Deed.enc))] ∧ (ds.length ≤ 1000 ∧ Q (.dat (handOf ds).enc) g)
theorem mo_p_hand_of : Mono S_p_hand_of := by
  rintro rs g P P2 h ⟨ds, eRS, q⟩
  refine ⟨ds, eRS, ?_⟩
  first | exact h _ _ q | exact ⟨q.1, h _ _ q.2⟩ | exact ⟨q.1, q.2.1, h _ _ q.2.2⟩ | exact ⟨q.1, q.2.1, q.2.2.1, h _ _ q.2.2.2⟩ | exact ⟨q.1, q.2.1, q.2.2.1, q.2.2.2.1, h _ _ q.2.2.2.2⟩ | exact ⟨q.1, fun x hx => h _ _ (q.2 x hx)⟩ | exact ⟨q.1, q.2.1, fun x hx => h _ _ (q.2.2 x hx)⟩ | exact ⟨q.1, q.2.1, fun x hx hy => h _ _ (q.2.2 x hx hy)⟩ | exact ⟨q.1, fun x y h1 => h _ _ (q.2 x y h1)⟩ | exact ⟨q.1, fun x y h1 h2 => h _ _ (q.2 x y h1 h2)⟩ | exact ⟨q.1, fun x h1 h2 => h _ _ (q.2 x h1 h2)⟩
theorem len_p_hand_of : ∀ rs g Q, S_p_hand_of rs g Q → rs.length = 1 := by
  rintro rs g Q ⟨ds, rfl, q⟩
  rfl
theorem hS_p_hand_of : ∀ rs g Q, S_p_hand_of rs g Q → m_p_hand_of.W (wd Ss_p_hand_of glF dtF) (rs.map some ++ List.replicate (1 - rs.length) none) g (fun _ g2 => Fin g Q (.dat .non) g2) (Fin g Q) := by
  rintro rs g Q ⟨ds, rfl, q⟩
  unfold m_p_hand_of
  obtain ⟨hl, q⟩ := q
  walk_at "dwh"
  refine ⟨by decide, fin_frz (handOf ds).enc _ rfl ?_ q⟩
  refine .dic (Nat.le_refl _) get_app0 (.cons (.lst (Nat.le_add_right _ _) get_app rd_dats) (.cons (.dat _) (.cons (.dat _) (.cons (.dat _) (.cons (.dat _) (.cons (.lst (Nat.le_add_right _ _) get_app .nil) (.cons (.dat _) .nil)))))))

end DW

/-! ## F_p_sure_of.lean -/
set_option Elab.async false
set_option linter.all false
set_option maxRecDepth 100000
set_option maxHeartbeats 4000000
set_option autoImplicit false
namespace DW
open PySem PySem.Spec L2
open PyProof.Rows hiding St

local macro_rules | `(tactic| walk_at "dw") => `(tactic| simp (config := { maxSteps := 1000000 }) only [and_assoc, natD, mapint_inj, mapnat_inj, denc_inj, wfor_eq, ixD, ixM, cut_one, List.tail_cons, List.tail_nil, eqvs_nil, List.isEmpty_cons, List.isEmpty_nil, plAll_int, plAll_nat, Ss.W, Sm.W, Ex.W, Ex.T, Es.W, wVar, BOp.B, COp.B, Bi.B, IxK.B, bI0, bIC, bEq, bIs, bIn, bIxL, bIxT, bIxS, bIxK, bCat, bCatT, bRep, cLen, cInt, cMin2, cList, cTup, wantB, wAndT, wOrT, wAndV, wOrV, wNotV, lenOf, lstOf_ref, lstOf_lst, seqOf, dicOf_ref, dicOf_dic, wPart, wIter, tstW, mAppend, mPop, mPopAt, mClear, wSetIx, wSetKey, Tg.put, wipeN, Cell.lst.injEq, Cell.dic.injEq, Cell.fz.injEq, List.length_map, tyR, tyD,
    eqv_ii, eqv_ss, eqv_bb, eqv_nn, eqv_ll, eqv_tt, eqn_non_int, eqn_non_str, eqn_non_lst, eqn_non_tup, eqn_non_bl, eqn_non_dic, eqn_int_non, eqn_int_str, eqn_int_lst, eqn_int_tup, eqn_int_dic, eqn_str_non, eqn_str_int, eqn_str_lst, eqn_str_tup, eqn_str_bl, eqn_str_dic, eqn_lst_non, eqn_lst_int, eqn_lst_str, eqn_lst_tup, eqn_lst_bl, eqn_lst_dic, eqn_tup_non, eqn_tup_int, eqn_tup_str, eqn_tup_lst, eqn_tup_bl, eqn_tup_dic, eqn_bl_non, eqn_bl_str, eqn_bl_lst, eqn_bl_tup, eqn_bl_dic, eqvs, atI_lit, cdiv_lit, cmul_r, cmul_l, cpow_lit, nrm_dat, nrm_ref, plN, plAll, rd_dat, rd_ref, rds_nil, rds_cons, rds_map, rdk_nil, rdk_cons, wFrz, frz1, wFrzL, frzs, datsN, datsN_map, datsK, isNon, tyNames, kbs,
    Option.map_some, Option.map_none, Option.isSome_some, List.getD_cons_zero, List.getD_cons_succ, List.getD_nil, get_app, get_app0, set_app, set_app0, List.length_append, List.append_assoc, List.any_cons, List.any_nil, List.zip_cons_cons, List.zip_nil_left, List.zip_nil_right,
    List.map_cons, List.map_nil, List.cons_append, List.nil_append, List.append_nil, List.length_cons, List.length_nil, List.replicate, List.set_cons_zero, List.set_cons_succ, List.getElem?_cons_zero, List.getElem?_cons_succ, List.set_nil, List.getElem?_nil,
    Nat.reduceAdd, Nat.reduceSub, Nat.reduceBEq, Nat.reduceLeDiff, Nat.reduceEqDiff, Nat.sub_self, Nat.zero_add, Nat.add_zero, Nat.zero_le, Nat.le_add_right, Nat.le_refl, Int.reduceToNat, Int.reduceLE, Nat.reduceLT, Nat.reducePow, Int.reducePow, Int.reduceNeg, or_true, true_or, Int.reduceLT, Bool.false_eq_true, if_true, if_false, forall_const, false_implies, true_implies, implies_true, Int.reduceEq, cast_lit, not_true_eq_false, not_false_eq_true, Bool.not_true, Bool.not_false, Bool.not_eq_true', Bool.not_eq_false', Bool.and_true, Bool.true_and, Bool.and_false, Bool.false_and, Bool.or_false, Bool.false_or, Bool.or_true, Bool.true_or, reduceCtorEq, false_and, and_false, or_false, false_or, beq_self_eq_true,
    Option.some.injEq, Prod.mk.injEq, Rv.dat.injEq, Rv.ref.injEq, D.int.injEq, D.bl.injEq, D.str.injEq, D.tup.injEq, D.lst.injEq, D.dic.injEq, D.scr.injEq, List.cons.injEq, and_true, true_and, exists_and_left, exists_and_right, exists_eq_left, exists_eq_left', exists_eq_right, exists_eq_right', exists_eq, exists_eq', exists_const, decide_eq_true_eq, decide_eq_false_iff_not, Bool.and_eq_true, beq_iff_eq, beq_eq_false_iff_ne, ne_eq, decide_true, decide_false, hdR_len, stR_len, hdR_24, hdR_25, hdR_26, hdR_27, hdR_28, hdR_29, hdR_30, stR_16, stR_18, stR_19, stR_20, stR_21, stR_22, stR_23, hdP_25, hdP_26, hdP_27, hdP_28, hdP_29, hdP_30, stP_16, stP_19, stP_20, stP_21, stP_22, stP_23, hdD, List.length_set, set_two, denc_push, denc_swap, denc_pop, denc_top, denc_clear, eqv_optN, plN_optN, isNon_optN, optN_some, optN_none, seenD_some, seenD_none, items_pair, items_vals, phk, kdk, List.getElem?_set_self, List.getElem?_set_ne, List.getElem?_append_left, ltaddr, boxD, cDict, S_p_is_value, S_p_is_deed])
local macro_rules | `(tactic| walk_at "dwh") => `(tactic| simp (config := { maxSteps := 1000000 }) only [and_assoc, natD, mapint_inj, mapnat_inj, denc_inj, wfor_eq, ixD, ixM, cut_one, List.tail_cons, List.tail_nil, eqvs_nil, List.isEmpty_cons, List.isEmpty_nil, plAll_int, plAll_nat, Ss.W, Sm.W, Ex.W, Ex.T, Es.W, wVar, BOp.B, COp.B, Bi.B, IxK.B, bI0, bIC, bEq, bIs, bIn, bIxL, bIxT, bIxS, bIxK, bCat, bCatT, bRep, cLen, cInt, cMin2, cList, cTup, wantB, wAndT, wOrT, wAndV, wOrV, wNotV, lenOf, lstOf_ref, lstOf_lst, seqOf, dicOf_ref, dicOf_dic, wPart, wIter, tstW, mAppend, mPop, mPopAt, mClear, wSetIx, wSetKey, Tg.put, wipeN, Cell.lst.injEq, Cell.dic.injEq, Cell.fz.injEq, List.length_map, tyR, tyD,
    eqv_ii, eqv_ss, eqv_bb, eqv_nn, eqv_ll, eqv_tt, eqn_non_int, eqn_non_str, eqn_non_lst, eqn_non_tup, eqn_non_bl, eqn_non_dic, eqn_int_non, eqn_int_str, eqn_int_lst, eqn_int_tup, eqn_int_dic, eqn_str_non, eqn_str_int, eqn_str_lst, eqn_str_tup, eqn_str_bl, eqn_str_dic, eqn_lst_non, eqn_lst_int, eqn_lst_str, eqn_lst_tup, eqn_lst_bl, eqn_lst_dic, eqn_tup_non, eqn_tup_int, eqn_tup_str, eqn_tup_lst, eqn_tup_bl, eqn_tup_dic, eqn_bl_non, eqn_bl_str, eqn_bl_lst, eqn_bl_tup, eqn_bl_dic, eqvs, atI_lit, cdiv_lit, cmul_r, cmul_l, cpow_lit, nrm_dat, nrm_ref, plN, plAll, rd_dat, rd_ref, rds_nil, rds_cons, rds_map, rdk_nil, rdk_cons, wFrz, frz1, wFrzL, frzs, datsN, datsN_map, datsK, isNon, tyNames, kbs,
    Option.map_some, Option.map_none, Option.isSome_some, List.getD_cons_zero, List.getD_cons_succ, List.getD_nil, get_app, get_app0, set_app, set_app0, List.length_append, List.append_assoc, List.any_cons, List.any_nil, List.zip_cons_cons, List.zip_nil_left, List.zip_nil_right,
    List.map_cons, List.map_nil, List.cons_append, List.nil_append, List.append_nil, List.length_cons, List.length_nil, List.replicate, List.set_cons_zero, List.set_cons_succ, List.getElem?_cons_zero, List.getElem?_cons_succ, List.set_nil, List.getElem?_nil,
    Nat.reduceAdd, Nat.reduceSub, Nat.reduceBEq, Nat.reduceLeDiff, Nat.reduceEqDiff, Nat.sub_self, Nat.zero_add, Nat.add_zero, Nat.zero_le, Nat.le_add_right, Nat.le_refl, Int.reduceToNat, Int.reduceLE, Nat.reduceLT, Nat.reducePow, Int.reducePow, Int.reduceNeg, or_true, true_or, Int.reduceLT, Bool.false_eq_true, if_true, if_false, forall_const, false_implies, true_implies, implies_true, Int.reduceEq, cast_lit, not_true_eq_false, not_false_eq_true, Bool.not_true, Bool.not_false, Bool.not_eq_true', Bool.not_eq_false', Bool.and_true, Bool.true_and, Bool.and_false, Bool.false_and, Bool.or_false, Bool.false_or, Bool.or_true, Bool.true_or, reduceCtorEq, false_and, and_false, or_false, false_or, beq_self_eq_true,
    Option.some.injEq, Prod.mk.injEq, Rv.dat.injEq, Rv.ref.injEq, D.int.injEq, D.bl.injEq, D.str.injEq, D.tup.injEq, D.lst.injEq, D.dic.injEq, D.scr.injEq, List.cons.injEq, and_true, true_and, exists_and_left, exists_and_right, exists_eq_left, exists_eq_left', exists_eq_right, exists_eq_right', exists_eq, exists_eq', exists_const, decide_eq_true_eq, decide_eq_false_iff_not, Bool.and_eq_true, beq_iff_eq, beq_eq_false_iff_ne, ne_eq, decide_true, decide_false, hdR_len, stR_len, hdR_24, hdR_25, hdR_26, hdR_27, hdR_28, hdR_29, hdR_30, stR_16, stR_18, stR_19, stR_20, stR_21, stR_22, stR_23, hdP_25, hdP_26, hdP_27, hdP_28, hdP_29, hdP_30, stP_16, stP_19, stP_20, stP_21, stP_22, stP_23, hdD, List.length_set, set_two, denc_push, denc_swap, denc_pop, denc_top, denc_clear, eqv_optN, plN_optN, isNon_optN, optN_some, optN_none, seenD_some, seenD_none, items_pair, items_vals, phk, kdk, List.getElem?_set_self, List.getElem?_set_ne, List.getElem?_append_left, ltaddr, boxD, cDict, S_p_is_value, S_p_is_deed, *])
local macro_rules | `(tactic| walk_at "dwf") => `(tactic| simp (config := { maxSteps := 1000000 }) only [and_assoc, natD, mapint_inj, mapnat_inj, denc_inj, wfor_eq, ixD, ixM, cut_one, List.tail_cons, List.tail_nil, eqvs_nil, List.isEmpty_cons, List.isEmpty_nil, plAll_int, plAll_nat, Ss.W, Sm.W, Ex.W, Ex.T, Es.W, wVar, BOp.B, COp.B, Bi.B, IxK.B, bI0, bIC, bEq, bIs, bIn, bIxL, bIxT, bIxS, bIxK, bCat, bCatT, bRep, cLen, cInt, cMin2, cList, cTup, wantB, wAndT, wOrT, wAndV, wOrV, wNotV, lenOf, lstOf_ref, lstOf_lst, seqOf, dicOf_ref, dicOf_dic, wPart, wIter, tstW, mAppend, mPop, mPopAt, mClear, wSetIx, wSetKey, Tg.put, wipeN, Cell.lst.injEq, Cell.dic.injEq, Cell.fz.injEq, List.length_map, tyR, tyD,
    eqv_ii, eqv_ss, eqv_bb, eqv_nn, eqv_ll, eqv_tt, eqn_non_int, eqn_non_str, eqn_non_lst, eqn_non_tup, eqn_non_bl, eqn_non_dic, eqn_int_non, eqn_int_str, eqn_int_lst, eqn_int_tup, eqn_int_dic, eqn_str_non, eqn_str_int, eqn_str_lst, eqn_str_tup, eqn_str_bl, eqn_str_dic, eqn_lst_non, eqn_lst_int, eqn_lst_str, eqn_lst_tup, eqn_lst_bl, eqn_lst_dic, eqn_tup_non, eqn_tup_int, eqn_tup_str, eqn_tup_lst, eqn_tup_bl, eqn_tup_dic, eqn_bl_non, eqn_bl_str, eqn_bl_lst, eqn_bl_tup, eqn_bl_dic, eqvs, atI_lit, cdiv_lit, cmul_r, cmul_l, cpow_lit, nrm_dat, nrm_ref, plN, plAll, rd_dat, rd_ref, rds_nil, rds_cons, rds_map, rdk_nil, rdk_cons,               isNon, tyNames, kbs,
    Option.map_some, Option.map_none, Option.isSome_some, List.getD_cons_zero, List.getD_cons_succ, List.getD_nil, get_app, get_app0, set_app, set_app0, List.length_append, List.append_assoc, List.any_cons, List.any_nil, List.zip_cons_cons, List.zip_nil_left, List.zip_nil_right,
    List.map_cons, List.map_nil, List.cons_append, List.nil_append, List.append_nil, List.length_cons, List.length_nil, List.replicate, List.set_cons_zero, List.set_cons_succ, List.getElem?_cons_zero, List.getElem?_cons_succ, List.set_nil, List.getElem?_nil,
    Nat.reduceAdd, Nat.reduceSub, Nat.reduceBEq, Nat.reduceLeDiff, Nat.reduceEqDiff, Nat.sub_self, Nat.zero_add, Nat.add_zero, Nat.zero_le, Nat.le_add_right, Nat.le_refl, Int.reduceToNat, Int.reduceLE, Nat.reduceLT, Nat.reducePow, Int.reducePow, Int.reduceNeg, or_true, true_or, Int.reduceLT, Bool.false_eq_true, if_true, if_false, forall_const, false_implies, true_implies, implies_true, Int.reduceEq, cast_lit, not_true_eq_false, not_false_eq_true, Bool.not_true, Bool.not_false, Bool.not_eq_true', Bool.not_eq_false', Bool.and_true, Bool.true_and, Bool.and_false, Bool.false_and, Bool.or_false, Bool.false_or, Bool.or_true, Bool.true_or, reduceCtorEq, false_and, and_false, or_false, false_or, beq_self_eq_true,
    Option.some.injEq, Prod.mk.injEq, Rv.dat.injEq, Rv.ref.injEq, D.int.injEq, D.bl.injEq, D.str.injEq, D.tup.injEq, D.lst.injEq, D.dic.injEq, D.scr.injEq, List.cons.injEq, and_true, true_and, exists_and_left, exists_and_right, exists_eq_left, exists_eq_left', exists_eq_right, exists_eq_right', exists_eq, exists_eq', exists_const, decide_eq_true_eq, decide_eq_false_iff_not, Bool.and_eq_true, beq_iff_eq, beq_eq_false_iff_ne, ne_eq, decide_true, decide_false, hdR_len, stR_len, hdR_24, hdR_25, hdR_26, hdR_27, hdR_28, hdR_29, hdR_30, stR_16, stR_18, stR_19, stR_20, stR_21, stR_22, stR_23, hdP_25, hdP_26, hdP_27, hdP_28, hdP_29, hdP_30, stP_16, stP_19, stP_20, stP_21, stP_22, stP_23, hdD, List.length_set, set_two, denc_push, denc_swap, denc_pop, denc_top, denc_clear, eqv_optN, plN_optN, isNon_optN, optN_some, optN_none, seenD_some, seenD_none, items_pair, items_vals, phk, kdk, List.getElem?_set_self, List.getElem?_set_ne, List.getElem?_append_left, ltaddr, boxD, cDict, S_p_is_value, S_p_is_deed, *])
abbrev fn_p_sure_of : List Str := ["is_value", "is_deed"]
def b_p_sure_of_0 : DW.Ss := (.cons (.ite (.not (.call 0 (.cons (.frz (.var 3)) .nil))) (.cons .never
  .nil) .nil)
  .nil)
def b_p_sure_of_1 : DW.Ss := (.cons (.ite (.not (.call 1 (.cons (.frz (.var 5)) .nil))) (.cons .never
  .nil) .nil)
  .nil)
def b_p_sure_of_2 : DW.Ss := (.cons (.for_ (.name 5) .list (.var 4) .non b_p_sure_of_1)
  .nil)
def b_p_sure_of_3 : DW.Ss := (.cons (.ite (.cmp .gt (.bi .len (.cons (.var 4) .nil)) (.glob 2)) (.cons .never
  .nil) .nil)
  b_p_sure_of_2)
def b_p_sure_of_4 : DW.Ss := (.cons (.for_ (.name 4) .list (.var 1) .non b_p_sure_of_3)
  .nil)
def b_p_sure_of_5 : DW.Ss := (.cons (.ite (.cmp .gt (.bi .len (.cons (.var 1) .nil)) (.glob 1)) (.cons .never
  .nil) .nil)
  b_p_sure_of_4)
def b_p_sure_of_6 : DW.Ss := (.cons (.for_ (.name 3) .list (.var 0) .non b_p_sure_of_0)
  b_p_sure_of_5)
def b_p_sure_of_7 : DW.Ss := (.cons (.ite (.cmp .gt (.bi .len (.cons (.var 0) .nil)) (.glob 0)) (.cons .never
  .nil) .nil)
  b_p_sure_of_6)
def m_p_sure_of : DW.Ss := (.cons (.ite (.cmp .notIn (.var 2) (.lst (.cons (.str 5) (.cons (.str 6) (.cons (.str 7) .nil))))) (.cons .never
  .nil) .nil)
  b_p_sure_of_7)
abbrev Ss_p_sure_of : List SpD := [S_p_is_value, S_p_is_deed]
theorem so_deed_pl (d : Deed) : plN 60 d.enc = true := by cases d <;> rfl
theorem so_deed_is (d : Deed) : isDeedB d.enc = true := by cases d <;> rfl
def S_p_sure_of : SpD := fun rs g Q => ∃ (start : List Int) (progs : List (List Deed)) (kd : Kd), rs = [.dat (.lst (start.map .int)), .dat (.lst (progs.map progD)), .dat (.str kd.k)] ∧ (start.length ≤ 60 ∧ progs.length ≤ 20 ∧ (∀ p ∈ progs, p.length ≤ 60) ∧ Q (.dat .non) g)
theorem mo_p_sure_of : Mono S_p_sure_of := by
  rintro rs g P P2 h ⟨start, progs, kd, eRS, q⟩
  refine ⟨start, progs, kd, eRS, ?_⟩
  first | exact h _ _ q | exact ⟨q.1, h _ _ q.2⟩ | exact ⟨q.1, q.2.1, h _ _ q.2.2⟩ | exact ⟨q.1, q.2.1, q.2.2.1, h _ _ q.2.2.2⟩ | exact ⟨q.1, q.2.1, q.2.2.1, q.2.2.2.1, h _ _ q.2.2.2.2⟩ | exact ⟨q.1, fun x hx => h _ _ (q.2 x hx)⟩ | exact ⟨q.1, q.2.1, fun x hx => h _ _ (q.2.2 x hx)⟩ | exact ⟨q.1, q.2.1, fun x hx hy => h _ _ (q.2.2 x hx hy)⟩ | exact ⟨q.1, fun x y h1 => h _ _ (q.2 x y h1)⟩ | exact ⟨q.1, fun x y h1 h2 => h _ _ (q.2 x y h1 h2)⟩ | exact ⟨q.1, fun x h1 h2 => h _ _ (q.2 x h1 h2)⟩
theorem len_p_sure_of : ∀ rs g Q, S_p_sure_of rs g Q → rs.length = 3 := by
  rintro rs g Q ⟨start, progs, kd, rfl, q⟩
  rfl
theorem hS_p_sure_of : ∀ rs g Q, S_p_sure_of rs g Q → m_p_sure_of.W (wd Ss_p_sure_of glF dtF) (rs.map some ++ List.replicate (6 - rs.length) none) g (fun _ g2 => Fin g Q (.dat .non) g2) (Fin g Q) := by
  rintro rs g Q ⟨start, progs, kd, rfl, q⟩
  unfold m_p_sure_of
  obtain ⟨l1, l2, l3, q⟩ := q
  have hkd : (5 == kd.k || (6 == kd.k || 7 == kd.k)) = true := by cases kd <;> rfl
  have hgl : (glF.map (·.2))[0]? = some 60 ∧ (glF.map (·.2))[1]? = some 20 ∧ (glF.map (·.2))[2]? = some 60 := ⟨rfl, rfl, rfl⟩
  have hs1 : ¬ (60 : Int) < (start.length : Int) := by omega
  have hs2 : ¬ (20 : Int) < (progs.length : Int) := by omega
  walk_at "dwh"
  unfold b_p_sure_of_7
  walk_at "dwh"
  unfold b_p_sure_of_6
  walk_at "dwh"
  refine wloop (fun k env g2 => ∃ (a : Option Rv) (j : Rg), env = [some (.dat (.lst (start.map .int))), some (.dat (.lst (progs.map progD))), some (.dat (.str kd.k)), a, none, none] ∧ g2 = g ++ j) ⟨none, _, rfl, rfl⟩ (fun _ _ _ _ => trivial) ?_ ?_
  · rintro k r env g2 hkr ⟨a, j, rfl, rfl⟩
    rw [List.getElem?_map, List.getElem?_map] at hkr
    obtain ⟨d, hkr1, e1⟩ := Option.map_eq_some_iff.mp hkr
    obtain ⟨x, hkr2, e2⟩ := Option.map_eq_some_iff.mp hkr1
    subst e2; subst e1
    refine ⟨_, rfl, ?_⟩
    unfold b_p_sure_of_0
    clear hkr hkr1 hkr2
    walk_at "dwh"
    simp only [isVal]
    walk_at "dwh"
    exact ⟨_, rfl⟩
  · rintro env g2 ⟨a, j, rfl, rfl⟩
    unfold b_p_sure_of_5
    walk_at "dwh"
    unfold b_p_sure_of_4
    walk_at "dwh"
    refine wloop (fun k env g2 => ∃ (b c : Option Rv) (j : Rg), env = [some (.dat (.lst (start.map .int))), some (.dat (.lst (progs.map progD))), some (.dat (.str kd.k)), a, b, c] ∧ g2 = g ++ j) ⟨none, none, _, rfl, rfl⟩ (fun _ _ _ _ => trivial) ?_ ?_
    · rintro k r env g2 hkr ⟨b, c, j, rfl, rfl⟩
      rw [List.getElem?_map, List.getElem?_map] at hkr
      obtain ⟨d, hkr1, e1⟩ := Option.map_eq_some_iff.mp hkr
      obtain ⟨x, hkr2, e2⟩ := Option.map_eq_some_iff.mp hkr1
      subst e2; subst e1
      refine ⟨_, rfl, ?_⟩
      have hx := l3 x (List.mem_of_getElem? hkr2)
      have hs3 : ¬ (60 : Int) < (x.length : Int) := by omega
      unfold b_p_sure_of_3
      clear hkr hkr1 hkr2 l3
      have hpd : progD x = .lst (x.map Deed.enc) := rfl
      walk_at "dwh"
      unfold b_p_sure_of_2
      walk_at "dwh"
      refine wloop (fun k env g2 => ∃ (c : Option Rv) (j : Rg), env = [some (.dat (.lst (start.map .int))), some (.dat (.lst (progs.map progD))), some (.dat (.str kd.k)), a, some (.dat (progD x)), c] ∧ g2 = g ++ j) ⟨c, _, rfl, rfl⟩ (fun _ _ _ _ => trivial) ?_ ?_
      · rintro k r env g2 hkr ⟨c, j, rfl, rfl⟩
        rw [List.getElem?_map, List.getElem?_map] at hkr
        obtain ⟨d, hkr1, e1⟩ := Option.map_eq_some_iff.mp hkr
        obtain ⟨y, hkr2, e2⟩ := Option.map_eq_some_iff.mp hkr1
        subst e2; subst e1
        refine ⟨_, rfl, ?_⟩
        have hy1 := so_deed_pl y
        have hy2 := so_deed_is y
        unfold b_p_sure_of_1
        clear hkr hkr1 hkr2
        walk_at "dwh"
        exact ⟨_, rfl⟩
      · rintro env g2 ⟨c, j, rfl, rfl⟩
        exact ⟨⟨_, _, rfl⟩, _, rfl⟩
    · rintro env g2 ⟨b, c, j, rfl, rfl⟩
      exact fin_dat _ rfl q

end DW

/-! ## F_p_tower_of.lean -/
set_option Elab.async false
set_option linter.all false
set_option maxRecDepth 100000
set_option maxHeartbeats 4000000
set_option autoImplicit false
namespace DW
open PySem PySem.Spec L2
open PyProof.Rows hiding St

local macro_rules | `(tactic| walk_at "dw") => `(tactic| simp (config := { maxSteps := 1000000 }) only [and_assoc, natD, mapint_inj, mapnat_inj, denc_inj, wfor_eq, ixD, ixM, cut_one, List.tail_cons, List.tail_nil, eqvs_nil, List.isEmpty_cons, List.isEmpty_nil, plAll_int, plAll_nat, Ss.W, Sm.W, Ex.W, Ex.T, Es.W, wVar, BOp.B, COp.B, Bi.B, IxK.B, bI0, bIC, bEq, bIs, bIn, bIxL, bIxT, bIxS, bIxK, bCat, bCatT, bRep, cLen, cInt, cMin2, cList, cTup, wantB, wAndT, wOrT, wAndV, wOrV, wNotV, lenOf, lstOf_ref, lstOf_lst, seqOf, dicOf_ref, dicOf_dic, wPart, wIter, tstW, mAppend, mPop, mPopAt, mClear, wSetIx, wSetKey, Tg.put, wipeN, Cell.lst.injEq, Cell.dic.injEq, Cell.fz.injEq, List.length_map, tyR, tyD,
    eqv_ii, eqv_ss, eqv_bb, eqv_nn, eqv_ll, eqv_tt, eqn_non_int, eqn_non_str, eqn_non_lst, eqn_non_tup, eqn_non_bl, eqn_non_dic, eqn_int_non, eqn_int_str, eqn_int_lst, eqn_int_tup, eqn_int_dic, eqn_str_non, eqn_str_int, eqn_str_lst, eqn_str_tup, eqn_str_bl, eqn_str_dic, eqn_lst_non, eqn_lst_int, eqn_lst_str, eqn_lst_tup, eqn_lst_bl, eqn_lst_dic, eqn_tup_non, eqn_tup_int, eqn_tup_str, eqn_tup_lst, eqn_tup_bl, eqn_tup_dic, eqn_bl_non, eqn_bl_str, eqn_bl_lst, eqn_bl_tup, eqn_bl_dic, eqvs, atI_lit, cdiv_lit, cmul_r, cmul_l, cpow_lit, nrm_dat, nrm_ref, plN, plAll, rd_dat, rd_ref, rds_nil, rds_cons, rds_map, rdk_nil, rdk_cons, wFrz, frz1, wFrzL, frzs, datsN, datsN_map, datsK, isNon, tyNames, kbs,
    Option.map_some, Option.map_none, Option.isSome_some, List.getD_cons_zero, List.getD_cons_succ, List.getD_nil, get_app, get_app0, set_app, set_app0, List.length_append, List.append_assoc, List.any_cons, List.any_nil, List.zip_cons_cons, List.zip_nil_left, List.zip_nil_right,
    List.map_cons, List.map_nil, List.cons_append, List.nil_append, List.append_nil, List.length_cons, List.length_nil, List.replicate, List.set_cons_zero, List.set_cons_succ, List.getElem?_cons_zero, List.getElem?_cons_succ, List.set_nil, List.getElem?_nil,
    Nat.reduceAdd, Nat.reduceSub, Nat.reduceBEq, Nat.reduceLeDiff, Nat.reduceEqDiff, Nat.sub_self, Nat.zero_add, Nat.add_zero, Nat.zero_le, Nat.le_add_right, Nat.le_refl, Int.reduceToNat, Int.reduceLE, Nat.reduceLT, Nat.reducePow, Int.reducePow, Int.reduceNeg, or_true, true_or, Int.reduceLT, Bool.false_eq_true, if_true, if_false, forall_const, false_implies, true_implies, implies_true, Int.reduceEq, cast_lit, not_true_eq_false, not_false_eq_true, Bool.not_true, Bool.not_false, Bool.not_eq_true', Bool.not_eq_false', Bool.and_true, Bool.true_and, Bool.and_false, Bool.false_and, Bool.or_false, Bool.false_or, Bool.or_true, Bool.true_or, reduceCtorEq, false_and, and_false, or_false, false_or, beq_self_eq_true,
    Option.some.injEq, Prod.mk.injEq, Rv.dat.injEq, Rv.ref.injEq, D.int.injEq, D.bl.injEq, D.str.injEq, D.tup.injEq, D.lst.injEq, D.dic.injEq, D.scr.injEq, List.cons.injEq, and_true, true_and, exists_and_left, exists_and_right, exists_eq_left, exists_eq_left', exists_eq_right, exists_eq_right', exists_eq, exists_eq', exists_const, decide_eq_true_eq, decide_eq_false_iff_not, Bool.and_eq_true, beq_iff_eq, beq_eq_false_iff_ne, ne_eq, decide_true, decide_false, hdR_len, stR_len, hdR_24, hdR_25, hdR_26, hdR_27, hdR_28, hdR_29, hdR_30, stR_16, stR_18, stR_19, stR_20, stR_21, stR_22, stR_23, hdP_25, hdP_26, hdP_27, hdP_28, hdP_29, hdP_30, stP_16, stP_19, stP_20, stP_21, stP_22, stP_23, hdD, List.length_set, set_two, denc_push, denc_swap, denc_pop, denc_top, denc_clear, eqv_optN, plN_optN, isNon_optN, optN_some, optN_none, seenD_some, seenD_none, items_pair, items_vals, phk, kdk, List.getElem?_set_self, List.getElem?_set_ne, List.getElem?_append_left, ltaddr, boxD, cDict, S_p_hand_of])
local macro_rules | `(tactic| walk_at "dwh") => `(tactic| simp (config := { maxSteps := 1000000 }) only [and_assoc, natD, mapint_inj, mapnat_inj, denc_inj, wfor_eq, ixD, ixM, cut_one, List.tail_cons, List.tail_nil, eqvs_nil, List.isEmpty_cons, List.isEmpty_nil, plAll_int, plAll_nat, Ss.W, Sm.W, Ex.W, Ex.T, Es.W, wVar, BOp.B, COp.B, Bi.B, IxK.B, bI0, bIC, bEq, bIs, bIn, bIxL, bIxT, bIxS, bIxK, bCat, bCatT, bRep, cLen, cInt, cMin2, cList, cTup, wantB, wAndT, wOrT, wAndV, wOrV, wNotV, lenOf, lstOf_ref, lstOf_lst, seqOf, dicOf_ref, dicOf_dic, wPart, wIter, tstW, mAppend, mPop, mPopAt, mClear, wSetIx, wSetKey, Tg.put, wipeN, Cell.lst.injEq, Cell.dic.injEq, Cell.fz.injEq, List.length_map, tyR, tyD,
    eqv_ii, eqv_ss, eqv_bb, eqv_nn, eqv_ll, eqv_tt, eqn_non_int, eqn_non_str, eqn_non_lst, eqn_non_tup, eqn_non_bl, eqn_non_dic, eqn_int_non, eqn_int_str, eqn_int_lst, eqn_int_tup, eqn_int_dic, eqn_str_non, eqn_str_int, eqn_str_lst, eqn_str_tup, eqn_str_bl, eqn_str_dic, eqn_lst_non, eqn_lst_int, eqn_lst_str, eqn_lst_tup, eqn_lst_bl, eqn_lst_dic, eqn_tup_non, eqn_tup_int, eqn_tup_str, eqn_tup_lst, eqn_tup_bl, eqn_tup_dic, eqn_bl_non, eqn_bl_str, eqn_bl_lst, eqn_bl_tup, eqn_bl_dic, eqvs, atI_lit, cdiv_lit, cmul_r, cmul_l, cpow_lit, nrm_dat, nrm_ref, plN, plAll, rd_dat, rd_ref, rds_nil, rds_cons, rds_map, rdk_nil, rdk_cons, wFrz, frz1, wFrzL, frzs, datsN, datsN_map, datsK, isNon, tyNames, kbs,
    Option.map_some, Option.map_none, Option.isSome_some, List.getD_cons_zero, List.getD_cons_succ, List.getD_nil, get_app, get_app0, set_app, set_app0, List.length_append, List.append_assoc, List.any_cons, List.any_nil, List.zip_cons_cons, List.zip_nil_left, List.zip_nil_right,
    List.map_cons, List.map_nil, List.cons_append, List.nil_append, List.append_nil, List.length_cons, List.length_nil, List.replicate, List.set_cons_zero, List.set_cons_succ, List.getElem?_cons_zero, List.getElem?_cons_succ, List.set_nil, List.getElem?_nil,
    Nat.reduceAdd, Nat.reduceSub, Nat.reduceBEq, Nat.reduceLeDiff, Nat.reduceEqDiff, Nat.sub_self, Nat.zero_add, Nat.add_zero, Nat.zero_le, Nat.le_add_right, Nat.le_refl, Int.reduceToNat, Int.reduceLE, Nat.reduceLT, Nat.reducePow, Int.reducePow, Int.reduceNeg, or_true, true_or, Int.reduceLT, Bool.false_eq_true, if_true, if_false, forall_const, false_implies, true_implies, implies_true, Int.reduceEq, cast_lit, not_true_eq_false, not_false_eq_true, Bool.not_true, Bool.not_false, Bool.not_eq_true', Bool.not_eq_false', Bool.and_true, Bool.true_and, Bool.and_false, Bool.false_and, Bool.or_false, Bool.false_or, Bool.or_true, Bool.true_or, reduceCtorEq, false_and, and_false, or_false, false_or, beq_self_eq_true,
    Option.some.injEq, Prod.mk.injEq, Rv.dat.injEq, Rv.ref.injEq, D.int.injEq, D.bl.injEq, D.str.injEq, D.tup.injEq, D.lst.injEq, D.dic.injEq, D.scr.injEq, List.cons.injEq, and_true, true_and, exists_and_left, exists_and_right, exists_eq_left, exists_eq_left', exists_eq_right, exists_eq_right', exists_eq, exists_eq', exists_const, decide_eq_true_eq, decide_eq_false_iff_not, Bool.and_eq_true, beq_iff_eq, beq_eq_false_iff_ne, ne_eq, decide_true, decide_false, hdR_len, stR_len, hdR_24, hdR_25, hdR_26, hdR_27, hdR_28, hdR_29, hdR_30, stR_16, stR_18, stR_19, stR_20, stR_21, stR_22, stR_23, hdP_25, hdP_26, hdP_27, hdP_28, hdP_29, hdP_30, stP_16, stP_19, stP_20, stP_21, stP_22, stP_23, hdD, List.length_set, set_two, denc_push, denc_swap, denc_pop, denc_top, denc_clear, eqv_optN, plN_optN, isNon_optN, optN_some, optN_none, seenD_some, seenD_none, items_pair, items_vals, phk, kdk, List.getElem?_set_self, List.getElem?_set_ne, List.getElem?_append_left, ltaddr, boxD, cDict, S_p_hand_of, *])
local macro_rules | `(tactic| walk_at "dwf") => `(tactic| simp (config := { maxSteps := 1000000 }) only [and_assoc, natD, mapint_inj, mapnat_inj, denc_inj, wfor_eq, ixD, ixM, cut_one, List.tail_cons, List.tail_nil, eqvs_nil, List.isEmpty_cons, List.isEmpty_nil, plAll_int, plAll_nat, Ss.W, Sm.W, Ex.W, Ex.T, Es.W, wVar, BOp.B, COp.B, Bi.B, IxK.B, bI0, bIC, bEq, bIs, bIn, bIxL, bIxT, bIxS, bIxK, bCat, bCatT, bRep, cLen, cInt, cMin2, cList, cTup, wantB, wAndT, wOrT, wAndV, wOrV, wNotV, lenOf, lstOf_ref, lstOf_lst, seqOf, dicOf_ref, dicOf_dic, wPart, wIter, tstW, mAppend, mPop, mPopAt, mClear, wSetIx, wSetKey, Tg.put, wipeN, Cell.lst.injEq, Cell.dic.injEq, Cell.fz.injEq, List.length_map, tyR, tyD,
    eqv_ii, eqv_ss, eqv_bb, eqv_nn, eqv_ll, eqv_tt, eqn_non_int, eqn_non_str, eqn_non_lst, eqn_non_tup, eqn_non_bl, eqn_non_dic, eqn_int_non, eqn_int_str, eqn_int_lst, eqn_int_tup, eqn_int_dic, eqn_str_non, eqn_str_int, eqn_str_lst, eqn_str_tup, eqn_str_bl, eqn_str_dic, eqn_lst_non, eqn_lst_int, eqn_lst_str, eqn_lst_tup, eqn_lst_bl, eqn_lst_dic, eqn_tup_non, eqn_tup_int, eqn_tup_str, eqn_tup_lst, eqn_tup_bl, eqn_tup_dic, eqn_bl_non, eqn_bl_str, eqn_bl_lst, eqn_bl_tup, eqn_bl_dic, eqvs, atI_lit, cdiv_lit, cmul_r, cmul_l, cpow_lit, nrm_dat, nrm_ref, plN, plAll, rd_dat, rd_ref, rds_nil, rds_cons, rds_map, rdk_nil, rdk_cons,               isNon, tyNames, kbs,
    Option.map_some, Option.map_none, Option.isSome_some, List.getD_cons_zero, List.getD_cons_succ, List.getD_nil, get_app, get_app0, set_app, set_app0, List.length_append, List.append_assoc, List.any_cons, List.any_nil, List.zip_cons_cons, List.zip_nil_left, List.zip_nil_right,
    List.map_cons, List.map_nil, List.cons_append, List.nil_append, List.append_nil, List.length_cons, List.length_nil, List.replicate, List.set_cons_zero, List.set_cons_succ, List.getElem?_cons_zero, List.getElem?_cons_succ, List.set_nil, List.getElem?_nil,
    Nat.reduceAdd, Nat.reduceSub, Nat.reduceBEq, Nat.reduceLeDiff, Nat.reduceEqDiff, Nat.sub_self, Nat.zero_add, Nat.add_zero, Nat.zero_le, Nat.le_add_right, Nat.le_refl, Int.reduceToNat, Int.reduceLE, Nat.reduceLT, Nat.reducePow, Int.reducePow, Int.reduceNeg, or_true, true_or, Int.reduceLT, Bool.false_eq_true, if_true, if_false, forall_const, false_implies, true_implies, implies_true, Int.reduceEq, cast_lit, not_true_eq_false, not_false_eq_true, Bool.not_true, Bool.not_false, Bool.not_eq_true', Bool.not_eq_false', Bool.and_true, Bool.true_and, Bool.and_false, Bool.false_and, Bool.or_false, Bool.false_or, Bool.or_true, Bool.true_or, reduceCtorEq, false_and, and_false, or_false, false_or, beq_self_eq_true,
    Option.some.injEq, Prod.mk.injEq, Rv.dat.injEq, Rv.ref.injEq, D.int.injEq, D.bl.injEq, D.str.injEq, D.tup.injEq, D.lst.injEq, D.dic.injEq, D.scr.injEq, List.cons.injEq, and_true, true_and, exists_and_left, exists_and_right, exists_eq_left, exists_eq_left', exists_eq_right, exists_eq_right', exists_eq, exists_eq', exists_const, decide_eq_true_eq, decide_eq_false_iff_not, Bool.and_eq_true, beq_iff_eq, beq_eq_false_iff_ne, ne_eq, decide_true, decide_false, hdR_len, stR_len, hdR_24, hdR_25, hdR_26, hdR_27, hdR_28, hdR_29, hdR_30, stR_16, stR_18, stR_19, stR_20, stR_21, stR_22, stR_23, hdP_25, hdP_26, hdP_27, hdP_28, hdP_29, hdP_30, stP_16, stP_19, stP_20, stP_21, stP_22, stP_23, hdD, List.length_set, set_two, denc_push, denc_swap, denc_pop, denc_top, denc_clear, eqv_optN, plN_optN, isNon_optN, optN_some, optN_none, seenD_some, seenD_none, items_pair, items_vals, phk, kdk, List.getElem?_set_self, List.getElem?_set_ne, List.getElem?_append_left, ltaddr, boxD, cDict, S_p_hand_of, *])
abbrev fn_p_tower_of : List Str := ["sure_of", "hand_of"]
def b_p_tower_of_0 : DW.Ex := (.tup (.cons (.var 7) (.cons (.bin .addI (.var 6) (.int 1)) .nil)))
def b_p_tower_of_1 : DW.Ex := (.call 1 (.cons (.frz (.var 8)) .nil))
def b_p_tower_of_2 : DW.Ss := (.cons (.ret (.dic [18, 19, 20, 16, 21, 22, 23] (.cons (.var 2) (.cons (.var 4) (.cons (.var 3) (.cons (.lst .nil) (.cons (.var 5) (.cons (.lst .nil) (.cons (.int 0) .nil)))))))))
  .nil)
def b_p_tower_of_3 : DW.Ss := (.cons (.setC 5 (.comp b_p_tower_of_1 (.name 8) .list (.var 1) .non false .non [8]))
  b_p_tower_of_2)
def b_p_tower_of_4 : DW.Ss := (.cons (.set 4 (.tup (.cons (.int 0) (.cons (.int 0) .nil))))
  (.cons (.ite (.cmp .eq (.var 3) (.lst .nil)) (.cons (.set 4 (.tup (.cons .non (.cons (.int 0) .nil))))
  .nil) (.cons (.setIx (.var 3) (.neg (.int 1)) (.tup (.cons (.ix .t (.ix .l (.var 3) (.neg (.int 1))) (.int 0)) (.cons .non .nil))))
  .nil))
  b_p_tower_of_3))
def m_p_tower_of : DW.Ss := (.cons (.expr (.call 0 (.cons (.frz (.var 0)) (.cons (.frz (.var 1)) (.cons (.var 2) .nil)))))
  (.cons (.setC 3 (.comp b_p_tower_of_0 (.pair 6 7) .en (.var 0) .non false .non [6, 7]))
  b_p_tower_of_4))
abbrev Ss_p_tower_of : List SpD := [S_p_sure_of, S_p_hand_of]
theorem enum_at {l : List D} {k : Nat} {r : Rv} (h : (enums l)[k]? = some r) : ∃ d, l[k]? = some d ∧ r = .dat (.tup [.int (k : Int), d]) := by
  unfold enums at h
  rw [List.getElem?_map] at h
  obtain ⟨i, h1, h2⟩ := Option.map_eq_some_iff.mp h
  have hl := (List.getElem?_eq_some_iff.mp h1).1
  rw [List.length_range] at hl
  rw [List.getElem?_range hl] at h1
  cases h1
  refine ⟨l[k], List.getElem?_eq_getElem hl, ?_⟩
  rw [← h2]
  simp [List.getD_eq_getElem?_getD, List.getElem?_eq_getElem hl]
theorem enum_len {l : List D} : (enums l).length = l.length := by unfold enums; simp
def box0 (start : List Int) (k : Nat) : D := .tup [.int (start.getD k 0), .int ((k : Int) + 1)]
theorem atI_last {α : Type} {l : List α} {x : α} : atI (l ++ [x]) (-1) = some x := by
  unfold L2.atI L2.ixN
  have h1 : ¬ (0 : Int) ≤ -1 := by decide
  have h2 : -((l ++ [x]).length : Int) ≤ -1 := by simp; omega
  have h3 : (-1 + ((l ++ [x]).length : Int)).toNat = l.length := by simp; omega
  rw [if_neg h1, if_pos h2, h3]
  simp
theorem ixN_last {n : Nat} : ixN (n + 1) (-1) = some n := by
  unfold L2.ixN
  simp
  omega
theorem boxes_last (init : List Int) (z : Int) : ((List.map Rv.dat (List.map (box0 (init ++ [z])) (List.range init.length ++ [init.length]))).set init.length (.dat (.tup [.int ((init ++ [z]).getD init.length 0), .non]))) = ((boxesOf (init ++ [z])).map boxD).map Rv.dat := by
  have hl : (init ++ [z]).length = init.length + 1 := by simp
  unfold boxesOf
  rw [hl, List.range_succ, List.map_append, List.map_append, List.map_append, List.map_append, List.map_append, List.set_append_right _ _ (by simp)]
  congr 1
  · rw [List.map_map, List.map_map, List.map_map]
    refine List.map_congr_left fun i hi => ?_
    have := List.mem_range.mp hi
    simp only [Function.comp, box0, boxD]
    rw [if_neg (by omega), optN_some]; rfl
  · simp [boxD, optN]
theorem box0_pl (s : List Int) (l : List Nat) : plAll 60 (l.map (box0 s)) = true := plAll_of (n := 59) fun d hd => by
  obtain ⟨k, _, rfl⟩ := List.mem_map.mp hd
  rfl
def S_p_tower_of : SpD := fun rs g Q => ∃ (start : List Int) (progs : List (List Deed)) (kd : Kd), rs = [.dat (.lst (start.map .int)), .dat (.lst (progs.map progD)), .dat (.str kd.k)] ∧ (start.length ≤ 60 ∧ progs.length ≤ 20 ∧ (∀ p ∈ progs, p.length ≤ 60) ∧ Q (.dat (towerOf start progs kd).enc) g)
theorem mo_p_tower_of : Mono S_p_tower_of := by
  rintro rs g P P2 h ⟨start, progs, kd, eRS, q⟩
  refine ⟨start, progs, kd, eRS, ?_⟩
  first | exact h _ _ q | exact ⟨q.1, h _ _ q.2⟩ | exact ⟨q.1, q.2.1, h _ _ q.2.2⟩ | exact ⟨q.1, q.2.1, q.2.2.1, h _ _ q.2.2.2⟩ | exact ⟨q.1, q.2.1, q.2.2.1, q.2.2.2.1, h _ _ q.2.2.2.2⟩ | exact ⟨q.1, fun x hx => h _ _ (q.2 x hx)⟩ | exact ⟨q.1, q.2.1, fun x hx => h _ _ (q.2.2 x hx)⟩ | exact ⟨q.1, q.2.1, fun x hx hy => h _ _ (q.2.2 x hx hy)⟩ | exact ⟨q.1, fun x y h1 => h _ _ (q.2 x y h1)⟩ | exact ⟨q.1, fun x y h1 h2 => h _ _ (q.2 x y h1 h2)⟩ | exact ⟨q.1, fun x h1 h2 => h _ _ (q.2 x h1 h2)⟩
theorem len_p_tower_of : ∀ rs g Q, S_p_tower_of rs g Q → rs.length = 3 := by
  rintro rs g Q ⟨start, progs, kd, rfl, q⟩
  rfl
theorem hS_p_tower_of : ∀ rs g Q, S_p_tower_of rs g Q → m_p_tower_of.W (wd Ss_p_tower_of glF dtF) (rs.map some ++ List.replicate (9 - rs.length) none) g (fun _ g2 => Fin g Q (.dat .non) g2) (Fin g Q) := by
  rintro rs g Q ⟨start, progs, kd, rfl, q⟩
  unfold m_p_tower_of
  obtain ⟨l1, l2, l3, q⟩ := q
  walk_at "dwh"
  refine ⟨start, progs, kd, rfl, l1, l2, l3, _, rfl, ?_⟩
  refine comp_map (box0 start) (by rw [enum_len, List.length_map]; omega) (fun _ => rfl) ?_ ?_
  · rintro k r l P hr hP
    obtain ⟨d, h1, rfl⟩ := enum_at hr
    rw [List.getElem?_map] at h1
    obtain ⟨x, h2, rfl⟩ := Option.map_eq_some_iff.mp h1
    refine ⟨_, rfl, ?_⟩
    unfold b_p_tower_of_0
    have h := hP []
    unfold box0 at h
    rw [List.getD_eq_getElem?_getD, h2, List.append_nil] at h
    clear hr h1 h2 hP
    walk_at "dwh"
    exact h
  · intro j
    rw [enum_len, List.length_map]
    unfold b_p_tower_of_4
    have tail : ∀ (hd : Hd) (j : Rg) (P : En → Rg → Prop), hd = (if start = [] then none else some 0, 0) → Ss.W (wd Ss_p_tower_of glF dtF) b_p_tower_of_3 [some (Rv.dat (D.lst (start.map D.int))), some (Rv.dat (D.lst (List.map progD progs))), some (Rv.dat (D.str kd.k)),
              some (Rv.ref (List.length g)), some (Rv.dat (D.tup [optN hd.1, D.int hd.2])), none, none, none, none]
            (g ++ Cell.lst (((boxesOf start).map boxD).map Rv.dat) :: j) P (Fin g Q) := by
      intro hd j P hhd
      unfold b_p_tower_of_3
      walk_at "dwh"
      refine comp_map (fun k => (handOf (progs.getD k [])).enc) (by rw [List.length_map, List.length_map]; omega) (fun _ => trivial) ?_ ?_
      · rintro k r l P hr hP
        rw [List.getElem?_map, List.getElem?_map] at hr
        obtain ⟨d, h1, rfl⟩ := Option.map_eq_some_iff.mp hr
        obtain ⟨ds, h2, rfl⟩ := Option.map_eq_some_iff.mp h1
        refine ⟨_, rfl, ?_⟩
        unfold b_p_tower_of_1
        have hds := l3 ds (List.mem_of_getElem? h2)
        have h := hP []
        rw [List.getD_eq_getElem?_getD, h2, List.append_nil] at h
        clear hr h1 h2 hP hhd
        walk_at "dwh"
        simp only [List.append_assoc, List.cons_append] at h
        exact ⟨ds, rfl, by omega, h⟩
      · intro j2
        rw [List.length_map, List.length_map]
        have e : (List.range progs.length).map (fun (k : Nat) => (handOf (progs.getD k [])).enc) = (progs.map handOf).map Hand.enc := by
          refine List.ext_getElem (by simp) fun i h1 h2 => ?_
          simp [List.getD_eq_getElem?_getD]
          rw [List.getElem?_eq_getElem (by simpa using h1)]; rfl
        rw [e]
        unfold b_p_tower_of_2
        walk_at "dwh"
        refine ⟨by decide, fin_frz (towerOf start progs kd).enc _ rfl ?_ q⟩
        have lk : ∀ (k : Nat) (x : Cell) (L : Rg), L[k]? = some x → (g ++ L)[g.length + k]? = some x := fun k x L e => by rw [get_app]; exact e
        refine .dic (Nat.le_add_right _ _) (lk _ _ _ (by simp only [List.getElem?_cons_succ, get_app, get_app0, List.getElem?_cons_zero] <;> rfl)) ?_
        refine .cons (.dat _) (.cons (.dat _) (.cons (.lst (Nat.le_refl _) get_app0 rd_dats) (.cons (.lst (ds := []) (Nat.le_add_right _ _) (lk _ _ _ (by simp only [List.getElem?_cons_succ, get_app, get_app0, List.getElem?_cons_zero] <;> rfl)) .nil) (.cons (.lst (Nat.le_add_right _ _) (lk _ _ _ (by simp only [List.getElem?_cons_succ, get_app, get_app0, List.getElem?_cons_zero] <;> rfl)) rd_dats) (.cons (.lst (ds := []) (Nat.le_add_right _ _) (lk _ _ _ (by simp only [List.getElem?_cons_succ, get_app, get_app0, List.getElem?_cons_zero] <;> rfl)) .nil) (.cons (.dat _) .nil))))))
    rcases List.eq_nil_or_concat start with rfl | ⟨init, z, rfl⟩
    · have z := tail (none, 0) (j ++ [.lst []]) (fun x g2 => Fin g Q (Rv.dat D.non) g2) rfl
      walk_at "dwh"
      exact ⟨rfl, fun _ => z, fun h => by simp at h⟩
    · rw [List.concat_eq_append] at *
      have z := tail (some 0, 0) (j ++ [.lst []]) (fun x g2 => Fin g Q (Rv.dat D.non) g2) (by simp)
      have hr : List.range (init.length + 1) = List.range init.length ++ [init.length] := List.range_succ
      have h1 := ixN_last (n := init.length)
      have h2 := fun (l : List Nat) (x : Nat) => atI_last (l := l) (x := x)
      walk_at "dwh"
      refine ⟨box0_pl _ _, fun h => by simp at h, fun _ => ⟨_, rfl, _, rfl, init.length, by rw [List.length_range]; exact h1, ?_⟩⟩
      rw [boxes_last]
      exact z

end DW

/-! ## F_p_copied.lean -/
set_option Elab.async false
set_option linter.all false
set_option maxRecDepth 100000
set_option maxHeartbeats 4000000
set_option autoImplicit false
namespace DW
open PySem PySem.Spec L2
open PyProof.Rows hiding St

local macro_rules | `(tactic| walk_at "dw") => `(tactic| simp (config := { maxSteps := 1000000 }) only [and_assoc, natD, mapint_inj, mapnat_inj, denc_inj, wfor_eq, ixD, ixM, cut_one, List.tail_cons, List.tail_nil, eqvs_nil, List.isEmpty_cons, List.isEmpty_nil, plAll_int, plAll_nat, Ss.W, Sm.W, Ex.W, Ex.T, Es.W, wVar, BOp.B, COp.B, Bi.B, IxK.B, bI0, bIC, bEq, bIs, bIn, bIxL, bIxT, bIxS, bIxK, bCat, bCatT, bRep, cLen, cInt, cMin2, cList, cTup, wantB, wAndT, wOrT, wAndV, wOrV, wNotV, lenOf, lstOf_ref, lstOf_lst, seqOf, dicOf_ref, dicOf_dic, wPart, wIter, tstW, mAppend, mPop, mPopAt, mClear, wSetIx, wSetKey, Tg.put, wipeN, Cell.lst.injEq, Cell.dic.injEq, Cell.fz.injEq, List.length_map, tyR, tyD,
    eqv_ii, eqv_ss, eqv_bb, eqv_nn, eqv_ll, eqv_tt, eqn_non_int, eqn_non_str, eqn_non_lst, eqn_non_tup, eqn_non_bl, eqn_non_dic, eqn_int_non, eqn_int_str, eqn_int_lst, eqn_int_tup, eqn_int_dic, eqn_str_non, eqn_str_int, eqn_str_lst, eqn_str_tup, eqn_str_bl, eqn_str_dic, eqn_lst_non, eqn_lst_int, eqn_lst_str, eqn_lst_tup, eqn_lst_bl, eqn_lst_dic, eqn_tup_non, eqn_tup_int, eqn_tup_str, eqn_tup_lst, eqn_tup_bl, eqn_tup_dic, eqn_bl_non, eqn_bl_str, eqn_bl_lst, eqn_bl_tup, eqn_bl_dic, eqvs, atI_lit, cdiv_lit, cmul_r, cmul_l, cpow_lit, nrm_dat, nrm_ref, plN, plAll, rd_dat, rd_ref, rds_nil, rds_cons, rds_map, rdk_nil, rdk_cons, wFrz, frz1, wFrzL, frzs, datsN, datsN_map, datsK, isNon, tyNames, kbs,
    Option.map_some, Option.map_none, Option.isSome_some, List.getD_cons_zero, List.getD_cons_succ, List.getD_nil, get_app, get_app0, set_app, set_app0, List.length_append, List.append_assoc, List.any_cons, List.any_nil, List.zip_cons_cons, List.zip_nil_left, List.zip_nil_right,
    List.map_cons, List.map_nil, List.cons_append, List.nil_append, List.append_nil, List.length_cons, List.length_nil, List.replicate, List.set_cons_zero, List.set_cons_succ, List.getElem?_cons_zero, List.getElem?_cons_succ, List.set_nil, List.getElem?_nil,
    Nat.reduceAdd, Nat.reduceSub, Nat.reduceBEq, Nat.reduceLeDiff, Nat.reduceEqDiff, Nat.sub_self, Nat.zero_add, Nat.add_zero, Nat.zero_le, Nat.le_add_right, Nat.le_refl, Int.reduceToNat, Int.reduceLE, Nat.reduceLT, Nat.reducePow, Int.reducePow, Int.reduceNeg, or_true, true_or, Int.reduceLT, Bool.false_eq_true, if_true, if_false, forall_const, false_implies, true_implies, implies_true, Int.reduceEq, cast_lit, not_true_eq_false, not_false_eq_true, Bool.not_true, Bool.not_false, Bool.not_eq_true', Bool.not_eq_false', Bool.and_true, Bool.true_and, Bool.and_false, Bool.false_and, Bool.or_false, Bool.false_or, Bool.or_true, Bool.true_or, reduceCtorEq, false_and, and_false, or_false, false_or, beq_self_eq_true,
    Option.some.injEq, Prod.mk.injEq, Rv.dat.injEq, Rv.ref.injEq, D.int.injEq, D.bl.injEq, D.str.injEq, D.tup.injEq, D.lst.injEq, D.dic.injEq, D.scr.injEq, List.cons.injEq, and_true, true_and, exists_and_left, exists_and_right, exists_eq_left, exists_eq_left', exists_eq_right, exists_eq_right', exists_eq, exists_eq', exists_const, decide_eq_true_eq, decide_eq_false_iff_not, Bool.and_eq_true, beq_iff_eq, beq_eq_false_iff_ne, ne_eq, decide_true, decide_false, hdR_len, stR_len, hdR_24, hdR_25, hdR_26, hdR_27, hdR_28, hdR_29, hdR_30, stR_16, stR_18, stR_19, stR_20, stR_21, stR_22, stR_23, hdP_25, hdP_26, hdP_27, hdP_28, hdP_29, hdP_30, stP_16, stP_19, stP_20, stP_21, stP_22, stP_23, hdD, List.length_set, set_two, denc_push, denc_swap, denc_pop, denc_top, denc_clear, eqv_optN, plN_optN, isNon_optN, optN_some, optN_none, seenD_some, seenD_none, items_pair, items_vals, phk, kdk, List.getElem?_set_self, List.getElem?_set_ne, List.getElem?_append_left, ltaddr, boxD, cDict])
local macro_rules | `(tactic| walk_at "dwh") => `(tactic| simp (config := { maxSteps := 1000000 }) only [and_assoc, natD, mapint_inj, mapnat_inj, denc_inj, wfor_eq, ixD, ixM, cut_one, List.tail_cons, List.tail_nil, eqvs_nil, List.isEmpty_cons, List.isEmpty_nil, plAll_int, plAll_nat, Ss.W, Sm.W, Ex.W, Ex.T, Es.W, wVar, BOp.B, COp.B, Bi.B, IxK.B, bI0, bIC, bEq, bIs, bIn, bIxL, bIxT, bIxS, bIxK, bCat, bCatT, bRep, cLen, cInt, cMin2, cList, cTup, wantB, wAndT, wOrT, wAndV, wOrV, wNotV, lenOf, lstOf_ref, lstOf_lst, seqOf, dicOf_ref, dicOf_dic, wPart, wIter, tstW, mAppend, mPop, mPopAt, mClear, wSetIx, wSetKey, Tg.put, wipeN, Cell.lst.injEq, Cell.dic.injEq, Cell.fz.injEq, List.length_map, tyR, tyD,
    eqv_ii, eqv_ss, eqv_bb, eqv_nn, eqv_ll, eqv_tt, eqn_non_int, eqn_non_str, eqn_non_lst, eqn_non_tup, eqn_non_bl, eqn_non_dic, eqn_int_non, eqn_int_str, eqn_int_lst, eqn_int_tup, eqn_int_dic, eqn_str_non, eqn_str_int, eqn_str_lst, eqn_str_tup, eqn_str_bl, eqn_str_dic, eqn_lst_non, eqn_lst_int, eqn_lst_str, eqn_lst_tup, eqn_lst_bl, eqn_lst_dic, eqn_tup_non, eqn_tup_int, eqn_tup_str, eqn_tup_lst, eqn_tup_bl, eqn_tup_dic, eqn_bl_non, eqn_bl_str, eqn_bl_lst, eqn_bl_tup, eqn_bl_dic, eqvs, atI_lit, cdiv_lit, cmul_r, cmul_l, cpow_lit, nrm_dat, nrm_ref, plN, plAll, rd_dat, rd_ref, rds_nil, rds_cons, rds_map, rdk_nil, rdk_cons, wFrz, frz1, wFrzL, frzs, datsN, datsN_map, datsK, isNon, tyNames, kbs,
    Option.map_some, Option.map_none, Option.isSome_some, List.getD_cons_zero, List.getD_cons_succ, List.getD_nil, get_app, get_app0, set_app, set_app0, List.length_append, List.append_assoc, List.any_cons, List.any_nil, List.zip_cons_cons, List.zip_nil_left, List.zip_nil_right,
    List.map_cons, List.map_nil, List.cons_append, List.nil_append, List.append_nil, List.length_cons, List.length_nil, List.replicate, List.set_cons_zero, List.set_cons_succ, List.getElem?_cons_zero, List.getElem?_cons_succ, List.set_nil, List.getElem?_nil,
    Nat.reduceAdd, Nat.reduceSub, Nat.reduceBEq, Nat.reduceLeDiff, Nat.reduceEqDiff, Nat.sub_self, Nat.zero_add, Nat.add_zero, Nat.zero_le, Nat.le_add_right, Nat.le_refl, Int.reduceToNat, Int.reduceLE, Nat.reduceLT, Nat.reducePow, Int.reducePow, Int.reduceNeg, or_true, true_or, Int.reduceLT, Bool.false_eq_true, if_true, if_false, forall_const, false_implies, true_implies, implies_true, Int.reduceEq, cast_lit, not_true_eq_false, not_false_eq_true, Bool.not_true, Bool.not_false, Bool.not_eq_true', Bool.not_eq_false', Bool.and_true, Bool.true_and, Bool.and_false, Bool.false_and, Bool.or_false, Bool.false_or, Bool.or_true, Bool.true_or, reduceCtorEq, false_and, and_false, or_false, false_or, beq_self_eq_true,
    Option.some.injEq, Prod.mk.injEq, Rv.dat.injEq, Rv.ref.injEq, D.int.injEq, D.bl.injEq, D.str.injEq, D.tup.injEq, D.lst.injEq, D.dic.injEq, D.scr.injEq, List.cons.injEq, and_true, true_and, exists_and_left, exists_and_right, exists_eq_left, exists_eq_left', exists_eq_right, exists_eq_right', exists_eq, exists_eq', exists_const, decide_eq_true_eq, decide_eq_false_iff_not, Bool.and_eq_true, beq_iff_eq, beq_eq_false_iff_ne, ne_eq, decide_true, decide_false, hdR_len, stR_len, hdR_24, hdR_25, hdR_26, hdR_27, hdR_28, hdR_29, hdR_30, stR_16, stR_18, stR_19, stR_20, stR_21, stR_22, stR_23, hdP_25, hdP_26, hdP_27, hdP_28, hdP_29, hdP_30, stP_16, stP_19, stP_20, stP_21, stP_22, stP_23, hdD, List.length_set, set_two, denc_push, denc_swap, denc_pop, denc_top, denc_clear, eqv_optN, plN_optN, isNon_optN, optN_some, optN_none, seenD_some, seenD_none, items_pair, items_vals, phk, kdk, List.getElem?_set_self, List.getElem?_set_ne, List.getElem?_append_left, ltaddr, boxD, cDict, *])
local macro_rules | `(tactic| walk_at "dwf") => `(tactic| simp (config := { maxSteps := 1000000 }) only [and_assoc, natD, mapint_inj, mapnat_inj, denc_inj, wfor_eq, ixD, ixM, cut_one, List.tail_cons, List.tail_nil, eqvs_nil, List.isEmpty_cons, List.isEmpty_nil, plAll_int, plAll_nat, Ss.W, Sm.W, Ex.W, Ex.T, Es.W, wVar, BOp.B, COp.B, Bi.B, IxK.B, bI0, bIC, bEq, bIs, bIn, bIxL, bIxT, bIxS, bIxK, bCat, bCatT, bRep, cLen, cInt, cMin2, cList, cTup, wantB, wAndT, wOrT, wAndV, wOrV, wNotV, lenOf, lstOf_ref, lstOf_lst, seqOf, dicOf_ref, dicOf_dic, wPart, wIter, tstW, mAppend, mPop, mPopAt, mClear, wSetIx, wSetKey, Tg.put, wipeN, Cell.lst.injEq, Cell.dic.injEq, Cell.fz.injEq, List.length_map, tyR, tyD,
    eqv_ii, eqv_ss, eqv_bb, eqv_nn, eqv_ll, eqv_tt, eqn_non_int, eqn_non_str, eqn_non_lst, eqn_non_tup, eqn_non_bl, eqn_non_dic, eqn_int_non, eqn_int_str, eqn_int_lst, eqn_int_tup, eqn_int_dic, eqn_str_non, eqn_str_int, eqn_str_lst, eqn_str_tup, eqn_str_bl, eqn_str_dic, eqn_lst_non, eqn_lst_int, eqn_lst_str, eqn_lst_tup, eqn_lst_bl, eqn_lst_dic, eqn_tup_non, eqn_tup_int, eqn_tup_str, eqn_tup_lst, eqn_tup_bl, eqn_tup_dic, eqn_bl_non, eqn_bl_str, eqn_bl_lst, eqn_bl_tup, eqn_bl_dic, eqvs, atI_lit, cdiv_lit, cmul_r, cmul_l, cpow_lit, nrm_dat, nrm_ref, plN, plAll, rd_dat, rd_ref, rds_nil, rds_cons, rds_map, rdk_nil, rdk_cons,               isNon, tyNames, kbs,
    Option.map_some, Option.map_none, Option.isSome_some, List.getD_cons_zero, List.getD_cons_succ, List.getD_nil, get_app, get_app0, set_app, set_app0, List.length_append, List.append_assoc, List.any_cons, List.any_nil, List.zip_cons_cons, List.zip_nil_left, List.zip_nil_right,
    List.map_cons, List.map_nil, List.cons_append, List.nil_append, List.append_nil, List.length_cons, List.length_nil, List.replicate, List.set_cons_zero, List.set_cons_succ, List.getElem?_cons_zero, List.getElem?_cons_succ, List.set_nil, List.getElem?_nil,
    Nat.reduceAdd, Nat.reduceSub, Nat.reduceBEq, Nat.reduceLeDiff, Nat.reduceEqDiff, Nat.sub_self, Nat.zero_add, Nat.add_zero, Nat.zero_le, Nat.le_add_right, Nat.le_refl, Int.reduceToNat, Int.reduceLE, Nat.reduceLT, Nat.reducePow, Int.reducePow, Int.reduceNeg, or_true, true_or, Int.reduceLT, Bool.false_eq_true, if_true, if_false, forall_const, false_implies, true_implies, implies_true, Int.reduceEq, cast_lit, not_true_eq_false, not_false_eq_true, Bool.not_true, Bool.not_false, Bool.not_eq_true', Bool.not_eq_false', Bool.and_true, Bool.true_and, Bool.and_false, Bool.false_and, Bool.or_false, Bool.false_or, Bool.or_true, Bool.true_or, reduceCtorEq, false_and, and_false, or_false, false_or, beq_self_eq_true,
    Option.some.injEq, Prod.mk.injEq, Rv.dat.injEq, Rv.ref.injEq, D.int.injEq, D.bl.injEq, D.str.injEq, D.tup.injEq, D.lst.injEq, D.dic.injEq, D.scr.injEq, List.cons.injEq, and_true, true_and, exists_and_left, exists_and_right, exists_eq_left, exists_eq_left', exists_eq_right, exists_eq_right', exists_eq, exists_eq', exists_const, decide_eq_true_eq, decide_eq_false_iff_not, Bool.and_eq_true, beq_iff_eq, beq_eq_false_iff_ne, ne_eq, decide_true, decide_false, hdR_len, stR_len, hdR_24, hdR_25, hdR_26, hdR_27, hdR_28, hdR_29, hdR_30, stR_16, stR_18, stR_19, stR_20, stR_21, stR_22, stR_23, hdP_25, hdP_26, hdP_27, hdP_28, hdP_29, hdP_30, stP_16, stP_19, stP_20, stP_21, stP_22, stP_23, hdD, List.length_set, set_two, denc_push, denc_swap, denc_pop, denc_top, denc_clear, eqv_optN, plN_optN, isNon_optN, optN_some, optN_none, seenD_some, seenD_none, items_pair, items_vals, phk, kdk, List.getElem?_set_self, List.getElem?_set_ne, List.getElem?_append_left, ltaddr, boxD, cDict, *])
abbrev fn_p_copied : List Str := []
def b_p_copied_0 : DW.Ss := (.cons (.set 3 (.bi .dict1 (.cons (.var 2) .nil)))
  (.cons (.setKey (.var 3) (.str 29) (.bi .list1 (.cons (.ix .k (.var 2) (.str 29)) .nil)))
  (.cons (.expr (.app (.var 1) (.var 3)))
  .nil)))
def b_p_copied_1 : DW.Ss := (.cons (.set 4 (.bi .dict1 (.cons (.var 0) .nil)))
  (.cons (.setKey (.var 4) (.str 20) (.bi .list1 (.cons (.ix .k (.var 0) (.str 20)) .nil)))
  (.cons (.setKey (.var 4) (.str 16) (.bi .list1 (.cons (.ix .k (.var 0) (.str 16)) .nil)))
  (.cons (.setKey (.var 4) (.str 22) (.bi .list1 (.cons (.ix .k (.var 0) (.str 22)) .nil)))
  (.cons (.setKey (.var 4) (.str 21) (.var 1))
  (.cons (.ret (.var 4))
  .nil))))))
def m_p_copied : DW.Ss := (.cons (.set 1 (.lst .nil))
  (.cons (.for_ (.name 2) .list (.ix .k (.var 0) (.str 21)) .non b_p_copied_0)
  b_p_copied_1))
abbrev Ss_p_copied : List SpD := []
def S_p_copied : SpD := fun rs g Q => ∃ (s : St), rs = [.dat s.enc] ∧ (s.hands.length ≤ 1000 ∧ s.boxes.length ≤ 900000 ∧ s.spare.length ≤ 900000 ∧ s.rows.length ≤ 900000 ∧ (∀ x ∈ s.hands, x.got.items.length ≤ 900000) ∧ Q (.ref (g.length + 1 + 2 * s.hands.length)) (g ++ copyC g.length s))
theorem mo_p_copied : Mono S_p_copied := by
  rintro rs g P P2 h ⟨s, eRS, q⟩
  refine ⟨s, eRS, ?_⟩
  exact ⟨q.1, q.2.1, q.2.2.1, q.2.2.2.1, q.2.2.2.2.1, h _ _ q.2.2.2.2.2⟩
theorem len_p_copied : ∀ rs g Q, S_p_copied rs g Q → rs.length = 1 := by
  rintro rs g Q ⟨s, rfl, q⟩
  rfl
theorem hS_p_copied : ∀ rs g Q, S_p_copied rs g Q → m_p_copied.W (wd Ss_p_copied glF dtF) (rs.map some ++ List.replicate (5 - rs.length) none) g (fun _ g2 => Fin g Q (.dat .non) g2) (Fin g Q) := by
  rintro rs g Q ⟨s, rfl, q⟩
  unfold m_p_copied
  obtain ⟨l1, l2, l3, l4, l5, q⟩ := q
  have hds := fun (g : Rg) => dicOf_st (g := g) (s := s)
  unfold stL at hds
  walk_at "dwh"
  refine wloop (fun k env g2 => ∃ x2 x3 : Option Rv, env = [some (.dat s.enc), some (.ref g.length), x2, x3, none] ∧ g2 = g ++ (.lst (hrefs (g.length + 1) k) :: hcells (g.length + 1) (s.hands.take k)) ∧ k ≤ s.hands.length)
    ⟨none, none, rfl, rfl, Nat.zero_le _⟩ (fun _ _ _ _ => trivial) ?_ ?_
  · rintro k r env g2 hkr ⟨x2, x3, rfl, rfl, hk⟩
    rw [List.getElem?_map, List.getElem?_map] at hkr
    obtain ⟨d, hkr1, e1⟩ := Option.map_eq_some_iff.mp hkr
    obtain ⟨x, hkr2, e2⟩ := Option.map_eq_some_iff.mp hkr1
    subst e2; subst e1
    clear hkr hkr1
    refine ⟨_, rfl, ?_⟩
    unfold b_p_copied_0
    have hdh := fun (g : Rg) => dicOf_hd (g := g) (h := x)
    unfold handL at hdh
    have hgl := l5 x (List.mem_of_getElem? hkr2)
    have hkl := (List.getElem?_eq_some_iff.mp hkr2).1
    have htk : s.hands.take (k + 1) = s.hands.take k ++ [x] := by rw [List.take_add_one, hkr2]; rfl
    have htl : (s.hands.take k).length = k := by rw [List.length_take]; omega
    walk_at "dwh"
    rw [hrefs_len, hcells_len]
    refine ⟨by omega, ?_, hkl⟩
    rw [hrefs_succ, hcells_app, htl]
    have e1 : g.length + (2 * k + 1) = g.length + 1 + 2 * k := by omega
    have e2 : g.length + (2 * k + 1 + 1) = g.length + 1 + 2 * k + 1 := by omega
    rw [e1, e2]; rfl
  · rintro env g2 ⟨x2, x3, rfl, rfl, hk⟩
    unfold b_p_copied_1
    walk_at "dwh"
    rw [List.take_length, hcells_len]
    have e1 : g.length + (2 * s.hands.length + 1) = g.length + 1 + 2 * s.hands.length := by omega
    have e2 : g.length + (2 * s.hands.length + 1 + 1) = g.length + 1 + 2 * s.hands.length + 1 := by omega
    have e3 : g.length + (2 * s.hands.length + 2 + 1) = g.length + 1 + 2 * s.hands.length + 2 := by omega
    rw [e1, e2, e3]
    exact fin_copy q

end DW

/-! ## F_p_head_of.lean -/
set_option Elab.async false
set_option linter.all false
set_option maxRecDepth 100000
set_option maxHeartbeats 4000000
set_option autoImplicit false
namespace DW
open PySem PySem.Spec L2
open PyProof.Rows hiding St

local macro_rules | `(tactic| walk_at "dw") => `(tactic| simp (config := { maxSteps := 1000000 }) only [and_assoc, natD, mapint_inj, mapnat_inj, denc_inj, wfor_eq, ixD, ixM, cut_one, List.tail_cons, List.tail_nil, eqvs_nil, List.isEmpty_cons, List.isEmpty_nil, plAll_int, plAll_nat, Ss.W, Sm.W, Ex.W, Ex.T, Es.W, wVar, BOp.B, COp.B, Bi.B, IxK.B, bI0, bIC, bEq, bIs, bIn, bIxL, bIxT, bIxS, bIxK, bCat, bCatT, bRep, cLen, cInt, cMin2, cList, cTup, wantB, wAndT, wOrT, wAndV, wOrV, wNotV, lenOf, lstOf_ref, lstOf_lst, seqOf, dicOf_ref, dicOf_dic, wPart, wIter, tstW, mAppend, mPop, mPopAt, mClear, wSetIx, wSetKey, Tg.put, wipeN, Cell.lst.injEq, Cell.dic.injEq, Cell.fz.injEq, List.length_map, tyR, tyD,
    eqv_ii, eqv_ss, eqv_bb, eqv_nn, eqv_ll, eqv_tt, eqn_non_int, eqn_non_str, eqn_non_lst, eqn_non_tup, eqn_non_bl, eqn_non_dic, eqn_int_non, eqn_int_str, eqn_int_lst, eqn_int_tup, eqn_int_dic, eqn_str_non, eqn_str_int, eqn_str_lst, eqn_str_tup, eqn_str_bl, eqn_str_dic, eqn_lst_non, eqn_lst_int, eqn_lst_str, eqn_lst_tup, eqn_lst_bl, eqn_lst_dic, eqn_tup_non, eqn_tup_int, eqn_tup_str, eqn_tup_lst, eqn_tup_bl, eqn_tup_dic, eqn_bl_non, eqn_bl_str, eqn_bl_lst, eqn_bl_tup, eqn_bl_dic, eqvs, atI_lit, cdiv_lit, cmul_r, cmul_l, cpow_lit, nrm_dat, nrm_ref, plN, plAll, rd_dat, rd_ref, rds_nil, rds_cons, rds_map, rdk_nil, rdk_cons, wFrz, frz1, wFrzL, frzs, datsN, datsN_map, datsK, isNon, tyNames, kbs,
    Option.map_some, Option.map_none, Option.isSome_some, List.getD_cons_zero, List.getD_cons_succ, List.getD_nil, get_app, get_app0, set_app, set_app0, List.length_append, List.append_assoc, List.any_cons, List.any_nil, List.zip_cons_cons, List.zip_nil_left, List.zip_nil_right,
    List.map_cons, List.map_nil, List.cons_append, List.nil_append, List.append_nil, List.length_cons, List.length_nil, List.replicate, List.set_cons_zero, List.set_cons_succ, List.getElem?_cons_zero, List.getElem?_cons_succ, List.set_nil, List.getElem?_nil,
    Nat.reduceAdd, Nat.reduceSub, Nat.reduceBEq, Nat.reduceLeDiff, Nat.reduceEqDiff, Nat.sub_self, Nat.zero_add, Nat.add_zero, Nat.zero_le, Nat.le_add_right, Nat.le_refl, Int.reduceToNat, Int.reduceLE, Nat.reduceLT, Nat.reducePow, Int.reducePow, Int.reduceNeg, or_true, true_or, Int.reduceLT, Bool.false_eq_true, if_true, if_false, forall_const, false_implies, true_implies, implies_true, Int.reduceEq, cast_lit, not_true_eq_false, not_false_eq_true, Bool.not_true, Bool.not_false, Bool.not_eq_true', Bool.not_eq_false', Bool.and_true, Bool.true_and, Bool.and_false, Bool.false_and, Bool.or_false, Bool.false_or, Bool.or_true, Bool.true_or, reduceCtorEq, false_and, and_false, or_false, false_or, beq_self_eq_true,
    Option.some.injEq, Prod.mk.injEq, Rv.dat.injEq, Rv.ref.injEq, D.int.injEq, D.bl.injEq, D.str.injEq, D.tup.injEq, D.lst.injEq, D.dic.injEq, D.scr.injEq, List.cons.injEq, and_true, true_and, exists_and_left, exists_and_right, exists_eq_left, exists_eq_left', exists_eq_right, exists_eq_right', exists_eq, exists_eq', exists_const, decide_eq_true_eq, decide_eq_false_iff_not, Bool.and_eq_true, beq_iff_eq, beq_eq_false_iff_ne, ne_eq, decide_true, decide_false, hdR_len, stR_len, hdR_24, hdR_25, hdR_26, hdR_27, hdR_28, hdR_29, hdR_30, stR_16, stR_18, stR_19, stR_20, stR_21, stR_22, stR_23, hdP_25, hdP_26, hdP_27, hdP_28, hdP_29, hdP_30, stP_16, stP_19, stP_20, stP_21, stP_22, stP_23, hdD, List.length_set, set_two, denc_push, denc_swap, denc_pop, denc_top, denc_clear, eqv_optN, plN_optN, isNon_optN, optN_some, optN_none, seenD_some, seenD_none, items_pair, items_vals, phk, kdk, List.getElem?_set_self, List.getElem?_set_ne, List.getElem?_append_left, ltaddr, boxD, cDict])
local macro_rules | `(tactic| walk_at "dwh") => `(tactic| simp (config := { maxSteps := 1000000 }) only [and_assoc, natD, mapint_inj, mapnat_inj, denc_inj, wfor_eq, ixD, ixM, cut_one, List.tail_cons, List.tail_nil, eqvs_nil, List.isEmpty_cons, List.isEmpty_nil, plAll_int, plAll_nat, Ss.W, Sm.W, Ex.W, Ex.T, Es.W, wVar, BOp.B, COp.B, Bi.B, IxK.B, bI0, bIC, bEq, bIs, bIn, bIxL, bIxT, bIxS, bIxK, bCat, bCatT, bRep, cLen, cInt, cMin2, cList, cTup, wantB, wAndT, wOrT, wAndV, wOrV, wNotV, lenOf, lstOf_ref, lstOf_lst, seqOf, dicOf_ref, dicOf_dic, wPart, wIter, tstW, mAppend, mPop, mPopAt, mClear, wSetIx, wSetKey, Tg.put, wipeN, Cell.lst.injEq, Cell.dic.injEq, Cell.fz.injEq, List.length_map, tyR, tyD,
    eqv_ii, eqv_ss, eqv_bb, eqv_nn, eqv_ll, eqv_tt, eqn_non_int, eqn_non_str, eqn_non_lst, eqn_non_tup, eqn_non_bl, eqn_non_dic, eqn_int_non, eqn_int_str, eqn_int_lst, eqn_int_tup, eqn_int_dic, eqn_str_non, eqn_str_int, eqn_str_lst, eqn_str_tup, eqn_str_bl, eqn_str_dic, eqn_lst_non, eqn_lst_int, eqn_lst_str, eqn_lst_tup, eqn_lst_bl, eqn_lst_dic, eqn_tup_non, eqn_tup_int, eqn_tup_str, eqn_tup_lst, eqn_tup_bl, eqn_tup_dic, eqn_bl_non, eqn_bl_str, eqn_bl_lst, eqn_bl_tup, eqn_bl_dic, eqvs, atI_lit, cdiv_lit, cmul_r, cmul_l, cpow_lit, nrm_dat, nrm_ref, plN, plAll, rd_dat, rd_ref, rds_nil, rds_cons, rds_map, rdk_nil, rdk_cons, wFrz, frz1, wFrzL, frzs, datsN, datsN_map, datsK, isNon, tyNames, kbs,
    Option.map_some, Option.map_none, Option.isSome_some, List.getD_cons_zero, List.getD_cons_succ, List.getD_nil, get_app, get_app0, set_app, set_app0, List.length_append, List.append_assoc, List.any_cons, List.any_nil, List.zip_cons_cons, List.zip_nil_left, List.zip_nil_right,
    List.map_cons, List.map_nil, List.cons_append, List.nil_append, List.append_nil, List.length_cons, List.length_nil, List.replicate, List.set_cons_zero, List.set_cons_succ, List.getElem?_cons_zero, List.getElem?_cons_succ, List.set_nil, List.getElem?_nil,
    Nat.reduceAdd, Nat.reduceSub, Nat.reduceBEq, Nat.reduceLeDiff, Nat.reduceEqDiff, Nat.sub_self, Nat.zero_add, Nat.add_zero, Nat.zero_le, Nat.le_add_right, Nat.le_refl, Int.reduceToNat, Int.reduceLE, Nat.reduceLT, Nat.reducePow, Int.reducePow, Int.reduceNeg, or_true, true_or, Int.reduceLT, Bool.false_eq_true, if_true, if_false, forall_const, false_implies, true_implies, implies_true, Int.reduceEq, cast_lit, not_true_eq_false, not_false_eq_true, Bool.not_true, Bool.not_false, Bool.not_eq_true', Bool.not_eq_false', Bool.and_true, Bool.true_and, Bool.and_false, Bool.false_and, Bool.or_false, Bool.false_or, Bool.or_true, Bool.true_or, reduceCtorEq, false_and, and_false, or_false, false_or, beq_self_eq_true,
    Option.some.injEq, Prod.mk.injEq, Rv.dat.injEq, Rv.ref.injEq, D.int.injEq, D.bl.injEq, D.str.injEq, D.tup.injEq, D.lst.injEq, D.dic.injEq, D.scr.injEq, List.cons.injEq, and_true, true_and, exists_and_left, exists_and_right, exists_eq_left, exists_eq_left', exists_eq_right, exists_eq_right', exists_eq, exists_eq', exists_const, decide_eq_true_eq, decide_eq_false_iff_not, Bool.and_eq_true, beq_iff_eq, beq_eq_false_iff_ne, ne_eq, decide_true, decide_false, hdR_len, stR_len, hdR_24, hdR_25, hdR_26, hdR_27, hdR_28, hdR_29, hdR_30, stR_16, stR_18, stR_19, stR_20, stR_21, stR_22, stR_23, hdP_25, hdP_26, hdP_27, hdP_28, hdP_29, hdP_30, stP_16, stP_19, stP_20, stP_21, stP_22, stP_23, hdD, List.length_set, set_two, denc_push, denc_swap, denc_pop, denc_top, denc_clear, eqv_optN, plN_optN, isNon_optN, optN_some, optN_none, seenD_some, seenD_none, items_pair, items_vals, phk, kdk, List.getElem?_set_self, List.getElem?_set_ne, List.getElem?_append_left, ltaddr, boxD, cDict, *])
local macro_rules | `(tactic| walk_at "dwf") => `(tactic| simp (config := { maxSteps := 1000000 }) only [and_assoc, natD, mapint_inj, mapnat_inj, denc_inj, wfor_eq, ixD, ixM, cut_one, List.tail_cons, List.tail_nil, eqvs_nil, List.isEmpty_cons, List.isEmpty_nil, plAll_int, plAll_nat, Ss.W, Sm.W, Ex.W, Ex.T, Es.W, wVar, BOp.B, COp.B, Bi.B, IxK.B, bI0, bIC, bEq, bIs, bIn, bIxL, bIxT, bIxS, bIxK, bCat, bCatT, bRep, cLen, cInt, cMin2, cList, cTup, wantB, wAndT, wOrT, wAndV, wOrV, wNotV, lenOf, lstOf_ref, lstOf_lst, seqOf, dicOf_ref, dicOf_dic, wPart, wIter, tstW, mAppend, mPop, mPopAt, mClear, wSetIx, wSetKey, Tg.put, wipeN, Cell.lst.injEq, Cell.dic.injEq, Cell.fz.injEq, List.length_map, tyR, tyD,
    eqv_ii, eqv_ss, eqv_bb, eqv_nn, eqv_ll, eqv_tt, eqn_non_int, eqn_non_str, eqn_non_lst, eqn_non_tup, eqn_non_bl, eqn_non_dic, eqn_int_non, eqn_int_str, eqn_int_lst, eqn_int_tup, eqn_int_dic, eqn_str_non, eqn_str_int, eqn_str_lst, eqn_str_tup, eqn_str_bl, eqn_str_dic, eqn_lst_non, eqn_lst_int, eqn_lst_str, eqn_lst_tup, eqn_lst_bl, eqn_lst_dic, eqn_tup_non, eqn_tup_int, eqn_tup_str, eqn_tup_lst, eqn_tup_bl, eqn_tup_dic, eqn_bl_non, eqn_bl_str, eqn_bl_lst, eqn_bl_tup, eqn_bl_dic, eqvs, atI_lit, cdiv_lit, cmul_r, cmul_l, cpow_lit, nrm_dat, nrm_ref, plN, plAll, rd_dat, rd_ref, rds_nil, rds_cons, rds_map, rdk_nil, rdk_cons,               isNon, tyNames, kbs,
    Option.map_some, Option.map_none, Option.isSome_some, List.getD_cons_zero, List.getD_cons_succ, List.getD_nil, get_app, get_app0, set_app, set_app0, List.length_append, List.append_assoc, List.any_cons, List.any_nil, List.zip_cons_cons, List.zip_nil_left, List.zip_nil_right,
    List.map_cons, List.map_nil, List.cons_append, List.nil_append, List.append_nil, List.length_cons, List.length_nil, List.replicate, List.set_cons_zero, List.set_cons_succ, List.getElem?_cons_zero, List.getElem?_cons_succ, List.set_nil, List.getElem?_nil,
    Nat.reduceAdd, Nat.reduceSub, Nat.reduceBEq, Nat.reduceLeDiff, Nat.reduceEqDiff, Nat.sub_self, Nat.zero_add, Nat.add_zero, Nat.zero_le, Nat.le_add_right, Nat.le_refl, Int.reduceToNat, Int.reduceLE, Nat.reduceLT, Nat.reducePow, Int.reducePow, Int.reduceNeg, or_true, true_or, Int.reduceLT, Bool.false_eq_true, if_true, if_false, forall_const, false_implies, true_implies, implies_true, Int.reduceEq, cast_lit, not_true_eq_false, not_false_eq_true, Bool.not_true, Bool.not_false, Bool.not_eq_true', Bool.not_eq_false', Bool.and_true, Bool.true_and, Bool.and_false, Bool.false_and, Bool.or_false, Bool.false_or, Bool.or_true, Bool.true_or, reduceCtorEq, false_and, and_false, or_false, false_or, beq_self_eq_true,
    Option.some.injEq, Prod.mk.injEq, Rv.dat.injEq, Rv.ref.injEq, D.int.injEq, D.bl.injEq, D.str.injEq, D.tup.injEq, D.lst.injEq, D.dic.injEq, D.scr.injEq, List.cons.injEq, and_true, true_and, exists_and_left, exists_and_right, exists_eq_left, exists_eq_left', exists_eq_right, exists_eq_right', exists_eq, exists_eq', exists_const, decide_eq_true_eq, decide_eq_false_iff_not, Bool.and_eq_true, beq_iff_eq, beq_eq_false_iff_ne, ne_eq, decide_true, decide_false, hdR_len, stR_len, hdR_24, hdR_25, hdR_26, hdR_27, hdR_28, hdR_29, hdR_30, stR_16, stR_18, stR_19, stR_20, stR_21, stR_22, stR_23, hdP_25, hdP_26, hdP_27, hdP_28, hdP_29, hdP_30, stP_16, stP_19, stP_20, stP_21, stP_22, stP_23, hdD, List.length_set, set_two, denc_push, denc_swap, denc_pop, denc_top, denc_clear, eqv_optN, plN_optN, isNon_optN, optN_some, optN_none, seenD_some, seenD_none, items_pair, items_vals, phk, kdk, List.getElem?_set_self, List.getElem?_set_ne, List.getElem?_append_left, ltaddr, boxD, cDict, *])
abbrev fn_p_head_of : List Str := []
def m_p_head_of : DW.Ss := (.cons (.ret (.ix .k (.var 0) (.str 19)))
  .nil)
abbrev Ss_p_head_of : List SpD := []
def S_p_head_of : SpD := fun rs g Q => ∃ (s : St), rs = [.dat s.enc] ∧ (Q (.dat (hdD s.head)) g)
theorem mo_p_head_of : Mono S_p_head_of := by
  rintro rs g P P2 h ⟨s, eRS, q⟩
  refine ⟨s, eRS, ?_⟩
  first | exact h _ _ q | exact ⟨q.1, h _ _ q.2⟩ | exact ⟨q.1, q.2.1, h _ _ q.2.2⟩ | exact ⟨q.1, q.2.1, q.2.2.1, h _ _ q.2.2.2⟩ | exact ⟨q.1, q.2.1, q.2.2.1, q.2.2.2.1, h _ _ q.2.2.2.2⟩ | exact ⟨q.1, fun x hx => h _ _ (q.2 x hx)⟩ | exact ⟨q.1, q.2.1, fun x hx => h _ _ (q.2.2 x hx)⟩ | exact ⟨q.1, q.2.1, fun x hx hy => h _ _ (q.2.2 x hx hy)⟩ | exact ⟨q.1, fun x y h1 => h _ _ (q.2 x y h1)⟩ | exact ⟨q.1, fun x y h1 h2 => h _ _ (q.2 x y h1 h2)⟩ | exact ⟨q.1, fun x h1 h2 => h _ _ (q.2 x h1 h2)⟩
theorem len_p_head_of : ∀ rs g Q, S_p_head_of rs g Q → rs.length = 1 := by
  rintro rs g Q ⟨s, rfl, q⟩
  rfl
theorem hS_p_head_of : ∀ rs g Q, S_p_head_of rs g Q → m_p_head_of.W (wd Ss_p_head_of glF dtF) (rs.map some ++ List.replicate (1 - rs.length) none) g (fun _ g2 => Fin g Q (.dat .non) g2) (Fin g Q) := by
  rintro rs g Q ⟨s, rfl, q⟩
  unfold m_p_head_of
  have hds := fun (g : Rg) => dicOf_st (g := g) (s := s)
  unfold stL at hds
  walk_at "dwh"
  exact fin_dat [] (by simp) q

end DW

/-! ## F_p_is_still.lean -/
set_option Elab.async false
set_option linter.all false
set_option maxRecDepth 100000
set_option maxHeartbeats 4000000
set_option autoImplicit false
namespace DW
open PySem PySem.Spec L2
open PyProof.Rows hiding St

local macro_rules | `(tactic| walk_at "dw") => `(tactic| simp (config := { maxSteps := 1000000 }) only [and_assoc, natD, mapint_inj, mapnat_inj, denc_inj, wfor_eq, ixD, ixM, cut_one, List.tail_cons, List.tail_nil, eqvs_nil, List.isEmpty_cons, List.isEmpty_nil, plAll_int, plAll_nat, Ss.W, Sm.W, Ex.W, Ex.T, Es.W, wVar, BOp.B, COp.B, Bi.B, IxK.B, bI0, bIC, bEq, bIs, bIn, bIxL, bIxT, bIxS, bIxK, bCat, bCatT, bRep, cLen, cInt, cMin2, cList, cTup, wantB, wAndT, wOrT, wAndV, wOrV, wNotV, lenOf, lstOf_ref, lstOf_lst, seqOf, dicOf_ref, dicOf_dic, wPart, wIter, tstW, mAppend, mPop, mPopAt, mClear, wSetIx, wSetKey, Tg.put, wipeN, Cell.lst.injEq, Cell.dic.injEq, Cell.fz.injEq, List.length_map, tyR, tyD,
    eqv_ii, eqv_ss, eqv_bb, eqv_nn, eqv_ll, eqv_tt, eqn_non_int, eqn_non_str, eqn_non_lst, eqn_non_tup, eqn_non_bl, eqn_non_dic, eqn_int_non, eqn_int_str, eqn_int_lst, eqn_int_tup, eqn_int_dic, eqn_str_non, eqn_str_int, eqn_str_lst, eqn_str_tup, eqn_str_bl, eqn_str_dic, eqn_lst_non, eqn_lst_int, eqn_lst_str, eqn_lst_tup, eqn_lst_bl, eqn_lst_dic, eqn_tup_non, eqn_tup_int, eqn_tup_str, eqn_tup_lst, eqn_tup_bl, eqn_tup_dic, eqn_bl_non, eqn_bl_str, eqn_bl_lst, eqn_bl_tup, eqn_bl_dic, eqvs, atI_lit, cdiv_lit, cmul_r, cmul_l, cpow_lit, nrm_dat, nrm_ref, plN, plAll, rd_dat, rd_ref, rds_nil, rds_cons, rds_map, rdk_nil, rdk_cons, wFrz, frz1, wFrzL, frzs, datsN, datsN_map, datsK, isNon, tyNames, kbs,
    Option.map_some, Option.map_none, Option.isSome_some, List.getD_cons_zero, List.getD_cons_succ, List.getD_nil, get_app, get_app0, set_app, set_app0, List.length_append, List.append_assoc, List.any_cons, List.any_nil, List.zip_cons_cons, List.zip_nil_left, List.zip_nil_right,
    List.map_cons, List.map_nil, List.cons_append, List.nil_append, List.append_nil, List.length_cons, List.length_nil, List.replicate, List.set_cons_zero, List.set_cons_succ, List.getElem?_cons_zero, List.getElem?_cons_succ, List.set_nil, List.getElem?_nil,
    Nat.reduceAdd, Nat.reduceSub, Nat.reduceBEq, Nat.reduceLeDiff, Nat.reduceEqDiff, Nat.sub_self, Nat.zero_add, Nat.add_zero, Nat.zero_le, Nat.le_add_right, Nat.le_refl, Int.reduceToNat, Int.reduceLE, Nat.reduceLT, Nat.reducePow, Int.reducePow, Int.reduceNeg, or_true, true_or, Int.reduceLT, Bool.false_eq_true, if_true, if_false, forall_const, false_implies, true_implies, implies_true, Int.reduceEq, cast_lit, not_true_eq_false, not_false_eq_true, Bool.not_true, Bool.not_false, Bool.not_eq_true', Bool.not_eq_false', Bool.and_true, Bool.true_and, Bool.and_false, Bool.false_and, Bool.or_false, Bool.false_or, Bool.or_true, Bool.true_or, reduceCtorEq, false_and, and_false, or_false, false_or, beq_self_eq_true,
    Option.some.injEq, Prod.mk.injEq, Rv.dat.injEq, Rv.ref.injEq, D.int.injEq, D.bl.injEq, D.str.injEq, D.tup.injEq, D.lst.injEq, D.dic.injEq, D.scr.injEq, List.cons.injEq, and_true, true_and, exists_and_left, exists_and_right, exists_eq_left, exists_eq_left', exists_eq_right, exists_eq_right', exists_eq, exists_eq', exists_const, decide_eq_true_eq, decide_eq_false_iff_not, Bool.and_eq_true, beq_iff_eq, beq_eq_false_iff_ne, ne_eq, decide_true, decide_false, hdR_len, stR_len, hdR_24, hdR_25, hdR_26, hdR_27, hdR_28, hdR_29, hdR_30, stR_16, stR_18, stR_19, stR_20, stR_21, stR_22, stR_23, hdP_25, hdP_26, hdP_27, hdP_28, hdP_29, hdP_30, stP_16, stP_19, stP_20, stP_21, stP_22, stP_23, hdD, List.length_set, set_two, denc_push, denc_swap, denc_pop, denc_top, denc_clear, eqv_optN, plN_optN, isNon_optN, optN_some, optN_none, seenD_some, seenD_none, items_pair, items_vals, phk, kdk, List.getElem?_set_self, List.getElem?_set_ne, List.getElem?_append_left, ltaddr, boxD, cDict])
local macro_rules | `(tactic| walk_at "dwh") => `(tactic| simp (config := { maxSteps := 1000000 }) only [and_assoc, natD, mapint_inj, mapnat_inj, denc_inj, wfor_eq, ixD, ixM, cut_one, List.tail_cons, List.tail_nil, eqvs_nil, List.isEmpty_cons, List.isEmpty_nil, plAll_int, plAll_nat, Ss.W, Sm.W, Ex.W, Ex.T, Es.W, wVar, BOp.B, COp.B, Bi.B, IxK.B, bI0, bIC, bEq, bIs, bIn, bIxL, bIxT, bIxS, bIxK, bCat, bCatT, bRep, cLen, cInt, cMin2, cList, cTup, wantB, wAndT, wOrT, wAndV, wOrV, wNotV, lenOf, lstOf_ref, lstOf_lst, seqOf, dicOf_ref, dicOf_dic, wPart, wIter, tstW, mAppend, mPop, mPopAt, mClear, wSetIx, wSetKey, Tg.put, wipeN, Cell.lst.injEq, Cell.dic.injEq, Cell.fz.injEq, List.length_map, tyR, tyD,
    eqv_ii, eqv_ss, eqv_bb, eqv_nn, eqv_ll, eqv_tt, eqn_non_int, eqn_non_str, eqn_non_lst, eqn_non_tup, eqn_non_bl, eqn_non_dic, eqn_int_non, eqn_int_str, eqn_int_lst, eqn_int_tup, eqn_int_dic, eqn_str_non, eqn_str_int, eqn_str_lst, eqn_str_tup, eqn_str_bl, eqn_str_dic, eqn_lst_non, eqn_lst_int, eqn_lst_str, eqn_lst_tup, eqn_lst_bl, eqn_lst_dic, eqn_tup_non, eqn_tup_int, eqn_tup_str, eqn_tup_lst, eqn_tup_bl, eqn_tup_dic, eqn_bl_non, eqn_bl_str, eqn_bl_lst, eqn_bl_tup, eqn_bl_dic, eqvs, atI_lit, cdiv_lit, cmul_r, cmul_l, cpow_lit, nrm_dat, nrm_ref, plN, plAll, rd_dat, rd_ref, rds_nil, rds_cons, rds_map, rdk_nil, rdk_cons, wFrz, frz1, wFrzL, frzs, datsN, datsN_map, datsK, isNon, tyNames, kbs,
    Option.map_some, Option.map_none, Option.isSome_some, List.getD_cons_zero, List.getD_cons_succ, List.getD_nil, get_app, get_app0, set_app, set_app0, List.length_append, List.append_assoc, List.any_cons, List.any_nil, List.zip_cons_cons, List.zip_nil_left, List.zip_nil_right,
    List.map_cons, List.map_nil, List.cons_append, List.nil_append, List.append_nil, List.length_cons, List.length_nil, List.replicate, List.set_cons_zero, List.set_cons_succ, List.getElem?_cons_zero, List.getElem?_cons_succ, List.set_nil, List.getElem?_nil,
    Nat.reduceAdd, Nat.reduceSub, Nat.reduceBEq, Nat.reduceLeDiff, Nat.reduceEqDiff, Nat.sub_self, Nat.zero_add, Nat.add_zero, Nat.zero_le, Nat.le_add_right, Nat.le_refl, Int.reduceToNat, Int.reduceLE, Nat.reduceLT, Nat.reducePow, Int.reducePow, Int.reduceNeg, or_true, true_or, Int.reduceLT, Bool.false_eq_true, if_true, if_false, forall_const, false_implies, true_implies, implies_true, Int.reduceEq, cast_lit, not_true_eq_false, not_false_eq_true, Bool.not_true, Bool.not_false, Bool.not_eq_true', Bool.not_eq_false', Bool.and_true, Bool.true_and, Bool.and_false, Bool.false_and, Bool.or_false, Bool.false_or, Bool.or_true, Bool.true_or, reduceCtorEq, false_and, and_false, or_false, false_or, beq_self_eq_true,
    Option.some.injEq, Prod.mk.injEq, Rv.dat.injEq, Rv.ref.injEq, D.int.injEq, D.bl.injEq, D.str.injEq, D.tup.injEq, D.lst.injEq, D.dic.injEq, D.scr.injEq, List.cons.injEq, and_true, true_and, exists_and_left, exists_and_right, exists_eq_left, exists_eq_left', exists_eq_right, exists_eq_right', exists_eq, exists_eq', exists_const, decide_eq_true_eq, decide_eq_false_iff_not, Bool.and_eq_true, beq_iff_eq, beq_eq_false_iff_ne, ne_eq, decide_true, decide_false, hdR_len, stR_len, hdR_24, hdR_25, hdR_26, hdR_27, hdR_28, hdR_29, hdR_30, stR_16, stR_18, stR_19, stR_20, stR_21, stR_22, stR_23, hdP_25, hdP_26, hdP_27, hdP_28, hdP_29, hdP_30, stP_16, stP_19, stP_20, stP_21, stP_22, stP_23, hdD, List.length_set, set_two, denc_push, denc_swap, denc_pop, denc_top, denc_clear, eqv_optN, plN_optN, isNon_optN, optN_some, optN_none, seenD_some, seenD_none, items_pair, items_vals, phk, kdk, List.getElem?_set_self, List.getElem?_set_ne, List.getElem?_append_left, ltaddr, boxD, cDict, *])
local macro_rules | `(tactic| walk_at "dwf") => `(tactic| simp (config := { maxSteps := 1000000 }) only [and_assoc, natD, mapint_inj, mapnat_inj, denc_inj, wfor_eq, ixD, ixM, cut_one, List.tail_cons, List.tail_nil, eqvs_nil, List.isEmpty_cons, List.isEmpty_nil, plAll_int, plAll_nat, Ss.W, Sm.W, Ex.W, Ex.T, Es.W, wVar, BOp.B, COp.B, Bi.B, IxK.B, bI0, bIC, bEq, bIs, bIn, bIxL, bIxT, bIxS, bIxK, bCat, bCatT, bRep, cLen, cInt, cMin2, cList, cTup, wantB, wAndT, wOrT, wAndV, wOrV, wNotV, lenOf, lstOf_ref, lstOf_lst, seqOf, dicOf_ref, dicOf_dic, wPart, wIter, tstW, mAppend, mPop, mPopAt, mClear, wSetIx, wSetKey, Tg.put, wipeN, Cell.lst.injEq, Cell.dic.injEq, Cell.fz.injEq, List.length_map, tyR, tyD,
    eqv_ii, eqv_ss, eqv_bb, eqv_nn, eqv_ll, eqv_tt, eqn_non_int, eqn_non_str, eqn_non_lst, eqn_non_tup, eqn_non_bl, eqn_non_dic, eqn_int_non, eqn_int_str, eqn_int_lst, eqn_int_tup, eqn_int_dic, eqn_str_non, eqn_str_int, eqn_str_lst, eqn_str_tup, eqn_str_bl, eqn_str_dic, eqn_lst_non, eqn_lst_int, eqn_lst_str, eqn_lst_tup, eqn_lst_bl, eqn_lst_dic, eqn_tup_non, eqn_tup_int, eqn_tup_str, eqn_tup_lst, eqn_tup_bl, eqn_tup_dic, eqn_bl_non, eqn_bl_str, eqn_bl_lst, eqn_bl_tup, eqn_bl_dic, eqvs, atI_lit, cdiv_lit, cmul_r, cmul_l, cpow_lit, nrm_dat, nrm_ref, plN, plAll, rd_dat, rd_ref, rds_nil, rds_cons, rds_map, rdk_nil, rdk_cons,               isNon, tyNames, kbs,
    Option.map_some, Option.map_none, Option.isSome_some, List.getD_cons_zero, List.getD_cons_succ, List.getD_nil, get_app, get_app0, set_app, set_app0, List.length_append, List.append_assoc, List.any_cons, List.any_nil, List.zip_cons_cons, List.zip_nil_left, List.zip_nil_right,
    List.map_cons, List.map_nil, List.cons_append, List.nil_append, List.append_nil, List.length_cons, List.length_nil, List.replicate, List.set_cons_zero, List.set_cons_succ, List.getElem?_cons_zero, List.getElem?_cons_succ, List.set_nil, List.getElem?_nil,
    Nat.reduceAdd, Nat.reduceSub, Nat.reduceBEq, Nat.reduceLeDiff, Nat.reduceEqDiff, Nat.sub_self, Nat.zero_add, Nat.add_zero, Nat.zero_le, Nat.le_add_right, Nat.le_refl, Int.reduceToNat, Int.reduceLE, Nat.reduceLT, Nat.reducePow, Int.reducePow, Int.reduceNeg, or_true, true_or, Int.reduceLT, Bool.false_eq_true, if_true, if_false, forall_const, false_implies, true_implies, implies_true, Int.reduceEq, cast_lit, not_true_eq_false, not_false_eq_true, Bool.not_true, Bool.not_false, Bool.not_eq_true', Bool.not_eq_false', Bool.and_true, Bool.true_and, Bool.and_false, Bool.false_and, Bool.or_false, Bool.false_or, Bool.or_true, Bool.true_or, reduceCtorEq, false_and, and_false, or_false, false_or, beq_self_eq_true,
    Option.some.injEq, Prod.mk.injEq, Rv.dat.injEq, Rv.ref.injEq, D.int.injEq, D.bl.injEq, D.str.injEq, D.tup.injEq, D.lst.injEq, D.dic.injEq, D.scr.injEq, List.cons.injEq, and_true, true_and, exists_and_left, exists_and_right, exists_eq_left, exists_eq_left', exists_eq_right, exists_eq_right', exists_eq, exists_eq', exists_const, decide_eq_true_eq, decide_eq_false_iff_not, Bool.and_eq_true, beq_iff_eq, beq_eq_false_iff_ne, ne_eq, decide_true, decide_false, hdR_len, stR_len, hdR_24, hdR_25, hdR_26, hdR_27, hdR_28, hdR_29, hdR_30, stR_16, stR_18, stR_19, stR_20, stR_21, stR_22, stR_23, hdP_25, hdP_26, hdP_27, hdP_28, hdP_29, hdP_30, stP_16, stP_19, stP_20, stP_21, stP_22, stP_23, hdD, List.length_set, set_two, denc_push, denc_swap, denc_pop, denc_top, denc_clear, eqv_optN, plN_optN, isNon_optN, optN_some, optN_none, seenD_some, seenD_none, items_pair, items_vals, phk, kdk, List.getElem?_set_self, List.getElem?_set_ne, List.getElem?_append_left, ltaddr, boxD, cDict, *])
abbrev fn_p_is_still : List Str := []
def m_p_is_still : DW.Ss := (.cons (.ite (.cmp .eq (.ix .k (.var 0) (.str 18)) (.str 5)) (.cons (.ret (.cmp .eq (.ix .k (.var 0) (.str 19)) (.var 1)))
  .nil) .nil)
  (.cons (.ret (.cmp .eq (.ix .t (.ix .k (.var 0) (.str 19)) (.int 0)) (.ix .t (.var 1) (.int 0))))
  .nil))
abbrev Ss_p_is_still : List SpD := []
def S_p_is_still : SpD := fun rs g Q => ∃ (v : Vw) (s : St) (hd : Hand) (p : Hd), rs = [.ref v.cs, .dat (hdD p)] ∧ (Mem g v s hd ∧ Q (.dat (.bl (stillB s.kind s.head p))) g)
theorem mo_p_is_still : Mono S_p_is_still := by
  rintro rs g P P2 h ⟨v, s, hd, p, eRS, q⟩
  refine ⟨v, s, hd, p, eRS, ?_⟩
  first | exact h _ _ q | exact ⟨q.1, h _ _ q.2⟩ | exact ⟨q.1, q.2.1, h _ _ q.2.2⟩ | exact ⟨q.1, q.2.1, q.2.2.1, h _ _ q.2.2.2⟩ | exact ⟨q.1, q.2.1, q.2.2.1, q.2.2.2.1, h _ _ q.2.2.2.2⟩ | exact ⟨q.1, fun x hx => h _ _ (q.2 x hx)⟩ | exact ⟨q.1, q.2.1, fun x hx => h _ _ (q.2.2 x hx)⟩ | exact ⟨q.1, q.2.1, fun x hx hy => h _ _ (q.2.2 x hx hy)⟩ | exact ⟨q.1, fun x y h1 => h _ _ (q.2 x y h1)⟩ | exact ⟨q.1, fun x y h1 h2 => h _ _ (q.2 x y h1 h2)⟩ | exact ⟨q.1, fun x h1 h2 => h _ _ (q.2 x h1 h2)⟩
theorem len_p_is_still : ∀ rs g Q, S_p_is_still rs g Q → rs.length = 2 := by
  rintro rs g Q ⟨v, s, hd, p, rfl, q⟩
  rfl
theorem hS_p_is_still : ∀ rs g Q, S_p_is_still rs g Q → m_p_is_still.W (wd Ss_p_is_still glF dtF) (rs.map some ++ List.replicate (2 - rs.length) none) g (fun _ g2 => Fin g Q (.dat .non) g2) (Fin g Q) := by
  rintro rs g Q ⟨v, s, hd, p, rfl, q⟩
  unfold m_p_is_still
  obtain ⟨m, q⟩ := q
  have hal := m.all
  have hkn : (s.kind.k == 5) = decide (s.kind = .marks) := by cases s.kind <;> rfl
  walk_at "dwh"
  refine ⟨fun h => ?_, fun h => ?_⟩
  · rw [stillB_m h] at q
    have e : decide (s.head = p) = (decide (s.head.fst = p.fst) && ((s.head.snd : Int) == (p.snd : Int))) := by
      obtain ⟨a, b⟩ := s.head; obtain ⟨c, d⟩ := p
      by_cases h1 : a = c <;> by_cases h2 : b = d
      · simp [h1, h2]
      · have : ¬ (b : Int) = d := by omega
        simp [h1, h2, this]
      · simp [h1]
      · simp [h1]
    rw [e] at q
    exact fin_dat [] (by simp) q
  · rw [stillB_o h] at q
    exact fin_dat [] (by simp) q

end DW

/-! ## F_p_set_head.lean -/
set_option Elab.async false
set_option linter.all false
set_option maxRecDepth 100000
set_option maxHeartbeats 4000000
set_option autoImplicit false
namespace DW
open PySem PySem.Spec L2
open PyProof.Rows hiding St

local macro_rules | `(tactic| walk_at "dw") => `(tactic| simp (config := { maxSteps := 1000000 }) only [and_assoc, natD, mapint_inj, mapnat_inj, denc_inj, wfor_eq, ixD, ixM, cut_one, List.tail_cons, List.tail_nil, eqvs_nil, List.isEmpty_cons, List.isEmpty_nil, plAll_int, plAll_nat, Ss.W, Sm.W, Ex.W, Ex.T, Es.W, wVar, BOp.B, COp.B, Bi.B, IxK.B, bI0, bIC, bEq, bIs, bIn, bIxL, bIxT, bIxS, bIxK, bCat, bCatT, bRep, cLen, cInt, cMin2, cList, cTup, wantB, wAndT, wOrT, wAndV, wOrV, wNotV, lenOf, lstOf_ref, lstOf_lst, seqOf, dicOf_ref, dicOf_dic, wPart, wIter, tstW, mAppend, mPop, mPopAt, mClear, wSetIx, wSetKey, Tg.put, wipeN, Cell.lst.injEq, Cell.dic.injEq, Cell.fz.injEq, List.length_map, tyR, tyD,
    eqv_ii, eqv_ss, eqv_bb, eqv_nn, eqv_ll, eqv_tt, eqn_non_int, eqn_non_str, eqn_non_lst, eqn_non_tup, eqn_non_bl, eqn_non_dic, eqn_int_non, eqn_int_str, eqn_int_lst, eqn_int_tup, eqn_int_dic, eqn_str_non, eqn_str_int, eqn_str_lst, eqn_str_tup, eqn_str_bl, eqn_str_dic, eqn_lst_non, eqn_lst_int, eqn_lst_str, eqn_lst_tup, eqn_lst_bl, eqn_lst_dic, eqn_tup_non, eqn_tup_int, eqn_tup_str, eqn_tup_lst, eqn_tup_bl, eqn_tup_dic, eqn_bl_non, eqn_bl_str, eqn_bl_lst, eqn_bl_tup, eqn_bl_dic, eqvs, atI_lit, cdiv_lit, cmul_r, cmul_l, cpow_lit, nrm_dat, nrm_ref, plN, plAll, rd_dat, rd_ref, rds_nil, rds_cons, rds_map, rdk_nil, rdk_cons, wFrz, frz1, wFrzL, frzs, datsN, datsN_map, datsK, isNon, tyNames, kbs,
    Option.map_some, Option.map_none, Option.isSome_some, List.getD_cons_zero, List.getD_cons_succ, List.getD_nil, get_app, get_app0, set_app, set_app0, List.length_append, List.append_assoc, List.any_cons, List.any_nil, List.zip_cons_cons, List.zip_nil_left, List.zip_nil_right,
    List.map_cons, List.map_nil, List.cons_append, List.nil_append, List.append_nil, List.length_cons, List.length_nil, List.replicate, List.set_cons_zero, List.set_cons_succ, List.getElem?_cons_zero, List.getElem?_cons_succ, List.set_nil, List.getElem?_nil,
    Nat.reduceAdd, Nat.reduceSub, Nat.reduceBEq, Nat.reduceLeDiff, Nat.reduceEqDiff, Nat.sub_self, Nat.zero_add, Nat.add_zero, Nat.zero_le, Nat.le_add_right, Nat.le_refl, Int.reduceToNat, Int.reduceLE, Nat.reduceLT, Nat.reducePow, Int.reducePow, Int.reduceNeg, or_true, true_or, Int.reduceLT, Bool.false_eq_true, if_true, if_false, forall_const, false_implies, true_implies, implies_true, Int.reduceEq, cast_lit, not_true_eq_false, not_false_eq_true, Bool.not_true, Bool.not_false, Bool.not_eq_true', Bool.not_eq_false', Bool.and_true, Bool.true_and, Bool.and_false, Bool.false_and, Bool.or_false, Bool.false_or, Bool.or_true, Bool.true_or, reduceCtorEq, false_and, and_false, or_false, false_or, beq_self_eq_true,
    Option.some.injEq, Prod.mk.injEq, Rv.dat.injEq, Rv.ref.injEq, D.int.injEq, D.bl.injEq, D.str.injEq, D.tup.injEq, D.lst.injEq, D.dic.injEq, D.scr.injEq, List.cons.injEq, and_true, true_and, exists_and_left, exists_and_right, exists_eq_left, exists_eq_left', exists_eq_right, exists_eq_right', exists_eq, exists_eq', exists_const, decide_eq_true_eq, decide_eq_false_iff_not, Bool.and_eq_true, beq_iff_eq, beq_eq_false_iff_ne, ne_eq, decide_true, decide_false, hdR_len, stR_len, hdR_24, hdR_25, hdR_26, hdR_27, hdR_28, hdR_29, hdR_30, stR_16, stR_18, stR_19, stR_20, stR_21, stR_22, stR_23, hdP_25, hdP_26, hdP_27, hdP_28, hdP_29, hdP_30, stP_16, stP_19, stP_20, stP_21, stP_22, stP_23, hdD, List.length_set, set_two, denc_push, denc_swap, denc_pop, denc_top, denc_clear, eqv_optN, plN_optN, isNon_optN, optN_some, optN_none, seenD_some, seenD_none, items_pair, items_vals, phk, kdk, List.getElem?_set_self, List.getElem?_set_ne, List.getElem?_append_left, ltaddr, boxD, cDict])
local macro_rules | `(tactic| walk_at "dwh") => `(tactic| simp (config := { maxSteps := 1000000 }) only [and_assoc, natD, mapint_inj, mapnat_inj, denc_inj, wfor_eq, ixD, ixM, cut_one, List.tail_cons, List.tail_nil, eqvs_nil, List.isEmpty_cons, List.isEmpty_nil, plAll_int, plAll_nat, Ss.W, Sm.W, Ex.W, Ex.T, Es.W, wVar, BOp.B, COp.B, Bi.B, IxK.B, bI0, bIC, bEq, bIs, bIn, bIxL, bIxT, bIxS, bIxK, bCat, bCatT, bRep, cLen, cInt, cMin2, cList, cTup, wantB, wAndT, wOrT, wAndV, wOrV, wNotV, lenOf, lstOf_ref, lstOf_lst, seqOf, dicOf_ref, dicOf_dic, wPart, wIter, tstW, mAppend, mPop, mPopAt, mClear, wSetIx, wSetKey, Tg.put, wipeN, Cell.lst.injEq, Cell.dic.injEq, Cell.fz.injEq, List.length_map, tyR, tyD,
    eqv_ii, eqv_ss, eqv_bb, eqv_nn, eqv_ll, eqv_tt, eqn_non_int, eqn_non_str, eqn_non_lst, eqn_non_tup, eqn_non_bl, eqn_non_dic, eqn_int_non, eqn_int_str, eqn_int_lst, eqn_int_tup, eqn_int_dic, eqn_str_non, eqn_str_int, eqn_str_lst, eqn_str_tup, eqn_str_bl, eqn_str_dic, eqn_lst_non, eqn_lst_int, eqn_lst_str, eqn_lst_tup, eqn_lst_bl, eqn_lst_dic, eqn_tup_non, eqn_tup_int, eqn_tup_str, eqn_tup_lst, eqn_tup_bl, eqn_tup_dic, eqn_bl_non, eqn_bl_str, eqn_bl_lst, eqn_bl_tup, eqn_bl_dic, eqvs, atI_lit, cdiv_lit, cmul_r, cmul_l, cpow_lit, nrm_dat, nrm_ref, plN, plAll, rd_dat, rd_ref, rds_nil, rds_cons, rds_map, rdk_nil, rdk_cons, wFrz, frz1, wFrzL, frzs, datsN, datsN_map, datsK, isNon, tyNames, kbs,
    Option.map_some, Option.map_none, Option.isSome_some, List.getD_cons_zero, List.getD_cons_succ, List.getD_nil, get_app, get_app0, set_app, set_app0, List.length_append, List.append_assoc, List.any_cons, List.any_nil, List.zip_cons_cons, List.zip_nil_left, List.zip_nil_right,
    List.map_cons, List.map_nil, List.cons_append, List.nil_append, List.append_nil, List.length_cons, List.length_nil, List.replicate, List.set_cons_zero, List.set_cons_succ, List.getElem?_cons_zero, List.getElem?_cons_succ, List.set_nil, List.getElem?_nil,
    Nat.reduceAdd, Nat.reduceSub, Nat.reduceBEq, Nat.reduceLeDiff, Nat.reduceEqDiff, Nat.sub_self, Nat.zero_add, Nat.add_zero, Nat.zero_le, Nat.le_add_right, Nat.le_refl, Int.reduceToNat, Int.reduceLE, Nat.reduceLT, Nat.reducePow, Int.reducePow, Int.reduceNeg, or_true, true_or, Int.reduceLT, Bool.false_eq_true, if_true, if_false, forall_const, false_implies, true_implies, implies_true, Int.reduceEq, cast_lit, not_true_eq_false, not_false_eq_true, Bool.not_true, Bool.not_false, Bool.not_eq_true', Bool.not_eq_false', Bool.and_true, Bool.true_and, Bool.and_false, Bool.false_and, Bool.or_false, Bool.false_or, Bool.or_true, Bool.true_or, reduceCtorEq, false_and, and_false, or_false, false_or, beq_self_eq_true,
    Option.some.injEq, Prod.mk.injEq, Rv.dat.injEq, Rv.ref.injEq, D.int.injEq, D.bl.injEq, D.str.injEq, D.tup.injEq, D.lst.injEq, D.dic.injEq, D.scr.injEq, List.cons.injEq, and_true, true_and, exists_and_left, exists_and_right, exists_eq_left, exists_eq_left', exists_eq_right, exists_eq_right', exists_eq, exists_eq', exists_const, decide_eq_true_eq, decide_eq_false_iff_not, Bool.and_eq_true, beq_iff_eq, beq_eq_false_iff_ne, ne_eq, decide_true, decide_false, hdR_len, stR_len, hdR_24, hdR_25, hdR_26, hdR_27, hdR_28, hdR_29, hdR_30, stR_16, stR_18, stR_19, stR_20, stR_21, stR_22, stR_23, hdP_25, hdP_26, hdP_27, hdP_28, hdP_29, hdP_30, stP_16, stP_19, stP_20, stP_21, stP_22, stP_23, hdD, List.length_set, set_two, denc_push, denc_swap, denc_pop, denc_top, denc_clear, eqv_optN, plN_optN, isNon_optN, optN_some, optN_none, seenD_some, seenD_none, items_pair, items_vals, phk, kdk, List.getElem?_set_self, List.getElem?_set_ne, List.getElem?_append_left, ltaddr, boxD, cDict, *])
local macro_rules | `(tactic| walk_at "dwf") => `(tactic| simp (config := { maxSteps := 1000000 }) only [and_assoc, natD, mapint_inj, mapnat_inj, denc_inj, wfor_eq, ixD, ixM, cut_one, List.tail_cons, List.tail_nil, eqvs_nil, List.isEmpty_cons, List.isEmpty_nil, plAll_int, plAll_nat, Ss.W, Sm.W, Ex.W, Ex.T, Es.W, wVar, BOp.B, COp.B, Bi.B, IxK.B, bI0, bIC, bEq, bIs, bIn, bIxL, bIxT, bIxS, bIxK, bCat, bCatT, bRep, cLen, cInt, cMin2, cList, cTup, wantB, wAndT, wOrT, wAndV, wOrV, wNotV, lenOf, lstOf_ref, lstOf_lst, seqOf, dicOf_ref, dicOf_dic, wPart, wIter, tstW, mAppend, mPop, mPopAt, mClear, wSetIx, wSetKey, Tg.put, wipeN, Cell.lst.injEq, Cell.dic.injEq, Cell.fz.injEq, List.length_map, tyR, tyD,
    eqv_ii, eqv_ss, eqv_bb, eqv_nn, eqv_ll, eqv_tt, eqn_non_int, eqn_non_str, eqn_non_lst, eqn_non_tup, eqn_non_bl, eqn_non_dic, eqn_int_non, eqn_int_str, eqn_int_lst, eqn_int_tup, eqn_int_dic, eqn_str_non, eqn_str_int, eqn_str_lst, eqn_str_tup, eqn_str_bl, eqn_str_dic, eqn_lst_non, eqn_lst_int, eqn_lst_str, eqn_lst_tup, eqn_lst_bl, eqn_lst_dic, eqn_tup_non, eqn_tup_int, eqn_tup_str, eqn_tup_lst, eqn_tup_bl, eqn_tup_dic, eqn_bl_non, eqn_bl_str, eqn_bl_lst, eqn_bl_tup, eqn_bl_dic, eqvs, atI_lit, cdiv_lit, cmul_r, cmul_l, cpow_lit, nrm_dat, nrm_ref, plN, plAll, rd_dat, rd_ref, rds_nil, rds_cons, rds_map, rdk_nil, rdk_cons,               isNon, tyNames, kbs,
    Option.map_some, Option.map_none, Option.isSome_some, List.getD_cons_zero, List.getD_cons_succ, List.getD_nil, get_app, get_app0, set_app, set_app0, List.length_append, List.append_assoc, List.any_cons, List.any_nil, List.zip_cons_cons, List.zip_nil_left, List.zip_nil_right,
    List.map_cons, List.map_nil, List.cons_append, List.nil_append, List.append_nil, List.length_cons, List.length_nil, List.replicate, List.set_cons_zero, List.set_cons_succ, List.getElem?_cons_zero, List.getElem?_cons_succ, List.set_nil, List.getElem?_nil,
    Nat.reduceAdd, Nat.reduceSub, Nat.reduceBEq, Nat.reduceLeDiff, Nat.reduceEqDiff, Nat.sub_self, Nat.zero_add, Nat.add_zero, Nat.zero_le, Nat.le_add_right, Nat.le_refl, Int.reduceToNat, Int.reduceLE, Nat.reduceLT, Nat.reducePow, Int.reducePow, Int.reduceNeg, or_true, true_or, Int.reduceLT, Bool.false_eq_true, if_true, if_false, forall_const, false_implies, true_implies, implies_true, Int.reduceEq, cast_lit, not_true_eq_false, not_false_eq_true, Bool.not_true, Bool.not_false, Bool.not_eq_true', Bool.not_eq_false', Bool.and_true, Bool.true_and, Bool.and_false, Bool.false_and, Bool.or_false, Bool.false_or, Bool.or_true, Bool.true_or, reduceCtorEq, false_and, and_false, or_false, false_or, beq_self_eq_true,
    Option.some.injEq, Prod.mk.injEq, Rv.dat.injEq, Rv.ref.injEq, D.int.injEq, D.bl.injEq, D.str.injEq, D.tup.injEq, D.lst.injEq, D.dic.injEq, D.scr.injEq, List.cons.injEq, and_true, true_and, exists_and_left, exists_and_right, exists_eq_left, exists_eq_left', exists_eq_right, exists_eq_right', exists_eq, exists_eq', exists_const, decide_eq_true_eq, decide_eq_false_iff_not, Bool.and_eq_true, beq_iff_eq, beq_eq_false_iff_ne, ne_eq, decide_true, decide_false, hdR_len, stR_len, hdR_24, hdR_25, hdR_26, hdR_27, hdR_28, hdR_29, hdR_30, stR_16, stR_18, stR_19, stR_20, stR_21, stR_22, stR_23, hdP_25, hdP_26, hdP_27, hdP_28, hdP_29, hdP_30, stP_16, stP_19, stP_20, stP_21, stP_22, stP_23, hdD, List.length_set, set_two, denc_push, denc_swap, denc_pop, denc_top, denc_clear, eqv_optN, plN_optN, isNon_optN, optN_some, optN_none, seenD_some, seenD_none, items_pair, items_vals, phk, kdk, List.getElem?_set_self, List.getElem?_set_ne, List.getElem?_append_left, ltaddr, boxD, cDict, *])
abbrev fn_p_set_head : List Str := []
def m_p_set_head : DW.Ss := (.cons (.setKey (.var 0) (.str 19) (.tup (.cons (.var 1) (.cons (.bin .addI (.ix .t (.ix .k (.var 0) (.str 19)) (.int 1)) (.int 1)) .nil))))
  .nil)
abbrev Ss_p_set_head : List SpD := []
def S_p_set_head : SpD := fun rs g Q => ∃ (v : Vw) (s : St) (hd : Hand) (o : Option Nat), rs = [.ref v.cs, .dat (optN o)] ∧ (Mem g v s hd ∧ ∀ g' v', Mem g' v' (s.setHead o) hd → Go g v g' v' → Q (.dat .non) g')
theorem mo_p_set_head : Mono S_p_set_head := by
  rintro rs g P P2 h ⟨v, s, hd, o, eRS, q⟩
  refine ⟨v, s, hd, o, eRS, ?_⟩
  exact ⟨q.1, fun g' v' h1 h2 => h _ _ (q.2 g' v' h1 h2)⟩
theorem len_p_set_head : ∀ rs g Q, S_p_set_head rs g Q → rs.length = 2 := by
  rintro rs g Q ⟨v, s, hd, o, rfl, q⟩
  rfl
theorem hS_p_set_head : ∀ rs g Q, S_p_set_head rs g Q → m_p_set_head.W (wd Ss_p_set_head glF dtF) (rs.map some ++ List.replicate (2 - rs.length) none) g (fun _ g2 => Fin g Q (.dat .non) g2) (Fin g Q) := by
  rintro rs g Q ⟨v, s, hd, o, rfl, q⟩
  unfold m_p_set_head
  obtain ⟨m, q⟩ := q
  have hst := m.st
  unfold stL at hst
  walk_at "dwh"
  exact fin_non q (m.mg.sw (s.setHead o) rfl rfl rfl)

end DW

/-! ## F_p_come_to_point.lean -/
set_option Elab.async false
set_option linter.all false
set_option maxRecDepth 100000
set_option maxHeartbeats 4000000
set_option autoImplicit false
namespace DW
open PySem PySem.Spec L2
open PyProof.Rows hiding St

local macro_rules | `(tactic| walk_at "dw") => `(tactic| simp (config := { maxSteps := 1000000 }) only [and_assoc, natD, mapint_inj, mapnat_inj, denc_inj, wfor_eq, ixD, ixM, cut_one, List.tail_cons, List.tail_nil, eqvs_nil, List.isEmpty_cons, List.isEmpty_nil, plAll_int, plAll_nat, Ss.W, Sm.W, Ex.W, Ex.T, Es.W, wVar, BOp.B, COp.B, Bi.B, IxK.B, bI0, bIC, bEq, bIs, bIn, bIxL, bIxT, bIxS, bIxK, bCat, bCatT, bRep, cLen, cInt, cMin2, cList, cTup, wantB, wAndT, wOrT, wAndV, wOrV, wNotV, lenOf, lstOf_ref, lstOf_lst, seqOf, dicOf_ref, dicOf_dic, wPart, wIter, tstW, mAppend, mPop, mPopAt, mClear, wSetIx, wSetKey, Tg.put, wipeN, Cell.lst.injEq, Cell.dic.injEq, Cell.fz.injEq, List.length_map, tyR, tyD,
    eqv_ii, eqv_ss, eqv_bb, eqv_nn, eqv_ll, eqv_tt, eqn_non_int, eqn_non_str, eqn_non_lst, eqn_non_tup, eqn_non_bl, eqn_non_dic, eqn_int_non, eqn_int_str, eqn_int_lst, eqn_int_tup, eqn_int_dic, eqn_str_non, eqn_str_int, eqn_str_lst, eqn_str_tup, eqn_str_bl, eqn_str_dic, eqn_lst_non, eqn_lst_int, eqn_lst_str, eqn_lst_tup, eqn_lst_bl, eqn_lst_dic, eqn_tup_non, eqn_tup_int, eqn_tup_str, eqn_tup_lst, eqn_tup_bl, eqn_tup_dic, eqn_bl_non, eqn_bl_str, eqn_bl_lst, eqn_bl_tup, eqn_bl_dic, eqvs, atI_lit, cdiv_lit, cmul_r, cmul_l, cpow_lit, nrm_dat, nrm_ref, plN, plAll, rd_dat, rd_ref, rds_nil, rds_cons, rds_map, rdk_nil, rdk_cons, wFrz, frz1, wFrzL, frzs, datsN, datsN_map, datsK, isNon, tyNames, kbs,
    Option.map_some, Option.map_none, Option.isSome_some, List.getD_cons_zero, List.getD_cons_succ, List.getD_nil, get_app, get_app0, set_app, set_app0, List.length_append, List.append_assoc, List.any_cons, List.any_nil, List.zip_cons_cons, List.zip_nil_left, List.zip_nil_right,
    List.map_cons, List.map_nil, List.cons_append, List.nil_append, List.append_nil, List.length_cons, List.length_nil, List.replicate, List.set_cons_zero, List.set_cons_succ, List.getElem?_cons_zero, List.getElem?_cons_succ, List.set_nil, List.getElem?_nil,
    Nat.reduceAdd, Nat.reduceSub, Nat.reduceBEq, Nat.reduceLeDiff, Nat.reduceEqDiff, Nat.sub_self, Nat.zero_add, Nat.add_zero, Nat.zero_le, Nat.le_add_right, Nat.le_refl, Int.reduceToNat, Int.reduceLE, Nat.reduceLT, Nat.reducePow, Int.reducePow, Int.reduceNeg, or_true, true_or, Int.reduceLT, Bool.false_eq_true, if_true, if_false, forall_const, false_implies, true_implies, implies_true, Int.reduceEq, cast_lit, not_true_eq_false, not_false_eq_true, Bool.not_true, Bool.not_false, Bool.not_eq_true', Bool.not_eq_false', Bool.and_true, Bool.true_and, Bool.and_false, Bool.false_and, Bool.or_false, Bool.false_or, Bool.or_true, Bool.true_or, reduceCtorEq, false_and, and_false, or_false, false_or, beq_self_eq_true,
    Option.some.injEq, Prod.mk.injEq, Rv.dat.injEq, Rv.ref.injEq, D.int.injEq, D.bl.injEq, D.str.injEq, D.tup.injEq, D.lst.injEq, D.dic.injEq, D.scr.injEq, List.cons.injEq, and_true, true_and, exists_and_left, exists_and_right, exists_eq_left, exists_eq_left', exists_eq_right, exists_eq_right', exists_eq, exists_eq', exists_const, decide_eq_true_eq, decide_eq_false_iff_not, Bool.and_eq_true, beq_iff_eq, beq_eq_false_iff_ne, ne_eq, decide_true, decide_false, hdR_len, stR_len, hdR_24, hdR_25, hdR_26, hdR_27, hdR_28, hdR_29, hdR_30, stR_16, stR_18, stR_19, stR_20, stR_21, stR_22, stR_23, hdP_25, hdP_26, hdP_27, hdP_28, hdP_29, hdP_30, stP_16, stP_19, stP_20, stP_21, stP_22, stP_23, hdD, List.length_set, set_two, denc_push, denc_swap, denc_pop, denc_top, denc_clear, eqv_optN, plN_optN, isNon_optN, optN_some, optN_none, seenD_some, seenD_none, items_pair, items_vals, phk, kdk, List.getElem?_set_self, List.getElem?_set_ne, List.getElem?_append_left, ltaddr, boxD, cDict])
local macro_rules | `(tactic| walk_at "dwh") => `(tactic| simp (config := { maxSteps := 1000000 }) only [and_assoc, natD, mapint_inj, mapnat_inj, denc_inj, wfor_eq, ixD, ixM, cut_one, List.tail_cons, List.tail_nil, eqvs_nil, List.isEmpty_cons, List.isEmpty_nil, plAll_int, plAll_nat, Ss.W, Sm.W, Ex.W, Ex.T, Es.W, wVar, BOp.B, COp.B, Bi.B, IxK.B, bI0, bIC, bEq, bIs, bIn, bIxL, bIxT, bIxS, bIxK, bCat, bCatT, bRep, cLen, cInt, cMin2, cList, cTup, wantB, wAndT, wOrT, wAndV, wOrV, wNotV, lenOf, lstOf_ref, lstOf_lst, seqOf, dicOf_ref, dicOf_dic, wPart, wIter, tstW, mAppend, mPop, mPopAt, mClear, wSetIx, wSetKey, Tg.put, wipeN, Cell.lst.injEq, Cell.dic.injEq, Cell.fz.injEq, List.length_map, tyR, tyD,
    eqv_ii, eqv_ss, eqv_bb, eqv_nn, eqv_ll, eqv_tt, eqn_non_int, eqn_non_str, eqn_non_lst, eqn_non_tup, eqn_non_bl, eqn_non_dic, eqn_int_non, eqn_int_str, eqn_int_lst, eqn_int_tup, eqn_int_dic, eqn_str_non, eqn_str_int, eqn_str_lst, eqn_str_tup, eqn_str_bl, eqn_str_dic, eqn_lst_non, eqn_lst_int, eqn_lst_str, eqn_lst_tup, eqn_lst_bl, eqn_lst_dic, eqn_tup_non, eqn_tup_int, eqn_tup_str, eqn_tup_lst, eqn_tup_bl, eqn_tup_dic, eqn_bl_non, eqn_bl_str, eqn_bl_lst, eqn_bl_tup, eqn_bl_dic, eqvs, atI_lit, cdiv_lit, cmul_r, cmul_l, cpow_lit, nrm_dat, nrm_ref, plN, plAll, rd_dat, rd_ref, rds_nil, rds_cons, rds_map, rdk_nil, rdk_cons, wFrz, frz1, wFrzL, frzs, datsN, datsN_map, datsK, isNon, tyNames, kbs,
    Option.map_some, Option.map_none, Option.isSome_some, List.getD_cons_zero, List.getD_cons_succ, List.getD_nil, get_app, get_app0, set_app, set_app0, List.length_append, List.append_assoc, List.any_cons, List.any_nil, List.zip_cons_cons, List.zip_nil_left, List.zip_nil_right,
    List.map_cons, List.map_nil, List.cons_append, List.nil_append, List.append_nil, List.length_cons, List.length_nil, List.replicate, List.set_cons_zero, List.set_cons_succ, List.getElem?_cons_zero, List.getElem?_cons_succ, List.set_nil, List.getElem?_nil,
    Nat.reduceAdd, Nat.reduceSub, Nat.reduceBEq, Nat.reduceLeDiff, Nat.reduceEqDiff, Nat.sub_self, Nat.zero_add, Nat.add_zero, Nat.zero_le, Nat.le_add_right, Nat.le_refl, Int.reduceToNat, Int.reduceLE, Nat.reduceLT, Nat.reducePow, Int.reducePow, Int.reduceNeg, or_true, true_or, Int.reduceLT, Bool.false_eq_true, if_true, if_false, forall_const, false_implies, true_implies, implies_true, Int.reduceEq, cast_lit, not_true_eq_false, not_false_eq_true, Bool.not_true, Bool.not_false, Bool.not_eq_true', Bool.not_eq_false', Bool.and_true, Bool.true_and, Bool.and_false, Bool.false_and, Bool.or_false, Bool.false_or, Bool.or_true, Bool.true_or, reduceCtorEq, false_and, and_false, or_false, false_or, beq_self_eq_true,
    Option.some.injEq, Prod.mk.injEq, Rv.dat.injEq, Rv.ref.injEq, D.int.injEq, D.bl.injEq, D.str.injEq, D.tup.injEq, D.lst.injEq, D.dic.injEq, D.scr.injEq, List.cons.injEq, and_true, true_and, exists_and_left, exists_and_right, exists_eq_left, exists_eq_left', exists_eq_right, exists_eq_right', exists_eq, exists_eq', exists_const, decide_eq_true_eq, decide_eq_false_iff_not, Bool.and_eq_true, beq_iff_eq, beq_eq_false_iff_ne, ne_eq, decide_true, decide_false, hdR_len, stR_len, hdR_24, hdR_25, hdR_26, hdR_27, hdR_28, hdR_29, hdR_30, stR_16, stR_18, stR_19, stR_20, stR_21, stR_22, stR_23, hdP_25, hdP_26, hdP_27, hdP_28, hdP_29, hdP_30, stP_16, stP_19, stP_20, stP_21, stP_22, stP_23, hdD, List.length_set, set_two, denc_push, denc_swap, denc_pop, denc_top, denc_clear, eqv_optN, plN_optN, isNon_optN, optN_some, optN_none, seenD_some, seenD_none, items_pair, items_vals, phk, kdk, List.getElem?_set_self, List.getElem?_set_ne, List.getElem?_append_left, ltaddr, boxD, cDict, *])
local macro_rules | `(tactic| walk_at "dwf") => `(tactic| simp (config := { maxSteps := 1000000 }) only [and_assoc, natD, mapint_inj, mapnat_inj, denc_inj, wfor_eq, ixD, ixM, cut_one, List.tail_cons, List.tail_nil, eqvs_nil, List.isEmpty_cons, List.isEmpty_nil, plAll_int, plAll_nat, Ss.W, Sm.W, Ex.W, Ex.T, Es.W, wVar, BOp.B, COp.B, Bi.B, IxK.B, bI0, bIC, bEq, bIs, bIn, bIxL, bIxT, bIxS, bIxK, bCat, bCatT, bRep, cLen, cInt, cMin2, cList, cTup, wantB, wAndT, wOrT, wAndV, wOrV, wNotV, lenOf, lstOf_ref, lstOf_lst, seqOf, dicOf_ref, dicOf_dic, wPart, wIter, tstW, mAppend, mPop, mPopAt, mClear, wSetIx, wSetKey, Tg.put, wipeN, Cell.lst.injEq, Cell.dic.injEq, Cell.fz.injEq, List.length_map, tyR, tyD,
    eqv_ii, eqv_ss, eqv_bb, eqv_nn, eqv_ll, eqv_tt, eqn_non_int, eqn_non_str, eqn_non_lst, eqn_non_tup, eqn_non_bl, eqn_non_dic, eqn_int_non, eqn_int_str, eqn_int_lst, eqn_int_tup, eqn_int_dic, eqn_str_non, eqn_str_int, eqn_str_lst, eqn_str_tup, eqn_str_bl, eqn_str_dic, eqn_lst_non, eqn_lst_int, eqn_lst_str, eqn_lst_tup, eqn_lst_bl, eqn_lst_dic, eqn_tup_non, eqn_tup_int, eqn_tup_str, eqn_tup_lst, eqn_tup_bl, eqn_tup_dic, eqn_bl_non, eqn_bl_str, eqn_bl_lst, eqn_bl_tup, eqn_bl_dic, eqvs, atI_lit, cdiv_lit, cmul_r, cmul_l, cpow_lit, nrm_dat, nrm_ref, plN, plAll, rd_dat, rd_ref, rds_nil, rds_cons, rds_map, rdk_nil, rdk_cons,               isNon, tyNames, kbs,
    Option.map_some, Option.map_none, Option.isSome_some, List.getD_cons_zero, List.getD_cons_succ, List.getD_nil, get_app, get_app0, set_app, set_app0, List.length_append, List.append_assoc, List.any_cons, List.any_nil, List.zip_cons_cons, List.zip_nil_left, List.zip_nil_right,
    List.map_cons, List.map_nil, List.cons_append, List.nil_append, List.append_nil, List.length_cons, List.length_nil, List.replicate, List.set_cons_zero, List.set_cons_succ, List.getElem?_cons_zero, List.getElem?_cons_succ, List.set_nil, List.getElem?_nil,
    Nat.reduceAdd, Nat.reduceSub, Nat.reduceBEq, Nat.reduceLeDiff, Nat.reduceEqDiff, Nat.sub_self, Nat.zero_add, Nat.add_zero, Nat.zero_le, Nat.le_add_right, Nat.le_refl, Int.reduceToNat, Int.reduceLE, Nat.reduceLT, Nat.reducePow, Int.reducePow, Int.reduceNeg, or_true, true_or, Int.reduceLT, Bool.false_eq_true, if_true, if_false, forall_const, false_implies, true_implies, implies_true, Int.reduceEq, cast_lit, not_true_eq_false, not_false_eq_true, Bool.not_true, Bool.not_false, Bool.not_eq_true', Bool.not_eq_false', Bool.and_true, Bool.true_and, Bool.and_false, Bool.false_and, Bool.or_false, Bool.false_or, Bool.or_true, Bool.true_or, reduceCtorEq, false_and, and_false, or_false, false_or, beq_self_eq_true,
    Option.some.injEq, Prod.mk.injEq, Rv.dat.injEq, Rv.ref.injEq, D.int.injEq, D.bl.injEq, D.str.injEq, D.tup.injEq, D.lst.injEq, D.dic.injEq, D.scr.injEq, List.cons.injEq, and_true, true_and, exists_and_left, exists_and_right, exists_eq_left, exists_eq_left', exists_eq_right, exists_eq_right', exists_eq, exists_eq', exists_const, decide_eq_true_eq, decide_eq_false_iff_not, Bool.and_eq_true, beq_iff_eq, beq_eq_false_iff_ne, ne_eq, decide_true, decide_false, hdR_len, stR_len, hdR_24, hdR_25, hdR_26, hdR_27, hdR_28, hdR_29, hdR_30, stR_16, stR_18, stR_19, stR_20, stR_21, stR_22, stR_23, hdP_25, hdP_26, hdP_27, hdP_28, hdP_29, hdP_30, stP_16, stP_19, stP_20, stP_21, stP_22, stP_23, hdD, List.length_set, set_two, denc_push, denc_swap, denc_pop, denc_top, denc_clear, eqv_optN, plN_optN, isNon_optN, optN_some, optN_none, seenD_some, seenD_none, items_pair, items_vals, phk, kdk, List.getElem?_set_self, List.getElem?_set_ne, List.getElem?_append_left, ltaddr, boxD, cDict, *])
abbrev fn_p_come_to_point : List Str := []
def m_p_come_to_point : DW.Ss := (.cons (.set 4 (.ix .l (.ix .k (.var 0) (.str 21)) (.var 1)))
  (.cons (.set 5 (.ix .l (.ix .k (.var 4) (.str 24)) (.ix .k (.var 4) (.str 25))))
  (.cons (.expr (.app (.ix .k (.var 0) (.str 22)) (.tup (.cons (.var 1) (.cons (.ix .k (.var 4) (.str 25)) (.cons (.var 5) (.cons (.ix .k (.var 4) (.str 30)) (.cons (.ix .k (.var 0) (.str 23)) (.cons (.var 2) (.cons (.var 3) .nil))))))))))
  .nil)))
abbrev Ss_p_come_to_point : List SpD := []
def S_p_come_to_point : SpD := fun rs g Q => ∃ (v : Vw) (s : St) (hd : Hand) (e : Option Nat) (a : Ans), rs = [.ref v.cs, .dat (.int (v.n : Int)), .dat (optN e), .dat a.enc] ∧ (Mem g v s hd ∧ hd.at_ < hd.deeds.length ∧ s.rows.length ≤ 100000 ∧ ∀ g' v', Mem g' v' (s.point hd v.n e a) hd → Go g v g' v' → Q (.dat .non) g')
theorem mo_p_come_to_point : Mono S_p_come_to_point := by
  rintro rs g P P2 h ⟨v, s, hd, e, a, eRS, q⟩
  refine ⟨v, s, hd, e, a, eRS, ?_⟩
  exact ⟨q.1, q.2.1, q.2.2.1, fun g' v' h1 h2 => h _ _ (q.2.2.2 g' v' h1 h2)⟩
theorem len_p_come_to_point : ∀ rs g Q, S_p_come_to_point rs g Q → rs.length = 4 := by
  rintro rs g Q ⟨v, s, hd, e, a, rfl, q⟩
  rfl
theorem hS_p_come_to_point : ∀ rs g Q, S_p_come_to_point rs g Q → m_p_come_to_point.W (wd Ss_p_come_to_point glF dtF) (rs.map some ++ List.replicate (6 - rs.length) none) g (fun _ g2 => Fin g Q (.dat .non) g2) (Fin g Q) := by
  rintro rs g Q ⟨v, s, hd, e, a, rfl, q⟩
  unfold m_p_come_to_point
  obtain ⟨m, hat, hrl, q⟩ := q
  have hal := m.all
  have hde := deed_at hat
  have hlr : s.rows.length < 1000000 := by omega
  walk_at "dwh"
  exact fin_non q (m.mg.row_app ⟨v.n, hd.at_, hd.deed, hd.begun, s.time, e, a⟩)

end DW

/-! ## F_p_next_deed.lean -/
set_option Elab.async false
set_option linter.all false
set_option maxRecDepth 100000
set_option maxHeartbeats 4000000
set_option autoImplicit false
namespace DW
open PySem PySem.Spec L2
open PyProof.Rows hiding St

local macro_rules | `(tactic| walk_at "dw") => `(tactic| simp (config := { maxSteps := 1000000 }) only [and_assoc, natD, mapint_inj, mapnat_inj, denc_inj, wfor_eq, ixD, ixM, cut_one, List.tail_cons, List.tail_nil, eqvs_nil, List.isEmpty_cons, List.isEmpty_nil, plAll_int, plAll_nat, Ss.W, Sm.W, Ex.W, Ex.T, Es.W, wVar, BOp.B, COp.B, Bi.B, IxK.B, bI0, bIC, bEq, bIs, bIn, bIxL, bIxT, bIxS, bIxK, bCat, bCatT, bRep, cLen, cInt, cMin2, cList, cTup, wantB, wAndT, wOrT, wAndV, wOrV, wNotV, lenOf, lstOf_ref, lstOf_lst, seqOf, dicOf_ref, dicOf_dic, wPart, wIter, tstW, mAppend, mPop, mPopAt, mClear, wSetIx, wSetKey, Tg.put, wipeN, Cell.lst.injEq, Cell.dic.injEq, Cell.fz.injEq, List.length_map, tyR, tyD,
    eqv_ii, eqv_ss, eqv_bb, eqv_nn, eqv_ll, eqv_tt, eqn_non_int, eqn_non_str, eqn_non_lst, eqn_non_tup, eqn_non_bl, eqn_non_dic, eqn_int_non, eqn_int_str, eqn_int_lst, eqn_int_tup, eqn_int_dic, eqn_str_non, eqn_str_int, eqn_str_lst, eqn_str_tup, eqn_str_bl, eqn_str_dic, eqn_lst_non, eqn_lst_int, eqn_lst_str, eqn_lst_tup, eqn_lst_bl, eqn_lst_dic, eqn_tup_non, eqn_tup_int, eqn_tup_str, eqn_tup_lst, eqn_tup_bl, eqn_tup_dic, eqn_bl_non, eqn_bl_str, eqn_bl_lst, eqn_bl_tup, eqn_bl_dic, eqvs, atI_lit, cdiv_lit, cmul_r, cmul_l, cpow_lit, nrm_dat, nrm_ref, plN, plAll, rd_dat, rd_ref, rds_nil, rds_cons, rds_map, rdk_nil, rdk_cons, wFrz, frz1, wFrzL, frzs, datsN, datsN_map, datsK, isNon, tyNames, kbs,
    Option.map_some, Option.map_none, Option.isSome_some, List.getD_cons_zero, List.getD_cons_succ, List.getD_nil, get_app, get_app0, set_app, set_app0, List.length_append, List.append_assoc, List.any_cons, List.any_nil, List.zip_cons_cons, List.zip_nil_left, List.zip_nil_right,
    List.map_cons, List.map_nil, List.cons_append, List.nil_append, List.append_nil, List.length_cons, List.length_nil, List.replicate, List.set_cons_zero, List.set_cons_succ, List.getElem?_cons_zero, List.getElem?_cons_succ, List.set_nil, List.getElem?_nil,
    Nat.reduceAdd, Nat.reduceSub, Nat.reduceBEq, Nat.reduceLeDiff, Nat.reduceEqDiff, Nat.sub_self, Nat.zero_add, Nat.add_zero, Nat.zero_le, Nat.le_add_right, Nat.le_refl, Int.reduceToNat, Int.reduceLE, Nat.reduceLT, Nat.reducePow, Int.reducePow, Int.reduceNeg, or_true, true_or, Int.reduceLT, Bool.false_eq_true, if_true, if_false, forall_const, false_implies, true_implies, implies_true, Int.reduceEq, cast_lit, not_true_eq_false, not_false_eq_true, Bool.not_true, Bool.not_false, Bool.not_eq_true', Bool.not_eq_false', Bool.and_true, Bool.true_and, Bool.and_false, Bool.false_and, Bool.or_false, Bool.false_or, Bool.or_true, Bool.true_or, reduceCtorEq, false_and, and_false, or_false, false_or, beq_self_eq_true,
    Option.some.injEq, Prod.mk.injEq, Rv.dat.injEq, Rv.ref.injEq, D.int.injEq, D.bl.injEq, D.str.injEq, D.tup.injEq, D.lst.injEq, D.dic.injEq, D.scr.injEq, List.cons.injEq, and_true, true_and, exists_and_left, exists_and_right, exists_eq_left, exists_eq_left', exists_eq_right, exists_eq_right', exists_eq, exists_eq', exists_const, decide_eq_true_eq, decide_eq_false_iff_not, Bool.and_eq_true, beq_iff_eq, beq_eq_false_iff_ne, ne_eq, decide_true, decide_false, hdR_len, stR_len, hdR_24, hdR_25, hdR_26, hdR_27, hdR_28, hdR_29, hdR_30, stR_16, stR_18, stR_19, stR_20, stR_21, stR_22, stR_23, hdP_25, hdP_26, hdP_27, hdP_28, hdP_29, hdP_30, stP_16, stP_19, stP_20, stP_21, stP_22, stP_23, hdD, List.length_set, set_two, denc_push, denc_swap, denc_pop, denc_top, denc_clear, eqv_optN, plN_optN, isNon_optN, optN_some, optN_none, seenD_some, seenD_none, items_pair, items_vals, phk, kdk, List.getElem?_set_self, List.getElem?_set_ne, List.getElem?_append_left, ltaddr, boxD, cDict])
local macro_rules | `(tactic| walk_at "dwh") => `(tactic| simp (config := { maxSteps := 1000000 }) only [and_assoc, natD, mapint_inj, mapnat_inj, denc_inj, wfor_eq, ixD, ixM, cut_one, List.tail_cons, List.tail_nil, eqvs_nil, List.isEmpty_cons, List.isEmpty_nil, plAll_int, plAll_nat, Ss.W, Sm.W, Ex.W, Ex.T, Es.W, wVar, BOp.B, COp.B, Bi.B, IxK.B, bI0, bIC, bEq, bIs, bIn, bIxL, bIxT, bIxS, bIxK, bCat, bCatT, bRep, cLen, cInt, cMin2, cList, cTup, wantB, wAndT, wOrT, wAndV, wOrV, wNotV, lenOf, lstOf_ref, lstOf_lst, seqOf, dicOf_ref, dicOf_dic, wPart, wIter, tstW, mAppend, mPop, mPopAt, mClear, wSetIx, wSetKey, Tg.put, wipeN, Cell.lst.injEq, Cell.dic.injEq, Cell.fz.injEq, List.length_map, tyR, tyD,
    eqv_ii, eqv_ss, eqv_bb, eqv_nn, eqv_ll, eqv_tt, eqn_non_int, eqn_non_str, eqn_non_lst, eqn_non_tup, eqn_non_bl, eqn_non_dic, eqn_int_non, eqn_int_str, eqn_int_lst, eqn_int_tup, eqn_int_dic, eqn_str_non, eqn_str_int, eqn_str_lst, eqn_str_tup, eqn_str_bl, eqn_str_dic, eqn_lst_non, eqn_lst_int, eqn_lst_str, eqn_lst_tup, eqn_lst_bl, eqn_lst_dic, eqn_tup_non, eqn_tup_int, eqn_tup_str, eqn_tup_lst, eqn_tup_bl, eqn_tup_dic, eqn_bl_non, eqn_bl_str, eqn_bl_lst, eqn_bl_tup, eqn_bl_dic, eqvs, atI_lit, cdiv_lit, cmul_r, cmul_l, cpow_lit, nrm_dat, nrm_ref, plN, plAll, rd_dat, rd_ref, rds_nil, rds_cons, rds_map, rdk_nil, rdk_cons, wFrz, frz1, wFrzL, frzs, datsN, datsN_map, datsK, isNon, tyNames, kbs,
    Option.map_some, Option.map_none, Option.isSome_some, List.getD_cons_zero, List.getD_cons_succ, List.getD_nil, get_app, get_app0, set_app, set_app0, List.length_append, List.append_assoc, List.any_cons, List.any_nil, List.zip_cons_cons, List.zip_nil_left, List.zip_nil_right,
    List.map_cons, List.map_nil, List.cons_append, List.nil_append, List.append_nil, List.length_cons, List.length_nil, List.replicate, List.set_cons_zero, List.set_cons_succ, List.getElem?_cons_zero, List.getElem?_cons_succ, List.set_nil, List.getElem?_nil,
    Nat.reduceAdd, Nat.reduceSub, Nat.reduceBEq, Nat.reduceLeDiff, Nat.reduceEqDiff, Nat.sub_self, Nat.zero_add, Nat.add_zero, Nat.zero_le, Nat.le_add_right, Nat.le_refl, Int.reduceToNat, Int.reduceLE, Nat.reduceLT, Nat.reducePow, Int.reducePow, Int.reduceNeg, or_true, true_or, Int.reduceLT, Bool.false_eq_true, if_true, if_false, forall_const, false_implies, true_implies, implies_true, Int.reduceEq, cast_lit, not_true_eq_false, not_false_eq_true, Bool.not_true, Bool.not_false, Bool.not_eq_true', Bool.not_eq_false', Bool.and_true, Bool.true_and, Bool.and_false, Bool.false_and, Bool.or_false, Bool.false_or, Bool.or_true, Bool.true_or, reduceCtorEq, false_and, and_false, or_false, false_or, beq_self_eq_true,
    Option.some.injEq, Prod.mk.injEq, Rv.dat.injEq, Rv.ref.injEq, D.int.injEq, D.bl.injEq, D.str.injEq, D.tup.injEq, D.lst.injEq, D.dic.injEq, D.scr.injEq, List.cons.injEq, and_true, true_and, exists_and_left, exists_and_right, exists_eq_left, exists_eq_left', exists_eq_right, exists_eq_right', exists_eq, exists_eq', exists_const, decide_eq_true_eq, decide_eq_false_iff_not, Bool.and_eq_true, beq_iff_eq, beq_eq_false_iff_ne, ne_eq, decide_true, decide_false, hdR_len, stR_len, hdR_24, hdR_25, hdR_26, hdR_27, hdR_28, hdR_29, hdR_30, stR_16, stR_18, stR_19, stR_20, stR_21, stR_22, stR_23, hdP_25, hdP_26, hdP_27, hdP_28, hdP_29, hdP_30, stP_16, stP_19, stP_20, stP_21, stP_22, stP_23, hdD, List.length_set, set_two, denc_push, denc_swap, denc_pop, denc_top, denc_clear, eqv_optN, plN_optN, isNon_optN, optN_some, optN_none, seenD_some, seenD_none, items_pair, items_vals, phk, kdk, List.getElem?_set_self, List.getElem?_set_ne, List.getElem?_append_left, ltaddr, boxD, cDict, *])
local macro_rules | `(tactic| walk_at "dwf") => `(tactic| simp (config := { maxSteps := 1000000 }) only [and_assoc, natD, mapint_inj, mapnat_inj, denc_inj, wfor_eq, ixD, ixM, cut_one, List.tail_cons, List.tail_nil, eqvs_nil, List.isEmpty_cons, List.isEmpty_nil, plAll_int, plAll_nat, Ss.W, Sm.W, Ex.W, Ex.T, Es.W, wVar, BOp.B, COp.B, Bi.B, IxK.B, bI0, bIC, bEq, bIs, bIn, bIxL, bIxT, bIxS, bIxK, bCat, bCatT, bRep, cLen, cInt, cMin2, cList, cTup, wantB, wAndT, wOrT, wAndV, wOrV, wNotV, lenOf, lstOf_ref, lstOf_lst, seqOf, dicOf_ref, dicOf_dic, wPart, wIter, tstW, mAppend, mPop, mPopAt, mClear, wSetIx, wSetKey, Tg.put, wipeN, Cell.lst.injEq, Cell.dic.injEq, Cell.fz.injEq, List.length_map, tyR, tyD,
    eqv_ii, eqv_ss, eqv_bb, eqv_nn, eqv_ll, eqv_tt, eqn_non_int, eqn_non_str, eqn_non_lst, eqn_non_tup, eqn_non_bl, eqn_non_dic, eqn_int_non, eqn_int_str, eqn_int_lst, eqn_int_tup, eqn_int_dic, eqn_str_non, eqn_str_int, eqn_str_lst, eqn_str_tup, eqn_str_bl, eqn_str_dic, eqn_lst_non, eqn_lst_int, eqn_lst_str, eqn_lst_tup, eqn_lst_bl, eqn_lst_dic, eqn_tup_non, eqn_tup_int, eqn_tup_str, eqn_tup_lst, eqn_tup_bl, eqn_tup_dic, eqn_bl_non, eqn_bl_str, eqn_bl_lst, eqn_bl_tup, eqn_bl_dic, eqvs, atI_lit, cdiv_lit, cmul_r, cmul_l, cpow_lit, nrm_dat, nrm_ref, plN, plAll, rd_dat, rd_ref, rds_nil, rds_cons, rds_map, rdk_nil, rdk_cons,               isNon, tyNames, kbs,
    Option.map_some, Option.map_none, Option.isSome_some, List.getD_cons_zero, List.getD_cons_succ, List.getD_nil, get_app, get_app0, set_app, set_app0, List.length_append, List.append_assoc, List.any_cons, List.any_nil, List.zip_cons_cons, List.zip_nil_left, List.zip_nil_right,
    List.map_cons, List.map_nil, List.cons_append, List.nil_append, List.append_nil, List.length_cons, List.length_nil, List.replicate, List.set_cons_zero, List.set_cons_succ, List.getElem?_cons_zero, List.getElem?_cons_succ, List.set_nil, List.getElem?_nil,
    Nat.reduceAdd, Nat.reduceSub, Nat.reduceBEq, Nat.reduceLeDiff, Nat.reduceEqDiff, Nat.sub_self, Nat.zero_add, Nat.add_zero, Nat.zero_le, Nat.le_add_right, Nat.le_refl, Int.reduceToNat, Int.reduceLE, Nat.reduceLT, Nat.reducePow, Int.reducePow, Int.reduceNeg, or_true, true_or, Int.reduceLT, Bool.false_eq_true, if_true, if_false, forall_const, false_implies, true_implies, implies_true, Int.reduceEq, cast_lit, not_true_eq_false, not_false_eq_true, Bool.not_true, Bool.not_false, Bool.not_eq_true', Bool.not_eq_false', Bool.and_true, Bool.true_and, Bool.and_false, Bool.false_and, Bool.or_false, Bool.false_or, Bool.or_true, Bool.true_or, reduceCtorEq, false_and, and_false, or_false, false_or, beq_self_eq_true,
    Option.some.injEq, Prod.mk.injEq, Rv.dat.injEq, Rv.ref.injEq, D.int.injEq, D.bl.injEq, D.str.injEq, D.tup.injEq, D.lst.injEq, D.dic.injEq, D.scr.injEq, List.cons.injEq, and_true, true_and, exists_and_left, exists_and_right, exists_eq_left, exists_eq_left', exists_eq_right, exists_eq_right', exists_eq, exists_eq', exists_const, decide_eq_true_eq, decide_eq_false_iff_not, Bool.and_eq_true, beq_iff_eq, beq_eq_false_iff_ne, ne_eq, decide_true, decide_false, hdR_len, stR_len, hdR_24, hdR_25, hdR_26, hdR_27, hdR_28, hdR_29, hdR_30, stR_16, stR_18, stR_19, stR_20, stR_21, stR_22, stR_23, hdP_25, hdP_26, hdP_27, hdP_28, hdP_29, hdP_30, stP_16, stP_19, stP_20, stP_21, stP_22, stP_23, hdD, List.length_set, set_two, denc_push, denc_swap, denc_pop, denc_top, denc_clear, eqv_optN, plN_optN, isNon_optN, optN_some, optN_none, seenD_some, seenD_none, items_pair, items_vals, phk, kdk, List.getElem?_set_self, List.getElem?_set_ne, List.getElem?_append_left, ltaddr, boxD, cDict, *])
abbrev fn_p_next_deed : List Str := []
def m_p_next_deed : DW.Ss := (.cons (.setKey (.var 0) (.str 25) (.bin .addI (.ix .k (.var 0) (.str 25)) (.int 1)))
  (.cons (.setKey (.var 0) (.str 26) (.str 31))
  (.cons (.setKey (.var 0) (.str 27) .non)
  (.cons (.setKey (.var 0) (.str 28) .non)
  (.cons (.setKey (.var 0) (.str 29) (.lst .nil))
  .nil)))))
abbrev Ss_p_next_deed : List SpD := []
def S_p_next_deed : SpD := fun rs g Q => ∃ (v : Vw) (s : St) (hd : Hand), rs = [.ref v.ch] ∧ (Mem g v s hd ∧ ∀ g' v', Mem g' v' s hd.next → Go g v g' v' → Q (.dat .non) g')
theorem mo_p_next_deed : Mono S_p_next_deed := by
  rintro rs g P P2 h ⟨v, s, hd, eRS, q⟩
  refine ⟨v, s, hd, eRS, ?_⟩
  exact ⟨q.1, fun g' v' h1 h2 => h _ _ (q.2 g' v' h1 h2)⟩
theorem len_p_next_deed : ∀ rs g Q, S_p_next_deed rs g Q → rs.length = 1 := by
  rintro rs g Q ⟨v, s, hd, rfl, q⟩
  rfl
theorem hS_p_next_deed : ∀ rs g Q, S_p_next_deed rs g Q → m_p_next_deed.W (wd Ss_p_next_deed glF dtF) (rs.map some ++ List.replicate (1 - rs.length) none) g (fun _ g2 => Fin g Q (.dat .non) g2) (Fin g Q) := by
  rintro rs g Q ⟨v, s, hd, rfl, q⟩
  unfold m_p_next_deed
  obtain ⟨m, q⟩ := q
  have hal := m.all
  have hnes := m.nes
  walk_at "dwh"
  have z := fin_non q ((m.mg.hw { hd.next with got := hd.got } rfl).nw (.vals []) hd.next rfl)
  rw [List.length_set] at z; exact z

end DW

/-! ## F_p_come_to_end.lean -/
set_option Elab.async false
set_option linter.all false
set_option maxRecDepth 100000
set_option maxHeartbeats 4000000
set_option autoImplicit false
namespace DW
open PySem PySem.Spec L2
open PyProof.Rows hiding St

local macro_rules | `(tactic| walk_at "dw") => `(tactic| simp (config := { maxSteps := 1000000 }) only [and_assoc, natD, mapint_inj, mapnat_inj, denc_inj, wfor_eq, ixD, ixM, cut_one, List.tail_cons, List.tail_nil, eqvs_nil, List.isEmpty_cons, List.isEmpty_nil, plAll_int, plAll_nat, Ss.W, Sm.W, Ex.W, Ex.T, Es.W, wVar, BOp.B, COp.B, Bi.B, IxK.B, bI0, bIC, bEq, bIs, bIn, bIxL, bIxT, bIxS, bIxK, bCat, bCatT, bRep, cLen, cInt, cMin2, cList, cTup, wantB, wAndT, wOrT, wAndV, wOrV, wNotV, lenOf, lstOf_ref, lstOf_lst, seqOf, dicOf_ref, dicOf_dic, wPart, wIter, tstW, mAppend, mPop, mPopAt, mClear, wSetIx, wSetKey, Tg.put, wipeN, Cell.lst.injEq, Cell.dic.injEq, Cell.fz.injEq, List.length_map, tyR, tyD,
    eqv_ii, eqv_ss, eqv_bb, eqv_nn, eqv_ll, eqv_tt, eqn_non_int, eqn_non_str, eqn_non_lst, eqn_non_tup, eqn_non_bl, eqn_non_dic, eqn_int_non, eqn_int_str, eqn_int_lst, eqn_int_tup, eqn_int_dic, eqn_str_non, eqn_str_int, eqn_str_lst, eqn_str_tup, eqn_str_bl, eqn_str_dic, eqn_lst_non, eqn_lst_int, eqn_lst_str, eqn_lst_tup, eqn_lst_bl, eqn_lst_dic, eqn_tup_non, eqn_tup_int, eqn_tup_str, eqn_tup_lst, eqn_tup_bl, eqn_tup_dic, eqn_bl_non, eqn_bl_str, eqn_bl_lst, eqn_bl_tup, eqn_bl_dic, eqvs, atI_lit, cdiv_lit, cmul_r, cmul_l, cpow_lit, nrm_dat, nrm_ref, plN, plAll, rd_dat, rd_ref, rds_nil, rds_cons, rds_map, rdk_nil, rdk_cons, wFrz, frz1, wFrzL, frzs, datsN, datsN_map, datsK, isNon, tyNames, kbs,
    Option.map_some, Option.map_none, Option.isSome_some, List.getD_cons_zero, List.getD_cons_succ, List.getD_nil, get_app, get_app0, set_app, set_app0, List.length_append, List.append_assoc, List.any_cons, List.any_nil, List.zip_cons_cons, List.zip_nil_left, List.zip_nil_right,
    List.map_cons, List.map_nil, List.cons_append, List.nil_append, List.append_nil, List.length_cons, List.length_nil, List.replicate, List.set_cons_zero, List.set_cons_succ, List.getElem?_cons_zero, List.getElem?_cons_succ, List.set_nil, List.getElem?_nil,
    Nat.reduceAdd, Nat.reduceSub, Nat.reduceBEq, Nat.reduceLeDiff, Nat.reduceEqDiff, Nat.sub_self, Nat.zero_add, Nat.add_zero, Nat.zero_le, Nat.le_add_right, Nat.le_refl, Int.reduceToNat, Int.reduceLE, Nat.reduceLT, Nat.reducePow, Int.reducePow, Int.reduceNeg, or_true, true_or, Int.reduceLT, Bool.false_eq_true, if_true, if_false, forall_const, false_implies, true_implies, implies_true, Int.reduceEq, cast_lit, not_true_eq_false, not_false_eq_true, Bool.not_true, Bool.not_false, Bool.not_eq_true', Bool.not_eq_false', Bool.and_true, Bool.true_and, Bool.and_false, Bool.false_and, Bool.or_false, Bool.false_or, Bool.or_true, Bool.true_or, reduceCtorEq, false_and, and_false, or_false, false_or, beq_self_eq_true,
    Option.some.injEq, Prod.mk.injEq, Rv.dat.injEq, Rv.ref.injEq, D.int.injEq, D.bl.injEq, D.str.injEq, D.tup.injEq, D.lst.injEq, D.dic.injEq, D.scr.injEq, List.cons.injEq, and_true, true_and, exists_and_left, exists_and_right, exists_eq_left, exists_eq_left', exists_eq_right, exists_eq_right', exists_eq, exists_eq', exists_const, decide_eq_true_eq, decide_eq_false_iff_not, Bool.and_eq_true, beq_iff_eq, beq_eq_false_iff_ne, ne_eq, decide_true, decide_false, hdR_len, stR_len, hdR_24, hdR_25, hdR_26, hdR_27, hdR_28, hdR_29, hdR_30, stR_16, stR_18, stR_19, stR_20, stR_21, stR_22, stR_23, hdP_25, hdP_26, hdP_27, hdP_28, hdP_29, hdP_30, stP_16, stP_19, stP_20, stP_21, stP_22, stP_23, hdD, List.length_set, set_two, denc_push, denc_swap, denc_pop, denc_top, denc_clear, eqv_optN, plN_optN, isNon_optN, optN_some, optN_none, seenD_some, seenD_none, items_pair, items_vals, phk, kdk, List.getElem?_set_self, List.getElem?_set_ne, List.getElem?_append_left, ltaddr, boxD, cDict])
local macro_rules | `(tactic| walk_at "dwh") => `(tactic| simp (config := { maxSteps := 1000000 }) only [and_assoc, natD, mapint_inj, mapnat_inj, denc_inj, wfor_eq, ixD, ixM, cut_one, List.tail_cons, List.tail_nil, eqvs_nil, List.isEmpty_cons, List.isEmpty_nil, plAll_int, plAll_nat, Ss.W, Sm.W, Ex.W, Ex.T, Es.W, wVar, BOp.B, COp.B, Bi.B, IxK.B, bI0, bIC, bEq, bIs, bIn, bIxL, bIxT, bIxS, bIxK, bCat, bCatT, bRep, cLen, cInt, cMin2, cList, cTup, wantB, wAndT, wOrT, wAndV, wOrV, wNotV, lenOf, lstOf_ref, lstOf_lst, seqOf, dicOf_ref, dicOf_dic, wPart, wIter, tstW, mAppend, mPop, mPopAt, mClear, wSetIx, wSetKey, Tg.put, wipeN, Cell.lst.injEq, Cell.dic.injEq, Cell.fz.injEq, List.length_map, tyR, tyD,
    eqv_ii, eqv_ss, eqv_bb, eqv_nn, eqv_ll, eqv_tt, eqn_non_int, eqn_non_str, eqn_non_lst, eqn_non_tup, eqn_non_bl, eqn_non_dic, eqn_int_non, eqn_int_str, eqn_int_lst, eqn_int_tup, eqn_int_dic, eqn_str_non, eqn_str_int, eqn_str_lst, eqn_str_tup, eqn_str_bl, eqn_str_dic, eqn_lst_non, eqn_lst_int, eqn_lst_str, eqn_lst_tup, eqn_lst_bl, eqn_lst_dic, eqn_tup_non, eqn_tup_int, eqn_tup_str, eqn_tup_lst, eqn_tup_bl, eqn_tup_dic, eqn_bl_non, eqn_bl_str, eqn_bl_lst, eqn_bl_tup, eqn_bl_dic, eqvs, atI_lit, cdiv_lit, cmul_r, cmul_l, cpow_lit, nrm_dat, nrm_ref, plN, plAll, rd_dat, rd_ref, rds_nil, rds_cons, rds_map, rdk_nil, rdk_cons, wFrz, frz1, wFrzL, frzs, datsN, datsN_map, datsK, isNon, tyNames, kbs,
    Option.map_some, Option.map_none, Option.isSome_some, List.getD_cons_zero, List.getD_cons_succ, List.getD_nil, get_app, get_app0, set_app, set_app0, List.length_append, List.append_assoc, List.any_cons, List.any_nil, List.zip_cons_cons, List.zip_nil_left, List.zip_nil_right,
    List.map_cons, List.map_nil, List.cons_append, List.nil_append, List.append_nil, List.length_cons, List.length_nil, List.replicate, List.set_cons_zero, List.set_cons_succ, List.getElem?_cons_zero, List.getElem?_cons_succ, List.set_nil, List.getElem?_nil,
    Nat.reduceAdd, Nat.reduceSub, Nat.reduceBEq, Nat.reduceLeDiff, Nat.reduceEqDiff, Nat.sub_self, Nat.zero_add, Nat.add_zero, Nat.zero_le, Nat.le_add_right, Nat.le_refl, Int.reduceToNat, Int.reduceLE, Nat.reduceLT, Nat.reducePow, Int.reducePow, Int.reduceNeg, or_true, true_or, Int.reduceLT, Bool.false_eq_true, if_true, if_false, forall_const, false_implies, true_implies, implies_true, Int.reduceEq, cast_lit, not_true_eq_false, not_false_eq_true, Bool.not_true, Bool.not_false, Bool.not_eq_true', Bool.not_eq_false', Bool.and_true, Bool.true_and, Bool.and_false, Bool.false_and, Bool.or_false, Bool.false_or, Bool.or_true, Bool.true_or, reduceCtorEq, false_and, and_false, or_false, false_or, beq_self_eq_true,
    Option.some.injEq, Prod.mk.injEq, Rv.dat.injEq, Rv.ref.injEq, D.int.injEq, D.bl.injEq, D.str.injEq, D.tup.injEq, D.lst.injEq, D.dic.injEq, D.scr.injEq, List.cons.injEq, and_true, true_and, exists_and_left, exists_and_right, exists_eq_left, exists_eq_left', exists_eq_right, exists_eq_right', exists_eq, exists_eq', exists_const, decide_eq_true_eq, decide_eq_false_iff_not, Bool.and_eq_true, beq_iff_eq, beq_eq_false_iff_ne, ne_eq, decide_true, decide_false, hdR_len, stR_len, hdR_24, hdR_25, hdR_26, hdR_27, hdR_28, hdR_29, hdR_30, stR_16, stR_18, stR_19, stR_20, stR_21, stR_22, stR_23, hdP_25, hdP_26, hdP_27, hdP_28, hdP_29, hdP_30, stP_16, stP_19, stP_20, stP_21, stP_22, stP_23, hdD, List.length_set, set_two, denc_push, denc_swap, denc_pop, denc_top, denc_clear, eqv_optN, plN_optN, isNon_optN, optN_some, optN_none, seenD_some, seenD_none, items_pair, items_vals, phk, kdk, List.getElem?_set_self, List.getElem?_set_ne, List.getElem?_append_left, ltaddr, boxD, cDict, *])
local macro_rules | `(tactic| walk_at "dwf") => `(tactic| simp (config := { maxSteps := 1000000 }) only [and_assoc, natD, mapint_inj, mapnat_inj, denc_inj, wfor_eq, ixD, ixM, cut_one, List.tail_cons, List.tail_nil, eqvs_nil, List.isEmpty_cons, List.isEmpty_nil, plAll_int, plAll_nat, Ss.W, Sm.W, Ex.W, Ex.T, Es.W, wVar, BOp.B, COp.B, Bi.B, IxK.B, bI0, bIC, bEq, bIs, bIn, bIxL, bIxT, bIxS, bIxK, bCat, bCatT, bRep, cLen, cInt, cMin2, cList, cTup, wantB, wAndT, wOrT, wAndV, wOrV, wNotV, lenOf, lstOf_ref, lstOf_lst, seqOf, dicOf_ref, dicOf_dic, wPart, wIter, tstW, mAppend, mPop, mPopAt, mClear, wSetIx, wSetKey, Tg.put, wipeN, Cell.lst.injEq, Cell.dic.injEq, Cell.fz.injEq, List.length_map, tyR, tyD,
    eqv_ii, eqv_ss, eqv_bb, eqv_nn, eqv_ll, eqv_tt, eqn_non_int, eqn_non_str, eqn_non_lst, eqn_non_tup, eqn_non_bl, eqn_non_dic, eqn_int_non, eqn_int_str, eqn_int_lst, eqn_int_tup, eqn_int_dic, eqn_str_non, eqn_str_int, eqn_str_lst, eqn_str_tup, eqn_str_bl, eqn_str_dic, eqn_lst_non, eqn_lst_int, eqn_lst_str, eqn_lst_tup, eqn_lst_bl, eqn_lst_dic, eqn_tup_non, eqn_tup_int, eqn_tup_str, eqn_tup_lst, eqn_tup_bl, eqn_tup_dic, eqn_bl_non, eqn_bl_str, eqn_bl_lst, eqn_bl_tup, eqn_bl_dic, eqvs, atI_lit, cdiv_lit, cmul_r, cmul_l, cpow_lit, nrm_dat, nrm_ref, plN, plAll, rd_dat, rd_ref, rds_nil, rds_cons, rds_map, rdk_nil, rdk_cons,               isNon, tyNames, kbs,
    Option.map_some, Option.map_none, Option.isSome_some, List.getD_cons_zero, List.getD_cons_succ, List.getD_nil, get_app, get_app0, set_app, set_app0, List.length_append, List.append_assoc, List.any_cons, List.any_nil, List.zip_cons_cons, List.zip_nil_left, List.zip_nil_right,
    List.map_cons, List.map_nil, List.cons_append, List.nil_append, List.append_nil, List.length_cons, List.length_nil, List.replicate, List.set_cons_zero, List.set_cons_succ, List.getElem?_cons_zero, List.getElem?_cons_succ, List.set_nil, List.getElem?_nil,
    Nat.reduceAdd, Nat.reduceSub, Nat.reduceBEq, Nat.reduceLeDiff, Nat.reduceEqDiff, Nat.sub_self, Nat.zero_add, Nat.add_zero, Nat.zero_le, Nat.le_add_right, Nat.le_refl, Int.reduceToNat, Int.reduceLE, Nat.reduceLT, Nat.reducePow, Int.reducePow, Int.reduceNeg, or_true, true_or, Int.reduceLT, Bool.false_eq_true, if_true, if_false, forall_const, false_implies, true_implies, implies_true, Int.reduceEq, cast_lit, not_true_eq_false, not_false_eq_true, Bool.not_true, Bool.not_false, Bool.not_eq_true', Bool.not_eq_false', Bool.and_true, Bool.true_and, Bool.and_false, Bool.false_and, Bool.or_false, Bool.false_or, Bool.or_true, Bool.true_or, reduceCtorEq, false_and, and_false, or_false, false_or, beq_self_eq_true,
    Option.some.injEq, Prod.mk.injEq, Rv.dat.injEq, Rv.ref.injEq, D.int.injEq, D.bl.injEq, D.str.injEq, D.tup.injEq, D.lst.injEq, D.dic.injEq, D.scr.injEq, List.cons.injEq, and_true, true_and, exists_and_left, exists_and_right, exists_eq_left, exists_eq_left', exists_eq_right, exists_eq_right', exists_eq, exists_eq', exists_const, decide_eq_true_eq, decide_eq_false_iff_not, Bool.and_eq_true, beq_iff_eq, beq_eq_false_iff_ne, ne_eq, decide_true, decide_false, hdR_len, stR_len, hdR_24, hdR_25, hdR_26, hdR_27, hdR_28, hdR_29, hdR_30, stR_16, stR_18, stR_19, stR_20, stR_21, stR_22, stR_23, hdP_25, hdP_26, hdP_27, hdP_28, hdP_29, hdP_30, stP_16, stP_19, stP_20, stP_21, stP_22, stP_23, hdD, List.length_set, set_two, denc_push, denc_swap, denc_pop, denc_top, denc_clear, eqv_optN, plN_optN, isNon_optN, optN_some, optN_none, seenD_some, seenD_none, items_pair, items_vals, phk, kdk, List.getElem?_set_self, List.getElem?_set_ne, List.getElem?_append_left, ltaddr, boxD, cDict, *])
abbrev fn_p_come_to_end : List Str := ["come_to_point", "next_deed"]
def m_p_come_to_end : DW.Ss := (.cons (.expr (.call 0 (.cons (.var 0) (.cons (.var 1) (.cons (.ix .k (.var 0) (.str 23)) (.cons (.frz (.var 2)) .nil))))))
  (.cons (.expr (.call 1 (.cons (.ix .l (.ix .k (.var 0) (.str 21)) (.var 1)) .nil)))
  .nil))
abbrev Ss_p_come_to_end : List SpD := [S_p_come_to_point, S_p_next_deed]
def S_p_come_to_end : SpD := fun rs g Q => ∃ (v : Vw) (s : St) (hd : Hand) (a : Ans), rs = [.ref v.cs, .dat (.int (v.n : Int)), .dat a.enc] ∧ (Mem g v s hd ∧ hd.at_ < hd.deeds.length ∧ s.rows.length ≤ 100000 ∧ ∀ g' v', Mem g' v' (s.point hd v.n (some s.time) a) hd.next → Go g v g' v' → Q (.dat .non) g')
theorem mo_p_come_to_end : Mono S_p_come_to_end := by
  rintro rs g P P2 h ⟨v, s, hd, a, eRS, q⟩
  refine ⟨v, s, hd, a, eRS, ?_⟩
  exact ⟨q.1, q.2.1, q.2.2.1, fun g' v' h1 h2 => h _ _ (q.2.2.2 g' v' h1 h2)⟩
theorem len_p_come_to_end : ∀ rs g Q, S_p_come_to_end rs g Q → rs.length = 3 := by
  rintro rs g Q ⟨v, s, hd, a, rfl, q⟩
  rfl
theorem hS_p_come_to_end : ∀ rs g Q, S_p_come_to_end rs g Q → m_p_come_to_end.W (wd Ss_p_come_to_end glF dtF) (rs.map some ++ List.replicate (3 - rs.length) none) g (fun _ g2 => Fin g Q (.dat .non) g2) (Fin g Q) := by
  rintro rs g Q ⟨v, s, hd, a, rfl, q⟩
  unfold m_p_come_to_end
  obtain ⟨m, hat, hrl, q⟩ := q
  have hal := m.all
  walk_at "dwh"
  refine ⟨v, s, hd, some s.time, a, rfl, m, hat, hrl, fun g1 v1 m1 k1 => ?_⟩
  have e1 := k1.eq
  have hal1 := m1.all
  have n1 : v1.cs = v.cs := by rw [e1]
  have n2 : v1.n = v.n := by rw [e1]
  rw [← n1, ← n2]
  clear hal e1 n1 n2
  walk_at "dwh"
  exact ⟨v1, _, hd, rfl, m1, fun g2 v2 m2 k2 => fin_non q ((m.mg.on m1 k1).on m2 k2)⟩

end DW

/-! ## F_p_step_take.lean -/
set_option Elab.async false
set_option linter.all false
set_option maxRecDepth 100000
set_option maxHeartbeats 4000000
set_option autoImplicit false
namespace DW
open PySem PySem.Spec L2
open PyProof.Rows hiding St

local macro_rules | `(tactic| walk_at "dwh") => `(tactic| simp (config := { maxSteps := 1000000 }) only [and_assoc, natD, mapint_inj, mapnat_inj, denc_inj, wfor_eq, ixD, ixM, cut_one, List.tail_cons, List.tail_nil, eqvs_nil, List.isEmpty_cons, List.isEmpty_nil, plAll_int, plAll_nat, Ss.W, Sm.W, Ex.W, Ex.T, Es.W, wVar, BOp.B, COp.B, Bi.B, IxK.B, bI0, bIC, bEq, bIs, bIn, bIxL, bIxT, bIxS, bIxK, bCat, bCatT, bRep, cLen, cInt, cMin2, cList, cTup, wantB, wAndT, wOrT, wAndV, wOrV, wNotV, lenOf, lstOf_ref, lstOf_lst, seqOf, dicOf_ref, dicOf_dic, wPart, wIter, tstW, mAppend, mPop, mPopAt, mClear, wSetIx, wSetKey, Tg.put, wipeN, Cell.lst.injEq, Cell.dic.injEq, Cell.fz.injEq, List.length_map, tyR, tyD,
    eqv_ii, eqv_ss, eqv_bb, eqv_nn, eqv_ll, eqv_tt, eqn_non_int, eqn_non_str, eqn_non_lst, eqn_non_tup, eqn_non_bl, eqn_non_dic, eqn_int_non, eqn_int_str, eqn_int_lst, eqn_int_tup, eqn_int_dic, eqn_str_non, eqn_str_int, eqn_str_lst, eqn_str_tup, eqn_str_bl, eqn_str_dic, eqn_lst_non, eqn_lst_int, eqn_lst_str, eqn_lst_tup, eqn_lst_bl, eqn_lst_dic, eqn_tup_non, eqn_tup_int, eqn_tup_str, eqn_tup_lst, eqn_tup_bl, eqn_tup_dic, eqn_bl_non, eqn_bl_str, eqn_bl_lst, eqn_bl_tup, eqn_bl_dic, eqvs, atI_lit, cdiv_lit, cmul_r, cmul_l, cpow_lit, nrm_dat, nrm_ref, plN, plAll, rd_dat, rd_ref, rds_nil, rds_cons, rds_map, rdk_nil, rdk_cons, wFrz, frz1, wFrzL, frzs, datsN, datsN_map, datsK, isNon, tyNames, kbs,
    Option.map_some, Option.map_none, Option.isSome_some, List.getD_cons_zero, List.getD_cons_succ, List.getD_nil, get_app, get_app0, set_app, set_app0, List.length_append, List.append_assoc, List.any_cons, List.any_nil, List.zip_cons_cons, List.zip_nil_left, List.zip_nil_right,
    List.map_cons, List.map_nil, List.cons_append, List.nil_append, List.append_nil, List.length_cons, List.length_nil, List.replicate, List.set_cons_zero, List.set_cons_succ, List.getElem?_cons_zero, List.getElem?_cons_succ, List.set_nil, List.getElem?_nil,
    Nat.reduceAdd, Nat.reduceSub, Nat.reduceBEq, Nat.reduceLeDiff, Nat.reduceEqDiff, Nat.sub_self, Nat.zero_add, Nat.add_zero, Nat.zero_le, Nat.le_add_right, Nat.le_refl, Int.reduceToNat, Int.reduceLE, Nat.reduceLT, Nat.reducePow, Int.reducePow, Int.reduceNeg, or_true, true_or, Int.reduceLT, Bool.false_eq_true, if_true, if_false, forall_const, false_implies, true_implies, implies_true, Int.reduceEq, cast_lit, not_true_eq_false, not_false_eq_true, Bool.not_true, Bool.not_false, Bool.not_eq_true', Bool.not_eq_false', Bool.and_true, Bool.true_and, Bool.and_false, Bool.false_and, Bool.or_false, Bool.false_or, Bool.or_true, Bool.true_or, reduceCtorEq, false_and, and_false, or_false, false_or, beq_self_eq_true,
    Option.some.injEq, Prod.mk.injEq, Rv.dat.injEq, Rv.ref.injEq, D.int.injEq, D.bl.injEq, D.str.injEq, D.tup.injEq, D.lst.injEq, D.dic.injEq, D.scr.injEq, List.cons.injEq, and_true, true_and, exists_and_left, exists_and_right, exists_eq_left, exists_eq_left', exists_eq_right, exists_eq_right', exists_eq, exists_eq', exists_const, decide_eq_true_eq, decide_eq_false_iff_not, Bool.and_eq_true, beq_iff_eq, beq_eq_false_iff_ne, ne_eq, decide_true, decide_false, hdR_len, stR_len, hdR_24, hdR_25, hdR_26, hdR_27, hdR_28, hdR_29, hdR_30, stR_16, stR_18, stR_19, stR_20, stR_21, stR_22, stR_23, hdP_25, hdP_26, hdP_27, hdP_28, hdP_29, hdP_30, stP_16, stP_19, stP_20, stP_21, stP_22, stP_23, hdD, List.length_set, set_two, denc_push, denc_swap, denc_pop, denc_top, denc_clear, eqv_optN, plN_optN, isNon_optN, optN_some, optN_none, seenD_some, seenD_none, items_pair, items_vals, phk, kdk, List.getElem?_set_self, List.getElem?_set_ne, List.getElem?_append_left, ltaddr, boxD, cDict, *])
abbrev fn_p_step_take : List Str := []
def b_p_step_take_0 : DW.Ss := (.cons (.setKey (.var 1) (.str 27) (.bi .len (.cons (.ix .k (.var 0) (.str 20)) .nil)))
  (.cons (.expr (.app (.ix .k (.var 0) (.str 20)) (.tup (.cons (.ix .t (.var 2) (.int 1)) (.cons .non .nil)))))
  .nil))
def b_p_step_take_1 : DW.Ss := (.cons (.setKey (.var 1) (.str 27) (.pop (.ix .k (.var 0) (.str 16))))
  (.cons (.setIx (.ix .k (.var 0) (.str 20)) (.ix .k (.var 1) (.str 27)) (.tup (.cons (.ix .t (.var 2) (.int 1)) (.cons .non .nil))))
  .nil))
def b_p_step_take_2 : DW.Ss := (.cons (.setKey (.var 1) (.str 26) (.str 9))
  (.cons (.ret (.tup (.cons (.str 8) (.cons (.ix .k (.var 1) (.str 27)) .nil))))
  .nil))
def m_p_step_take : DW.Ss := (.cons (.ite (.or (.cmp .eq (.ix .k (.var 0) (.str 18)) (.str 7)) (.one (.cmp .eq (.ix .k (.var 0) (.str 16)) (.lst .nil)))) b_p_step_take_0 b_p_step_take_1)
  b_p_step_take_2)
abbrev Ss_p_step_take : List SpD := []
def S_p_step_take : SpD := fun rs g Q => ∃ (v : Vw) (s : St) (hd : Hand), rs = [.ref v.cs, .ref v.ch, .dat hd.deed.enc] ∧ (Mem g v s hd ∧ WfT s.time s ∧ HOk s.boxes.length s.time hd ∧ hd.ph = .take ∧ s.time ≤ 100000 ∧ Post g v (stepTake s hd) Q)
theorem mo_p_step_take : Mono S_p_step_take := by
  rintro rs g P P2 hPP ⟨v, s, hd, eRS, q⟩
  refine ⟨v, s, hd, eRS, ?_⟩
  exact ⟨q.1, q.2.1, q.2.2.1, q.2.2.2.1, q.2.2.2.2.1, fun g' v' h1 h2 => hPP _ _ (q.2.2.2.2.2 g' v' h1 h2)⟩
theorem len_p_step_take : ∀ rs g Q, S_p_step_take rs g Q → rs.length = 3 := by
  rintro rs g Q ⟨v, s, hd, rfl, q⟩
  rfl
theorem hS_p_step_take : ∀ rs g Q, S_p_step_take rs g Q → m_p_step_take.W (wd Ss_p_step_take glF dtF) (rs.map some ++ List.replicate (3 - rs.length) none) g (fun _ g2 => Fin g Q (.dat .non) g2) (Fin g Q) := by
  rintro rs g Q ⟨v, s, hd, rfl, q⟩
  unfold m_p_step_take
  obtain ⟨m, w, k, hph, ht, q⟩ := q
  have hal := m.all
  have hnes := m.nes
  have hlt := k.lt (by rw [hph]; decide)
  have hde := deed_at hlt
  have hnr := w.nr
  have hnb := w.nb
  have hns := w.ns
  have hp := k.ph
  unfold PhOk at hp; rw [hph] at hp; dsimp only at hp
  obtain ⟨hp0, hp1, hp2, hp3, hp4⟩ := hp
  clear hp0
  have hb1 : s.boxes.length < 1000000 := by omega
  have hdv : ∃ k : Nat, hd.deed.enc = .tup [.str k, .int hd.deed.val] := by cases h : hd.deed <;> rw [h] at hp1 <;> first | exact ⟨_, rfl⟩ | cases hp1
  obtain ⟨kk, hdv⟩ := hdv
  have hkn : (s.kind.k == 7) = decide (s.kind = .new) := by cases s.kind <;> rfl
  have hsp : eqvs (s.spare.map natD) [] = decide (s.spare = []) := by cases s.spare <;> simp [eqvs_nil]
  have hpl : plAll 60 (s.spare.map natD) = true := plAll_nat (n := 59)
  by_cases hc : s.kind = .new ∨ s.spare = []
  · rw [take_new hc] at q
    by_cases h1 : s.kind = .new
    · (walk_at "dwh"; repeat ((first | unfold b_p_step_take_0 | unfold b_p_step_take_1 | unfold b_p_step_take_2); walk_at "dwh"))
      have z := fin_mk q (((m.mg.hw { hd with box := some s.boxes.length, ph := .take } rfl).box_app (hd.deed.val, none)).hw { hd with box := some s.boxes.length, ph := .look } rfl)
      unfold handL at z
      rw [hp4] at z
      exact z
    · have h2 : s.spare = [] := hc.resolve_left h1
      (walk_at "dwh"; repeat ((first | unfold b_p_step_take_0 | unfold b_p_step_take_1 | unfold b_p_step_take_2); walk_at "dwh"))
      have z := fin_mk q ((((m.mg.more (.lst []) (lt_dats (l := []))).hw { hd with box := some s.boxes.length, ph := .take } rfl).box_app (hd.deed.val, none)).hw { hd with box := some s.boxes.length, ph := .look } rfl)
      unfold handL at z
      rw [hp4] at z
      exact z
  · rw [take_old hc] at q
    have h1 : ¬ s.kind = .new := fun z => hc (.inl z)
    have h2 : ¬ s.spare = [] := fun z => hc (.inr z)
    have hlg := last_get h2
    have hlb := w.spare _ (last_mem h2)
    generalize s.spare.getLastD 0 = L at q hlg hlb
    have hix := ixN_nat' hlb
    (walk_at "dwh"; repeat ((first | unfold b_p_step_take_0 | unfold b_p_step_take_1 | unfold b_p_step_take_2); walk_at "dwh"))
    have z := fin_mk q (((((m.mg.more (.lst []) (lt_dats (l := []))).sp_pop).hw { hd with box := some L, ph := .take } rfl).box_set L (hd.deed.val, none)).hw { hd with box := some L, ph := .look } rfl)
    unfold handL at z
    rw [hp4] at z
    exact z

end DW

/-! ## F_p_step_look.lean -/
set_option Elab.async false
set_option linter.all false
set_option maxRecDepth 100000
set_option maxHeartbeats 4000000
set_option autoImplicit false
namespace DW
open PySem PySem.Spec L2
open PyProof.Rows hiding St

local macro_rules | `(tactic| walk_at "dwh") => `(tactic| simp (config := { maxSteps := 1000000 }) only [and_assoc, natD, mapint_inj, mapnat_inj, denc_inj, wfor_eq, ixD, ixM, cut_one, List.tail_cons, List.tail_nil, eqvs_nil, List.isEmpty_cons, List.isEmpty_nil, plAll_int, plAll_nat, Ss.W, Sm.W, Ex.W, Ex.T, Es.W, wVar, BOp.B, COp.B, Bi.B, IxK.B, bI0, bIC, bEq, bIs, bIn, bIxL, bIxT, bIxS, bIxK, bCat, bCatT, bRep, cLen, cInt, cMin2, cList, cTup, wantB, wAndT, wOrT, wAndV, wOrV, wNotV, lenOf, lstOf_ref, lstOf_lst, seqOf, dicOf_ref, dicOf_dic, wPart, wIter, tstW, mAppend, mPop, mPopAt, mClear, wSetIx, wSetKey, Tg.put, wipeN, Cell.lst.injEq, Cell.dic.injEq, Cell.fz.injEq, List.length_map, tyR, tyD,
    eqv_ii, eqv_ss, eqv_bb, eqv_nn, eqv_ll, eqv_tt, eqn_non_int, eqn_non_str, eqn_non_lst, eqn_non_tup, eqn_non_bl, eqn_non_dic, eqn_int_non, eqn_int_str, eqn_int_lst, eqn_int_tup, eqn_int_dic, eqn_str_non, eqn_str_int, eqn_str_lst, eqn_str_tup, eqn_str_bl, eqn_str_dic, eqn_lst_non, eqn_lst_int, eqn_lst_str, eqn_lst_tup, eqn_lst_bl, eqn_lst_dic, eqn_tup_non, eqn_tup_int, eqn_tup_str, eqn_tup_lst, eqn_tup_bl, eqn_tup_dic, eqn_bl_non, eqn_bl_str, eqn_bl_lst, eqn_bl_tup, eqn_bl_dic, eqvs, atI_lit, cdiv_lit, cmul_r, cmul_l, cpow_lit, nrm_dat, nrm_ref, plN, plAll, rd_dat, rd_ref, rds_nil, rds_cons, rds_map, rdk_nil, rdk_cons, wFrz, frz1, wFrzL, frzs, datsN, datsN_map, datsK, isNon, tyNames, kbs,
    Option.map_some, Option.map_none, Option.isSome_some, List.getD_cons_zero, List.getD_cons_succ, List.getD_nil, get_app, get_app0, set_app, set_app0, List.length_append, List.append_assoc, List.any_cons, List.any_nil, List.zip_cons_cons, List.zip_nil_left, List.zip_nil_right,
    List.map_cons, List.map_nil, List.cons_append, List.nil_append, List.append_nil, List.length_cons, List.length_nil, List.replicate, List.set_cons_zero, List.set_cons_succ, List.getElem?_cons_zero, List.getElem?_cons_succ, List.set_nil, List.getElem?_nil,
    Nat.reduceAdd, Nat.reduceSub, Nat.reduceBEq, Nat.reduceLeDiff, Nat.reduceEqDiff, Nat.sub_self, Nat.zero_add, Nat.add_zero, Nat.zero_le, Nat.le_add_right, Nat.le_refl, Int.reduceToNat, Int.reduceLE, Nat.reduceLT, Nat.reducePow, Int.reducePow, Int.reduceNeg, or_true, true_or, Int.reduceLT, Bool.false_eq_true, if_true, if_false, forall_const, false_implies, true_implies, implies_true, Int.reduceEq, cast_lit, not_true_eq_false, not_false_eq_true, Bool.not_true, Bool.not_false, Bool.not_eq_true', Bool.not_eq_false', Bool.and_true, Bool.true_and, Bool.and_false, Bool.false_and, Bool.or_false, Bool.false_or, Bool.or_true, Bool.true_or, reduceCtorEq, false_and, and_false, or_false, false_or, beq_self_eq_true,
    Option.some.injEq, Prod.mk.injEq, Rv.dat.injEq, Rv.ref.injEq, D.int.injEq, D.bl.injEq, D.str.injEq, D.tup.injEq, D.lst.injEq, D.dic.injEq, D.scr.injEq, List.cons.injEq, and_true, true_and, exists_and_left, exists_and_right, exists_eq_left, exists_eq_left', exists_eq_right, exists_eq_right', exists_eq, exists_eq', exists_const, decide_eq_true_eq, decide_eq_false_iff_not, Bool.and_eq_true, beq_iff_eq, beq_eq_false_iff_ne, ne_eq, decide_true, decide_false, hdR_len, stR_len, hdR_24, hdR_25, hdR_26, hdR_27, hdR_28, hdR_29, hdR_30, stR_16, stR_18, stR_19, stR_20, stR_21, stR_22, stR_23, hdP_25, hdP_26, hdP_27, hdP_28, hdP_29, hdP_30, stP_16, stP_19, stP_20, stP_21, stP_22, stP_23, hdD, List.length_set, set_two, denc_push, denc_swap, denc_pop, denc_top, denc_clear, eqv_optN, plN_optN, isNon_optN, optN_some, optN_none, seenD_some, seenD_none, items_pair, items_vals, phk, kdk, List.getElem?_set_self, List.getElem?_set_ne, List.getElem?_append_left, ltaddr, boxD, cDict, *])
abbrev fn_p_step_look : List Str := ["come_to_end"]
def b_p_step_look_0 : DW.Ss := (.cons (.expr (.app (.ix .k (.var 0) (.str 16)) (.ix .k (.var 2) (.str 27))))
  .nil)
def b_p_step_look_1 : DW.Ss := (.cons (.set 6 (.tup .nil))
  .nil)
def b_p_step_look_2 : DW.Ss := (.cons (.expr (.call 0 (.cons (.var 0) (.cons (.var 1) (.cons (.frz (.var 6)) .nil)))))
  .nil)
def b_p_step_look_3 : DW.Ss := (.cons (.set 6 .non)
  (.cons (.ite (.cmp .eq (.ix .t (.var 3) (.int 0)) (.str 4)) b_p_step_look_1 .nil)
  b_p_step_look_2))
def b_p_step_look_4 : DW.Ss := (.cons (.setKey (.var 2) (.str 26) (.str 11))
  .nil)
def b_p_step_look_5 : DW.Ss := (.cons (.setKey (.var 2) (.str 26) (.str 10))
  .nil)
def b_p_step_look_6 : DW.Ss := (.cons (.ite (.cmp .eq (.ix .t (.var 3) (.int 0)) (.str 1)) b_p_step_look_0 .nil)
  b_p_step_look_3)
def b_p_step_look_7 : DW.Ss := (.cons (.ite (.cmp .eq (.ix .t (.var 3) (.int 0)) (.str 4)) b_p_step_look_4 b_p_step_look_5)
  .nil)
def b_p_step_look_8 : DW.Ss := (.cons (.set 5 (.ix .t (.ix .l (.ix .k (.var 0) (.str 20)) (.ix .k (.var 2) (.str 27))) (.int 0)))
  (.cons (.setIx (.ix .k (.var 0) (.str 20)) (.ix .k (.var 2) (.str 27)) (.tup (.cons (.var 5) (.cons (.ix .t (.ix .k (.var 0) (.str 19)) (.int 0)) .nil))))
  (.cons (.setKey (.var 2) (.str 26) (.str 11))
  .nil)))
def b_p_step_look_9 : DW.Ss := (.cons (.ite (.cmp .isN (.ix .t (.ix .k (.var 0) (.str 19)) (.int 0)) .non) b_p_step_look_6 b_p_step_look_7)
  .nil)
def b_p_step_look_10 : DW.Ss := (.cons (.ret (.var 4))
  .nil)
def m_p_step_look : DW.Ss := (.cons (.setKey (.var 2) (.str 28) (.ix .k (.var 0) (.str 19)))
  (.cons (.set 4 (.tup (.cons (.str 9) (.cons (.ix .t (.ix .k (.var 0) (.str 19)) (.int 0)) (.cons (.ix .t (.ix .k (.var 0) (.str 19)) (.int 1)) .nil)))))
  (.cons (.ite (.cmp .eq (.ix .t (.var 3) (.int 0)) (.str 0)) b_p_step_look_8 b_p_step_look_9)
  b_p_step_look_10)))
abbrev Ss_p_step_look : List SpD := [S_p_come_to_end]
def S_p_step_look : SpD := fun rs g Q => ∃ (v : Vw) (s : St) (hd : Hand), rs = [.ref v.cs, .dat (.int (v.n : Int)), .ref v.ch, .dat hd.deed.enc] ∧ (Mem g v s hd ∧ WfT s.time s ∧ HOk s.boxes.length s.time hd ∧ hd.ph = .look ∧ s.time ≤ 100000 ∧ Post g v (stepLook s hd v.n) Q)
theorem mo_p_step_look : Mono S_p_step_look := by
  rintro rs g P P2 hPP ⟨v, s, hd, eRS, q⟩
  refine ⟨v, s, hd, eRS, ?_⟩
  exact ⟨q.1, q.2.1, q.2.2.1, q.2.2.2.1, q.2.2.2.2.1, fun g' v' h1 h2 => hPP _ _ (q.2.2.2.2.2 g' v' h1 h2)⟩
theorem len_p_step_look : ∀ rs g Q, S_p_step_look rs g Q → rs.length = 4 := by
  rintro rs g Q ⟨v, s, hd, rfl, q⟩
  rfl
theorem hS_p_step_look : ∀ rs g Q, S_p_step_look rs g Q → m_p_step_look.W (wd Ss_p_step_look glF dtF) (rs.map some ++ List.replicate (7 - rs.length) none) g (fun _ g2 => Fin g Q (.dat .non) g2) (Fin g Q) := by
  rintro rs g Q ⟨v, s, hd, rfl, q⟩
  unfold m_p_step_look
  obtain ⟨m, w, k, hph, ht, q⟩ := q
  have hal := m.all
  have hnes := m.nes
  have hlt := k.lt (by rw [hph]; decide)
  have hde := deed_at hlt
  have hnr := w.nr
  have hnb := w.nb
  have hns := w.ns
  have hp := k.ph
  unfold PhOk at hp; rw [hph] at hp; dsimp only at hp
  obtain ⟨hp0, hp1, hp2⟩ := hp
  clear hp0
  have hns2 : s.spare.length < 1000000 := by omega
  cases hdd : hd.deed with
  | push x =>
    rw [look_push hdd] at q
    have ho := hp1 (deed_own_push hdd)
    have hos := own_some ho
    have hol := own_lt k ho
    have hio := inside_at hol
    have hix := ixN_nat' hol
    clear hp1 hp2
    (walk_at "dwh"; repeat ((first | unfold b_p_step_look_0 | unfold b_p_step_look_1 | unfold b_p_step_look_2 | unfold b_p_step_look_3 | unfold b_p_step_look_4 | unfold b_p_step_look_5 | unfold b_p_step_look_6 | unfold b_p_step_look_7 | unfold b_p_step_look_8 | unfold b_p_step_look_9 | unfold b_p_step_look_10); walk_at "dwh"))
    have z := fin_mk q (((m.mg.hw { hd with seen := some s.head } rfl).box_set hd.own ((s.inside hd.own).1, s.head.1)).hw { hd with seen := some s.head, ph := .put } rfl)
    unfold handL at z
    dsimp only at z
    rw [hos, hph] at z
    exact z
  | clear =>
    clear hp1 hp2
    cases hh : s.head.1 with
    | none =>
      rw [look_none hh (by rw [hdd]; rfl) (x := .tup []) (by rw [hdd]; rfl), hh, hph] at q
      (walk_at "dwh"; repeat ((first | unfold b_p_step_look_0 | unfold b_p_step_look_1 | unfold b_p_step_look_2 | unfold b_p_step_look_3 | unfold b_p_step_look_4 | unfold b_p_step_look_5 | unfold b_p_step_look_6 | unfold b_p_step_look_7 | unfold b_p_step_look_8 | unfold b_p_step_look_9 | unfold b_p_step_look_10); walk_at "dwh"))
      have z := m.mg.hw { hd with seen := some s.head, ph := .look } rfl
      unfold handL at z
      dsimp only at z
      rw [seenD_some, hh] at z
      exact ⟨v, s, _, .tup [], rfl, z.m, hlt, by omega, fun g1 v1 m1 k1 => fin_mk q (z.on m1 k1)⟩
    | some b =>
      rw [look_some hh (by rw [hdd]; intro x z; cases z), hh, hdd] at q
      (walk_at "dwh"; repeat ((first | unfold b_p_step_look_0 | unfold b_p_step_look_1 | unfold b_p_step_look_2 | unfold b_p_step_look_3 | unfold b_p_step_look_4 | unfold b_p_step_look_5 | unfold b_p_step_look_6 | unfold b_p_step_look_7 | unfold b_p_step_look_8 | unfold b_p_step_look_9 | unfold b_p_step_look_10); walk_at "dwh"))
      have z := fin_mk q (m.mg.hw { hd with seen := some s.head, ph := .put } rfl)
      unfold handL at z
      dsimp only at z
      rw [seenD_some, hh] at z
      exact z
  | pop =>
    clear hp1 hp2
    cases hh : s.head.1 with
    | none =>
      rw [look_none hh (by rw [hdd]; rfl) (x := .non) (by rw [hdd]; rfl), hh, hph] at q
      (walk_at "dwh"; repeat ((first | unfold b_p_step_look_0 | unfold b_p_step_look_1 | unfold b_p_step_look_2 | unfold b_p_step_look_3 | unfold b_p_step_look_4 | unfold b_p_step_look_5 | unfold b_p_step_look_6 | unfold b_p_step_look_7 | unfold b_p_step_look_8 | unfold b_p_step_look_9 | unfold b_p_step_look_10); walk_at "dwh"))
      have z := m.mg.hw { hd with seen := some s.head, ph := .look } rfl
      unfold handL at z
      dsimp only at z
      rw [seenD_some, hh] at z
      exact ⟨v, s, _, .non, rfl, z.m, hlt, by omega, fun g1 v1 m1 k1 => fin_mk q (z.on m1 k1)⟩
    | some b =>
      rw [look_some hh (by rw [hdd]; intro x z; cases z), hh, hdd] at q
      (walk_at "dwh"; repeat ((first | unfold b_p_step_look_0 | unfold b_p_step_look_1 | unfold b_p_step_look_2 | unfold b_p_step_look_3 | unfold b_p_step_look_4 | unfold b_p_step_look_5 | unfold b_p_step_look_6 | unfold b_p_step_look_7 | unfold b_p_step_look_8 | unfold b_p_step_look_9 | unfold b_p_step_look_10); walk_at "dwh"))
      have z := fin_mk q (m.mg.hw { hd with seen := some s.head, ph := .see } rfl)
      unfold handL at z
      dsimp only at z
      rw [seenD_some, hh] at z
      exact z
  | top =>
    clear hp1 hp2
    cases hh : s.head.1 with
    | none =>
      rw [look_none hh (by rw [hdd]; rfl) (x := .non) (by rw [hdd]; rfl), hh, hph] at q
      (walk_at "dwh"; repeat ((first | unfold b_p_step_look_0 | unfold b_p_step_look_1 | unfold b_p_step_look_2 | unfold b_p_step_look_3 | unfold b_p_step_look_4 | unfold b_p_step_look_5 | unfold b_p_step_look_6 | unfold b_p_step_look_7 | unfold b_p_step_look_8 | unfold b_p_step_look_9 | unfold b_p_step_look_10); walk_at "dwh"))
      have z := m.mg.hw { hd with seen := some s.head, ph := .look } rfl
      unfold handL at z
      dsimp only at z
      rw [seenD_some, hh] at z
      exact ⟨v, s, _, .non, rfl, z.m, hlt, by omega, fun g1 v1 m1 k1 => fin_mk q (z.on m1 k1)⟩
    | some b =>
      rw [look_some hh (by rw [hdd]; intro x z; cases z), hh, hdd] at q
      (walk_at "dwh"; repeat ((first | unfold b_p_step_look_0 | unfold b_p_step_look_1 | unfold b_p_step_look_2 | unfold b_p_step_look_3 | unfold b_p_step_look_4 | unfold b_p_step_look_5 | unfold b_p_step_look_6 | unfold b_p_step_look_7 | unfold b_p_step_look_8 | unfold b_p_step_look_9 | unfold b_p_step_look_10); walk_at "dwh"))
      have z := fin_mk q (m.mg.hw { hd with seen := some s.head, ph := .see } rfl)
      unfold handL at z
      dsimp only at z
      rw [seenD_some, hh] at z
      exact z
  | swap x =>
    have ho := hp1 (deed_own_swap hdd)
    have hos := own_some ho
    clear hp1 hp2
    cases hh : s.head.1 with
    | none =>
      rw [look_swap0 hh hdd, hh, hph] at q
      (walk_at "dwh"; repeat ((first | unfold b_p_step_look_0 | unfold b_p_step_look_1 | unfold b_p_step_look_2 | unfold b_p_step_look_3 | unfold b_p_step_look_4 | unfold b_p_step_look_5 | unfold b_p_step_look_6 | unfold b_p_step_look_7 | unfold b_p_step_look_8 | unfold b_p_step_look_9 | unfold b_p_step_look_10); walk_at "dwh"))
      have z := (m.mg.hw { hd with seen := some s.head, ph := .look } rfl).sp_app hd.own
      unfold handL at z
      dsimp only at z
      rw [seenD_some, hh, hos] at z
      rw [hos] at q
      exact ⟨v, _, _, .non, rfl, z.m, hlt, by show s.rows.length ≤ _; omega, fun g1 v1 m1 k1 => fin_mk q (z.on m1 k1)⟩
    | some b =>
      rw [look_some hh (by rw [hdd]; intro x z; cases z), hh, hdd] at q
      (walk_at "dwh"; repeat ((first | unfold b_p_step_look_0 | unfold b_p_step_look_1 | unfold b_p_step_look_2 | unfold b_p_step_look_3 | unfold b_p_step_look_4 | unfold b_p_step_look_5 | unfold b_p_step_look_6 | unfold b_p_step_look_7 | unfold b_p_step_look_8 | unfold b_p_step_look_9 | unfold b_p_step_look_10); walk_at "dwh"))
      have z := fin_mk q (m.mg.hw { hd with seen := some s.head, ph := .see } rfl)
      unfold handL at z
      dsimp only at z
      rw [seenD_some, hh, hos] at z
      exact z

end DW

/-! ## F_p_step_see.lean -/
set_option Elab.async false
set_option linter.all false
set_option maxRecDepth 100000
set_option maxHeartbeats 4000000
set_option autoImplicit false
namespace DW
open PySem PySem.Spec L2
open PyProof.Rows hiding St

local macro_rules | `(tactic| walk_at "dwh") => `(tactic| simp (config := { maxSteps := 1000000 }) only [and_assoc, natD, mapint_inj, mapnat_inj, denc_inj, wfor_eq, ixD, ixM, cut_one, List.tail_cons, List.tail_nil, eqvs_nil, List.isEmpty_cons, List.isEmpty_nil, plAll_int, plAll_nat, Ss.W, Sm.W, Ex.W, Ex.T, Es.W, wVar, BOp.B, COp.B, Bi.B, IxK.B, bI0, bIC, bEq, bIs, bIn, bIxL, bIxT, bIxS, bIxK, bCat, bCatT, bRep, cLen, cInt, cMin2, cList, cTup, wantB, wAndT, wOrT, wAndV, wOrV, wNotV, lenOf, lstOf_ref, lstOf_lst, seqOf, dicOf_ref, dicOf_dic, wPart, wIter, tstW, mAppend, mPop, mPopAt, mClear, wSetIx, wSetKey, Tg.put, wipeN, Cell.lst.injEq, Cell.dic.injEq, Cell.fz.injEq, List.length_map, tyR, tyD,
    eqv_ii, eqv_ss, eqv_bb, eqv_nn, eqv_ll, eqv_tt, eqn_non_int, eqn_non_str, eqn_non_lst, eqn_non_tup, eqn_non_bl, eqn_non_dic, eqn_int_non, eqn_int_str, eqn_int_lst, eqn_int_tup, eqn_int_dic, eqn_str_non, eqn_str_int, eqn_str_lst, eqn_str_tup, eqn_str_bl, eqn_str_dic, eqn_lst_non, eqn_lst_int, eqn_lst_str, eqn_lst_tup, eqn_lst_bl, eqn_lst_dic, eqn_tup_non, eqn_tup_int, eqn_tup_str, eqn_tup_lst, eqn_tup_bl, eqn_tup_dic, eqn_bl_non, eqn_bl_str, eqn_bl_lst, eqn_bl_tup, eqn_bl_dic, eqvs, atI_lit, cdiv_lit, cmul_r, cmul_l, cpow_lit, nrm_dat, nrm_ref, plN, plAll, rd_dat, rd_ref, rds_nil, rds_cons, rds_map, rdk_nil, rdk_cons, wFrz, frz1, wFrzL, frzs, datsN, datsN_map, datsK, isNon, tyNames, kbs,
    Option.map_some, Option.map_none, Option.isSome_some, List.getD_cons_zero, List.getD_cons_succ, List.getD_nil, get_app, get_app0, set_app, set_app0, List.length_append, List.append_assoc, List.any_cons, List.any_nil, List.zip_cons_cons, List.zip_nil_left, List.zip_nil_right,
    List.map_cons, List.map_nil, List.cons_append, List.nil_append, List.append_nil, List.length_cons, List.length_nil, List.replicate, List.set_cons_zero, List.set_cons_succ, List.getElem?_cons_zero, List.getElem?_cons_succ, List.set_nil, List.getElem?_nil,
    Nat.reduceAdd, Nat.reduceSub, Nat.reduceBEq, Nat.reduceLeDiff, Nat.reduceEqDiff, Nat.sub_self, Nat.zero_add, Nat.add_zero, Nat.zero_le, Nat.le_add_right, Nat.le_refl, Int.reduceToNat, Int.reduceLE, Nat.reduceLT, Nat.reducePow, Int.reducePow, Int.reduceNeg, or_true, true_or, Int.reduceLT, Bool.false_eq_true, if_true, if_false, forall_const, false_implies, true_implies, implies_true, Int.reduceEq, cast_lit, not_true_eq_false, not_false_eq_true, Bool.not_true, Bool.not_false, Bool.not_eq_true', Bool.not_eq_false', Bool.and_true, Bool.true_and, Bool.and_false, Bool.false_and, Bool.or_false, Bool.false_or, Bool.or_true, Bool.true_or, reduceCtorEq, false_and, and_false, or_false, false_or, beq_self_eq_true,
    Option.some.injEq, Prod.mk.injEq, Rv.dat.injEq, Rv.ref.injEq, D.int.injEq, D.bl.injEq, D.str.injEq, D.tup.injEq, D.lst.injEq, D.dic.injEq, D.scr.injEq, List.cons.injEq, and_true, true_and, exists_and_left, exists_and_right, exists_eq_left, exists_eq_left', exists_eq_right, exists_eq_right', exists_eq, exists_eq', exists_const, decide_eq_true_eq, decide_eq_false_iff_not, Bool.and_eq_true, beq_iff_eq, beq_eq_false_iff_ne, ne_eq, decide_true, decide_false, hdR_len, stR_len, hdR_24, hdR_25, hdR_26, hdR_27, hdR_28, hdR_29, hdR_30, stR_16, stR_18, stR_19, stR_20, stR_21, stR_22, stR_23, hdP_25, hdP_26, hdP_27, hdP_28, hdP_29, hdP_30, stP_16, stP_19, stP_20, stP_21, stP_22, stP_23, hdD, List.length_set, set_two, denc_push, denc_swap, denc_pop, denc_top, denc_clear, eqv_optN, plN_optN, isNon_optN, optN_some, optN_none, seenD_some, seenD_none, items_pair, items_vals, phk, kdk, List.getElem?_set_self, List.getElem?_set_ne, List.getElem?_append_left, ltaddr, boxD, cDict, *])
abbrev fn_p_step_see : List Str := []
def b_p_step_see_0 : DW.Ss := (.cons (.setKey (.var 1) (.str 26) (.str 12))
  .nil)
def b_p_step_see_1 : DW.Ss := (.cons (.set 5 (.ix .t (.ix .l (.ix .k (.var 0) (.str 20)) (.ix .k (.var 1) (.str 27))) (.int 0)))
  (.cons (.setIx (.ix .k (.var 0) (.str 20)) (.ix .k (.var 1) (.str 27)) (.tup (.cons (.var 5) (.cons (.ix .t (.var 4) (.int 1)) .nil))))
  .nil))
def b_p_step_see_2 : DW.Ss := (.cons (.ret (.tup (.cons (.str 10) (.cons (.var 3) (.cons (.ix .t (.var 4) (.int 0)) (.cons (.ix .t (.var 4) (.int 1)) .nil))))))
  .nil)
def b_p_step_see_3 : DW.Ss := (.cons (.ite (.cmp .eq (.ix .t (.var 2) (.int 0)) (.str 1)) b_p_step_see_1 .nil)
  b_p_step_see_2)
def m_p_step_see : DW.Ss := (.cons (.set 3 (.ix .t (.ix .k (.var 1) (.str 28)) (.int 0)))
  (.cons (.set 4 (.ix .l (.ix .k (.var 0) (.str 20)) (.var 3)))
  (.cons (.setKey (.var 1) (.str 29) (.lst (.cons (.ix .t (.var 4) (.int 0)) (.cons (.ix .t (.var 4) (.int 1)) .nil))))
  (.cons (.setKey (.var 1) (.str 26) (.str 11))
  (.cons (.ite (.cmp .eq (.ix .t (.var 2) (.int 0)) (.str 3)) b_p_step_see_0 .nil)
  b_p_step_see_3)))))
abbrev Ss_p_step_see : List SpD := []
def S_p_step_see : SpD := fun rs g Q => ∃ (v : Vw) (s : St) (hd : Hand), rs = [.ref v.cs, .ref v.ch, .dat hd.deed.enc] ∧ (Mem g v s hd ∧ WfT s.time s ∧ HOk s.boxes.length s.time hd ∧ hd.ph = .see ∧ s.time ≤ 100000 ∧ Post g v (stepSee s hd) Q)
theorem mo_p_step_see : Mono S_p_step_see := by
  rintro rs g P P2 hPP ⟨v, s, hd, eRS, q⟩
  refine ⟨v, s, hd, eRS, ?_⟩
  exact ⟨q.1, q.2.1, q.2.2.1, q.2.2.2.1, q.2.2.2.2.1, fun g' v' h1 h2 => hPP _ _ (q.2.2.2.2.2 g' v' h1 h2)⟩
theorem len_p_step_see : ∀ rs g Q, S_p_step_see rs g Q → rs.length = 3 := by
  rintro rs g Q ⟨v, s, hd, rfl, q⟩
  rfl
theorem hS_p_step_see : ∀ rs g Q, S_p_step_see rs g Q → m_p_step_see.W (wd Ss_p_step_see glF dtF) (rs.map some ++ List.replicate (6 - rs.length) none) g (fun _ g2 => Fin g Q (.dat .non) g2) (Fin g Q) := by
  rintro rs g Q ⟨v, s, hd, rfl, q⟩
  unfold m_p_step_see
  obtain ⟨m, w, k, hph, ht, q⟩ := q
  have hal := m.all
  have hnes := m.nes
  have hlt := k.lt (by rw [hph]; decide)
  have hde := deed_at hlt
  have hnr := w.nr
  have hnb := w.nb
  have hns := w.ns
  have hp := k.ph
  unfold PhOk at hp; rw [hph] at hp; dsimp only at hp
  obtain ⟨hp0, hp1, hp2, ⟨b, mk, hs⟩, hp3⟩ := hp
  have hb := k.seen _ hs b rfl
  have hsb := saw_some hs
  have hib := inside_at hb
  clear hp0
  cases hdd : hd.deed with
  | push x => exact absurd hdd (hp1 x)
  | clear => exact absurd hdd hp2
  | top =>
    rw [see_top hdd, hsb] at q
    clear hp1 hp2 hp3
    (walk_at "dwh"; repeat ((first | unfold b_p_step_see_0 | unfold b_p_step_see_1 | unfold b_p_step_see_2 | unfold b_p_step_see_3); walk_at "dwh"))
    have z := fin_mk q (((m.mg.nw (.pair (s.inside b).1 (s.inside b).2) { hd with got := .pair (s.inside b).1 (s.inside b).2 } rfl)).hw { hd with got := .pair (s.inside b).1 (s.inside b).2, ph := .check } rfl)
    unfold handL at z
    rw [set_two] at z
    dsimp only at z
    rw [hs] at z
    exact z
  | pop =>
    rw [see_pop hdd, hsb] at q
    clear hp1 hp2 hp3
    (walk_at "dwh"; repeat ((first | unfold b_p_step_see_0 | unfold b_p_step_see_1 | unfold b_p_step_see_2 | unfold b_p_step_see_3); walk_at "dwh"))
    have z := fin_mk q (((m.mg.nw (.pair (s.inside b).1 (s.inside b).2) { hd with got := .pair (s.inside b).1 (s.inside b).2 } rfl)).hw { hd with got := .pair (s.inside b).1 (s.inside b).2, ph := .put } rfl)
    unfold handL at z
    rw [set_two] at z
    dsimp only at z
    rw [hs] at z
    exact z
  | swap x =>
    rw [see_swap hdd, hsb] at q
    have ho := hp3 (deed_own_swap hdd)
    have hos := own_some ho
    have hol := own_lt k ho
    have hio := inside_at hol
    have hix := ixN_nat' hol
    clear hp1 hp2 hp3
    (walk_at "dwh"; repeat ((first | unfold b_p_step_see_0 | unfold b_p_step_see_1 | unfold b_p_step_see_2 | unfold b_p_step_see_3); walk_at "dwh"))
    have z := fin_mk q (((m.mg.nw (.pair (s.inside b).1 (s.inside b).2) { hd with got := .pair (s.inside b).1 (s.inside b).2 } rfl)).hw { hd with got := .pair (s.inside b).1 (s.inside b).2, ph := .put } rfl |>.box_set hd.own ((s.inside hd.own).1, (s.inside b).2))
    unfold handL at z
    rw [set_two] at z
    dsimp only at z
    rw [hs, hos] at z
    exact z

end DW

/-! ## F_p_step_check.lean -/
set_option Elab.async false
set_option linter.all false
set_option maxRecDepth 100000
set_option maxHeartbeats 4000000
set_option autoImplicit false
namespace DW
open PySem PySem.Spec L2
open PyProof.Rows hiding St

local macro_rules | `(tactic| walk_at "dw") => `(tactic| simp (config := { maxSteps := 1000000 }) only [and_assoc, natD, mapint_inj, mapnat_inj, denc_inj, wfor_eq, ixD, ixM, cut_one, List.tail_cons, List.tail_nil, eqvs_nil, List.isEmpty_cons, List.isEmpty_nil, plAll_int, plAll_nat, Ss.W, Sm.W, Ex.W, Ex.T, Es.W, wVar, BOp.B, COp.B, Bi.B, IxK.B, bI0, bIC, bEq, bIs, bIn, bIxL, bIxT, bIxS, bIxK, bCat, bCatT, bRep, cLen, cInt, cMin2, cList, cTup, wantB, wAndT, wOrT, wAndV, wOrV, wNotV, lenOf, lstOf_ref, lstOf_lst, seqOf, dicOf_ref, dicOf_dic, wPart, wIter, tstW, mAppend, mPop, mPopAt, mClear, wSetIx, wSetKey, Tg.put, wipeN, Cell.lst.injEq, Cell.dic.injEq, Cell.fz.injEq, List.length_map, tyR, tyD,
    eqv_ii, eqv_ss, eqv_bb, eqv_nn, eqv_ll, eqv_tt, eqn_non_int, eqn_non_str, eqn_non_lst, eqn_non_tup, eqn_non_bl, eqn_non_dic, eqn_int_non, eqn_int_str, eqn_int_lst, eqn_int_tup, eqn_int_dic, eqn_str_non, eqn_str_int, eqn_str_lst, eqn_str_tup, eqn_str_bl, eqn_str_dic, eqn_lst_non, eqn_lst_int, eqn_lst_str, eqn_lst_tup, eqn_lst_bl, eqn_lst_dic, eqn_tup_non, eqn_tup_int, eqn_tup_str, eqn_tup_lst, eqn_tup_bl, eqn_tup_dic, eqn_bl_non, eqn_bl_str, eqn_bl_lst, eqn_bl_tup, eqn_bl_dic, eqvs, atI_lit, cdiv_lit, cmul_r, cmul_l, cpow_lit, nrm_dat, nrm_ref, plN, plAll, rd_dat, rd_ref, rds_nil, rds_cons, rds_map, rdk_nil, rdk_cons, wFrz, frz1, wFrzL, frzs, datsN, datsN_map, datsK, isNon, tyNames, kbs,
    Option.map_some, Option.map_none, Option.isSome_some, List.getD_cons_zero, List.getD_cons_succ, List.getD_nil, get_app, get_app0, set_app, set_app0, List.length_append, List.append_assoc, List.any_cons, List.any_nil, List.zip_cons_cons, List.zip_nil_left, List.zip_nil_right,
    List.map_cons, List.map_nil, List.cons_append, List.nil_append, List.append_nil, List.length_cons, List.length_nil, List.replicate, List.set_cons_zero, List.set_cons_succ, List.getElem?_cons_zero, List.getElem?_cons_succ, List.set_nil, List.getElem?_nil,
    Nat.reduceAdd, Nat.reduceSub, Nat.reduceBEq, Nat.reduceLeDiff, Nat.reduceEqDiff, Nat.sub_self, Nat.zero_add, Nat.add_zero, Nat.zero_le, Nat.le_add_right, Nat.le_refl, Int.reduceToNat, Int.reduceLE, Nat.reduceLT, Nat.reducePow, Int.reducePow, Int.reduceNeg, or_true, true_or, Int.reduceLT, Bool.false_eq_true, if_true, if_false, forall_const, false_implies, true_implies, implies_true, Int.reduceEq, cast_lit, not_true_eq_false, not_false_eq_true, Bool.not_true, Bool.not_false, Bool.not_eq_true', Bool.not_eq_false', Bool.and_true, Bool.true_and, Bool.and_false, Bool.false_and, Bool.or_false, Bool.false_or, Bool.or_true, Bool.true_or, reduceCtorEq, false_and, and_false, or_false, false_or, beq_self_eq_true,
    Option.some.injEq, Prod.mk.injEq, Rv.dat.injEq, Rv.ref.injEq, D.int.injEq, D.bl.injEq, D.str.injEq, D.tup.injEq, D.lst.injEq, D.dic.injEq, D.scr.injEq, List.cons.injEq, and_true, true_and, exists_and_left, exists_and_right, exists_eq_left, exists_eq_left', exists_eq_right, exists_eq_right', exists_eq, exists_eq', exists_const, decide_eq_true_eq, decide_eq_false_iff_not, Bool.and_eq_true, beq_iff_eq, beq_eq_false_iff_ne, ne_eq, decide_true, decide_false, hdR_len, stR_len, hdR_24, hdR_25, hdR_26, hdR_27, hdR_28, hdR_29, hdR_30, stR_16, stR_18, stR_19, stR_20, stR_21, stR_22, stR_23, hdP_25, hdP_26, hdP_27, hdP_28, hdP_29, hdP_30, stP_16, stP_19, stP_20, stP_21, stP_22, stP_23, hdD, List.length_set, set_two, denc_push, denc_swap, denc_pop, denc_top, denc_clear, eqv_optN, plN_optN, isNon_optN, optN_some, optN_none, seenD_some, seenD_none, items_pair, items_vals, phk, kdk, List.getElem?_set_self, List.getElem?_set_ne, List.getElem?_append_left, ltaddr, boxD, cDict])
local macro_rules | `(tactic| walk_at "dwh") => `(tactic| simp (config := { maxSteps := 1000000 }) only [and_assoc, natD, mapint_inj, mapnat_inj, denc_inj, wfor_eq, ixD, ixM, cut_one, List.tail_cons, List.tail_nil, eqvs_nil, List.isEmpty_cons, List.isEmpty_nil, plAll_int, plAll_nat, Ss.W, Sm.W, Ex.W, Ex.T, Es.W, wVar, BOp.B, COp.B, Bi.B, IxK.B, bI0, bIC, bEq, bIs, bIn, bIxL, bIxT, bIxS, bIxK, bCat, bCatT, bRep, cLen, cInt, cMin2, cList, cTup, wantB, wAndT, wOrT, wAndV, wOrV, wNotV, lenOf, lstOf_ref, lstOf_lst, seqOf, dicOf_ref, dicOf_dic, wPart, wIter, tstW, mAppend, mPop, mPopAt, mClear, wSetIx, wSetKey, Tg.put, wipeN, Cell.lst.injEq, Cell.dic.injEq, Cell.fz.injEq, List.length_map, tyR, tyD,
    eqv_ii, eqv_ss, eqv_bb, eqv_nn, eqv_ll, eqv_tt, eqn_non_int, eqn_non_str, eqn_non_lst, eqn_non_tup, eqn_non_bl, eqn_non_dic, eqn_int_non, eqn_int_str, eqn_int_lst, eqn_int_tup, eqn_int_dic, eqn_str_non, eqn_str_int, eqn_str_lst, eqn_str_tup, eqn_str_bl, eqn_str_dic, eqn_lst_non, eqn_lst_int, eqn_lst_str, eqn_lst_tup, eqn_lst_bl, eqn_lst_dic, eqn_tup_non, eqn_tup_int, eqn_tup_str, eqn_tup_lst, eqn_tup_bl, eqn_tup_dic, eqn_bl_non, eqn_bl_str, eqn_bl_lst, eqn_bl_tup, eqn_bl_dic, eqvs, atI_lit, cdiv_lit, cmul_r, cmul_l, cpow_lit, nrm_dat, nrm_ref, plN, plAll, rd_dat, rd_ref, rds_nil, rds_cons, rds_map, rdk_nil, rdk_cons, wFrz, frz1, wFrzL, frzs, datsN, datsN_map, datsK, isNon, tyNames, kbs,
    Option.map_some, Option.map_none, Option.isSome_some, List.getD_cons_zero, List.getD_cons_succ, List.getD_nil, get_app, get_app0, set_app, set_app0, List.length_append, List.append_assoc, List.any_cons, List.any_nil, List.zip_cons_cons, List.zip_nil_left, List.zip_nil_right,
    List.map_cons, List.map_nil, List.cons_append, List.nil_append, List.append_nil, List.length_cons, List.length_nil, List.replicate, List.set_cons_zero, List.set_cons_succ, List.getElem?_cons_zero, List.getElem?_cons_succ, List.set_nil, List.getElem?_nil,
    Nat.reduceAdd, Nat.reduceSub, Nat.reduceBEq, Nat.reduceLeDiff, Nat.reduceEqDiff, Nat.sub_self, Nat.zero_add, Nat.add_zero, Nat.zero_le, Nat.le_add_right, Nat.le_refl, Int.reduceToNat, Int.reduceLE, Nat.reduceLT, Nat.reducePow, Int.reducePow, Int.reduceNeg, or_true, true_or, Int.reduceLT, Bool.false_eq_true, if_true, if_false, forall_const, false_implies, true_implies, implies_true, Int.reduceEq, cast_lit, not_true_eq_false, not_false_eq_true, Bool.not_true, Bool.not_false, Bool.not_eq_true', Bool.not_eq_false', Bool.and_true, Bool.true_and, Bool.and_false, Bool.false_and, Bool.or_false, Bool.false_or, Bool.or_true, Bool.true_or, reduceCtorEq, false_and, and_false, or_false, false_or, beq_self_eq_true,
    Option.some.injEq, Prod.mk.injEq, Rv.dat.injEq, Rv.ref.injEq, D.int.injEq, D.bl.injEq, D.str.injEq, D.tup.injEq, D.lst.injEq, D.dic.injEq, D.scr.injEq, List.cons.injEq, and_true, true_and, exists_and_left, exists_and_right, exists_eq_left, exists_eq_left', exists_eq_right, exists_eq_right', exists_eq, exists_eq', exists_const, decide_eq_true_eq, decide_eq_false_iff_not, Bool.and_eq_true, beq_iff_eq, beq_eq_false_iff_ne, ne_eq, decide_true, decide_false, hdR_len, stR_len, hdR_24, hdR_25, hdR_26, hdR_27, hdR_28, hdR_29, hdR_30, stR_16, stR_18, stR_19, stR_20, stR_21, stR_22, stR_23, hdP_25, hdP_26, hdP_27, hdP_28, hdP_29, hdP_30, stP_16, stP_19, stP_20, stP_21, stP_22, stP_23, hdD, List.length_set, set_two, denc_push, denc_swap, denc_pop, denc_top, denc_clear, eqv_optN, plN_optN, isNon_optN, optN_some, optN_none, seenD_some, seenD_none, items_pair, items_vals, phk, kdk, List.getElem?_set_self, List.getElem?_set_ne, List.getElem?_append_left, ltaddr, boxD, cDict, *])
local macro_rules | `(tactic| walk_at "dwf") => `(tactic| simp (config := { maxSteps := 1000000 }) only [and_assoc, natD, mapint_inj, mapnat_inj, denc_inj, wfor_eq, ixD, ixM, cut_one, List.tail_cons, List.tail_nil, eqvs_nil, List.isEmpty_cons, List.isEmpty_nil, plAll_int, plAll_nat, Ss.W, Sm.W, Ex.W, Ex.T, Es.W, wVar, BOp.B, COp.B, Bi.B, IxK.B, bI0, bIC, bEq, bIs, bIn, bIxL, bIxT, bIxS, bIxK, bCat, bCatT, bRep, cLen, cInt, cMin2, cList, cTup, wantB, wAndT, wOrT, wAndV, wOrV, wNotV, lenOf, lstOf_ref, lstOf_lst, seqOf, dicOf_ref, dicOf_dic, wPart, wIter, tstW, mAppend, mPop, mPopAt, mClear, wSetIx, wSetKey, Tg.put, wipeN, Cell.lst.injEq, Cell.dic.injEq, Cell.fz.injEq, List.length_map, tyR, tyD,
    eqv_ii, eqv_ss, eqv_bb, eqv_nn, eqv_ll, eqv_tt, eqn_non_int, eqn_non_str, eqn_non_lst, eqn_non_tup, eqn_non_bl, eqn_non_dic, eqn_int_non, eqn_int_str, eqn_int_lst, eqn_int_tup, eqn_int_dic, eqn_str_non, eqn_str_int, eqn_str_lst, eqn_str_tup, eqn_str_bl, eqn_str_dic, eqn_lst_non, eqn_lst_int, eqn_lst_str, eqn_lst_tup, eqn_lst_bl, eqn_lst_dic, eqn_tup_non, eqn_tup_int, eqn_tup_str, eqn_tup_lst, eqn_tup_bl, eqn_tup_dic, eqn_bl_non, eqn_bl_str, eqn_bl_lst, eqn_bl_tup, eqn_bl_dic, eqvs, atI_lit, cdiv_lit, cmul_r, cmul_l, cpow_lit, nrm_dat, nrm_ref, plN, plAll, rd_dat, rd_ref, rds_nil, rds_cons, rds_map, rdk_nil, rdk_cons,               isNon, tyNames, kbs,
    Option.map_some, Option.map_none, Option.isSome_some, List.getD_cons_zero, List.getD_cons_succ, List.getD_nil, get_app, get_app0, set_app, set_app0, List.length_append, List.append_assoc, List.any_cons, List.any_nil, List.zip_cons_cons, List.zip_nil_left, List.zip_nil_right,
    List.map_cons, List.map_nil, List.cons_append, List.nil_append, List.append_nil, List.length_cons, List.length_nil, List.replicate, List.set_cons_zero, List.set_cons_succ, List.getElem?_cons_zero, List.getElem?_cons_succ, List.set_nil, List.getElem?_nil,
    Nat.reduceAdd, Nat.reduceSub, Nat.reduceBEq, Nat.reduceLeDiff, Nat.reduceEqDiff, Nat.sub_self, Nat.zero_add, Nat.add_zero, Nat.zero_le, Nat.le_add_right, Nat.le_refl, Int.reduceToNat, Int.reduceLE, Nat.reduceLT, Nat.reducePow, Int.reducePow, Int.reduceNeg, or_true, true_or, Int.reduceLT, Bool.false_eq_true, if_true, if_false, forall_const, false_implies, true_implies, implies_true, Int.reduceEq, cast_lit, not_true_eq_false, not_false_eq_true, Bool.not_true, Bool.not_false, Bool.not_eq_true', Bool.not_eq_false', Bool.and_true, Bool.true_and, Bool.and_false, Bool.false_and, Bool.or_false, Bool.false_or, Bool.or_true, Bool.true_or, reduceCtorEq, false_and, and_false, or_false, false_or, beq_self_eq_true,
    Option.some.injEq, Prod.mk.injEq, Rv.dat.injEq, Rv.ref.injEq, D.int.injEq, D.bl.injEq, D.str.injEq, D.tup.injEq, D.lst.injEq, D.dic.injEq, D.scr.injEq, List.cons.injEq, and_true, true_and, exists_and_left, exists_and_right, exists_eq_left, exists_eq_left', exists_eq_right, exists_eq_right', exists_eq, exists_eq', exists_const, decide_eq_true_eq, decide_eq_false_iff_not, Bool.and_eq_true, beq_iff_eq, beq_eq_false_iff_ne, ne_eq, decide_true, decide_false, hdR_len, stR_len, hdR_24, hdR_25, hdR_26, hdR_27, hdR_28, hdR_29, hdR_30, stR_16, stR_18, stR_19, stR_20, stR_21, stR_22, stR_23, hdP_25, hdP_26, hdP_27, hdP_28, hdP_29, hdP_30, stP_16, stP_19, stP_20, stP_21, stP_22, stP_23, hdD, List.length_set, set_two, denc_push, denc_swap, denc_pop, denc_top, denc_clear, eqv_optN, plN_optN, isNon_optN, optN_some, optN_none, seenD_some, seenD_none, items_pair, items_vals, phk, kdk, List.getElem?_set_self, List.getElem?_set_ne, List.getElem?_append_left, ltaddr, boxD, cDict, *])
abbrev fn_p_step_check : List Str := ["is_still", "come_to_end"]
def m_p_step_check : DW.Ss := (.cons (.set 3 (.tup (.cons (.str 9) (.cons (.ix .t (.ix .k (.var 0) (.str 19)) (.int 0)) (.cons (.ix .t (.ix .k (.var 0) (.str 19)) (.int 1)) .nil)))))
  (.cons (.ite (.call 0 (.cons (.var 0) (.cons (.frz (.ix .k (.var 2) (.str 28))) .nil))) (.cons (.expr (.call 1 (.cons (.var 0) (.cons (.var 1) (.cons (.frz (.ix .l (.ix .k (.var 2) (.str 29)) (.int 0))) .nil)))))
  .nil) (.cons (.setKey (.var 2) (.str 26) (.str 9))
  .nil))
  (.cons (.ret (.var 3))
  .nil)))
abbrev Ss_p_step_check : List SpD := [S_p_is_still, S_p_come_to_end]
def S_p_step_check : SpD := fun rs g Q => ∃ (v : Vw) (s : St) (hd : Hand), rs = [.ref v.cs, .dat (.int (v.n : Int)), .ref v.ch] ∧ (Mem g v s hd ∧ WfT s.time s ∧ HOk s.boxes.length s.time hd ∧ hd.ph = .check ∧ s.time ≤ 100000 ∧ Post g v (stepCheck s hd v.n) Q)
theorem mo_p_step_check : Mono S_p_step_check := by
  rintro rs g P P2 h ⟨v, s, hd, eRS, q⟩
  refine ⟨v, s, hd, eRS, ?_⟩
  exact ⟨q.1, q.2.1, q.2.2.1, q.2.2.2.1, q.2.2.2.2.1, fun g' v' h1 h2 => h _ _ (q.2.2.2.2.2 g' v' h1 h2)⟩
theorem len_p_step_check : ∀ rs g Q, S_p_step_check rs g Q → rs.length = 3 := by
  rintro rs g Q ⟨v, s, hd, rfl, q⟩
  rfl
theorem hS_p_step_check : ∀ rs g Q, S_p_step_check rs g Q → m_p_step_check.W (wd Ss_p_step_check glF dtF) (rs.map some ++ List.replicate (4 - rs.length) none) g (fun _ g2 => Fin g Q (.dat .non) g2) (Fin g Q) := by
  rintro rs g Q ⟨v, s, hd, rfl, q⟩
  unfold m_p_step_check
  obtain ⟨m, w, k, hph, ht, q⟩ := q
  have hal := m.all
  have hnes := m.nes
  have hlt := k.lt (by rw [hph]; decide)
  have hde := deed_at hlt
  have hp := k.ph
  unfold PhOk at hp; rw [hph] at hp; dsimp only at hp
  obtain ⟨hp0, hp1, ⟨b, mk, hs⟩, vv, ww, hg⟩ := hp
  have hnr := w.nr
  walk_at "dwh"
  refine ⟨v, s, hd, (some b, mk), rfl, m, _, rfl, fun h => ?_, fun h => ?_⟩
  · have e : stepCheck s hd v.n = (s.point hd v.n (some s.time) (.val vv), hd.next, .look s.head.1 s.head.2) := by rw [check_yes hs h, hg]; rfl
    rw [e] at q
    walk_at "dwh"
    refine ⟨v, s, hd, .val vv, rfl, m, hlt, by omega, fun g1 v1 m1 k1 => ?_⟩
    have hal1 := m1.all
    walk_at "dwh"
    exact fin_mk q (m.mg.on m1 k1)
  · have e : stepCheck s hd v.n = (s, { hd with ph := .look }, .look s.head.1 s.head.2) := check_no hs h
    rw [e] at q
    have z := fin_mk q (m.mg.hw { hd with ph := .look } rfl)
    unfold handL at z
    dsimp only at z
    rw [hs] at z
    walk_at "dwh"
    exact z

end DW

/-! ## F_p_step_put.lean -/
set_option Elab.async false
set_option linter.all false
set_option maxRecDepth 100000
set_option maxHeartbeats 4000000
set_option autoImplicit false
namespace DW
open PySem PySem.Spec L2
open PyProof.Rows hiding St

local macro_rules | `(tactic| walk_at "dw") => `(tactic| simp (config := { maxSteps := 1000000 }) only [and_assoc, natD, mapint_inj, mapnat_inj, denc_inj, wfor_eq, ixD, ixM, cut_one, List.tail_cons, List.tail_nil, eqvs_nil, List.isEmpty_cons, List.isEmpty_nil, plAll_int, plAll_nat, Ss.W, Sm.W, Ex.W, Ex.T, Es.W, wVar, BOp.B, COp.B, Bi.B, IxK.B, bI0, bIC, bEq, bIs, bIn, bIxL, bIxT, bIxS, bIxK, bCat, bCatT, bRep, cLen, cInt, cMin2, cList, cTup, wantB, wAndT, wOrT, wAndV, wOrV, wNotV, lenOf, lstOf_ref, lstOf_lst, seqOf, dicOf_ref, dicOf_dic, wPart, wIter, tstW, mAppend, mPop, mPopAt, mClear, wSetIx, wSetKey, Tg.put, wipeN, Cell.lst.injEq, Cell.dic.injEq, Cell.fz.injEq, List.length_map, tyR, tyD,
    eqv_ii, eqv_ss, eqv_bb, eqv_nn, eqv_ll, eqv_tt, eqn_non_int, eqn_non_str, eqn_non_lst, eqn_non_tup, eqn_non_bl, eqn_non_dic, eqn_int_non, eqn_int_str, eqn_int_lst, eqn_int_tup, eqn_int_dic, eqn_str_non, eqn_str_int, eqn_str_lst, eqn_str_tup, eqn_str_bl, eqn_str_dic, eqn_lst_non, eqn_lst_int, eqn_lst_str, eqn_lst_tup, eqn_lst_bl, eqn_lst_dic, eqn_tup_non, eqn_tup_int, eqn_tup_str, eqn_tup_lst, eqn_tup_bl, eqn_tup_dic, eqn_bl_non, eqn_bl_str, eqn_bl_lst, eqn_bl_tup, eqn_bl_dic, eqvs, atI_lit, cdiv_lit, cmul_r, cmul_l, cpow_lit, nrm_dat, nrm_ref, plN, plAll, rd_dat, rd_ref, rds_nil, rds_cons, rds_map, rdk_nil, rdk_cons, wFrz, frz1, wFrzL, frzs, datsN, datsN_map, datsK, isNon, tyNames, kbs,
    Option.map_some, Option.map_none, Option.isSome_some, List.getD_cons_zero, List.getD_cons_succ, List.getD_nil, get_app, get_app0, set_app, set_app0, List.length_append, List.append_assoc, List.any_cons, List.any_nil, List.zip_cons_cons, List.zip_nil_left, List.zip_nil_right,
    List.map_cons, List.map_nil, List.cons_append, List.nil_append, List.append_nil, List.length_cons, List.length_nil, List.replicate, List.set_cons_zero, List.set_cons_succ, List.getElem?_cons_zero, List.getElem?_cons_succ, List.set_nil, List.getElem?_nil,
    Nat.reduceAdd, Nat.reduceSub, Nat.reduceBEq, Nat.reduceLeDiff, Nat.reduceEqDiff, Nat.sub_self, Nat.zero_add, Nat.add_zero, Nat.zero_le, Nat.le_add_right, Nat.le_refl, Int.reduceToNat, Int.reduceLE, Nat.reduceLT, Nat.reducePow, Int.reducePow, Int.reduceNeg, or_true, true_or, Int.reduceLT, Bool.false_eq_true, if_true, if_false, forall_const, false_implies, true_implies, implies_true, Int.reduceEq, cast_lit, not_true_eq_false, not_false_eq_true, Bool.not_true, Bool.not_false, Bool.not_eq_true', Bool.not_eq_false', Bool.and_true, Bool.true_and, Bool.and_false, Bool.false_and, Bool.or_false, Bool.false_or, Bool.or_true, Bool.true_or, reduceCtorEq, false_and, and_false, or_false, false_or, beq_self_eq_true,
    Option.some.injEq, Prod.mk.injEq, Rv.dat.injEq, Rv.ref.injEq, D.int.injEq, D.bl.injEq, D.str.injEq, D.tup.injEq, D.lst.injEq, D.dic.injEq, D.scr.injEq, List.cons.injEq, and_true, true_and, exists_and_left, exists_and_right, exists_eq_left, exists_eq_left', exists_eq_right, exists_eq_right', exists_eq, exists_eq', exists_const, decide_eq_true_eq, decide_eq_false_iff_not, Bool.and_eq_true, beq_iff_eq, beq_eq_false_iff_ne, ne_eq, decide_true, decide_false, hdR_len, stR_len, hdR_24, hdR_25, hdR_26, hdR_27, hdR_28, hdR_29, hdR_30, stR_16, stR_18, stR_19, stR_20, stR_21, stR_22, stR_23, hdP_25, hdP_26, hdP_27, hdP_28, hdP_29, hdP_30, stP_16, stP_19, stP_20, stP_21, stP_22, stP_23, hdD, List.length_set, set_two, denc_push, denc_swap, denc_pop, denc_top, denc_clear, eqv_optN, plN_optN, isNon_optN, optN_some, optN_none, seenD_some, seenD_none, items_pair, items_vals, phk, kdk, List.getElem?_set_self, List.getElem?_set_ne, List.getElem?_append_left, ltaddr, boxD, cDict])
local macro_rules | `(tactic| walk_at "dwh") => `(tactic| simp (config := { maxSteps := 1000000 }) only [and_assoc, natD, mapint_inj, mapnat_inj, denc_inj, wfor_eq, ixD, ixM, cut_one, List.tail_cons, List.tail_nil, eqvs_nil, List.isEmpty_cons, List.isEmpty_nil, plAll_int, plAll_nat, Ss.W, Sm.W, Ex.W, Ex.T, Es.W, wVar, BOp.B, COp.B, Bi.B, IxK.B, bI0, bIC, bEq, bIs, bIn, bIxL, bIxT, bIxS, bIxK, bCat, bCatT, bRep, cLen, cInt, cMin2, cList, cTup, wantB, wAndT, wOrT, wAndV, wOrV, wNotV, lenOf, lstOf_ref, lstOf_lst, seqOf, dicOf_ref, dicOf_dic, wPart, wIter, tstW, mAppend, mPop, mPopAt, mClear, wSetIx, wSetKey, Tg.put, wipeN, Cell.lst.injEq, Cell.dic.injEq, Cell.fz.injEq, List.length_map, tyR, tyD,
    eqv_ii, eqv_ss, eqv_bb, eqv_nn, eqv_ll, eqv_tt, eqn_non_int, eqn_non_str, eqn_non_lst, eqn_non_tup, eqn_non_bl, eqn_non_dic, eqn_int_non, eqn_int_str, eqn_int_lst, eqn_int_tup, eqn_int_dic, eqn_str_non, eqn_str_int, eqn_str_lst, eqn_str_tup, eqn_str_bl, eqn_str_dic, eqn_lst_non, eqn_lst_int, eqn_lst_str, eqn_lst_tup, eqn_lst_bl, eqn_lst_dic, eqn_tup_non, eqn_tup_int, eqn_tup_str, eqn_tup_lst, eqn_tup_bl, eqn_tup_dic, eqn_bl_non, eqn_bl_str, eqn_bl_lst, eqn_bl_tup, eqn_bl_dic, eqvs, atI_lit, cdiv_lit, cmul_r, cmul_l, cpow_lit, nrm_dat, nrm_ref, plN, plAll, rd_dat, rd_ref, rds_nil, rds_cons, rds_map, rdk_nil, rdk_cons, wFrz, frz1, wFrzL, frzs, datsN, datsN_map, datsK, isNon, tyNames, kbs,
    Option.map_some, Option.map_none, Option.isSome_some, List.getD_cons_zero, List.getD_cons_succ, List.getD_nil, get_app, get_app0, set_app, set_app0, List.length_append, List.append_assoc, List.any_cons, List.any_nil, List.zip_cons_cons, List.zip_nil_left, List.zip_nil_right,
    List.map_cons, List.map_nil, List.cons_append, List.nil_append, List.append_nil, List.length_cons, List.length_nil, List.replicate, List.set_cons_zero, List.set_cons_succ, List.getElem?_cons_zero, List.getElem?_cons_succ, List.set_nil, List.getElem?_nil,
    Nat.reduceAdd, Nat.reduceSub, Nat.reduceBEq, Nat.reduceLeDiff, Nat.reduceEqDiff, Nat.sub_self, Nat.zero_add, Nat.add_zero, Nat.zero_le, Nat.le_add_right, Nat.le_refl, Int.reduceToNat, Int.reduceLE, Nat.reduceLT, Nat.reducePow, Int.reducePow, Int.reduceNeg, or_true, true_or, Int.reduceLT, Bool.false_eq_true, if_true, if_false, forall_const, false_implies, true_implies, implies_true, Int.reduceEq, cast_lit, not_true_eq_false, not_false_eq_true, Bool.not_true, Bool.not_false, Bool.not_eq_true', Bool.not_eq_false', Bool.and_true, Bool.true_and, Bool.and_false, Bool.false_and, Bool.or_false, Bool.false_or, Bool.or_true, Bool.true_or, reduceCtorEq, false_and, and_false, or_false, false_or, beq_self_eq_true,
    Option.some.injEq, Prod.mk.injEq, Rv.dat.injEq, Rv.ref.injEq, D.int.injEq, D.bl.injEq, D.str.injEq, D.tup.injEq, D.lst.injEq, D.dic.injEq, D.scr.injEq, List.cons.injEq, and_true, true_and, exists_and_left, exists_and_right, exists_eq_left, exists_eq_left', exists_eq_right, exists_eq_right', exists_eq, exists_eq', exists_const, decide_eq_true_eq, decide_eq_false_iff_not, Bool.and_eq_true, beq_iff_eq, beq_eq_false_iff_ne, ne_eq, decide_true, decide_false, hdR_len, stR_len, hdR_24, hdR_25, hdR_26, hdR_27, hdR_28, hdR_29, hdR_30, stR_16, stR_18, stR_19, stR_20, stR_21, stR_22, stR_23, hdP_25, hdP_26, hdP_27, hdP_28, hdP_29, hdP_30, stP_16, stP_19, stP_20, stP_21, stP_22, stP_23, hdD, List.length_set, set_two, denc_push, denc_swap, denc_pop, denc_top, denc_clear, eqv_optN, plN_optN, isNon_optN, optN_some, optN_none, seenD_some, seenD_none, items_pair, items_vals, phk, kdk, List.getElem?_set_self, List.getElem?_set_ne, List.getElem?_append_left, ltaddr, boxD, cDict, *])
local macro_rules | `(tactic| walk_at "dwf") => `(tactic| simp (config := { maxSteps := 1000000 }) only [and_assoc, natD, mapint_inj, mapnat_inj, denc_inj, wfor_eq, ixD, ixM, cut_one, List.tail_cons, List.tail_nil, eqvs_nil, List.isEmpty_cons, List.isEmpty_nil, plAll_int, plAll_nat, Ss.W, Sm.W, Ex.W, Ex.T, Es.W, wVar, BOp.B, COp.B, Bi.B, IxK.B, bI0, bIC, bEq, bIs, bIn, bIxL, bIxT, bIxS, bIxK, bCat, bCatT, bRep, cLen, cInt, cMin2, cList, cTup, wantB, wAndT, wOrT, wAndV, wOrV, wNotV, lenOf, lstOf_ref, lstOf_lst, seqOf, dicOf_ref, dicOf_dic, wPart, wIter, tstW, mAppend, mPop, mPopAt, mClear, wSetIx, wSetKey, Tg.put, wipeN, Cell.lst.injEq, Cell.dic.injEq, Cell.fz.injEq, List.length_map, tyR, tyD,
    eqv_ii, eqv_ss, eqv_bb, eqv_nn, eqv_ll, eqv_tt, eqn_non_int, eqn_non_str, eqn_non_lst, eqn_non_tup, eqn_non_bl, eqn_non_dic, eqn_int_non, eqn_int_str, eqn_int_lst, eqn_int_tup, eqn_int_dic, eqn_str_non, eqn_str_int, eqn_str_lst, eqn_str_tup, eqn_str_bl, eqn_str_dic, eqn_lst_non, eqn_lst_int, eqn_lst_str, eqn_lst_tup, eqn_lst_bl, eqn_lst_dic, eqn_tup_non, eqn_tup_int, eqn_tup_str, eqn_tup_lst, eqn_tup_bl, eqn_tup_dic, eqn_bl_non, eqn_bl_str, eqn_bl_lst, eqn_bl_tup, eqn_bl_dic, eqvs, atI_lit, cdiv_lit, cmul_r, cmul_l, cpow_lit, nrm_dat, nrm_ref, plN, plAll, rd_dat, rd_ref, rds_nil, rds_cons, rds_map, rdk_nil, rdk_cons,               isNon, tyNames, kbs,
    Option.map_some, Option.map_none, Option.isSome_some, List.getD_cons_zero, List.getD_cons_succ, List.getD_nil, get_app, get_app0, set_app, set_app0, List.length_append, List.append_assoc, List.any_cons, List.any_nil, List.zip_cons_cons, List.zip_nil_left, List.zip_nil_right,
    List.map_cons, List.map_nil, List.cons_append, List.nil_append, List.append_nil, List.length_cons, List.length_nil, List.replicate, List.set_cons_zero, List.set_cons_succ, List.getElem?_cons_zero, List.getElem?_cons_succ, List.set_nil, List.getElem?_nil,
    Nat.reduceAdd, Nat.reduceSub, Nat.reduceBEq, Nat.reduceLeDiff, Nat.reduceEqDiff, Nat.sub_self, Nat.zero_add, Nat.add_zero, Nat.zero_le, Nat.le_add_right, Nat.le_refl, Int.reduceToNat, Int.reduceLE, Nat.reduceLT, Nat.reducePow, Int.reducePow, Int.reduceNeg, or_true, true_or, Int.reduceLT, Bool.false_eq_true, if_true, if_false, forall_const, false_implies, true_implies, implies_true, Int.reduceEq, cast_lit, not_true_eq_false, not_false_eq_true, Bool.not_true, Bool.not_false, Bool.not_eq_true', Bool.not_eq_false', Bool.and_true, Bool.true_and, Bool.and_false, Bool.false_and, Bool.or_false, Bool.false_or, Bool.or_true, Bool.true_or, reduceCtorEq, false_and, and_false, or_false, false_or, beq_self_eq_true,
    Option.some.injEq, Prod.mk.injEq, Rv.dat.injEq, Rv.ref.injEq, D.int.injEq, D.bl.injEq, D.str.injEq, D.tup.injEq, D.lst.injEq, D.dic.injEq, D.scr.injEq, List.cons.injEq, and_true, true_and, exists_and_left, exists_and_right, exists_eq_left, exists_eq_left', exists_eq_right, exists_eq_right', exists_eq, exists_eq', exists_const, decide_eq_true_eq, decide_eq_false_iff_not, Bool.and_eq_true, beq_iff_eq, beq_eq_false_iff_ne, ne_eq, decide_true, decide_false, hdR_len, stR_len, hdR_24, hdR_25, hdR_26, hdR_27, hdR_28, hdR_29, hdR_30, stR_16, stR_18, stR_19, stR_20, stR_21, stR_22, stR_23, hdP_25, hdP_26, hdP_27, hdP_28, hdP_29, hdP_30, stP_16, stP_19, stP_20, stP_21, stP_22, stP_23, hdD, List.length_set, set_two, denc_push, denc_swap, denc_pop, denc_top, denc_clear, eqv_optN, plN_optN, isNon_optN, optN_some, optN_none, seenD_some, seenD_none, items_pair, items_vals, phk, kdk, List.getElem?_set_self, List.getElem?_set_ne, List.getElem?_append_left, ltaddr, boxD, cDict, *])
abbrev fn_p_step_put : List Str := ["is_still", "set_head", "come_to_end", "come_to_point"]
def m_p_step_put : DW.Ss := (.cons (.ite (.not (.call 0 (.cons (.var 0) (.cons (.frz (.ix .k (.var 2) (.str 28))) .nil)))) (.cons (.setKey (.var 2) (.str 26) (.str 9))
  (.cons (.ret (.tup (.cons (.str 11) (.cons (.bl false) .nil))))
  .nil)) .nil)
  (.cons (.set 4 (.ix .t (.ix .k (.var 2) (.str 28)) (.int 0)))
  (.cons (.ite (.cmp .eq (.ix .t (.var 3) (.int 0)) (.str 0)) (.cons (.expr (.call 1 (.cons (.var 0) (.cons (.ix .k (.var 2) (.str 27)) .nil))))
  (.cons (.expr (.call 2 (.cons (.var 0) (.cons (.var 1) (.cons .non .nil)))))
  .nil)) (.cons (.ite (.cmp .eq (.ix .t (.var 3) (.int 0)) (.str 4)) (.cons (.expr (.call 1 (.cons (.var 0) (.cons .non .nil))))
  (.cons (.expr (.call 3 (.cons (.var 0) (.cons (.var 1) (.cons .non (.cons .non .nil))))))
  (.cons (.setKey (.var 2) (.str 27) (.var 4))
  (.cons (.setKey (.var 2) (.str 26) (.str 13))
  .nil)))) (.cons (.set 5 (.ix .l (.ix .k (.var 2) (.str 29)) (.int 0)))
  (.cons (.ite (.cmp .eq (.ix .t (.var 3) (.int 0)) (.str 2)) (.cons (.expr (.call 1 (.cons (.var 0) (.cons (.frz (.ix .l (.ix .k (.var 2) (.str 29)) (.int 1))) .nil))))
  .nil) (.cons (.expr (.call 1 (.cons (.var 0) (.cons (.ix .k (.var 2) (.str 27)) .nil))))
  .nil))
  (.cons (.expr (.app (.ix .k (.var 0) (.str 16)) (.var 4)))
  (.cons (.expr (.call 2 (.cons (.var 0) (.cons (.var 1) (.cons (.frz (.var 5)) .nil)))))
  .nil)))))
  .nil))
  (.cons (.ret (.tup (.cons (.str 11) (.cons (.bl true) .nil))))
  .nil))))
abbrev Ss_p_step_put : List SpD := [S_p_is_still, S_p_set_head, S_p_come_to_end, S_p_come_to_point]
def S_p_step_put : SpD := fun rs g Q => ∃ (v : Vw) (s : St) (hd : Hand), rs = [.ref v.cs, .dat (.int (v.n : Int)), .ref v.ch, .dat hd.deed.enc] ∧ (Mem g v s hd ∧ WfT s.time s ∧ HOk s.boxes.length s.time hd ∧ hd.ph = .put ∧ s.time ≤ 100000 ∧ Post g v (stepPut s hd v.n) Q)
theorem mo_p_step_put : Mono S_p_step_put := by
  rintro rs g P P2 h ⟨v, s, hd, eRS, q⟩
  refine ⟨v, s, hd, eRS, ?_⟩
  exact ⟨q.1, q.2.1, q.2.2.1, q.2.2.2.1, q.2.2.2.2.1, fun g' v' h1 h2 => h _ _ (q.2.2.2.2.2 g' v' h1 h2)⟩
theorem len_p_step_put : ∀ rs g Q, S_p_step_put rs g Q → rs.length = 4 := by
  rintro rs g Q ⟨v, s, hd, rfl, q⟩
  rfl
theorem hS_p_step_put : ∀ rs g Q, S_p_step_put rs g Q → m_p_step_put.W (wd Ss_p_step_put glF dtF) (rs.map some ++ List.replicate (6 - rs.length) none) g (fun _ g2 => Fin g Q (.dat .non) g2) (Fin g Q) := by
  rintro rs g Q ⟨v, s, hd, rfl, q⟩
  unfold m_p_step_put
  obtain ⟨m, w, k, hph, ht, q⟩ := q
  have hal := m.all
  have hnes := m.nes
  have hlt := k.lt (by rw [hph]; decide)
  have hde := deed_at hlt
  have hnr := w.nr
  have hnb := w.nb
  have hns := w.ns
  have hp := k.ph
  unfold PhOk at hp; rw [hph] at hp; dsimp only at hp
  obtain ⟨hp0, hp1, ⟨o, mk, hs, ho⟩, hp2, hp3, hp4, hp5⟩ := hp
  clear hp0
  have hns2 : s.spare.length < 1000000 := by omega
  walk_at "dwh"
  refine ⟨v, s, hd, (o, mk), rfl, m, _, rfl, fun h => ?_, fun h => ?_⟩
  · walk_at "dwh"
    rw [put_no hs h] at q
    have z := fin_mk q (m.mg.hw { hd with ph := .look } rfl)
    unfold handL at z
    dsimp only at z
    rw [hs] at z
    exact z
  · cases hdd : hd.deed with
    | top => exact absurd hdd hp1
    | push x =>
      rw [put_push hs h hdd] at q
      clear hp1 hp2 hp3 hp4 hp5
      walk_at "dwh"
      refine ⟨v, s, hd, hd.box, rfl, m, fun g1 v1 m1 k1 => ?_⟩
      obtain ⟨n1, n2, n3, n4, n5, n6, n7⟩ := k1.same
      have hal1 := m1.all
      clear hal hnes
      simp only [← n1, ← n2, ← n3]
      rw [← n2] at q
      clear n1 n2 n3 n4 n5 n6 n7
      walk_at "dwh"
      exact ⟨v1, _, hd, .non, rfl, m1, hlt, by show s.rows.length ≤ _; omega, fun g2 v2 m2 k2 => fin_mk q ((m.mg.on m1 k1).on m2 k2)⟩
    | clear =>
      rw [put_clear hs h hdd] at q
      have hoS : ∃ b, o = some b := by cases o with | none => obtain ⟨z, hz⟩ := ho rfl; rw [hdd] at hz; cases hz | some b => exact ⟨b, rfl⟩
      obtain ⟨b, rfl⟩ := hoS
      rw [saw_some hs] at q
      clear hp1 hp2 hp3 hp4 hp5
      walk_at "dwh"
      refine ⟨v, s, hd, none, rfl, m, fun g1 v1 m1 k1 => ?_⟩
      obtain ⟨n1, n2, n3, n4, n5, n6, n7⟩ := k1.same
      have hal1 := m1.all
      clear hal hnes
      simp only [← n1, ← n2, ← n3]
      rw [← n2] at q
      clear n1 n2 n3 n4 n5 n6 n7
      walk_at "dwh"
      refine ⟨v1, _, hd, none, .non, rfl, m1, hlt, by show s.rows.length ≤ _; omega, fun g2 v2 m2 k2 => ?_⟩
      obtain ⟨n1, n2, n3, n4, n5, n6, n7⟩ := k2.same
      have hal2 := m2.all
      have hnes2 := m2.nes
      clear hal1
      simp only [← n1, ← n2, ← n3]
      clear n1 n2 n3 n4 n5 n6 n7
      walk_at "dwh"
      have z := fin_mk q (((m.mg.on m1 k1).on m2 k2).hw { hd with box := some b, ph := .walk } rfl)
      unfold handL at z
      dsimp only at z
      rw [hs] at z
      exact z
    | pop =>
      rw [put_pop hs h hdd] at q
      have hoS : ∃ b, o = some b := by cases o with | none => obtain ⟨z, hz⟩ := ho rfl; rw [hdd] at hz; cases hz | some b => exact ⟨b, rfl⟩
      obtain ⟨b, rfl⟩ := hoS
      obtain ⟨vv, ww, hg⟩ := hp4 hdd
      rw [saw_some hs, hg] at q
      clear hp1 hp2 hp3 hp4 hp5
      walk_at "dwh"
      refine ⟨v, s, hd, ww, rfl, m, fun g1 v1 m1 k1 => ?_⟩
      obtain ⟨n1, n2, n3, n4, n5, n6, n7⟩ := k1.same
      have hal1 := m1.all
      have hnes1 := m1.nes
      have hns3 : (s.setHead ww).spare.length < 1000000 := hns2
      clear hal hnes
      simp only [← n1, ← n2, ← n3]
      rw [← n2] at q
      clear n1 n2 n3 n4 n5 n6 n7
      walk_at "dwh"
      have z := (m.mg.on m1 k1).sp_app b
      refine ⟨v1, _, hd, .val vv, rfl, z.m, hlt, by show s.rows.length ≤ _; omega, fun g2 v2 m2 k2 => fin_mk q (z.on m2 k2)⟩
    | swap x =>
      rw [put_swap hs h hdd] at q
      have hoS : ∃ b, o = some b := by cases o with | none => obtain ⟨z, hz⟩ := ho rfl; rw [hdd] at hz; cases hz | some b => exact ⟨b, rfl⟩
      obtain ⟨b, rfl⟩ := hoS
      obtain ⟨vv, ww, hg⟩ := hp5 _ hdd
      rw [saw_some hs, hg] at q
      clear hp1 hp2 hp3 hp4 hp5
      walk_at "dwh"
      refine ⟨v, s, hd, hd.box, rfl, m, fun g1 v1 m1 k1 => ?_⟩
      obtain ⟨n1, n2, n3, n4, n5, n6, n7⟩ := k1.same
      have hal1 := m1.all
      have hnes1 := m1.nes
      have hns3 : (s.setHead hd.box).spare.length < 1000000 := hns2
      clear hal hnes
      simp only [← n1, ← n2, ← n3]
      rw [← n2] at q
      clear n1 n2 n3 n4 n5 n6 n7
      walk_at "dwh"
      have z := (m.mg.on m1 k1).sp_app b
      refine ⟨v1, _, hd, .val vv, rfl, z.m, hlt, by show s.rows.length ≤ _; omega, fun g2 v2 m2 k2 => fin_mk q (z.on m2 k2)⟩

end DW

/-! ## F_p_step_walk.lean -/
set_option Elab.async false
set_option linter.all false
set_option maxRecDepth 100000
set_option maxHeartbeats 4000000
set_option autoImplicit false
namespace DW
open PySem PySem.Spec L2
open PyProof.Rows hiding St

local macro_rules | `(tactic| walk_at "dw") => `(tactic| simp (config := { maxSteps := 1000000 }) only [and_assoc, natD, mapint_inj, mapnat_inj, denc_inj, wfor_eq, ixD, ixM, cut_one, List.tail_cons, List.tail_nil, eqvs_nil, List.isEmpty_cons, List.isEmpty_nil, plAll_int, plAll_nat, Ss.W, Sm.W, Ex.W, Ex.T, Es.W, wVar, BOp.B, COp.B, Bi.B, IxK.B, bI0, bIC, bEq, bIs, bIn, bIxL, bIxT, bIxS, bIxK, bCat, bCatT, bRep, cLen, cInt, cMin2, cList, cTup, wantB, wAndT, wOrT, wAndV, wOrV, wNotV, lenOf, lstOf_ref, lstOf_lst, seqOf, dicOf_ref, dicOf_dic, wPart, wIter, tstW, mAppend, mPop, mPopAt, mClear, wSetIx, wSetKey, Tg.put, wipeN, Cell.lst.injEq, Cell.dic.injEq, Cell.fz.injEq, List.length_map, tyR, tyD,
    eqv_ii, eqv_ss, eqv_bb, eqv_nn, eqv_ll, eqv_tt, eqn_non_int, eqn_non_str, eqn_non_lst, eqn_non_tup, eqn_non_bl, eqn_non_dic, eqn_int_non, eqn_int_str, eqn_int_lst, eqn_int_tup, eqn_int_dic, eqn_str_non, eqn_str_int, eqn_str_lst, eqn_str_tup, eqn_str_bl, eqn_str_dic, eqn_lst_non, eqn_lst_int, eqn_lst_str, eqn_lst_tup, eqn_lst_bl, eqn_lst_dic, eqn_tup_non, eqn_tup_int, eqn_tup_str, eqn_tup_lst, eqn_tup_bl, eqn_tup_dic, eqn_bl_non, eqn_bl_str, eqn_bl_lst, eqn_bl_tup, eqn_bl_dic, eqvs, atI_lit, cdiv_lit, cmul_r, cmul_l, cpow_lit, nrm_dat, nrm_ref, plN, plAll, rd_dat, rd_ref, rds_nil, rds_cons, rds_map, rdk_nil, rdk_cons, wFrz, frz1, wFrzL, frzs, datsN, datsN_map, datsK, isNon, tyNames, kbs,
    Option.map_some, Option.map_none, Option.isSome_some, List.getD_cons_zero, List.getD_cons_succ, List.getD_nil, get_app, get_app0, set_app, set_app0, List.length_append, List.append_assoc, List.any_cons, List.any_nil, List.zip_cons_cons, List.zip_nil_left, List.zip_nil_right,
    List.map_cons, List.map_nil, List.cons_append, List.nil_append, List.append_nil, List.length_cons, List.length_nil, List.replicate, List.set_cons_zero, List.set_cons_succ, List.getElem?_cons_zero, List.getElem?_cons_succ, List.set_nil, List.getElem?_nil,
    Nat.reduceAdd, Nat.reduceSub, Nat.reduceBEq, Nat.reduceLeDiff, Nat.reduceEqDiff, Nat.sub_self, Nat.zero_add, Nat.add_zero, Nat.zero_le, Nat.le_add_right, Nat.le_refl, Int.reduceToNat, Int.reduceLE, Nat.reduceLT, Nat.reducePow, Int.reducePow, Int.reduceNeg, or_true, true_or, Int.reduceLT, Bool.false_eq_true, if_true, if_false, forall_const, false_implies, true_implies, implies_true, Int.reduceEq, cast_lit, not_true_eq_false, not_false_eq_true, Bool.not_true, Bool.not_false, Bool.not_eq_true', Bool.not_eq_false', Bool.and_true, Bool.true_and, Bool.and_false, Bool.false_and, Bool.or_false, Bool.false_or, Bool.or_true, Bool.true_or, reduceCtorEq, false_and, and_false, or_false, false_or, beq_self_eq_true,
    Option.some.injEq, Prod.mk.injEq, Rv.dat.injEq, Rv.ref.injEq, D.int.injEq, D.bl.injEq, D.str.injEq, D.tup.injEq, D.lst.injEq, D.dic.injEq, D.scr.injEq, List.cons.injEq, and_true, true_and, exists_and_left, exists_and_right, exists_eq_left, exists_eq_left', exists_eq_right, exists_eq_right', exists_eq, exists_eq', exists_const, decide_eq_true_eq, decide_eq_false_iff_not, Bool.and_eq_true, beq_iff_eq, beq_eq_false_iff_ne, ne_eq, decide_true, decide_false, hdR_len, stR_len, hdR_24, hdR_25, hdR_26, hdR_27, hdR_28, hdR_29, hdR_30, stR_16, stR_18, stR_19, stR_20, stR_21, stR_22, stR_23, hdP_25, hdP_26, hdP_27, hdP_28, hdP_29, hdP_30, stP_16, stP_19, stP_20, stP_21, stP_22, stP_23, hdD, List.length_set, set_two, denc_push, denc_swap, denc_pop, denc_top, denc_clear, eqv_optN, plN_optN, isNon_optN, optN_some, optN_none, seenD_some, seenD_none, items_pair, items_vals, phk, kdk, List.getElem?_set_self, List.getElem?_set_ne, List.getElem?_append_left, ltaddr, boxD, cDict])
local macro_rules | `(tactic| walk_at "dwh") => `(tactic| simp (config := { maxSteps := 1000000 }) only [and_assoc, natD, mapint_inj, mapnat_inj, denc_inj, wfor_eq, ixD, ixM, cut_one, List.tail_cons, List.tail_nil, eqvs_nil, List.isEmpty_cons, List.isEmpty_nil, plAll_int, plAll_nat, Ss.W, Sm.W, Ex.W, Ex.T, Es.W, wVar, BOp.B, COp.B, Bi.B, IxK.B, bI0, bIC, bEq, bIs, bIn, bIxL, bIxT, bIxS, bIxK, bCat, bCatT, bRep, cLen, cInt, cMin2, cList, cTup, wantB, wAndT, wOrT, wAndV, wOrV, wNotV, lenOf, lstOf_ref, lstOf_lst, seqOf, dicOf_ref, dicOf_dic, wPart, wIter, tstW, mAppend, mPop, mPopAt, mClear, wSetIx, wSetKey, Tg.put, wipeN, Cell.lst.injEq, Cell.dic.injEq, Cell.fz.injEq, List.length_map, tyR, tyD,
    eqv_ii, eqv_ss, eqv_bb, eqv_nn, eqv_ll, eqv_tt, eqn_non_int, eqn_non_str, eqn_non_lst, eqn_non_tup, eqn_non_bl, eqn_non_dic, eqn_int_non, eqn_int_str, eqn_int_lst, eqn_int_tup, eqn_int_dic, eqn_str_non, eqn_str_int, eqn_str_lst, eqn_str_tup, eqn_str_bl, eqn_str_dic, eqn_lst_non, eqn_lst_int, eqn_lst_str, eqn_lst_tup, eqn_lst_bl, eqn_lst_dic, eqn_tup_non, eqn_tup_int, eqn_tup_str, eqn_tup_lst, eqn_tup_bl, eqn_tup_dic, eqn_bl_non, eqn_bl_str, eqn_bl_lst, eqn_bl_tup, eqn_bl_dic, eqvs, atI_lit, cdiv_lit, cmul_r, cmul_l, cpow_lit, nrm_dat, nrm_ref, plN, plAll, rd_dat, rd_ref, rds_nil, rds_cons, rds_map, rdk_nil, rdk_cons, wFrz, frz1, wFrzL, frzs, datsN, datsN_map, datsK, isNon, tyNames, kbs,
    Option.map_some, Option.map_none, Option.isSome_some, List.getD_cons_zero, List.getD_cons_succ, List.getD_nil, get_app, get_app0, set_app, set_app0, List.length_append, List.append_assoc, List.any_cons, List.any_nil, List.zip_cons_cons, List.zip_nil_left, List.zip_nil_right,
    List.map_cons, List.map_nil, List.cons_append, List.nil_append, List.append_nil, List.length_cons, List.length_nil, List.replicate, List.set_cons_zero, List.set_cons_succ, List.getElem?_cons_zero, List.getElem?_cons_succ, List.set_nil, List.getElem?_nil,
    Nat.reduceAdd, Nat.reduceSub, Nat.reduceBEq, Nat.reduceLeDiff, Nat.reduceEqDiff, Nat.sub_self, Nat.zero_add, Nat.add_zero, Nat.zero_le, Nat.le_add_right, Nat.le_refl, Int.reduceToNat, Int.reduceLE, Nat.reduceLT, Nat.reducePow, Int.reducePow, Int.reduceNeg, or_true, true_or, Int.reduceLT, Bool.false_eq_true, if_true, if_false, forall_const, false_implies, true_implies, implies_true, Int.reduceEq, cast_lit, not_true_eq_false, not_false_eq_true, Bool.not_true, Bool.not_false, Bool.not_eq_true', Bool.not_eq_false', Bool.and_true, Bool.true_and, Bool.and_false, Bool.false_and, Bool.or_false, Bool.false_or, Bool.or_true, Bool.true_or, reduceCtorEq, false_and, and_false, or_false, false_or, beq_self_eq_true,
    Option.some.injEq, Prod.mk.injEq, Rv.dat.injEq, Rv.ref.injEq, D.int.injEq, D.bl.injEq, D.str.injEq, D.tup.injEq, D.lst.injEq, D.dic.injEq, D.scr.injEq, List.cons.injEq, and_true, true_and, exists_and_left, exists_and_right, exists_eq_left, exists_eq_left', exists_eq_right, exists_eq_right', exists_eq, exists_eq', exists_const, decide_eq_true_eq, decide_eq_false_iff_not, Bool.and_eq_true, beq_iff_eq, beq_eq_false_iff_ne, ne_eq, decide_true, decide_false, hdR_len, stR_len, hdR_24, hdR_25, hdR_26, hdR_27, hdR_28, hdR_29, hdR_30, stR_16, stR_18, stR_19, stR_20, stR_21, stR_22, stR_23, hdP_25, hdP_26, hdP_27, hdP_28, hdP_29, hdP_30, stP_16, stP_19, stP_20, stP_21, stP_22, stP_23, hdD, List.length_set, set_two, denc_push, denc_swap, denc_pop, denc_top, denc_clear, eqv_optN, plN_optN, isNon_optN, optN_some, optN_none, seenD_some, seenD_none, items_pair, items_vals, phk, kdk, List.getElem?_set_self, List.getElem?_set_ne, List.getElem?_append_left, ltaddr, boxD, cDict, *])
local macro_rules | `(tactic| walk_at "dwf") => `(tactic| simp (config := { maxSteps := 1000000 }) only [and_assoc, natD, mapint_inj, mapnat_inj, denc_inj, wfor_eq, ixD, ixM, cut_one, List.tail_cons, List.tail_nil, eqvs_nil, List.isEmpty_cons, List.isEmpty_nil, plAll_int, plAll_nat, Ss.W, Sm.W, Ex.W, Ex.T, Es.W, wVar, BOp.B, COp.B, Bi.B, IxK.B, bI0, bIC, bEq, bIs, bIn, bIxL, bIxT, bIxS, bIxK, bCat, bCatT, bRep, cLen, cInt, cMin2, cList, cTup, wantB, wAndT, wOrT, wAndV, wOrV, wNotV, lenOf, lstOf_ref, lstOf_lst, seqOf, dicOf_ref, dicOf_dic, wPart, wIter, tstW, mAppend, mPop, mPopAt, mClear, wSetIx, wSetKey, Tg.put, wipeN, Cell.lst.injEq, Cell.dic.injEq, Cell.fz.injEq, List.length_map, tyR, tyD,
    eqv_ii, eqv_ss, eqv_bb, eqv_nn, eqv_ll, eqv_tt, eqn_non_int, eqn_non_str, eqn_non_lst, eqn_non_tup, eqn_non_bl, eqn_non_dic, eqn_int_non, eqn_int_str, eqn_int_lst, eqn_int_tup, eqn_int_dic, eqn_str_non, eqn_str_int, eqn_str_lst, eqn_str_tup, eqn_str_bl, eqn_str_dic, eqn_lst_non, eqn_lst_int, eqn_lst_str, eqn_lst_tup, eqn_lst_bl, eqn_lst_dic, eqn_tup_non, eqn_tup_int, eqn_tup_str, eqn_tup_lst, eqn_tup_bl, eqn_tup_dic, eqn_bl_non, eqn_bl_str, eqn_bl_lst, eqn_bl_tup, eqn_bl_dic, eqvs, atI_lit, cdiv_lit, cmul_r, cmul_l, cpow_lit, nrm_dat, nrm_ref, plN, plAll, rd_dat, rd_ref, rds_nil, rds_cons, rds_map, rdk_nil, rdk_cons,               isNon, tyNames, kbs,
    Option.map_some, Option.map_none, Option.isSome_some, List.getD_cons_zero, List.getD_cons_succ, List.getD_nil, get_app, get_app0, set_app, set_app0, List.length_append, List.append_assoc, List.any_cons, List.any_nil, List.zip_cons_cons, List.zip_nil_left, List.zip_nil_right,
    List.map_cons, List.map_nil, List.cons_append, List.nil_append, List.append_nil, List.length_cons, List.length_nil, List.replicate, List.set_cons_zero, List.set_cons_succ, List.getElem?_cons_zero, List.getElem?_cons_succ, List.set_nil, List.getElem?_nil,
    Nat.reduceAdd, Nat.reduceSub, Nat.reduceBEq, Nat.reduceLeDiff, Nat.reduceEqDiff, Nat.sub_self, Nat.zero_add, Nat.add_zero, Nat.zero_le, Nat.le_add_right, Nat.le_refl, Int.reduceToNat, Int.reduceLE, Nat.reduceLT, Nat.reducePow, Int.reducePow, Int.reduceNeg, or_true, true_or, Int.reduceLT, Bool.false_eq_true, if_true, if_false, forall_const, false_implies, true_implies, implies_true, Int.reduceEq, cast_lit, not_true_eq_false, not_false_eq_true, Bool.not_true, Bool.not_false, Bool.not_eq_true', Bool.not_eq_false', Bool.and_true, Bool.true_and, Bool.and_false, Bool.false_and, Bool.or_false, Bool.false_or, Bool.or_true, Bool.true_or, reduceCtorEq, false_and, and_false, or_false, false_or, beq_self_eq_true,
    Option.some.injEq, Prod.mk.injEq, Rv.dat.injEq, Rv.ref.injEq, D.int.injEq, D.bl.injEq, D.str.injEq, D.tup.injEq, D.lst.injEq, D.dic.injEq, D.scr.injEq, List.cons.injEq, and_true, true_and, exists_and_left, exists_and_right, exists_eq_left, exists_eq_left', exists_eq_right, exists_eq_right', exists_eq, exists_eq', exists_const, decide_eq_true_eq, decide_eq_false_iff_not, Bool.and_eq_true, beq_iff_eq, beq_eq_false_iff_ne, ne_eq, decide_true, decide_false, hdR_len, stR_len, hdR_24, hdR_25, hdR_26, hdR_27, hdR_28, hdR_29, hdR_30, stR_16, stR_18, stR_19, stR_20, stR_21, stR_22, stR_23, hdP_25, hdP_26, hdP_27, hdP_28, hdP_29, hdP_30, stP_16, stP_19, stP_20, stP_21, stP_22, stP_23, hdD, List.length_set, set_two, denc_push, denc_swap, denc_pop, denc_top, denc_clear, eqv_optN, plN_optN, isNon_optN, optN_some, optN_none, seenD_some, seenD_none, items_pair, items_vals, phk, kdk, List.getElem?_set_self, List.getElem?_set_ne, List.getElem?_append_left, ltaddr, boxD, cDict, *])
abbrev fn_p_step_walk : List Str := ["next_deed"]
def b_p_step_walk_0 : DW.Ss := (.cons (.ite (.and (.cmp .eq (.ix .t (.var 6) (.int 0)) (.var 1)) (.one (.cmp .eq (.ix .t (.var 6) (.int 1)) (.ix .k (.var 2) (.str 25))))) (.cons (.set 6 (.bin .catT (.slT (.var 6) false .non true (.int 5)) (.tup (.cons (.ix .k (.var 0) (.str 23)) (.cons (.bi .tup1 (.cons (.ix .k (.var 2) (.str 29)) .nil)) .nil)))))
  .nil) .nil)
  (.cons (.expr (.app (.var 5) (.var 6)))
  .nil))
def b_p_step_walk_1 : DW.Ss := (.cons (.setKey (.var 0) (.str 22) (.var 5))
  (.cons (.expr (.call 0 (.cons (.var 2) .nil)))
  .nil))
def b_p_step_walk_2 : DW.Ss := (.cons (.ret (.tup (.cons (.str 10) (.cons (.var 3) (.cons (.ix .t (.var 4) (.int 0)) (.cons (.ix .t (.var 4) (.int 1)) .nil))))))
  .nil)
def m_p_step_walk : DW.Ss := (.cons (.set 3 (.ix .k (.var 2) (.str 27)))
  (.cons (.set 4 (.ix .l (.ix .k (.var 0) (.str 20)) (.var 3)))
  (.cons (.expr (.app (.ix .k (.var 2) (.str 29)) (.ix .t (.var 4) (.int 0))))
  (.cons (.setKey (.var 2) (.str 27) (.ix .t (.var 4) (.int 1)))
  (.cons (.expr (.app (.ix .k (.var 0) (.str 16)) (.var 3)))
  (.cons (.ite (.cmp .isN (.ix .t (.var 4) (.int 1)) .non) (.cons (.set 5 (.lst .nil))
  (.cons (.for_ (.name 6) .list (.ix .k (.var 0) (.str 22)) .non b_p_step_walk_0)
  b_p_step_walk_1)) .nil)
  b_p_step_walk_2))))))
abbrev Ss_p_step_walk : List SpD := [S_p_next_deed]
theorem cut5 {a b c d e f h : D} : cutL [a, b, c, d, e, f, h] none (some 5) = [a, b, c, d, e] := rfl
theorem six5 : ¬(HT.sIx 7 0 none = 0 ∧ HT.sIx 7 7 (some 5) = 7) := by decide
def S_p_step_walk : SpD := fun rs g Q => ∃ (v : Vw) (s : St) (hd : Hand), rs = [.ref v.cs, .dat (.int (v.n : Int)), .ref v.ch] ∧ (Mem g v s hd ∧ WfT s.time s ∧ HOk s.boxes.length s.time hd ∧ hd.ph = .walk ∧ s.time ≤ 100000 ∧ Post g v (stepWalk s hd v.n) Q)
theorem mo_p_step_walk : Mono S_p_step_walk := by
  rintro rs g P P2 h ⟨v, s, hd, eRS, q⟩
  refine ⟨v, s, hd, eRS, ?_⟩
  exact ⟨q.1, q.2.1, q.2.2.1, q.2.2.2.1, q.2.2.2.2.1, fun g' v' h1 h2 => h _ _ (q.2.2.2.2.2 g' v' h1 h2)⟩
theorem len_p_step_walk : ∀ rs g Q, S_p_step_walk rs g Q → rs.length = 3 := by
  rintro rs g Q ⟨v, s, hd, rfl, q⟩
  rfl
theorem hS_p_step_walk : ∀ rs g Q, S_p_step_walk rs g Q → m_p_step_walk.W (wd Ss_p_step_walk glF dtF) (rs.map some ++ List.replicate (7 - rs.length) none) g (fun _ g2 => Fin g Q (.dat .non) g2) (Fin g Q) := by
  rintro rs g Q ⟨v, s, hd, rfl, q⟩
  unfold m_p_step_walk
  obtain ⟨m, w, k, hph, ht, q⟩ := q
  have hal := m.all
  have hnes := m.nes
  have hlt := k.lt (by rw [hph]; decide)
  have hde := deed_at hlt
  have hnr := w.nr
  have hnb := w.nb
  have hns := w.ns
  have hp := k.ph
  unfold PhOk at hp; rw [hph] at hp; dsimp only at hp
  obtain ⟨hp0, hdd, ho, l, hg⟩ := hp
  clear hp0
  have hns2 : s.spare.length < 1000000 := by omega
  have hsz := k.size
  rw [hg] at hsz
  simp only [Got.list] at hsz
  have hgl : l.length < 1000000 := by omega
  have hos := own_some ho
  have hol := own_lt k ho
  have hio := inside_at hol
  cases hi : (s.inside hd.own).2 with
  | some b =>
    rw [walk_on (by rw [hi]; simp), hi, hg] at q
    walk_at "dwh"
    unfold b_p_step_walk_2
    walk_at "dwh"
    have z := fin_mk q (((m.mg.gw (.vals (l ++ [(s.inside hd.own).1]))).hw { hd with got := .vals (l ++ [(s.inside hd.own).1]), box := some b } rfl).sp_app hd.own)
    unfold handL at z
    dsimp only [Got.items] at z
    rw [hph, List.map_append, List.map_append] at z
    exact z
  | none =>
    rw [walk_end hi, hi, hg] at q
    walk_at "dwh"
    have z := ((m.mg.gw (.vals (l ++ [(s.inside hd.own).1]))).hw { hd with got := .vals (l ++ [(s.inside hd.own).1]), box := none } rfl).sp_app hd.own
    unfold handL at z
    dsimp only [Got.items] at z
    rw [hph, List.map_append, List.map_append] at z
    have loop : ∀ Gx, MG g v Gx v (s.free hd.own) { hd with got := .vals (l ++ [(s.inside hd.own).1]), box := none, ph := .walk } → Gx.length = g.length → WLoop (Tg.name 6) (Ss.W (wd Ss_p_step_walk glF dtF) b_p_step_walk_0) (List.map Rv.dat (List.map MRow.enc s.rows))
      (fun g' =>
        (match g'[v.cr]? with
          | some (Cell.lst rs) => some rs
          | some (Cell.fz (D.lst ds)) => some (List.map Rv.dat ds)
          | x => none) =
          some (List.map Rv.dat (List.map MRow.enc s.rows)))
      [some (Rv.ref v.cs), some (Rv.dat (D.int ↑v.n)), some (Rv.ref v.ch), some (Rv.dat (D.int ↑hd.own)),
        some (Rv.dat (D.tup [D.int (s.inside hd.own).fst, D.non])), some (Rv.ref (List.length g)), none]
      (Gx ++ [Cell.lst []])
      (fun env g_1 =>
        Ss.W (wd Ss_p_step_walk glF dtF) b_p_step_walk_1 env g_1
          (fun env g_2 =>
            Ss.W (wd Ss_p_step_walk glF dtF) b_p_step_walk_2 env g_2 (fun x g2 => Fin g Q (Rv.dat D.non) g2) (Fin g Q))
          (Fin g Q))
      (Fin g Q) := by
      intro Gx z hl
      clear hal hnes hg hos hi hio
      rw [← hl]
      have hgl2 : g.length ≤ Gx.length := Nat.le_of_eq hl.symm
      clear hl
      refine wloop (fun k env g2 => ∃ x6 : Option Rv, env = [some (.ref v.cs), some (.dat (.int v.n)), some (.ref v.ch), some (.dat (.int hd.own)), some (.dat (.tup [.int (s.inside hd.own).fst, .non])), some (.ref Gx.length), x6] ∧
        g2 = Gx ++ [.lst ((((s.rows.take k).map (endRow v.n hd.at_ s.time (l ++ [(s.inside hd.own).1]))).map MRow.enc).map Rv.dat)] ∧ k ≤ s.rows.length) ⟨none, rfl, rfl, Nat.zero_le _⟩ ?_ ?_ ?_
      · rintro k env g2 ⟨x6, _, rfl, _⟩
        rw [List.getElem?_append_left (lt_of_some z.m.rw), z.m.rw]; rfl
      · rintro k r env g2 hkr ⟨x6, rfl, rfl, hk⟩
        rw [List.getElem?_map, List.getElem?_map] at hkr
        obtain ⟨d, hkr1, e1⟩ := Option.map_eq_some_iff.mp hkr
        obtain ⟨row, hkr2, e2⟩ := Option.map_eq_some_iff.mp hkr1
        subst e2; subst e1
        clear hkr hkr1
        refine ⟨_, rfl, ?_⟩
        have hal := z.m.all
        have hnes := z.m.nes
        have her : row.enc = .tup [.int (row.hand : Int), .int (row.at_ : Int), row.deed.enc, .int (row.begun : Int), .int (row.point : Int), optN row.ended, row.ans.enc] := rfl
        have hkl := (List.getElem?_eq_some_iff.mp hkr2).1
        have htl : (List.take k s.rows).length < 1000000 := by rw [List.length_take]; omega
        have htk : s.rows.take (k + 1) = s.rows.take k ++ [row] := by rw [List.take_add_one, hkr2]; rfl
        unfold b_p_step_walk_0
        walk_at "dwh"
        rw [cut5, List.map_append (f := endRow v.n hd.at_ s.time (l ++ [(s.inside hd.own).1])), List.map_append (f := MRow.enc), List.map_append (f := Rv.dat), List.map_singleton]
        refine ⟨fun h1 => ⟨fun h2 => ⟨six5, (l ++ [(s.inside hd.own).1]).map D.int, rfl, by simp, by simp, ?_, hkl⟩, fun h2 => ⟨?_, hkl⟩⟩, fun h1 => ⟨?_, hkl⟩⟩
        · have e : endRow v.n hd.at_ s.time (l ++ [(s.inside hd.own).1]) row = { row with ended := some s.time, ans := .tup (l ++ [(s.inside hd.own).1]) } := by unfold endRow; rw [if_pos ⟨by omega, by omega⟩]
          rw [e]; rfl
        · have e : endRow v.n hd.at_ s.time (l ++ [(s.inside hd.own).1]) row = row := by unfold endRow; rw [if_neg fun z => h2 (by rw [z.2])]
          rw [e]; rfl
        · have e : endRow v.n hd.at_ s.time (l ++ [(s.inside hd.own).1]) row = row := by unfold endRow; rw [if_neg fun z => h1 (by rw [z.1])]
          rw [e]; rfl
      · rintro env g2 ⟨x6, rfl, rfl, hk⟩
        have hal := z.m.all
        have hnes := z.m.nes
        unfold b_p_step_walk_1
        rw [List.length_map, List.length_map, List.take_length] at *
        walk_at "dwh"
        have z2 := z.qw (s.rows.map (endRow v.n hd.at_ s.time (l ++ [(s.inside hd.own).1]))) _ rfl
        refine ⟨{ v with cr := Gx.length }, _, _, rfl, z2.m, fun g1 v1 m1 k1 => ?_⟩
        unfold b_p_step_walk_2
        walk_at "dwh"
        exact fin_mk q (z2.on m1 k1)
    exact loop _ z (by simp only [List.length_set])

end DW

/-! ## F_p_step_of.lean -/
set_option Elab.async false
set_option linter.all false
set_option maxRecDepth 100000
set_option maxHeartbeats 4000000
set_option autoImplicit false
namespace DW
open PySem PySem.Spec L2
open PyProof.Rows hiding St

local macro_rules | `(tactic| walk_at "dw") => `(tactic| simp (config := { maxSteps := 1000000 }) only [and_assoc, natD, mapint_inj, mapnat_inj, denc_inj, wfor_eq, ixD, ixM, cut_one, List.tail_cons, List.tail_nil, eqvs_nil, List.isEmpty_cons, List.isEmpty_nil, plAll_int, plAll_nat, Ss.W, Sm.W, Ex.W, Ex.T, Es.W, wVar, BOp.B, COp.B, Bi.B, IxK.B, bI0, bIC, bEq, bIs, bIn, bIxL, bIxT, bIxS, bIxK, bCat, bCatT, bRep, cLen, cInt, cMin2, cList, cTup, wantB, wAndT, wOrT, wAndV, wOrV, wNotV, lenOf, lstOf_ref, lstOf_lst, seqOf, dicOf_ref, dicOf_dic, wPart, wIter, tstW, mAppend, mPop, mPopAt, mClear, wSetIx, wSetKey, Tg.put, wipeN, Cell.lst.injEq, Cell.dic.injEq, Cell.fz.injEq, List.length_map, tyR, tyD,
    eqv_ii, eqv_ss, eqv_bb, eqv_nn, eqv_ll, eqv_tt, eqn_non_int, eqn_non_str, eqn_non_lst, eqn_non_tup, eqn_non_bl, eqn_non_dic, eqn_int_non, eqn_int_str, eqn_int_lst, eqn_int_tup, eqn_int_dic, eqn_str_non, eqn_str_int, eqn_str_lst, eqn_str_tup, eqn_str_bl, eqn_str_dic, eqn_lst_non, eqn_lst_int, eqn_lst_str, eqn_lst_tup, eqn_lst_bl, eqn_lst_dic, eqn_tup_non, eqn_tup_int, eqn_tup_str, eqn_tup_lst, eqn_tup_bl, eqn_tup_dic, eqn_bl_non, eqn_bl_str, eqn_bl_lst, eqn_bl_tup, eqn_bl_dic, eqvs, atI_lit, cdiv_lit, cmul_r, cmul_l, cpow_lit, nrm_dat, nrm_ref, plN, plAll, rd_dat, rd_ref, rds_nil, rds_cons, rds_map, rdk_nil, rdk_cons, wFrz, frz1, wFrzL, frzs, datsN, datsN_map, datsK, isNon, tyNames, kbs,
    Option.map_some, Option.map_none, Option.isSome_some, List.getD_cons_zero, List.getD_cons_succ, List.getD_nil, get_app, get_app0, set_app, set_app0, List.length_append, List.append_assoc, List.any_cons, List.any_nil, List.zip_cons_cons, List.zip_nil_left, List.zip_nil_right,
    List.map_cons, List.map_nil, List.cons_append, List.nil_append, List.append_nil, List.length_cons, List.length_nil, List.replicate, List.set_cons_zero, List.set_cons_succ, List.getElem?_cons_zero, List.getElem?_cons_succ, List.set_nil, List.getElem?_nil,
    Nat.reduceAdd, Nat.reduceSub, Nat.reduceBEq, Nat.reduceLeDiff, Nat.reduceEqDiff, Nat.sub_self, Nat.zero_add, Nat.add_zero, Nat.zero_le, Nat.le_add_right, Nat.le_refl, Int.reduceToNat, Int.reduceLE, Nat.reduceLT, Nat.reducePow, Int.reducePow, Int.reduceNeg, or_true, true_or, Int.reduceLT, Bool.false_eq_true, if_true, if_false, forall_const, false_implies, true_implies, implies_true, Int.reduceEq, cast_lit, not_true_eq_false, not_false_eq_true, Bool.not_true, Bool.not_false, Bool.not_eq_true', Bool.not_eq_false', Bool.and_true, Bool.true_and, Bool.and_false, Bool.false_and, Bool.or_false, Bool.false_or, Bool.or_true, Bool.true_or, reduceCtorEq, false_and, and_false, or_false, false_or, beq_self_eq_true,
    Option.some.injEq, Prod.mk.injEq, Rv.dat.injEq, Rv.ref.injEq, D.int.injEq, D.bl.injEq, D.str.injEq, D.tup.injEq, D.lst.injEq, D.dic.injEq, D.scr.injEq, List.cons.injEq, and_true, true_and, exists_and_left, exists_and_right, exists_eq_left, exists_eq_left', exists_eq_right, exists_eq_right', exists_eq, exists_eq', exists_const, decide_eq_true_eq, decide_eq_false_iff_not, Bool.and_eq_true, beq_iff_eq, beq_eq_false_iff_ne, ne_eq, decide_true, decide_false, hdR_len, stR_len, hdR_24, hdR_25, hdR_26, hdR_27, hdR_28, hdR_29, hdR_30, stR_16, stR_18, stR_19, stR_20, stR_21, stR_22, stR_23, hdP_25, hdP_26, hdP_27, hdP_28, hdP_29, hdP_30, stP_16, stP_19, stP_20, stP_21, stP_22, stP_23, hdD, List.length_set, set_two, denc_push, denc_swap, denc_pop, denc_top, denc_clear, eqv_optN, plN_optN, isNon_optN, optN_some, optN_none, seenD_some, seenD_none, items_pair, items_vals, phk, kdk, List.getElem?_set_self, List.getElem?_set_ne, List.getElem?_append_left, ltaddr, boxD, cDict])
local macro_rules | `(tactic| walk_at "dwh") => `(tactic| simp (config := { maxSteps := 1000000 }) only [and_assoc, natD, mapint_inj, mapnat_inj, denc_inj, wfor_eq, ixD, ixM, cut_one, List.tail_cons, List.tail_nil, eqvs_nil, List.isEmpty_cons, List.isEmpty_nil, plAll_int, plAll_nat, Ss.W, Sm.W, Ex.W, Ex.T, Es.W, wVar, BOp.B, COp.B, Bi.B, IxK.B, bI0, bIC, bEq, bIs, bIn, bIxL, bIxT, bIxS, bIxK, bCat, bCatT, bRep, cLen, cInt, cMin2, cList, cTup, wantB, wAndT, wOrT, wAndV, wOrV, wNotV, lenOf, lstOf_ref, lstOf_lst, seqOf, dicOf_ref, dicOf_dic, wPart, wIter, tstW, mAppend, mPop, mPopAt, mClear, wSetIx, wSetKey, Tg.put, wipeN, Cell.lst.injEq, Cell.dic.injEq, Cell.fz.injEq, List.length_map, tyR, tyD,
    eqv_ii, eqv_ss, eqv_bb, eqv_nn, eqv_ll, eqv_tt, eqn_non_int, eqn_non_str, eqn_non_lst, eqn_non_tup, eqn_non_bl, eqn_non_dic, eqn_int_non, eqn_int_str, eqn_int_lst, eqn_int_tup, eqn_int_dic, eqn_str_non, eqn_str_int, eqn_str_lst, eqn_str_tup, eqn_str_bl, eqn_str_dic, eqn_lst_non, eqn_lst_int, eqn_lst_str, eqn_lst_tup, eqn_lst_bl, eqn_lst_dic, eqn_tup_non, eqn_tup_int, eqn_tup_str, eqn_tup_lst, eqn_tup_bl, eqn_tup_dic, eqn_bl_non, eqn_bl_str, eqn_bl_lst, eqn_bl_tup, eqn_bl_dic, eqvs, atI_lit, cdiv_lit, cmul_r, cmul_l, cpow_lit, nrm_dat, nrm_ref, plN, plAll, rd_dat, rd_ref, rds_nil, rds_cons, rds_map, rdk_nil, rdk_cons, wFrz, frz1, wFrzL, frzs, datsN, datsN_map, datsK, isNon, tyNames, kbs,
    Option.map_some, Option.map_none, Option.isSome_some, List.getD_cons_zero, List.getD_cons_succ, List.getD_nil, get_app, get_app0, set_app, set_app0, List.length_append, List.append_assoc, List.any_cons, List.any_nil, List.zip_cons_cons, List.zip_nil_left, List.zip_nil_right,
    List.map_cons, List.map_nil, List.cons_append, List.nil_append, List.append_nil, List.length_cons, List.length_nil, List.replicate, List.set_cons_zero, List.set_cons_succ, List.getElem?_cons_zero, List.getElem?_cons_succ, List.set_nil, List.getElem?_nil,
    Nat.reduceAdd, Nat.reduceSub, Nat.reduceBEq, Nat.reduceLeDiff, Nat.reduceEqDiff, Nat.sub_self, Nat.zero_add, Nat.add_zero, Nat.zero_le, Nat.le_add_right, Nat.le_refl, Int.reduceToNat, Int.reduceLE, Nat.reduceLT, Nat.reducePow, Int.reducePow, Int.reduceNeg, or_true, true_or, Int.reduceLT, Bool.false_eq_true, if_true, if_false, forall_const, false_implies, true_implies, implies_true, Int.reduceEq, cast_lit, not_true_eq_false, not_false_eq_true, Bool.not_true, Bool.not_false, Bool.not_eq_true', Bool.not_eq_false', Bool.and_true, Bool.true_and, Bool.and_false, Bool.false_and, Bool.or_false, Bool.false_or, Bool.or_true, Bool.true_or, reduceCtorEq, false_and, and_false, or_false, false_or, beq_self_eq_true,
    Option.some.injEq, Prod.mk.injEq, Rv.dat.injEq, Rv.ref.injEq, D.int.injEq, D.bl.injEq, D.str.injEq, D.tup.injEq, D.lst.injEq, D.dic.injEq, D.scr.injEq, List.cons.injEq, and_true, true_and, exists_and_left, exists_and_right, exists_eq_left, exists_eq_left', exists_eq_right, exists_eq_right', exists_eq, exists_eq', exists_const, decide_eq_true_eq, decide_eq_false_iff_not, Bool.and_eq_true, beq_iff_eq, beq_eq_false_iff_ne, ne_eq, decide_true, decide_false, hdR_len, stR_len, hdR_24, hdR_25, hdR_26, hdR_27, hdR_28, hdR_29, hdR_30, stR_16, stR_18, stR_19, stR_20, stR_21, stR_22, stR_23, hdP_25, hdP_26, hdP_27, hdP_28, hdP_29, hdP_30, stP_16, stP_19, stP_20, stP_21, stP_22, stP_23, hdD, List.length_set, set_two, denc_push, denc_swap, denc_pop, denc_top, denc_clear, eqv_optN, plN_optN, isNon_optN, optN_some, optN_none, seenD_some, seenD_none, items_pair, items_vals, phk, kdk, List.getElem?_set_self, List.getElem?_set_ne, List.getElem?_append_left, ltaddr, boxD, cDict, *])
local macro_rules | `(tactic| walk_at "dwf") => `(tactic| simp (config := { maxSteps := 1000000 }) only [and_assoc, natD, mapint_inj, mapnat_inj, denc_inj, wfor_eq, ixD, ixM, cut_one, List.tail_cons, List.tail_nil, eqvs_nil, List.isEmpty_cons, List.isEmpty_nil, plAll_int, plAll_nat, Ss.W, Sm.W, Ex.W, Ex.T, Es.W, wVar, BOp.B, COp.B, Bi.B, IxK.B, bI0, bIC, bEq, bIs, bIn, bIxL, bIxT, bIxS, bIxK, bCat, bCatT, bRep, cLen, cInt, cMin2, cList, cTup, wantB, wAndT, wOrT, wAndV, wOrV, wNotV, lenOf, lstOf_ref, lstOf_lst, seqOf, dicOf_ref, dicOf_dic, wPart, wIter, tstW, mAppend, mPop, mPopAt, mClear, wSetIx, wSetKey, Tg.put, wipeN, Cell.lst.injEq, Cell.dic.injEq, Cell.fz.injEq, List.length_map, tyR, tyD,
    eqv_ii, eqv_ss, eqv_bb, eqv_nn, eqv_ll, eqv_tt, eqn_non_int, eqn_non_str, eqn_non_lst, eqn_non_tup, eqn_non_bl, eqn_non_dic, eqn_int_non, eqn_int_str, eqn_int_lst, eqn_int_tup, eqn_int_dic, eqn_str_non, eqn_str_int, eqn_str_lst, eqn_str_tup, eqn_str_bl, eqn_str_dic, eqn_lst_non, eqn_lst_int, eqn_lst_str, eqn_lst_tup, eqn_lst_bl, eqn_lst_dic, eqn_tup_non, eqn_tup_int, eqn_tup_str, eqn_tup_lst, eqn_tup_bl, eqn_tup_dic, eqn_bl_non, eqn_bl_str, eqn_bl_lst, eqn_bl_tup, eqn_bl_dic, eqvs, atI_lit, cdiv_lit, cmul_r, cmul_l, cpow_lit, nrm_dat, nrm_ref, plN, plAll, rd_dat, rd_ref, rds_nil, rds_cons, rds_map, rdk_nil, rdk_cons,               isNon, tyNames, kbs,
    Option.map_some, Option.map_none, Option.isSome_some, List.getD_cons_zero, List.getD_cons_succ, List.getD_nil, get_app, get_app0, set_app, set_app0, List.length_append, List.append_assoc, List.any_cons, List.any_nil, List.zip_cons_cons, List.zip_nil_left, List.zip_nil_right,
    List.map_cons, List.map_nil, List.cons_append, List.nil_append, List.append_nil, List.length_cons, List.length_nil, List.replicate, List.set_cons_zero, List.set_cons_succ, List.getElem?_cons_zero, List.getElem?_cons_succ, List.set_nil, List.getElem?_nil,
    Nat.reduceAdd, Nat.reduceSub, Nat.reduceBEq, Nat.reduceLeDiff, Nat.reduceEqDiff, Nat.sub_self, Nat.zero_add, Nat.add_zero, Nat.zero_le, Nat.le_add_right, Nat.le_refl, Int.reduceToNat, Int.reduceLE, Nat.reduceLT, Nat.reducePow, Int.reducePow, Int.reduceNeg, or_true, true_or, Int.reduceLT, Bool.false_eq_true, if_true, if_false, forall_const, false_implies, true_implies, implies_true, Int.reduceEq, cast_lit, not_true_eq_false, not_false_eq_true, Bool.not_true, Bool.not_false, Bool.not_eq_true', Bool.not_eq_false', Bool.and_true, Bool.true_and, Bool.and_false, Bool.false_and, Bool.or_false, Bool.false_or, Bool.or_true, Bool.true_or, reduceCtorEq, false_and, and_false, or_false, false_or, beq_self_eq_true,
    Option.some.injEq, Prod.mk.injEq, Rv.dat.injEq, Rv.ref.injEq, D.int.injEq, D.bl.injEq, D.str.injEq, D.tup.injEq, D.lst.injEq, D.dic.injEq, D.scr.injEq, List.cons.injEq, and_true, true_and, exists_and_left, exists_and_right, exists_eq_left, exists_eq_left', exists_eq_right, exists_eq_right', exists_eq, exists_eq', exists_const, decide_eq_true_eq, decide_eq_false_iff_not, Bool.and_eq_true, beq_iff_eq, beq_eq_false_iff_ne, ne_eq, decide_true, decide_false, hdR_len, stR_len, hdR_24, hdR_25, hdR_26, hdR_27, hdR_28, hdR_29, hdR_30, stR_16, stR_18, stR_19, stR_20, stR_21, stR_22, stR_23, hdP_25, hdP_26, hdP_27, hdP_28, hdP_29, hdP_30, stP_16, stP_19, stP_20, stP_21, stP_22, stP_23, hdD, List.length_set, set_two, denc_push, denc_swap, denc_pop, denc_top, denc_clear, eqv_optN, plN_optN, isNon_optN, optN_some, optN_none, seenD_some, seenD_none, items_pair, items_vals, phk, kdk, List.getElem?_set_self, List.getElem?_set_ne, List.getElem?_append_left, ltaddr, boxD, cDict, *])
abbrev fn_p_step_of : List Str := ["step_walk", "step_take", "step_look", "step_see", "step_check", "step_put"]
def b_p_step_of_0 : DW.Ss := (.cons (.ret (.call 0 (.cons (.var 0) (.cons (.var 1) (.cons (.var 2) .nil)))))
  .nil)
def b_p_step_of_1 : DW.Ss := (.cons (.ite (.cmp .eq (.ix .k (.var 2) (.str 26)) (.str 11)) (.cons (.ret (.call 5 (.cons (.var 0) (.cons (.var 1) (.cons (.var 2) (.cons (.frz (.var 3)) .nil))))))
  .nil) .nil)
  b_p_step_of_0)
def b_p_step_of_2 : DW.Ss := (.cons (.ite (.cmp .eq (.ix .k (.var 2) (.str 26)) (.str 12)) (.cons (.ret (.call 4 (.cons (.var 0) (.cons (.var 1) (.cons (.var 2) .nil)))))
  .nil) .nil)
  b_p_step_of_1)
def b_p_step_of_3 : DW.Ss := (.cons (.ite (.cmp .eq (.ix .k (.var 2) (.str 26)) (.str 10)) (.cons (.ret (.call 3 (.cons (.var 0) (.cons (.var 2) (.cons (.frz (.var 3)) .nil)))))
  .nil) .nil)
  b_p_step_of_2)
def b_p_step_of_4 : DW.Ss := (.cons (.ite (.cmp .eq (.ix .k (.var 2) (.str 26)) (.str 9)) (.cons (.ret (.call 2 (.cons (.var 0) (.cons (.var 1) (.cons (.var 2) (.cons (.frz (.var 3)) .nil))))))
  .nil) .nil)
  b_p_step_of_3)
def b_p_step_of_5 : DW.Ss := (.cons (.ite (.cmp .eq (.ix .k (.var 2) (.str 26)) (.str 8)) (.cons (.ret (.call 1 (.cons (.var 0) (.cons (.var 2) (.cons (.frz (.var 3)) .nil)))))
  .nil) .nil)
  b_p_step_of_4)
def b_p_step_of_6 : DW.Ss := (.cons (.set 3 (.ix .l (.ix .k (.var 2) (.str 24)) (.ix .k (.var 2) (.str 25))))
  (.cons (.ite (.cmp .eq (.ix .k (.var 2) (.str 26)) (.str 31)) (.cons (.setKey (.var 2) (.str 26) (.tab 0 (.ix .t (.var 3) (.int 0))))
  (.cons (.setKey (.var 2) (.str 30) (.ix .k (.var 0) (.str 23)))
  .nil)) .nil)
  b_p_step_of_5))
def m_p_step_of : DW.Ss := (.cons (.set 2 (.ix .l (.ix .k (.var 0) (.str 21)) (.var 1)))
  (.cons (.ite (.cmp .eq (.ix .k (.var 2) (.str 25)) (.bi .len (.cons (.ix .k (.var 2) (.str 24)) .nil))) (.cons (.ret (.tup (.cons (.str 14) .nil)))
  .nil) .nil)
  b_p_step_of_6))
abbrev Ss_p_step_of : List SpD := [S_p_step_walk, S_p_step_take, S_p_step_look, S_p_step_see, S_p_step_check, S_p_step_put]
def S_p_step_of : SpD := fun rs g Q => ∃ (v : Vw) (s : St) (hd : Hand), rs = [.ref v.cs, .dat (.int (v.n : Int))] ∧ (Mem g v s hd ∧ WfT s.time s ∧ HOk s.boxes.length s.time hd ∧ s.time ≤ 100000 ∧ Post g v (stepOf s hd v.n) Q)
theorem mo_p_step_of : Mono S_p_step_of := by
  rintro rs g P P2 h ⟨v, s, hd, eRS, q⟩
  refine ⟨v, s, hd, eRS, ?_⟩
  exact ⟨q.1, q.2.1, q.2.2.1, q.2.2.2.1, fun g' v' h1 h2 => h _ _ (q.2.2.2.2 g' v' h1 h2)⟩
theorem len_p_step_of : ∀ rs g Q, S_p_step_of rs g Q → rs.length = 2 := by
  rintro rs g Q ⟨v, s, hd, rfl, q⟩
  rfl
theorem hS_p_step_of : ∀ rs g Q, S_p_step_of rs g Q → m_p_step_of.W (wd Ss_p_step_of glF dtF) (rs.map some ++ List.replicate (4 - rs.length) none) g (fun _ g2 => Fin g Q (.dat .non) g2) (Fin g Q) := by
  rintro rs g Q ⟨v, s, hd, rfl, q⟩
  unfold m_p_step_of
  obtain ⟨m, w, k, ht, q⟩ := q
  have hal := m.all
  have hnes := m.nes
  have hlk : ([(0, 8), (1, 8), (2, 9), (3, 9), (4, 9)] : List (Nat × Nat)).lookup 0 = some 8 ∧ ([(0, 8), (1, 8), (2, 9), (3, 9), (4, 9)] : List (Nat × Nat)).lookup 1 = some 8 ∧ ([(0, 8), (1, 8), (2, 9), (3, 9), (4, 9)] : List (Nat × Nat)).lookup 2 = some 9 ∧ ([(0, 8), (1, 8), (2, 9), (3, 9), (4, 9)] : List (Nat × Nat)).lookup 3 = some 9 ∧ ([(0, 8), (1, 8), (2, 9), (3, 9), (4, 9)] : List (Nat × Nat)).lookup 4 = some 9 := ⟨rfl, rfl, rfl, rfl, rfl⟩
  unfold stepOf at q
  by_cases hat : hd.at_ = hd.deeds.length
  · rw [if_pos hat] at q
    have hat2 : (hd.at_ : Int) = (hd.deeds.length : Int) := by omega
    clear hat
    walk_at "dwh"
    exact fin_mk q m.mg
  · rw [if_neg hat] at q
    have hlt : hd.at_ < hd.deeds.length := Nat.lt_of_le_of_ne k.le hat
    have hat2 : ¬ (hd.at_ : Int) = (hd.deeds.length : Int) := by omega
    have hde := deed_at hlt
    obtain ⟨kb, -⟩ := begin_ok k hlt
    clear hat
    walk_at "dwh"
    unfold b_p_step_of_6
    walk_at "dwh"
    refine ⟨fun h31 => ?_, fun h31 => ?_⟩
    · have hph : hd.ph = .idle := by revert h31; cases hd.ph <;> simp [Ph.k]
      have hb : ∀ p, (if hd.deed.own = true then Ph.take else Ph.look) = p → hd.begin s.time = { hd with ph := p, begun := s.time } := fun p hp => by unfold Hand.begin; rw [if_pos hph, hp]
      have hp := k.ph
      unfold PhOk at hp; rw [hph] at hp; dsimp only at hp
      have take : hd.deed.own = true → S_p_step_take [Rv.ref v.cs, Rv.ref v.ch, Rv.dat hd.deed.enc] (g.set v.ch (Cell.dic (hdR (Rv.dat (D.lst (List.map Deed.enc hd.deeds))) (Rv.dat (D.int ↑hd.at_)) (Rv.dat (D.str 8)) (Rv.dat (optN hd.box)) (Rv.dat (seenD hd.seen)) (Rv.ref v.cg) (Rv.dat (D.int ↑s.time))))) (Fin g Q) := fun ho => by
        have e := hb .take (by rw [if_pos ho])
        rw [e] at q kb
        have z := m.mg.hw { hd with ph := .take, begun := s.time } rfl
        exact ⟨v, s, { hd with ph := .take, begun := s.time }, rfl, z.m, w, kb, rfl, ht, fun g1 v1 m1 k1 => fin_go (z.on m1 k1).k (q g1 v1 m1 (z.on m1 k1).k)⟩
      have look : hd.deed.own = false → S_p_step_look [Rv.ref v.cs, Rv.dat (D.int ↑v.n), Rv.ref v.ch, Rv.dat hd.deed.enc] (g.set v.ch (Cell.dic (hdR (Rv.dat (D.lst (List.map Deed.enc hd.deeds))) (Rv.dat (D.int ↑hd.at_)) (Rv.dat (D.str 9)) (Rv.dat (optN hd.box)) (Rv.dat (seenD hd.seen)) (Rv.ref v.cg) (Rv.dat (D.int ↑s.time))))) (Fin g Q) := fun ho => by
        have e := hb .look (by rw [if_neg (by rw [ho]; decide)])
        rw [e] at q kb
        have z := m.mg.hw { hd with ph := .look, begun := s.time } rfl
        exact ⟨v, s, { hd with ph := .look, begun := s.time }, rfl, z.m, w, kb, rfl, ht, fun g1 v1 m1 k1 => fin_go (z.on m1 k1).k (q g1 v1 m1 (z.on m1 k1).k)⟩
      clear hb hp q kb hph
      cases hdd : hd.deed <;> rw [hdd] at take look <;> walk_at "dwh" <;> unfold b_p_step_of_5 <;> walk_at "dwh"
      · exact take rfl
      · exact take rfl
      all_goals unfold b_p_step_of_4
      all_goals walk_at "dwh"
      all_goals exact look rfl
    · have e : hd.begin s.time = hd := by unfold Hand.begin; rw [if_neg fun z => h31 (by rw [z]; rfl)]
      rw [e] at q
      dsimp only at q
      unfold b_p_step_of_5
      cases hph : hd.ph with
      | idle => exact absurd (by rw [hph]; rfl) h31
      | take =>
        rw [hph] at q
        clear h31
        walk_at "dwh"
        exact ⟨v, s, hd, rfl, m, w, k, hph, ht, fun g1 v1 m1 k1 => fin_go k1 (q g1 v1 m1 k1)⟩
      | look =>
        rw [hph] at q
        clear h31
        walk_at "dwh"
        unfold b_p_step_of_4
        walk_at "dwh"
        exact ⟨v, s, hd, rfl, m, w, k, hph, ht, fun g1 v1 m1 k1 => fin_go k1 (q g1 v1 m1 k1)⟩
      | see =>
        rw [hph] at q
        clear h31
        walk_at "dwh"
        unfold b_p_step_of_4
        walk_at "dwh"
        unfold b_p_step_of_3
        walk_at "dwh"
        exact ⟨v, s, hd, rfl, m, w, k, hph, ht, fun g1 v1 m1 k1 => fin_go k1 (q g1 v1 m1 k1)⟩
      | check =>
        rw [hph] at q
        clear h31
        walk_at "dwh"
        unfold b_p_step_of_4
        walk_at "dwh"
        unfold b_p_step_of_3
        walk_at "dwh"
        unfold b_p_step_of_2
        walk_at "dwh"
        exact ⟨v, s, hd, rfl, m, w, k, hph, ht, fun g1 v1 m1 k1 => fin_go k1 (q g1 v1 m1 k1)⟩
      | put =>
        rw [hph] at q
        clear h31
        walk_at "dwh"
        unfold b_p_step_of_4
        walk_at "dwh"
        unfold b_p_step_of_3
        walk_at "dwh"
        unfold b_p_step_of_2
        walk_at "dwh"
        unfold b_p_step_of_1
        walk_at "dwh"
        exact ⟨v, s, hd, rfl, m, w, k, hph, ht, fun g1 v1 m1 k1 => fin_go k1 (q g1 v1 m1 k1)⟩
      | walk =>
        rw [hph] at q
        clear h31
        walk_at "dwh"
        unfold b_p_step_of_4
        walk_at "dwh"
        unfold b_p_step_of_3
        walk_at "dwh"
        unfold b_p_step_of_2
        walk_at "dwh"
        unfold b_p_step_of_1
        walk_at "dwh"
        unfold b_p_step_of_0
        walk_at "dwh"
        exact ⟨v, s, hd, rfl, m, w, k, hph, ht, fun g1 v1 m1 k1 => fin_go k1 (q g1 v1 m1 k1)⟩

end DW

/-! ## F_p_stepped.lean -/
set_option Elab.async false
set_option linter.all false
set_option maxRecDepth 100000
set_option maxHeartbeats 4000000
set_option autoImplicit false
namespace DW
open PySem PySem.Spec L2
open PyProof.Rows hiding St

local macro_rules | `(tactic| walk_at "dw") => `(tactic| simp (config := { maxSteps := 1000000 }) only [and_assoc, natD, mapint_inj, mapnat_inj, denc_inj, wfor_eq, ixD, ixM, cut_one, List.tail_cons, List.tail_nil, eqvs_nil, List.isEmpty_cons, List.isEmpty_nil, plAll_int, plAll_nat, Ss.W, Sm.W, Ex.W, Ex.T, Es.W, wVar, BOp.B, COp.B, Bi.B, IxK.B, bI0, bIC, bEq, bIs, bIn, bIxL, bIxT, bIxS, bIxK, bCat, bCatT, bRep, cLen, cInt, cMin2, cList, cTup, wantB, wAndT, wOrT, wAndV, wOrV, wNotV, lenOf, lstOf_ref, lstOf_lst, seqOf, dicOf_ref, dicOf_dic, wPart, wIter, tstW, mAppend, mPop, mPopAt, mClear, wSetIx, wSetKey, Tg.put, wipeN, Cell.lst.injEq, Cell.dic.injEq, Cell.fz.injEq, List.length_map, tyR, tyD,
    eqv_ii, eqv_ss, eqv_bb, eqv_nn, eqv_ll, eqv_tt, eqn_non_int, eqn_non_str, eqn_non_lst, eqn_non_tup, eqn_non_bl, eqn_non_dic, eqn_int_non, eqn_int_str, eqn_int_lst, eqn_int_tup, eqn_int_dic, eqn_str_non, eqn_str_int, eqn_str_lst, eqn_str_tup, eqn_str_bl, eqn_str_dic, eqn_lst_non, eqn_lst_int, eqn_lst_str, eqn_lst_tup, eqn_lst_bl, eqn_lst_dic, eqn_tup_non, eqn_tup_int, eqn_tup_str, eqn_tup_lst, eqn_tup_bl, eqn_tup_dic, eqn_bl_non, eqn_bl_str, eqn_bl_lst, eqn_bl_tup, eqn_bl_dic, eqvs, atI_lit, cdiv_lit, cmul_r, cmul_l, cpow_lit, nrm_dat, nrm_ref, plN, plAll, rd_dat, rd_ref, rds_nil, rds_cons, rds_map, rdk_nil, rdk_cons, wFrz, frz1, wFrzL, frzs, datsN, datsN_map, datsK, isNon, tyNames, kbs,
    Option.map_some, Option.map_none, Option.isSome_some, List.getD_cons_zero, List.getD_cons_succ, List.getD_nil, get_app, get_app0, set_app, set_app0, List.length_append, List.append_assoc, List.any_cons, List.any_nil, List.zip_cons_cons, List.zip_nil_left, List.zip_nil_right,
    List.map_cons, List.map_nil, List.cons_append, List.nil_append, List.append_nil, List.length_cons, List.length_nil, List.replicate, List.set_cons_zero, List.set_cons_succ, List.getElem?_cons_zero, List.getElem?_cons_succ, List.set_nil, List.getElem?_nil,
    Nat.reduceAdd, Nat.reduceSub, Nat.reduceBEq, Nat.reduceLeDiff, Nat.reduceEqDiff, Nat.sub_self, Nat.zero_add, Nat.add_zero, Nat.zero_le, Nat.le_add_right, Nat.le_refl, Int.reduceToNat, Int.reduceLE, Nat.reduceLT, Nat.reducePow, Int.reducePow, Int.reduceNeg, or_true, true_or, Int.reduceLT, Bool.false_eq_true, if_true, if_false, forall_const, false_implies, true_implies, implies_true, Int.reduceEq, cast_lit, not_true_eq_false, not_false_eq_true, Bool.not_true, Bool.not_false, Bool.not_eq_true', Bool.not_eq_false', Bool.and_true, Bool.true_and, Bool.and_false, Bool.false_and, Bool.or_false, Bool.false_or, Bool.or_true, Bool.true_or, reduceCtorEq, false_and, and_false, or_false, false_or, beq_self_eq_true,
    Option.some.injEq, Prod.mk.injEq, Rv.dat.injEq, Rv.ref.injEq, D.int.injEq, D.bl.injEq, D.str.injEq, D.tup.injEq, D.lst.injEq, D.dic.injEq, D.scr.injEq, List.cons.injEq, and_true, true_and, exists_and_left, exists_and_right, exists_eq_left, exists_eq_left', exists_eq_right, exists_eq_right', exists_eq, exists_eq', exists_const, decide_eq_true_eq, decide_eq_false_iff_not, Bool.and_eq_true, beq_iff_eq, beq_eq_false_iff_ne, ne_eq, decide_true, decide_false, hdR_len, stR_len, hdR_24, hdR_25, hdR_26, hdR_27, hdR_28, hdR_29, hdR_30, stR_16, stR_18, stR_19, stR_20, stR_21, stR_22, stR_23, hdP_25, hdP_26, hdP_27, hdP_28, hdP_29, hdP_30, stP_16, stP_19, stP_20, stP_21, stP_22, stP_23, hdD, List.length_set, set_two, denc_push, denc_swap, denc_pop, denc_top, denc_clear, eqv_optN, plN_optN, isNon_optN, optN_some, optN_none, seenD_some, seenD_none, items_pair, items_vals, phk, kdk, List.getElem?_set_self, List.getElem?_set_ne, List.getElem?_append_left, ltaddr, boxD, cDict])
local macro_rules | `(tactic| walk_at "dwh") => `(tactic| simp (config := { maxSteps := 1000000 }) only [and_assoc, natD, mapint_inj, mapnat_inj, denc_inj, wfor_eq, ixD, ixM, cut_one, List.tail_cons, List.tail_nil, eqvs_nil, List.isEmpty_cons, List.isEmpty_nil, plAll_int, plAll_nat, Ss.W, Sm.W, Ex.W, Ex.T, Es.W, wVar, BOp.B, COp.B, Bi.B, IxK.B, bI0, bIC, bEq, bIs, bIn, bIxL, bIxT, bIxS, bIxK, bCat, bCatT, bRep, cLen, cInt, cMin2, cList, cTup, wantB, wAndT, wOrT, wAndV, wOrV, wNotV, lenOf, lstOf_ref, lstOf_lst, seqOf, dicOf_ref, dicOf_dic, wPart, wIter, tstW, mAppend, mPop, mPopAt, mClear, wSetIx, wSetKey, Tg.put, wipeN, Cell.lst.injEq, Cell.dic.injEq, Cell.fz.injEq, List.length_map, tyR, tyD,
    eqv_ii, eqv_ss, eqv_bb, eqv_nn, eqv_ll, eqv_tt, eqn_non_int, eqn_non_str, eqn_non_lst, eqn_non_tup, eqn_non_bl, eqn_non_dic, eqn_int_non, eqn_int_str, eqn_int_lst, eqn_int_tup, eqn_int_dic, eqn_str_non, eqn_str_int, eqn_str_lst, eqn_str_tup, eqn_str_bl, eqn_str_dic, eqn_lst_non, eqn_lst_int, eqn_lst_str, eqn_lst_tup, eqn_lst_bl, eqn_lst_dic, eqn_tup_non, eqn_tup_int, eqn_tup_str, eqn_tup_lst, eqn_tup_bl, eqn_tup_dic, eqn_bl_non, eqn_bl_str, eqn_bl_lst, eqn_bl_tup, eqn_bl_dic, eqvs, atI_lit, cdiv_lit, cmul_r, cmul_l, cpow_lit, nrm_dat, nrm_ref, plN, plAll, rd_dat, rd_ref, rds_nil, rds_cons, rds_map, rdk_nil, rdk_cons, wFrz, frz1, wFrzL, frzs, datsN, datsN_map, datsK, isNon, tyNames, kbs,
    Option.map_some, Option.map_none, Option.isSome_some, List.getD_cons_zero, List.getD_cons_succ, List.getD_nil, get_app, get_app0, set_app, set_app0, List.length_append, List.append_assoc, List.any_cons, List.any_nil, List.zip_cons_cons, List.zip_nil_left, List.zip_nil_right,
    List.map_cons, List.map_nil, List.cons_append, List.nil_append, List.append_nil, List.length_cons, List.length_nil, List.replicate, List.set_cons_zero, List.set_cons_succ, List.getElem?_cons_zero, List.getElem?_cons_succ, List.set_nil, List.getElem?_nil,
    Nat.reduceAdd, Nat.reduceSub, Nat.reduceBEq, Nat.reduceLeDiff, Nat.reduceEqDiff, Nat.sub_self, Nat.zero_add, Nat.add_zero, Nat.zero_le, Nat.le_add_right, Nat.le_refl, Int.reduceToNat, Int.reduceLE, Nat.reduceLT, Nat.reducePow, Int.reducePow, Int.reduceNeg, or_true, true_or, Int.reduceLT, Bool.false_eq_true, if_true, if_false, forall_const, false_implies, true_implies, implies_true, Int.reduceEq, cast_lit, not_true_eq_false, not_false_eq_true, Bool.not_true, Bool.not_false, Bool.not_eq_true', Bool.not_eq_false', Bool.and_true, Bool.true_and, Bool.and_false, Bool.false_and, Bool.or_false, Bool.false_or, Bool.or_true, Bool.true_or, reduceCtorEq, false_and, and_false, or_false, false_or, beq_self_eq_true,
    Option.some.injEq, Prod.mk.injEq, Rv.dat.injEq, Rv.ref.injEq, D.int.injEq, D.bl.injEq, D.str.injEq, D.tup.injEq, D.lst.injEq, D.dic.injEq, D.scr.injEq, List.cons.injEq, and_true, true_and, exists_and_left, exists_and_right, exists_eq_left, exists_eq_left', exists_eq_right, exists_eq_right', exists_eq, exists_eq', exists_const, decide_eq_true_eq, decide_eq_false_iff_not, Bool.and_eq_true, beq_iff_eq, beq_eq_false_iff_ne, ne_eq, decide_true, decide_false, hdR_len, stR_len, hdR_24, hdR_25, hdR_26, hdR_27, hdR_28, hdR_29, hdR_30, stR_16, stR_18, stR_19, stR_20, stR_21, stR_22, stR_23, hdP_25, hdP_26, hdP_27, hdP_28, hdP_29, hdP_30, stP_16, stP_19, stP_20, stP_21, stP_22, stP_23, hdD, List.length_set, set_two, denc_push, denc_swap, denc_pop, denc_top, denc_clear, eqv_optN, plN_optN, isNon_optN, optN_some, optN_none, seenD_some, seenD_none, items_pair, items_vals, phk, kdk, List.getElem?_set_self, List.getElem?_set_ne, List.getElem?_append_left, ltaddr, boxD, cDict, *])
local macro_rules | `(tactic| walk_at "dwf") => `(tactic| simp (config := { maxSteps := 1000000 }) only [and_assoc, natD, mapint_inj, mapnat_inj, denc_inj, wfor_eq, ixD, ixM, cut_one, List.tail_cons, List.tail_nil, eqvs_nil, List.isEmpty_cons, List.isEmpty_nil, plAll_int, plAll_nat, Ss.W, Sm.W, Ex.W, Ex.T, Es.W, wVar, BOp.B, COp.B, Bi.B, IxK.B, bI0, bIC, bEq, bIs, bIn, bIxL, bIxT, bIxS, bIxK, bCat, bCatT, bRep, cLen, cInt, cMin2, cList, cTup, wantB, wAndT, wOrT, wAndV, wOrV, wNotV, lenOf, lstOf_ref, lstOf_lst, seqOf, dicOf_ref, dicOf_dic, wPart, wIter, tstW, mAppend, mPop, mPopAt, mClear, wSetIx, wSetKey, Tg.put, wipeN, Cell.lst.injEq, Cell.dic.injEq, Cell.fz.injEq, List.length_map, tyR, tyD,
    eqv_ii, eqv_ss, eqv_bb, eqv_nn, eqv_ll, eqv_tt, eqn_non_int, eqn_non_str, eqn_non_lst, eqn_non_tup, eqn_non_bl, eqn_non_dic, eqn_int_non, eqn_int_str, eqn_int_lst, eqn_int_tup, eqn_int_dic, eqn_str_non, eqn_str_int, eqn_str_lst, eqn_str_tup, eqn_str_bl, eqn_str_dic, eqn_lst_non, eqn_lst_int, eqn_lst_str, eqn_lst_tup, eqn_lst_bl, eqn_lst_dic, eqn_tup_non, eqn_tup_int, eqn_tup_str, eqn_tup_lst, eqn_tup_bl, eqn_tup_dic, eqn_bl_non, eqn_bl_str, eqn_bl_lst, eqn_bl_tup, eqn_bl_dic, eqvs, atI_lit, cdiv_lit, cmul_r, cmul_l, cpow_lit, nrm_dat, nrm_ref, plN, plAll, rd_dat, rd_ref, rds_nil, rds_cons, rds_map, rdk_nil, rdk_cons,               isNon, tyNames, kbs,
    Option.map_some, Option.map_none, Option.isSome_some, List.getD_cons_zero, List.getD_cons_succ, List.getD_nil, get_app, get_app0, set_app, set_app0, List.length_append, List.append_assoc, List.any_cons, List.any_nil, List.zip_cons_cons, List.zip_nil_left, List.zip_nil_right,
    List.map_cons, List.map_nil, List.cons_append, List.nil_append, List.append_nil, List.length_cons, List.length_nil, List.replicate, List.set_cons_zero, List.set_cons_succ, List.getElem?_cons_zero, List.getElem?_cons_succ, List.set_nil, List.getElem?_nil,
    Nat.reduceAdd, Nat.reduceSub, Nat.reduceBEq, Nat.reduceLeDiff, Nat.reduceEqDiff, Nat.sub_self, Nat.zero_add, Nat.add_zero, Nat.zero_le, Nat.le_add_right, Nat.le_refl, Int.reduceToNat, Int.reduceLE, Nat.reduceLT, Nat.reducePow, Int.reducePow, Int.reduceNeg, or_true, true_or, Int.reduceLT, Bool.false_eq_true, if_true, if_false, forall_const, false_implies, true_implies, implies_true, Int.reduceEq, cast_lit, not_true_eq_false, not_false_eq_true, Bool.not_true, Bool.not_false, Bool.not_eq_true', Bool.not_eq_false', Bool.and_true, Bool.true_and, Bool.and_false, Bool.false_and, Bool.or_false, Bool.false_or, Bool.or_true, Bool.true_or, reduceCtorEq, false_and, and_false, or_false, false_or, beq_self_eq_true,
    Option.some.injEq, Prod.mk.injEq, Rv.dat.injEq, Rv.ref.injEq, D.int.injEq, D.bl.injEq, D.str.injEq, D.tup.injEq, D.lst.injEq, D.dic.injEq, D.scr.injEq, List.cons.injEq, and_true, true_and, exists_and_left, exists_and_right, exists_eq_left, exists_eq_left', exists_eq_right, exists_eq_right', exists_eq, exists_eq', exists_const, decide_eq_true_eq, decide_eq_false_iff_not, Bool.and_eq_true, beq_iff_eq, beq_eq_false_iff_ne, ne_eq, decide_true, decide_false, hdR_len, stR_len, hdR_24, hdR_25, hdR_26, hdR_27, hdR_28, hdR_29, hdR_30, stR_16, stR_18, stR_19, stR_20, stR_21, stR_22, stR_23, hdP_25, hdP_26, hdP_27, hdP_28, hdP_29, hdP_30, stP_16, stP_19, stP_20, stP_21, stP_22, stP_23, hdD, List.length_set, set_two, denc_push, denc_swap, denc_pop, denc_top, denc_clear, eqv_optN, plN_optN, isNon_optN, optN_some, optN_none, seenD_some, seenD_none, items_pair, items_vals, phk, kdk, List.getElem?_set_self, List.getElem?_set_ne, List.getElem?_append_left, ltaddr, boxD, cDict, *])
abbrev fn_p_stepped : List Str := ["copied", "step_of"]
def m_p_stepped : DW.Ss := (.cons (.ite (.or (.not (.isin (.var 1) 0)) (.or (.isin (.var 1) 1) (.one (.not (.chain .le .lt (.int 0) (.var 1) (.bi .len (.cons (.ix .k (.var 0) (.str 21)) .nil))))))) (.cons .never
  .nil) .nil)
  (.cons (.set 2 (.call 0 (.cons (.frz (.var 0)) .nil)))
  (.cons (.set 3 (.call 1 (.cons (.var 2) (.cons (.var 1) .nil))))
  (.cons (.setKey (.var 2) (.str 23) (.bin .addI (.ix .k (.var 2) (.str 23)) (.int 1)))
  (.cons (.ret (.tup (.cons (.var 2) (.cons (.var 3) .nil))))
  .nil)))))
abbrev Ss_p_stepped : List SpD := [S_p_copied, S_p_step_of]
def S_p_stepped : SpD := fun rs g Q => ∃ (s : St) (n : Nat), rs = [.dat s.enc, .dat (.int (n : Int))] ∧ (WfS s ∧ n < s.hands.length ∧ s.time ≤ 100000 ∧ s.hands.length ≤ 1000 ∧ Q (.dat (.tup [(step s n).1.enc, (step s n).2.enc])) g)
theorem mo_p_stepped : Mono S_p_stepped := by
  rintro rs g P P2 h ⟨s, n, eRS, q⟩
  refine ⟨s, n, eRS, ?_⟩
  first | exact h _ _ q | exact ⟨q.1, h _ _ q.2⟩ | exact ⟨q.1, q.2.1, h _ _ q.2.2⟩ | exact ⟨q.1, q.2.1, q.2.2.1, h _ _ q.2.2.2⟩ | exact ⟨q.1, q.2.1, q.2.2.1, q.2.2.2.1, h _ _ q.2.2.2.2⟩ | exact ⟨q.1, fun x hx => h _ _ (q.2 x hx)⟩ | exact ⟨q.1, q.2.1, fun x hx => h _ _ (q.2.2 x hx)⟩ | exact ⟨q.1, q.2.1, fun x hx hy => h _ _ (q.2.2 x hx hy)⟩ | exact ⟨q.1, fun x y h1 => h _ _ (q.2 x y h1)⟩ | exact ⟨q.1, fun x y h1 h2 => h _ _ (q.2 x y h1 h2)⟩ | exact ⟨q.1, fun x h1 h2 => h _ _ (q.2 x h1 h2)⟩
theorem len_p_stepped : ∀ rs g Q, S_p_stepped rs g Q → rs.length = 2 := by
  rintro rs g Q ⟨s, n, rfl, q⟩
  rfl
theorem hS_p_stepped : ∀ rs g Q, S_p_stepped rs g Q → m_p_stepped.W (wd Ss_p_stepped glF dtF) (rs.map some ++ List.replicate (4 - rs.length) none) g (fun _ g2 => Fin g Q (.dat .non) g2) (Fin g Q) := by
  rintro rs g Q ⟨s, n, rfl, q⟩
  unfold m_p_stepped
  obtain ⟨w, hn, ht, hl, q⟩ := q
  have l1 := w.nb
  have l2 := w.ns
  have l3 := w.nr
  have hds := fun (g : Rg) => dicOf_st (g := g) (s := s)
  unfold stL at hds
  have hlt : (n : Int) < (s.hands.length : Int) := by omega
  have h0 : (0 : Int) ≤ (n : Int) := Int.natCast_nonneg n
  walk_at "dwf"
  clear hds
  refine ⟨s, rfl, hl, by omega, by omega, by omega, fun x hx => ?_, ?_⟩
  · have k := (w.hands x hx).size
    cases hg : x.got with
    | vals l => rw [hg] at k; simp only [Got.items, List.length_map]; exact Nat.le_trans k (by omega)
    | pair v w => simp [Got.items]
  · have m := copy_mem (g := g) hn
    have k0 := w.hands _ (hand_mem hn)
    have tk := fun {g' v'} => copy_take (g := g) (s := s) (n := n) (g' := g') (v' := v')
    have rd := fun {g' v' s' h' s2} => copy_rd (g := g) (s := s) (n := n) (g' := g') (v' := v') (s' := s') (h' := h') (s2 := s2) hn
    have hv : g.length + 1 + 2 * s.hands.length = (copyV g.length n s).cs := rfl
    have hvn : n = (copyV g.length n s).n := rfl
    rw [hv]
    generalize g ++ copyC g.length s = G at m tk rd
    generalize hV : copyV g.length n s = v at m tk rd hvn
    have hal := m.all
    clear hv hV
    walk_at "dwf"
    refine ⟨v, s, s.hand n, by rw [← hvn], m, w.t, k0, ht, fun g1 v1 m1 k1 => ?_⟩
    subst hvn
    obtain ⟨n1, n2, n3, n4, n5, n6, n7⟩ := k1.same
    have hal1 := m1.all
    have hnes1 := m1.nes
    have so := stepOf_ok v.n w.t k0
    have z := (m.mg.on m1 k1).sw { (stepOf s (s.hand v.n) v.n).1 with time := s.time + 1 } rfl rfl rfl
    have hst := so.tm
    clear hal
    rw [← n1]
    clear n1 n2 n3 n4 n5 n6 n7 so
    walk_at "dwf"
    have hm := z.m
    show wFrzL [Rv.ref v1.cs, Rv.dat (stepOf s (s.hand v.n) v.n).2.2.enc] (g1.set v1.cs (.dic (stL { (stepOf s (s.hand v.n) v.n).1 with time := s.time + 1 } (.ref v1.cb) (.ref v1.cp) (.ref v1.cl) (.ref v1.cr)))) (fun ds g2 => ds.length ≤ 1000000 ∧ Fin g Q (Rv.dat (D.tup ds)) g2)
    unfold wFrzL
    rw [frzs_none hm.st hm.bx]
    have e2 : (step s v.n).1 = { ({ (stepOf s (s.hand v.n) v.n).1 with time := s.time + 1 } : St) with hands := s.hands.set v.n (stepOf s (s.hand v.n) v.n).2.1 } := rfl
    have r := rd z.m z.k e2
    refine ⟨g.length, [(step s v.n).1.enc, (step s v.n).2.enc], .cons r (.cons (.dat _) .nil), ?_, by simp, ?_⟩
    · have := hm.nes.2.2.1
      have hc := congrArg List.length (tk z.k)
      rw [List.length_take] at hc
      omega
    · rw [tk z.k]
      exact fin_dat _ rfl q

end DW

/-! ## F_p_woven.lean -/
set_option Elab.async false
set_option linter.all false
set_option maxRecDepth 100000
set_option maxHeartbeats 4000000
set_option autoImplicit false
namespace DW
open PySem PySem.Spec L2
open PyProof.Rows hiding St

local macro_rules | `(tactic| walk_at "dw") => `(tactic| simp (config := { maxSteps := 1000000 }) only [and_assoc, natD, mapint_inj, mapnat_inj, denc_inj, wfor_eq, ixD, ixM, cut_one, List.tail_cons, List.tail_nil, eqvs_nil, List.isEmpty_cons, List.isEmpty_nil, plAll_int, plAll_nat, Ss.W, Sm.W, Ex.W, Ex.T, Es.W, wVar, BOp.B, COp.B, Bi.B, IxK.B, bI0, bIC, bEq, bIs, bIn, bIxL, bIxT, bIxS, bIxK, bCat, bCatT, bRep, cLen, cInt, cMin2, cList, cTup, wantB, wAndT, wOrT, wAndV, wOrV, wNotV, lenOf, lstOf_ref, lstOf_lst, seqOf, dicOf_ref, dicOf_dic, wPart, wIter, tstW, mAppend, mPop, mPopAt, mClear, wSetIx, wSetKey, Tg.put, wipeN, Cell.lst.injEq, Cell.dic.injEq, Cell.fz.injEq, List.length_map, tyR, tyD,
    eqv_ii, eqv_ss, eqv_bb, eqv_nn, eqv_ll, eqv_tt, eqn_non_int, eqn_non_str, eqn_non_lst, eqn_non_tup, eqn_non_bl, eqn_non_dic, eqn_int_non, eqn_int_str, eqn_int_lst, eqn_int_tup, eqn_int_dic, eqn_str_non, eqn_str_int, eqn_str_lst, eqn_str_tup, eqn_str_bl, eqn_str_dic, eqn_lst_non, eqn_lst_int, eqn_lst_str, eqn_lst_tup, eqn_lst_bl, eqn_lst_dic, eqn_tup_non, eqn_tup_int, eqn_tup_str, eqn_tup_lst, eqn_tup_bl, eqn_tup_dic, eqn_bl_non, eqn_bl_str, eqn_bl_lst, eqn_bl_tup, eqn_bl_dic, eqvs, atI_lit, cdiv_lit, cmul_r, cmul_l, cpow_lit, nrm_dat, nrm_ref, plN, plAll, rd_dat, rd_ref, rds_nil, rds_cons, rds_map, rdk_nil, rdk_cons, wFrz, frz1, wFrzL, frzs, datsN, datsN_map, datsK, isNon, tyNames, kbs,
    Option.map_some, Option.map_none, Option.isSome_some, List.getD_cons_zero, List.getD_cons_succ, List.getD_nil, get_app, get_app0, set_app, set_app0, List.length_append, List.append_assoc, List.any_cons, List.any_nil, List.zip_cons_cons, List.zip_nil_left, List.zip_nil_right,
    List.map_cons, List.map_nil, List.cons_append, List.nil_append, List.append_nil, List.length_cons, List.length_nil, List.replicate, List.set_cons_zero, List.set_cons_succ, List.getElem?_cons_zero, List.getElem?_cons_succ, List.set_nil, List.getElem?_nil,
    Nat.reduceAdd, Nat.reduceSub, Nat.reduceBEq, Nat.reduceLeDiff, Nat.reduceEqDiff, Nat.sub_self, Nat.zero_add, Nat.add_zero, Nat.zero_le, Nat.le_add_right, Nat.le_refl, Int.reduceToNat, Int.reduceLE, Nat.reduceLT, Nat.reducePow, Int.reducePow, Int.reduceNeg, or_true, true_or, Int.reduceLT, Bool.false_eq_true, if_true, if_false, forall_const, false_implies, true_implies, implies_true, Int.reduceEq, cast_lit, not_true_eq_false, not_false_eq_true, Bool.not_true, Bool.not_false, Bool.not_eq_true', Bool.not_eq_false', Bool.and_true, Bool.true_and, Bool.and_false, Bool.false_and, Bool.or_false, Bool.false_or, Bool.or_true, Bool.true_or, reduceCtorEq, false_and, and_false, or_false, false_or, beq_self_eq_true,
    Option.some.injEq, Prod.mk.injEq, Rv.dat.injEq, Rv.ref.injEq, D.int.injEq, D.bl.injEq, D.str.injEq, D.tup.injEq, D.lst.injEq, D.dic.injEq, D.scr.injEq, List.cons.injEq, and_true, true_and, exists_and_left, exists_and_right, exists_eq_left, exists_eq_left', exists_eq_right, exists_eq_right', exists_eq, exists_eq', exists_const, decide_eq_true_eq, decide_eq_false_iff_not, Bool.and_eq_true, beq_iff_eq, beq_eq_false_iff_ne, ne_eq, decide_true, decide_false, hdR_len, stR_len, hdR_24, hdR_25, hdR_26, hdR_27, hdR_28, hdR_29, hdR_30, stR_16, stR_18, stR_19, stR_20, stR_21, stR_22, stR_23, hdP_25, hdP_26, hdP_27, hdP_28, hdP_29, hdP_30, stP_16, stP_19, stP_20, stP_21, stP_22, stP_23, hdD, List.length_set, set_two, denc_push, denc_swap, denc_pop, denc_top, denc_clear, eqv_optN, plN_optN, isNon_optN, optN_some, optN_none, seenD_some, seenD_none, items_pair, items_vals, phk, kdk, List.getElem?_set_self, List.getElem?_set_ne, List.getElem?_append_left, ltaddr, boxD, cDict])
local macro_rules | `(tactic| walk_at "dwh") => `(tactic| simp (config := { maxSteps := 1000000 }) only [and_assoc, natD, mapint_inj, mapnat_inj, denc_inj, wfor_eq, ixD, ixM, cut_one, List.tail_cons, List.tail_nil, eqvs_nil, List.isEmpty_cons, List.isEmpty_nil, plAll_int, plAll_nat, Ss.W, Sm.W, Ex.W, Ex.T, Es.W, wVar, BOp.B, COp.B, Bi.B, IxK.B, bI0, bIC, bEq, bIs, bIn, bIxL, bIxT, bIxS, bIxK, bCat, bCatT, bRep, cLen, cInt, cMin2, cList, cTup, wantB, wAndT, wOrT, wAndV, wOrV, wNotV, lenOf, lstOf_ref, lstOf_lst, seqOf, dicOf_ref, dicOf_dic, wPart, wIter, tstW, mAppend, mPop, mPopAt, mClear, wSetIx, wSetKey, Tg.put, wipeN, Cell.lst.injEq, Cell.dic.injEq, Cell.fz.injEq, List.length_map, tyR, tyD,
    eqv_ii, eqv_ss, eqv_bb, eqv_nn, eqv_ll, eqv_tt, eqn_non_int, eqn_non_str, eqn_non_lst, eqn_non_tup, eqn_non_bl, eqn_non_dic, eqn_int_non, eqn_int_str, eqn_int_lst, eqn_int_tup, eqn_int_dic, eqn_str_non, eqn_str_int, eqn_str_lst, eqn_str_tup, eqn_str_bl, eqn_str_dic, eqn_lst_non, eqn_lst_int, eqn_lst_str, eqn_lst_tup, eqn_lst_bl, eqn_lst_dic, eqn_tup_non, eqn_tup_int, eqn_tup_str, eqn_tup_lst, eqn_tup_bl, eqn_tup_dic, eqn_bl_non, eqn_bl_str, eqn_bl_lst, eqn_bl_tup, eqn_bl_dic, eqvs, atI_lit, cdiv_lit, cmul_r, cmul_l, cpow_lit, nrm_dat, nrm_ref, plN, plAll, rd_dat, rd_ref, rds_nil, rds_cons, rds_map, rdk_nil, rdk_cons, wFrz, frz1, wFrzL, frzs, datsN, datsN_map, datsK, isNon, tyNames, kbs,
    Option.map_some, Option.map_none, Option.isSome_some, List.getD_cons_zero, List.getD_cons_succ, List.getD_nil, get_app, get_app0, set_app, set_app0, List.length_append, List.append_assoc, List.any_cons, List.any_nil, List.zip_cons_cons, List.zip_nil_left, List.zip_nil_right,
    List.map_cons, List.map_nil, List.cons_append, List.nil_append, List.append_nil, List.length_cons, List.length_nil, List.replicate, List.set_cons_zero, List.set_cons_succ, List.getElem?_cons_zero, List.getElem?_cons_succ, List.set_nil, List.getElem?_nil,
    Nat.reduceAdd, Nat.reduceSub, Nat.reduceBEq, Nat.reduceLeDiff, Nat.reduceEqDiff, Nat.sub_self, Nat.zero_add, Nat.add_zero, Nat.zero_le, Nat.le_add_right, Nat.le_refl, Int.reduceToNat, Int.reduceLE, Nat.reduceLT, Nat.reducePow, Int.reducePow, Int.reduceNeg, or_true, true_or, Int.reduceLT, Bool.false_eq_true, if_true, if_false, forall_const, false_implies, true_implies, implies_true, Int.reduceEq, cast_lit, not_true_eq_false, not_false_eq_true, Bool.not_true, Bool.not_false, Bool.not_eq_true', Bool.not_eq_false', Bool.and_true, Bool.true_and, Bool.and_false, Bool.false_and, Bool.or_false, Bool.false_or, Bool.or_true, Bool.true_or, reduceCtorEq, false_and, and_false, or_false, false_or, beq_self_eq_true,
    Option.some.injEq, Prod.mk.injEq, Rv.dat.injEq, Rv.ref.injEq, D.int.injEq, D.bl.injEq, D.str.injEq, D.tup.injEq, D.lst.injEq, D.dic.injEq, D.scr.injEq, List.cons.injEq, and_true, true_and, exists_and_left, exists_and_right, exists_eq_left, exists_eq_left', exists_eq_right, exists_eq_right', exists_eq, exists_eq', exists_const, decide_eq_true_eq, decide_eq_false_iff_not, Bool.and_eq_true, beq_iff_eq, beq_eq_false_iff_ne, ne_eq, decide_true, decide_false, hdR_len, stR_len, hdR_24, hdR_25, hdR_26, hdR_27, hdR_28, hdR_29, hdR_30, stR_16, stR_18, stR_19, stR_20, stR_21, stR_22, stR_23, hdP_25, hdP_26, hdP_27, hdP_28, hdP_29, hdP_30, stP_16, stP_19, stP_20, stP_21, stP_22, stP_23, hdD, List.length_set, set_two, denc_push, denc_swap, denc_pop, denc_top, denc_clear, eqv_optN, plN_optN, isNon_optN, optN_some, optN_none, seenD_some, seenD_none, items_pair, items_vals, phk, kdk, List.getElem?_set_self, List.getElem?_set_ne, List.getElem?_append_left, ltaddr, boxD, cDict, *])
local macro_rules | `(tactic| walk_at "dwf") => `(tactic| simp (config := { maxSteps := 1000000 }) only [and_assoc, natD, mapint_inj, mapnat_inj, denc_inj, wfor_eq, ixD, ixM, cut_one, List.tail_cons, List.tail_nil, eqvs_nil, List.isEmpty_cons, List.isEmpty_nil, plAll_int, plAll_nat, Ss.W, Sm.W, Ex.W, Ex.T, Es.W, wVar, BOp.B, COp.B, Bi.B, IxK.B, bI0, bIC, bEq, bIs, bIn, bIxL, bIxT, bIxS, bIxK, bCat, bCatT, bRep, cLen, cInt, cMin2, cList, cTup, wantB, wAndT, wOrT, wAndV, wOrV, wNotV, lenOf, lstOf_ref, lstOf_lst, seqOf, dicOf_ref, dicOf_dic, wPart, wIter, tstW, mAppend, mPop, mPopAt, mClear, wSetIx, wSetKey, Tg.put, wipeN, Cell.lst.injEq, Cell.dic.injEq, Cell.fz.injEq, List.length_map, tyR, tyD,
    eqv_ii, eqv_ss, eqv_bb, eqv_nn, eqv_ll, eqv_tt, eqn_non_int, eqn_non_str, eqn_non_lst, eqn_non_tup, eqn_non_bl, eqn_non_dic, eqn_int_non, eqn_int_str, eqn_int_lst, eqn_int_tup, eqn_int_dic, eqn_str_non, eqn_str_int, eqn_str_lst, eqn_str_tup, eqn_str_bl, eqn_str_dic, eqn_lst_non, eqn_lst_int, eqn_lst_str, eqn_lst_tup, eqn_lst_bl, eqn_lst_dic, eqn_tup_non, eqn_tup_int, eqn_tup_str, eqn_tup_lst, eqn_tup_bl, eqn_tup_dic, eqn_bl_non, eqn_bl_str, eqn_bl_lst, eqn_bl_tup, eqn_bl_dic, eqvs, atI_lit, cdiv_lit, cmul_r, cmul_l, cpow_lit, nrm_dat, nrm_ref, plN, plAll, rd_dat, rd_ref, rds_nil, rds_cons, rds_map, rdk_nil, rdk_cons,               isNon, tyNames, kbs,
    Option.map_some, Option.map_none, Option.isSome_some, List.getD_cons_zero, List.getD_cons_succ, List.getD_nil, get_app, get_app0, set_app, set_app0, List.length_append, List.append_assoc, List.any_cons, List.any_nil, List.zip_cons_cons, List.zip_nil_left, List.zip_nil_right,
    List.map_cons, List.map_nil, List.cons_append, List.nil_append, List.append_nil, List.length_cons, List.length_nil, List.replicate, List.set_cons_zero, List.set_cons_succ, List.getElem?_cons_zero, List.getElem?_cons_succ, List.set_nil, List.getElem?_nil,
    Nat.reduceAdd, Nat.reduceSub, Nat.reduceBEq, Nat.reduceLeDiff, Nat.reduceEqDiff, Nat.sub_self, Nat.zero_add, Nat.add_zero, Nat.zero_le, Nat.le_add_right, Nat.le_refl, Int.reduceToNat, Int.reduceLE, Nat.reduceLT, Nat.reducePow, Int.reducePow, Int.reduceNeg, or_true, true_or, Int.reduceLT, Bool.false_eq_true, if_true, if_false, forall_const, false_implies, true_implies, implies_true, Int.reduceEq, cast_lit, not_true_eq_false, not_false_eq_true, Bool.not_true, Bool.not_false, Bool.not_eq_true', Bool.not_eq_false', Bool.and_true, Bool.true_and, Bool.and_false, Bool.false_and, Bool.or_false, Bool.false_or, Bool.or_true, Bool.true_or, reduceCtorEq, false_and, and_false, or_false, false_or, beq_self_eq_true,
    Option.some.injEq, Prod.mk.injEq, Rv.dat.injEq, Rv.ref.injEq, D.int.injEq, D.bl.injEq, D.str.injEq, D.tup.injEq, D.lst.injEq, D.dic.injEq, D.scr.injEq, List.cons.injEq, and_true, true_and, exists_and_left, exists_and_right, exists_eq_left, exists_eq_left', exists_eq_right, exists_eq_right', exists_eq, exists_eq', exists_const, decide_eq_true_eq, decide_eq_false_iff_not, Bool.and_eq_true, beq_iff_eq, beq_eq_false_iff_ne, ne_eq, decide_true, decide_false, hdR_len, stR_len, hdR_24, hdR_25, hdR_26, hdR_27, hdR_28, hdR_29, hdR_30, stR_16, stR_18, stR_19, stR_20, stR_21, stR_22, stR_23, hdP_25, hdP_26, hdP_27, hdP_28, hdP_29, hdP_30, stP_16, stP_19, stP_20, stP_21, stP_22, stP_23, hdD, List.length_set, set_two, denc_push, denc_swap, denc_pop, denc_top, denc_clear, eqv_optN, plN_optN, isNon_optN, optN_some, optN_none, seenD_some, seenD_none, items_pair, items_vals, phk, kdk, List.getElem?_set_self, List.getElem?_set_ne, List.getElem?_append_left, ltaddr, boxD, cDict, *])
abbrev fn_p_woven : List Str := ["tower_of", "stepped"]
def b_p_woven_0 : DW.Ss := (.cons (.set 7 (.call 1 (.cons (.frz (.var 4)) (.cons (.var 6) .nil))))
  (.cons (.set 4 (.ix .t (.var 7) (.int 0)))
  (.cons (.expr (.app (.var 5) (.ix .t (.var 7) (.int 1))))
  .nil)))
def b_p_woven_1 : DW.Ss := (.cons (.ret (.tup (.cons (.var 4) (.cons (.var 5) .nil))))
  .nil)
def b_p_woven_2 : DW.Ss := (.cons (.set 5 (.lst .nil))
  (.cons (.for_ (.name 6) .list (.var 2) .non b_p_woven_0)
  b_p_woven_1))
def m_p_woven : DW.Ss := (.cons (.set 4 (.call 0 (.cons (.frz (.var 0)) (.cons (.frz (.var 1)) (.cons (.var 3) .nil)))))
  (.cons (.ite (.cmp .gt (.bi .len (.cons (.var 2) .nil)) (.glob 3)) (.cons .never
  .nil) .nil)
  b_p_woven_2))
abbrev Ss_p_woven : List SpD := [S_p_tower_of, S_p_stepped]
def S_p_woven : SpD := fun rs g Q => ∃ (start : List Int) (progs : List (List Deed)) (w : List Nat) (kd : Kd), rs = [.dat (.lst (start.map .int)), .dat (.lst (progs.map progD)), .dat (.lst (w.map natD)), .dat (.str kd.k)] ∧ (start.length ≤ 60 ∧ progs.length ≤ 20 ∧ (∀ p ∈ progs, p.length ≤ 60) ∧ w.length ≤ 2000 ∧ (∀ n ∈ w, n < progs.length) ∧ Q (.dat (.tup [(run (towerOf start progs kd) w).1.enc, .lst ((run (towerOf start progs kd) w).2.map Step.enc)])) g)
theorem mo_p_woven : Mono S_p_woven := by
  rintro rs g P P2 h ⟨start, progs, w, kd, eRS, q⟩
  refine ⟨start, progs, w, kd, eRS, ?_⟩
  exact ⟨q.1, q.2.1, q.2.2.1, q.2.2.2.1, q.2.2.2.2.1, h _ _ q.2.2.2.2.2⟩
theorem len_p_woven : ∀ rs g Q, S_p_woven rs g Q → rs.length = 4 := by
  rintro rs g Q ⟨start, progs, w, kd, rfl, q⟩
  rfl
theorem hS_p_woven : ∀ rs g Q, S_p_woven rs g Q → m_p_woven.W (wd Ss_p_woven glF dtF) (rs.map some ++ List.replicate (8 - rs.length) none) g (fun _ g2 => Fin g Q (.dat .non) g2) (Fin g Q) := by
  rintro rs g Q ⟨start, progs, w, kd, rfl, q⟩
  unfold m_p_woven
  obtain ⟨l1, l2, l3, l4, l5, q⟩ := q
  have hgl : (glF.map (·.2))[3]? = some 2000 := rfl
  have hs1 : ¬ (2000 : Int) < (w.length : Int) := by omega
  walk_at "dwh"
  refine ⟨start, progs, kd, rfl, l1, l2, l3, ?_⟩
  walk_at "dwh"
  unfold b_p_woven_2
  walk_at "dwh"
  have w0 : WfS (towerOf start progs kd) := wf_tower l1
  have h0 : (towerOf start progs kd).hands.length = progs.length := List.length_map ..
  have t0 : (towerOf start progs kd).time = 0 := rfl
  generalize towerOf start progs kd = s0 at w0 h0 t0 q
  refine wloop (fun k env g2 => ∃ (s : St) (st : List Step) (a b : Option Rv) (j : Rg), env = [some (.dat (.lst (start.map .int))), some (.dat (.lst (progs.map progD))), some (.dat (.lst (w.map natD))), some (.dat (.str kd.k)), some (.dat s.enc), some (.ref g.length), a, b] ∧ g2 = g ++ (.lst ((st.map Step.enc).map .dat) :: j) ∧
    WfS s ∧ s.hands.length = progs.length ∧ s.time = k ∧ st.length = k ∧ run s0 w = ((run s (w.drop k)).1, st ++ (run s (w.drop k)).2)) ⟨s0, [], none, none, [], rfl, rfl, w0, h0, t0, rfl, rfl⟩ (fun _ _ _ _ => trivial) ?_ ?_
  · rintro k r env g2 hkr ⟨s, st, a, b, j, rfl, rfl, ws, hh, ht, hst, hrun⟩
    rw [List.getElem?_map, List.getElem?_map] at hkr
    obtain ⟨d, hkr1, e1⟩ := Option.map_eq_some_iff.mp hkr
    obtain ⟨n, hkr2, e2⟩ := Option.map_eq_some_iff.mp hkr1
    subst e2; subst e1
    have hk := (List.getElem?_eq_some_iff.mp hkr2).1
    have hn := l5 n (List.mem_of_getElem? hkr2)
    have hdrop : w.drop k = n :: w.drop (k + 1) := by rw [List.drop_eq_getElem_cons hk, (List.getElem?_eq_some_iff.mp hkr2).2]
    obtain ⟨ws2, hh2, ht2, -⟩ := wf_step ws (n := n) (by omega)
    refine ⟨_, rfl, ?_⟩
    unfold b_p_woven_0
    rw [hdrop] at hrun
    simp only [run] at hrun
    have hsl : st.length < 1000000 := by omega
    clear hkr hkr1 hkr2 hdrop
    walk_at "dw"
    refine ⟨s, n, rfl, ws, by omega, by omega, by omega, ?_⟩
    walk_at "dw"
    refine ⟨hsl, (step s n).1, rfl, st ++ [(step s n).2], ?_, ws2, by omega, by omega, by simp [hst], ?_⟩
    · rw [List.map_append, List.map_append]; exact ⟨_, rfl⟩
    · rw [hrun, List.append_assoc]; rfl
  · rintro env g2 ⟨s, st, a, b, j, rfl, rfl, ws, hh, ht, hst, hrun⟩
    unfold b_p_woven_1
    rw [List.length_map, List.length_map, List.drop_length] at hrun
    simp only [run, List.append_nil] at hrun
    rw [hrun] at q
    walk_at "dw"
    exact fin_dat _ rfl q

end DW

/-! ## F_mixed.lean -/
set_option Elab.async false
set_option linter.all false
set_option maxRecDepth 100000
set_option maxHeartbeats 4000000
set_option autoImplicit false
namespace DW
open PySem PySem.Spec L2
open PyProof.Rows hiding St

local macro_rules | `(tactic| walk_at "dw") => `(tactic| simp (config := { maxSteps := 1000000 }) only [and_assoc, natD, mapint_inj, mapnat_inj, denc_inj, wfor_eq, ixD, ixM, cut_one, List.tail_cons, List.tail_nil, eqvs_nil, List.isEmpty_cons, List.isEmpty_nil, plAll_int, plAll_nat, Ss.W, Sm.W, Ex.W, Ex.T, Es.W, wVar, BOp.B, COp.B, Bi.B, IxK.B, bI0, bIC, bEq, bIs, bIn, bIxL, bIxT, bIxS, bIxK, bCat, bCatT, bRep, cLen, cInt, cMin2, cList, cTup, wantB, wAndT, wOrT, wAndV, wOrV, wNotV, lenOf, lstOf_ref, lstOf_lst, seqOf, dicOf_ref, dicOf_dic, wPart, wIter, tstW, mAppend, mPop, mPopAt, mClear, wSetIx, wSetKey, Tg.put, wipeN, Cell.lst.injEq, Cell.dic.injEq, Cell.fz.injEq, List.length_map, tyR, tyD,
    eqv_ii, eqv_ss, eqv_bb, eqv_nn, eqv_ll, eqv_tt, eqn_non_int, eqn_non_str, eqn_non_lst, eqn_non_tup, eqn_non_bl, eqn_non_dic, eqn_int_non, eqn_int_str, eqn_int_lst, eqn_int_tup, eqn_int_dic, eqn_str_non, eqn_str_int, eqn_str_lst, eqn_str_tup, eqn_str_bl, eqn_str_dic, eqn_lst_non, eqn_lst_int, eqn_lst_str, eqn_lst_tup, eqn_lst_bl, eqn_lst_dic, eqn_tup_non, eqn_tup_int, eqn_tup_str, eqn_tup_lst, eqn_tup_bl, eqn_tup_dic, eqn_bl_non, eqn_bl_str, eqn_bl_lst, eqn_bl_tup, eqn_bl_dic, eqvs, atI_lit, cdiv_lit, cmul_r, cmul_l, cpow_lit, nrm_dat, nrm_ref, plN, plAll, rd_dat, rd_ref, rds_nil, rds_cons, rds_map, rdk_nil, rdk_cons, wFrz, frz1, wFrzL, frzs, datsN, datsN_map, datsK, isNon, tyNames, kbs,
    Option.map_some, Option.map_none, Option.isSome_some, List.getD_cons_zero, List.getD_cons_succ, List.getD_nil, get_app, get_app0, set_app, set_app0, List.length_append, List.append_assoc, List.any_cons, List.any_nil, List.zip_cons_cons, List.zip_nil_left, List.zip_nil_right,
    List.map_cons, List.map_nil, List.cons_append, List.nil_append, List.append_nil, List.length_cons, List.length_nil, List.replicate, List.set_cons_zero, List.set_cons_succ, List.getElem?_cons_zero, List.getElem?_cons_succ, List.set_nil, List.getElem?_nil,
    Nat.reduceAdd, Nat.reduceSub, Nat.reduceBEq, Nat.reduceLeDiff, Nat.reduceEqDiff, Nat.sub_self, Nat.zero_add, Nat.add_zero, Nat.zero_le, Nat.le_add_right, Nat.le_refl, Int.reduceToNat, Int.reduceLE, Nat.reduceLT, Nat.reducePow, Int.reducePow, Int.reduceNeg, or_true, true_or, Int.reduceLT, Bool.false_eq_true, if_true, if_false, forall_const, false_implies, true_implies, implies_true, Int.reduceEq, cast_lit, not_true_eq_false, not_false_eq_true, Bool.not_true, Bool.not_false, Bool.not_eq_true', Bool.not_eq_false', Bool.and_true, Bool.true_and, Bool.and_false, Bool.false_and, Bool.or_false, Bool.false_or, Bool.or_true, Bool.true_or, reduceCtorEq, false_and, and_false, or_false, false_or, beq_self_eq_true,
    Option.some.injEq, Prod.mk.injEq, Rv.dat.injEq, Rv.ref.injEq, D.int.injEq, D.bl.injEq, D.str.injEq, D.tup.injEq, D.lst.injEq, D.dic.injEq, D.scr.injEq, List.cons.injEq, and_true, true_and, exists_and_left, exists_and_right, exists_eq_left, exists_eq_left', exists_eq_right, exists_eq_right', exists_eq, exists_eq', exists_const, decide_eq_true_eq, decide_eq_false_iff_not, Bool.and_eq_true, beq_iff_eq, beq_eq_false_iff_ne, ne_eq, decide_true, decide_false, hdR_len, stR_len, hdR_24, hdR_25, hdR_26, hdR_27, hdR_28, hdR_29, hdR_30, stR_16, stR_18, stR_19, stR_20, stR_21, stR_22, stR_23, hdP_25, hdP_26, hdP_27, hdP_28, hdP_29, hdP_30, stP_16, stP_19, stP_20, stP_21, stP_22, stP_23, hdD, List.length_set, set_two, denc_push, denc_swap, denc_pop, denc_top, denc_clear, eqv_optN, plN_optN, isNon_optN, optN_some, optN_none, seenD_some, seenD_none, items_pair, items_vals, phk, kdk, List.getElem?_set_self, List.getElem?_set_ne, List.getElem?_append_left, ltaddr, boxD, cDict])
local macro_rules | `(tactic| walk_at "dwh") => `(tactic| simp (config := { maxSteps := 1000000 }) only [and_assoc, natD, mapint_inj, mapnat_inj, denc_inj, wfor_eq, ixD, ixM, cut_one, List.tail_cons, List.tail_nil, eqvs_nil, List.isEmpty_cons, List.isEmpty_nil, plAll_int, plAll_nat, Ss.W, Sm.W, Ex.W, Ex.T, Es.W, wVar, BOp.B, COp.B, Bi.B, IxK.B, bI0, bIC, bEq, bIs, bIn, bIxL, bIxT, bIxS, bIxK, bCat, bCatT, bRep, cLen, cInt, cMin2, cList, cTup, wantB, wAndT, wOrT, wAndV, wOrV, wNotV, lenOf, lstOf_ref, lstOf_lst, seqOf, dicOf_ref, dicOf_dic, wPart, wIter, tstW, mAppend, mPop, mPopAt, mClear, wSetIx, wSetKey, Tg.put, wipeN, Cell.lst.injEq, Cell.dic.injEq, Cell.fz.injEq, List.length_map, tyR, tyD,
    eqv_ii, eqv_ss, eqv_bb, eqv_nn, eqv_ll, eqv_tt, eqn_non_int, eqn_non_str, eqn_non_lst, eqn_non_tup, eqn_non_bl, eqn_non_dic, eqn_int_non, eqn_int_str, eqn_int_lst, eqn_int_tup, eqn_int_dic, eqn_str_non, eqn_str_int, eqn_str_lst, eqn_str_tup, eqn_str_bl, eqn_str_dic, eqn_lst_non, eqn_lst_int, eqn_lst_str, eqn_lst_tup, eqn_lst_bl, eqn_lst_dic, eqn_tup_non, eqn_tup_int, eqn_tup_str, eqn_tup_lst, eqn_tup_bl, eqn_tup_dic, eqn_bl_non, eqn_bl_str, eqn_bl_lst, eqn_bl_tup, eqn_bl_dic, eqvs, atI_lit, cdiv_lit, cmul_r, cmul_l, cpow_lit, nrm_dat, nrm_ref, plN, plAll, rd_dat, rd_ref, rds_nil, rds_cons, rds_map, rdk_nil, rdk_cons, wFrz, frz1, wFrzL, frzs, datsN, datsN_map, datsK, isNon, tyNames, kbs,
    Option.map_some, Option.map_none, Option.isSome_some, List.getD_cons_zero, List.getD_cons_succ, List.getD_nil, get_app, get_app0, set_app, set_app0, List.length_append, List.append_assoc, List.any_cons, List.any_nil, List.zip_cons_cons, List.zip_nil_left, List.zip_nil_right,
    List.map_cons, List.map_nil, List.cons_append, List.nil_append, List.append_nil, List.length_cons, List.length_nil, List.replicate, List.set_cons_zero, List.set_cons_succ, List.getElem?_cons_zero, List.getElem?_cons_succ, List.set_nil, List.getElem?_nil,
    Nat.reduceAdd, Nat.reduceSub, Nat.reduceBEq, Nat.reduceLeDiff, Nat.reduceEqDiff, Nat.sub_self, Nat.zero_add, Nat.add_zero, Nat.zero_le, Nat.le_add_right, Nat.le_refl, Int.reduceToNat, Int.reduceLE, Nat.reduceLT, Nat.reducePow, Int.reducePow, Int.reduceNeg, or_true, true_or, Int.reduceLT, Bool.false_eq_true, if_true, if_false, forall_const, false_implies, true_implies, implies_true, Int.reduceEq, cast_lit, not_true_eq_false, not_false_eq_true, Bool.not_true, Bool.not_false, Bool.not_eq_true', Bool.not_eq_false', Bool.and_true, Bool.true_and, Bool.and_false, Bool.false_and, Bool.or_false, Bool.false_or, Bool.or_true, Bool.true_or, reduceCtorEq, false_and, and_false, or_false, false_or, beq_self_eq_true,
    Option.some.injEq, Prod.mk.injEq, Rv.dat.injEq, Rv.ref.injEq, D.int.injEq, D.bl.injEq, D.str.injEq, D.tup.injEq, D.lst.injEq, D.dic.injEq, D.scr.injEq, List.cons.injEq, and_true, true_and, exists_and_left, exists_and_right, exists_eq_left, exists_eq_left', exists_eq_right, exists_eq_right', exists_eq, exists_eq', exists_const, decide_eq_true_eq, decide_eq_false_iff_not, Bool.and_eq_true, beq_iff_eq, beq_eq_false_iff_ne, ne_eq, decide_true, decide_false, hdR_len, stR_len, hdR_24, hdR_25, hdR_26, hdR_27, hdR_28, hdR_29, hdR_30, stR_16, stR_18, stR_19, stR_20, stR_21, stR_22, stR_23, hdP_25, hdP_26, hdP_27, hdP_28, hdP_29, hdP_30, stP_16, stP_19, stP_20, stP_21, stP_22, stP_23, hdD, List.length_set, set_two, denc_push, denc_swap, denc_pop, denc_top, denc_clear, eqv_optN, plN_optN, isNon_optN, optN_some, optN_none, seenD_some, seenD_none, items_pair, items_vals, phk, kdk, List.getElem?_set_self, List.getElem?_set_ne, List.getElem?_append_left, ltaddr, boxD, cDict, *])
local macro_rules | `(tactic| walk_at "dwf") => `(tactic| simp (config := { maxSteps := 1000000 }) only [and_assoc, natD, mapint_inj, mapnat_inj, denc_inj, wfor_eq, ixD, ixM, cut_one, List.tail_cons, List.tail_nil, eqvs_nil, List.isEmpty_cons, List.isEmpty_nil, plAll_int, plAll_nat, Ss.W, Sm.W, Ex.W, Ex.T, Es.W, wVar, BOp.B, COp.B, Bi.B, IxK.B, bI0, bIC, bEq, bIs, bIn, bIxL, bIxT, bIxS, bIxK, bCat, bCatT, bRep, cLen, cInt, cMin2, cList, cTup, wantB, wAndT, wOrT, wAndV, wOrV, wNotV, lenOf, lstOf_ref, lstOf_lst, seqOf, dicOf_ref, dicOf_dic, wPart, wIter, tstW, mAppend, mPop, mPopAt, mClear, wSetIx, wSetKey, Tg.put, wipeN, Cell.lst.injEq, Cell.dic.injEq, Cell.fz.injEq, List.length_map, tyR, tyD,
    eqv_ii, eqv_ss, eqv_bb, eqv_nn, eqv_ll, eqv_tt, eqn_non_int, eqn_non_str, eqn_non_lst, eqn_non_tup, eqn_non_bl, eqn_non_dic, eqn_int_non, eqn_int_str, eqn_int_lst, eqn_int_tup, eqn_int_dic, eqn_str_non, eqn_str_int, eqn_str_lst, eqn_str_tup, eqn_str_bl, eqn_str_dic, eqn_lst_non, eqn_lst_int, eqn_lst_str, eqn_lst_tup, eqn_lst_bl, eqn_lst_dic, eqn_tup_non, eqn_tup_int, eqn_tup_str, eqn_tup_lst, eqn_tup_bl, eqn_tup_dic, eqn_bl_non, eqn_bl_str, eqn_bl_lst, eqn_bl_tup, eqn_bl_dic, eqvs, atI_lit, cdiv_lit, cmul_r, cmul_l, cpow_lit, nrm_dat, nrm_ref, plN, plAll, rd_dat, rd_ref, rds_nil, rds_cons, rds_map, rdk_nil, rdk_cons,               isNon, tyNames, kbs,
    Option.map_some, Option.map_none, Option.isSome_some, List.getD_cons_zero, List.getD_cons_succ, List.getD_nil, get_app, get_app0, set_app, set_app0, List.length_append, List.append_assoc, List.any_cons, List.any_nil, List.zip_cons_cons, List.zip_nil_left, List.zip_nil_right,
    List.map_cons, List.map_nil, List.cons_append, List.nil_append, List.append_nil, List.length_cons, List.length_nil, List.replicate, List.set_cons_zero, List.set_cons_succ, List.getElem?_cons_zero, List.getElem?_cons_succ, List.set_nil, List.getElem?_nil,
    Nat.reduceAdd, Nat.reduceSub, Nat.reduceBEq, Nat.reduceLeDiff, Nat.reduceEqDiff, Nat.sub_self, Nat.zero_add, Nat.add_zero, Nat.zero_le, Nat.le_add_right, Nat.le_refl, Int.reduceToNat, Int.reduceLE, Nat.reduceLT, Nat.reducePow, Int.reducePow, Int.reduceNeg, or_true, true_or, Int.reduceLT, Bool.false_eq_true, if_true, if_false, forall_const, false_implies, true_implies, implies_true, Int.reduceEq, cast_lit, not_true_eq_false, not_false_eq_true, Bool.not_true, Bool.not_false, Bool.not_eq_true', Bool.not_eq_false', Bool.and_true, Bool.true_and, Bool.and_false, Bool.false_and, Bool.or_false, Bool.false_or, Bool.or_true, Bool.true_or, reduceCtorEq, false_and, and_false, or_false, false_or, beq_self_eq_true,
    Option.some.injEq, Prod.mk.injEq, Rv.dat.injEq, Rv.ref.injEq, D.int.injEq, D.bl.injEq, D.str.injEq, D.tup.injEq, D.lst.injEq, D.dic.injEq, D.scr.injEq, List.cons.injEq, and_true, true_and, exists_and_left, exists_and_right, exists_eq_left, exists_eq_left', exists_eq_right, exists_eq_right', exists_eq, exists_eq', exists_const, decide_eq_true_eq, decide_eq_false_iff_not, Bool.and_eq_true, beq_iff_eq, beq_eq_false_iff_ne, ne_eq, decide_true, decide_false, hdR_len, stR_len, hdR_24, hdR_25, hdR_26, hdR_27, hdR_28, hdR_29, hdR_30, stR_16, stR_18, stR_19, stR_20, stR_21, stR_22, stR_23, hdP_25, hdP_26, hdP_27, hdP_28, hdP_29, hdP_30, stP_16, stP_19, stP_20, stP_21, stP_22, stP_23, hdD, List.length_set, set_two, denc_push, denc_swap, denc_pop, denc_top, denc_clear, eqv_optN, plN_optN, isNon_optN, optN_some, optN_none, seenD_some, seenD_none, items_pair, items_vals, phk, kdk, List.getElem?_set_self, List.getElem?_set_ne, List.getElem?_append_left, ltaddr, boxD, cDict, *])
abbrev fn_mixed : List Str := []
def m_mixed : DW.Ss := (.cons (.set 2 (.bin .modI (.bin .mulI (.bin .addI (.var 0) (.bin .mulI (.int 7919) (.var 1))) (.int 48271)) (.int 2147483647)))
  (.cons (.ret (.bin .modI (.bin .mulI (.var 2) (.var 2)) (.int 2147483629)))
  .nil))
abbrev Ss_mixed : List SpD := []
def S_mixed : SpD := fun rs g Q => match rs with
  | [.dat (.int c), .dat (.int k)] => Q (.dat (.int (mixed c k))) g
  | _ => False
theorem mo_mixed : Mono S_mixed := by
  intro rs g P P2 h
  unfold S_mixed
  split
  · intro q; first | exact h _ _ q | exact ⟨q.1, h _ _ q.2⟩ | exact ⟨q.1, q.2.1, h _ _ q.2.2⟩ | exact q.imp fun _ z => ⟨z.1, h _ _ z.2⟩
  · exact id
theorem len_mixed : ∀ rs g Q, S_mixed rs g Q → rs.length = 2 := by
  intro rs g Q q
  unfold S_mixed at q
  split at q
  · rfl
  · exact q.elim
theorem hS_mixed : ∀ rs g Q, S_mixed rs g Q → m_mixed.W (wd Ss_mixed glF dtF) (rs.map some ++ List.replicate (3 - rs.length) none) g (fun _ g2 => Fin g Q (.dat .non) g2) (Fin g Q) := by
  intro rs g Q q
  unfold S_mixed at q
  split at q
  · rename_i c k
    unfold m_mixed
    walk_at "dw"
    have h1 := Int.emod_nonneg ((c + 7919 * k) * 48271) (show (2147483647 : Int) ≠ 0 by decide)
    have h2 := Int.emod_lt_of_pos ((c + 7919 * k) * 48271) (show (0 : Int) < 2147483647 by decide)
    exact ⟨.inl (by omega), fin_dat [] (by simp) q⟩
  · exact q.elim

end DW

/-! ## F_cell_at.lean -/
set_option Elab.async false
set_option linter.all false
set_option maxRecDepth 100000
set_option maxHeartbeats 4000000
set_option autoImplicit false
namespace DW
open PySem PySem.Spec L2
open PyProof.Rows hiding St

local macro_rules | `(tactic| walk_at "dw") => `(tactic| simp (config := { maxSteps := 1000000 }) only [and_assoc, natD, mapint_inj, mapnat_inj, denc_inj, wfor_eq, ixD, ixM, cut_one, List.tail_cons, List.tail_nil, eqvs_nil, List.isEmpty_cons, List.isEmpty_nil, plAll_int, plAll_nat, Ss.W, Sm.W, Ex.W, Ex.T, Es.W, wVar, BOp.B, COp.B, Bi.B, IxK.B, bI0, bIC, bEq, bIs, bIn, bIxL, bIxT, bIxS, bIxK, bCat, bCatT, bRep, cLen, cInt, cMin2, cList, cTup, wantB, wAndT, wOrT, wAndV, wOrV, wNotV, lenOf, lstOf_ref, lstOf_lst, seqOf, dicOf_ref, dicOf_dic, wPart, wIter, tstW, mAppend, mPop, mPopAt, mClear, wSetIx, wSetKey, Tg.put, wipeN, Cell.lst.injEq, Cell.dic.injEq, Cell.fz.injEq, List.length_map, tyR, tyD,
    eqv_ii, eqv_ss, eqv_bb, eqv_nn, eqv_ll, eqv_tt, eqn_non_int, eqn_non_str, eqn_non_lst, eqn_non_tup, eqn_non_bl, eqn_non_dic, eqn_int_non, eqn_int_str, eqn_int_lst, eqn_int_tup, eqn_int_dic, eqn_str_non, eqn_str_int, eqn_str_lst, eqn_str_tup, eqn_str_bl, eqn_str_dic, eqn_lst_non, eqn_lst_int, eqn_lst_str, eqn_lst_tup, eqn_lst_bl, eqn_lst_dic, eqn_tup_non, eqn_tup_int, eqn_tup_str, eqn_tup_lst, eqn_tup_bl, eqn_tup_dic, eqn_bl_non, eqn_bl_str, eqn_bl_lst, eqn_bl_tup, eqn_bl_dic, eqvs, atI_lit, cdiv_lit, cmul_r, cmul_l, cpow_lit, nrm_dat, nrm_ref, plN, plAll, rd_dat, rd_ref, rds_nil, rds_cons, rds_map, rdk_nil, rdk_cons, wFrz, frz1, wFrzL, frzs, datsN, datsN_map, datsK, isNon, tyNames, kbs,
    Option.map_some, Option.map_none, Option.isSome_some, List.getD_cons_zero, List.getD_cons_succ, List.getD_nil, get_app, get_app0, set_app, set_app0, List.length_append, List.append_assoc, List.any_cons, List.any_nil, List.zip_cons_cons, List.zip_nil_left, List.zip_nil_right,
    List.map_cons, List.map_nil, List.cons_append, List.nil_append, List.append_nil, List.length_cons, List.length_nil, List.replicate, List.set_cons_zero, List.set_cons_succ, List.getElem?_cons_zero, List.getElem?_cons_succ, List.set_nil, List.getElem?_nil,
    Nat.reduceAdd, Nat.reduceSub, Nat.reduceBEq, Nat.reduceLeDiff, Nat.reduceEqDiff, Nat.sub_self, Nat.zero_add, Nat.add_zero, Nat.zero_le, Nat.le_add_right, Nat.le_refl, Int.reduceToNat, Int.reduceLE, Nat.reduceLT, Nat.reducePow, Int.reducePow, Int.reduceNeg, or_true, true_or, Int.reduceLT, Bool.false_eq_true, if_true, if_false, forall_const, false_implies, true_implies, implies_true, Int.reduceEq, cast_lit, not_true_eq_false, not_false_eq_true, Bool.not_true, Bool.not_false, Bool.not_eq_true', Bool.not_eq_false', Bool.and_true, Bool.true_and, Bool.and_false, Bool.false_and, Bool.or_false, Bool.false_or, Bool.or_true, Bool.true_or, reduceCtorEq, false_and, and_false, or_false, false_or, beq_self_eq_true,
    Option.some.injEq, Prod.mk.injEq, Rv.dat.injEq, Rv.ref.injEq, D.int.injEq, D.bl.injEq, D.str.injEq, D.tup.injEq, D.lst.injEq, D.dic.injEq, D.scr.injEq, List.cons.injEq, and_true, true_and, exists_and_left, exists_and_right, exists_eq_left, exists_eq_left', exists_eq_right, exists_eq_right', exists_eq, exists_eq', exists_const, decide_eq_true_eq, decide_eq_false_iff_not, Bool.and_eq_true, beq_iff_eq, beq_eq_false_iff_ne, ne_eq, decide_true, decide_false, hdR_len, stR_len, hdR_24, hdR_25, hdR_26, hdR_27, hdR_28, hdR_29, hdR_30, stR_16, stR_18, stR_19, stR_20, stR_21, stR_22, stR_23, hdP_25, hdP_26, hdP_27, hdP_28, hdP_29, hdP_30, stP_16, stP_19, stP_20, stP_21, stP_22, stP_23, hdD, List.length_set, set_two, denc_push, denc_swap, denc_pop, denc_top, denc_clear, eqv_optN, plN_optN, isNon_optN, optN_some, optN_none, seenD_some, seenD_none, items_pair, items_vals, phk, kdk, List.getElem?_set_self, List.getElem?_set_ne, List.getElem?_append_left, ltaddr, boxD, cDict, S_mixed])
local macro_rules | `(tactic| walk_at "dwh") => `(tactic| simp (config := { maxSteps := 1000000 }) only [and_assoc, natD, mapint_inj, mapnat_inj, denc_inj, wfor_eq, ixD, ixM, cut_one, List.tail_cons, List.tail_nil, eqvs_nil, List.isEmpty_cons, List.isEmpty_nil, plAll_int, plAll_nat, Ss.W, Sm.W, Ex.W, Ex.T, Es.W, wVar, BOp.B, COp.B, Bi.B, IxK.B, bI0, bIC, bEq, bIs, bIn, bIxL, bIxT, bIxS, bIxK, bCat, bCatT, bRep, cLen, cInt, cMin2, cList, cTup, wantB, wAndT, wOrT, wAndV, wOrV, wNotV, lenOf, lstOf_ref, lstOf_lst, seqOf, dicOf_ref, dicOf_dic, wPart, wIter, tstW, mAppend, mPop, mPopAt, mClear, wSetIx, wSetKey, Tg.put, wipeN, Cell.lst.injEq, Cell.dic.injEq, Cell.fz.injEq, List.length_map, tyR, tyD,
    eqv_ii, eqv_ss, eqv_bb, eqv_nn, eqv_ll, eqv_tt, eqn_non_int, eqn_non_str, eqn_non_lst, eqn_non_tup, eqn_non_bl, eqn_non_dic, eqn_int_non, eqn_int_str, eqn_int_lst, eqn_int_tup, eqn_int_dic, eqn_str_non, eqn_str_int, eqn_str_lst, eqn_str_tup, eqn_str_bl, eqn_str_dic, eqn_lst_non, eqn_lst_int, eqn_lst_str, eqn_lst_tup, eqn_lst_bl, eqn_lst_dic, eqn_tup_non, eqn_tup_int, eqn_tup_str, eqn_tup_lst, eqn_tup_bl, eqn_tup_dic, eqn_bl_non, eqn_bl_str, eqn_bl_lst, eqn_bl_tup, eqn_bl_dic, eqvs, atI_lit, cdiv_lit, cmul_r, cmul_l, cpow_lit, nrm_dat, nrm_ref, plN, plAll, rd_dat, rd_ref, rds_nil, rds_cons, rds_map, rdk_nil, rdk_cons, wFrz, frz1, wFrzL, frzs, datsN, datsN_map, datsK, isNon, tyNames, kbs,
    Option.map_some, Option.map_none, Option.isSome_some, List.getD_cons_zero, List.getD_cons_succ, List.getD_nil, get_app, get_app0, set_app, set_app0, List.length_append, List.append_assoc, List.any_cons, List.any_nil, List.zip_cons_cons, List.zip_nil_left, List.zip_nil_right,
    List.map_cons, List.map_nil, List.cons_append, List.nil_append, List.append_nil, List.length_cons, List.length_nil, List.replicate, List.set_cons_zero, List.set_cons_succ, List.getElem?_cons_zero, List.getElem?_cons_succ, List.set_nil, List.getElem?_nil,
    Nat.reduceAdd, Nat.reduceSub, Nat.reduceBEq, Nat.reduceLeDiff, Nat.reduceEqDiff, Nat.sub_self, Nat.zero_add, Nat.add_zero, Nat.zero_le, Nat.le_add_right, Nat.le_refl, Int.reduceToNat, Int.reduceLE, Nat.reduceLT, Nat.reducePow, Int.reducePow, Int.reduceNeg, or_true, true_or, Int.reduceLT, Bool.false_eq_true, if_true, if_false, forall_const, false_implies, true_implies, implies_true, Int.reduceEq, cast_lit, not_true_eq_false, not_false_eq_true, Bool.not_true, Bool.not_false, Bool.not_eq_true', Bool.not_eq_false', Bool.and_true, Bool.true_and, Bool.and_false, Bool.false_and, Bool.or_false, Bool.false_or, Bool.or_true, Bool.true_or, reduceCtorEq, false_and, and_false, or_false, false_or, beq_self_eq_true,
    Option.some.injEq, Prod.mk.injEq, Rv.dat.injEq, Rv.ref.injEq, D.int.injEq, D.bl.injEq, D.str.injEq, D.tup.injEq, D.lst.injEq, D.dic.injEq, D.scr.injEq, List.cons.injEq, and_true, true_and, exists_and_left, exists_and_right, exists_eq_left, exists_eq_left', exists_eq_right, exists_eq_right', exists_eq, exists_eq', exists_const, decide_eq_true_eq, decide_eq_false_iff_not, Bool.and_eq_true, beq_iff_eq, beq_eq_false_iff_ne, ne_eq, decide_true, decide_false, hdR_len, stR_len, hdR_24, hdR_25, hdR_26, hdR_27, hdR_28, hdR_29, hdR_30, stR_16, stR_18, stR_19, stR_20, stR_21, stR_22, stR_23, hdP_25, hdP_26, hdP_27, hdP_28, hdP_29, hdP_30, stP_16, stP_19, stP_20, stP_21, stP_22, stP_23, hdD, List.length_set, set_two, denc_push, denc_swap, denc_pop, denc_top, denc_clear, eqv_optN, plN_optN, isNon_optN, optN_some, optN_none, seenD_some, seenD_none, items_pair, items_vals, phk, kdk, List.getElem?_set_self, List.getElem?_set_ne, List.getElem?_append_left, ltaddr, boxD, cDict, S_mixed, *])
local macro_rules | `(tactic| walk_at "dwf") => `(tactic| simp (config := { maxSteps := 1000000 }) only [and_assoc, natD, mapint_inj, mapnat_inj, denc_inj, wfor_eq, ixD, ixM, cut_one, List.tail_cons, List.tail_nil, eqvs_nil, List.isEmpty_cons, List.isEmpty_nil, plAll_int, plAll_nat, Ss.W, Sm.W, Ex.W, Ex.T, Es.W, wVar, BOp.B, COp.B, Bi.B, IxK.B, bI0, bIC, bEq, bIs, bIn, bIxL, bIxT, bIxS, bIxK, bCat, bCatT, bRep, cLen, cInt, cMin2, cList, cTup, wantB, wAndT, wOrT, wAndV, wOrV, wNotV, lenOf, lstOf_ref, lstOf_lst, seqOf, dicOf_ref, dicOf_dic, wPart, wIter, tstW, mAppend, mPop, mPopAt, mClear, wSetIx, wSetKey, Tg.put, wipeN, Cell.lst.injEq, Cell.dic.injEq, Cell.fz.injEq, List.length_map, tyR, tyD,
    eqv_ii, eqv_ss, eqv_bb, eqv_nn, eqv_ll, eqv_tt, eqn_non_int, eqn_non_str, eqn_non_lst, eqn_non_tup, eqn_non_bl, eqn_non_dic, eqn_int_non, eqn_int_str, eqn_int_lst, eqn_int_tup, eqn_int_dic, eqn_str_non, eqn_str_int, eqn_str_lst, eqn_str_tup, eqn_str_bl, eqn_str_dic, eqn_lst_non, eqn_lst_int, eqn_lst_str, eqn_lst_tup, eqn_lst_bl, eqn_lst_dic, eqn_tup_non, eqn_tup_int, eqn_tup_str, eqn_tup_lst, eqn_tup_bl, eqn_tup_dic, eqn_bl_non, eqn_bl_str, eqn_bl_lst, eqn_bl_tup, eqn_bl_dic, eqvs, atI_lit, cdiv_lit, cmul_r, cmul_l, cpow_lit, nrm_dat, nrm_ref, plN, plAll, rd_dat, rd_ref, rds_nil, rds_cons, rds_map, rdk_nil, rdk_cons,               isNon, tyNames, kbs,
    Option.map_some, Option.map_none, Option.isSome_some, List.getD_cons_zero, List.getD_cons_succ, List.getD_nil, get_app, get_app0, set_app, set_app0, List.length_append, List.append_assoc, List.any_cons, List.any_nil, List.zip_cons_cons, List.zip_nil_left, List.zip_nil_right,
    List.map_cons, List.map_nil, List.cons_append, List.nil_append, List.append_nil, List.length_cons, List.length_nil, List.replicate, List.set_cons_zero, List.set_cons_succ, List.getElem?_cons_zero, List.getElem?_cons_succ, List.set_nil, List.getElem?_nil,
    Nat.reduceAdd, Nat.reduceSub, Nat.reduceBEq, Nat.reduceLeDiff, Nat.reduceEqDiff, Nat.sub_self, Nat.zero_add, Nat.add_zero, Nat.zero_le, Nat.le_add_right, Nat.le_refl, Int.reduceToNat, Int.reduceLE, Nat.reduceLT, Nat.reducePow, Int.reducePow, Int.reduceNeg, or_true, true_or, Int.reduceLT, Bool.false_eq_true, if_true, if_false, forall_const, false_implies, true_implies, implies_true, Int.reduceEq, cast_lit, not_true_eq_false, not_false_eq_true, Bool.not_true, Bool.not_false, Bool.not_eq_true', Bool.not_eq_false', Bool.and_true, Bool.true_and, Bool.and_false, Bool.false_and, Bool.or_false, Bool.false_or, Bool.or_true, Bool.true_or, reduceCtorEq, false_and, and_false, or_false, false_or, beq_self_eq_true,
    Option.some.injEq, Prod.mk.injEq, Rv.dat.injEq, Rv.ref.injEq, D.int.injEq, D.bl.injEq, D.str.injEq, D.tup.injEq, D.lst.injEq, D.dic.injEq, D.scr.injEq, List.cons.injEq, and_true, true_and, exists_and_left, exists_and_right, exists_eq_left, exists_eq_left', exists_eq_right, exists_eq_right', exists_eq, exists_eq', exists_const, decide_eq_true_eq, decide_eq_false_iff_not, Bool.and_eq_true, beq_iff_eq, beq_eq_false_iff_ne, ne_eq, decide_true, decide_false, hdR_len, stR_len, hdR_24, hdR_25, hdR_26, hdR_27, hdR_28, hdR_29, hdR_30, stR_16, stR_18, stR_19, stR_20, stR_21, stR_22, stR_23, hdP_25, hdP_26, hdP_27, hdP_28, hdP_29, hdP_30, stP_16, stP_19, stP_20, stP_21, stP_22, stP_23, hdD, List.length_set, set_two, denc_push, denc_swap, denc_pop, denc_top, denc_clear, eqv_optN, plN_optN, isNon_optN, optN_some, optN_none, seenD_some, seenD_none, items_pair, items_vals, phk, kdk, List.getElem?_set_self, List.getElem?_set_ne, List.getElem?_append_left, ltaddr, boxD, cDict, S_mixed, *])
abbrev fn_cell_at : List Str := ["_law_mixed"]
def m_cell_at : DW.Ss := (.cons (.ite (.cmp .lt (.var 1) (.bi .len (.cons (.var 0) .nil))) (.cons (.ret (.call 0 (.cons (.ix .s (.var 0) (.var 1)) (.cons (.var 1) .nil))))
  .nil) .nil)
  (.cons (.ret (.int 0))
  .nil))
abbrev Ss_cell_at : List SpD := [S_mixed]
def S_cell_at : SpD := fun rs g Q => match rs with
  | [.dat (.scr ns), .dat (.int k)] => 0 ≤ k ∧ Q (.dat (.int (cellAt ns k.toNat))) g
  | _ => False
theorem mo_cell_at : Mono S_cell_at := by
  intro rs g P P2 h
  unfold S_cell_at
  split
  · intro q; first | exact h _ _ q | exact ⟨q.1, h _ _ q.2⟩ | exact ⟨q.1, q.2.1, h _ _ q.2.2⟩ | exact q.imp fun _ z => ⟨z.1, h _ _ z.2⟩
  · exact id
theorem len_cell_at : ∀ rs g Q, S_cell_at rs g Q → rs.length = 2 := by
  intro rs g Q q
  unfold S_cell_at at q
  split at q
  · rfl
  · exact q.elim
theorem hS_cell_at : ∀ rs g Q, S_cell_at rs g Q → m_cell_at.W (wd Ss_cell_at glF dtF) (rs.map some ++ List.replicate (2 - rs.length) none) g (fun _ g2 => Fin g Q (.dat .non) g2) (Fin g Q) := by
  intro rs g Q q
  unfold S_cell_at at q
  split at q
  · rename_i ns k
    unfold m_cell_at
    obtain ⟨hk0, q⟩ := q
    obtain ⟨k, rfl⟩ := Int.eq_ofNat_of_zero_le hk0
    rw [Int.toNat_natCast] at q
    walk_at "dw"
    refine ⟨fun h => ?_, fun h => ?_⟩
    · have hk : k < ns.length := by omega
      refine ⟨ns[k], atI_nat' (List.getElem?_eq_getElem hk), fin_dat [] (by simp) ?_⟩
      have : cellAt ns k = mixed ns[k] k := by unfold cellAt; rw [List.getElem?_eq_getElem hk]
      rw [this] at q; exact q
    · refine fin_dat [] (by simp) ?_
      have : cellAt ns k = 0 := by unfold cellAt; rw [List.getElem?_eq_none (by omega)]
      rw [this] at q; exact q
  · exact q.elim

end DW

/-! ## F_cells.lean -/
set_option Elab.async false
set_option linter.all false
set_option maxRecDepth 100000
set_option maxHeartbeats 4000000
set_option autoImplicit false
namespace DW
open PySem PySem.Spec L2
open PyProof.Rows hiding St

local macro_rules | `(tactic| walk_at "dw") => `(tactic| simp (config := { maxSteps := 1000000 }) only [and_assoc, natD, mapint_inj, mapnat_inj, denc_inj, wfor_eq, ixD, ixM, cut_one, List.tail_cons, List.tail_nil, eqvs_nil, List.isEmpty_cons, List.isEmpty_nil, plAll_int, plAll_nat, Ss.W, Sm.W, Ex.W, Ex.T, Es.W, wVar, BOp.B, COp.B, Bi.B, IxK.B, bI0, bIC, bEq, bIs, bIn, bIxL, bIxT, bIxS, bIxK, bCat, bCatT, bRep, cLen, cInt, cMin2, cList, cTup, wantB, wAndT, wOrT, wAndV, wOrV, wNotV, lenOf, lstOf_ref, lstOf_lst, seqOf, dicOf_ref, dicOf_dic, wPart, wIter, tstW, mAppend, mPop, mPopAt, mClear, wSetIx, wSetKey, Tg.put, wipeN, Cell.lst.injEq, Cell.dic.injEq, Cell.fz.injEq, List.length_map, tyR, tyD,
    eqv_ii, eqv_ss, eqv_bb, eqv_nn, eqv_ll, eqv_tt, eqn_non_int, eqn_non_str, eqn_non_lst, eqn_non_tup, eqn_non_bl, eqn_non_dic, eqn_int_non, eqn_int_str, eqn_int_lst, eqn_int_tup, eqn_int_dic, eqn_str_non, eqn_str_int, eqn_str_lst, eqn_str_tup, eqn_str_bl, eqn_str_dic, eqn_lst_non, eqn_lst_int, eqn_lst_str, eqn_lst_tup, eqn_lst_bl, eqn_lst_dic, eqn_tup_non, eqn_tup_int, eqn_tup_str, eqn_tup_lst, eqn_tup_bl, eqn_tup_dic, eqn_bl_non, eqn_bl_str, eqn_bl_lst, eqn_bl_tup, eqn_bl_dic, eqvs, atI_lit, cdiv_lit, cmul_r, cmul_l, cpow_lit, nrm_dat, nrm_ref, plN, plAll, rd_dat, rd_ref, rds_nil, rds_cons, rds_map, rdk_nil, rdk_cons, wFrz, frz1, wFrzL, frzs, datsN, datsN_map, datsK, isNon, tyNames, kbs,
    Option.map_some, Option.map_none, Option.isSome_some, List.getD_cons_zero, List.getD_cons_succ, List.getD_nil, get_app, get_app0, set_app, set_app0, List.length_append, List.append_assoc, List.any_cons, List.any_nil, List.zip_cons_cons, List.zip_nil_left, List.zip_nil_right,
    List.map_cons, List.map_nil, List.cons_append, List.nil_append, List.append_nil, List.length_cons, List.length_nil, List.replicate, List.set_cons_zero, List.set_cons_succ, List.getElem?_cons_zero, List.getElem?_cons_succ, List.set_nil, List.getElem?_nil,
    Nat.reduceAdd, Nat.reduceSub, Nat.reduceBEq, Nat.reduceLeDiff, Nat.reduceEqDiff, Nat.sub_self, Nat.zero_add, Nat.add_zero, Nat.zero_le, Nat.le_add_right, Nat.le_refl, Int.reduceToNat, Int.reduceLE, Nat.reduceLT, Nat.reducePow, Int.reducePow, Int.reduceNeg, or_true, true_or, Int.reduceLT, Bool.false_eq_true, if_true, if_false, forall_const, false_implies, true_implies, implies_true, Int.reduceEq, cast_lit, not_true_eq_false, not_false_eq_true, Bool.not_true, Bool.not_false, Bool.not_eq_true', Bool.not_eq_false', Bool.and_true, Bool.true_and, Bool.and_false, Bool.false_and, Bool.or_false, Bool.false_or, Bool.or_true, Bool.true_or, reduceCtorEq, false_and, and_false, or_false, false_or, beq_self_eq_true,
    Option.some.injEq, Prod.mk.injEq, Rv.dat.injEq, Rv.ref.injEq, D.int.injEq, D.bl.injEq, D.str.injEq, D.tup.injEq, D.lst.injEq, D.dic.injEq, D.scr.injEq, List.cons.injEq, and_true, true_and, exists_and_left, exists_and_right, exists_eq_left, exists_eq_left', exists_eq_right, exists_eq_right', exists_eq, exists_eq', exists_const, decide_eq_true_eq, decide_eq_false_iff_not, Bool.and_eq_true, beq_iff_eq, beq_eq_false_iff_ne, ne_eq, decide_true, decide_false, hdR_len, stR_len, hdR_24, hdR_25, hdR_26, hdR_27, hdR_28, hdR_29, hdR_30, stR_16, stR_18, stR_19, stR_20, stR_21, stR_22, stR_23, hdP_25, hdP_26, hdP_27, hdP_28, hdP_29, hdP_30, stP_16, stP_19, stP_20, stP_21, stP_22, stP_23, hdD, List.length_set, set_two, denc_push, denc_swap, denc_pop, denc_top, denc_clear, eqv_optN, plN_optN, isNon_optN, optN_some, optN_none, seenD_some, seenD_none, items_pair, items_vals, phk, kdk, List.getElem?_set_self, List.getElem?_set_ne, List.getElem?_append_left, ltaddr, boxD, cDict, S_mixed])
local macro_rules | `(tactic| walk_at "dwh") => `(tactic| simp (config := { maxSteps := 1000000 }) only [and_assoc, natD, mapint_inj, mapnat_inj, denc_inj, wfor_eq, ixD, ixM, cut_one, List.tail_cons, List.tail_nil, eqvs_nil, List.isEmpty_cons, List.isEmpty_nil, plAll_int, plAll_nat, Ss.W, Sm.W, Ex.W, Ex.T, Es.W, wVar, BOp.B, COp.B, Bi.B, IxK.B, bI0, bIC, bEq, bIs, bIn, bIxL, bIxT, bIxS, bIxK, bCat, bCatT, bRep, cLen, cInt, cMin2, cList, cTup, wantB, wAndT, wOrT, wAndV, wOrV, wNotV, lenOf, lstOf_ref, lstOf_lst, seqOf, dicOf_ref, dicOf_dic, wPart, wIter, tstW, mAppend, mPop, mPopAt, mClear, wSetIx, wSetKey, Tg.put, wipeN, Cell.lst.injEq, Cell.dic.injEq, Cell.fz.injEq, List.length_map, tyR, tyD,
    eqv_ii, eqv_ss, eqv_bb, eqv_nn, eqv_ll, eqv_tt, eqn_non_int, eqn_non_str, eqn_non_lst, eqn_non_tup, eqn_non_bl, eqn_non_dic, eqn_int_non, eqn_int_str, eqn_int_lst, eqn_int_tup, eqn_int_dic, eqn_str_non, eqn_str_int, eqn_str_lst, eqn_str_tup, eqn_str_bl, eqn_str_dic, eqn_lst_non, eqn_lst_int, eqn_lst_str, eqn_lst_tup, eqn_lst_bl, eqn_lst_dic, eqn_tup_non, eqn_tup_int, eqn_tup_str, eqn_tup_lst, eqn_tup_bl, eqn_tup_dic, eqn_bl_non, eqn_bl_str, eqn_bl_lst, eqn_bl_tup, eqn_bl_dic, eqvs, atI_lit, cdiv_lit, cmul_r, cmul_l, cpow_lit, nrm_dat, nrm_ref, plN, plAll, rd_dat, rd_ref, rds_nil, rds_cons, rds_map, rdk_nil, rdk_cons, wFrz, frz1, wFrzL, frzs, datsN, datsN_map, datsK, isNon, tyNames, kbs,
    Option.map_some, Option.map_none, Option.isSome_some, List.getD_cons_zero, List.getD_cons_succ, List.getD_nil, get_app, get_app0, set_app, set_app0, List.length_append, List.append_assoc, List.any_cons, List.any_nil, List.zip_cons_cons, List.zip_nil_left, List.zip_nil_right,
    List.map_cons, List.map_nil, List.cons_append, List.nil_append, List.append_nil, List.length_cons, List.length_nil, List.replicate, List.set_cons_zero, List.set_cons_succ, List.getElem?_cons_zero, List.getElem?_cons_succ, List.set_nil, List.getElem?_nil,
    Nat.reduceAdd, Nat.reduceSub, Nat.reduceBEq, Nat.reduceLeDiff, Nat.reduceEqDiff, Nat.sub_self, Nat.zero_add, Nat.add_zero, Nat.zero_le, Nat.le_add_right, Nat.le_refl, Int.reduceToNat, Int.reduceLE, Nat.reduceLT, Nat.reducePow, Int.reducePow, Int.reduceNeg, or_true, true_or, Int.reduceLT, Bool.false_eq_true, if_true, if_false, forall_const, false_implies, true_implies, implies_true, Int.reduceEq, cast_lit, not_true_eq_false, not_false_eq_true, Bool.not_true, Bool.not_false, Bool.not_eq_true', Bool.not_eq_false', Bool.and_true, Bool.true_and, Bool.and_false, Bool.false_and, Bool.or_false, Bool.false_or, Bool.or_true, Bool.true_or, reduceCtorEq, false_and, and_false, or_false, false_or, beq_self_eq_true,
    Option.some.injEq, Prod.mk.injEq, Rv.dat.injEq, Rv.ref.injEq, D.int.injEq, D.bl.injEq, D.str.injEq, D.tup.injEq, D.lst.injEq, D.dic.injEq, D.scr.injEq, List.cons.injEq, and_true, true_and, exists_and_left, exists_and_right, exists_eq_left, exists_eq_left', exists_eq_right, exists_eq_right', exists_eq, exists_eq', exists_const, decide_eq_true_eq, decide_eq_false_iff_not, Bool.and_eq_true, beq_iff_eq, beq_eq_false_iff_ne, ne_eq, decide_true, decide_false, hdR_len, stR_len, hdR_24, hdR_25, hdR_26, hdR_27, hdR_28, hdR_29, hdR_30, stR_16, stR_18, stR_19, stR_20, stR_21, stR_22, stR_23, hdP_25, hdP_26, hdP_27, hdP_28, hdP_29, hdP_30, stP_16, stP_19, stP_20, stP_21, stP_22, stP_23, hdD, List.length_set, set_two, denc_push, denc_swap, denc_pop, denc_top, denc_clear, eqv_optN, plN_optN, isNon_optN, optN_some, optN_none, seenD_some, seenD_none, items_pair, items_vals, phk, kdk, List.getElem?_set_self, List.getElem?_set_ne, List.getElem?_append_left, ltaddr, boxD, cDict, S_mixed, *])
local macro_rules | `(tactic| walk_at "dwf") => `(tactic| simp (config := { maxSteps := 1000000 }) only [and_assoc, natD, mapint_inj, mapnat_inj, denc_inj, wfor_eq, ixD, ixM, cut_one, List.tail_cons, List.tail_nil, eqvs_nil, List.isEmpty_cons, List.isEmpty_nil, plAll_int, plAll_nat, Ss.W, Sm.W, Ex.W, Ex.T, Es.W, wVar, BOp.B, COp.B, Bi.B, IxK.B, bI0, bIC, bEq, bIs, bIn, bIxL, bIxT, bIxS, bIxK, bCat, bCatT, bRep, cLen, cInt, cMin2, cList, cTup, wantB, wAndT, wOrT, wAndV, wOrV, wNotV, lenOf, lstOf_ref, lstOf_lst, seqOf, dicOf_ref, dicOf_dic, wPart, wIter, tstW, mAppend, mPop, mPopAt, mClear, wSetIx, wSetKey, Tg.put, wipeN, Cell.lst.injEq, Cell.dic.injEq, Cell.fz.injEq, List.length_map, tyR, tyD,
    eqv_ii, eqv_ss, eqv_bb, eqv_nn, eqv_ll, eqv_tt, eqn_non_int, eqn_non_str, eqn_non_lst, eqn_non_tup, eqn_non_bl, eqn_non_dic, eqn_int_non, eqn_int_str, eqn_int_lst, eqn_int_tup, eqn_int_dic, eqn_str_non, eqn_str_int, eqn_str_lst, eqn_str_tup, eqn_str_bl, eqn_str_dic, eqn_lst_non, eqn_lst_int, eqn_lst_str, eqn_lst_tup, eqn_lst_bl, eqn_lst_dic, eqn_tup_non, eqn_tup_int, eqn_tup_str, eqn_tup_lst, eqn_tup_bl, eqn_tup_dic, eqn_bl_non, eqn_bl_str, eqn_bl_lst, eqn_bl_tup, eqn_bl_dic, eqvs, atI_lit, cdiv_lit, cmul_r, cmul_l, cpow_lit, nrm_dat, nrm_ref, plN, plAll, rd_dat, rd_ref, rds_nil, rds_cons, rds_map, rdk_nil, rdk_cons,               isNon, tyNames, kbs,
    Option.map_some, Option.map_none, Option.isSome_some, List.getD_cons_zero, List.getD_cons_succ, List.getD_nil, get_app, get_app0, set_app, set_app0, List.length_append, List.append_assoc, List.any_cons, List.any_nil, List.zip_cons_cons, List.zip_nil_left, List.zip_nil_right,
    List.map_cons, List.map_nil, List.cons_append, List.nil_append, List.append_nil, List.length_cons, List.length_nil, List.replicate, List.set_cons_zero, List.set_cons_succ, List.getElem?_cons_zero, List.getElem?_cons_succ, List.set_nil, List.getElem?_nil,
    Nat.reduceAdd, Nat.reduceSub, Nat.reduceBEq, Nat.reduceLeDiff, Nat.reduceEqDiff, Nat.sub_self, Nat.zero_add, Nat.add_zero, Nat.zero_le, Nat.le_add_right, Nat.le_refl, Int.reduceToNat, Int.reduceLE, Nat.reduceLT, Nat.reducePow, Int.reducePow, Int.reduceNeg, or_true, true_or, Int.reduceLT, Bool.false_eq_true, if_true, if_false, forall_const, false_implies, true_implies, implies_true, Int.reduceEq, cast_lit, not_true_eq_false, not_false_eq_true, Bool.not_true, Bool.not_false, Bool.not_eq_true', Bool.not_eq_false', Bool.and_true, Bool.true_and, Bool.and_false, Bool.false_and, Bool.or_false, Bool.false_or, Bool.or_true, Bool.true_or, reduceCtorEq, false_and, and_false, or_false, false_or, beq_self_eq_true,
    Option.some.injEq, Prod.mk.injEq, Rv.dat.injEq, Rv.ref.injEq, D.int.injEq, D.bl.injEq, D.str.injEq, D.tup.injEq, D.lst.injEq, D.dic.injEq, D.scr.injEq, List.cons.injEq, and_true, true_and, exists_and_left, exists_and_right, exists_eq_left, exists_eq_left', exists_eq_right, exists_eq_right', exists_eq, exists_eq', exists_const, decide_eq_true_eq, decide_eq_false_iff_not, Bool.and_eq_true, beq_iff_eq, beq_eq_false_iff_ne, ne_eq, decide_true, decide_false, hdR_len, stR_len, hdR_24, hdR_25, hdR_26, hdR_27, hdR_28, hdR_29, hdR_30, stR_16, stR_18, stR_19, stR_20, stR_21, stR_22, stR_23, hdP_25, hdP_26, hdP_27, hdP_28, hdP_29, hdP_30, stP_16, stP_19, stP_20, stP_21, stP_22, stP_23, hdD, List.length_set, set_two, denc_push, denc_swap, denc_pop, denc_top, denc_clear, eqv_optN, plN_optN, isNon_optN, optN_some, optN_none, seenD_some, seenD_none, items_pair, items_vals, phk, kdk, List.getElem?_set_self, List.getElem?_set_ne, List.getElem?_append_left, ltaddr, boxD, cDict, S_mixed, *])
abbrev fn_cells : List Str := ["_law_mixed"]
def b_cells_0 : DW.Ex := (.call 0 (.cons (.ix .s (.var 0) (.var 3)) (.cons (.var 3) .nil)))
def m_cells : DW.Ss := (.cons (.ret (.comp b_cells_0 (.name 3) .r2 (.var 1) (.bi .min2 (.cons (.var 2) (.cons (.bi .len (.cons (.var 0) .nil)) .nil))) false .non [3]))
  .nil)
abbrev Ss_cells : List SpD := [S_mixed]
def cellsL (ns : List Int) (a b : Nat) : List Int := (List.range (min b ns.length - a)).map fun i => mixed (ns.getD (a + i) 0) ((a : Int) + (i : Int))
theorem cellsL_len (ns : List Int) (a b : Nat) : (cellsL ns a b).length ≤ b - a := by unfold cellsL; rw [List.length_map, List.length_range]; omega
theorem cellsL_mem {ns : List Int} {a b : Nat} {c : Int} (h : c ∈ cellsL ns a b) : 0 ≤ c ∧ c < 2147483629 := by
  unfold cellsL at h
  obtain ⟨i, _, rfl⟩ := List.mem_map.mp h
  exact ⟨mixed_lo _ _, mixed_hi _ _⟩
def S_cells : SpD := fun rs g Q => ∃ (ns : List Int) (a b : Nat), rs = [.dat (.scr ns), .dat (.int (a : Int)), .dat (.int (b : Int))] ∧ (ns.length ≤ 63 ∧ a ≤ 100 ∧ b ≤ 100 ∧ Q (.dat (.lst ((cellsL ns a b).map .int))) g)
theorem mo_cells : Mono S_cells := by
  rintro rs g P P2 hPP ⟨ns, a, b, eRS, q⟩
  refine ⟨ns, a, b, eRS, ?_⟩
  first | exact hPP _ _ q | exact ⟨q.1, hPP _ _ q.2⟩ | exact ⟨q.1, q.2.1, hPP _ _ q.2.2⟩ | exact ⟨q.1, q.2.1, q.2.2.1, hPP _ _ q.2.2.2⟩ | exact ⟨q.1, q.2.1, q.2.2.1, q.2.2.2.1, hPP _ _ q.2.2.2.2⟩ | exact ⟨q.1, fun x hx => hPP _ _ (q.2 x hx)⟩ | exact ⟨q.1, q.2.1, fun x hx => hPP _ _ (q.2.2 x hx)⟩ | exact ⟨q.1, q.2.1, fun x hx hy => hPP _ _ (q.2.2 x hx hy)⟩ | exact ⟨q.1, fun x y h1 => hPP _ _ (q.2 x y h1)⟩ | exact ⟨q.1, fun x y h1 h2 => hPP _ _ (q.2 x y h1 h2)⟩ | exact ⟨q.1, fun x h1 h2 => hPP _ _ (q.2 x h1 h2)⟩
theorem len_cells : ∀ rs g Q, S_cells rs g Q → rs.length = 3 := by
  rintro rs g Q ⟨ns, a, b, rfl, q⟩
  rfl
theorem hS_cells : ∀ rs g Q, S_cells rs g Q → m_cells.W (wd Ss_cells glF dtF) (rs.map some ++ List.replicate (4 - rs.length) none) g (fun _ g2 => Fin g Q (.dat .non) g2) (Fin g Q) := by
  rintro rs g Q ⟨ns, a, b, rfl, q⟩
  unfold m_cells
  obtain ⟨hl, ha, hb, q⟩ := q

  walk_at "dwh"
  refine ⟨by omega, by omega, by omega, by omega, ?_⟩
  have e : ((if (ns.length : Int) < (b : Int) then (ns.length : Int) else (b : Int)) - (a : Int)).toNat = min b ns.length - a := by split <;> omega
  rw [e]
  refine comp_map (fun i => .int (mixed (ns.getD (a + i) 0) ((a : Int) + (i : Int)))) (by rw [rngs_length]; omega) (fun _ => trivial) ?_ ?_
  · rintro k r l P hr hP
    have hk := (List.getElem?_eq_some_iff.mp hr).1
    rw [rngs_length] at hk
    rw [rngs_get hk] at hr
    cases hr
    refine ⟨_, rfl, ?_⟩
    unfold b_cells_0
    have h := hP []
    have hat : atI ns ((a : Int) + (k : Int)) = some (ns.getD (a + k) 0) := by
      have := atI_nat' (xs := ns) (n := a + k) (x := ns.getD (a + k) 0) (by rw [List.getD_eq_getElem?_getD, List.getElem?_eq_getElem (by omega)]; rfl)
      rw [← this]; congr 1
    rw [List.append_nil] at h
    clear hP
    walk_at "dwh"
  · intro j
    rw [rngs_length]
    refine fin_frz (.lst ((cellsL ns a b).map .int)) _ rfl ?_ q
    have e2 : (List.range (min b ns.length - a)).map (fun (i : Nat) => D.int (mixed (ns.getD (a + i) 0) ((a : Int) + (i : Int)))) = (cellsL ns a b).map .int := by unfold cellsL; rw [List.map_map]; rfl
    rw [e2]
    walk_at "dw"

end DW

/-! ## F_value_by.lean -/
set_option Elab.async false
set_option linter.all false
set_option maxRecDepth 100000
set_option maxHeartbeats 4000000
set_option autoImplicit false
namespace DW
open PySem PySem.Spec L2
open PyProof.Rows hiding St

local macro_rules | `(tactic| walk_at "dw") => `(tactic| simp (config := { maxSteps := 1000000 }) only [and_assoc, natD, mapint_inj, mapnat_inj, denc_inj, wfor_eq, ixD, ixM, cut_one, List.tail_cons, List.tail_nil, eqvs_nil, List.isEmpty_cons, List.isEmpty_nil, plAll_int, plAll_nat, Ss.W, Sm.W, Ex.W, Ex.T, Es.W, wVar, BOp.B, COp.B, Bi.B, IxK.B, bI0, bIC, bEq, bIs, bIn, bIxL, bIxT, bIxS, bIxK, bCat, bCatT, bRep, cLen, cInt, cMin2, cList, cTup, wantB, wAndT, wOrT, wAndV, wOrV, wNotV, lenOf, lstOf_ref, lstOf_lst, seqOf, dicOf_ref, dicOf_dic, wPart, wIter, tstW, mAppend, mPop, mPopAt, mClear, wSetIx, wSetKey, Tg.put, wipeN, Cell.lst.injEq, Cell.dic.injEq, Cell.fz.injEq, List.length_map, tyR, tyD,
    eqv_ii, eqv_ss, eqv_bb, eqv_nn, eqv_ll, eqv_tt, eqn_non_int, eqn_non_str, eqn_non_lst, eqn_non_tup, eqn_non_bl, eqn_non_dic, eqn_int_non, eqn_int_str, eqn_int_lst, eqn_int_tup, eqn_int_dic, eqn_str_non, eqn_str_int, eqn_str_lst, eqn_str_tup, eqn_str_bl, eqn_str_dic, eqn_lst_non, eqn_lst_int, eqn_lst_str, eqn_lst_tup, eqn_lst_bl, eqn_lst_dic, eqn_tup_non, eqn_tup_int, eqn_tup_str, eqn_tup_lst, eqn_tup_bl, eqn_tup_dic, eqn_bl_non, eqn_bl_str, eqn_bl_lst, eqn_bl_tup, eqn_bl_dic, eqvs, atI_lit, cdiv_lit, cmul_r, cmul_l, cpow_lit, nrm_dat, nrm_ref, plN, plAll, rd_dat, rd_ref, rds_nil, rds_cons, rds_map, rdk_nil, rdk_cons, wFrz, frz1, wFrzL, frzs, datsN, datsN_map, datsK, isNon, tyNames, kbs,
    Option.map_some, Option.map_none, Option.isSome_some, List.getD_cons_zero, List.getD_cons_succ, List.getD_nil, get_app, get_app0, set_app, set_app0, List.length_append, List.append_assoc, List.any_cons, List.any_nil, List.zip_cons_cons, List.zip_nil_left, List.zip_nil_right,
    List.map_cons, List.map_nil, List.cons_append, List.nil_append, List.append_nil, List.length_cons, List.length_nil, List.replicate, List.set_cons_zero, List.set_cons_succ, List.getElem?_cons_zero, List.getElem?_cons_succ, List.set_nil, List.getElem?_nil,
    Nat.reduceAdd, Nat.reduceSub, Nat.reduceBEq, Nat.reduceLeDiff, Nat.reduceEqDiff, Nat.sub_self, Nat.zero_add, Nat.add_zero, Nat.zero_le, Nat.le_add_right, Nat.le_refl, Int.reduceToNat, Int.reduceLE, Nat.reduceLT, Nat.reducePow, Int.reducePow, Int.reduceNeg, or_true, true_or, Int.reduceLT, Bool.false_eq_true, if_true, if_false, forall_const, false_implies, true_implies, implies_true, Int.reduceEq, cast_lit, not_true_eq_false, not_false_eq_true, Bool.not_true, Bool.not_false, Bool.not_eq_true', Bool.not_eq_false', Bool.and_true, Bool.true_and, Bool.and_false, Bool.false_and, Bool.or_false, Bool.false_or, Bool.or_true, Bool.true_or, reduceCtorEq, false_and, and_false, or_false, false_or, beq_self_eq_true,
    Option.some.injEq, Prod.mk.injEq, Rv.dat.injEq, Rv.ref.injEq, D.int.injEq, D.bl.injEq, D.str.injEq, D.tup.injEq, D.lst.injEq, D.dic.injEq, D.scr.injEq, List.cons.injEq, and_true, true_and, exists_and_left, exists_and_right, exists_eq_left, exists_eq_left', exists_eq_right, exists_eq_right', exists_eq, exists_eq', exists_const, decide_eq_true_eq, decide_eq_false_iff_not, Bool.and_eq_true, beq_iff_eq, beq_eq_false_iff_ne, ne_eq, decide_true, decide_false, hdR_len, stR_len, hdR_24, hdR_25, hdR_26, hdR_27, hdR_28, hdR_29, hdR_30, stR_16, stR_18, stR_19, stR_20, stR_21, stR_22, stR_23, hdP_25, hdP_26, hdP_27, hdP_28, hdP_29, hdP_30, stP_16, stP_19, stP_20, stP_21, stP_22, stP_23, hdD, List.length_set, set_two, denc_push, denc_swap, denc_pop, denc_top, denc_clear, eqv_optN, plN_optN, isNon_optN, optN_some, optN_none, seenD_some, seenD_none, items_pair, items_vals, phk, kdk, List.getElem?_set_self, List.getElem?_set_ne, List.getElem?_append_left, ltaddr, boxD, cDict])
local macro_rules | `(tactic| walk_at "dwh") => `(tactic| simp (config := { maxSteps := 1000000 }) only [and_assoc, natD, mapint_inj, mapnat_inj, denc_inj, wfor_eq, ixD, ixM, cut_one, List.tail_cons, List.tail_nil, eqvs_nil, List.isEmpty_cons, List.isEmpty_nil, plAll_int, plAll_nat, Ss.W, Sm.W, Ex.W, Ex.T, Es.W, wVar, BOp.B, COp.B, Bi.B, IxK.B, bI0, bIC, bEq, bIs, bIn, bIxL, bIxT, bIxS, bIxK, bCat, bCatT, bRep, cLen, cInt, cMin2, cList, cTup, wantB, wAndT, wOrT, wAndV, wOrV, wNotV, lenOf, lstOf_ref, lstOf_lst, seqOf, dicOf_ref, dicOf_dic, wPart, wIter, tstW, mAppend, mPop, mPopAt, mClear, wSetIx, wSetKey, Tg.put, wipeN, Cell.lst.injEq, Cell.dic.injEq, Cell.fz.injEq, List.length_map, tyR, tyD,
    eqv_ii, eqv_ss, eqv_bb, eqv_nn, eqv_ll, eqv_tt, eqn_non_int, eqn_non_str, eqn_non_lst, eqn_non_tup, eqn_non_bl, eqn_non_dic, eqn_int_non, eqn_int_str, eqn_int_lst, eqn_int_tup, eqn_int_dic, eqn_str_non, eqn_str_int, eqn_str_lst, eqn_str_tup, eqn_str_bl, eqn_str_dic, eqn_lst_non, eqn_lst_int, eqn_lst_str, eqn_lst_tup, eqn_lst_bl, eqn_lst_dic, eqn_tup_non, eqn_tup_int, eqn_tup_str, eqn_tup_lst, eqn_tup_bl, eqn_tup_dic, eqn_bl_non, eqn_bl_str, eqn_bl_lst, eqn_bl_tup, eqn_bl_dic, eqvs, atI_lit, cdiv_lit, cmul_r, cmul_l, cpow_lit, nrm_dat, nrm_ref, plN, plAll, rd_dat, rd_ref, rds_nil, rds_cons, rds_map, rdk_nil, rdk_cons, wFrz, frz1, wFrzL, frzs, datsN, datsN_map, datsK, isNon, tyNames, kbs,
    Option.map_some, Option.map_none, Option.isSome_some, List.getD_cons_zero, List.getD_cons_succ, List.getD_nil, get_app, get_app0, set_app, set_app0, List.length_append, List.append_assoc, List.any_cons, List.any_nil, List.zip_cons_cons, List.zip_nil_left, List.zip_nil_right,
    List.map_cons, List.map_nil, List.cons_append, List.nil_append, List.append_nil, List.length_cons, List.length_nil, List.replicate, List.set_cons_zero, List.set_cons_succ, List.getElem?_cons_zero, List.getElem?_cons_succ, List.set_nil, List.getElem?_nil,
    Nat.reduceAdd, Nat.reduceSub, Nat.reduceBEq, Nat.reduceLeDiff, Nat.reduceEqDiff, Nat.sub_self, Nat.zero_add, Nat.add_zero, Nat.zero_le, Nat.le_add_right, Nat.le_refl, Int.reduceToNat, Int.reduceLE, Nat.reduceLT, Nat.reducePow, Int.reducePow, Int.reduceNeg, or_true, true_or, Int.reduceLT, Bool.false_eq_true, if_true, if_false, forall_const, false_implies, true_implies, implies_true, Int.reduceEq, cast_lit, not_true_eq_false, not_false_eq_true, Bool.not_true, Bool.not_false, Bool.not_eq_true', Bool.not_eq_false', Bool.and_true, Bool.true_and, Bool.and_false, Bool.false_and, Bool.or_false, Bool.false_or, Bool.or_true, Bool.true_or, reduceCtorEq, false_and, and_false, or_false, false_or, beq_self_eq_true,
    Option.some.injEq, Prod.mk.injEq, Rv.dat.injEq, Rv.ref.injEq, D.int.injEq, D.bl.injEq, D.str.injEq, D.tup.injEq, D.lst.injEq, D.dic.injEq, D.scr.injEq, List.cons.injEq, and_true, true_and, exists_and_left, exists_and_right, exists_eq_left, exists_eq_left', exists_eq_right, exists_eq_right', exists_eq, exists_eq', exists_const, decide_eq_true_eq, decide_eq_false_iff_not, Bool.and_eq_true, beq_iff_eq, beq_eq_false_iff_ne, ne_eq, decide_true, decide_false, hdR_len, stR_len, hdR_24, hdR_25, hdR_26, hdR_27, hdR_28, hdR_29, hdR_30, stR_16, stR_18, stR_19, stR_20, stR_21, stR_22, stR_23, hdP_25, hdP_26, hdP_27, hdP_28, hdP_29, hdP_30, stP_16, stP_19, stP_20, stP_21, stP_22, stP_23, hdD, List.length_set, set_two, denc_push, denc_swap, denc_pop, denc_top, denc_clear, eqv_optN, plN_optN, isNon_optN, optN_some, optN_none, seenD_some, seenD_none, items_pair, items_vals, phk, kdk, List.getElem?_set_self, List.getElem?_set_ne, List.getElem?_append_left, ltaddr, boxD, cDict, *])
local macro_rules | `(tactic| walk_at "dwf") => `(tactic| simp (config := { maxSteps := 1000000 }) only [and_assoc, natD, mapint_inj, mapnat_inj, denc_inj, wfor_eq, ixD, ixM, cut_one, List.tail_cons, List.tail_nil, eqvs_nil, List.isEmpty_cons, List.isEmpty_nil, plAll_int, plAll_nat, Ss.W, Sm.W, Ex.W, Ex.T, Es.W, wVar, BOp.B, COp.B, Bi.B, IxK.B, bI0, bIC, bEq, bIs, bIn, bIxL, bIxT, bIxS, bIxK, bCat, bCatT, bRep, cLen, cInt, cMin2, cList, cTup, wantB, wAndT, wOrT, wAndV, wOrV, wNotV, lenOf, lstOf_ref, lstOf_lst, seqOf, dicOf_ref, dicOf_dic, wPart, wIter, tstW, mAppend, mPop, mPopAt, mClear, wSetIx, wSetKey, Tg.put, wipeN, Cell.lst.injEq, Cell.dic.injEq, Cell.fz.injEq, List.length_map, tyR, tyD,
    eqv_ii, eqv_ss, eqv_bb, eqv_nn, eqv_ll, eqv_tt, eqn_non_int, eqn_non_str, eqn_non_lst, eqn_non_tup, eqn_non_bl, eqn_non_dic, eqn_int_non, eqn_int_str, eqn_int_lst, eqn_int_tup, eqn_int_dic, eqn_str_non, eqn_str_int, eqn_str_lst, eqn_str_tup, eqn_str_bl, eqn_str_dic, eqn_lst_non, eqn_lst_int, eqn_lst_str, eqn_lst_tup, eqn_lst_bl, eqn_lst_dic, eqn_tup_non, eqn_tup_int, eqn_tup_str, eqn_tup_lst, eqn_tup_bl, eqn_tup_dic, eqn_bl_non, eqn_bl_str, eqn_bl_lst, eqn_bl_tup, eqn_bl_dic, eqvs, atI_lit, cdiv_lit, cmul_r, cmul_l, cpow_lit, nrm_dat, nrm_ref, plN, plAll, rd_dat, rd_ref, rds_nil, rds_cons, rds_map, rdk_nil, rdk_cons,               isNon, tyNames, kbs,
    Option.map_some, Option.map_none, Option.isSome_some, List.getD_cons_zero, List.getD_cons_succ, List.getD_nil, get_app, get_app0, set_app, set_app0, List.length_append, List.append_assoc, List.any_cons, List.any_nil, List.zip_cons_cons, List.zip_nil_left, List.zip_nil_right,
    List.map_cons, List.map_nil, List.cons_append, List.nil_append, List.append_nil, List.length_cons, List.length_nil, List.replicate, List.set_cons_zero, List.set_cons_succ, List.getElem?_cons_zero, List.getElem?_cons_succ, List.set_nil, List.getElem?_nil,
    Nat.reduceAdd, Nat.reduceSub, Nat.reduceBEq, Nat.reduceLeDiff, Nat.reduceEqDiff, Nat.sub_self, Nat.zero_add, Nat.add_zero, Nat.zero_le, Nat.le_add_right, Nat.le_refl, Int.reduceToNat, Int.reduceLE, Nat.reduceLT, Nat.reducePow, Int.reducePow, Int.reduceNeg, or_true, true_or, Int.reduceLT, Bool.false_eq_true, if_true, if_false, forall_const, false_implies, true_implies, implies_true, Int.reduceEq, cast_lit, not_true_eq_false, not_false_eq_true, Bool.not_true, Bool.not_false, Bool.not_eq_true', Bool.not_eq_false', Bool.and_true, Bool.true_and, Bool.and_false, Bool.false_and, Bool.or_false, Bool.false_or, Bool.or_true, Bool.true_or, reduceCtorEq, false_and, and_false, or_false, false_or, beq_self_eq_true,
    Option.some.injEq, Prod.mk.injEq, Rv.dat.injEq, Rv.ref.injEq, D.int.injEq, D.bl.injEq, D.str.injEq, D.tup.injEq, D.lst.injEq, D.dic.injEq, D.scr.injEq, List.cons.injEq, and_true, true_and, exists_and_left, exists_and_right, exists_eq_left, exists_eq_left', exists_eq_right, exists_eq_right', exists_eq, exists_eq', exists_const, decide_eq_true_eq, decide_eq_false_iff_not, Bool.and_eq_true, beq_iff_eq, beq_eq_false_iff_ne, ne_eq, decide_true, decide_false, hdR_len, stR_len, hdR_24, hdR_25, hdR_26, hdR_27, hdR_28, hdR_29, hdR_30, stR_16, stR_18, stR_19, stR_20, stR_21, stR_22, stR_23, hdP_25, hdP_26, hdP_27, hdP_28, hdP_29, hdP_30, stP_16, stP_19, stP_20, stP_21, stP_22, stP_23, hdD, List.length_set, set_two, denc_push, denc_swap, denc_pop, denc_top, denc_clear, eqv_optN, plN_optN, isNon_optN, optN_some, optN_none, seenD_some, seenD_none, items_pair, items_vals, phk, kdk, List.getElem?_set_self, List.getElem?_set_ne, List.getElem?_append_left, ltaddr, boxD, cDict, *])
abbrev fn_value_by : List Str := []
def m_value_by : DW.Ss := (.cons (.ite (.cmp .eq (.bin .modI (.var 0) (.int 4)) (.int 0)) (.cons (.ret (.bin .subI (.bin .mulI (.bin .mulI (.bin .mulI (.bin .fdivI (.var 0) (.int 4)) (.int 7919)) (.int 7919)) (.int 7919)) (.bin .powI (.int 10) (.int 20))))
  .nil) .nil)
  (.cons (.ret (.bin .subI (.bin .modI (.bin .fdivI (.var 0) (.int 4)) (.int 5)) (.int 1)))
  .nil))
abbrev Ss_value_by : List SpD := []
def S_value_by : SpD := fun rs g Q => match rs with
  | [.dat (.int c)] => Q (.dat (.int (valueBy c))) g
  | _ => False
theorem mo_value_by : Mono S_value_by := by
  intro rs g P P2 h
  unfold S_value_by
  split
  · intro q; first | exact h _ _ q | exact ⟨q.1, h _ _ q.2⟩ | exact ⟨q.1, q.2.1, h _ _ q.2.2⟩ | exact q.imp fun _ z => ⟨z.1, h _ _ z.2⟩
  · exact id
theorem len_value_by : ∀ rs g Q, S_value_by rs g Q → rs.length = 1 := by
  intro rs g Q q
  unfold S_value_by at q
  split at q
  · rfl
  · exact q.elim
theorem hS_value_by : ∀ rs g Q, S_value_by rs g Q → m_value_by.W (wd Ss_value_by glF dtF) (rs.map some ++ List.replicate (1 - rs.length) none) g (fun _ g2 => Fin g Q (.dat .non) g2) (Fin g Q) := by
  intro rs g Q q
  unfold S_value_by at q
  split at q
  · rename_i c
    unfold m_value_by
    walk_at "dw"
    unfold valueBy at q
    refine ⟨fun h => fin_dat [] (by simp) ?_, fun h => fin_dat [] (by simp) ?_⟩
    · rw [if_pos h] at q; exact q
    · rw [if_neg h] at q; exact q
  · exact q.elim

end DW

/-! ## F_deed_by.lean -/
set_option Elab.async false
set_option linter.all false
set_option maxRecDepth 100000
set_option maxHeartbeats 4000000
set_option autoImplicit false
namespace DW
open PySem PySem.Spec L2
open PyProof.Rows hiding St

local macro_rules | `(tactic| walk_at "dw") => `(tactic| simp (config := { maxSteps := 1000000 }) only [and_assoc, natD, mapint_inj, mapnat_inj, denc_inj, wfor_eq, ixD, ixM, cut_one, List.tail_cons, List.tail_nil, eqvs_nil, List.isEmpty_cons, List.isEmpty_nil, plAll_int, plAll_nat, Ss.W, Sm.W, Ex.W, Ex.T, Es.W, wVar, BOp.B, COp.B, Bi.B, IxK.B, bI0, bIC, bEq, bIs, bIn, bIxL, bIxT, bIxS, bIxK, bCat, bCatT, bRep, cLen, cInt, cMin2, cList, cTup, wantB, wAndT, wOrT, wAndV, wOrV, wNotV, lenOf, lstOf_ref, lstOf_lst, seqOf, dicOf_ref, dicOf_dic, wPart, wIter, tstW, mAppend, mPop, mPopAt, mClear, wSetIx, wSetKey, Tg.put, wipeN, Cell.lst.injEq, Cell.dic.injEq, Cell.fz.injEq, List.length_map, tyR, tyD,
    eqv_ii, eqv_ss, eqv_bb, eqv_nn, eqv_ll, eqv_tt, eqn_non_int, eqn_non_str, eqn_non_lst, eqn_non_tup, eqn_non_bl, eqn_non_dic, eqn_int_non, eqn_int_str, eqn_int_lst, eqn_int_tup, eqn_int_dic, eqn_str_non, eqn_str_int, eqn_str_lst, eqn_str_tup, eqn_str_bl, eqn_str_dic, eqn_lst_non, eqn_lst_int, eqn_lst_str, eqn_lst_tup, eqn_lst_bl, eqn_lst_dic, eqn_tup_non, eqn_tup_int, eqn_tup_str, eqn_tup_lst, eqn_tup_bl, eqn_tup_dic, eqn_bl_non, eqn_bl_str, eqn_bl_lst, eqn_bl_tup, eqn_bl_dic, eqvs, atI_lit, cdiv_lit, cmul_r, cmul_l, cpow_lit, nrm_dat, nrm_ref, plN, plAll, rd_dat, rd_ref, rds_nil, rds_cons, rds_map, rdk_nil, rdk_cons, wFrz, frz1, wFrzL, frzs, datsN, datsN_map, datsK, isNon, tyNames, kbs,
    Option.map_some, Option.map_none, Option.isSome_some, List.getD_cons_zero, List.getD_cons_succ, List.getD_nil, get_app, get_app0, set_app, set_app0, List.length_append, List.append_assoc, List.any_cons, List.any_nil, List.zip_cons_cons, List.zip_nil_left, List.zip_nil_right,
    List.map_cons, List.map_nil, List.cons_append, List.nil_append, List.append_nil, List.length_cons, List.length_nil, List.replicate, List.set_cons_zero, List.set_cons_succ, List.getElem?_cons_zero, List.getElem?_cons_succ, List.set_nil, List.getElem?_nil,
    Nat.reduceAdd, Nat.reduceSub, Nat.reduceBEq, Nat.reduceLeDiff, Nat.reduceEqDiff, Nat.sub_self, Nat.zero_add, Nat.add_zero, Nat.zero_le, Nat.le_add_right, Nat.le_refl, Int.reduceToNat, Int.reduceLE, Nat.reduceLT, Nat.reducePow, Int.reducePow, Int.reduceNeg, or_true, true_or, Int.reduceLT, Bool.false_eq_true, if_true, if_false, forall_const, false_implies, true_implies, implies_true, Int.reduceEq, cast_lit, not_true_eq_false, not_false_eq_true, Bool.not_true, Bool.not_false, Bool.not_eq_true', Bool.not_eq_false', Bool.and_true, Bool.true_and, Bool.and_false, Bool.false_and, Bool.or_false, Bool.false_or, Bool.or_true, Bool.true_or, reduceCtorEq, false_and, and_false, or_false, false_or, beq_self_eq_true,
    Option.some.injEq, Prod.mk.injEq, Rv.dat.injEq, Rv.ref.injEq, D.int.injEq, D.bl.injEq, D.str.injEq, D.tup.injEq, D.lst.injEq, D.dic.injEq, D.scr.injEq, List.cons.injEq, and_true, true_and, exists_and_left, exists_and_right, exists_eq_left, exists_eq_left', exists_eq_right, exists_eq_right', exists_eq, exists_eq', exists_const, decide_eq_true_eq, decide_eq_false_iff_not, Bool.and_eq_true, beq_iff_eq, beq_eq_false_iff_ne, ne_eq, decide_true, decide_false, hdR_len, stR_len, hdR_24, hdR_25, hdR_26, hdR_27, hdR_28, hdR_29, hdR_30, stR_16, stR_18, stR_19, stR_20, stR_21, stR_22, stR_23, hdP_25, hdP_26, hdP_27, hdP_28, hdP_29, hdP_30, stP_16, stP_19, stP_20, stP_21, stP_22, stP_23, hdD, List.length_set, set_two, denc_push, denc_swap, denc_pop, denc_top, denc_clear, eqv_optN, plN_optN, isNon_optN, optN_some, optN_none, seenD_some, seenD_none, items_pair, items_vals, phk, kdk, List.getElem?_set_self, List.getElem?_set_ne, List.getElem?_append_left, ltaddr, boxD, cDict, S_value_by])
local macro_rules | `(tactic| walk_at "dwh") => `(tactic| simp (config := { maxSteps := 1000000 }) only [and_assoc, natD, mapint_inj, mapnat_inj, denc_inj, wfor_eq, ixD, ixM, cut_one, List.tail_cons, List.tail_nil, eqvs_nil, List.isEmpty_cons, List.isEmpty_nil, plAll_int, plAll_nat, Ss.W, Sm.W, Ex.W, Ex.T, Es.W, wVar, BOp.B, COp.B, Bi.B, IxK.B, bI0, bIC, bEq, bIs, bIn, bIxL, bIxT, bIxS, bIxK, bCat, bCatT, bRep, cLen, cInt, cMin2, cList, cTup, wantB, wAndT, wOrT, wAndV, wOrV, wNotV, lenOf, lstOf_ref, lstOf_lst, seqOf, dicOf_ref, dicOf_dic, wPart, wIter, tstW, mAppend, mPop, mPopAt, mClear, wSetIx, wSetKey, Tg.put, wipeN, Cell.lst.injEq, Cell.dic.injEq, Cell.fz.injEq, List.length_map, tyR, tyD,
    eqv_ii, eqv_ss, eqv_bb, eqv_nn, eqv_ll, eqv_tt, eqn_non_int, eqn_non_str, eqn_non_lst, eqn_non_tup, eqn_non_bl, eqn_non_dic, eqn_int_non, eqn_int_str, eqn_int_lst, eqn_int_tup, eqn_int_dic, eqn_str_non, eqn_str_int, eqn_str_lst, eqn_str_tup, eqn_str_bl, eqn_str_dic, eqn_lst_non, eqn_lst_int, eqn_lst_str, eqn_lst_tup, eqn_lst_bl, eqn_lst_dic, eqn_tup_non, eqn_tup_int, eqn_tup_str, eqn_tup_lst, eqn_tup_bl, eqn_tup_dic, eqn_bl_non, eqn_bl_str, eqn_bl_lst, eqn_bl_tup, eqn_bl_dic, eqvs, atI_lit, cdiv_lit, cmul_r, cmul_l, cpow_lit, nrm_dat, nrm_ref, plN, plAll, rd_dat, rd_ref, rds_nil, rds_cons, rds_map, rdk_nil, rdk_cons, wFrz, frz1, wFrzL, frzs, datsN, datsN_map, datsK, isNon, tyNames, kbs,
    Option.map_some, Option.map_none, Option.isSome_some, List.getD_cons_zero, List.getD_cons_succ, List.getD_nil, get_app, get_app0, set_app, set_app0, List.length_append, List.append_assoc, List.any_cons, List.any_nil, List.zip_cons_cons, List.zip_nil_left, List.zip_nil_right,
    List.map_cons, List.map_nil, List.cons_append, List.nil_append, List.append_nil, List.length_cons, List.length_nil, List.replicate, List.set_cons_zero, List.set_cons_succ, List.getElem?_cons_zero, List.getElem?_cons_succ, List.set_nil, List.getElem?_nil,
    Nat.reduceAdd, Nat.reduceSub, Nat.reduceBEq, Nat.reduceLeDiff, Nat.reduceEqDiff, Nat.sub_self, Nat.zero_add, Nat.add_zero, Nat.zero_le, Nat.le_add_right, Nat.le_refl, Int.reduceToNat, Int.reduceLE, Nat.reduceLT, Nat.reducePow, Int.reducePow, Int.reduceNeg, or_true, true_or, Int.reduceLT, Bool.false_eq_true, if_true, if_false, forall_const, false_implies, true_implies, implies_true, Int.reduceEq, cast_lit, not_true_eq_false, not_false_eq_true, Bool.not_true, Bool.not_false, Bool.not_eq_true', Bool.not_eq_false', Bool.and_true, Bool.true_and, Bool.and_false, Bool.false_and, Bool.or_false, Bool.false_or, Bool.or_true, Bool.true_or, reduceCtorEq, false_and, and_false, or_false, false_or, beq_self_eq_true,
    Option.some.injEq, Prod.mk.injEq, Rv.dat.injEq, Rv.ref.injEq, D.int.injEq, D.bl.injEq, D.str.injEq, D.tup.injEq, D.lst.injEq, D.dic.injEq, D.scr.injEq, List.cons.injEq, and_true, true_and, exists_and_left, exists_and_right, exists_eq_left, exists_eq_left', exists_eq_right, exists_eq_right', exists_eq, exists_eq', exists_const, decide_eq_true_eq, decide_eq_false_iff_not, Bool.and_eq_true, beq_iff_eq, beq_eq_false_iff_ne, ne_eq, decide_true, decide_false, hdR_len, stR_len, hdR_24, hdR_25, hdR_26, hdR_27, hdR_28, hdR_29, hdR_30, stR_16, stR_18, stR_19, stR_20, stR_21, stR_22, stR_23, hdP_25, hdP_26, hdP_27, hdP_28, hdP_29, hdP_30, stP_16, stP_19, stP_20, stP_21, stP_22, stP_23, hdD, List.length_set, set_two, denc_push, denc_swap, denc_pop, denc_top, denc_clear, eqv_optN, plN_optN, isNon_optN, optN_some, optN_none, seenD_some, seenD_none, items_pair, items_vals, phk, kdk, List.getElem?_set_self, List.getElem?_set_ne, List.getElem?_append_left, ltaddr, boxD, cDict, S_value_by, *])
local macro_rules | `(tactic| walk_at "dwf") => `(tactic| simp (config := { maxSteps := 1000000 }) only [and_assoc, natD, mapint_inj, mapnat_inj, denc_inj, wfor_eq, ixD, ixM, cut_one, List.tail_cons, List.tail_nil, eqvs_nil, List.isEmpty_cons, List.isEmpty_nil, plAll_int, plAll_nat, Ss.W, Sm.W, Ex.W, Ex.T, Es.W, wVar, BOp.B, COp.B, Bi.B, IxK.B, bI0, bIC, bEq, bIs, bIn, bIxL, bIxT, bIxS, bIxK, bCat, bCatT, bRep, cLen, cInt, cMin2, cList, cTup, wantB, wAndT, wOrT, wAndV, wOrV, wNotV, lenOf, lstOf_ref, lstOf_lst, seqOf, dicOf_ref, dicOf_dic, wPart, wIter, tstW, mAppend, mPop, mPopAt, mClear, wSetIx, wSetKey, Tg.put, wipeN, Cell.lst.injEq, Cell.dic.injEq, Cell.fz.injEq, List.length_map, tyR, tyD,
    eqv_ii, eqv_ss, eqv_bb, eqv_nn, eqv_ll, eqv_tt, eqn_non_int, eqn_non_str, eqn_non_lst, eqn_non_tup, eqn_non_bl, eqn_non_dic, eqn_int_non, eqn_int_str, eqn_int_lst, eqn_int_tup, eqn_int_dic, eqn_str_non, eqn_str_int, eqn_str_lst, eqn_str_tup, eqn_str_bl, eqn_str_dic, eqn_lst_non, eqn_lst_int, eqn_lst_str, eqn_lst_tup, eqn_lst_bl, eqn_lst_dic, eqn_tup_non, eqn_tup_int, eqn_tup_str, eqn_tup_lst, eqn_tup_bl, eqn_tup_dic, eqn_bl_non, eqn_bl_str, eqn_bl_lst, eqn_bl_tup, eqn_bl_dic, eqvs, atI_lit, cdiv_lit, cmul_r, cmul_l, cpow_lit, nrm_dat, nrm_ref, plN, plAll, rd_dat, rd_ref, rds_nil, rds_cons, rds_map, rdk_nil, rdk_cons,               isNon, tyNames, kbs,
    Option.map_some, Option.map_none, Option.isSome_some, List.getD_cons_zero, List.getD_cons_succ, List.getD_nil, get_app, get_app0, set_app, set_app0, List.length_append, List.append_assoc, List.any_cons, List.any_nil, List.zip_cons_cons, List.zip_nil_left, List.zip_nil_right,
    List.map_cons, List.map_nil, List.cons_append, List.nil_append, List.append_nil, List.length_cons, List.length_nil, List.replicate, List.set_cons_zero, List.set_cons_succ, List.getElem?_cons_zero, List.getElem?_cons_succ, List.set_nil, List.getElem?_nil,
    Nat.reduceAdd, Nat.reduceSub, Nat.reduceBEq, Nat.reduceLeDiff, Nat.reduceEqDiff, Nat.sub_self, Nat.zero_add, Nat.add_zero, Nat.zero_le, Nat.le_add_right, Nat.le_refl, Int.reduceToNat, Int.reduceLE, Nat.reduceLT, Nat.reducePow, Int.reducePow, Int.reduceNeg, or_true, true_or, Int.reduceLT, Bool.false_eq_true, if_true, if_false, forall_const, false_implies, true_implies, implies_true, Int.reduceEq, cast_lit, not_true_eq_false, not_false_eq_true, Bool.not_true, Bool.not_false, Bool.not_eq_true', Bool.not_eq_false', Bool.and_true, Bool.true_and, Bool.and_false, Bool.false_and, Bool.or_false, Bool.false_or, Bool.or_true, Bool.true_or, reduceCtorEq, false_and, and_false, or_false, false_or, beq_self_eq_true,
    Option.some.injEq, Prod.mk.injEq, Rv.dat.injEq, Rv.ref.injEq, D.int.injEq, D.bl.injEq, D.str.injEq, D.tup.injEq, D.lst.injEq, D.dic.injEq, D.scr.injEq, List.cons.injEq, and_true, true_and, exists_and_left, exists_and_right, exists_eq_left, exists_eq_left', exists_eq_right, exists_eq_right', exists_eq, exists_eq', exists_const, decide_eq_true_eq, decide_eq_false_iff_not, Bool.and_eq_true, beq_iff_eq, beq_eq_false_iff_ne, ne_eq, decide_true, decide_false, hdR_len, stR_len, hdR_24, hdR_25, hdR_26, hdR_27, hdR_28, hdR_29, hdR_30, stR_16, stR_18, stR_19, stR_20, stR_21, stR_22, stR_23, hdP_25, hdP_26, hdP_27, hdP_28, hdP_29, hdP_30, stP_16, stP_19, stP_20, stP_21, stP_22, stP_23, hdD, List.length_set, set_two, denc_push, denc_swap, denc_pop, denc_top, denc_clear, eqv_optN, plN_optN, isNon_optN, optN_some, optN_none, seenD_some, seenD_none, items_pair, items_vals, phk, kdk, List.getElem?_set_self, List.getElem?_set_ne, List.getElem?_append_left, ltaddr, boxD, cDict, S_value_by, *])
abbrev fn_deed_by : List Str := ["_law_value_by"]
def m_deed_by : DW.Ss := (.cons (.set 1 (.ix .l (.lst (.cons (.str 0) (.cons (.str 0) (.cons (.str 0) (.cons (.str 0) (.cons (.str 2) (.cons (.str 2) (.cons (.str 2) (.cons (.str 3) (.cons (.str 3) (.cons (.str 1) (.cons (.str 1) (.cons (.str 4) .nil))))))))))))) (.bin .modI (.var 0) (.int 12))))
  (.cons (.ite (.cmp .inF (.var 1) (.lst (.cons (.str 0) (.cons (.str 1) .nil)))) (.cons (.ret (.tup (.cons (.var 1) (.cons (.call 0 (.cons (.bin .fdivI (.var 0) (.int 12)) .nil)) .nil))))
  .nil) .nil)
  (.cons (.ret (.tup (.cons (.var 1) .nil)))
  .nil)))
abbrev Ss_deed_by : List SpD := [S_value_by]
def S_deed_by : SpD := fun rs g Q => match rs with
  | [.dat (.int c)] => Q (.dat (deedBy c).enc) g
  | _ => False
theorem mo_deed_by : Mono S_deed_by := by
  intro rs g P P2 h
  unfold S_deed_by
  split
  · intro q; first | exact h _ _ q | exact ⟨q.1, h _ _ q.2⟩ | exact ⟨q.1, q.2.1, h _ _ q.2.2⟩ | exact q.imp fun _ z => ⟨z.1, h _ _ z.2⟩
  · exact id
theorem len_deed_by : ∀ rs g Q, S_deed_by rs g Q → rs.length = 1 := by
  intro rs g Q q
  unfold S_deed_by at q
  split at q
  · rfl
  · exact q.elim
theorem hS_deed_by : ∀ rs g Q, S_deed_by rs g Q → m_deed_by.W (wd Ss_deed_by glF dtF) (rs.map some ++ List.replicate (2 - rs.length) none) g (fun _ g2 => Fin g Q (.dat .non) g2) (Fin g Q) := by
  intro rs g Q q
  unfold S_deed_by at q
  split at q
  · rename_i c
    unfold m_deed_by
    walk_at "dw"
    have h : c % 12 = 0 ∨ c % 12 = 1 ∨ c % 12 = 2 ∨ c % 12 = 3 ∨ c % 12 = 4 ∨ c % 12 = 5 ∨ c % 12 = 6 ∨ c % 12 = 7 ∨ c % 12 = 8 ∨ c % 12 = 9 ∨ c % 12 = 10 ∨ c % 12 = 11 := by omega
    unfold deedBy at q
    rcases h with h | h | h | h | h | h | h | h | h | h | h | h <;> simp [h, Deed.enc] at q <;> rw [h] <;> walk_at "dw"
    all_goals exact fin_dat _ rfl q
  · exact q.elim

end DW

/-! ## F_start_by.lean -/
set_option Elab.async false
set_option linter.all false
set_option maxRecDepth 100000
set_option maxHeartbeats 4000000
set_option autoImplicit false
namespace DW
open PySem PySem.Spec L2
open PyProof.Rows hiding St

local macro_rules | `(tactic| walk_at "dw") => `(tactic| simp (config := { maxSteps := 1000000 }) only [and_assoc, natD, mapint_inj, mapnat_inj, denc_inj, wfor_eq, ixD, ixM, cut_one, List.tail_cons, List.tail_nil, eqvs_nil, List.isEmpty_cons, List.isEmpty_nil, plAll_int, plAll_nat, Ss.W, Sm.W, Ex.W, Ex.T, Es.W, wVar, BOp.B, COp.B, Bi.B, IxK.B, bI0, bIC, bEq, bIs, bIn, bIxL, bIxT, bIxS, bIxK, bCat, bCatT, bRep, cLen, cInt, cMin2, cList, cTup, wantB, wAndT, wOrT, wAndV, wOrV, wNotV, lenOf, lstOf_ref, lstOf_lst, seqOf, dicOf_ref, dicOf_dic, wPart, wIter, tstW, mAppend, mPop, mPopAt, mClear, wSetIx, wSetKey, Tg.put, wipeN, Cell.lst.injEq, Cell.dic.injEq, Cell.fz.injEq, List.length_map, tyR, tyD,
    eqv_ii, eqv_ss, eqv_bb, eqv_nn, eqv_ll, eqv_tt, eqn_non_int, eqn_non_str, eqn_non_lst, eqn_non_tup, eqn_non_bl, eqn_non_dic, eqn_int_non, eqn_int_str, eqn_int_lst, eqn_int_tup, eqn_int_dic, eqn_str_non, eqn_str_int, eqn_str_lst, eqn_str_tup, eqn_str_bl, eqn_str_dic, eqn_lst_non, eqn_lst_int, eqn_lst_str, eqn_lst_tup, eqn_lst_bl, eqn_lst_dic, eqn_tup_non, eqn_tup_int, eqn_tup_str, eqn_tup_lst, eqn_tup_bl, eqn_tup_dic, eqn_bl_non, eqn_bl_str, eqn_bl_lst, eqn_bl_tup, eqn_bl_dic, eqvs, atI_lit, cdiv_lit, cmul_r, cmul_l, cpow_lit, nrm_dat, nrm_ref, plN, plAll, rd_dat, rd_ref, rds_nil, rds_cons, rds_map, rdk_nil, rdk_cons, wFrz, frz1, wFrzL, frzs, datsN, datsN_map, datsK, isNon, tyNames, kbs,
    Option.map_some, Option.map_none, Option.isSome_some, List.getD_cons_zero, List.getD_cons_succ, List.getD_nil, get_app, get_app0, set_app, set_app0, List.length_append, List.append_assoc, List.any_cons, List.any_nil, List.zip_cons_cons, List.zip_nil_left, List.zip_nil_right,
    List.map_cons, List.map_nil, List.cons_append, List.nil_append, List.append_nil, List.length_cons, List.length_nil, List.replicate, List.set_cons_zero, List.set_cons_succ, List.getElem?_cons_zero, List.getElem?_cons_succ, List.set_nil, List.getElem?_nil,
    Nat.reduceAdd, Nat.reduceSub, Nat.reduceBEq, Nat.reduceLeDiff, Nat.reduceEqDiff, Nat.sub_self, Nat.zero_add, Nat.add_zero, Nat.zero_le, Nat.le_add_right, Nat.le_refl, Int.reduceToNat, Int.reduceLE, Nat.reduceLT, Nat.reducePow, Int.reducePow, Int.reduceNeg, or_true, true_or, Int.reduceLT, Bool.false_eq_true, if_true, if_false, forall_const, false_implies, true_implies, implies_true, Int.reduceEq, cast_lit, not_true_eq_false, not_false_eq_true, Bool.not_true, Bool.not_false, Bool.not_eq_true', Bool.not_eq_false', Bool.and_true, Bool.true_and, Bool.and_false, Bool.false_and, Bool.or_false, Bool.false_or, Bool.or_true, Bool.true_or, reduceCtorEq, false_and, and_false, or_false, false_or, beq_self_eq_true,
    Option.some.injEq, Prod.mk.injEq, Rv.dat.injEq, Rv.ref.injEq, D.int.injEq, D.bl.injEq, D.str.injEq, D.tup.injEq, D.lst.injEq, D.dic.injEq, D.scr.injEq, List.cons.injEq, and_true, true_and, exists_and_left, exists_and_right, exists_eq_left, exists_eq_left', exists_eq_right, exists_eq_right', exists_eq, exists_eq', exists_const, decide_eq_true_eq, decide_eq_false_iff_not, Bool.and_eq_true, beq_iff_eq, beq_eq_false_iff_ne, ne_eq, decide_true, decide_false, hdR_len, stR_len, hdR_24, hdR_25, hdR_26, hdR_27, hdR_28, hdR_29, hdR_30, stR_16, stR_18, stR_19, stR_20, stR_21, stR_22, stR_23, hdP_25, hdP_26, hdP_27, hdP_28, hdP_29, hdP_30, stP_16, stP_19, stP_20, stP_21, stP_22, stP_23, hdD, List.length_set, set_two, denc_push, denc_swap, denc_pop, denc_top, denc_clear, eqv_optN, plN_optN, isNon_optN, optN_some, optN_none, seenD_some, seenD_none, items_pair, items_vals, phk, kdk, List.getElem?_set_self, List.getElem?_set_ne, List.getElem?_append_left, ltaddr, boxD, cDict, S_value_by, S_mixed])
local macro_rules | `(tactic| walk_at "dwh") => `(tactic| simp (config := { maxSteps := 1000000 }) only [and_assoc, natD, mapint_inj, mapnat_inj, denc_inj, wfor_eq, ixD, ixM, cut_one, List.tail_cons, List.tail_nil, eqvs_nil, List.isEmpty_cons, List.isEmpty_nil, plAll_int, plAll_nat, Ss.W, Sm.W, Ex.W, Ex.T, Es.W, wVar, BOp.B, COp.B, Bi.B, IxK.B, bI0, bIC, bEq, bIs, bIn, bIxL, bIxT, bIxS, bIxK, bCat, bCatT, bRep, cLen, cInt, cMin2, cList, cTup, wantB, wAndT, wOrT, wAndV, wOrV, wNotV, lenOf, lstOf_ref, lstOf_lst, seqOf, dicOf_ref, dicOf_dic, wPart, wIter, tstW, mAppend, mPop, mPopAt, mClear, wSetIx, wSetKey, Tg.put, wipeN, Cell.lst.injEq, Cell.dic.injEq, Cell.fz.injEq, List.length_map, tyR, tyD,
    eqv_ii, eqv_ss, eqv_bb, eqv_nn, eqv_ll, eqv_tt, eqn_non_int, eqn_non_str, eqn_non_lst, eqn_non_tup, eqn_non_bl, eqn_non_dic, eqn_int_non, eqn_int_str, eqn_int_lst, eqn_int_tup, eqn_int_dic, eqn_str_non, eqn_str_int, eqn_str_lst, eqn_str_tup, eqn_str_bl, eqn_str_dic, eqn_lst_non, eqn_lst_int, eqn_lst_str, eqn_lst_tup, eqn_lst_bl, eqn_lst_dic, eqn_tup_non, eqn_tup_int, eqn_tup_str, eqn_tup_lst, eqn_tup_bl, eqn_tup_dic, eqn_bl_non, eqn_bl_str, eqn_bl_lst, eqn_bl_tup, eqn_bl_dic, eqvs, atI_lit, cdiv_lit, cmul_r, cmul_l, cpow_lit, nrm_dat, nrm_ref, plN, plAll, rd_dat, rd_ref, rds_nil, rds_cons, rds_map, rdk_nil, rdk_cons, wFrz, frz1, wFrzL, frzs, datsN, datsN_map, datsK, isNon, tyNames, kbs,
    Option.map_some, Option.map_none, Option.isSome_some, List.getD_cons_zero, List.getD_cons_succ, List.getD_nil, get_app, get_app0, set_app, set_app0, List.length_append, List.append_assoc, List.any_cons, List.any_nil, List.zip_cons_cons, List.zip_nil_left, List.zip_nil_right,
    List.map_cons, List.map_nil, List.cons_append, List.nil_append, List.append_nil, List.length_cons, List.length_nil, List.replicate, List.set_cons_zero, List.set_cons_succ, List.getElem?_cons_zero, List.getElem?_cons_succ, List.set_nil, List.getElem?_nil,
    Nat.reduceAdd, Nat.reduceSub, Nat.reduceBEq, Nat.reduceLeDiff, Nat.reduceEqDiff, Nat.sub_self, Nat.zero_add, Nat.add_zero, Nat.zero_le, Nat.le_add_right, Nat.le_refl, Int.reduceToNat, Int.reduceLE, Nat.reduceLT, Nat.reducePow, Int.reducePow, Int.reduceNeg, or_true, true_or, Int.reduceLT, Bool.false_eq_true, if_true, if_false, forall_const, false_implies, true_implies, implies_true, Int.reduceEq, cast_lit, not_true_eq_false, not_false_eq_true, Bool.not_true, Bool.not_false, Bool.not_eq_true', Bool.not_eq_false', Bool.and_true, Bool.true_and, Bool.and_false, Bool.false_and, Bool.or_false, Bool.false_or, Bool.or_true, Bool.true_or, reduceCtorEq, false_and, and_false, or_false, false_or, beq_self_eq_true,
    Option.some.injEq, Prod.mk.injEq, Rv.dat.injEq, Rv.ref.injEq, D.int.injEq, D.bl.injEq, D.str.injEq, D.tup.injEq, D.lst.injEq, D.dic.injEq, D.scr.injEq, List.cons.injEq, and_true, true_and, exists_and_left, exists_and_right, exists_eq_left, exists_eq_left', exists_eq_right, exists_eq_right', exists_eq, exists_eq', exists_const, decide_eq_true_eq, decide_eq_false_iff_not, Bool.and_eq_true, beq_iff_eq, beq_eq_false_iff_ne, ne_eq, decide_true, decide_false, hdR_len, stR_len, hdR_24, hdR_25, hdR_26, hdR_27, hdR_28, hdR_29, hdR_30, stR_16, stR_18, stR_19, stR_20, stR_21, stR_22, stR_23, hdP_25, hdP_26, hdP_27, hdP_28, hdP_29, hdP_30, stP_16, stP_19, stP_20, stP_21, stP_22, stP_23, hdD, List.length_set, set_two, denc_push, denc_swap, denc_pop, denc_top, denc_clear, eqv_optN, plN_optN, isNon_optN, optN_some, optN_none, seenD_some, seenD_none, items_pair, items_vals, phk, kdk, List.getElem?_set_self, List.getElem?_set_ne, List.getElem?_append_left, ltaddr, boxD, cDict, S_value_by, S_mixed, *])
local macro_rules | `(tactic| walk_at "dwf") => `(tactic| simp (config := { maxSteps := 1000000 }) only [and_assoc, natD, mapint_inj, mapnat_inj, denc_inj, wfor_eq, ixD, ixM, cut_one, List.tail_cons, List.tail_nil, eqvs_nil, List.isEmpty_cons, List.isEmpty_nil, plAll_int, plAll_nat, Ss.W, Sm.W, Ex.W, Ex.T, Es.W, wVar, BOp.B, COp.B, Bi.B, IxK.B, bI0, bIC, bEq, bIs, bIn, bIxL, bIxT, bIxS, bIxK, bCat, bCatT, bRep, cLen, cInt, cMin2, cList, cTup, wantB, wAndT, wOrT, wAndV, wOrV, wNotV, lenOf, lstOf_ref, lstOf_lst, seqOf, dicOf_ref, dicOf_dic, wPart, wIter, tstW, mAppend, mPop, mPopAt, mClear, wSetIx, wSetKey, Tg.put, wipeN, Cell.lst.injEq, Cell.dic.injEq, Cell.fz.injEq, List.length_map, tyR, tyD,
    eqv_ii, eqv_ss, eqv_bb, eqv_nn, eqv_ll, eqv_tt, eqn_non_int, eqn_non_str, eqn_non_lst, eqn_non_tup, eqn_non_bl, eqn_non_dic, eqn_int_non, eqn_int_str, eqn_int_lst, eqn_int_tup, eqn_int_dic, eqn_str_non, eqn_str_int, eqn_str_lst, eqn_str_tup, eqn_str_bl, eqn_str_dic, eqn_lst_non, eqn_lst_int, eqn_lst_str, eqn_lst_tup, eqn_lst_bl, eqn_lst_dic, eqn_tup_non, eqn_tup_int, eqn_tup_str, eqn_tup_lst, eqn_tup_bl, eqn_tup_dic, eqn_bl_non, eqn_bl_str, eqn_bl_lst, eqn_bl_tup, eqn_bl_dic, eqvs, atI_lit, cdiv_lit, cmul_r, cmul_l, cpow_lit, nrm_dat, nrm_ref, plN, plAll, rd_dat, rd_ref, rds_nil, rds_cons, rds_map, rdk_nil, rdk_cons,               isNon, tyNames, kbs,
    Option.map_some, Option.map_none, Option.isSome_some, List.getD_cons_zero, List.getD_cons_succ, List.getD_nil, get_app, get_app0, set_app, set_app0, List.length_append, List.append_assoc, List.any_cons, List.any_nil, List.zip_cons_cons, List.zip_nil_left, List.zip_nil_right,
    List.map_cons, List.map_nil, List.cons_append, List.nil_append, List.append_nil, List.length_cons, List.length_nil, List.replicate, List.set_cons_zero, List.set_cons_succ, List.getElem?_cons_zero, List.getElem?_cons_succ, List.set_nil, List.getElem?_nil,
    Nat.reduceAdd, Nat.reduceSub, Nat.reduceBEq, Nat.reduceLeDiff, Nat.reduceEqDiff, Nat.sub_self, Nat.zero_add, Nat.add_zero, Nat.zero_le, Nat.le_add_right, Nat.le_refl, Int.reduceToNat, Int.reduceLE, Nat.reduceLT, Nat.reducePow, Int.reducePow, Int.reduceNeg, or_true, true_or, Int.reduceLT, Bool.false_eq_true, if_true, if_false, forall_const, false_implies, true_implies, implies_true, Int.reduceEq, cast_lit, not_true_eq_false, not_false_eq_true, Bool.not_true, Bool.not_false, Bool.not_eq_true', Bool.not_eq_false', Bool.and_true, Bool.true_and, Bool.and_false, Bool.false_and, Bool.or_false, Bool.false_or, Bool.or_true, Bool.true_or, reduceCtorEq, false_and, and_false, or_false, false_or, beq_self_eq_true,
    Option.some.injEq, Prod.mk.injEq, Rv.dat.injEq, Rv.ref.injEq, D.int.injEq, D.bl.injEq, D.str.injEq, D.tup.injEq, D.lst.injEq, D.dic.injEq, D.scr.injEq, List.cons.injEq, and_true, true_and, exists_and_left, exists_and_right, exists_eq_left, exists_eq_left', exists_eq_right, exists_eq_right', exists_eq, exists_eq', exists_const, decide_eq_true_eq, decide_eq_false_iff_not, Bool.and_eq_true, beq_iff_eq, beq_eq_false_iff_ne, ne_eq, decide_true, decide_false, hdR_len, stR_len, hdR_24, hdR_25, hdR_26, hdR_27, hdR_28, hdR_29, hdR_30, stR_16, stR_18, stR_19, stR_20, stR_21, stR_22, stR_23, hdP_25, hdP_26, hdP_27, hdP_28, hdP_29, hdP_30, stP_16, stP_19, stP_20, stP_21, stP_22, stP_23, hdD, List.length_set, set_two, denc_push, denc_swap, denc_pop, denc_top, denc_clear, eqv_optN, plN_optN, isNon_optN, optN_some, optN_none, seenD_some, seenD_none, items_pair, items_vals, phk, kdk, List.getElem?_set_self, List.getElem?_set_ne, List.getElem?_append_left, ltaddr, boxD, cDict, S_value_by, S_mixed, *])
abbrev fn_start_by : List Str := ["_law_value_by", "_law_mixed"]
def b_start_by_0 : DW.Ex := (.call 0 (.cons (.call 1 (.cons (.bin .fdivI (.var 0) (.int 8)) (.cons (.var 2) .nil))) .nil))
def b_start_by_1 : DW.Ss := (.cons (.ret (.comp b_start_by_0 (.name 2) .r1 (.var 1) .non false .non [2]))
  .nil)
def m_start_by : DW.Ss := (.cons (.set 1 (.bin .modI (.var 0) (.int 4)))
  (.cons (.ite (.cmp .eq (.bin .modI (.bin .fdivI (.var 0) (.int 4)) (.int 8)) (.int 1)) (.cons (.set 1 (.bin .modI (.bin .fdivI (.var 0) (.int 32)) (.int 61)))
  .nil) .nil)
  b_start_by_1))
abbrev Ss_start_by : List SpD := [S_value_by, S_mixed]
def startN (c : Int) : Nat := (if c / 4 % 8 = 1 then c / 32 % 61 else c % 4).toNat
def startBy (c : Int) : List Int := (List.range (startN c)).map fun (k : Nat) => valueBy (mixed (c / 8) (k : Int))
theorem startN_le (c : Int) : startN c ≤ 60 := by unfold startN; split <;> omega
theorem startBy_len (c : Int) : (startBy c).length ≤ 60 := by unfold startBy; rw [List.length_map, List.length_range]; exact startN_le c
def S_start_by : SpD := fun rs g Q => match rs with
  | [.dat (.int c)] => Q (.dat (.lst ((startBy c).map .int))) g
  | _ => False
theorem mo_start_by : Mono S_start_by := by
  intro rs g P P2 h
  unfold S_start_by
  split
  · intro q; first | exact h _ _ q | exact ⟨q.1, h _ _ q.2⟩ | exact ⟨q.1, q.2.1, h _ _ q.2.2⟩ | exact q.imp fun _ z => ⟨z.1, h _ _ z.2⟩
  · exact id
theorem len_start_by : ∀ rs g Q, S_start_by rs g Q → rs.length = 1 := by
  intro rs g Q q
  unfold S_start_by at q
  split at q
  · rfl
  · exact q.elim
theorem hS_start_by : ∀ rs g Q, S_start_by rs g Q → m_start_by.W (wd Ss_start_by glF dtF) (rs.map some ++ List.replicate (3 - rs.length) none) g (fun _ g2 => Fin g Q (.dat .non) g2) (Fin g Q) := by
  intro rs g Q q
  unfold S_start_by at q
  split at q
  · rename_i c
    unfold m_start_by
    have key : ∀ n : Int, 0 ≤ n → n ≤ 60 → n.toNat = startN c → WComp (Tg.name 2) [2] [some (Rv.dat (D.int c)), some (Rv.dat (D.int n)), none] (fun env => tstW false fun x x_1 => False) (fun env => Ex.W (wd Ss_start_by glF dtF) b_start_by_0 env) (rngs 0 n.toNat) (fun x => True) g (Fin g Q) := by
      intro n h0 h1 hn
      refine comp_map (fun k => .int (valueBy (mixed (c / 8) (k : Int)))) (by rw [rngs_length]; omega) (fun _ => trivial) ?_ ?_
      · rintro k r l P hr hP
        obtain ⟨rfl, hk⟩ := rngs_get' hr
        refine ⟨_, rfl, ?_⟩
        unfold b_start_by_0
        walk_at "dw"
        have h := hP []
        rw [List.append_nil] at h
        exact h
      · intro j
        rw [rngs_length, hn]
        have e : (List.range (startN c)).map (fun (k : Nat) => D.int (valueBy (mixed (c / 8) (k : Int)))) = (startBy c).map .int := by unfold startBy; rw [List.map_map]; rfl
        refine fin_frz (.lst ((startBy c).map .int)) _ rfl ?_ q
        rw [e]
        walk_at "dw"
    walk_at "dw"
    have a1 := Int.emod_nonneg (c / 32) (show (61 : Int) ≠ 0 by decide)
    have a2 := Int.emod_lt_of_pos (c / 32) (show (0 : Int) < 61 by decide)
    have a3 := Int.emod_nonneg c (show (4 : Int) ≠ 0 by decide)
    have a4 := Int.emod_lt_of_pos c (show (0 : Int) < 4 by decide)
    refine ⟨fun h => ?_, fun h => ?_⟩ <;> unfold b_start_by_1 <;> walk_at "dw"
    · refine ⟨by omega, by omega, key _ a1 (by omega) ?_⟩
      unfold startN; rw [if_pos h]
    · refine ⟨by omega, by omega, key _ a3 (by omega) ?_⟩
      unfold startN; rw [if_neg h]
  · exact q.elim

end DW

/-! ## F_hands_by.lean -/
set_option Elab.async false
set_option linter.all false
set_option maxRecDepth 100000
set_option maxHeartbeats 4000000
set_option autoImplicit false
namespace DW
open PySem PySem.Spec L2
open PyProof.Rows hiding St

local macro_rules | `(tactic| walk_at "dw") => `(tactic| simp (config := { maxSteps := 1000000 }) only [and_assoc, natD, mapint_inj, mapnat_inj, denc_inj, wfor_eq, ixD, ixM, cut_one, List.tail_cons, List.tail_nil, eqvs_nil, List.isEmpty_cons, List.isEmpty_nil, plAll_int, plAll_nat, Ss.W, Sm.W, Ex.W, Ex.T, Es.W, wVar, BOp.B, COp.B, Bi.B, IxK.B, bI0, bIC, bEq, bIs, bIn, bIxL, bIxT, bIxS, bIxK, bCat, bCatT, bRep, cLen, cInt, cMin2, cList, cTup, wantB, wAndT, wOrT, wAndV, wOrV, wNotV, lenOf, lstOf_ref, lstOf_lst, seqOf, dicOf_ref, dicOf_dic, wPart, wIter, tstW, mAppend, mPop, mPopAt, mClear, wSetIx, wSetKey, Tg.put, wipeN, Cell.lst.injEq, Cell.dic.injEq, Cell.fz.injEq, List.length_map, tyR, tyD,
    eqv_ii, eqv_ss, eqv_bb, eqv_nn, eqv_ll, eqv_tt, eqn_non_int, eqn_non_str, eqn_non_lst, eqn_non_tup, eqn_non_bl, eqn_non_dic, eqn_int_non, eqn_int_str, eqn_int_lst, eqn_int_tup, eqn_int_dic, eqn_str_non, eqn_str_int, eqn_str_lst, eqn_str_tup, eqn_str_bl, eqn_str_dic, eqn_lst_non, eqn_lst_int, eqn_lst_str, eqn_lst_tup, eqn_lst_bl, eqn_lst_dic, eqn_tup_non, eqn_tup_int, eqn_tup_str, eqn_tup_lst, eqn_tup_bl, eqn_tup_dic, eqn_bl_non, eqn_bl_str, eqn_bl_lst, eqn_bl_tup, eqn_bl_dic, eqvs, atI_lit, cdiv_lit, cmul_r, cmul_l, cpow_lit, nrm_dat, nrm_ref, plN, plAll, rd_dat, rd_ref, rds_nil, rds_cons, rds_map, rdk_nil, rdk_cons, wFrz, frz1, wFrzL, frzs, datsN, datsN_map, datsK, isNon, tyNames, kbs,
    Option.map_some, Option.map_none, Option.isSome_some, List.getD_cons_zero, List.getD_cons_succ, List.getD_nil, get_app, get_app0, set_app, set_app0, List.length_append, List.append_assoc, List.any_cons, List.any_nil, List.zip_cons_cons, List.zip_nil_left, List.zip_nil_right,
    List.map_cons, List.map_nil, List.cons_append, List.nil_append, List.append_nil, List.length_cons, List.length_nil, List.replicate, List.set_cons_zero, List.set_cons_succ, List.getElem?_cons_zero, List.getElem?_cons_succ, List.set_nil, List.getElem?_nil,
    Nat.reduceAdd, Nat.reduceSub, Nat.reduceBEq, Nat.reduceLeDiff, Nat.reduceEqDiff, Nat.sub_self, Nat.zero_add, Nat.add_zero, Nat.zero_le, Nat.le_add_right, Nat.le_refl, Int.reduceToNat, Int.reduceLE, Nat.reduceLT, Nat.reducePow, Int.reducePow, Int.reduceNeg, or_true, true_or, Int.reduceLT, Bool.false_eq_true, if_true, if_false, forall_const, false_implies, true_implies, implies_true, Int.reduceEq, cast_lit, not_true_eq_false, not_false_eq_true, Bool.not_true, Bool.not_false, Bool.not_eq_true', Bool.not_eq_false', Bool.and_true, Bool.true_and, Bool.and_false, Bool.false_and, Bool.or_false, Bool.false_or, Bool.or_true, Bool.true_or, reduceCtorEq, false_and, and_false, or_false, false_or, beq_self_eq_true,
    Option.some.injEq, Prod.mk.injEq, Rv.dat.injEq, Rv.ref.injEq, D.int.injEq, D.bl.injEq, D.str.injEq, D.tup.injEq, D.lst.injEq, D.dic.injEq, D.scr.injEq, List.cons.injEq, and_true, true_and, exists_and_left, exists_and_right, exists_eq_left, exists_eq_left', exists_eq_right, exists_eq_right', exists_eq, exists_eq', exists_const, decide_eq_true_eq, decide_eq_false_iff_not, Bool.and_eq_true, beq_iff_eq, beq_eq_false_iff_ne, ne_eq, decide_true, decide_false, hdR_len, stR_len, hdR_24, hdR_25, hdR_26, hdR_27, hdR_28, hdR_29, hdR_30, stR_16, stR_18, stR_19, stR_20, stR_21, stR_22, stR_23, hdP_25, hdP_26, hdP_27, hdP_28, hdP_29, hdP_30, stP_16, stP_19, stP_20, stP_21, stP_22, stP_23, hdD, List.length_set, set_two, denc_push, denc_swap, denc_pop, denc_top, denc_clear, eqv_optN, plN_optN, isNon_optN, optN_some, optN_none, seenD_some, seenD_none, items_pair, items_vals, phk, kdk, List.getElem?_set_self, List.getElem?_set_ne, List.getElem?_append_left, ltaddr, boxD, cDict])
local macro_rules | `(tactic| walk_at "dwh") => `(tactic| simp (config := { maxSteps := 1000000 }) only [and_assoc, natD, mapint_inj, mapnat_inj, denc_inj, wfor_eq, ixD, ixM, cut_one, List.tail_cons, List.tail_nil, eqvs_nil, List.isEmpty_cons, List.isEmpty_nil, plAll_int, plAll_nat, Ss.W, Sm.W, Ex.W, Ex.T, Es.W, wVar, BOp.B, COp.B, Bi.B, IxK.B, bI0, bIC, bEq, bIs, bIn, bIxL, bIxT, bIxS, bIxK, bCat, bCatT, bRep, cLen, cInt, cMin2, cList, cTup, wantB, wAndT, wOrT, wAndV, wOrV, wNotV, lenOf, lstOf_ref, lstOf_lst, seqOf, dicOf_ref, dicOf_dic, wPart, wIter, tstW, mAppend, mPop, mPopAt, mClear, wSetIx, wSetKey, Tg.put, wipeN, Cell.lst.injEq, Cell.dic.injEq, Cell.fz.injEq, List.length_map, tyR, tyD,
    eqv_ii, eqv_ss, eqv_bb, eqv_nn, eqv_ll, eqv_tt, eqn_non_int, eqn_non_str, eqn_non_lst, eqn_non_tup, eqn_non_bl, eqn_non_dic, eqn_int_non, eqn_int_str, eqn_int_lst, eqn_int_tup, eqn_int_dic, eqn_str_non, eqn_str_int, eqn_str_lst, eqn_str_tup, eqn_str_bl, eqn_str_dic, eqn_lst_non, eqn_lst_int, eqn_lst_str, eqn_lst_tup, eqn_lst_bl, eqn_lst_dic, eqn_tup_non, eqn_tup_int, eqn_tup_str, eqn_tup_lst, eqn_tup_bl, eqn_tup_dic, eqn_bl_non, eqn_bl_str, eqn_bl_lst, eqn_bl_tup, eqn_bl_dic, eqvs, atI_lit, cdiv_lit, cmul_r, cmul_l, cpow_lit, nrm_dat, nrm_ref, plN, plAll, rd_dat, rd_ref, rds_nil, rds_cons, rds_map, rdk_nil, rdk_cons, wFrz, frz1, wFrzL, frzs, datsN, datsN_map, datsK, isNon, tyNames, kbs,
    Option.map_some, Option.map_none, Option.isSome_some, List.getD_cons_zero, List.getD_cons_succ, List.getD_nil, get_app, get_app0, set_app, set_app0, List.length_append, List.append_assoc, List.any_cons, List.any_nil, List.zip_cons_cons, List.zip_nil_left, List.zip_nil_right,
    List.map_cons, List.map_nil, List.cons_append, List.nil_append, List.append_nil, List.length_cons, List.length_nil, List.replicate, List.set_cons_zero, List.set_cons_succ, List.getElem?_cons_zero, List.getElem?_cons_succ, List.set_nil, List.getElem?_nil,
    Nat.reduceAdd, Nat.reduceSub, Nat.reduceBEq, Nat.reduceLeDiff, Nat.reduceEqDiff, Nat.sub_self, Nat.zero_add, Nat.add_zero, Nat.zero_le, Nat.le_add_right, Nat.le_refl, Int.reduceToNat, Int.reduceLE, Nat.reduceLT, Nat.reducePow, Int.reducePow, Int.reduceNeg, or_true, true_or, Int.reduceLT, Bool.false_eq_true, if_true, if_false, forall_const, false_implies, true_implies, implies_true, Int.reduceEq, cast_lit, not_true_eq_false, not_false_eq_true, Bool.not_true, Bool.not_false, Bool.not_eq_true', Bool.not_eq_false', Bool.and_true, Bool.true_and, Bool.and_false, Bool.false_and, Bool.or_false, Bool.false_or, Bool.or_true, Bool.true_or, reduceCtorEq, false_and, and_false, or_false, false_or, beq_self_eq_true,
    Option.some.injEq, Prod.mk.injEq, Rv.dat.injEq, Rv.ref.injEq, D.int.injEq, D.bl.injEq, D.str.injEq, D.tup.injEq, D.lst.injEq, D.dic.injEq, D.scr.injEq, List.cons.injEq, and_true, true_and, exists_and_left, exists_and_right, exists_eq_left, exists_eq_left', exists_eq_right, exists_eq_right', exists_eq, exists_eq', exists_const, decide_eq_true_eq, decide_eq_false_iff_not, Bool.and_eq_true, beq_iff_eq, beq_eq_false_iff_ne, ne_eq, decide_true, decide_false, hdR_len, stR_len, hdR_24, hdR_25, hdR_26, hdR_27, hdR_28, hdR_29, hdR_30, stR_16, stR_18, stR_19, stR_20, stR_21, stR_22, stR_23, hdP_25, hdP_26, hdP_27, hdP_28, hdP_29, hdP_30, stP_16, stP_19, stP_20, stP_21, stP_22, stP_23, hdD, List.length_set, set_two, denc_push, denc_swap, denc_pop, denc_top, denc_clear, eqv_optN, plN_optN, isNon_optN, optN_some, optN_none, seenD_some, seenD_none, items_pair, items_vals, phk, kdk, List.getElem?_set_self, List.getElem?_set_ne, List.getElem?_append_left, ltaddr, boxD, cDict, *])
local macro_rules | `(tactic| walk_at "dwf") => `(tactic| simp (config := { maxSteps := 1000000 }) only [and_assoc, natD, mapint_inj, mapnat_inj, denc_inj, wfor_eq, ixD, ixM, cut_one, List.tail_cons, List.tail_nil, eqvs_nil, List.isEmpty_cons, List.isEmpty_nil, plAll_int, plAll_nat, Ss.W, Sm.W, Ex.W, Ex.T, Es.W, wVar, BOp.B, COp.B, Bi.B, IxK.B, bI0, bIC, bEq, bIs, bIn, bIxL, bIxT, bIxS, bIxK, bCat, bCatT, bRep, cLen, cInt, cMin2, cList, cTup, wantB, wAndT, wOrT, wAndV, wOrV, wNotV, lenOf, lstOf_ref, lstOf_lst, seqOf, dicOf_ref, dicOf_dic, wPart, wIter, tstW, mAppend, mPop, mPopAt, mClear, wSetIx, wSetKey, Tg.put, wipeN, Cell.lst.injEq, Cell.dic.injEq, Cell.fz.injEq, List.length_map, tyR, tyD,
    eqv_ii, eqv_ss, eqv_bb, eqv_nn, eqv_ll, eqv_tt, eqn_non_int, eqn_non_str, eqn_non_lst, eqn_non_tup, eqn_non_bl, eqn_non_dic, eqn_int_non, eqn_int_str, eqn_int_lst, eqn_int_tup, eqn_int_dic, eqn_str_non, eqn_str_int, eqn_str_lst, eqn_str_tup, eqn_str_bl, eqn_str_dic, eqn_lst_non, eqn_lst_int, eqn_lst_str, eqn_lst_tup, eqn_lst_bl, eqn_lst_dic, eqn_tup_non, eqn_tup_int, eqn_tup_str, eqn_tup_lst, eqn_tup_bl, eqn_tup_dic, eqn_bl_non, eqn_bl_str, eqn_bl_lst, eqn_bl_tup, eqn_bl_dic, eqvs, atI_lit, cdiv_lit, cmul_r, cmul_l, cpow_lit, nrm_dat, nrm_ref, plN, plAll, rd_dat, rd_ref, rds_nil, rds_cons, rds_map, rdk_nil, rdk_cons,               isNon, tyNames, kbs,
    Option.map_some, Option.map_none, Option.isSome_some, List.getD_cons_zero, List.getD_cons_succ, List.getD_nil, get_app, get_app0, set_app, set_app0, List.length_append, List.append_assoc, List.any_cons, List.any_nil, List.zip_cons_cons, List.zip_nil_left, List.zip_nil_right,
    List.map_cons, List.map_nil, List.cons_append, List.nil_append, List.append_nil, List.length_cons, List.length_nil, List.replicate, List.set_cons_zero, List.set_cons_succ, List.getElem?_cons_zero, List.getElem?_cons_succ, List.set_nil, List.getElem?_nil,
    Nat.reduceAdd, Nat.reduceSub, Nat.reduceBEq, Nat.reduceLeDiff, Nat.reduceEqDiff, Nat.sub_self, Nat.zero_add, Nat.add_zero, Nat.zero_le, Nat.le_add_right, Nat.le_refl, Int.reduceToNat, Int.reduceLE, Nat.reduceLT, Nat.reducePow, Int.reducePow, Int.reduceNeg, or_true, true_or, Int.reduceLT, Bool.false_eq_true, if_true, if_false, forall_const, false_implies, true_implies, implies_true, Int.reduceEq, cast_lit, not_true_eq_false, not_false_eq_true, Bool.not_true, Bool.not_false, Bool.not_eq_true', Bool.not_eq_false', Bool.and_true, Bool.true_and, Bool.and_false, Bool.false_and, Bool.or_false, Bool.false_or, Bool.or_true, Bool.true_or, reduceCtorEq, false_and, and_false, or_false, false_or, beq_self_eq_true,
    Option.some.injEq, Prod.mk.injEq, Rv.dat.injEq, Rv.ref.injEq, D.int.injEq, D.bl.injEq, D.str.injEq, D.tup.injEq, D.lst.injEq, D.dic.injEq, D.scr.injEq, List.cons.injEq, and_true, true_and, exists_and_left, exists_and_right, exists_eq_left, exists_eq_left', exists_eq_right, exists_eq_right', exists_eq, exists_eq', exists_const, decide_eq_true_eq, decide_eq_false_iff_not, Bool.and_eq_true, beq_iff_eq, beq_eq_false_iff_ne, ne_eq, decide_true, decide_false, hdR_len, stR_len, hdR_24, hdR_25, hdR_26, hdR_27, hdR_28, hdR_29, hdR_30, stR_16, stR_18, stR_19, stR_20, stR_21, stR_22, stR_23, hdP_25, hdP_26, hdP_27, hdP_28, hdP_29, hdP_30, stP_16, stP_19, stP_20, stP_21, stP_22, stP_23, hdD, List.length_set, set_two, denc_push, denc_swap, denc_pop, denc_top, denc_clear, eqv_optN, plN_optN, isNon_optN, optN_some, optN_none, seenD_some, seenD_none, items_pair, items_vals, phk, kdk, List.getElem?_set_self, List.getElem?_set_ne, List.getElem?_append_left, ltaddr, boxD, cDict, *])
abbrev fn_hands_by : List Str := []
def m_hands_by : DW.Ss := (.cons (.ite (.cmp .eq (.bin .modI (.bin .fdivI (.var 0) (.int 4)) (.int 8)) (.int 1)) (.cons (.ret (.bin .addI (.int 5) (.bin .modI (.bin .fdivI (.var 0) (.int 32)) (.int 16))))
  .nil) .nil)
  (.cons (.ret (.bin .addI (.int 1) (.bin .modI (.var 0) (.int 4))))
  .nil))
abbrev Ss_hands_by : List SpD := []
def handsBy (c : Int) : Nat := (if c / 4 % 8 = 1 then 5 + c / 32 % 16 else 1 + c % 4).toNat
theorem handsBy_le (c : Int) : 1 ≤ handsBy c ∧ handsBy c ≤ 20 := by unfold handsBy; split <;> omega
def S_hands_by : SpD := fun rs g Q => match rs with
  | [.dat (.int c)] => Q (.dat (.int (handsBy c : Nat))) g
  | _ => False
theorem mo_hands_by : Mono S_hands_by := by
  intro rs g P P2 h
  unfold S_hands_by
  split
  · intro q; first | exact h _ _ q | exact ⟨q.1, h _ _ q.2⟩ | exact ⟨q.1, q.2.1, h _ _ q.2.2⟩ | exact q.imp fun _ z => ⟨z.1, h _ _ z.2⟩
  · exact id
theorem len_hands_by : ∀ rs g Q, S_hands_by rs g Q → rs.length = 1 := by
  intro rs g Q q
  unfold S_hands_by at q
  split at q
  · rfl
  · exact q.elim
theorem hS_hands_by : ∀ rs g Q, S_hands_by rs g Q → m_hands_by.W (wd Ss_hands_by glF dtF) (rs.map some ++ List.replicate (1 - rs.length) none) g (fun _ g2 => Fin g Q (.dat .non) g2) (Fin g Q) := by
  intro rs g Q q
  unfold S_hands_by at q
  split at q
  · rename_i c
    unfold m_hands_by
    walk_at "dw"
    unfold handsBy at q
    refine ⟨fun h => fin_dat [] (by simp) ?_, fun h => fin_dat [] (by simp) ?_⟩
    · rw [if_pos h, Int.toNat_of_nonneg (by omega)] at q; exact q
    · rw [if_neg h, Int.toNat_of_nonneg (by omega)] at q; exact q
  · exact q.elim

end DW

/-! ## F_programs_by.lean -/
set_option Elab.async false
set_option linter.all false
set_option maxRecDepth 100000
set_option maxHeartbeats 4000000
set_option autoImplicit false
namespace DW
open PySem PySem.Spec L2
open PyProof.Rows hiding St

local macro_rules | `(tactic| walk_at "dw") => `(tactic| simp (config := { maxSteps := 1000000 }) only [and_assoc, natD, mapint_inj, mapnat_inj, denc_inj, wfor_eq, ixD, ixM, cut_one, List.tail_cons, List.tail_nil, eqvs_nil, List.isEmpty_cons, List.isEmpty_nil, plAll_int, plAll_nat, Ss.W, Sm.W, Ex.W, Ex.T, Es.W, wVar, BOp.B, COp.B, Bi.B, IxK.B, bI0, bIC, bEq, bIs, bIn, bIxL, bIxT, bIxS, bIxK, bCat, bCatT, bRep, cLen, cInt, cMin2, cList, cTup, wantB, wAndT, wOrT, wAndV, wOrV, wNotV, lenOf, lstOf_ref, lstOf_lst, seqOf, dicOf_ref, dicOf_dic, wPart, wIter, tstW, mAppend, mPop, mPopAt, mClear, wSetIx, wSetKey, Tg.put, wipeN, Cell.lst.injEq, Cell.dic.injEq, Cell.fz.injEq, List.length_map, tyR, tyD,
    eqv_ii, eqv_ss, eqv_bb, eqv_nn, eqv_ll, eqv_tt, eqn_non_int, eqn_non_str, eqn_non_lst, eqn_non_tup, eqn_non_bl, eqn_non_dic, eqn_int_non, eqn_int_str, eqn_int_lst, eqn_int_tup, eqn_int_dic, eqn_str_non, eqn_str_int, eqn_str_lst, eqn_str_tup, eqn_str_bl, eqn_str_dic, eqn_lst_non, eqn_lst_int, eqn_lst_str, eqn_lst_tup, eqn_lst_bl, eqn_lst_dic, eqn_tup_non, eqn_tup_int, eqn_tup_str, eqn_tup_lst, eqn_tup_bl, eqn_tup_dic, eqn_bl_non, eqn_bl_str, eqn_bl_lst, eqn_bl_tup, eqn_bl_dic, eqvs, atI_lit, cdiv_lit, cmul_r, cmul_l, cpow_lit, nrm_dat, nrm_ref, plN, plAll, rd_dat, rd_ref, rds_nil, rds_cons, rds_map, rdk_nil, rdk_cons, wFrz, frz1, wFrzL, frzs, datsN, datsN_map, datsK, isNon, tyNames, kbs,
    Option.map_some, Option.map_none, Option.isSome_some, List.getD_cons_zero, List.getD_cons_succ, List.getD_nil, get_app, get_app0, set_app, set_app0, List.length_append, List.append_assoc, List.any_cons, List.any_nil, List.zip_cons_cons, List.zip_nil_left, List.zip_nil_right,
    List.map_cons, List.map_nil, List.cons_append, List.nil_append, List.append_nil, List.length_cons, List.length_nil, List.replicate, List.set_cons_zero, List.set_cons_succ, List.getElem?_cons_zero, List.getElem?_cons_succ, List.set_nil, List.getElem?_nil,
    Nat.reduceAdd, Nat.reduceSub, Nat.reduceBEq, Nat.reduceLeDiff, Nat.reduceEqDiff, Nat.sub_self, Nat.zero_add, Nat.add_zero, Nat.zero_le, Nat.le_add_right, Nat.le_refl, Int.reduceToNat, Int.reduceLE, Nat.reduceLT, Nat.reducePow, Int.reducePow, Int.reduceNeg, or_true, true_or, Int.reduceLT, Bool.false_eq_true, if_true, if_false, forall_const, false_implies, true_implies, implies_true, Int.reduceEq, cast_lit, not_true_eq_false, not_false_eq_true, Bool.not_true, Bool.not_false, Bool.not_eq_true', Bool.not_eq_false', Bool.and_true, Bool.true_and, Bool.and_false, Bool.false_and, Bool.or_false, Bool.false_or, Bool.or_true, Bool.true_or, reduceCtorEq, false_and, and_false, or_false, false_or, beq_self_eq_true,
    Option.some.injEq, Prod.mk.injEq, Rv.dat.injEq, Rv.ref.injEq, D.int.injEq, D.bl.injEq, D.str.injEq, D.tup.injEq, D.lst.injEq, D.dic.injEq, D.scr.injEq, List.cons.injEq, and_true, true_and, exists_and_left, exists_and_right, exists_eq_left, exists_eq_left', exists_eq_right, exists_eq_right', exists_eq, exists_eq', exists_const, decide_eq_true_eq, decide_eq_false_iff_not, Bool.and_eq_true, beq_iff_eq, beq_eq_false_iff_ne, ne_eq, decide_true, decide_false, hdR_len, stR_len, hdR_24, hdR_25, hdR_26, hdR_27, hdR_28, hdR_29, hdR_30, stR_16, stR_18, stR_19, stR_20, stR_21, stR_22, stR_23, hdP_25, hdP_26, hdP_27, hdP_28, hdP_29, hdP_30, stP_16, stP_19, stP_20, stP_21, stP_22, stP_23, hdD, List.length_set, set_two, denc_push, denc_swap, denc_pop, denc_top, denc_clear, eqv_optN, plN_optN, isNon_optN, optN_some, optN_none, seenD_some, seenD_none, items_pair, items_vals, phk, kdk, List.getElem?_set_self, List.getElem?_set_ne, List.getElem?_append_left, ltaddr, boxD, cDict, S_deed_by])
local macro_rules | `(tactic| walk_at "dwh") => `(tactic| simp (config := { maxSteps := 1000000 }) only [and_assoc, natD, mapint_inj, mapnat_inj, denc_inj, wfor_eq, ixD, ixM, cut_one, List.tail_cons, List.tail_nil, eqvs_nil, List.isEmpty_cons, List.isEmpty_nil, plAll_int, plAll_nat, Ss.W, Sm.W, Ex.W, Ex.T, Es.W, wVar, BOp.B, COp.B, Bi.B, IxK.B, bI0, bIC, bEq, bIs, bIn, bIxL, bIxT, bIxS, bIxK, bCat, bCatT, bRep, cLen, cInt, cMin2, cList, cTup, wantB, wAndT, wOrT, wAndV, wOrV, wNotV, lenOf, lstOf_ref, lstOf_lst, seqOf, dicOf_ref, dicOf_dic, wPart, wIter, tstW, mAppend, mPop, mPopAt, mClear, wSetIx, wSetKey, Tg.put, wipeN, Cell.lst.injEq, Cell.dic.injEq, Cell.fz.injEq, List.length_map, tyR, tyD,
    eqv_ii, eqv_ss, eqv_bb, eqv_nn, eqv_ll, eqv_tt, eqn_non_int, eqn_non_str, eqn_non_lst, eqn_non_tup, eqn_non_bl, eqn_non_dic, eqn_int_non, eqn_int_str, eqn_int_lst, eqn_int_tup, eqn_int_dic, eqn_str_non, eqn_str_int, eqn_str_lst, eqn_str_tup, eqn_str_bl, eqn_str_dic, eqn_lst_non, eqn_lst_int, eqn_lst_str, eqn_lst_tup, eqn_lst_bl, eqn_lst_dic, eqn_tup_non, eqn_tup_int, eqn_tup_str, eqn_tup_lst, eqn_tup_bl, eqn_tup_dic, eqn_bl_non, eqn_bl_str, eqn_bl_lst, eqn_bl_tup, eqn_bl_dic, eqvs, atI_lit, cdiv_lit, cmul_r, cmul_l, cpow_lit, nrm_dat, nrm_ref, plN, plAll, rd_dat, rd_ref, rds_nil, rds_cons, rds_map, rdk_nil, rdk_cons, wFrz, frz1, wFrzL, frzs, datsN, datsN_map, datsK, isNon, tyNames, kbs,
    Option.map_some, Option.map_none, Option.isSome_some, List.getD_cons_zero, List.getD_cons_succ, List.getD_nil, get_app, get_app0, set_app, set_app0, List.length_append, List.append_assoc, List.any_cons, List.any_nil, List.zip_cons_cons, List.zip_nil_left, List.zip_nil_right,
    List.map_cons, List.map_nil, List.cons_append, List.nil_append, List.append_nil, List.length_cons, List.length_nil, List.replicate, List.set_cons_zero, List.set_cons_succ, List.getElem?_cons_zero, List.getElem?_cons_succ, List.set_nil, List.getElem?_nil,
    Nat.reduceAdd, Nat.reduceSub, Nat.reduceBEq, Nat.reduceLeDiff, Nat.reduceEqDiff, Nat.sub_self, Nat.zero_add, Nat.add_zero, Nat.zero_le, Nat.le_add_right, Nat.le_refl, Int.reduceToNat, Int.reduceLE, Nat.reduceLT, Nat.reducePow, Int.reducePow, Int.reduceNeg, or_true, true_or, Int.reduceLT, Bool.false_eq_true, if_true, if_false, forall_const, false_implies, true_implies, implies_true, Int.reduceEq, cast_lit, not_true_eq_false, not_false_eq_true, Bool.not_true, Bool.not_false, Bool.not_eq_true', Bool.not_eq_false', Bool.and_true, Bool.true_and, Bool.and_false, Bool.false_and, Bool.or_false, Bool.false_or, Bool.or_true, Bool.true_or, reduceCtorEq, false_and, and_false, or_false, false_or, beq_self_eq_true,
    Option.some.injEq, Prod.mk.injEq, Rv.dat.injEq, Rv.ref.injEq, D.int.injEq, D.bl.injEq, D.str.injEq, D.tup.injEq, D.lst.injEq, D.dic.injEq, D.scr.injEq, List.cons.injEq, and_true, true_and, exists_and_left, exists_and_right, exists_eq_left, exists_eq_left', exists_eq_right, exists_eq_right', exists_eq, exists_eq', exists_const, decide_eq_true_eq, decide_eq_false_iff_not, Bool.and_eq_true, beq_iff_eq, beq_eq_false_iff_ne, ne_eq, decide_true, decide_false, hdR_len, stR_len, hdR_24, hdR_25, hdR_26, hdR_27, hdR_28, hdR_29, hdR_30, stR_16, stR_18, stR_19, stR_20, stR_21, stR_22, stR_23, hdP_25, hdP_26, hdP_27, hdP_28, hdP_29, hdP_30, stP_16, stP_19, stP_20, stP_21, stP_22, stP_23, hdD, List.length_set, set_two, denc_push, denc_swap, denc_pop, denc_top, denc_clear, eqv_optN, plN_optN, isNon_optN, optN_some, optN_none, seenD_some, seenD_none, items_pair, items_vals, phk, kdk, List.getElem?_set_self, List.getElem?_set_ne, List.getElem?_append_left, ltaddr, boxD, cDict, S_deed_by, *])
local macro_rules | `(tactic| walk_at "dwf") => `(tactic| simp (config := { maxSteps := 1000000 }) only [and_assoc, natD, mapint_inj, mapnat_inj, denc_inj, wfor_eq, ixD, ixM, cut_one, List.tail_cons, List.tail_nil, eqvs_nil, List.isEmpty_cons, List.isEmpty_nil, plAll_int, plAll_nat, Ss.W, Sm.W, Ex.W, Ex.T, Es.W, wVar, BOp.B, COp.B, Bi.B, IxK.B, bI0, bIC, bEq, bIs, bIn, bIxL, bIxT, bIxS, bIxK, bCat, bCatT, bRep, cLen, cInt, cMin2, cList, cTup, wantB, wAndT, wOrT, wAndV, wOrV, wNotV, lenOf, lstOf_ref, lstOf_lst, seqOf, dicOf_ref, dicOf_dic, wPart, wIter, tstW, mAppend, mPop, mPopAt, mClear, wSetIx, wSetKey, Tg.put, wipeN, Cell.lst.injEq, Cell.dic.injEq, Cell.fz.injEq, List.length_map, tyR, tyD,
    eqv_ii, eqv_ss, eqv_bb, eqv_nn, eqv_ll, eqv_tt, eqn_non_int, eqn_non_str, eqn_non_lst, eqn_non_tup, eqn_non_bl, eqn_non_dic, eqn_int_non, eqn_int_str, eqn_int_lst, eqn_int_tup, eqn_int_dic, eqn_str_non, eqn_str_int, eqn_str_lst, eqn_str_tup, eqn_str_bl, eqn_str_dic, eqn_lst_non, eqn_lst_int, eqn_lst_str, eqn_lst_tup, eqn_lst_bl, eqn_lst_dic, eqn_tup_non, eqn_tup_int, eqn_tup_str, eqn_tup_lst, eqn_tup_bl, eqn_tup_dic, eqn_bl_non, eqn_bl_str, eqn_bl_lst, eqn_bl_tup, eqn_bl_dic, eqvs, atI_lit, cdiv_lit, cmul_r, cmul_l, cpow_lit, nrm_dat, nrm_ref, plN, plAll, rd_dat, rd_ref, rds_nil, rds_cons, rds_map, rdk_nil, rdk_cons,               isNon, tyNames, kbs,
    Option.map_some, Option.map_none, Option.isSome_some, List.getD_cons_zero, List.getD_cons_succ, List.getD_nil, get_app, get_app0, set_app, set_app0, List.length_append, List.append_assoc, List.any_cons, List.any_nil, List.zip_cons_cons, List.zip_nil_left, List.zip_nil_right,
    List.map_cons, List.map_nil, List.cons_append, List.nil_append, List.append_nil, List.length_cons, List.length_nil, List.replicate, List.set_cons_zero, List.set_cons_succ, List.getElem?_cons_zero, List.getElem?_cons_succ, List.set_nil, List.getElem?_nil,
    Nat.reduceAdd, Nat.reduceSub, Nat.reduceBEq, Nat.reduceLeDiff, Nat.reduceEqDiff, Nat.sub_self, Nat.zero_add, Nat.add_zero, Nat.zero_le, Nat.le_add_right, Nat.le_refl, Int.reduceToNat, Int.reduceLE, Nat.reduceLT, Nat.reducePow, Int.reducePow, Int.reduceNeg, or_true, true_or, Int.reduceLT, Bool.false_eq_true, if_true, if_false, forall_const, false_implies, true_implies, implies_true, Int.reduceEq, cast_lit, not_true_eq_false, not_false_eq_true, Bool.not_true, Bool.not_false, Bool.not_eq_true', Bool.not_eq_false', Bool.and_true, Bool.true_and, Bool.and_false, Bool.false_and, Bool.or_false, Bool.false_or, Bool.or_true, Bool.true_or, reduceCtorEq, false_and, and_false, or_false, false_or, beq_self_eq_true,
    Option.some.injEq, Prod.mk.injEq, Rv.dat.injEq, Rv.ref.injEq, D.int.injEq, D.bl.injEq, D.str.injEq, D.tup.injEq, D.lst.injEq, D.dic.injEq, D.scr.injEq, List.cons.injEq, and_true, true_and, exists_and_left, exists_and_right, exists_eq_left, exists_eq_left', exists_eq_right, exists_eq_right', exists_eq, exists_eq', exists_const, decide_eq_true_eq, decide_eq_false_iff_not, Bool.and_eq_true, beq_iff_eq, beq_eq_false_iff_ne, ne_eq, decide_true, decide_false, hdR_len, stR_len, hdR_24, hdR_25, hdR_26, hdR_27, hdR_28, hdR_29, hdR_30, stR_16, stR_18, stR_19, stR_20, stR_21, stR_22, stR_23, hdP_25, hdP_26, hdP_27, hdP_28, hdP_29, hdP_30, stP_16, stP_19, stP_20, stP_21, stP_22, stP_23, hdD, List.length_set, set_two, denc_push, denc_swap, denc_pop, denc_top, denc_clear, eqv_optN, plN_optN, isNon_optN, optN_some, optN_none, seenD_some, seenD_none, items_pair, items_vals, phk, kdk, List.getElem?_set_self, List.getElem?_set_ne, List.getElem?_append_left, ltaddr, boxD, cDict, S_deed_by, *])
abbrev fn_programs_by : List Str := ["_law_cells", "_law_deed_by"]
def b_programs_by_0 : DW.Ex := (.lst .nil)
def b_programs_by_1 : DW.Ss := (.cons (.expr (.app (.ix .l (.var 2) (.bin .modI (.var 3) (.var 1))) (.call 1 (.cons (.bin .fdivI (.var 3) (.int 4)) .nil))))
  .nil)
def b_programs_by_2 : DW.Ss := (.cons (.ret (.var 2))
  .nil)
def b_programs_by_3 : DW.Ss := (.cons (.for_ (.name 3) .list (.call 0 (.cons (.var 0) (.cons (.int 3) (.cons (.int 27) .nil)))) .non b_programs_by_1)
  b_programs_by_2)
def m_programs_by : DW.Ss := (.cons (.setC 2 (.comp b_programs_by_0 (.name 4) .r1 (.var 1) .non false .non [4]))
  b_programs_by_3)
abbrev Ss_programs_by : List SpD := [S_cells, S_deed_by]
def progCell (p : List Deed) : Cell := .lst ((p.map Deed.enc).map Rv.dat)
theorem rds_progs {G : Rg} {b : Nat} : ∀ {progs : List (List Deed)} {c : Nat}, b ≤ c → (∀ (i : Nat) (p : List Deed), progs[i]? = some p → G[c + (i + 1)]? = some (progCell p)) → RDs G b ((List.range progs.length).map fun i => .ref (c + (i + 1))) (progs.map progD)
  | [], _, _, _ => .nil
  | p :: t, c, hc, h => by
    have e : (List.range (p :: t).length).map (fun i => Rv.ref (c + (i + 1))) = .ref (c + 1) :: (List.range t.length).map fun i => .ref (c + 1 + (i + 1)) := by
      rw [List.length_cons, List.range_succ_eq_map, List.map_cons, List.map_map]
      congr 1
      refine List.map_congr_left fun i _ => ?_
      simp only [Function.comp]; congr 1; omega
    rw [e]
    refine .cons (.lst (by omega) (h 0 p rfl) rd_dats) (rds_progs (by omega) fun i q hq => ?_)
    have := h (i + 1) q (by simpa using hq)
    rw [← this]; congr 1; omega
def S_programs_by : SpD := fun rs g Q => ∃ (ns : List Int) (h : Nat), rs = [.dat (.scr ns), .dat (.int (h : Int))] ∧ (ns.length ≤ 63 ∧ 1 ≤ h ∧ h ≤ 20 ∧ ∀ progs : List (List Deed), progs.length = h → (∀ p ∈ progs, p.length ≤ 24) → Q (.dat (.lst (progs.map progD))) g)
theorem mo_programs_by : Mono S_programs_by := by
  rintro rs g P P2 hPP ⟨ns, h, eRS, q⟩
  refine ⟨ns, h, eRS, ?_⟩
  exact ⟨q.1, q.2.1, q.2.2.1, fun p h1 h2 => hPP _ _ (q.2.2.2 p h1 h2)⟩
theorem len_programs_by : ∀ rs g Q, S_programs_by rs g Q → rs.length = 2 := by
  rintro rs g Q ⟨ns, h, rfl, q⟩
  rfl
theorem hS_programs_by : ∀ rs g Q, S_programs_by rs g Q → m_programs_by.W (wd Ss_programs_by glF dtF) (rs.map some ++ List.replicate (5 - rs.length) none) g (fun _ g2 => Fin g Q (.dat .non) g2) (Fin g Q) := by
  rintro rs g Q ⟨ns, h, rfl, q⟩
  unfold m_programs_by
  obtain ⟨hl, hh1, hh2, q⟩ := q
  walk_at "dw"
  refine ⟨by omega, by omega, ?_⟩
  refine comp_new (fun _ => .lst []) (by rw [rngs_length]; omega) (fun _ => trivial) ?_ ?_
  · rintro k r l P hr hP
    refine ⟨_, rfl, ?_⟩
    unfold b_programs_by_0
    simp only [List.length_append, List.append_assoc] at hP
    walk_at "dw"
    exact hP
  · rw [rngs_length, Int.toNat_natCast]
    have e : (List.range h).map (fun _ => Cell.lst []) = (List.replicate h ([] : List Deed)).map progCell := by
      rw [List.map_replicate]; exact List.ext_getElem (by simp) fun i h1 h2 => by simp [progCell]
    rw [e]
    unfold b_programs_by_3
    walk_at "dw"
    refine ⟨ns, 3, 27, rfl, hl, by decide, by decide, ?_⟩
    walk_at "dw"
    have hcl := cellsL_len ns 3 27
    have hcm : ∀ c ∈ cellsL ns 3 27, 0 ≤ c := fun c hc => (cellsL_mem hc).1
    generalize cellsL ns 3 27 = cs at hcl hcm
    refine wloop (fun k env g2 => ∃ (progs : List (List Deed)) (a b : Option Rv) (j : Rg), env = [some (.dat (.scr ns)), some (.dat (.int (h : Int))), some (.ref g.length), a, b] ∧ g2 = g ++ (.lst (nrefs g.length h) :: (progs.map progCell ++ j)) ∧ progs.length = h ∧ ∀ p ∈ progs, p.length ≤ k) ⟨List.replicate h [], none, none, [], rfl, by rw [List.append_nil], by simp, fun p hp => by rw [(List.mem_replicate.mp hp).2]; exact Nat.le_refl 0⟩ (fun _ _ _ _ => trivial) ?_ ?_
    · rintro k r env g2 hkr ⟨progs, a, b, j, rfl, rfl, hpl, hpm⟩
      rw [List.getElem?_map, List.getElem?_map] at hkr
      obtain ⟨d, hkr1, e1⟩ := Option.map_eq_some_iff.mp hkr
      obtain ⟨c, hkr2, e2⟩ := Option.map_eq_some_iff.mp hkr1
      subst e2; subst e1
      have hk := (List.getElem?_eq_some_iff.mp hkr2).1
      have hc0 := hcm c (List.mem_of_getElem? hkr2)
      have i0 := Int.emod_nonneg c (show (h : Int) ≠ 0 by omega)
      have i1 := Int.emod_lt_of_pos c (show (0 : Int) < (h : Int) by omega)
      obtain ⟨i, hi⟩ := Int.eq_ofNat_of_zero_le i0
      rw [hi] at i1
      have hih : i < h := by omega
      have hat : atI (nrefs g.length h) (i : Int) = some (.ref (g.length + (i + 1))) := atI_nat' (nrefs_at hih)
      obtain ⟨p, hp⟩ : ∃ p, progs[i]? = some p := ⟨_, List.getElem?_eq_getElem (by omega)⟩
      have hpl2 := hpm p (List.mem_of_getElem? hp)
      have hgi : (progs.map progCell ++ j)[i]? = some (progCell p) := by rw [List.getElem?_append_left (by rw [List.length_map]; omega), List.getElem?_map, hp]; rfl
      have hgi2 : (progs.map progCell)[i]? = some (progCell p) := by rw [List.getElem?_map, hp]; rfl
      have hpc : progCell p = .lst ((p.map Deed.enc).map Rv.dat) := rfl
      have hpos : (0 : Int) < (h : Int) := by omega
      refine ⟨_, rfl, ?_⟩
      unfold b_programs_by_1
      have hlt : p.length < 1000000 := by omega
      clear hkr hkr1 hkr2 i0
      walk_at "dwh"
      refine ⟨progs.set i (p ++ [deedBy (c / 4)]), ⟨j, ?_⟩, by rw [List.length_set]; exact hpl, fun x hx => ?_⟩
      · rw [List.set_append_left _ _ (by rw [List.length_map]; omega), List.map_set]
        congr 3
        unfold progCell
        rw [List.map_append, List.map_append]; rfl
      · rcases List.mem_or_eq_of_mem_set hx with hx | rfl
        · exact Nat.le_succ_of_le (hpm x hx)
        · rw [List.length_append]; exact Nat.succ_le_succ hpl2
    · rintro env g2 ⟨progs, a, b, j, rfl, rfl, hpl, hpm⟩
      rw [List.length_map, List.length_map] at hpm
      unfold b_programs_by_2
      walk_at "dw"
      refine fin_frz (.lst (progs.map progD)) _ rfl ?_ (q progs hpl fun p hp => Nat.le_trans (hpm p hp) hcl)
      refine .lst (Nat.le_refl _) get_app0 ?_
      have := rds_progs (G := g ++ (.lst (nrefs g.length h) :: (progs.map progCell ++ j))) (b := g.length) (progs := progs) (c := g.length) (Nat.le_refl _) fun i p hp => by
        have hi := (List.getElem?_eq_some_iff.mp hp).1
        rw [get_app, List.getElem?_cons_succ, List.getElem?_append_left (by rw [List.length_map]; exact hi), List.getElem?_map, hp]; rfl
      rw [hpl] at this
      exact this

end DW

/-! ## F_weaving_by.lean -/
set_option Elab.async false
set_option linter.all false
set_option maxRecDepth 100000
set_option maxHeartbeats 4000000
set_option autoImplicit false
namespace DW
open PySem PySem.Spec L2
open PyProof.Rows hiding St

local macro_rules | `(tactic| walk_at "dw") => `(tactic| simp (config := { maxSteps := 1000000 }) only [and_assoc, natD, mapint_inj, mapnat_inj, denc_inj, wfor_eq, ixD, ixM, cut_one, List.tail_cons, List.tail_nil, eqvs_nil, List.isEmpty_cons, List.isEmpty_nil, plAll_int, plAll_nat, Ss.W, Sm.W, Ex.W, Ex.T, Es.W, wVar, BOp.B, COp.B, Bi.B, IxK.B, bI0, bIC, bEq, bIs, bIn, bIxL, bIxT, bIxS, bIxK, bCat, bCatT, bRep, cLen, cInt, cMin2, cList, cTup, wantB, wAndT, wOrT, wAndV, wOrV, wNotV, lenOf, lstOf_ref, lstOf_lst, seqOf, dicOf_ref, dicOf_dic, wPart, wIter, tstW, mAppend, mPop, mPopAt, mClear, wSetIx, wSetKey, Tg.put, wipeN, Cell.lst.injEq, Cell.dic.injEq, Cell.fz.injEq, List.length_map, tyR, tyD,
    eqv_ii, eqv_ss, eqv_bb, eqv_nn, eqv_ll, eqv_tt, eqn_non_int, eqn_non_str, eqn_non_lst, eqn_non_tup, eqn_non_bl, eqn_non_dic, eqn_int_non, eqn_int_str, eqn_int_lst, eqn_int_tup, eqn_int_dic, eqn_str_non, eqn_str_int, eqn_str_lst, eqn_str_tup, eqn_str_bl, eqn_str_dic, eqn_lst_non, eqn_lst_int, eqn_lst_str, eqn_lst_tup, eqn_lst_bl, eqn_lst_dic, eqn_tup_non, eqn_tup_int, eqn_tup_str, eqn_tup_lst, eqn_tup_bl, eqn_tup_dic, eqn_bl_non, eqn_bl_str, eqn_bl_lst, eqn_bl_tup, eqn_bl_dic, eqvs, atI_lit, cdiv_lit, cmul_r, cmul_l, cpow_lit, nrm_dat, nrm_ref, plN, plAll, rd_dat, rd_ref, rds_nil, rds_cons, rds_map, rdk_nil, rdk_cons, wFrz, frz1, wFrzL, frzs, datsN, datsN_map, datsK, isNon, tyNames, kbs,
    Option.map_some, Option.map_none, Option.isSome_some, List.getD_cons_zero, List.getD_cons_succ, List.getD_nil, get_app, get_app0, set_app, set_app0, List.length_append, List.append_assoc, List.any_cons, List.any_nil, List.zip_cons_cons, List.zip_nil_left, List.zip_nil_right,
    List.map_cons, List.map_nil, List.cons_append, List.nil_append, List.append_nil, List.length_cons, List.length_nil, List.replicate, List.set_cons_zero, List.set_cons_succ, List.getElem?_cons_zero, List.getElem?_cons_succ, List.set_nil, List.getElem?_nil,
    Nat.reduceAdd, Nat.reduceSub, Nat.reduceBEq, Nat.reduceLeDiff, Nat.reduceEqDiff, Nat.sub_self, Nat.zero_add, Nat.add_zero, Nat.zero_le, Nat.le_add_right, Nat.le_refl, Int.reduceToNat, Int.reduceLE, Nat.reduceLT, Nat.reducePow, Int.reducePow, Int.reduceNeg, or_true, true_or, Int.reduceLT, Bool.false_eq_true, if_true, if_false, forall_const, false_implies, true_implies, implies_true, Int.reduceEq, cast_lit, not_true_eq_false, not_false_eq_true, Bool.not_true, Bool.not_false, Bool.not_eq_true', Bool.not_eq_false', Bool.and_true, Bool.true_and, Bool.and_false, Bool.false_and, Bool.or_false, Bool.false_or, Bool.or_true, Bool.true_or, reduceCtorEq, false_and, and_false, or_false, false_or, beq_self_eq_true,
    Option.some.injEq, Prod.mk.injEq, Rv.dat.injEq, Rv.ref.injEq, D.int.injEq, D.bl.injEq, D.str.injEq, D.tup.injEq, D.lst.injEq, D.dic.injEq, D.scr.injEq, List.cons.injEq, and_true, true_and, exists_and_left, exists_and_right, exists_eq_left, exists_eq_left', exists_eq_right, exists_eq_right', exists_eq, exists_eq', exists_const, decide_eq_true_eq, decide_eq_false_iff_not, Bool.and_eq_true, beq_iff_eq, beq_eq_false_iff_ne, ne_eq, decide_true, decide_false, hdR_len, stR_len, hdR_24, hdR_25, hdR_26, hdR_27, hdR_28, hdR_29, hdR_30, stR_16, stR_18, stR_19, stR_20, stR_21, stR_22, stR_23, hdP_25, hdP_26, hdP_27, hdP_28, hdP_29, hdP_30, stP_16, stP_19, stP_20, stP_21, stP_22, stP_23, hdD, List.length_set, set_two, denc_push, denc_swap, denc_pop, denc_top, denc_clear, eqv_optN, plN_optN, isNon_optN, optN_some, optN_none, seenD_some, seenD_none, items_pair, items_vals, phk, kdk, List.getElem?_set_self, List.getElem?_set_ne, List.getElem?_append_left, ltaddr, boxD, cDict])
local macro_rules | `(tactic| walk_at "dwh") => `(tactic| simp (config := { maxSteps := 1000000 }) only [and_assoc, natD, mapint_inj, mapnat_inj, denc_inj, wfor_eq, ixD, ixM, cut_one, List.tail_cons, List.tail_nil, eqvs_nil, List.isEmpty_cons, List.isEmpty_nil, plAll_int, plAll_nat, Ss.W, Sm.W, Ex.W, Ex.T, Es.W, wVar, BOp.B, COp.B, Bi.B, IxK.B, bI0, bIC, bEq, bIs, bIn, bIxL, bIxT, bIxS, bIxK, bCat, bCatT, bRep, cLen, cInt, cMin2, cList, cTup, wantB, wAndT, wOrT, wAndV, wOrV, wNotV, lenOf, lstOf_ref, lstOf_lst, seqOf, dicOf_ref, dicOf_dic, wPart, wIter, tstW, mAppend, mPop, mPopAt, mClear, wSetIx, wSetKey, Tg.put, wipeN, Cell.lst.injEq, Cell.dic.injEq, Cell.fz.injEq, List.length_map, tyR, tyD,
    eqv_ii, eqv_ss, eqv_bb, eqv_nn, eqv_ll, eqv_tt, eqn_non_int, eqn_non_str, eqn_non_lst, eqn_non_tup, eqn_non_bl, eqn_non_dic, eqn_int_non, eqn_int_str, eqn_int_lst, eqn_int_tup, eqn_int_dic, eqn_str_non, eqn_str_int, eqn_str_lst, eqn_str_tup, eqn_str_bl, eqn_str_dic, eqn_lst_non, eqn_lst_int, eqn_lst_str, eqn_lst_tup, eqn_lst_bl, eqn_lst_dic, eqn_tup_non, eqn_tup_int, eqn_tup_str, eqn_tup_lst, eqn_tup_bl, eqn_tup_dic, eqn_bl_non, eqn_bl_str, eqn_bl_lst, eqn_bl_tup, eqn_bl_dic, eqvs, atI_lit, cdiv_lit, cmul_r, cmul_l, cpow_lit, nrm_dat, nrm_ref, plN, plAll, rd_dat, rd_ref, rds_nil, rds_cons, rds_map, rdk_nil, rdk_cons, wFrz, frz1, wFrzL, frzs, datsN, datsN_map, datsK, isNon, tyNames, kbs,
    Option.map_some, Option.map_none, Option.isSome_some, List.getD_cons_zero, List.getD_cons_succ, List.getD_nil, get_app, get_app0, set_app, set_app0, List.length_append, List.append_assoc, List.any_cons, List.any_nil, List.zip_cons_cons, List.zip_nil_left, List.zip_nil_right,
    List.map_cons, List.map_nil, List.cons_append, List.nil_append, List.append_nil, List.length_cons, List.length_nil, List.replicate, List.set_cons_zero, List.set_cons_succ, List.getElem?_cons_zero, List.getElem?_cons_succ, List.set_nil, List.getElem?_nil,
    Nat.reduceAdd, Nat.reduceSub, Nat.reduceBEq, Nat.reduceLeDiff, Nat.reduceEqDiff, Nat.sub_self, Nat.zero_add, Nat.add_zero, Nat.zero_le, Nat.le_add_right, Nat.le_refl, Int.reduceToNat, Int.reduceLE, Nat.reduceLT, Nat.reducePow, Int.reducePow, Int.reduceNeg, or_true, true_or, Int.reduceLT, Bool.false_eq_true, if_true, if_false, forall_const, false_implies, true_implies, implies_true, Int.reduceEq, cast_lit, not_true_eq_false, not_false_eq_true, Bool.not_true, Bool.not_false, Bool.not_eq_true', Bool.not_eq_false', Bool.and_true, Bool.true_and, Bool.and_false, Bool.false_and, Bool.or_false, Bool.false_or, Bool.or_true, Bool.true_or, reduceCtorEq, false_and, and_false, or_false, false_or, beq_self_eq_true,
    Option.some.injEq, Prod.mk.injEq, Rv.dat.injEq, Rv.ref.injEq, D.int.injEq, D.bl.injEq, D.str.injEq, D.tup.injEq, D.lst.injEq, D.dic.injEq, D.scr.injEq, List.cons.injEq, and_true, true_and, exists_and_left, exists_and_right, exists_eq_left, exists_eq_left', exists_eq_right, exists_eq_right', exists_eq, exists_eq', exists_const, decide_eq_true_eq, decide_eq_false_iff_not, Bool.and_eq_true, beq_iff_eq, beq_eq_false_iff_ne, ne_eq, decide_true, decide_false, hdR_len, stR_len, hdR_24, hdR_25, hdR_26, hdR_27, hdR_28, hdR_29, hdR_30, stR_16, stR_18, stR_19, stR_20, stR_21, stR_22, stR_23, hdP_25, hdP_26, hdP_27, hdP_28, hdP_29, hdP_30, stP_16, stP_19, stP_20, stP_21, stP_22, stP_23, hdD, List.length_set, set_two, denc_push, denc_swap, denc_pop, denc_top, denc_clear, eqv_optN, plN_optN, isNon_optN, optN_some, optN_none, seenD_some, seenD_none, items_pair, items_vals, phk, kdk, List.getElem?_set_self, List.getElem?_set_ne, List.getElem?_append_left, ltaddr, boxD, cDict, *])
local macro_rules | `(tactic| walk_at "dwf") => `(tactic| simp (config := { maxSteps := 1000000 }) only [and_assoc, natD, mapint_inj, mapnat_inj, denc_inj, wfor_eq, ixD, ixM, cut_one, List.tail_cons, List.tail_nil, eqvs_nil, List.isEmpty_cons, List.isEmpty_nil, plAll_int, plAll_nat, Ss.W, Sm.W, Ex.W, Ex.T, Es.W, wVar, BOp.B, COp.B, Bi.B, IxK.B, bI0, bIC, bEq, bIs, bIn, bIxL, bIxT, bIxS, bIxK, bCat, bCatT, bRep, cLen, cInt, cMin2, cList, cTup, wantB, wAndT, wOrT, wAndV, wOrV, wNotV, lenOf, lstOf_ref, lstOf_lst, seqOf, dicOf_ref, dicOf_dic, wPart, wIter, tstW, mAppend, mPop, mPopAt, mClear, wSetIx, wSetKey, Tg.put, wipeN, Cell.lst.injEq, Cell.dic.injEq, Cell.fz.injEq, List.length_map, tyR, tyD,
    eqv_ii, eqv_ss, eqv_bb, eqv_nn, eqv_ll, eqv_tt, eqn_non_int, eqn_non_str, eqn_non_lst, eqn_non_tup, eqn_non_bl, eqn_non_dic, eqn_int_non, eqn_int_str, eqn_int_lst, eqn_int_tup, eqn_int_dic, eqn_str_non, eqn_str_int, eqn_str_lst, eqn_str_tup, eqn_str_bl, eqn_str_dic, eqn_lst_non, eqn_lst_int, eqn_lst_str, eqn_lst_tup, eqn_lst_bl, eqn_lst_dic, eqn_tup_non, eqn_tup_int, eqn_tup_str, eqn_tup_lst, eqn_tup_bl, eqn_tup_dic, eqn_bl_non, eqn_bl_str, eqn_bl_lst, eqn_bl_tup, eqn_bl_dic, eqvs, atI_lit, cdiv_lit, cmul_r, cmul_l, cpow_lit, nrm_dat, nrm_ref, plN, plAll, rd_dat, rd_ref, rds_nil, rds_cons, rds_map, rdk_nil, rdk_cons,               isNon, tyNames, kbs,
    Option.map_some, Option.map_none, Option.isSome_some, List.getD_cons_zero, List.getD_cons_succ, List.getD_nil, get_app, get_app0, set_app, set_app0, List.length_append, List.append_assoc, List.any_cons, List.any_nil, List.zip_cons_cons, List.zip_nil_left, List.zip_nil_right,
    List.map_cons, List.map_nil, List.cons_append, List.nil_append, List.append_nil, List.length_cons, List.length_nil, List.replicate, List.set_cons_zero, List.set_cons_succ, List.getElem?_cons_zero, List.getElem?_cons_succ, List.set_nil, List.getElem?_nil,
    Nat.reduceAdd, Nat.reduceSub, Nat.reduceBEq, Nat.reduceLeDiff, Nat.reduceEqDiff, Nat.sub_self, Nat.zero_add, Nat.add_zero, Nat.zero_le, Nat.le_add_right, Nat.le_refl, Int.reduceToNat, Int.reduceLE, Nat.reduceLT, Nat.reducePow, Int.reducePow, Int.reduceNeg, or_true, true_or, Int.reduceLT, Bool.false_eq_true, if_true, if_false, forall_const, false_implies, true_implies, implies_true, Int.reduceEq, cast_lit, not_true_eq_false, not_false_eq_true, Bool.not_true, Bool.not_false, Bool.not_eq_true', Bool.not_eq_false', Bool.and_true, Bool.true_and, Bool.and_false, Bool.false_and, Bool.or_false, Bool.false_or, Bool.or_true, Bool.true_or, reduceCtorEq, false_and, and_false, or_false, false_or, beq_self_eq_true,
    Option.some.injEq, Prod.mk.injEq, Rv.dat.injEq, Rv.ref.injEq, D.int.injEq, D.bl.injEq, D.str.injEq, D.tup.injEq, D.lst.injEq, D.dic.injEq, D.scr.injEq, List.cons.injEq, and_true, true_and, exists_and_left, exists_and_right, exists_eq_left, exists_eq_left', exists_eq_right, exists_eq_right', exists_eq, exists_eq', exists_const, decide_eq_true_eq, decide_eq_false_iff_not, Bool.and_eq_true, beq_iff_eq, beq_eq_false_iff_ne, ne_eq, decide_true, decide_false, hdR_len, stR_len, hdR_24, hdR_25, hdR_26, hdR_27, hdR_28, hdR_29, hdR_30, stR_16, stR_18, stR_19, stR_20, stR_21, stR_22, stR_23, hdP_25, hdP_26, hdP_27, hdP_28, hdP_29, hdP_30, stP_16, stP_19, stP_20, stP_21, stP_22, stP_23, hdD, List.length_set, set_two, denc_push, denc_swap, denc_pop, denc_top, denc_clear, eqv_optN, plN_optN, isNon_optN, optN_some, optN_none, seenD_some, seenD_none, items_pair, items_vals, phk, kdk, List.getElem?_set_self, List.getElem?_set_ne, List.getElem?_append_left, ltaddr, boxD, cDict, *])
abbrev fn_weaving_by : List Str := ["_law_cells"]
def b_weaving_by_0 : DW.Ss := (.cons (.expr (.app (.var 2) (.bin .modI (.var 4) (.var 1))))
  (.cons (.set 4 (.bin .fdivI (.var 4) (.var 1)))
  .nil))
def b_weaving_by_1 : DW.Ss := (.cons (.set 4 (.bin .fdivI (.var 3) (.int 36)))
  (.cons (.ite (.cmp .gt (.bin .modI (.var 3) (.int 4)) (.int 0)) (.cons (.set 2 (.bin .cat (.var 2) (.bin .rep (.lst (.cons (.bin .modI (.var 4) (.var 1)) .nil)) (.ix .l (.lst (.cons (.int 1) (.cons (.int 2) (.cons (.int 2) (.cons (.int 3) (.cons (.int 3) (.cons (.int 4) (.cons (.int 6) (.cons (.int 6) (.cons (.int 7) .nil)))))))))) (.bin .modI (.bin .fdivI (.var 3) (.int 4)) (.int 9))))))
  .nil) (.cons (.for_ (.name 5) .r1 (.int 7) .non b_weaving_by_0)
  .nil))
  .nil))
def b_weaving_by_2 : DW.Ss := (.cons (.ret (.var 2))
  .nil)
def m_weaving_by : DW.Ss := (.cons (.set 2 (.lst .nil))
  (.cons (.for_ (.name 3) .list (.call 0 (.cons (.var 0) (.cons (.int 27) (.cons (.int 63) .nil)))) .non b_weaving_by_1)
  b_weaving_by_2))
abbrev Ss_weaving_by : List SpD := [S_cells]
theorem reps_at {i : Nat} (h : i < 9) : ∃ n : Nat, atI ([.dat (.int 1), .dat (.int 2), .dat (.int 2), .dat (.int 3), .dat (.int 3), .dat (.int 4), .dat (.int 6), .dat (.int 6), .dat (.int 7)] : List Rv) (i : Int) = some (.dat (.int (n : Int))) ∧ n ≤ 7 := by
  match i, h with
  | 0, _ => exact ⟨1, rfl, by decide⟩
  | 1, _ => exact ⟨2, rfl, by decide⟩
  | 2, _ => exact ⟨2, rfl, by decide⟩
  | 3, _ => exact ⟨3, rfl, by decide⟩
  | 4, _ => exact ⟨3, rfl, by decide⟩
  | 5, _ => exact ⟨4, rfl, by decide⟩
  | 6, _ => exact ⟨6, rfl, by decide⟩
  | 7, _ => exact ⟨6, rfl, by decide⟩
  | 8, _ => exact ⟨7, rfl, by decide⟩
theorem flat_rep {α : Type} {n : Nat} {x : α} : (List.replicate n [x]).flatten = List.replicate n x := by
  induction n with
  | zero => rfl
  | succ n ih => rw [List.replicate_succ, List.flatten_cons, ih]; rfl
def S_weaving_by : SpD := fun rs g Q => ∃ (ns : List Int) (h : Nat), rs = [.dat (.scr ns), .dat (.int (h : Int))] ∧ (ns.length ≤ 63 ∧ 1 ≤ h ∧ h ≤ 20 ∧ ∀ w : List Nat, w.length ≤ 252 → (∀ n ∈ w, n < h) → Q (.dat (.lst (w.map natD))) g)
theorem mo_weaving_by : Mono S_weaving_by := by
  rintro rs g P P2 hPP ⟨ns, h, eRS, q⟩
  refine ⟨ns, h, eRS, ?_⟩
  exact ⟨q.1, q.2.1, q.2.2.1, fun p h1 h2 => hPP _ _ (q.2.2.2 p h1 h2)⟩
theorem len_weaving_by : ∀ rs g Q, S_weaving_by rs g Q → rs.length = 2 := by
  rintro rs g Q ⟨ns, h, rfl, q⟩
  rfl
theorem hS_weaving_by : ∀ rs g Q, S_weaving_by rs g Q → m_weaving_by.W (wd Ss_weaving_by glF dtF) (rs.map some ++ List.replicate (6 - rs.length) none) g (fun _ g2 => Fin g Q (.dat .non) g2) (Fin g Q) := by
  rintro rs g Q ⟨ns, h, rfl, q⟩
  unfold m_weaving_by
  obtain ⟨hl, hh1, hh2, q⟩ := q
  walk_at "dw"
  refine ⟨ns, 27, 63, rfl, hl, by decide, by decide, ?_⟩
  have hcl := cellsL_len ns 27 63
  have hcm : ∀ c ∈ cellsL ns 27 63, 0 ≤ c ∧ c < 2147483629 := fun c hc => cellsL_mem hc
  generalize cellsL ns 27 63 = cs at hcl hcm
  have hpos : (0 : Int) < (h : Int) := by omega
  walk_at "dw"
  refine wloop (fun k env g2 => ∃ (w : List Nat) (c : Nat) (x y z : Option Rv) (l : Rg), env = [some (.dat (.scr ns)), some (.dat (.int (h : Int))), some (.ref (g.length + c)), x, y, z] ∧ g2 = g ++ l ∧ l[c]? = some (.lst ((w.map natD).map .dat)) ∧ w.length ≤ 7 * k ∧ ∀ n ∈ w, n < h)
    ⟨[], 0, none, none, none, [.lst []], rfl, rfl, rfl, Nat.zero_le _, fun n hn => by cases hn⟩ (fun _ _ _ _ => trivial) ?_ ?_
  · rintro k r env g2 hkr ⟨w, c, x, y, z, l, rfl, rfl, hlc, hwl, hwm⟩
    rw [List.getElem?_map, List.getElem?_map] at hkr
    obtain ⟨d, hkr1, e1⟩ := Option.map_eq_some_iff.mp hkr
    obtain ⟨cell, hkr2, e2⟩ := Option.map_eq_some_iff.mp hkr1
    subst e2; subst e1
    have hk := (List.getElem?_eq_some_iff.mp hkr2).1
    obtain ⟨c0, c1⟩ := hcm cell (List.mem_of_getElem? hkr2)
    have hcl2 := (List.getElem?_eq_some_iff.mp hlc).1
    have hwl2 : w.length < 1000000 := by omega
    refine ⟨_, rfl, ?_⟩
    unfold b_weaving_by_1
    clear hkr hkr1 hkr2 hcm
    have mkN : ∀ q : Int, 0 ≤ q → ∃ n : Nat, q % (h : Int) = (n : Int) ∧ n < h := fun q hq => by
      obtain ⟨n, hn⟩ := Int.eq_ofNat_of_zero_le (Int.emod_nonneg q (show (h : Int) ≠ 0 by omega))
      have := Int.emod_lt_of_pos q hpos
      exact ⟨n, hn, by omega⟩
    by_cases h4 : 0 < cell % 4
    · obtain ⟨m, hm, hmh⟩ := mkN (cell / 36) (by omega)
      obtain ⟨i, hi⟩ := Int.eq_ofNat_of_zero_le (Int.emod_nonneg (cell / 4) (show (9 : Int) ≠ 0 by decide))
      have hi9 : i < 9 := by have := Int.emod_lt_of_pos (cell / 4) (show (0 : Int) < 9 by decide); omega
      obtain ⟨t, ht, ht7⟩ := reps_at hi9
      have htn : ((t : Int)).toNat = t := Int.toNat_natCast t
      clear mkN
      walk_at "dwh"
      rw [flat_rep]
      refine ⟨by omega, by omega, by omega, by rw [List.length_replicate]; omega, w ++ List.replicate t m, l.length + 3, rfl, _, rfl, ?_, by rw [List.length_append, List.length_replicate]; omega, fun n hn => ?_⟩
      · rw [List.getElem?_append_right (Nat.le_add_right _ _), Nat.add_sub_cancel_left, List.map_append, List.map_append, List.map_replicate, List.map_replicate]; rfl
      · rcases List.mem_append.mp hn with hn | hn
        · exact hwm n hn
        · rw [(List.mem_replicate.mp hn).2]; exact hmh
    · walk_at "dwh"
      refine wloop (fun k2 env g2 => ∃ (w2 : List Nat) (r : Int) (z : Option Rv) (l : Rg), env = [some (.dat (.scr ns)), some (.dat (.int (h : Int))), some (.ref (g.length + c)), some (.dat (.int cell)), some (.dat (.int r)), z] ∧ 0 ≤ r ∧ g2 = g ++ l ∧ l[c]? = some (.lst ((w2.map natD).map .dat)) ∧ w2.length ≤ w.length + k2 ∧ ∀ n ∈ w2, n < h)
        ⟨w, cell / 36, z, l, rfl, by omega, rfl, hlc, Nat.le_refl _, hwm⟩ (fun _ _ _ _ => trivial) ?_ ?_
      · rintro k2 r env g2 hkr ⟨w2, r2, z, l, rfl, hr2, rfl, hlc, hw2, hwm2⟩
        have hk2 := (List.getElem?_eq_some_iff.mp hkr).1
        rw [rngs_length] at hk2
        have hcl2 := (List.getElem?_eq_some_iff.mp hlc).1
        have hw2l : w2.length < 1000000 := by omega
        have hch : CDiv r2 (h : Int) := by unfold CDiv; omega
        obtain ⟨m, hm, hmh⟩ := mkN r2 hr2
        have hdiv := Int.ediv_nonneg hr2 (show (0 : Int) ≤ (h : Int) by omega)
        clear mkN hkr
        refine ⟨_, rfl, ?_⟩
        unfold b_weaving_by_0
        walk_at "dwh"
        refine ⟨w2 ++ [m], _, rfl, ?_, by rw [List.length_append]; simp only [List.length_cons, List.length_nil]; omega, fun n hn => ?_⟩
        · rw [List.getElem?_set_self hcl2, List.map_append, List.map_append]; rfl
        · rcases List.mem_append.mp hn with hn | hn
          · exact hwm2 n hn
          · rw [List.mem_singleton.mp hn]; exact hmh
      · rintro env g2 ⟨w2, r2, z, l, rfl, hr2, rfl, hlc, hw2, hwm2⟩
        rw [rngs_length] at hw2
        exact ⟨w2, c, ⟨_, _, _, rfl⟩, l, rfl, hlc, by omega, hwm2⟩
  · rintro env g2 ⟨w, c, x, y, z, l, rfl, rfl, hlc, hwl, hwm⟩
    rw [List.length_map, List.length_map] at hwl
    have hcl2 := (List.getElem?_eq_some_iff.mp hlc).1
    unfold b_weaving_by_2
    walk_at "dwh"
    refine fin_frz (.lst (w.map natD)) _ rfl ?_ (q w (by omega) hwm)
    exact .lst (Nat.le_add_right _ _) (by rw [get_app]; exact hlc) rd_dats

end DW

/-! ## M2.lean -/
set_option linter.all false
set_option autoImplicit false
set_option maxHeartbeats 1000000
/-! M2: runs, step by step. -/
namespace DW
/-- the state behind the first k steps -/
def St.at_ (s : St) (w : List Nat) (k : Nat) : St := (run s (w.take k)).1
theorem run_app {a : List Nat} : ∀ {s : St} {b : List Nat}, run s (a ++ b) = ((run (run s a).1 b).1, (run s a).2 ++ (run (run s a).1 b).2) := by
  induction a with
  | nil => intro s b; rfl
  | cons n a ih => intro s b; simp only [List.cons_append, run, ih]
theorem at_zero {s : St} {w : List Nat} : s.at_ w 0 = s := rfl
theorem at_all {s : St} {w : List Nat} : s.at_ w w.length = (run s w).1 := by unfold St.at_; rw [List.take_length]
theorem at_succ {s : St} {w : List Nat} {k n : Nat} (h : w[k]? = some n) : s.at_ w (k + 1) = (step (s.at_ w k) n).1 := by
  unfold St.at_
  have e : w.take (k + 1) = w.take k ++ [n] := by rw [List.take_add_one, h]; rfl
  rw [e, run_app]; rfl
theorem run_len {w : List Nat} : ∀ {s : St}, (run s w).2.length = w.length := by
  induction w with
  | nil => intro s; rfl
  | cons n w ih => intro s; simp only [run, List.length_cons, ih]
theorem steps_at {s : St} {w : List Nat} {k n : Nat} (h : w[k]? = some n) : (run s w).2[k]? = some (step (s.at_ w k) n).2 := by
  have hk := (List.getElem?_eq_some_iff.mp h).1
  have e : w = w.take k ++ (n :: w.drop (k + 1)) := by
    have := List.take_append_drop k w
    rw [List.drop_eq_getElem_cons hk, (List.getElem?_eq_some_iff.mp h).2] at this
    exact this.symm
  have hl : (run s (w.take k)).2.length = k := by rw [run_len, List.length_take]; omega
  rw [show (run s w).2 = (run s (w.take k ++ (n :: w.drop (k + 1)))).2 by rw [← e], run_app, List.getElem?_append_right (by omega), hl, Nat.sub_self]
  rfl
theorem at_wf {s : St} {w : List Nat} (k : Nat) (h : WfS s) (hw : ∀ n ∈ w, n < s.hands.length) : WfS (s.at_ w k) ∧ (s.at_ w k).hands.length = s.hands.length ∧ (s.at_ w k).time = s.time + min k w.length ∧ (s.at_ w k).kind = s.kind := by
  obtain ⟨a, b, c, d, _⟩ := wf_run (w := w.take k) h fun n hn => hw n (List.mem_of_mem_take hn)
  refine ⟨a, b, ?_, d⟩
  show (run s (w.take k)).1.time = _
  rw [c, List.length_take]
end DW

/-! ## M9.lean -/
set_option linter.all false
set_option autoImplicit false
set_option maxHeartbeats 1000000
/-! M9: marks count the puts. -/
namespace DW
/-- what a hand of marks has seen, by a list of the marks told to each -/
def MInv (s : St) (sl : List Nat) : Prop := sl.length = s.hands.length ∧ ∀ (i : Nat) (h : Hand), s.hands[i]? = some h → (h.ph = .see ∨ h.ph = .check ∨ h.ph = .put) → ∃ o m, h.seen = some (o, m) ∧ sl[i]? = some m ∧ m ≤ s.head.2 ∧ (m = s.head.2 → o = s.head.1)
/-- what is asked of a step -/
def MStep (s s' : St) (sl : List Nat) (n : Nat) : Step → Prop
  | .look _ m => m = s.head.2 ∧ s'.head = s.head ∧ MInv s' (sl.set n s.head.2)
  | .put k => k = decide (sl[n]? = some s.head.2) ∧ s'.head.2 = s.head.2 + (if k then 1 else 0) ∧ MInv s' sl
  | _ => s'.head = s.head ∧ MInv s' sl
theorem minv_keep {s s' : St} {sl : List Nat} {n : Nat} {h' : Hand} (k : MInv s sl) (e : s'.hands = s.hands.set n h') (eh : s'.head = s.head)
    (h : (h'.ph = .see ∨ h'.ph = .check ∨ h'.ph = .put) → ∃ o m, h'.seen = some (o, m) ∧ sl[n]? = some m ∧ m ≤ s.head.2 ∧ (m = s.head.2 → o = s.head.1)) : MInv s' sl := by
  refine ⟨by rw [e, List.length_set]; exact k.1, fun i x hx hp => ?_⟩
  rw [e] at hx
  rw [eh]
  by_cases hi : n = i
  · subst hi
    have hl : n < s.hands.length := by have := (List.getElem?_eq_some_iff.mp hx).1; rw [List.length_set] at this; exact this
    rw [List.getElem?_set_self hl] at hx; cases hx
    exact h hp
  · rw [List.getElem?_set_ne hi] at hx
    exact k.2 i x hx hp
theorem minv_look {s s' : St} {sl : List Nat} {n : Nat} {h' : Hand} (hn : n < s.hands.length) (k : MInv s sl) (e : s'.hands = s.hands.set n h') (eh : s'.head = s.head)
    (h : (h'.ph = .see ∨ h'.ph = .check ∨ h'.ph = .put) → h'.seen = some s.head) : MInv s' (sl.set n s.head.2) := by
  refine ⟨by rw [e, List.length_set, List.length_set]; exact k.1, fun i x hx hp => ?_⟩
  rw [e] at hx
  rw [eh]
  by_cases hi : n = i
  · subst hi
    rw [List.getElem?_set_self hn] at hx; cases hx
    exact ⟨s.head.1, s.head.2, h hp, List.getElem?_set_self (by rw [k.1]; exact hn), Nat.le_refl _, fun _ => rfl⟩
  · rw [List.getElem?_set_ne hi] at hx ⊢
    exact k.2 i x hx hp
theorem minv_put {s s' : St} {sl : List Nat} {n : Nat} {h' : Hand} (k : MInv s sl) (e : s'.hands = s.hands.set n h') (eh : s'.head.2 = s.head.2 + 1)
    (h : ¬ (h'.ph = .see ∨ h'.ph = .check ∨ h'.ph = .put)) : MInv s' sl := by
  refine ⟨by rw [e, List.length_set]; exact k.1, fun i x hx hp => ?_⟩
  rw [e] at hx
  by_cases hi : n = i
  · subst hi
    have hl : n < s.hands.length := by have := (List.getElem?_eq_some_iff.mp hx).1; rw [List.length_set] at this; exact this
    rw [List.getElem?_set_self hl] at hx; cases hx
    exact absurd hp h
  · rw [List.getElem?_set_ne hi] at hx
    obtain ⟨o, m, h1, h2, h3, h4⟩ := k.2 i x hx hp
    exact ⟨o, m, h1, h2, by omega, fun z => by omega⟩
theorem step_hands (s : St) (n : Nat) : (step s n).1.hands = s.hands.set n (stepOf s (s.hand n) n).2.1 := rfl
theorem next_ph (h : Hand) : ¬ (h.next.ph = .see ∨ h.next.ph = .check ∨ h.next.ph = .put) := by unfold Hand.next; simp
theorem marks_step {s : St} {n : Nat} {sl : List Nat} (w : WfS s) (hn : n < s.hands.length) (hk : s.kind = .marks) (k : MInv s sl) : MStep s (step s n).1 sl n (step s n).2 := by
  have ko := w.hands _ (hand_mem hn)
  have kn := k.2 n _ (hand_at hn)
  have e := step_hands s n
  generalize hr : stepOf s (s.hand n) n = r at e
  have e1 : (step s n).1.head = r.1.head := by rw [← hr]; rfl
  have e2 : (step s n).2 = r.2.2 := by rw [← hr]; rfl
  rw [e2]
  generalize s.hand n = h at *
  unfold stepOf at hr
  by_cases hat : h.at_ = h.deeds.length
  · rw [if_pos hat] at hr
    subst hr
    exact ⟨e1, minv_keep k e e1 fun hp => kn hp⟩
  · rw [if_neg hat] at hr
    obtain ⟨k1, hi⟩ := begin_ok ko (Nat.lt_of_le_of_ne ko.le hat)
    have hkeep : ((h.begin s.time).ph = .see ∨ (h.begin s.time).ph = .check ∨ (h.begin s.time).ph = .put) → ∃ o m, (h.begin s.time).seen = some (o, m) ∧ sl[n]? = some m ∧ m ≤ s.head.2 ∧ (m = s.head.2 → o = s.head.1) := fun hp => by
      rw [begin_deed.2.2.2.2.1]
      refine kn ?_
      unfold Hand.begin at hp
      split at hp
      · dsimp only at hp
        split at hp <;> simp at hp
      · exact hp
    generalize h.begin s.time = h1 at *
    have kp := k1.ph
    unfold PhOk at kp
    dsimp only at hr
    cases hph : h1.ph <;> rw [hph] at hr kp <;> dsimp only at hr kp
    · exact absurd hph hi
    · subst hr
      have eh : (step s n).1.head = s.head := by rw [e1]; unfold stepTake St.took; dsimp only; split <;> rfl
      exact ⟨eh, minv_keep k e eh fun hp => by simp [stepTake] at hp⟩
    · subst hr
      have eh : (step s n).1.head = s.head := by
        rw [e1]; unfold stepLook; dsimp only
        cases h1.deed <;> dsimp only <;> first | rfl | (split <;> rfl)
      refine ⟨rfl, eh, minv_look hn k e eh fun hp => ?_⟩
      unfold stepLook at hp ⊢
      dsimp only at hp ⊢
      cases hd : h1.deed <;> rw [hd] at hp <;> dsimp only at hp ⊢
      all_goals first | rfl | (split at hp <;> rename_i hh <;> first | exact absurd hp (next_ph _) | (rw [if_neg hh]))
    · obtain ⟨_, _, _, ⟨b, m, hs⟩, _⟩ := kp
      subst hr
      have eh : (step s n).1.head = s.head := by rw [e1]; unfold stepSee; dsimp only; cases h1.deed <;> rfl
      refine ⟨eh, minv_keep k e eh fun hp => ?_⟩
      have : (stepSee s h1).2.1.seen = h1.seen := by unfold stepSee; dsimp only; cases h1.deed <;> rfl
      rw [this]
      exact hkeep (.inl hph)
    · obtain ⟨_, hd, ⟨b, m, hs⟩, _⟩ := kp
      cases hst : stillB s.kind s.head (some b, m) with
      | true =>
        rw [check_yes hs hst] at hr
        subst hr
        exact ⟨rfl, e1, minv_look hn k e e1 fun hp => absurd hp (next_ph _)⟩
      | false =>
        rw [check_no hs hst] at hr
        subst hr
        exact ⟨rfl, e1, minv_look hn k e e1 fun hp => by simp at hp⟩
    · obtain ⟨_, _, ⟨o, m, hs, _⟩, _⟩ := kp
      obtain ⟨o', m', hs', hsl, hm, ho⟩ := hkeep (.inr (.inr hph))
      rw [hs] at hs'
      cases hs'
      have dec : stillB s.kind s.head (o, m) = decide (sl[n]? = some s.head.2) := by
        rw [stillB_m hk, hsl]
        by_cases hmm : m = s.head.2
        · rw [decide_eq_true (by rw [ho hmm, hmm]), decide_eq_true (by rw [hmm])]
        · rw [decide_eq_false fun z => hmm (by rw [z]), decide_eq_false fun z => hmm (by cases z; rfl)]
      cases hst : stillB s.kind s.head (o, m) with
      | true =>
        have hp := put_yes (n := n) hs hst
        rw [hp] at hr
        have he : r.2.2 = .put true := by rw [← hr]
        rw [he]
        refine ⟨by rw [← dec, hst], ?_, ?_⟩
        · rw [e1, ← hr]; dsimp only; cases h1.deed <;> rfl
        · refine minv_put k e (by rw [e1, ← hr]; dsimp only; cases h1.deed <;> rfl) ?_
          rw [← hr]; dsimp only
          cases h1.deed <;> dsimp only <;> first | exact next_ph _ | simp
      | false =>
        rw [put_no hs hst] at hr
        subst hr
        exact ⟨by rw [← dec, hst], by rw [e1]; simp, minv_keep k e e1 fun hp => by simp at hp⟩
    · subst hr
      have eh : (step s n).1.head = s.head := by rw [e1]; unfold stepWalk; dsimp only; split <;> rfl
      have hst : (stepWalk s h1 n).2.2 = .see h1.own (s.inside h1.own).1 (s.inside h1.own).2 := by unfold stepWalk; dsimp only; split <;> rfl
      rw [hst]
      refine ⟨eh, minv_keep k e eh fun hp => ?_⟩
      unfold stepWalk at hp
      dsimp only at hp
      split at hp
      · exact absurd hp (next_ph _)
      · rw [hph] at hp; simp at hp
theorem minv_tower {start : List Int} {progs : List (List Deed)} {kd : Kd} : MInv (towerOf start progs kd) (List.replicate progs.length 0) := by
  refine ⟨by simp [towerOf], fun i h hh hp => ?_⟩
  simp only [towerOf, List.getElem?_map] at hh
  obtain ⟨p, _, rfl⟩ := Option.map_eq_some_iff.mp hh
  simp [handOf] at hp
end DW

/-! ## F_law_k09.lean -/
set_option Elab.async false
set_option linter.all false
set_option maxRecDepth 100000
set_option maxHeartbeats 4000000
set_option autoImplicit false
namespace DW
open PySem PySem.Spec L2
open PyProof.Rows hiding St

local macro_rules | `(tactic| walk_at "dw") => `(tactic| simp (config := { maxSteps := 1000000 }) only [and_assoc, natD, mapint_inj, mapnat_inj, denc_inj, wfor_eq, ixD, ixM, cut_one, List.tail_cons, List.tail_nil, eqvs_nil, List.isEmpty_cons, List.isEmpty_nil, plAll_int, plAll_nat, Ss.W, Sm.W, Ex.W, Ex.T, Es.W, wVar, BOp.B, COp.B, Bi.B, IxK.B, bI0, bIC, bEq, bIs, bIn, bIxL, bIxT, bIxS, bIxK, bCat, bCatT, bRep, cLen, cInt, cMin2, cList, cTup, wantB, wAndT, wOrT, wAndV, wOrV, wNotV, lenOf, lstOf_ref, lstOf_lst, seqOf, dicOf_ref, dicOf_dic, wPart, wIter, tstW, mAppend, mPop, mPopAt, mClear, wSetIx, wSetKey, Tg.put, wipeN, Cell.lst.injEq, Cell.dic.injEq, Cell.fz.injEq, List.length_map, tyR, tyD,
    eqv_ii, eqv_ss, eqv_bb, eqv_nn, eqv_ll, eqv_tt, eqn_non_int, eqn_non_str, eqn_non_lst, eqn_non_tup, eqn_non_bl, eqn_non_dic, eqn_int_non, eqn_int_str, eqn_int_lst, eqn_int_tup, eqn_int_dic, eqn_str_non, eqn_str_int, eqn_str_lst, eqn_str_tup, eqn_str_bl, eqn_str_dic, eqn_lst_non, eqn_lst_int, eqn_lst_str, eqn_lst_tup, eqn_lst_bl, eqn_lst_dic, eqn_tup_non, eqn_tup_int, eqn_tup_str, eqn_tup_lst, eqn_tup_bl, eqn_tup_dic, eqn_bl_non, eqn_bl_str, eqn_bl_lst, eqn_bl_tup, eqn_bl_dic, eqvs, atI_lit, cdiv_lit, cmul_r, cmul_l, cpow_lit, nrm_dat, nrm_ref, plN, plAll, rd_dat, rd_ref, rds_nil, rds_cons, rds_map, rdk_nil, rdk_cons, wFrz, frz1, wFrzL, frzs, datsN, datsN_map, datsK, isNon, tyNames, kbs,
    Option.map_some, Option.map_none, Option.isSome_some, List.getD_cons_zero, List.getD_cons_succ, List.getD_nil, get_app, get_app0, set_app, set_app0, List.length_append, List.append_assoc, List.any_cons, List.any_nil, List.zip_cons_cons, List.zip_nil_left, List.zip_nil_right,
    List.map_cons, List.map_nil, List.cons_append, List.nil_append, List.append_nil, List.length_cons, List.length_nil, List.replicate, List.set_cons_zero, List.set_cons_succ, List.getElem?_cons_zero, List.getElem?_cons_succ, List.set_nil, List.getElem?_nil,
    Nat.reduceAdd, Nat.reduceSub, Nat.reduceBEq, Nat.reduceLeDiff, Nat.reduceEqDiff, Nat.sub_self, Nat.zero_add, Nat.add_zero, Nat.zero_le, Nat.le_add_right, Nat.le_refl, Int.reduceToNat, Int.reduceLE, Nat.reduceLT, Nat.reducePow, Int.reducePow, Int.reduceNeg, or_true, true_or, Int.reduceLT, Bool.false_eq_true, if_true, if_false, forall_const, false_implies, true_implies, implies_true, Int.reduceEq, cast_lit, not_true_eq_false, not_false_eq_true, Bool.not_true, Bool.not_false, Bool.not_eq_true', Bool.not_eq_false', Bool.and_true, Bool.true_and, Bool.and_false, Bool.false_and, Bool.or_false, Bool.false_or, Bool.or_true, Bool.true_or, reduceCtorEq, false_and, and_false, or_false, false_or, beq_self_eq_true,
    Option.some.injEq, Prod.mk.injEq, Rv.dat.injEq, Rv.ref.injEq, D.int.injEq, D.bl.injEq, D.str.injEq, D.tup.injEq, D.lst.injEq, D.dic.injEq, D.scr.injEq, List.cons.injEq, and_true, true_and, exists_and_left, exists_and_right, exists_eq_left, exists_eq_left', exists_eq_right, exists_eq_right', exists_eq, exists_eq', exists_const, decide_eq_true_eq, decide_eq_false_iff_not, Bool.and_eq_true, beq_iff_eq, beq_eq_false_iff_ne, ne_eq, decide_true, decide_false, hdR_len, stR_len, hdR_24, hdR_25, hdR_26, hdR_27, hdR_28, hdR_29, hdR_30, stR_16, stR_18, stR_19, stR_20, stR_21, stR_22, stR_23, hdP_25, hdP_26, hdP_27, hdP_28, hdP_29, hdP_30, stP_16, stP_19, stP_20, stP_21, stP_22, stP_23, hdD, List.length_set, set_two, denc_push, denc_swap, denc_pop, denc_top, denc_clear, eqv_optN, plN_optN, isNon_optN, optN_some, optN_none, seenD_some, seenD_none, items_pair, items_vals, phk, kdk, List.getElem?_set_self, List.getElem?_set_ne, List.getElem?_append_left, ltaddr, boxD, cDict, S_hands_by, S_start_by, S_cell_at, S_p_head_of])
local macro_rules | `(tactic| walk_at "dwh") => `(tactic| simp (config := { maxSteps := 1000000 }) only [and_assoc, natD, mapint_inj, mapnat_inj, denc_inj, wfor_eq, ixD, ixM, cut_one, List.tail_cons, List.tail_nil, eqvs_nil, List.isEmpty_cons, List.isEmpty_nil, plAll_int, plAll_nat, Ss.W, Sm.W, Ex.W, Ex.T, Es.W, wVar, BOp.B, COp.B, Bi.B, IxK.B, bI0, bIC, bEq, bIs, bIn, bIxL, bIxT, bIxS, bIxK, bCat, bCatT, bRep, cLen, cInt, cMin2, cList, cTup, wantB, wAndT, wOrT, wAndV, wOrV, wNotV, lenOf, lstOf_ref, lstOf_lst, seqOf, dicOf_ref, dicOf_dic, wPart, wIter, tstW, mAppend, mPop, mPopAt, mClear, wSetIx, wSetKey, Tg.put, wipeN, Cell.lst.injEq, Cell.dic.injEq, Cell.fz.injEq, List.length_map, tyR, tyD,
    eqv_ii, eqv_ss, eqv_bb, eqv_nn, eqv_ll, eqv_tt, eqn_non_int, eqn_non_str, eqn_non_lst, eqn_non_tup, eqn_non_bl, eqn_non_dic, eqn_int_non, eqn_int_str, eqn_int_lst, eqn_int_tup, eqn_int_dic, eqn_str_non, eqn_str_int, eqn_str_lst, eqn_str_tup, eqn_str_bl, eqn_str_dic, eqn_lst_non, eqn_lst_int, eqn_lst_str, eqn_lst_tup, eqn_lst_bl, eqn_lst_dic, eqn_tup_non, eqn_tup_int, eqn_tup_str, eqn_tup_lst, eqn_tup_bl, eqn_tup_dic, eqn_bl_non, eqn_bl_str, eqn_bl_lst, eqn_bl_tup, eqn_bl_dic, eqvs, atI_lit, cdiv_lit, cmul_r, cmul_l, cpow_lit, nrm_dat, nrm_ref, plN, plAll, rd_dat, rd_ref, rds_nil, rds_cons, rds_map, rdk_nil, rdk_cons, wFrz, frz1, wFrzL, frzs, datsN, datsN_map, datsK, isNon, tyNames, kbs,
    Option.map_some, Option.map_none, Option.isSome_some, List.getD_cons_zero, List.getD_cons_succ, List.getD_nil, get_app, get_app0, set_app, set_app0, List.length_append, List.append_assoc, List.any_cons, List.any_nil, List.zip_cons_cons, List.zip_nil_left, List.zip_nil_right,
    List.map_cons, List.map_nil, List.cons_append, List.nil_append, List.append_nil, List.length_cons, List.length_nil, List.replicate, List.set_cons_zero, List.set_cons_succ, List.getElem?_cons_zero, List.getElem?_cons_succ, List.set_nil, List.getElem?_nil,
    Nat.reduceAdd, Nat.reduceSub, Nat.reduceBEq, Nat.reduceLeDiff, Nat.reduceEqDiff, Nat.sub_self, Nat.zero_add, Nat.add_zero, Nat.zero_le, Nat.le_add_right, Nat.le_refl, Int.reduceToNat, Int.reduceLE, Nat.reduceLT, Nat.reducePow, Int.reducePow, Int.reduceNeg, or_true, true_or, Int.reduceLT, Bool.false_eq_true, if_true, if_false, forall_const, false_implies, true_implies, implies_true, Int.reduceEq, cast_lit, not_true_eq_false, not_false_eq_true, Bool.not_true, Bool.not_false, Bool.not_eq_true', Bool.not_eq_false', Bool.and_true, Bool.true_and, Bool.and_false, Bool.false_and, Bool.or_false, Bool.false_or, Bool.or_true, Bool.true_or, reduceCtorEq, false_and, and_false, or_false, false_or, beq_self_eq_true,
    Option.some.injEq, Prod.mk.injEq, Rv.dat.injEq, Rv.ref.injEq, D.int.injEq, D.bl.injEq, D.str.injEq, D.tup.injEq, D.lst.injEq, D.dic.injEq, D.scr.injEq, List.cons.injEq, and_true, true_and, exists_and_left, exists_and_right, exists_eq_left, exists_eq_left', exists_eq_right, exists_eq_right', exists_eq, exists_eq', exists_const, decide_eq_true_eq, decide_eq_false_iff_not, Bool.and_eq_true, beq_iff_eq, beq_eq_false_iff_ne, ne_eq, decide_true, decide_false, hdR_len, stR_len, hdR_24, hdR_25, hdR_26, hdR_27, hdR_28, hdR_29, hdR_30, stR_16, stR_18, stR_19, stR_20, stR_21, stR_22, stR_23, hdP_25, hdP_26, hdP_27, hdP_28, hdP_29, hdP_30, stP_16, stP_19, stP_20, stP_21, stP_22, stP_23, hdD, List.length_set, set_two, denc_push, denc_swap, denc_pop, denc_top, denc_clear, eqv_optN, plN_optN, isNon_optN, optN_some, optN_none, seenD_some, seenD_none, items_pair, items_vals, phk, kdk, List.getElem?_set_self, List.getElem?_set_ne, List.getElem?_append_left, ltaddr, boxD, cDict, S_hands_by, S_start_by, S_cell_at, S_p_head_of, *])
local macro_rules | `(tactic| walk_at "dwf") => `(tactic| simp (config := { maxSteps := 1000000 }) only [and_assoc, natD, mapint_inj, mapnat_inj, denc_inj, wfor_eq, ixD, ixM, cut_one, List.tail_cons, List.tail_nil, eqvs_nil, List.isEmpty_cons, List.isEmpty_nil, plAll_int, plAll_nat, Ss.W, Sm.W, Ex.W, Ex.T, Es.W, wVar, BOp.B, COp.B, Bi.B, IxK.B, bI0, bIC, bEq, bIs, bIn, bIxL, bIxT, bIxS, bIxK, bCat, bCatT, bRep, cLen, cInt, cMin2, cList, cTup, wantB, wAndT, wOrT, wAndV, wOrV, wNotV, lenOf, lstOf_ref, lstOf_lst, seqOf, dicOf_ref, dicOf_dic, wPart, wIter, tstW, mAppend, mPop, mPopAt, mClear, wSetIx, wSetKey, Tg.put, wipeN, Cell.lst.injEq, Cell.dic.injEq, Cell.fz.injEq, List.length_map, tyR, tyD,
    eqv_ii, eqv_ss, eqv_bb, eqv_nn, eqv_ll, eqv_tt, eqn_non_int, eqn_non_str, eqn_non_lst, eqn_non_tup, eqn_non_bl, eqn_non_dic, eqn_int_non, eqn_int_str, eqn_int_lst, eqn_int_tup, eqn_int_dic, eqn_str_non, eqn_str_int, eqn_str_lst, eqn_str_tup, eqn_str_bl, eqn_str_dic, eqn_lst_non, eqn_lst_int, eqn_lst_str, eqn_lst_tup, eqn_lst_bl, eqn_lst_dic, eqn_tup_non, eqn_tup_int, eqn_tup_str, eqn_tup_lst, eqn_tup_bl, eqn_tup_dic, eqn_bl_non, eqn_bl_str, eqn_bl_lst, eqn_bl_tup, eqn_bl_dic, eqvs, atI_lit, cdiv_lit, cmul_r, cmul_l, cpow_lit, nrm_dat, nrm_ref, plN, plAll, rd_dat, rd_ref, rds_nil, rds_cons, rds_map, rdk_nil, rdk_cons,               isNon, tyNames, kbs,
    Option.map_some, Option.map_none, Option.isSome_some, List.getD_cons_zero, List.getD_cons_succ, List.getD_nil, get_app, get_app0, set_app, set_app0, List.length_append, List.append_assoc, List.any_cons, List.any_nil, List.zip_cons_cons, List.zip_nil_left, List.zip_nil_right,
    List.map_cons, List.map_nil, List.cons_append, List.nil_append, List.append_nil, List.length_cons, List.length_nil, List.replicate, List.set_cons_zero, List.set_cons_succ, List.getElem?_cons_zero, List.getElem?_cons_succ, List.set_nil, List.getElem?_nil,
    Nat.reduceAdd, Nat.reduceSub, Nat.reduceBEq, Nat.reduceLeDiff, Nat.reduceEqDiff, Nat.sub_self, Nat.zero_add, Nat.add_zero, Nat.zero_le, Nat.le_add_right, Nat.le_refl, Int.reduceToNat, Int.reduceLE, Nat.reduceLT, Nat.reducePow, Int.reducePow, Int.reduceNeg, or_true, true_or, Int.reduceLT, Bool.false_eq_true, if_true, if_false, forall_const, false_implies, true_implies, implies_true, Int.reduceEq, cast_lit, not_true_eq_false, not_false_eq_true, Bool.not_true, Bool.not_false, Bool.not_eq_true', Bool.not_eq_false', Bool.and_true, Bool.true_and, Bool.and_false, Bool.false_and, Bool.or_false, Bool.false_or, Bool.or_true, Bool.true_or, reduceCtorEq, false_and, and_false, or_false, false_or, beq_self_eq_true,
    Option.some.injEq, Prod.mk.injEq, Rv.dat.injEq, Rv.ref.injEq, D.int.injEq, D.bl.injEq, D.str.injEq, D.tup.injEq, D.lst.injEq, D.dic.injEq, D.scr.injEq, List.cons.injEq, and_true, true_and, exists_and_left, exists_and_right, exists_eq_left, exists_eq_left', exists_eq_right, exists_eq_right', exists_eq, exists_eq', exists_const, decide_eq_true_eq, decide_eq_false_iff_not, Bool.and_eq_true, beq_iff_eq, beq_eq_false_iff_ne, ne_eq, decide_true, decide_false, hdR_len, stR_len, hdR_24, hdR_25, hdR_26, hdR_27, hdR_28, hdR_29, hdR_30, stR_16, stR_18, stR_19, stR_20, stR_21, stR_22, stR_23, hdP_25, hdP_26, hdP_27, hdP_28, hdP_29, hdP_30, stP_16, stP_19, stP_20, stP_21, stP_22, stP_23, hdD, List.length_set, set_two, denc_push, denc_swap, denc_pop, denc_top, denc_clear, eqv_optN, plN_optN, isNon_optN, optN_some, optN_none, seenD_some, seenD_none, items_pair, items_vals, phk, kdk, List.getElem?_set_self, List.getElem?_set_ne, List.getElem?_append_left, ltaddr, boxD, cDict, S_hands_by, S_start_by, S_cell_at, S_p_head_of, *])
abbrev fn_law_k09 : List Str := ["_law_hands_by", "_law_start_by", "_law_weaving_by", "woven", "_law_cell_at", "_law_programs_by", "head_of"]
def b_law_k09_0 : DW.Ss := (.cons (.set 8 (.ix .l (.ix .t (.var 4) (.int 1)) (.var 7)))
  (.cons (.ite (.cmp .eq (.ix .t (.var 8) (.int 0)) (.str 9)) (.cons (.ite (.cmp .ne (.ix .t (.var 8) (.int 2)) (.var 5)) (.cons (.ret (.bl false))
  .nil) .nil)
  (.cons (.setIx (.var 6) (.ix .l (.var 3) (.var 7)) (.var 5))
  .nil)) .nil)
  (.cons (.ite (.cmp .eq (.ix .t (.var 8) (.int 0)) (.str 11)) (.cons (.ite (.or (.not (.isin (.ix .t (.var 8) (.int 1)) 1)) (.one (.cmp .ne (.ix .t (.var 8) (.int 1)) (.cmp .eq (.ix .l (.var 6) (.ix .l (.var 3) (.var 7))) (.var 5))))) (.cons (.ret (.bl false))
  .nil) .nil)
  (.cons (.set 5 (.bin .addI (.var 5) (.bi .int1 (.cons (.ix .t (.var 8) (.int 1)) .nil))))
  .nil)) .nil)
  .nil)))
def b_law_k09_1 : DW.Ss := (.cons (.ret (.cmp .eq (.ix .t (.call 6 (.cons (.frz (.ix .t (.var 4) (.int 0))) .nil)) (.int 1)) (.var 5)))
  .nil)
def b_law_k09_2 : DW.Ss := (.cons (.for_ (.name 7) .r1 (.bi .len (.cons (.var 3) .nil)) .non b_law_k09_0)
  b_law_k09_1)
def m_law_k09 : DW.Ss := (.cons (.set 1 (.call 0 (.cons (.call 4 (.cons (.var 0) (.cons (.int 2) .nil))) .nil)))
  (.cons (.set 2 (.call 1 (.cons (.call 4 (.cons (.var 0) (.cons (.int 0) .nil))) .nil)))
  (.cons (.set 3 (.call 2 (.cons (.var 0) (.cons (.var 1) .nil))))
  (.cons (.set 4 (.call 3 (.cons (.frz (.var 2)) (.cons (.frz (.call 5 (.cons (.var 0) (.cons (.var 1) .nil)))) (.cons (.frz (.var 3)) (.cons (.str 5) .nil))))))
  (.cons (.set 5 (.int 0))
  (.cons (.set 6 (.bin .rep (.lst (.cons (.int 0) .nil)) (.var 1)))
  (.cons (.ite (.cmp .ne (.bi .len (.cons (.ix .t (.var 4) (.int 1)) .nil)) (.bi .len (.cons (.var 3) .nil))) (.cons (.ret (.bl false))
  .nil) .nil)
  b_law_k09_2)))))))
abbrev Ss_law_k09 : List SpD := [S_hands_by, S_start_by, S_weaving_by, S_p_woven, S_cell_at, S_programs_by, S_p_head_of]
theorem hS_law_k09 : ∀ rs g Q, lawS rs g Q → m_law_k09.W (wd Ss_law_k09 glF dtF) (rs.map some ++ List.replicate (9 - rs.length) none) g (fun _ g2 => Fin g Q (.dat .non) g2) (Fin g Q) := by
  rintro rs g Q ⟨ns, rfl, hl, q⟩
  unfold m_law_k09
  walk_at "dw"
  obtain ⟨h, hh⟩ : ∃ h : Nat, h = handsBy (cellAt ns 2) := ⟨_, rfl⟩
  obtain ⟨start, hst⟩ : ∃ s, s = startBy (cellAt ns 0) := ⟨_, rfl⟩
  have hh1 := handsBy_le (cellAt ns 2)
  have hsl := startBy_len (cellAt ns 0)
  rw [← hh] at hh1 ⊢
  rw [← hst] at hsl ⊢
  obtain ⟨hh1, hh2⟩ := hh1
  refine ⟨ns, h, rfl, hl, hh1, hh2, fun w hw1 hw2 => ?_⟩
  walk_at "dw"
  refine ⟨ns, h, rfl, hl, hh1, hh2, fun progs hp1 hp2 => ?_⟩
  walk_at "dw"
  refine ⟨start, progs, w, .marks, rfl, hsl, by omega, fun p hp => Nat.le_trans (hp2 p hp) (by decide), by omega, fun n hn => by rw [hp1]; exact hw2 n hn, ?_⟩
  walk_at "dw"
  have w0 : WfS (towerOf start progs .marks) := wf_tower hsl
  have h0 : (towerOf start progs .marks).hands.length = progs.length := List.length_map ..
  have hm0 := minv_tower (start := start) (progs := progs) (kd := .marks)
  have hk0 : (towerOf start progs .marks).kind = .marks := rfl
  have hv0 : (towerOf start progs .marks).head.2 = 0 := rfl
  generalize towerOf start progs .marks = s0 at w0 h0 hm0 hk0 hv0
  have hrl := run_len (s := s0) (w := w)
  have hsa := fun k n => steps_at (s := s0) (w := w) (k := k) (n := n)
  have hal := at_all (s := s0) (w := w)
  generalize run s0 w = R at hrl hsa hal
  obtain ⟨sE, steps⟩ := R
  dsimp only at hrl hsa hal
  rw [flat_rep, Int.toNat_natCast]
  refine ⟨by omega, by omega, by omega, fun hne => absurd (by rw [hrl]) hne, fun _ => ?_⟩
  unfold b_law_k09_2
  walk_at "dw"
  refine ⟨by omega, by omega, ?_⟩
  rw [Int.toNat_natCast]
  refine wloop (fun k env g2 => ∃ (sl : List Nat) (x y : Option Rv) (j1 j2 : Rg), env = [some (.dat (.scr ns)), some (.dat (.int (h : Int))), some (.dat (.lst (start.map .int))), some (.dat (.lst (w.map natD))), some (.dat (.tup [sE.enc, .lst (steps.map Step.enc)])), some (.dat (.int ((s0.at_ w k).head.2 : Int))), some (.ref (g.length + 1)), x, y] ∧
    g2 = g ++ (.lst [.dat (.int 0)] :: .lst ((sl.map natD).map .dat) :: j2) ∧ MInv (s0.at_ w k) sl ∧ k ≤ w.length) ⟨List.replicate h 0, none, none, [], [], ?_, ?_, ?_, Nat.zero_le _⟩ (fun _ _ _ _ => trivial) ?_ ?_
  · rw [at_zero, hv0]; rfl
  · rw [List.map_replicate, List.map_replicate]; rfl
  · rw [at_zero, ← hp1]; exact hm0
  · rintro k r env g2 hkr ⟨sl, x, y, j1, j2, rfl, rfl, hmi, hk⟩
    obtain ⟨rfl, hkw⟩ := rngs_getN hkr
    obtain ⟨n, hn⟩ : ∃ n, w[k]? = some n := ⟨_, List.getElem?_eq_getElem hkw⟩
    have hnh := hw2 n (List.mem_of_getElem? hn)
    obtain ⟨wk, hhk, htk, hkk⟩ := at_wf (w := w) k w0 (fun n hn => by rw [h0, hp1]; exact hw2 n hn)
    have ms := marks_step (n := n) wk (by rw [hhk, h0, hp1]; exact hnh) (hkk.trans hk0) hmi
    have hsk := hsa k n hn
    have hs1 := at_succ (s := s0) hn
    have hat := atI_nat' hsk
    have hnat := atI_nat' hn
    have hsll : sl.length = h := by rw [hmi.1, hhk, h0, hp1]
    rw [← hs1] at ms
    clear hs1
    obtain ⟨v, hv⟩ : ∃ v, sl[n]? = some v := ⟨_, List.getElem?_eq_getElem (by omega)⟩
    have hvat := atI_nat' hv
    have hix := ixN_nat' (n := h) (m := n) hnh
    refine ⟨_, rfl, ?_⟩
    unfold b_law_k09_0
    generalize (step (s0.at_ w k) n).2 = st at ms hat
    clear hsk hsa hkr hal hh hst
    cases st with
    | rest =>
      obtain ⟨m1, m2⟩ := ms
      have e : Step.rest.enc = .tup [.str 14] := rfl
      walk_at "dwh"
      exact ⟨sl, ⟨_, rfl⟩, m2, hkw⟩
    | take b =>
      obtain ⟨m1, m2⟩ := ms
      have e : (Step.take b).enc = .tup [.str 8, .int (b : Int)] := rfl
      walk_at "dwh"
      exact ⟨sl, ⟨_, rfl⟩, m2, hkw⟩
    | see b v w =>
      obtain ⟨m1, m2⟩ := ms
      have e : (Step.see b v w).enc = .tup [.str 10, .int (b : Int), .int v, optN w] := rfl
      walk_at "dwh"
      exact ⟨sl, ⟨_, rfl⟩, m2, hkw⟩
    | look b m =>
      obtain ⟨rfl, m2, m3⟩ := ms
      have e : (Step.look b (s0.at_ w k).head.2).enc = .tup [.str 9, optN b, .int ((s0.at_ w k).head.2 : Int)] := rfl
      walk_at "dwh"
      refine ⟨sl.set n (s0.at_ w k).head.2, ⟨j2, ?_⟩, m3, hkw⟩
      rw [List.map_set, List.map_set]; rfl
    | put kk =>
      obtain ⟨m1, m2, m3⟩ := ms
      rw [hv] at m1
      by_cases hvm : v = (s0.at_ w k).head.2
      · subst hvm
        rw [decide_eq_true rfl] at m1
        subst m1
        simp only [if_true] at m2
        have e : (Step.put true).enc = .tup [.str 11, .bl true] := rfl
        walk_at "dwh"
        exact ⟨by omega, sl, ⟨_, rfl⟩, m3, hkw⟩
      · rw [decide_eq_false fun z => hvm (by cases z; rfl)] at m1
        subst m1
        simp only [Bool.false_eq_true, if_false, Nat.add_zero] at m2
        have e : (Step.put false).enc = .tup [.str 11, .bl false] := rfl
        have hne : ((v : Int) == ((s0.at_ w k).head.2 : Int)) = false := by rw [beq_eq_false_iff_ne]; omega
        walk_at "dwh"
        exact ⟨by omega, sl, ⟨_, rfl⟩, m3, hkw⟩
  · rintro env g2 ⟨sl, x, y, j1, j2, rfl, rfl, hmi, hk⟩
    rw [rngs_length, hal]
    unfold b_law_k09_1
    walk_at "dwh"
    refine ⟨sE, rfl, ?_⟩
    walk_at "dwh"
    exact fin_dat _ rfl q

end DW

/-! ## K09.lean -/
set_option Elab.async false
set_option linter.all false
set_option maxRecDepth 100000
set_option maxHeartbeats 4000000
set_option autoImplicit false

namespace DW
open PySem PySem.Spec L2
open PyProof.Rows hiding St
abbrev P0 : Program := PySem.Challenge.pw_swaptower_k09_marks_grow
def top (i : Nat) : Stmt := P0.main.body.getD i (.Pass ⟨0, 0, 0, 0⟩)
abbrev glL : List (Str × Int) := [("MOST_VALUES", 60), ("MOST_HANDS", 20), ("MOST_DEEDS", 60), ("MOST_STEPS", 2000)]
abbrev dtL : List (Str × List (Nat × Nat)) := [("FIRST", [(0, 8), (1, 8), (2, 9), (3, 9), (4, 9)])]
theorem glP : glL <+: glF := by decide +kernel
theorem dtP : dtL <+: dtF := by decide +kernel

/-! ### is_value -/
abbrev s_p_is_value : Stmt := top 8
abbrev N_p_is_value : List Str := ["thing"]
theorem sc_p_is_value : FnScope N_p_is_value ["thing"] (defScope s_p_is_value) := ⟨rfl, rfl, rfl, by decide +kernel, rfl, by decide +kernel, by decide +kernel⟩
theorem c_p_is_value : m_p_is_value.ok ⟨N_p_is_value, defScope s_p_is_value, ksL, fn_p_is_value, glL, dtL.map (·.1), true⟩ (defBody s_p_is_value) = true := by decide +kernel
theorem cal_p_is_value {w : World} {K : PySem.W.Frag} {mg : Str → Option Value} {base : Heap} {k : Nat} (B : Bas ksL glL dtL w K mg) (C : Cals ksL P0 w K mg base k fn_p_is_value Ss_p_is_value) {f : Addr} {fd : FuncData} (F : Fun K "is_value" "is_value" s_p_is_value f fd) (hm : mg "is_value" = some (.ref f)) : Cal ksL P0 w K mg base "is_value" S_p_is_value (k + 1) :=
  cal_of2 1 m_p_is_value glP dtP B C F hm (F.binds (ps := ["thing"]) fun _ _ _ _ _ _ us hl => match us, hl with | [_], _ => rfl) sc_p_is_value rfl c_p_is_value mo_p_is_value len_p_is_value hS_p_is_value

/-! ### is_deed -/
abbrev s_p_is_deed : Stmt := top 9
abbrev N_p_is_deed : List Str := ["thing"]
theorem sc_p_is_deed : FnScope N_p_is_deed ["thing"] (defScope s_p_is_deed) := ⟨rfl, rfl, rfl, by decide +kernel, rfl, by decide +kernel, by decide +kernel⟩
theorem c_p_is_deed : m_p_is_deed.ok ⟨N_p_is_deed, defScope s_p_is_deed, ksL, fn_p_is_deed, glL, dtL.map (·.1), true⟩ (defBody s_p_is_deed) = true := by decide +kernel
theorem cal_p_is_deed {w : World} {K : PySem.W.Frag} {mg : Str → Option Value} {base : Heap} {k : Nat} (B : Bas ksL glL dtL w K mg) (C : Cals ksL P0 w K mg base k fn_p_is_deed Ss_p_is_deed) {f : Addr} {fd : FuncData} (F : Fun K "is_deed" "is_deed" s_p_is_deed f fd) (hm : mg "is_deed" = some (.ref f)) : Cal ksL P0 w K mg base "is_deed" S_p_is_deed (k + 1) :=
  cal_of2 1 m_p_is_deed glP dtP B C F hm (F.binds (ps := ["thing"]) fun _ _ _ _ _ _ us hl => match us, hl with | [_], _ => rfl) sc_p_is_deed rfl c_p_is_deed mo_p_is_deed len_p_is_deed hS_p_is_deed

/-! ### hand_of -/
abbrev s_p_hand_of : Stmt := top 14
abbrev N_p_hand_of : List Str := ["deeds"]
theorem sc_p_hand_of : FnScope N_p_hand_of ["deeds"] (defScope s_p_hand_of) := ⟨rfl, rfl, rfl, by decide +kernel, rfl, by decide +kernel, by decide +kernel⟩
theorem c_p_hand_of : m_p_hand_of.ok ⟨N_p_hand_of, defScope s_p_hand_of, ksL, fn_p_hand_of, glL, dtL.map (·.1), true⟩ (defBody s_p_hand_of) = true := by decide +kernel
theorem cal_p_hand_of {w : World} {K : PySem.W.Frag} {mg : Str → Option Value} {base : Heap} {k : Nat} (B : Bas ksL glL dtL w K mg) (C : Cals ksL P0 w K mg base k fn_p_hand_of Ss_p_hand_of) {f : Addr} {fd : FuncData} (F : Fun K "hand_of" "hand_of" s_p_hand_of f fd) (hm : mg "hand_of" = some (.ref f)) : Cal ksL P0 w K mg base "hand_of" S_p_hand_of (k + 1) :=
  cal_of2 1 m_p_hand_of glP dtP B C F hm (F.binds (ps := ["deeds"]) fun _ _ _ _ _ _ us hl => match us, hl with | [_], _ => rfl) sc_p_hand_of rfl c_p_hand_of mo_p_hand_of len_p_hand_of hS_p_hand_of

/-! ### sure_of -/
abbrev s_p_sure_of : Stmt := top 15
abbrev N_p_sure_of : List Str := ["start", "programs", "kind", "value", "deeds", "deed"]
theorem sc_p_sure_of : FnScope N_p_sure_of ["start", "programs", "kind"] (defScope s_p_sure_of) := ⟨rfl, rfl, rfl, by decide +kernel, rfl, by decide +kernel, by decide +kernel⟩
theorem c_p_sure_of : m_p_sure_of.ok ⟨N_p_sure_of, defScope s_p_sure_of, ksL, fn_p_sure_of, glL, dtL.map (·.1), true⟩ (defBody s_p_sure_of) = true := by decide +kernel
theorem cal_p_sure_of {w : World} {K : PySem.W.Frag} {mg : Str → Option Value} {base : Heap} {k : Nat} (B : Bas ksL glL dtL w K mg) (C : Cals ksL P0 w K mg base k fn_p_sure_of Ss_p_sure_of) {f : Addr} {fd : FuncData} (F : Fun K "sure_of" "sure_of" s_p_sure_of f fd) (hm : mg "sure_of" = some (.ref f)) : Cal ksL P0 w K mg base "sure_of" S_p_sure_of (k + 1) :=
  cal_of2 6 m_p_sure_of glP dtP B C F hm (F.binds (ps := ["start", "programs", "kind"]) fun _ _ _ _ _ _ us hl => match us, hl with | [_, _, _], _ => rfl) sc_p_sure_of rfl c_p_sure_of mo_p_sure_of len_p_sure_of hS_p_sure_of

/-! ### tower_of -/
abbrev s_p_tower_of : Stmt := top 16
abbrev N_p_tower_of : List Str := ["start", "programs", "kind", "boxes", "head", "hands", "place", "value", "deeds"]
theorem sc_p_tower_of : FnScope N_p_tower_of ["start", "programs", "kind"] (defScope s_p_tower_of) := ⟨rfl, rfl, rfl, by decide +kernel, rfl, by decide +kernel, by decide +kernel⟩
theorem c_p_tower_of : m_p_tower_of.ok ⟨N_p_tower_of, defScope s_p_tower_of, ksL, fn_p_tower_of, glL, dtL.map (·.1), true⟩ (defBody s_p_tower_of) = true := by decide +kernel
theorem cal_p_tower_of {w : World} {K : PySem.W.Frag} {mg : Str → Option Value} {base : Heap} {k : Nat} (B : Bas ksL glL dtL w K mg) (C : Cals ksL P0 w K mg base k fn_p_tower_of Ss_p_tower_of) {f : Addr} {fd : FuncData} (F : Fun K "tower_of" "tower_of" s_p_tower_of f fd) (hm : mg "tower_of" = some (.ref f)) : Cal ksL P0 w K mg base "tower_of" S_p_tower_of (k + 1) :=
  cal_of2 9 m_p_tower_of glP dtP B C F hm (F.binds (ps := ["start", "programs", "kind"]) fun _ _ _ _ _ _ us hl => match us, hl with | [_, _, _], _ => rfl) sc_p_tower_of rfl c_p_tower_of mo_p_tower_of len_p_tower_of hS_p_tower_of

/-! ### copied -/
abbrev s_p_copied : Stmt := top 17
abbrev N_p_copied : List Str := ["state", "hands", "hand", "other", "found"]
theorem sc_p_copied : FnScope N_p_copied ["state"] (defScope s_p_copied) := ⟨rfl, rfl, rfl, by decide +kernel, rfl, by decide +kernel, by decide +kernel⟩
theorem c_p_copied : m_p_copied.ok ⟨N_p_copied, defScope s_p_copied, ksL, fn_p_copied, glL, dtL.map (·.1), true⟩ (defBody s_p_copied) = true := by decide +kernel
theorem cal_p_copied {w : World} {K : PySem.W.Frag} {mg : Str → Option Value} {base : Heap} {k : Nat} (B : Bas ksL glL dtL w K mg) (C : Cals ksL P0 w K mg base k fn_p_copied Ss_p_copied) {f : Addr} {fd : FuncData} (F : Fun K "copied" "copied" s_p_copied f fd) (hm : mg "copied" = some (.ref f)) : Cal ksL P0 w K mg base "copied" S_p_copied (k + 1) :=
  cal_of2 5 m_p_copied glP dtP B C F hm (F.binds (ps := ["state"]) fun _ _ _ _ _ _ us hl => match us, hl with | [_], _ => rfl) sc_p_copied rfl c_p_copied mo_p_copied len_p_copied hS_p_copied

/-! ### head_of -/
abbrev s_p_head_of : Stmt := top 18
abbrev N_p_head_of : List Str := ["state"]
theorem sc_p_head_of : FnScope N_p_head_of ["state"] (defScope s_p_head_of) := ⟨rfl, rfl, rfl, by decide +kernel, rfl, by decide +kernel, by decide +kernel⟩
theorem c_p_head_of : m_p_head_of.ok ⟨N_p_head_of, defScope s_p_head_of, ksL, fn_p_head_of, glL, dtL.map (·.1), true⟩ (defBody s_p_head_of) = true := by decide +kernel
theorem cal_p_head_of {w : World} {K : PySem.W.Frag} {mg : Str → Option Value} {base : Heap} {k : Nat} (B : Bas ksL glL dtL w K mg) (C : Cals ksL P0 w K mg base k fn_p_head_of Ss_p_head_of) {f : Addr} {fd : FuncData} (F : Fun K "head_of" "head_of" s_p_head_of f fd) (hm : mg "head_of" = some (.ref f)) : Cal ksL P0 w K mg base "head_of" S_p_head_of (k + 1) :=
  cal_of2 1 m_p_head_of glP dtP B C F hm (F.binds (ps := ["state"]) fun _ _ _ _ _ _ us hl => match us, hl with | [_], _ => rfl) sc_p_head_of rfl c_p_head_of mo_p_head_of len_p_head_of hS_p_head_of

/-! ### is_still -/
abbrev s_p_is_still : Stmt := top 21
abbrev N_p_is_still : List Str := ["state", "seen"]
theorem sc_p_is_still : FnScope N_p_is_still ["state", "seen"] (defScope s_p_is_still) := ⟨rfl, rfl, rfl, by decide +kernel, rfl, by decide +kernel, by decide +kernel⟩
theorem c_p_is_still : m_p_is_still.ok ⟨N_p_is_still, defScope s_p_is_still, ksL, fn_p_is_still, glL, dtL.map (·.1), true⟩ (defBody s_p_is_still) = true := by decide +kernel
theorem cal_p_is_still {w : World} {K : PySem.W.Frag} {mg : Str → Option Value} {base : Heap} {k : Nat} (B : Bas ksL glL dtL w K mg) (C : Cals ksL P0 w K mg base k fn_p_is_still Ss_p_is_still) {f : Addr} {fd : FuncData} (F : Fun K "is_still" "is_still" s_p_is_still f fd) (hm : mg "is_still" = some (.ref f)) : Cal ksL P0 w K mg base "is_still" S_p_is_still (k + 1) :=
  cal_of2 2 m_p_is_still glP dtP B C F hm (F.binds (ps := ["state", "seen"]) fun _ _ _ _ _ _ us hl => match us, hl with | [_, _], _ => rfl) sc_p_is_still rfl c_p_is_still mo_p_is_still len_p_is_still hS_p_is_still

/-! ### set_head -/
abbrev s_p_set_head : Stmt := top 22
abbrev N_p_set_head : List Str := ["state", "box"]
theorem sc_p_set_head : FnScope N_p_set_head ["state", "box"] (defScope s_p_set_head) := ⟨rfl, rfl, rfl, by decide +kernel, rfl, by decide +kernel, by decide +kernel⟩
theorem c_p_set_head : m_p_set_head.ok ⟨N_p_set_head, defScope s_p_set_head, ksL, fn_p_set_head, glL, dtL.map (·.1), true⟩ (defBody s_p_set_head) = true := by decide +kernel
theorem cal_p_set_head {w : World} {K : PySem.W.Frag} {mg : Str → Option Value} {base : Heap} {k : Nat} (B : Bas ksL glL dtL w K mg) (C : Cals ksL P0 w K mg base k fn_p_set_head Ss_p_set_head) {f : Addr} {fd : FuncData} (F : Fun K "set_head" "set_head" s_p_set_head f fd) (hm : mg "set_head" = some (.ref f)) : Cal ksL P0 w K mg base "set_head" S_p_set_head (k + 1) :=
  cal_of2 2 m_p_set_head glP dtP B C F hm (F.binds (ps := ["state", "box"]) fun _ _ _ _ _ _ us hl => match us, hl with | [_, _], _ => rfl) sc_p_set_head rfl c_p_set_head mo_p_set_head len_p_set_head hS_p_set_head

/-! ### come_to_point -/
abbrev s_p_come_to_point : Stmt := top 23
abbrev N_p_come_to_point : List Str := ["state", "number", "end", "answer", "hand", "deed"]
theorem sc_p_come_to_point : FnScope N_p_come_to_point ["state", "number", "end", "answer"] (defScope s_p_come_to_point) := ⟨rfl, rfl, rfl, by decide +kernel, rfl, by decide +kernel, by decide +kernel⟩
theorem c_p_come_to_point : m_p_come_to_point.ok ⟨N_p_come_to_point, defScope s_p_come_to_point, ksL, fn_p_come_to_point, glL, dtL.map (·.1), true⟩ (defBody s_p_come_to_point) = true := by decide +kernel
theorem cal_p_come_to_point {w : World} {K : PySem.W.Frag} {mg : Str → Option Value} {base : Heap} {k : Nat} (B : Bas ksL glL dtL w K mg) (C : Cals ksL P0 w K mg base k fn_p_come_to_point Ss_p_come_to_point) {f : Addr} {fd : FuncData} (F : Fun K "come_to_point" "come_to_point" s_p_come_to_point f fd) (hm : mg "come_to_point" = some (.ref f)) : Cal ksL P0 w K mg base "come_to_point" S_p_come_to_point (k + 1) :=
  cal_of2 6 m_p_come_to_point glP dtP B C F hm (F.binds (ps := ["state", "number", "end", "answer"]) fun _ _ _ _ _ _ us hl => match us, hl with | [_, _, _, _], _ => rfl) sc_p_come_to_point rfl c_p_come_to_point mo_p_come_to_point len_p_come_to_point hS_p_come_to_point

/-! ### next_deed -/
abbrev s_p_next_deed : Stmt := top 24
abbrev N_p_next_deed : List Str := ["hand"]
theorem sc_p_next_deed : FnScope N_p_next_deed ["hand"] (defScope s_p_next_deed) := ⟨rfl, rfl, rfl, by decide +kernel, rfl, by decide +kernel, by decide +kernel⟩
theorem c_p_next_deed : m_p_next_deed.ok ⟨N_p_next_deed, defScope s_p_next_deed, ksL, fn_p_next_deed, glL, dtL.map (·.1), true⟩ (defBody s_p_next_deed) = true := by decide +kernel
theorem cal_p_next_deed {w : World} {K : PySem.W.Frag} {mg : Str → Option Value} {base : Heap} {k : Nat} (B : Bas ksL glL dtL w K mg) (C : Cals ksL P0 w K mg base k fn_p_next_deed Ss_p_next_deed) {f : Addr} {fd : FuncData} (F : Fun K "next_deed" "next_deed" s_p_next_deed f fd) (hm : mg "next_deed" = some (.ref f)) : Cal ksL P0 w K mg base "next_deed" S_p_next_deed (k + 1) :=
  cal_of2 1 m_p_next_deed glP dtP B C F hm (F.binds (ps := ["hand"]) fun _ _ _ _ _ _ us hl => match us, hl with | [_], _ => rfl) sc_p_next_deed rfl c_p_next_deed mo_p_next_deed len_p_next_deed hS_p_next_deed

/-! ### come_to_end -/
abbrev s_p_come_to_end : Stmt := top 25
abbrev N_p_come_to_end : List Str := ["state", "number", "answer"]
theorem sc_p_come_to_end : FnScope N_p_come_to_end ["state", "number", "answer"] (defScope s_p_come_to_end) := ⟨rfl, rfl, rfl, by decide +kernel, rfl, by decide +kernel, by decide +kernel⟩
theorem c_p_come_to_end : m_p_come_to_end.ok ⟨N_p_come_to_end, defScope s_p_come_to_end, ksL, fn_p_come_to_end, glL, dtL.map (·.1), true⟩ (defBody s_p_come_to_end) = true := by decide +kernel
theorem cal_p_come_to_end {w : World} {K : PySem.W.Frag} {mg : Str → Option Value} {base : Heap} {k : Nat} (B : Bas ksL glL dtL w K mg) (C : Cals ksL P0 w K mg base k fn_p_come_to_end Ss_p_come_to_end) {f : Addr} {fd : FuncData} (F : Fun K "come_to_end" "come_to_end" s_p_come_to_end f fd) (hm : mg "come_to_end" = some (.ref f)) : Cal ksL P0 w K mg base "come_to_end" S_p_come_to_end (k + 1) :=
  cal_of2 3 m_p_come_to_end glP dtP B C F hm (F.binds (ps := ["state", "number", "answer"]) fun _ _ _ _ _ _ us hl => match us, hl with | [_, _, _], _ => rfl) sc_p_come_to_end rfl c_p_come_to_end mo_p_come_to_end len_p_come_to_end hS_p_come_to_end

/-! ### step_take -/
abbrev s_p_step_take : Stmt := top 26
abbrev N_p_step_take : List Str := ["state", "hand", "deed"]
theorem sc_p_step_take : FnScope N_p_step_take ["state", "hand", "deed"] (defScope s_p_step_take) := ⟨rfl, rfl, rfl, by decide +kernel, rfl, by decide +kernel, by decide +kernel⟩
theorem c_p_step_take : m_p_step_take.ok ⟨N_p_step_take, defScope s_p_step_take, ksL, fn_p_step_take, glL, dtL.map (·.1), true⟩ (defBody s_p_step_take) = true := by decide +kernel
theorem cal_p_step_take {w : World} {K : PySem.W.Frag} {mg : Str → Option Value} {base : Heap} {k : Nat} (B : Bas ksL glL dtL w K mg) (C : Cals ksL P0 w K mg base k fn_p_step_take Ss_p_step_take) {f : Addr} {fd : FuncData} (F : Fun K "step_take" "step_take" s_p_step_take f fd) (hm : mg "step_take" = some (.ref f)) : Cal ksL P0 w K mg base "step_take" S_p_step_take (k + 1) :=
  cal_of2 3 m_p_step_take glP dtP B C F hm (F.binds (ps := ["state", "hand", "deed"]) fun _ _ _ _ _ _ us hl => match us, hl with | [_, _, _], _ => rfl) sc_p_step_take rfl c_p_step_take mo_p_step_take len_p_step_take hS_p_step_take

/-! ### step_look -/
abbrev s_p_step_look : Stmt := top 27
abbrev N_p_step_look : List Str := ["state", "number", "hand", "deed", "step", "value", "answer"]
theorem sc_p_step_look : FnScope N_p_step_look ["state", "number", "hand", "deed"] (defScope s_p_step_look) := ⟨rfl, rfl, rfl, by decide +kernel, rfl, by decide +kernel, by decide +kernel⟩
theorem c_p_step_look : m_p_step_look.ok ⟨N_p_step_look, defScope s_p_step_look, ksL, fn_p_step_look, glL, dtL.map (·.1), true⟩ (defBody s_p_step_look) = true := by decide +kernel
theorem cal_p_step_look {w : World} {K : PySem.W.Frag} {mg : Str → Option Value} {base : Heap} {k : Nat} (B : Bas ksL glL dtL w K mg) (C : Cals ksL P0 w K mg base k fn_p_step_look Ss_p_step_look) {f : Addr} {fd : FuncData} (F : Fun K "step_look" "step_look" s_p_step_look f fd) (hm : mg "step_look" = some (.ref f)) : Cal ksL P0 w K mg base "step_look" S_p_step_look (k + 1) :=
  cal_of2 7 m_p_step_look glP dtP B C F hm (F.binds (ps := ["state", "number", "hand", "deed"]) fun _ _ _ _ _ _ us hl => match us, hl with | [_, _, _, _], _ => rfl) sc_p_step_look rfl c_p_step_look mo_p_step_look len_p_step_look hS_p_step_look

/-! ### step_see -/
abbrev s_p_step_see : Stmt := top 28
abbrev N_p_step_see : List Str := ["state", "hand", "deed", "box", "inside", "value"]
theorem sc_p_step_see : FnScope N_p_step_see ["state", "hand", "deed"] (defScope s_p_step_see) := ⟨rfl, rfl, rfl, by decide +kernel, rfl, by decide +kernel, by decide +kernel⟩
theorem c_p_step_see : m_p_step_see.ok ⟨N_p_step_see, defScope s_p_step_see, ksL, fn_p_step_see, glL, dtL.map (·.1), true⟩ (defBody s_p_step_see) = true := by decide +kernel
theorem cal_p_step_see {w : World} {K : PySem.W.Frag} {mg : Str → Option Value} {base : Heap} {k : Nat} (B : Bas ksL glL dtL w K mg) (C : Cals ksL P0 w K mg base k fn_p_step_see Ss_p_step_see) {f : Addr} {fd : FuncData} (F : Fun K "step_see" "step_see" s_p_step_see f fd) (hm : mg "step_see" = some (.ref f)) : Cal ksL P0 w K mg base "step_see" S_p_step_see (k + 1) :=
  cal_of2 6 m_p_step_see glP dtP B C F hm (F.binds (ps := ["state", "hand", "deed"]) fun _ _ _ _ _ _ us hl => match us, hl with | [_, _, _], _ => rfl) sc_p_step_see rfl c_p_step_see mo_p_step_see len_p_step_see hS_p_step_see

/-! ### step_check -/
abbrev s_p_step_check : Stmt := top 29
abbrev N_p_step_check : List Str := ["state", "number", "hand", "step"]
theorem sc_p_step_check : FnScope N_p_step_check ["state", "number", "hand"] (defScope s_p_step_check) := ⟨rfl, rfl, rfl, by decide +kernel, rfl, by decide +kernel, by decide +kernel⟩
theorem c_p_step_check : m_p_step_check.ok ⟨N_p_step_check, defScope s_p_step_check, ksL, fn_p_step_check, glL, dtL.map (·.1), true⟩ (defBody s_p_step_check) = true := by decide +kernel
theorem cal_p_step_check {w : World} {K : PySem.W.Frag} {mg : Str → Option Value} {base : Heap} {k : Nat} (B : Bas ksL glL dtL w K mg) (C : Cals ksL P0 w K mg base k fn_p_step_check Ss_p_step_check) {f : Addr} {fd : FuncData} (F : Fun K "step_check" "step_check" s_p_step_check f fd) (hm : mg "step_check" = some (.ref f)) : Cal ksL P0 w K mg base "step_check" S_p_step_check (k + 1) :=
  cal_of2 4 m_p_step_check glP dtP B C F hm (F.binds (ps := ["state", "number", "hand"]) fun _ _ _ _ _ _ us hl => match us, hl with | [_, _, _], _ => rfl) sc_p_step_check rfl c_p_step_check mo_p_step_check len_p_step_check hS_p_step_check

/-! ### step_put -/
abbrev s_p_step_put : Stmt := top 30
abbrev N_p_step_put : List Str := ["state", "number", "hand", "deed", "box", "answer"]
theorem sc_p_step_put : FnScope N_p_step_put ["state", "number", "hand", "deed"] (defScope s_p_step_put) := ⟨rfl, rfl, rfl, by decide +kernel, rfl, by decide +kernel, by decide +kernel⟩
theorem c_p_step_put : m_p_step_put.ok ⟨N_p_step_put, defScope s_p_step_put, ksL, fn_p_step_put, glL, dtL.map (·.1), true⟩ (defBody s_p_step_put) = true := by decide +kernel
theorem cal_p_step_put {w : World} {K : PySem.W.Frag} {mg : Str → Option Value} {base : Heap} {k : Nat} (B : Bas ksL glL dtL w K mg) (C : Cals ksL P0 w K mg base k fn_p_step_put Ss_p_step_put) {f : Addr} {fd : FuncData} (F : Fun K "step_put" "step_put" s_p_step_put f fd) (hm : mg "step_put" = some (.ref f)) : Cal ksL P0 w K mg base "step_put" S_p_step_put (k + 1) :=
  cal_of2 6 m_p_step_put glP dtP B C F hm (F.binds (ps := ["state", "number", "hand", "deed"]) fun _ _ _ _ _ _ us hl => match us, hl with | [_, _, _, _], _ => rfl) sc_p_step_put rfl c_p_step_put mo_p_step_put len_p_step_put hS_p_step_put

/-! ### step_walk -/
abbrev s_p_step_walk : Stmt := top 31
abbrev N_p_step_walk : List Str := ["state", "number", "hand", "box", "inside", "rows", "row"]
theorem sc_p_step_walk : FnScope N_p_step_walk ["state", "number", "hand"] (defScope s_p_step_walk) := ⟨rfl, rfl, rfl, by decide +kernel, rfl, by decide +kernel, by decide +kernel⟩
theorem c_p_step_walk : m_p_step_walk.ok ⟨N_p_step_walk, defScope s_p_step_walk, ksL, fn_p_step_walk, glL, dtL.map (·.1), true⟩ (defBody s_p_step_walk) = true := by decide +kernel
theorem cal_p_step_walk {w : World} {K : PySem.W.Frag} {mg : Str → Option Value} {base : Heap} {k : Nat} (B : Bas ksL glL dtL w K mg) (C : Cals ksL P0 w K mg base k fn_p_step_walk Ss_p_step_walk) {f : Addr} {fd : FuncData} (F : Fun K "step_walk" "step_walk" s_p_step_walk f fd) (hm : mg "step_walk" = some (.ref f)) : Cal ksL P0 w K mg base "step_walk" S_p_step_walk (k + 1) :=
  cal_of2 7 m_p_step_walk glP dtP B C F hm (F.binds (ps := ["state", "number", "hand"]) fun _ _ _ _ _ _ us hl => match us, hl with | [_, _, _], _ => rfl) sc_p_step_walk rfl c_p_step_walk mo_p_step_walk len_p_step_walk hS_p_step_walk

/-! ### step_of -/
abbrev s_p_step_of : Stmt := top 32
abbrev N_p_step_of : List Str := ["state", "number", "hand", "deed"]
theorem sc_p_step_of : FnScope N_p_step_of ["state", "number"] (defScope s_p_step_of) := ⟨rfl, rfl, rfl, by decide +kernel, rfl, by decide +kernel, by decide +kernel⟩
theorem c_p_step_of : m_p_step_of.ok ⟨N_p_step_of, defScope s_p_step_of, ksL, fn_p_step_of, glL, dtL.map (·.1), true⟩ (defBody s_p_step_of) = true := by decide +kernel
theorem cal_p_step_of {w : World} {K : PySem.W.Frag} {mg : Str → Option Value} {base : Heap} {k : Nat} (B : Bas ksL glL dtL w K mg) (C : Cals ksL P0 w K mg base k fn_p_step_of Ss_p_step_of) {f : Addr} {fd : FuncData} (F : Fun K "step_of" "step_of" s_p_step_of f fd) (hm : mg "step_of" = some (.ref f)) : Cal ksL P0 w K mg base "step_of" S_p_step_of (k + 1) :=
  cal_of2 4 m_p_step_of glP dtP B C F hm (F.binds (ps := ["state", "number"]) fun _ _ _ _ _ _ us hl => match us, hl with | [_, _], _ => rfl) sc_p_step_of rfl c_p_step_of mo_p_step_of len_p_step_of hS_p_step_of

/-! ### stepped -/
abbrev s_p_stepped : Stmt := top 33
abbrev N_p_stepped : List Str := ["state", "number", "found", "step"]
theorem sc_p_stepped : FnScope N_p_stepped ["state", "number"] (defScope s_p_stepped) := ⟨rfl, rfl, rfl, by decide +kernel, rfl, by decide +kernel, by decide +kernel⟩
theorem c_p_stepped : m_p_stepped.ok ⟨N_p_stepped, defScope s_p_stepped, ksL, fn_p_stepped, glL, dtL.map (·.1), true⟩ (defBody s_p_stepped) = true := by decide +kernel
theorem cal_p_stepped {w : World} {K : PySem.W.Frag} {mg : Str → Option Value} {base : Heap} {k : Nat} (B : Bas ksL glL dtL w K mg) (C : Cals ksL P0 w K mg base k fn_p_stepped Ss_p_stepped) {f : Addr} {fd : FuncData} (F : Fun K "stepped" "stepped" s_p_stepped f fd) (hm : mg "stepped" = some (.ref f)) : Cal ksL P0 w K mg base "stepped" S_p_stepped (k + 1) :=
  cal_of2 4 m_p_stepped glP dtP B C F hm (F.binds (ps := ["state", "number"]) fun _ _ _ _ _ _ us hl => match us, hl with | [_, _], _ => rfl) sc_p_stepped rfl c_p_stepped mo_p_stepped len_p_stepped hS_p_stepped

/-! ### woven -/
abbrev s_p_woven : Stmt := top 36
abbrev N_p_woven : List Str := ["start", "programs", "weaving", "kind", "state", "steps", "number", "pair"]
theorem sc_p_woven : FnScope N_p_woven ["start", "programs", "weaving", "kind"] (defScope s_p_woven) := ⟨rfl, rfl, rfl, by decide +kernel, rfl, by decide +kernel, by decide +kernel⟩
theorem c_p_woven : m_p_woven.ok ⟨N_p_woven, defScope s_p_woven, ksL, fn_p_woven, glL, dtL.map (·.1), true⟩ (defBody s_p_woven) = true := by decide +kernel
theorem cal_p_woven {w : World} {K : PySem.W.Frag} {mg : Str → Option Value} {base : Heap} {k : Nat} (B : Bas ksL glL dtL w K mg) (C : Cals ksL P0 w K mg base k fn_p_woven Ss_p_woven) {f : Addr} {fd : FuncData} (F : Fun K "woven" "woven" s_p_woven f fd) (hm : mg "woven" = some (.ref f)) : Cal ksL P0 w K mg base "woven" S_p_woven (k + 1) :=
  cal_of2 8 m_p_woven glP dtP B C F hm (F.binds (ps := ["start", "programs", "weaving", "kind"]) fun _ _ _ _ _ _ us hl => match us, hl with | [_, _, _, _], _ => rfl) sc_p_woven rfl c_p_woven mo_p_woven len_p_woven hS_p_woven

/-! ### _law_mixed -/
abbrev s_mixed : Stmt := top 38
abbrev N_mixed : List Str := ["_law_cell", "_law_k", "_law_left"]
theorem sc_mixed : FnScope N_mixed ["_law_cell", "_law_k"] (defScope s_mixed) := ⟨rfl, rfl, rfl, by decide +kernel, rfl, by decide +kernel, by decide +kernel⟩
theorem c_mixed : m_mixed.ok ⟨N_mixed, defScope s_mixed, ksL, fn_mixed, glL, dtL.map (·.1), true⟩ (defBody s_mixed) = true := by decide +kernel
theorem cal_mixed {w : World} {K : PySem.W.Frag} {mg : Str → Option Value} {base : Heap} {k : Nat} (B : Bas ksL glL dtL w K mg) (C : Cals ksL P0 w K mg base k fn_mixed Ss_mixed) {f : Addr} {fd : FuncData} (F : Fun K "_law_mixed" "_law_mixed" s_mixed f fd) (hm : mg "_law_mixed" = some (.ref f)) : Cal ksL P0 w K mg base "_law_mixed" S_mixed (k + 1) :=
  cal_of2 3 m_mixed glP dtP B C F hm (F.binds (ps := ["_law_cell", "_law_k"]) fun _ _ _ _ _ _ us hl => match us, hl with | [_, _], _ => rfl) sc_mixed rfl c_mixed mo_mixed len_mixed hS_mixed

/-! ### _law_cell_at -/
abbrev s_cell_at : Stmt := top 39
abbrev N_cell_at : List Str := ["_law_script", "_law_k"]
theorem sc_cell_at : FnScope N_cell_at ["_law_script", "_law_k"] (defScope s_cell_at) := ⟨rfl, rfl, rfl, by decide +kernel, rfl, by decide +kernel, by decide +kernel⟩
theorem c_cell_at : m_cell_at.ok ⟨N_cell_at, defScope s_cell_at, ksL, fn_cell_at, glL, dtL.map (·.1), true⟩ (defBody s_cell_at) = true := by decide +kernel
theorem cal_cell_at {w : World} {K : PySem.W.Frag} {mg : Str → Option Value} {base : Heap} {k : Nat} (B : Bas ksL glL dtL w K mg) (C : Cals ksL P0 w K mg base k fn_cell_at Ss_cell_at) {f : Addr} {fd : FuncData} (F : Fun K "_law_cell_at" "_law_cell_at" s_cell_at f fd) (hm : mg "_law_cell_at" = some (.ref f)) : Cal ksL P0 w K mg base "_law_cell_at" S_cell_at (k + 1) :=
  cal_of2 2 m_cell_at glP dtP B C F hm (F.binds (ps := ["_law_script", "_law_k"]) fun _ _ _ _ _ _ us hl => match us, hl with | [_, _], _ => rfl) sc_cell_at rfl c_cell_at mo_cell_at len_cell_at hS_cell_at

/-! ### _law_cells -/
abbrev s_cells : Stmt := top 40
abbrev N_cells : List Str := ["_law_script", "_law_at", "_law_end", "_law_k"]
theorem sc_cells : FnScope N_cells ["_law_script", "_law_at", "_law_end"] (defScope s_cells) := ⟨rfl, rfl, rfl, by decide +kernel, rfl, by decide +kernel, by decide +kernel⟩
theorem c_cells : m_cells.ok ⟨N_cells, defScope s_cells, ksL, fn_cells, glL, dtL.map (·.1), true⟩ (defBody s_cells) = true := by decide +kernel
theorem cal_cells {w : World} {K : PySem.W.Frag} {mg : Str → Option Value} {base : Heap} {k : Nat} (B : Bas ksL glL dtL w K mg) (C : Cals ksL P0 w K mg base k fn_cells Ss_cells) {f : Addr} {fd : FuncData} (F : Fun K "_law_cells" "_law_cells" s_cells f fd) (hm : mg "_law_cells" = some (.ref f)) : Cal ksL P0 w K mg base "_law_cells" S_cells (k + 1) :=
  cal_of2 4 m_cells glP dtP B C F hm (F.binds (ps := ["_law_script", "_law_at", "_law_end"]) fun _ _ _ _ _ _ us hl => match us, hl with | [_, _, _], _ => rfl) sc_cells rfl c_cells mo_cells len_cells hS_cells

/-! ### _law_value_by -/
abbrev s_value_by : Stmt := top 41
abbrev N_value_by : List Str := ["_law_cell"]
theorem sc_value_by : FnScope N_value_by ["_law_cell"] (defScope s_value_by) := ⟨rfl, rfl, rfl, by decide +kernel, rfl, by decide +kernel, by decide +kernel⟩
theorem c_value_by : m_value_by.ok ⟨N_value_by, defScope s_value_by, ksL, fn_value_by, glL, dtL.map (·.1), true⟩ (defBody s_value_by) = true := by decide +kernel
theorem cal_value_by {w : World} {K : PySem.W.Frag} {mg : Str → Option Value} {base : Heap} {k : Nat} (B : Bas ksL glL dtL w K mg) (C : Cals ksL P0 w K mg base k fn_value_by Ss_value_by) {f : Addr} {fd : FuncData} (F : Fun K "_law_value_by" "_law_value_by" s_value_by f fd) (hm : mg "_law_value_by" = some (.ref f)) : Cal ksL P0 w K mg base "_law_value_by" S_value_by (k + 1) :=
  cal_of2 1 m_value_by glP dtP B C F hm (F.binds (ps := ["_law_cell"]) fun _ _ _ _ _ _ us hl => match us, hl with | [_], _ => rfl) sc_value_by rfl c_value_by mo_value_by len_value_by hS_value_by

/-! ### _law_deed_by -/
abbrev s_deed_by : Stmt := top 42
abbrev N_deed_by : List Str := ["_law_cell", "_law_name"]
theorem sc_deed_by : FnScope N_deed_by ["_law_cell"] (defScope s_deed_by) := ⟨rfl, rfl, rfl, by decide +kernel, rfl, by decide +kernel, by decide +kernel⟩
theorem c_deed_by : m_deed_by.ok ⟨N_deed_by, defScope s_deed_by, ksL, fn_deed_by, glL, dtL.map (·.1), true⟩ (defBody s_deed_by) = true := by decide +kernel
theorem cal_deed_by {w : World} {K : PySem.W.Frag} {mg : Str → Option Value} {base : Heap} {k : Nat} (B : Bas ksL glL dtL w K mg) (C : Cals ksL P0 w K mg base k fn_deed_by Ss_deed_by) {f : Addr} {fd : FuncData} (F : Fun K "_law_deed_by" "_law_deed_by" s_deed_by f fd) (hm : mg "_law_deed_by" = some (.ref f)) : Cal ksL P0 w K mg base "_law_deed_by" S_deed_by (k + 1) :=
  cal_of2 2 m_deed_by glP dtP B C F hm (F.binds (ps := ["_law_cell"]) fun _ _ _ _ _ _ us hl => match us, hl with | [_], _ => rfl) sc_deed_by rfl c_deed_by mo_deed_by len_deed_by hS_deed_by

/-! ### _law_start_by -/
abbrev s_start_by : Stmt := top 43
abbrev N_start_by : List Str := ["_law_cell", "_law_size", "_law_k"]
theorem sc_start_by : FnScope N_start_by ["_law_cell"] (defScope s_start_by) := ⟨rfl, rfl, rfl, by decide +kernel, rfl, by decide +kernel, by decide +kernel⟩
theorem c_start_by : m_start_by.ok ⟨N_start_by, defScope s_start_by, ksL, fn_start_by, glL, dtL.map (·.1), true⟩ (defBody s_start_by) = true := by decide +kernel
theorem cal_start_by {w : World} {K : PySem.W.Frag} {mg : Str → Option Value} {base : Heap} {k : Nat} (B : Bas ksL glL dtL w K mg) (C : Cals ksL P0 w K mg base k fn_start_by Ss_start_by) {f : Addr} {fd : FuncData} (F : Fun K "_law_start_by" "_law_start_by" s_start_by f fd) (hm : mg "_law_start_by" = some (.ref f)) : Cal ksL P0 w K mg base "_law_start_by" S_start_by (k + 1) :=
  cal_of2 3 m_start_by glP dtP B C F hm (F.binds (ps := ["_law_cell"]) fun _ _ _ _ _ _ us hl => match us, hl with | [_], _ => rfl) sc_start_by rfl c_start_by mo_start_by len_start_by hS_start_by

/-! ### _law_hands_by -/
abbrev s_hands_by : Stmt := top 44
abbrev N_hands_by : List Str := ["_law_cell"]
theorem sc_hands_by : FnScope N_hands_by ["_law_cell"] (defScope s_hands_by) := ⟨rfl, rfl, rfl, by decide +kernel, rfl, by decide +kernel, by decide +kernel⟩
theorem c_hands_by : m_hands_by.ok ⟨N_hands_by, defScope s_hands_by, ksL, fn_hands_by, glL, dtL.map (·.1), true⟩ (defBody s_hands_by) = true := by decide +kernel
theorem cal_hands_by {w : World} {K : PySem.W.Frag} {mg : Str → Option Value} {base : Heap} {k : Nat} (B : Bas ksL glL dtL w K mg) (C : Cals ksL P0 w K mg base k fn_hands_by Ss_hands_by) {f : Addr} {fd : FuncData} (F : Fun K "_law_hands_by" "_law_hands_by" s_hands_by f fd) (hm : mg "_law_hands_by" = some (.ref f)) : Cal ksL P0 w K mg base "_law_hands_by" S_hands_by (k + 1) :=
  cal_of2 1 m_hands_by glP dtP B C F hm (F.binds (ps := ["_law_cell"]) fun _ _ _ _ _ _ us hl => match us, hl with | [_], _ => rfl) sc_hands_by rfl c_hands_by mo_hands_by len_hands_by hS_hands_by

/-! ### _law_programs_by -/
abbrev s_programs_by : Stmt := top 45
abbrev N_programs_by : List Str := ["_law_script", "_law_hands", "_law_programs", "_law_cell", "_law_k"]
theorem sc_programs_by : FnScope N_programs_by ["_law_script", "_law_hands"] (defScope s_programs_by) := ⟨rfl, rfl, rfl, by decide +kernel, rfl, by decide +kernel, by decide +kernel⟩
theorem c_programs_by : m_programs_by.ok ⟨N_programs_by, defScope s_programs_by, ksL, fn_programs_by, glL, dtL.map (·.1), true⟩ (defBody s_programs_by) = true := by decide +kernel
theorem cal_programs_by {w : World} {K : PySem.W.Frag} {mg : Str → Option Value} {base : Heap} {k : Nat} (B : Bas ksL glL dtL w K mg) (C : Cals ksL P0 w K mg base k fn_programs_by Ss_programs_by) {f : Addr} {fd : FuncData} (F : Fun K "_law_programs_by" "_law_programs_by" s_programs_by f fd) (hm : mg "_law_programs_by" = some (.ref f)) : Cal ksL P0 w K mg base "_law_programs_by" S_programs_by (k + 1) :=
  cal_of2 5 m_programs_by glP dtP B C F hm (F.binds (ps := ["_law_script", "_law_hands"]) fun _ _ _ _ _ _ us hl => match us, hl with | [_, _], _ => rfl) sc_programs_by rfl c_programs_by mo_programs_by len_programs_by hS_programs_by

/-! ### _law_weaving_by -/
abbrev s_weaving_by : Stmt := top 46
abbrev N_weaving_by : List Str := ["_law_script", "_law_hands", "_law_weaving", "_law_cell", "_law_rest", "_law_k"]
theorem sc_weaving_by : FnScope N_weaving_by ["_law_script", "_law_hands"] (defScope s_weaving_by) := ⟨rfl, rfl, rfl, by decide +kernel, rfl, by decide +kernel, by decide +kernel⟩
theorem c_weaving_by : m_weaving_by.ok ⟨N_weaving_by, defScope s_weaving_by, ksL, fn_weaving_by, glL, dtL.map (·.1), true⟩ (defBody s_weaving_by) = true := by decide +kernel
theorem cal_weaving_by {w : World} {K : PySem.W.Frag} {mg : Str → Option Value} {base : Heap} {k : Nat} (B : Bas ksL glL dtL w K mg) (C : Cals ksL P0 w K mg base k fn_weaving_by Ss_weaving_by) {f : Addr} {fd : FuncData} (F : Fun K "_law_weaving_by" "_law_weaving_by" s_weaving_by f fd) (hm : mg "_law_weaving_by" = some (.ref f)) : Cal ksL P0 w K mg base "_law_weaving_by" S_weaving_by (k + 1) :=
  cal_of2 6 m_weaving_by glP dtP B C F hm (F.binds (ps := ["_law_script", "_law_hands"]) fun _ _ _ _ _ _ us hl => match us, hl with | [_, _], _ => rfl) sc_weaving_by rfl c_weaving_by mo_weaving_by len_weaving_by hS_weaving_by

/-! ### law -/
abbrev s_law_k09 : Stmt := top 47
abbrev N_law_k09 : List Str := ["_law_script", "_law_hands", "_law_start", "_law_weaving", "_law_found", "_law_went", "_law_seen", "_law_k", "_law_step"]
theorem sc_law_k09 : FnScope N_law_k09 ["_law_script"] (defScope s_law_k09) := ⟨rfl, rfl, rfl, by decide +kernel, rfl, by decide +kernel, by decide +kernel⟩
theorem c_law_k09 : m_law_k09.ok ⟨N_law_k09, defScope s_law_k09, ksL, fn_law_k09, glL, dtL.map (·.1), true⟩ (defBody s_law_k09) = true := by decide +kernel
theorem law_ok {w : World} {K : PySem.W.Frag} {mg : Str → Option Value} {base : Heap} {k : Nat} (B : Bas ksL glL dtL w K mg) (C : Cals ksL P0 w K mg base k fn_law_k09 Ss_law_k09) {f : Addr} {fd : FuncData} (F : Fun K "law" "law" s_law_k09 f fd) : FnOk P0 w K mg base CX0 (k + 1) f fd ["_law_script"] (PSpD ⟨ksL, K⟩ lawS) :=
  fn_of_cals2 9 m_law_k09 glP dtP B C F sc_law_k09 rfl c_law_k09 (fun rs g Q ⟨ns, e, _, _⟩ => by rw [e]; rfl) hS_law_k09

theorem all_mk {w : World} {K : PySem.W.Frag} {h : Heap} {mg : Str → Option Value} {fa f1 f2 f3 f4 f5 f6 f7 f8 f9 f10 f11 f12 f13 f14 f15 f16 f17 f18 f19 f20 f21 f22 f23 f24 f25 f26 f27 f28 f29 f30 f31 fd0 : Addr} (X : K.In h) (G : h.Ns mainGlobals mg) (hfa : mg "law" = some (.ref fa))
    {od1 an1 od2 an2 od3 an3 od4 an4 od5 an5 od6 an6 od7 an7 od8 an8 od9 an9 od10 an10 od11 an11 od12 an12 od13 an13 od14 an14 od15 an15 od16 an16 od17 an17 od18 an18 od19 an19 od20 an20 od21 an21 od22 an22 od23 an23 od24 an24 od25 an25 od26 an26 od27 an27 od28 an28 od29 an29 od30 an30 od31 an31 : Option Addr} {sl1 sl2 sl3 sl4 sl5 sl6 sl7 sl8 sl9 sl10 sl11 sl12 sl13 sl14 sl15 sl16 sl17 sl18 sl19 sl20 sl21 sl22 sl23 sl24 sl25 sl26 sl27 sl28 sl29 sl30 sl31 : Array (Option Value)} {oc1 kV1 dc1 pm1 cd1 ct1 oc2 kV2 dc2 pm2 cd2 ct2 oc3 kV3 dc3 pm3 cd3 ct3 oc4 kV4 dc4 pm4 cd4 ct4 oc5 kV5 dc5 pm5 cd5 ct5 oc6 kV6 dc6 pm6 cd6 ct6 oc7 kV7 dc7 pm7 cd7 ct7 oc8 kV8 dc8 pm8 cd8 ct8 oc9 kV9 dc9 pm9 cd9 ct9 oc10 kV10 dc10 pm10 cd10 ct10 oc11 kV11 dc11 pm11 cd11 ct11 oc12 kV12 dc12 pm12 cd12 ct12 oc13 kV13 dc13 pm13 cd13 ct13 oc14 kV14 dc14 pm14 cd14 ct14 oc15 kV15 dc15 pm15 cd15 ct15 oc16 kV16 dc16 pm16 cd16 ct16 oc17 kV17 dc17 pm17 cd17 ct17 oc18 kV18 dc18 pm18 cd18 ct18 oc19 kV19 dc19 pm19 cd19 ct19 oc20 kV20 dc20 pm20 cd20 ct20 oc21 kV21 dc21 pm21 cd21 ct21 oc22 kV22 dc22 pm22 cd22 ct22 oc23 kV23 dc23 pm23 cd23 ct23 oc24 kV24 dc24 pm24 cd24 ct24 oc25 kV25 dc25 pm25 cd25 ct25 oc26 kV26 dc26 pm26 cd26 ct26 oc27 kV27 dc27 pm27 cd27 ct27 oc28 kV28 dc28 pm28 cd28 ct28 oc29 kV29 dc29 pm29 cd29 ct29 oc30 kV30 dc30 pm30 cd30 ct30 oc31 kV31 dc31 pm31 cd31 ct31 : Value} {t0 t1 t2 t3 : Tok} {es0 : Array DictEntry} {n0 : Nat} {q0 q1 q2 q3 q4 : Tok}
    (a1 : PySem.W.nsIn K mainGlobals "is_value" = some (some (.ref f1))) (l1 : K.lookup f1 = some ⟨oc1, od1, .func (PySem.W.fnOf "is_value" "is_value" (defArgs s_p_is_value) (defBody s_p_is_value) (defScope s_p_is_value) .none kV1 dc1 pm1 an1 cd1 ct1), sl1⟩) (c1 : PySem.W.codeIn K cd1 "is_value" = true) (k1 : PySem.W.keepIn K (.ref f1) = true)
    (a2 : PySem.W.nsIn K mainGlobals "is_deed" = some (some (.ref f2))) (l2 : K.lookup f2 = some ⟨oc2, od2, .func (PySem.W.fnOf "is_deed" "is_deed" (defArgs s_p_is_deed) (defBody s_p_is_deed) (defScope s_p_is_deed) .none kV2 dc2 pm2 an2 cd2 ct2), sl2⟩) (c2 : PySem.W.codeIn K cd2 "is_deed" = true) (k2 : PySem.W.keepIn K (.ref f2) = true)
    (a3 : PySem.W.nsIn K mainGlobals "hand_of" = some (some (.ref f3))) (l3 : K.lookup f3 = some ⟨oc3, od3, .func (PySem.W.fnOf "hand_of" "hand_of" (defArgs s_p_hand_of) (defBody s_p_hand_of) (defScope s_p_hand_of) .none kV3 dc3 pm3 an3 cd3 ct3), sl3⟩) (c3 : PySem.W.codeIn K cd3 "hand_of" = true) (k3 : PySem.W.keepIn K (.ref f3) = true)
    (a4 : PySem.W.nsIn K mainGlobals "sure_of" = some (some (.ref f4))) (l4 : K.lookup f4 = some ⟨oc4, od4, .func (PySem.W.fnOf "sure_of" "sure_of" (defArgs s_p_sure_of) (defBody s_p_sure_of) (defScope s_p_sure_of) .none kV4 dc4 pm4 an4 cd4 ct4), sl4⟩) (c4 : PySem.W.codeIn K cd4 "sure_of" = true) (k4 : PySem.W.keepIn K (.ref f4) = true)
    (a5 : PySem.W.nsIn K mainGlobals "tower_of" = some (some (.ref f5))) (l5 : K.lookup f5 = some ⟨oc5, od5, .func (PySem.W.fnOf "tower_of" "tower_of" (defArgs s_p_tower_of) (defBody s_p_tower_of) (defScope s_p_tower_of) .none kV5 dc5 pm5 an5 cd5 ct5), sl5⟩) (c5 : PySem.W.codeIn K cd5 "tower_of" = true) (k5 : PySem.W.keepIn K (.ref f5) = true)
    (a6 : PySem.W.nsIn K mainGlobals "copied" = some (some (.ref f6))) (l6 : K.lookup f6 = some ⟨oc6, od6, .func (PySem.W.fnOf "copied" "copied" (defArgs s_p_copied) (defBody s_p_copied) (defScope s_p_copied) .none kV6 dc6 pm6 an6 cd6 ct6), sl6⟩) (c6 : PySem.W.codeIn K cd6 "copied" = true) (k6 : PySem.W.keepIn K (.ref f6) = true)
    (a7 : PySem.W.nsIn K mainGlobals "head_of" = some (some (.ref f7))) (l7 : K.lookup f7 = some ⟨oc7, od7, .func (PySem.W.fnOf "head_of" "head_of" (defArgs s_p_head_of) (defBody s_p_head_of) (defScope s_p_head_of) .none kV7 dc7 pm7 an7 cd7 ct7), sl7⟩) (c7 : PySem.W.codeIn K cd7 "head_of" = true) (k7 : PySem.W.keepIn K (.ref f7) = true)
    (a8 : PySem.W.nsIn K mainGlobals "is_still" = some (some (.ref f8))) (l8 : K.lookup f8 = some ⟨oc8, od8, .func (PySem.W.fnOf "is_still" "is_still" (defArgs s_p_is_still) (defBody s_p_is_still) (defScope s_p_is_still) .none kV8 dc8 pm8 an8 cd8 ct8), sl8⟩) (c8 : PySem.W.codeIn K cd8 "is_still" = true) (k8 : PySem.W.keepIn K (.ref f8) = true)
    (a9 : PySem.W.nsIn K mainGlobals "set_head" = some (some (.ref f9))) (l9 : K.lookup f9 = some ⟨oc9, od9, .func (PySem.W.fnOf "set_head" "set_head" (defArgs s_p_set_head) (defBody s_p_set_head) (defScope s_p_set_head) .none kV9 dc9 pm9 an9 cd9 ct9), sl9⟩) (c9 : PySem.W.codeIn K cd9 "set_head" = true) (k9 : PySem.W.keepIn K (.ref f9) = true)
    (a10 : PySem.W.nsIn K mainGlobals "come_to_point" = some (some (.ref f10))) (l10 : K.lookup f10 = some ⟨oc10, od10, .func (PySem.W.fnOf "come_to_point" "come_to_point" (defArgs s_p_come_to_point) (defBody s_p_come_to_point) (defScope s_p_come_to_point) .none kV10 dc10 pm10 an10 cd10 ct10), sl10⟩) (c10 : PySem.W.codeIn K cd10 "come_to_point" = true) (k10 : PySem.W.keepIn K (.ref f10) = true)
    (a11 : PySem.W.nsIn K mainGlobals "next_deed" = some (some (.ref f11))) (l11 : K.lookup f11 = some ⟨oc11, od11, .func (PySem.W.fnOf "next_deed" "next_deed" (defArgs s_p_next_deed) (defBody s_p_next_deed) (defScope s_p_next_deed) .none kV11 dc11 pm11 an11 cd11 ct11), sl11⟩) (c11 : PySem.W.codeIn K cd11 "next_deed" = true) (k11 : PySem.W.keepIn K (.ref f11) = true)
    (a12 : PySem.W.nsIn K mainGlobals "come_to_end" = some (some (.ref f12))) (l12 : K.lookup f12 = some ⟨oc12, od12, .func (PySem.W.fnOf "come_to_end" "come_to_end" (defArgs s_p_come_to_end) (defBody s_p_come_to_end) (defScope s_p_come_to_end) .none kV12 dc12 pm12 an12 cd12 ct12), sl12⟩) (c12 : PySem.W.codeIn K cd12 "come_to_end" = true) (k12 : PySem.W.keepIn K (.ref f12) = true)
    (a13 : PySem.W.nsIn K mainGlobals "step_take" = some (some (.ref f13))) (l13 : K.lookup f13 = some ⟨oc13, od13, .func (PySem.W.fnOf "step_take" "step_take" (defArgs s_p_step_take) (defBody s_p_step_take) (defScope s_p_step_take) .none kV13 dc13 pm13 an13 cd13 ct13), sl13⟩) (c13 : PySem.W.codeIn K cd13 "step_take" = true) (k13 : PySem.W.keepIn K (.ref f13) = true)
    (a14 : PySem.W.nsIn K mainGlobals "step_look" = some (some (.ref f14))) (l14 : K.lookup f14 = some ⟨oc14, od14, .func (PySem.W.fnOf "step_look" "step_look" (defArgs s_p_step_look) (defBody s_p_step_look) (defScope s_p_step_look) .none kV14 dc14 pm14 an14 cd14 ct14), sl14⟩) (c14 : PySem.W.codeIn K cd14 "step_look" = true) (k14 : PySem.W.keepIn K (.ref f14) = true)
    (a15 : PySem.W.nsIn K mainGlobals "step_see" = some (some (.ref f15))) (l15 : K.lookup f15 = some ⟨oc15, od15, .func (PySem.W.fnOf "step_see" "step_see" (defArgs s_p_step_see) (defBody s_p_step_see) (defScope s_p_step_see) .none kV15 dc15 pm15 an15 cd15 ct15), sl15⟩) (c15 : PySem.W.codeIn K cd15 "step_see" = true) (k15 : PySem.W.keepIn K (.ref f15) = true)
    (a16 : PySem.W.nsIn K mainGlobals "step_check" = some (some (.ref f16))) (l16 : K.lookup f16 = some ⟨oc16, od16, .func (PySem.W.fnOf "step_check" "step_check" (defArgs s_p_step_check) (defBody s_p_step_check) (defScope s_p_step_check) .none kV16 dc16 pm16 an16 cd16 ct16), sl16⟩) (c16 : PySem.W.codeIn K cd16 "step_check" = true) (k16 : PySem.W.keepIn K (.ref f16) = true)
    (a17 : PySem.W.nsIn K mainGlobals "step_put" = some (some (.ref f17))) (l17 : K.lookup f17 = some ⟨oc17, od17, .func (PySem.W.fnOf "step_put" "step_put" (defArgs s_p_step_put) (defBody s_p_step_put) (defScope s_p_step_put) .none kV17 dc17 pm17 an17 cd17 ct17), sl17⟩) (c17 : PySem.W.codeIn K cd17 "step_put" = true) (k17 : PySem.W.keepIn K (.ref f17) = true)
    (a18 : PySem.W.nsIn K mainGlobals "step_walk" = some (some (.ref f18))) (l18 : K.lookup f18 = some ⟨oc18, od18, .func (PySem.W.fnOf "step_walk" "step_walk" (defArgs s_p_step_walk) (defBody s_p_step_walk) (defScope s_p_step_walk) .none kV18 dc18 pm18 an18 cd18 ct18), sl18⟩) (c18 : PySem.W.codeIn K cd18 "step_walk" = true) (k18 : PySem.W.keepIn K (.ref f18) = true)
    (a19 : PySem.W.nsIn K mainGlobals "step_of" = some (some (.ref f19))) (l19 : K.lookup f19 = some ⟨oc19, od19, .func (PySem.W.fnOf "step_of" "step_of" (defArgs s_p_step_of) (defBody s_p_step_of) (defScope s_p_step_of) .none kV19 dc19 pm19 an19 cd19 ct19), sl19⟩) (c19 : PySem.W.codeIn K cd19 "step_of" = true) (k19 : PySem.W.keepIn K (.ref f19) = true)
    (a20 : PySem.W.nsIn K mainGlobals "stepped" = some (some (.ref f20))) (l20 : K.lookup f20 = some ⟨oc20, od20, .func (PySem.W.fnOf "stepped" "stepped" (defArgs s_p_stepped) (defBody s_p_stepped) (defScope s_p_stepped) .none kV20 dc20 pm20 an20 cd20 ct20), sl20⟩) (c20 : PySem.W.codeIn K cd20 "stepped" = true) (k20 : PySem.W.keepIn K (.ref f20) = true)
    (a21 : PySem.W.nsIn K mainGlobals "woven" = some (some (.ref f21))) (l21 : K.lookup f21 = some ⟨oc21, od21, .func (PySem.W.fnOf "woven" "woven" (defArgs s_p_woven) (defBody s_p_woven) (defScope s_p_woven) .none kV21 dc21 pm21 an21 cd21 ct21), sl21⟩) (c21 : PySem.W.codeIn K cd21 "woven" = true) (k21 : PySem.W.keepIn K (.ref f21) = true)
    (a22 : PySem.W.nsIn K mainGlobals "_law_mixed" = some (some (.ref f22))) (l22 : K.lookup f22 = some ⟨oc22, od22, .func (PySem.W.fnOf "_law_mixed" "_law_mixed" (defArgs s_mixed) (defBody s_mixed) (defScope s_mixed) .none kV22 dc22 pm22 an22 cd22 ct22), sl22⟩) (c22 : PySem.W.codeIn K cd22 "_law_mixed" = true) (k22 : PySem.W.keepIn K (.ref f22) = true)
    (a23 : PySem.W.nsIn K mainGlobals "_law_cell_at" = some (some (.ref f23))) (l23 : K.lookup f23 = some ⟨oc23, od23, .func (PySem.W.fnOf "_law_cell_at" "_law_cell_at" (defArgs s_cell_at) (defBody s_cell_at) (defScope s_cell_at) .none kV23 dc23 pm23 an23 cd23 ct23), sl23⟩) (c23 : PySem.W.codeIn K cd23 "_law_cell_at" = true) (k23 : PySem.W.keepIn K (.ref f23) = true)
    (a24 : PySem.W.nsIn K mainGlobals "_law_cells" = some (some (.ref f24))) (l24 : K.lookup f24 = some ⟨oc24, od24, .func (PySem.W.fnOf "_law_cells" "_law_cells" (defArgs s_cells) (defBody s_cells) (defScope s_cells) .none kV24 dc24 pm24 an24 cd24 ct24), sl24⟩) (c24 : PySem.W.codeIn K cd24 "_law_cells" = true) (k24 : PySem.W.keepIn K (.ref f24) = true)
    (a25 : PySem.W.nsIn K mainGlobals "_law_value_by" = some (some (.ref f25))) (l25 : K.lookup f25 = some ⟨oc25, od25, .func (PySem.W.fnOf "_law_value_by" "_law_value_by" (defArgs s_value_by) (defBody s_value_by) (defScope s_value_by) .none kV25 dc25 pm25 an25 cd25 ct25), sl25⟩) (c25 : PySem.W.codeIn K cd25 "_law_value_by" = true) (k25 : PySem.W.keepIn K (.ref f25) = true)
    (a26 : PySem.W.nsIn K mainGlobals "_law_deed_by" = some (some (.ref f26))) (l26 : K.lookup f26 = some ⟨oc26, od26, .func (PySem.W.fnOf "_law_deed_by" "_law_deed_by" (defArgs s_deed_by) (defBody s_deed_by) (defScope s_deed_by) .none kV26 dc26 pm26 an26 cd26 ct26), sl26⟩) (c26 : PySem.W.codeIn K cd26 "_law_deed_by" = true) (k26 : PySem.W.keepIn K (.ref f26) = true)
    (a27 : PySem.W.nsIn K mainGlobals "_law_start_by" = some (some (.ref f27))) (l27 : K.lookup f27 = some ⟨oc27, od27, .func (PySem.W.fnOf "_law_start_by" "_law_start_by" (defArgs s_start_by) (defBody s_start_by) (defScope s_start_by) .none kV27 dc27 pm27 an27 cd27 ct27), sl27⟩) (c27 : PySem.W.codeIn K cd27 "_law_start_by" = true) (k27 : PySem.W.keepIn K (.ref f27) = true)
    (a28 : PySem.W.nsIn K mainGlobals "_law_hands_by" = some (some (.ref f28))) (l28 : K.lookup f28 = some ⟨oc28, od28, .func (PySem.W.fnOf "_law_hands_by" "_law_hands_by" (defArgs s_hands_by) (defBody s_hands_by) (defScope s_hands_by) .none kV28 dc28 pm28 an28 cd28 ct28), sl28⟩) (c28 : PySem.W.codeIn K cd28 "_law_hands_by" = true) (k28 : PySem.W.keepIn K (.ref f28) = true)
    (a29 : PySem.W.nsIn K mainGlobals "_law_programs_by" = some (some (.ref f29))) (l29 : K.lookup f29 = some ⟨oc29, od29, .func (PySem.W.fnOf "_law_programs_by" "_law_programs_by" (defArgs s_programs_by) (defBody s_programs_by) (defScope s_programs_by) .none kV29 dc29 pm29 an29 cd29 ct29), sl29⟩) (c29 : PySem.W.codeIn K cd29 "_law_programs_by" = true) (k29 : PySem.W.keepIn K (.ref f29) = true)
    (a30 : PySem.W.nsIn K mainGlobals "_law_weaving_by" = some (some (.ref f30))) (l30 : K.lookup f30 = some ⟨oc30, od30, .func (PySem.W.fnOf "_law_weaving_by" "_law_weaving_by" (defArgs s_weaving_by) (defBody s_weaving_by) (defScope s_weaving_by) .none kV30 dc30 pm30 an30 cd30 ct30), sl30⟩) (c30 : PySem.W.codeIn K cd30 "_law_weaving_by" = true) (k30 : PySem.W.keepIn K (.ref f30) = true)
    (a31 : PySem.W.nsIn K mainGlobals "law" = some (some (.ref f31))) (l31 : K.lookup f31 = some ⟨oc31, od31, .func (PySem.W.fnOf "law" "law" (defArgs s_law_k09) (defBody s_law_k09) (defScope s_law_k09) .none kV31 dc31 pm31 an31 cd31 ct31), sl31⟩) (c31 : PySem.W.codeIn K cd31 "law" = true) (k31 : PySem.W.keepIn K (.ref f31) = true)
    (z0 : PySem.W.nsIn K mainGlobals "len" = some none)
    (z1 : PySem.W.nsIn K mainGlobals "isinstance" = some none)
    (z2 : PySem.W.nsIn K mainGlobals "int" = some none)
    (z3 : PySem.W.nsIn K mainGlobals "bool" = some none)
    (z4 : PySem.W.nsIn K mainGlobals "str" = some none)
    (z5 : PySem.W.nsIn K mainGlobals "tuple" = some none)
    (z6 : PySem.W.nsIn K mainGlobals "list" = some none)
    (z7 : PySem.W.nsIn K mainGlobals "range" = some none)
    (z8 : PySem.W.nsIn K mainGlobals "min" = some none)
    (z9 : PySem.W.nsIn K mainGlobals "max" = some none)
    (z10 : PySem.W.nsIn K mainGlobals "any" = some none)
    (z11 : PySem.W.nsIn K mainGlobals "enumerate" = some none)
    (z12 : PySem.W.nsIn K mainGlobals "zip" = some none)
    (z13 : PySem.W.nsIn K mainGlobals "dict" = some none)
    (z14 : PySem.W.nsIn K mainGlobals "sorted" = some none)
    (y0 : PySem.W.nsIn K mainGlobals "MOST_VALUES" = some (some (.int 60 t0)))
    (y1 : PySem.W.nsIn K mainGlobals "MOST_HANDS" = some (some (.int 20 t1)))
    (y2 : PySem.W.nsIn K mainGlobals "MOST_DEEDS" = some (some (.int 60 t2)))
    (y3 : PySem.W.nsIn K mainGlobals "MOST_STEPS" = some (some (.int 2000 t3)))
    (u0 : PySem.W.nsIn K mainGlobals "FIRST" = some (some (.ref fd0)))
    (u1 : K.lookup fd0 = some ⟨.type "dict", none, .dict es0 n0, #[]⟩)
    (u2 : PySem.W.KeysLit w.params es0.toList)
    (v0 : PySem.W.nsIn K fd0 "push" = some (some (.str "take" q0)))
    (v1 : PySem.W.nsIn K fd0 "swap" = some (some (.str "take" q1)))
    (v2 : PySem.W.nsIn K fd0 "pop" = some (some (.str "look" q2)))
    (v3 : PySem.W.nsIn K fd0 "top" = some (some (.str "look" q3)))
    (v4 : PySem.W.nsIn K fd0 "clear" = some (some (.str "look" q4)))
    : ∃ fd : FuncData, (∀ (s : Shared) (u : Value), BindsTo s fd ⟨[u], []⟩ [("_law_script", u)]) ∧ ∀ base : Heap, K.In base → base.Ns mainGlobals mg → FnOk P0 w K mg base CX0 7 fa fd ["_law_script"] (spLaw K) := by
  have e := hfa.symm.trans (PySem.W.mg_of X G a31)
  cases e
  have B : Bas ksL glL dtL w K mg := ⟨by decide +kernel, by decide +kernel, fun x hx => by
    have hx : x ∈ (["len", "isinstance", "int", "bool", "str", "tuple", "list", "range", "min", "max", "any", "enumerate", "zip", "dict", "sorted"] : List Str) := hx
    simp only [List.mem_cons, List.not_mem_nil, or_false] at hx
    rcases hx with rfl | rfl | rfl | rfl | rfl | rfl | rfl | rfl | rfl | rfl | rfl | rfl | rfl | rfl | rfl
    · exact PySem.W.mg_none_of X G z0
    · exact PySem.W.mg_none_of X G z1
    · exact PySem.W.mg_none_of X G z2
    · exact PySem.W.mg_none_of X G z3
    · exact PySem.W.mg_none_of X G z4
    · exact PySem.W.mg_none_of X G z5
    · exact PySem.W.mg_none_of X G z6
    · exact PySem.W.mg_none_of X G z7
    · exact PySem.W.mg_none_of X G z8
    · exact PySem.W.mg_none_of X G z9
    · exact PySem.W.mg_none_of X G z10
    · exact PySem.W.mg_none_of X G z11
    · exact PySem.W.mg_none_of X G z12
    · exact PySem.W.mg_none_of X G z13
    · exact PySem.W.mg_none_of X G z14, fun i x e => by
    match i, e with
    | 0, e => cases e; exact ⟨t0, PySem.W.mg_of X G y0⟩
    | 1, e => cases e; exact ⟨t1, PySem.W.mg_of X G y1⟩
    | 2, e => cases e; exact ⟨t2, PySem.W.mg_of X G y2⟩
    | 3, e => cases e; exact ⟨t3, PySem.W.mg_of X G y3⟩
    | i + 4, e => simp at e, fun i x e => by
    match i, e with
    | 0, e =>
      cases e
      refine ⟨fd0, PySem.W.mg_of X G u0, fun kk vv hl kx hkx => ?_⟩
      have hl : List.lookup kk [(0, 8), (1, 8), (2, 9), (3, 9), (4, 9)] = some vv := hl
      simp only [List.lookup] at hl
      split at hl
      · rename_i hk; cases hl; rw [beq_iff_eq.mp hk] at hkx; cases hkx; exact ⟨_, rfl, es0, n0, _, u1, u2, v0, ⟨_, rfl⟩⟩
      split at hl
      · rename_i hk; cases hl; rw [beq_iff_eq.mp hk] at hkx; cases hkx; exact ⟨_, rfl, es0, n0, _, u1, u2, v1, ⟨_, rfl⟩⟩
      split at hl
      · rename_i hk; cases hl; rw [beq_iff_eq.mp hk] at hkx; cases hkx; exact ⟨_, rfl, es0, n0, _, u1, u2, v2, ⟨_, rfl⟩⟩
      split at hl
      · rename_i hk; cases hl; rw [beq_iff_eq.mp hk] at hkx; cases hkx; exact ⟨_, rfl, es0, n0, _, u1, u2, v3, ⟨_, rfl⟩⟩
      split at hl
      · rename_i hk; cases hl; rw [beq_iff_eq.mp hk] at hkx; cases hkx; exact ⟨_, rfl, es0, n0, _, u1, u2, v4, ⟨_, rfl⟩⟩
      cases hl
    | i + 1, e => simp at e⟩
  have F1 := fun_mk (st := s_p_is_value) l1 c1 k1
  have F2 := fun_mk (st := s_p_is_deed) l2 c2 k2
  have F3 := fun_mk (st := s_p_hand_of) l3 c3 k3
  have F4 := fun_mk (st := s_p_sure_of) l4 c4 k4
  have F5 := fun_mk (st := s_p_tower_of) l5 c5 k5
  have F6 := fun_mk (st := s_p_copied) l6 c6 k6
  have F7 := fun_mk (st := s_p_head_of) l7 c7 k7
  have F8 := fun_mk (st := s_p_is_still) l8 c8 k8
  have F9 := fun_mk (st := s_p_set_head) l9 c9 k9
  have F10 := fun_mk (st := s_p_come_to_point) l10 c10 k10
  have F11 := fun_mk (st := s_p_next_deed) l11 c11 k11
  have F12 := fun_mk (st := s_p_come_to_end) l12 c12 k12
  have F13 := fun_mk (st := s_p_step_take) l13 c13 k13
  have F14 := fun_mk (st := s_p_step_look) l14 c14 k14
  have F15 := fun_mk (st := s_p_step_see) l15 c15 k15
  have F16 := fun_mk (st := s_p_step_check) l16 c16 k16
  have F17 := fun_mk (st := s_p_step_put) l17 c17 k17
  have F18 := fun_mk (st := s_p_step_walk) l18 c18 k18
  have F19 := fun_mk (st := s_p_step_of) l19 c19 k19
  have F20 := fun_mk (st := s_p_stepped) l20 c20 k20
  have F21 := fun_mk (st := s_p_woven) l21 c21 k21
  have F22 := fun_mk (st := s_mixed) l22 c22 k22
  have F23 := fun_mk (st := s_cell_at) l23 c23 k23
  have F24 := fun_mk (st := s_cells) l24 c24 k24
  have F25 := fun_mk (st := s_value_by) l25 c25 k25
  have F26 := fun_mk (st := s_deed_by) l26 c26 k26
  have F27 := fun_mk (st := s_start_by) l27 c27 k27
  have F28 := fun_mk (st := s_hands_by) l28 c28 k28
  have F29 := fun_mk (st := s_programs_by) l29 c29 k29
  have F30 := fun_mk (st := s_weaving_by) l30 c30 k30
  have F31 := fun_mk (st := s_law_k09) l31 c31 k31
  refine ⟨PySem.W.fnOf "law" "law" (defArgs s_law_k09) (defBody s_law_k09) (defScope s_law_k09) .none kV31 dc31 pm31 an31 cd31 ct31, fun s u => .of_eq rfl, fun base _ _ => law_fn (ks := ksL) ?_⟩
  have C1 : Cal ksL P0 w K mg base "is_value" S_p_is_value 1 := cal_p_is_value (k := 0) B .nil F1 (PySem.W.mg_of X G a1)
  have C2 : Cal ksL P0 w K mg base "is_deed" S_p_is_deed 2 := cal_p_is_deed (k := 1) B (.cons (C1.up (by decide)) .nil) F2 (PySem.W.mg_of X G a2)
  have C3 : Cal ksL P0 w K mg base "hand_of" S_p_hand_of 1 := cal_p_hand_of (k := 0) B .nil F3 (PySem.W.mg_of X G a3)
  have C4 : Cal ksL P0 w K mg base "sure_of" S_p_sure_of 3 := cal_p_sure_of (k := 2) B (.cons (C1.up (by decide)) (.cons (C2.up (by decide)) .nil)) F4 (PySem.W.mg_of X G a4)
  have C5 : Cal ksL P0 w K mg base "tower_of" S_p_tower_of 4 := cal_p_tower_of (k := 3) B (.cons (C4.up (by decide)) (.cons (C3.up (by decide)) .nil)) F5 (PySem.W.mg_of X G a5)
  have C6 : Cal ksL P0 w K mg base "copied" S_p_copied 1 := cal_p_copied (k := 0) B .nil F6 (PySem.W.mg_of X G a6)
  have C7 : Cal ksL P0 w K mg base "head_of" S_p_head_of 1 := cal_p_head_of (k := 0) B .nil F7 (PySem.W.mg_of X G a7)
  have C8 : Cal ksL P0 w K mg base "is_still" S_p_is_still 1 := cal_p_is_still (k := 0) B .nil F8 (PySem.W.mg_of X G a8)
  have C9 : Cal ksL P0 w K mg base "set_head" S_p_set_head 1 := cal_p_set_head (k := 0) B .nil F9 (PySem.W.mg_of X G a9)
  have C10 : Cal ksL P0 w K mg base "come_to_point" S_p_come_to_point 1 := cal_p_come_to_point (k := 0) B .nil F10 (PySem.W.mg_of X G a10)
  have C11 : Cal ksL P0 w K mg base "next_deed" S_p_next_deed 1 := cal_p_next_deed (k := 0) B .nil F11 (PySem.W.mg_of X G a11)
  have C12 : Cal ksL P0 w K mg base "come_to_end" S_p_come_to_end 2 := cal_p_come_to_end (k := 1) B (.cons (C10.up (by decide)) (.cons (C11.up (by decide)) .nil)) F12 (PySem.W.mg_of X G a12)
  have C13 : Cal ksL P0 w K mg base "step_take" S_p_step_take 1 := cal_p_step_take (k := 0) B .nil F13 (PySem.W.mg_of X G a13)
  have C14 : Cal ksL P0 w K mg base "step_look" S_p_step_look 3 := cal_p_step_look (k := 2) B (.cons (C12.up (by decide)) .nil) F14 (PySem.W.mg_of X G a14)
  have C15 : Cal ksL P0 w K mg base "step_see" S_p_step_see 1 := cal_p_step_see (k := 0) B .nil F15 (PySem.W.mg_of X G a15)
  have C16 : Cal ksL P0 w K mg base "step_check" S_p_step_check 3 := cal_p_step_check (k := 2) B (.cons (C8.up (by decide)) (.cons (C12.up (by decide)) .nil)) F16 (PySem.W.mg_of X G a16)
  have C17 : Cal ksL P0 w K mg base "step_put" S_p_step_put 3 := cal_p_step_put (k := 2) B (.cons (C8.up (by decide)) (.cons (C9.up (by decide)) (.cons (C12.up (by decide)) (.cons (C10.up (by decide)) .nil)))) F17 (PySem.W.mg_of X G a17)
  have C18 : Cal ksL P0 w K mg base "step_walk" S_p_step_walk 2 := cal_p_step_walk (k := 1) B (.cons (C11.up (by decide)) .nil) F18 (PySem.W.mg_of X G a18)
  have C19 : Cal ksL P0 w K mg base "step_of" S_p_step_of 4 := cal_p_step_of (k := 3) B (.cons (C18.up (by decide)) (.cons (C13.up (by decide)) (.cons (C14.up (by decide)) (.cons (C15.up (by decide)) (.cons (C16.up (by decide)) (.cons (C17.up (by decide)) .nil)))))) F19 (PySem.W.mg_of X G a19)
  have C20 : Cal ksL P0 w K mg base "stepped" S_p_stepped 5 := cal_p_stepped (k := 4) B (.cons (C6.up (by decide)) (.cons (C19.up (by decide)) .nil)) F20 (PySem.W.mg_of X G a20)
  have C21 : Cal ksL P0 w K mg base "woven" S_p_woven 6 := cal_p_woven (k := 5) B (.cons (C5.up (by decide)) (.cons (C20.up (by decide)) .nil)) F21 (PySem.W.mg_of X G a21)
  have C22 : Cal ksL P0 w K mg base "_law_mixed" S_mixed 1 := cal_mixed (k := 0) B .nil F22 (PySem.W.mg_of X G a22)
  have C23 : Cal ksL P0 w K mg base "_law_cell_at" S_cell_at 2 := cal_cell_at (k := 1) B (.cons (C22.up (by decide)) .nil) F23 (PySem.W.mg_of X G a23)
  have C24 : Cal ksL P0 w K mg base "_law_cells" S_cells 2 := cal_cells (k := 1) B (.cons (C22.up (by decide)) .nil) F24 (PySem.W.mg_of X G a24)
  have C25 : Cal ksL P0 w K mg base "_law_value_by" S_value_by 1 := cal_value_by (k := 0) B .nil F25 (PySem.W.mg_of X G a25)
  have C26 : Cal ksL P0 w K mg base "_law_deed_by" S_deed_by 2 := cal_deed_by (k := 1) B (.cons (C25.up (by decide)) .nil) F26 (PySem.W.mg_of X G a26)
  have C27 : Cal ksL P0 w K mg base "_law_start_by" S_start_by 2 := cal_start_by (k := 1) B (.cons (C25.up (by decide)) (.cons (C22.up (by decide)) .nil)) F27 (PySem.W.mg_of X G a27)
  have C28 : Cal ksL P0 w K mg base "_law_hands_by" S_hands_by 1 := cal_hands_by (k := 0) B .nil F28 (PySem.W.mg_of X G a28)
  have C29 : Cal ksL P0 w K mg base "_law_programs_by" S_programs_by 3 := cal_programs_by (k := 2) B (.cons (C24.up (by decide)) (.cons (C26.up (by decide)) .nil)) F29 (PySem.W.mg_of X G a29)
  have C30 : Cal ksL P0 w K mg base "_law_weaving_by" S_weaving_by 3 := cal_weaving_by (k := 2) B (.cons (C24.up (by decide)) .nil) F30 (PySem.W.mg_of X G a30)
  exact law_ok (k := 6) B (.cons (C28.up (by decide)) (.cons (C27.up (by decide)) (.cons (C30.up (by decide)) (.cons (C21.up (by decide)) (.cons (C23.up (by decide)) (.cons (C29.up (by decide)) (.cons (C7.up (by decide)) .nil))))))) F31
end DW
open PySem PySem.W PyProof.Rows in
set_option maxRecDepth 100000 in
set_option maxHeartbeats 0 in
theorem PySem.Challenge.cw_swaptower_k09_marks_grow_holds : PySem.Challenge.rw_swaptower_k09_marks_grow.Holds := by
  w_on; o_law; k_head; (case hw => w_witness2)
  k_fill
  refine DW.law_walk (l := PySem.Challenge.rw_swaptower_k09_marks_grow) (k := 7) ⟨rfl, by decide, by decide⟩ rfl rfl (fun w h Y => PySem.W.kIn_of Y) ?F
  case F =>
    intro w mg fa h KX G hmg
    refine' DW.all_mk KX G hmg ?a1 ?l1 ?c1 ?k1 ?a2 ?l2 ?c2 ?k2 ?a3 ?l3 ?c3 ?k3 ?a4 ?l4 ?c4 ?k4 ?a5 ?l5 ?c5 ?k5 ?a6 ?l6 ?c6 ?k6 ?a7 ?l7 ?c7 ?k7 ?a8 ?l8 ?c8 ?k8 ?a9 ?l9 ?c9 ?k9 ?a10 ?l10 ?c10 ?k10 ?a11 ?l11 ?c11 ?k11 ?a12 ?l12 ?c12 ?k12 ?a13 ?l13 ?c13 ?k13 ?a14 ?l14 ?c14 ?k14 ?a15 ?l15 ?c15 ?k15 ?a16 ?l16 ?c16 ?k16 ?a17 ?l17 ?c17 ?k17 ?a18 ?l18 ?c18 ?k18 ?a19 ?l19 ?c19 ?k19 ?a20 ?l20 ?c20 ?k20 ?a21 ?l21 ?c21 ?k21 ?a22 ?l22 ?c22 ?k22 ?a23 ?l23 ?c23 ?k23 ?a24 ?l24 ?c24 ?k24 ?a25 ?l25 ?c25 ?k25 ?a26 ?l26 ?c26 ?k26 ?a27 ?l27 ?c27 ?k27 ?a28 ?l28 ?c28 ?k28 ?a29 ?l29 ?c29 ?k29 ?a30 ?l30 ?c30 ?k30 ?a31 ?l31 ?c31 ?k31 ?z0 ?z1 ?z2 ?z3 ?z4 ?z5 ?z6 ?z7 ?z8 ?z9 ?z10 ?z11 ?z12 ?z13 ?z14 ?y0 ?y1 ?y2 ?y3 ?u0 ?u1 ?u2 ?v0 ?v1 ?v2 ?v3 ?v4
    (case a1 => k_is)
    (case l1 => k_is)
    (case c1 => k_is)
    (case k1 => k_is)
    (case a2 => k_is)
    (case l2 => k_is)
    (case c2 => k_is)
    (case k2 => k_is)
    (case a3 => k_is)
    (case l3 => k_is)
    (case c3 => k_is)
    (case k3 => k_is)
    (case a4 => k_is)
    (case l4 => k_is)
    (case c4 => k_is)
    (case k4 => k_is)
    (case a5 => k_is)
    (case l5 => k_is)
    (case c5 => k_is)
    (case k5 => k_is)
    (case a6 => k_is)
    (case l6 => k_is)
    (case c6 => k_is)
    (case k6 => k_is)
    (case a7 => k_is)
    (case l7 => k_is)
    (case c7 => k_is)
    (case k7 => k_is)
    (case a8 => k_is)
    (case l8 => k_is)
    (case c8 => k_is)
    (case k8 => k_is)
    (case a9 => k_is)
    (case l9 => k_is)
    (case c9 => k_is)
    (case k9 => k_is)
    (case a10 => k_is)
    (case l10 => k_is)
    (case c10 => k_is)
    (case k10 => k_is)
    (case a11 => k_is)
    (case l11 => k_is)
    (case c11 => k_is)
    (case k11 => k_is)
    (case a12 => k_is)
    (case l12 => k_is)
    (case c12 => k_is)
    (case k12 => k_is)
    (case a13 => k_is)
    (case l13 => k_is)
    (case c13 => k_is)
    (case k13 => k_is)
    (case a14 => k_is)
    (case l14 => k_is)
    (case c14 => k_is)
    (case k14 => k_is)
    (case a15 => k_is)
    (case l15 => k_is)
    (case c15 => k_is)
    (case k15 => k_is)
    (case a16 => k_is)
    (case l16 => k_is)
    (case c16 => k_is)
    (case k16 => k_is)
    (case a17 => k_is)
    (case l17 => k_is)
    (case c17 => k_is)
    (case k17 => k_is)
    (case a18 => k_is)
    (case l18 => k_is)
    (case c18 => k_is)
    (case k18 => k_is)
    (case a19 => k_is)
    (case l19 => k_is)
    (case c19 => k_is)
    (case k19 => k_is)
    (case a20 => k_is)
    (case l20 => k_is)
    (case c20 => k_is)
    (case k20 => k_is)
    (case a21 => k_is)
    (case l21 => k_is)
    (case c21 => k_is)
    (case k21 => k_is)
    (case a22 => k_is)
    (case l22 => k_is)
    (case c22 => k_is)
    (case k22 => k_is)
    (case a23 => k_is)
    (case l23 => k_is)
    (case c23 => k_is)
    (case k23 => k_is)
    (case a24 => k_is)
    (case l24 => k_is)
    (case c24 => k_is)
    (case k24 => k_is)
    (case a25 => k_is)
    (case l25 => k_is)
    (case c25 => k_is)
    (case k25 => k_is)
    (case a26 => k_is)
    (case l26 => k_is)
    (case c26 => k_is)
    (case k26 => k_is)
    (case a27 => k_is)
    (case l27 => k_is)
    (case c27 => k_is)
    (case k27 => k_is)
    (case a28 => k_is)
    (case l28 => k_is)
    (case c28 => k_is)
    (case k28 => k_is)
    (case a29 => k_is)
    (case l29 => k_is)
    (case c29 => k_is)
    (case k29 => k_is)
    (case a30 => k_is)
    (case l30 => k_is)
    (case c30 => k_is)
    (case k30 => k_is)
    (case a31 => k_is)
    (case l31 => k_is)
    (case c31 => k_is)
    (case k31 => k_is)
    (case z0 => k_is)
    (case z1 => k_is)
    (case z2 => k_is)
    (case z3 => k_is)
    (case z4 => k_is)
    (case z5 => k_is)
    (case z6 => k_is)
    (case z7 => k_is)
    (case z8 => k_is)
    (case z9 => k_is)
    (case z10 => k_is)
    (case z11 => k_is)
    (case z12 => k_is)
    (case z13 => k_is)
    (case z14 => k_is)
    (case y0 => k_is)
    (case y1 => k_is)
    (case y2 => k_is)
    (case y3 => k_is)
    (case u0 => k_is)
    (case u1 => k_is)
    (case u2 => exact ⟨⟨_, _, rfl, rfl⟩, ⟨_, _, rfl, rfl⟩, ⟨_, _, rfl, rfl⟩, ⟨_, _, rfl, rfl⟩, ⟨_, _, rfl, rfl⟩, True.intro⟩)
    (case v0 => k_is)
    (case v1 => k_is)
    (case v2 => k_is)
    (case v3 => k_is)
    (case v4 => k_is)
