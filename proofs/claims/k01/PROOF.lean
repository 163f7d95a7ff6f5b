import PyProof.Rows.All
import Wide.All
import OpenK.AllK
import Wide.FinOn
import HandS.ForMost
import HandS.Wide
import HandS.IsInst
import HandS.Conv
import HandS.Deep
import HandS.HotCalls
import HandS.ExcCtx
import HandS.SortKw
import KE.SortKeyHeap
import HandS.ExcValue
import HandS.Keys
import KE.GoesZip
import KE.GoesMore
import KE.KDictZip
import HandS.Zip
import HandS.Style
import HandS.SortInts
import HandS.SetFor
import HandS.More
import HandS.ExcIs
import PySem.Challenge.RW_swaptower_k01_deeds_played
import KE.RegKIsAll
/-! ## DW1.lean -/
set_option Elab.async false
set_option linter.all false
set_option maxRecDepth 100000
set_option maxHeartbeats 2000000
/-! DW1: plain data, own cells, and how they lie in the abstract heap. -/
namespace DW
open PySem PySem.Spec L2
open PyProof.Rows hiding St

/-- plain data; texts by their number in a table -/
inductive D where
  | non | bl (b : Bool) | int (i : Int) | str (k : Nat) | lst (ds : List D) | tup (ds : List D) | dic (kds : List (Nat × D)) | scr (ns : List Int)
  deriving Inhabited
/-- a value: data that nobody changes, or one of one's own objects -/
inductive Rv where
  | dat (d : D) | ref (c : Nat)
  deriving Inhabited
/-- one's own object: a list, a dict, or one that nobody changes any more -/
inductive Cell where
  | lst (rs : List Rv) | dic (krs : List (Nat × Rv)) | fz (d : D) | dead
  deriving Inhabited

/-- the words of the text, and what its top has written -/
structure Kt where
  w : List Str
  K : PySem.W.Frag
/-- two lists of one length, item by item -/
inductive All2 {α β : Type} (R : α → β → Prop) : List α → List β → Prop
  | nil : All2 R [] []
  | cons {a : α} {b : β} {l : List α} {m : List β} : R a b → All2 R l m → All2 R (a :: l) (b :: m)
section
variable {α β γ : Type} {R S : α → β → Prop}
theorem All2.length {l : List α} {m : List β} (h : All2 R l m) : l.length = m.length := by
  induction h with
  | nil => rfl
  | cons _ _ ih => simp [ih]
theorem All2.imp {l : List α} {m : List β} (f : ∀ a b, R a b → S a b) (h : All2 R l m) : All2 S l m := by
  induction h with
  | nil => exact .nil
  | cons a _ ih => exact .cons (f _ _ a) ih
theorem All2.append {l l' : List α} {m m' : List β} (h : All2 R l m) (h' : All2 R l' m') : All2 R (l ++ l') (m ++ m') := by
  induction h with
  | nil => exact h'
  | cons a _ ih => exact .cons a ih
theorem All2.get : ∀ {l : List α} {m : List β} {i : Nat} {b : β}, All2 R l m → m[i]? = some b → ∃ a, l[i]? = some a ∧ R a b
  | _, _, _, _, .nil, e => by simp at e
  | _, _, 0, _, .cons r _, e => by simp at e; subst e; exact ⟨_, rfl, r⟩
  | _, _, i + 1, b, .cons _ t, e => by
    obtain ⟨a, h1, h2⟩ := All2.get (i := i) t (by simpa using e)
    exact ⟨a, by simpa using h1, h2⟩
theorem All2.get' : ∀ {l : List α} {m : List β} {i : Nat} {a : α}, All2 R l m → l[i]? = some a → ∃ b, m[i]? = some b ∧ R a b
  | _, _, _, _, .nil, e => by simp at e
  | _, _, 0, _, .cons r _, e => by simp at e; subst e; exact ⟨_, rfl, r⟩
  | _, _, i + 1, b, .cons _ t, e => by
    obtain ⟨a, h1, h2⟩ := All2.get' (i := i) t (by simpa using e)
    exact ⟨a, by simpa using h1, h2⟩
theorem All2.set {a : α} {b : β} (r : R a b) : ∀ {l : List α} {m : List β} (i : Nat), All2 R l m → All2 R (l.set i a) (m.set i b)
  | _, _, _, .nil => .nil
  | _, _, 0, .cons _ t => .cons r t
  | _, _, i + 1, .cons q t => .cons q (All2.set r i t)
theorem All2.drop : ∀ {l : List α} {m : List β} (n : Nat), All2 R l m → All2 R (l.drop n) (m.drop n)
  | _, _, 0, r => r
  | _, _, _ + 1, .nil => .nil
  | _, _, n + 1, .cons _ t => All2.drop n t
theorem All2.take : ∀ {l : List α} {m : List β} (n : Nat), All2 R l m → All2 R (l.take n) (m.take n)
  | _, _, 0, _ => .nil
  | _, _, _ + 1, .nil => .nil
  | _, _, n + 1, .cons r t => .cons r (All2.take n t)
theorem All2.dropLast {l : List α} {m : List β} (h : All2 R l m) : All2 R l.dropLast m.dropLast := by
  rw [List.dropLast_eq_take, List.dropLast_eq_take, h.length]
  exact h.take _
theorem All2.eraseIdx : ∀ {l : List α} {m : List β} (n : Nat), All2 R l m → All2 R (l.eraseIdx n) (m.eraseIdx n)
  | _, _, _, .nil => .nil
  | _, _, 0, .cons _ t => t
  | _, _, n + 1, .cons r t => .cons r (All2.eraseIdx n t)
theorem All2.reverse {l : List α} {m : List β} (h : All2 R l m) : All2 R l.reverse m.reverse := by
  induction h with
  | nil => exact .nil
  | cons a _ ih => rw [List.reverse_cons, List.reverse_cons]; exact ih.append (.cons a .nil)
theorem All2.mapR {f : β → γ} {S : α → γ → Prop} (g : ∀ a b, R a b → S a (f b)) {l : List α} {m : List β} (h : All2 R l m) : All2 S l (m.map f) := by
  induction h with
  | nil => exact .nil
  | cons a _ ih => exact .cons (g _ _ a) ih
theorem All2.of_mapR {f : β → γ} {S : α → γ → Prop} (g : ∀ a b, S a (f b) → R a b) : ∀ {l : List α} {m : List β}, All2 S l (m.map f) → All2 R l m
  | [], [], _ => .nil
  | [], _ :: _, h => by cases h
  | _ :: _, [], h => by cases h
  | _ :: _, _ :: _, .cons a t => .cons (g _ _ a) (All2.of_mapR g t)
theorem All2.nil_left {m : List β} (h : All2 R [] m) : m = [] := by cases h; rfl
end

section
variable (ks : Kt) (F : Hp)
mutual
/-- the value v is the datum d; all its objects stand in F -/
inductive At : V → D → Prop
  | non : At .non .non
  | bl (b : Bool) : At (.bl b) (.bl b)
  | int (i : Int) : At (.int i) (.int i)
  | str {k : Nat} {x : Str} (h : ks.w[k]? = some x) : At (.str x) (.str k)
  | lst {a : Addr} {xs : List V} {ds : List D} : F a = some (.lst xs) → Ats xs ds → At (.ref a) (.lst ds)
  | tup {a : Addr} {xs : List V} {ds : List D} : F a = some (.tup xs) → Ats xs ds → At (.ref a) (.tup ds)
  | dic {a : Addr} {kvs : List (Key × V)} {kds : List (Nat × D)} : F a = some (.dK kvs) → Atk kvs kds → At (.ref a) (.dic kds)
  | scr {a : Addr} {ns : List Int} : SqL ks.K F a (ns.map V.int) → At (.ref a) (.scr ns)
inductive Ats : List V → List D → Prop
  | nil : Ats [] []
  | cons {v : V} {d : D} {vs : List V} {ds : List D} : At v d → Ats vs ds → Ats (v :: vs) (d :: ds)
inductive Atk : List (Key × V) → List (Nat × D) → Prop
  | nil : Atk [] []
  | cons {k : Nat} {x : Str} {v : V} {d : D} {r : List (Key × V)} {s : List (Nat × D)} : ks.w[k]? = some x → At v d → Atk r s → Atk ((.inr x, v) :: r) ((k, d) :: s)
end
end

section
variable {ks : Kt} {F F' : Hp}
mutual
theorem At.mono (h : Same F F') : ∀ {v : V} {d : D}, At ks F v d → At ks F' v d
  | _, _, .non => .non
  | _, _, .bl b => .bl b
  | _, _, .int i => .int i
  | _, _, .str e => .str e
  | _, _, .lst e s => .lst (h _ _ e) (Ats.mono h s)
  | _, _, .tup e s => .tup (h _ _ e) (Ats.mono h s)
  | _, _, .dic e s => .dic (h _ _ e) (Atk.mono h s)
  | _, _, .scr e => .scr (h.seq e)
theorem Ats.mono (h : Same F F') : ∀ {v : List V} {d : List D}, Ats ks F v d → Ats ks F' v d
  | _, _, .nil => .nil
  | _, _, .cons a s => .cons (At.mono h a) (Ats.mono h s)
theorem Atk.mono (h : Same F F') : ∀ {v : List (Key × V)} {d : List (Nat × D)}, Atk ks F v d → Atk ks F' v d
  | _, _, .nil => .nil
  | _, _, .cons e a s => .cons e (At.mono h a) (Atk.mono h s)
end
theorem Ats.all2 : ∀ {v : List V} {d : List D}, Ats ks F v d → All2 (At ks F) v d
  | _, _, .nil => .nil
  | _, _, .cons a s => .cons a (Ats.all2 s)
theorem Ats.of_all2 : ∀ {v : List V} {d : List D}, All2 (At ks F) v d → Ats ks F v d
  | _, _, .nil => .nil
  | _, _, .cons a s => .cons a (Ats.of_all2 s)
end

/-! ### the entry of a def, its own cells -/
/-- what stood at the entry: the data, the heap, the caller's own objects -/
structure Ent where
  F : Hp
  H : Hp
  A : Addr → Prop
structure Ch (C : Ent) (F H : Hp) : Prop where
  ff : Same C.F F
  fh : Same F H
  hh : ∀ b o, C.H b = some o → ¬ C.A b → H b = some o
  nw : ∀ b, C.F b = none → C.H b ≠ none → ¬ C.A b → F b = none
def RvOk (ks : Kt) (F : Hp) (κ : List Addr) (v : V) : Rv → Prop
  | .dat d => At ks F v d
  | .ref c => ∃ a, κ[c]? = some a ∧ v = .ref a
def KvOk (ks : Kt) (F : Hp) (κ : List Addr) (p : Key × V) (q : Nat × Rv) : Prop := (∃ x, ks.w[q.1]? = some x ∧ p.1 = .inr x) ∧ RvOk ks F κ p.2 q.2
def CellOk (ks : Kt) (F H : Hp) (κ : List Addr) (W : Addr → Prop) (a : Addr) : Cell → Prop
  | .lst rs => F a = none ∧ W a ∧ ∃ xs, H a = some (.lst xs) ∧ All2 (RvOk ks F κ) xs rs
  | .dic krs => F a = none ∧ W a ∧ ∃ kvs, H a = some (.dK kvs) ∧ All2 (KvOk ks F κ) kvs krs
  | .fz d => At ks F (.ref a) d
  | .dead => True
structure GOk (ks : Kt) (F H : Hp) (κ : List Addr) (W : Addr → Prop) (g : List Cell) : Prop where
  len : κ.length = g.length
  cells : ∀ (c : Nat) (cell : Cell) (a : Addr), g[c]? = some cell → κ[c]? = some a → CellOk ks F H κ W a cell
  nd : κ.Nodup
  live : ∀ a ∈ κ, H a ≠ none
  wf : ∀ a ∈ κ, W a ∨ F a ≠ none
abbrev En := List (Option Rv)
set_option autoImplicit false
structure Ok (ks : Kt) (C : Ent) (σ : St) (F H : Hp) (κ : List Addr) (env : En) (g : List Cell) : Prop where
  g : GOk ks F H κ (fun a => C.A a ∨ C.H a = none) g
  ch : Ch C F H
  len : σ.length = env.length
  env : ∀ (i : Nat) (r : Rv), env[i]? = some (some r) → ∃ v, σ[i]? = some (some v) ∧ RvOk ks F κ v r
/-- addresses are added at the end -/
def Pre (κ κ' : List Addr) : Prop := ∀ (c : Nat) (a : Addr), κ[c]? = some a → κ'[c]? = some a
theorem Pre.refl (κ : List Addr) : Pre κ κ := fun _ _ h => h
theorem Pre.trans {a b c : List Addr} (h : Pre a b) (h' : Pre b c) : Pre a c := fun i x e => h' i x (h i x e)
theorem Pre.app (κ l : List Addr) : Pre κ (κ ++ l) := fun c a e => by
  rw [List.getElem?_append_left (List.getElem?_eq_some_iff.mp e).1]
  exact e
section
variable {ks : Kt} {F F' H H' : Hp} {κ κ' : List Addr}
theorem RvOk.mono (f : Same F F') (p : Pre κ κ') {v : V} : ∀ {r : Rv}, RvOk ks F κ v r → RvOk ks F' κ' v r
  | .dat _, h => At.mono f h
  | .ref _, ⟨a, e, q⟩ => ⟨a, p _ _ e, q⟩
theorem KvOk.mono (f : Same F F') (p : Pre κ κ') {x : Key × V} {r : Nat × Rv} (h : KvOk ks F κ x r) : KvOk ks F' κ' x r := ⟨h.1, h.2.mono f p⟩
theorem CellOk.mono {W : Addr → Prop} {a : Addr} {c : Cell} (f : Same F F') (p : Pre κ κ') (hn : F a = none → F' a = none) (hh : H' a = H a) (h : CellOk ks F H κ W a c) : CellOk ks F' H' κ' W a c := by
  cases c with
  | lst rs =>
    obtain ⟨h1, h2, xs, h3, h4⟩ := h
    exact ⟨hn h1, h2, xs, hh.trans h3, h4.imp fun _ _ q => q.mono f p⟩
  | dic krs =>
    obtain ⟨h1, h2, xs, h3, h4⟩ := h
    exact ⟨hn h1, h2, xs, hh.trans h3, h4.imp fun _ _ q => q.mono f p⟩
  | fz d => exact At.mono f h
  | dead => exact True.intro
/-- a new object that nobody changes -/
theorem Ok.newD {C : Ent} {σ : St} {env : En} {g : List Cell} {p : Addr} {o : HO} (h : Ok ks C σ F H κ env g) (hp : H p = none) : Ok ks C σ (upd F p o) (upd H p o) κ env g := by
  have hF : F p = none := by
    cases q : F p with
    | none => rfl
    | some u => have := h.ch.fh p u q; rw [hp] at this; cases this
  have sF : Same F (upd F p o) := fun b u e => by rw [upd_ne (ne_of_none e hF)]; exact e
  have nk : ∀ a ∈ κ, a ≠ p := fun a ha e => h.g.live a ha (by rw [e]; exact hp)
  refine ⟨⟨h.g.len, fun c cell a e1 e2 => ?_, h.g.nd, fun a ha => ?_, fun a ha => (h.g.wf a ha).imp (fun z => z) fun z => by rw [upd_ne (nk a ha)]; exact z⟩, ⟨fun b u e => sF b u (h.ch.ff b u e), fun b u e => ?_, fun b u e n => ?_, fun b e1 e2 e3 => ?_⟩, h.len, fun i r e => ?_⟩
  · have hne := nk a (List.mem_of_getElem? e2)
    exact (h.g.cells c cell a e1 e2).mono sF (Pre.refl κ) (fun z => by rw [upd_ne hne]; exact z) (upd_ne hne)
  · rw [upd_ne (nk a ha)]; exact h.g.live a ha
  · by_cases hb : b = p
    · subst hb; rw [upd_same] at e ⊢; exact e
    · rw [upd_ne hb] at e ⊢; exact h.ch.fh b u e
  · have := h.ch.hh b u e n
    rw [upd_ne (ne_of_none this hp)]; exact this
  · have hb : b ≠ p := by
      rintro rfl
      cases q : C.H b with
      | none => exact e2 q
      | some u => have := h.ch.hh b u q e3; rw [hp] at this; cases this
    rw [upd_ne hb]; exact h.ch.nw b e1 e2 e3
  · obtain ⟨v, h1, h2⟩ := h.env i r e
    exact ⟨v, h1, h2.mono sF (Pre.refl κ)⟩
theorem Ok.newD_F {C : Ent} {σ : St} {env : En} {g : List Cell} {p : Addr} {o : HO} (h : Ok ks C σ F H κ env g) (hp : H p = none) : Same F (upd F p o) := by
  have hF : F p = none := by
    cases q : F p with
    | none => rfl
    | some u => have := h.ch.fh p u q; rw [hp] at this; cases this
  exact fun b u e => by rw [upd_ne (ne_of_none e hF)]; exact e
/-- a new own cell -/
theorem Ok.newC {C : Ent} {σ : St} {env : En} {g : List Cell} {p : Addr} {o : HO} {cell : Cell} (h : Ok ks C σ F H κ env g) (hp : H p = none)
    (hc : CellOk ks F (upd H p o) (κ ++ [p]) (fun a => C.A a ∨ C.H a = none) p cell) : Ok ks C σ F (upd H p o) (κ ++ [p]) env (g ++ [cell]) := by
  have hWp : C.A p ∨ C.H p = none := by
    cases q : C.H p with
    | none => exact .inr rfl
    | some u =>
      by_cases z : C.A p
      · exact .inl z
      · have := h.ch.hh p u q z; rw [hp] at this; cases this
  have nk : ∀ a ∈ κ, a ≠ p := fun a ha e => h.g.live a ha (by rw [e]; exact hp)
  refine ⟨⟨by simp [h.g.len], fun c cell' a e1 e2 => ?_, ?_, fun a ha => ?_, fun a ha => ?_⟩, ⟨h.ch.ff, fun b u e => ?_, fun b u e n => ?_, h.ch.nw⟩, h.len, fun i r e => ?_⟩
  · by_cases hlt : c < g.length
    · rw [List.getElem?_append_left hlt] at e1
      rw [List.getElem?_append_left (by rw [h.g.len]; exact hlt)] at e2
      have hne := nk a (List.mem_of_getElem? e2)
      exact (h.g.cells c cell' a e1 e2).mono (Same.refl F) (Pre.app κ [p]) (fun z => z) (upd_ne hne)
    · rw [List.getElem?_append_right (by omega)] at e1
      rw [List.getElem?_append_right (by rw [h.g.len]; omega)] at e2
      have : c - g.length = 0 := by
        rcases Nat.eq_zero_or_pos (c - g.length) with z | z
        · exact z
        · rw [List.getElem?_eq_none (by simp; omega)] at e1; cases e1
      rw [this] at e1
      rw [h.g.len, this] at e2
      simp at e1 e2
      subst e1; subst e2
      exact hc
  · refine List.nodup_append.mpr ⟨h.g.nd, by simp, fun a ha b hb => ?_⟩
    simp at hb; subst hb
    exact nk a ha
  · rcases List.mem_append.mp ha with ha | ha
    · rw [upd_ne (nk a ha)]; exact h.g.live a ha
    · simp at ha; subst ha; rw [upd_same]; simp
  · rcases List.mem_append.mp ha with ha | ha
    · exact h.g.wf a ha
    · simp at ha; subst ha; exact .inl hWp
  · have := h.ch.fh b u e
    rw [upd_ne (ne_of_none this hp)]; exact this
  · have := h.ch.hh b u e n
    rw [upd_ne (ne_of_none this hp)]; exact this
  · obtain ⟨v, h1, h2⟩ := h.env i r e
    exact ⟨v, h1, h2.mono (Same.refl F) (Pre.app κ [p])⟩
/-- an own cell is written -/
theorem Ok.putC {C : Ent} {σ : St} {env : En} {g : List Cell} {c : Nat} {a : Addr} {o : HO} {cell : Cell} (h : Ok ks C σ F H κ env g) (ha : κ[c]? = some a) (hF : F a = none) (hW : C.A a ∨ C.H a = none)
    (hc : CellOk ks F (upd H a o) κ (fun a => C.A a ∨ C.H a = none) a cell) : Ok ks C σ F (upd H a o) κ env (g.set c cell) := by
  refine ⟨⟨by simp [h.g.len], fun c' cell' a' e1 e2 => ?_, h.g.nd, fun a' ha' => ?_, h.g.wf⟩, ⟨h.ch.ff, fun b u e => ?_, fun b u e n => ?_, h.ch.nw⟩, h.len, h.env⟩
  · by_cases hcc : c' = c
    · subst hcc
      rw [ha] at e2; cases e2
      have hl : c' < g.length := by rw [← h.g.len]; exact (List.getElem?_eq_some_iff.mp ha).1
      rw [List.getElem?_set_self hl] at e1
      cases e1
      exact hc
    · rw [List.getElem?_set_ne (Ne.symm hcc)] at e1
      have hne : a' ≠ a := by
        rintro rfl
        obtain ⟨l1, q1⟩ := List.getElem?_eq_some_iff.mp e2
        obtain ⟨l2, q2⟩ := List.getElem?_eq_some_iff.mp ha
        exact hcc ((List.getElem_inj h.g.nd).mp (q1.trans q2.symm))
      exact (h.g.cells c' cell' a' e1 e2).mono (Same.refl F) (Pre.refl κ) (fun z => z) (upd_ne hne)
  · by_cases hb : a' = a
    · subst hb; rw [upd_same]; simp
    · rw [upd_ne hb]; exact h.g.live a' ha'
  · have hb : b ≠ a := by rintro rfl; rw [hF] at e; cases e
    rw [upd_ne hb]; exact h.ch.fh b u e
  · have hb : b ≠ a := by
      rintro rfl
      rcases hW with z | z
      · exact n z
      · rw [z] at e; cases e
    rw [upd_ne hb]; exact h.ch.hh b u e n
theorem Ok.addr {C : Ent} {σ : St} {env : En} {g : List Cell} {c : Nat} {cell : Cell} (h : Ok ks C σ F H κ env g) (e : g[c]? = some cell) : ∃ a, κ[c]? = some a ∧ CellOk ks F H κ (fun a => C.A a ∨ C.H a = none) a cell := by
  have hl : c < κ.length := by rw [h.g.len]; exact (List.getElem?_eq_some_iff.mp e).1
  exact ⟨κ[c], List.getElem?_eq_getElem hl, h.g.cells c cell _ e (List.getElem?_eq_getElem hl)⟩
end
end DW

/-! ## DW2.lean -/
set_option Elab.async false
set_option linter.all false
set_option maxRecDepth 100000
set_option maxHeartbeats 2000000
set_option autoImplicit false
/-! DW2: expressions, their data-level reading. -/
namespace DW
open PySem PySem.Spec L2
open PyProof.Rows hiding St

abbrev Rg := List Cell
abbrev RQ := Rv → Rg → Prop
/-- what a def is worth: from its arguments and the own objects to its answer and the own objects behind -/
abbrev SpD := List Rv → Rg → RQ → Prop

/-! ### the semantic preconditions -/
section
variable (X : Cx)
def wE (e : Expr) : TE := fun σ H Q => ∀ pins s, Inv X pins σ H s → wpAny (model X.prog X.w) X.A (eval e X.env) (EP X pins σ Q) X.xe s
def wT (e : Expr) : TT := fun σ H Q => ∀ pins s, Inv X pins σ H s → wpAny (model X.prog X.w) X.A (isTrue e X.env (eval e X.env)) (TP X pins σ Q) X.xe s
def wW (e : Expr) : TT := fun σ H Q => ∀ whole pins s, Inv X pins σ H s → wpAny (model X.prog X.w) X.A (isTrue e X.env whole) (TP X pins σ Q) X.xe s
def wA (es : List Expr) : TA := fun σ H Q => ∀ pos pins s, Inv X pins σ H s → wpAny (model X.prog X.w) X.A (spliced (backTo pos (starEach es X.env))) (AP X pins σ Q) X.xe s
end
section
variable {X : Cx} {e : Expr} {es : List Expr}
theorem pe_w : PE X e (wE X e) := ⟨fun pins s σ H Q I h => h pins s I⟩
theorem pt_w : PT X e (wT X e) := ⟨fun pins s σ H Q I h => h pins s I⟩
theorem pw_w : PW X e (wW X e) := ⟨fun wh pins s σ H Q I h => h wh pins s I⟩
theorem pa_w : PA X es (wA X es) := ⟨fun pos pins s σ H Q I h => h pos pins s I⟩
theorem wE_of {t : TE} {σ : L2.St} {H : Hp} {Q : VK} (p : PE X e t) (h : t σ H Q) : wE X e σ H Q := fun pins s I => p.run pins s σ H Q I h
theorem wT_of {t : TT} {σ : L2.St} {H : Hp} {Q : Bool → Hp → Prop} (p : PT X e t) (h : t σ H Q) : wT X e σ H Q := fun pins s I => p.run pins s σ H Q I h
theorem wW_of {t : TT} {σ : L2.St} {H : Hp} {Q : Bool → Hp → Prop} (p : PW X e t) (h : t σ H Q) : wW X e σ H Q := fun wh pins s I => p.run wh pins s σ H Q I h
theorem wA_of {t : TA} {σ : L2.St} {H : Hp} {Q : List V → Hp → Prop} (p : PA X es t) (h : t σ H Q) : wA X es σ H Q := fun pos pins s I => p.run pos pins s σ H Q I h
end

/-! ### judgements -/
section
variable (ks : Kt) (X : Cx) (C : Ent) (env : En)
/-- what is wanted behind: every state that the data tells -/
def Kont (σ : L2.St) (F : Hp) (κ : List Addr) (Q : RQ) (Qv : VK) : Prop :=
  ∀ v F' H' κ' r g', Ok ks C σ F' H' κ' env g' → Same F F' → Pre κ κ' → RvOk ks F' κ' v r → Q r g' → Qv v H'
def KontT (σ : L2.St) (F : Hp) (κ : List Addr) (Q : Bool → Rg → Prop) (Qb : Bool → Hp → Prop) : Prop :=
  ∀ b F' H' κ' g', Ok ks C σ F' H' κ' env g' → Same F F' → Pre κ κ' → Q b g' → Qb b H'
def KontA (σ : L2.St) (F : Hp) (κ : List Addr) (Q : List Rv → Rg → Prop) (Qa : List V → Hp → Prop) : Prop :=
  ∀ vs F' H' κ' rs g', Ok ks C σ F' H' κ' env g' → Same F F' → Pre κ κ' → All2 (RvOk ks F' κ') vs rs → Q rs g' → Qa vs H'
def SE (e : Expr) (W : Rg → RQ → Prop) : Prop := ∀ g Q, W g Q → ∀ σ F H κ Qv, Ok ks C σ F H κ env g → Kont ks C env σ F κ Q Qv → wE X e σ H Qv
def ST (e : Expr) (W : Rg → (Bool → Rg → Prop) → Prop) : Prop := ∀ g Q, W g Q → ∀ σ F H κ Qv, Ok ks C σ F H κ env g → KontT ks C env σ F κ Q Qv → wT X e σ H Qv
def SW (e : Expr) (W : Rg → (Bool → Rg → Prop) → Prop) : Prop := ∀ g Q, W g Q → ∀ σ F H κ Qv, Ok ks C σ F H κ env g → KontT ks C env σ F κ Q Qv → wW X e σ H Qv
def SA (es : List Expr) (W : Rg → (List Rv → Rg → Prop) → Prop) : Prop := ∀ g Q, W g Q → ∀ σ F H κ Qv, Ok ks C σ F H κ env g → KontA ks C env σ F κ Q Qv → wA X es σ H Qv
end
section
variable {ks : Kt} {X : Cx} {C : Ent} {env : En} {σ : L2.St} {F F1 H : Hp} {κ κ1 : List Addr}
theorem Kont.at {Q : RQ} {Qv : VK} (k : Kont ks C env σ F κ Q Qv) (f : Same F F1) (p : Pre κ κ1) : Kont ks C env σ F1 κ1 Q Qv :=
  fun v F' H' κ' r g' ok s q => k v F' H' κ' r g' ok (f.trans s) (p.trans q)
theorem KontT.at {Q : Bool → Rg → Prop} {Qv : Bool → Hp → Prop} (k : KontT ks C env σ F κ Q Qv) (f : Same F F1) (p : Pre κ κ1) : KontT ks C env σ F1 κ1 Q Qv :=
  fun v F' H' κ' g' ok s q => k v F' H' κ' g' ok (f.trans s) (p.trans q)
theorem KontA.at {Q : List Rv → Rg → Prop} {Qv : List V → Hp → Prop} (k : KontA ks C env σ F κ Q Qv) (f : Same F F1) (p : Pre κ κ1) : KontA ks C env σ F1 κ1 Q Qv :=
  fun v F' H' κ' r g' ok s q => k v F' H' κ' r g' ok (f.trans s) (p.trans q)
theorem Kont.here {Q : RQ} {Qv : VK} {v : V} {r : Rv} {g : Rg} (k : Kont ks C env σ F κ Q Qv) (ok : Ok ks C σ F H κ env g) (rv : RvOk ks F κ v r) (q : Q r g) : Qv v H :=
  k v F H κ r g ok (Same.refl F) (Pre.refl κ) rv q

/-! ### values -/
/-- a cell that nobody changes any more is data -/
def nrm (g : Rg) : Rv → Rv
  | .dat d => .dat d
  | .ref c => match g[c]? with | some (.fz d) => .dat d | _ => .ref c
theorem RvOk.nrm {g : Rg} {v : V} {r : Rv} (ok : Ok ks C σ F H κ env g) (h : RvOk ks F κ v r) : RvOk ks F κ v (nrm g r) := by
  cases r with
  | dat d => exact h
  | ref c =>
    obtain ⟨a, e, rfl⟩ := id h
    unfold DW.nrm
    dsimp only
    split
    · rename_i d hd
      exact ok.g.cells c _ a hd e
    · exact h
/-- what may be read as a list: its items -/
def lstOf (g : Rg) : Rv → Option (List Rv)
  | .dat (.lst ds) => some (ds.map .dat)
  | .dat _ => none
  | .ref c => match g[c]? with | some (.lst rs) => some rs | some (.fz (.lst ds)) => some (ds.map .dat) | _ => none
theorem RvOk.lst {g : Rg} {v : V} {r : Rv} {rs : List Rv} (ok : Ok ks C σ F H κ env g) (h : RvOk ks F κ v r) (e : lstOf g r = some rs) : ∃ a xs, v = .ref a ∧ H a = some (.lst xs) ∧ All2 (RvOk ks F κ) xs rs := by
  have fromD : ∀ {v : V} {ds : List D}, At ks F v (.lst ds) → ∃ a xs, v = .ref a ∧ H a = some (.lst xs) ∧ All2 (RvOk ks F κ) xs (ds.map .dat) := fun {v ds} q => by
    cases q with
    | lst e1 s => exact ⟨_, _, rfl, ok.ch.fh _ _ e1, (Ats.all2 s).mapR (f := Rv.dat) (S := RvOk ks F κ) fun _ _ z => z⟩
  cases r with
  | dat d =>
    cases d with
    | lst ds => simp only [lstOf, Option.some.injEq] at e; subst e; exact fromD h
    | _ => simp [lstOf] at e
  | ref c =>
    obtain ⟨a, e1, rfl⟩ := h
    simp only [lstOf] at e
    split at e
    · rename_i rs' hc
      cases e
      obtain ⟨_, _, xs, h1, h2⟩ := ok.g.cells c _ a hc e1
      exact ⟨a, xs, rfl, h1, h2⟩
    · rename_i ds hc
      cases e
      exact fromD (ok.g.cells c _ a hc e1)
    · cases e
/-- .. as a tuple -/
theorem At.tupI {v : V} {ds : List D} (h : At ks F v (.tup ds)) : ∃ a xs, v = .ref a ∧ F a = some (.tup xs) ∧ Ats ks F xs ds := by
  cases h with
  | tup e s => exact ⟨_, _, rfl, e, s⟩
theorem At.dicI {v : V} {ds : List (Nat × D)} (h : At ks F v (.dic ds)) : ∃ a xs, v = .ref a ∧ F a = some (.dK xs) ∧ Atk ks F xs ds := by
  cases h with
  | dic e s => exact ⟨_, _, rfl, e, s⟩
theorem At.intI {v : V} {i : Int} (h : At ks F v (.int i)) : v = .int i := by cases h; rfl
theorem At.blI {v : V} {i : Bool} (h : At ks F v (.bl i)) : v = .bl i := by cases h; rfl
theorem At.nonI {v : V} (h : At ks F v .non) : v = .non := by cases h; rfl
theorem At.strI {v : V} {k : Nat} (h : At ks F v (.str k)) : ∃ x, v = .str x ∧ ks.w[k]? = some x := by cases h with | str e => exact ⟨_, rfl, e⟩
theorem At.scrI {v : V} {ns : List Int} (h : At ks F v (.scr ns)) : ∃ a, v = .ref a ∧ SqL ks.K F a (ns.map V.int) := by cases h with | scr e => exact ⟨_, rfl, e⟩

/-! ### own objects become data -/
mutual
/-- r reads as d in g; its own objects are those from m on -/
inductive RD (g : Rg) (m : Nat) : Rv → D → Prop
  | dat (d : D) : RD g m (.dat d) d
  | fz {c : Nat} {d : D} : g[c]? = some (.fz d) → RD g m (.ref c) d
  | lst {c : Nat} {rs : List Rv} {ds : List D} : m ≤ c → g[c]? = some (.lst rs) → RDs g m rs ds → RD g m (.ref c) (.lst ds)
  | dic {c : Nat} {rs : List (Nat × Rv)} {ds : List (Nat × D)} : m ≤ c → g[c]? = some (.dic rs) → RDk g m rs ds → RD g m (.ref c) (.dic ds)
inductive RDs (g : Rg) (m : Nat) : List Rv → List D → Prop
  | nil : RDs g m [] []
  | cons {r : Rv} {d : D} {rs : List Rv} {ds : List D} : RD g m r d → RDs g m rs ds → RDs g m (r :: rs) (d :: ds)
inductive RDk (g : Rg) (m : Nat) : List (Nat × Rv) → List (Nat × D) → Prop
  | nil : RDk g m [] []
  | cons {k : Nat} {r : Rv} {d : D} {rs : List (Nat × Rv)} {ds : List (Nat × D)} : RD g m r d → RDk g m rs ds → RDk g m ((k, r) :: rs) ((k, d) :: ds)
end
/-- items that are data -/
def datsN (g : Rg) : List Rv → Option (List D)
  | [] => some []
  | r :: t => match nrm g r with | .dat d => (datsN g t).map (d :: ·) | .ref _ => none
def datsK (g : Rg) : List (Nat × Rv) → Option (List (Nat × D))
  | [] => some []
  | (k, r) :: t => match nrm g r with | .dat d => (datsK g t).map ((k, d) :: ·) | .ref _ => none
/-- r made data d; the own objects behind -/
def frz1 (g : Rg) : Rv → Option (D × Rg)
  | .dat d => some (d, g)
  | .ref c => match g[c]? with
    | some (.fz d) => some (d, g)
    | some (.lst rs) => (datsN g rs).map fun ds => (.lst ds, g.set c (.fz (.lst ds)))
    | some (.dic krs) => (datsK g krs).map fun ds => (.dic ds, g.set c (.fz (.dic ds)))
    | _ => none
def frzs (g : Rg) : List Rv → Option (List D × Rg)
  | [] => some ([], g)
  | r :: t => match frz1 g r with | some (d, g1) => (frzs g1 t).map fun p => (d :: p.1, p.2) | none => none
def wFrz (r : Rv) (g : Rg) (Q : D → Rg → Prop) : Prop := match frz1 g r with | some p => Q p.1 p.2 | none => ∃ m d, RD g m r d ∧ m ≤ g.length ∧ Q d (g.take m ++ List.replicate (g.length - m) .dead)
def wFrzL (rs : List Rv) (g : Rg) (Q : List D → Rg → Prop) : Prop := match frzs g rs with | some p => Q p.1 p.2 | none => ∃ m ds, RDs g m rs ds ∧ m ≤ g.length ∧ Q ds (g.take m ++ List.replicate (g.length - m) .dead)

open Classical in
noncomputable def frzF (F H : Hp) (κ : List Addr) (P : Nat → Prop) : Hp := fun b => if ∃ c, P c ∧ κ[c]? = some b then H b else F b
theorem frzF_in {P : Nat → Prop} {c : Nat} {a : Addr} (h : P c) (e : κ[c]? = some a) : frzF F H κ P a = H a := by unfold frzF; rw [if_pos ⟨c, h, e⟩]
theorem frzF_out {P : Nat → Prop} {a : Addr} (h : ∀ c, P c → κ[c]? ≠ some a) : frzF F H κ P a = F a := by
  unfold frzF; rw [if_neg]; rintro ⟨c, h1, h2⟩; exact h c h1 h2
theorem nd_at {κ : List Addr} (nd : κ.Nodup) {i j : Nat} {a : Addr} (h : κ[i]? = some a) (h' : κ[j]? = some a) : i = j := by
  obtain ⟨l1, q1⟩ := List.getElem?_eq_some_iff.mp h
  obtain ⟨l2, q2⟩ := List.getElem?_eq_some_iff.mp h'
  exact (List.getElem_inj nd).mp (q1.trans q2.symm)
def Own (g : Rg) (c : Nat) : Prop := (∃ rs, g[c]? = some (.lst rs)) ∨ ∃ rs, g[c]? = some (.dic rs)
theorem Ok.own {g : Rg} (ok : Ok ks C σ F H κ env g) {c : Nat} {a : Addr} (h : Own g c) (e : κ[c]? = some a) : F a = none ∧ (C.A a ∨ C.H a = none) := by
  rcases h with ⟨rs, h⟩ | ⟨rs, h⟩
  · obtain ⟨h1, h2, _⟩ := ok.g.cells c _ a h e; exact ⟨h1, h2⟩
  · obtain ⟨h1, h2, _⟩ := ok.g.cells c _ a h e; exact ⟨h1, h2⟩
theorem frzF_same {g : Rg} {P : Nat → Prop} (ok : Ok ks C σ F H κ env g) (own : ∀ c, P c → Own g c) : Same F (frzF F H κ P) := fun b o e => by
  rw [frzF_out fun c h1 h2 => by
    have := (ok.own (own c h1) h2).1
    rw [this] at e; cases e]
  exact e
theorem Ok.freeze {g g' : Rg} {P : Nat → Prop} (ok : Ok ks C σ F H κ env g) (own : ∀ c, P c → Own g c) (hl : g'.length = g.length)
    (hc : ∀ (c : Nat) (cell : Cell) (a : Addr), g'[c]? = some cell → κ[c]? = some a → (¬ P c ∧ g[c]? = some cell) ∨ cell = .dead ∨ ∃ d, cell = .fz d ∧ At ks (frzF F H κ P) (.ref a) d) :
    Ok ks C σ (frzF F H κ P) H κ env g' := by
  have sF := frzF_same ok own
  refine ⟨⟨ok.g.len.trans hl.symm, fun c cell a e1 e2 => ?_, ok.g.nd, ok.g.live, fun a ha => (ok.g.wf a ha).imp (fun z => z) fun z q => by
    cases e : F a with
    | none => exact z e
    | some o => rw [sF a o e] at q; cases q⟩, ⟨fun b o e => sF b o (ok.ch.ff b o e), fun b o e => ?_, ok.ch.hh, fun b e1 e2 e3 => ?_⟩, ok.len, fun i r e => ?_⟩
  · rcases hc c cell a e1 e2 with ⟨n, q⟩ | rfl | ⟨d, rfl, q⟩
    · refine (ok.g.cells c cell a q e2).mono sF (Pre.refl κ) (fun z => ?_) rfl
      rw [frzF_out fun c' h1 h2 => n (nd_at ok.g.nd h2 e2 ▸ h1)]
      exact z
    · exact True.intro
    · exact q
  · by_cases h : ∃ c, P c ∧ κ[c]? = some b
    · obtain ⟨c, h1, h2⟩ := h
      rw [frzF_in h1 h2] at e; exact e
    · rw [frzF_out fun c h1 h2 => h ⟨c, h1, h2⟩] at e
      exact ok.ch.fh b o e
  · rw [frzF_out fun c h1 h2 => ?_]
    · exact ok.ch.nw b e1 e2 e3
    · rcases (ok.own (own c h1) h2).2 with z | z
      · exact e3 z
      · exact e2 z
  · obtain ⟨v, h1, h2⟩ := ok.env i r e
    exact ⟨v, h1, h2.mono sF (Pre.refl κ)⟩
mutual
theorem RD.at {g : Rg} {m : Nat} (ok : Ok ks C σ F H κ env g) (sF : Same F (frzF F H κ fun c => m ≤ c ∧ Own g c)) : ∀ {r : Rv} {d : D} {v : V}, RD g m r d → RvOk ks F κ v r → At ks (frzF F H κ fun c => m ≤ c ∧ Own g c) v d
  | _, _, _, .dat d, h => At.mono sF h
  | _, _, _, .fz e, ⟨a, e1, e2⟩ => by subst e2; exact At.mono sF (ok.g.cells _ _ a e e1)
  | _, _, _, .lst hm e s, ⟨a, e1, e2⟩ => by
    subst e2
    obtain ⟨_, _, xs, h1, h2⟩ := ok.g.cells _ _ a e e1
    exact .lst ((frzF_in ⟨hm, .inl ⟨_, e⟩⟩ e1).trans h1) (RDs.at ok sF s h2)
  | _, _, _, .dic hm e s, ⟨a, e1, e2⟩ => by
    subst e2
    obtain ⟨_, _, xs, h1, h2⟩ := ok.g.cells _ _ a e e1
    exact .dic ((frzF_in ⟨hm, .inr ⟨_, e⟩⟩ e1).trans h1) (RDk.at ok sF s h2)
theorem RDs.at {g : Rg} {m : Nat} (ok : Ok ks C σ F H κ env g) (sF : Same F (frzF F H κ fun c => m ≤ c ∧ Own g c)) : ∀ {r : List Rv} {d : List D} {v : List V}, RDs g m r d → All2 (RvOk ks F κ) v r → Ats ks (frzF F H κ fun c => m ≤ c ∧ Own g c) v d
  | _, _, _, .nil, h => by cases h; exact .nil
  | _, _, _, .cons a s, h => by
    cases h with
    | cons h1 h2 => exact .cons (RD.at ok sF a h1) (RDs.at ok sF s h2)
theorem RDk.at {g : Rg} {m : Nat} (ok : Ok ks C σ F H κ env g) (sF : Same F (frzF F H κ fun c => m ≤ c ∧ Own g c)) : ∀ {r : List (Nat × Rv)} {d : List (Nat × D)} {v : List (Key × V)}, RDk g m r d → All2 (KvOk ks F κ) v r → Atk ks (frzF F H κ fun c => m ≤ c ∧ Own g c) v d
  | _, _, _, .nil, h => by cases h; exact .nil
  | _, _, _, .cons a s, h => by
    cases h with
    | @cons p _ l _ h1 h2 =>
      obtain ⟨⟨x, hx, hp⟩, hv⟩ := h1
      obtain ⟨p1, p2⟩ := p
      cases hp
      exact .cons hx (RD.at ok sF a hv) (RDk.at ok sF s h2)
end
theorem Ok.deep {g : Rg} {m : Nat} (ok : Ok ks C σ F H κ env g) (hm : m ≤ g.length) : Same F (frzF F H κ fun c' => m ≤ c' ∧ Own g c') ∧ Ok ks C σ (frzF F H κ fun c' => m ≤ c' ∧ Own g c') H κ env (g.take m ++ List.replicate (g.length - m) .dead) := by
  have own : ∀ c', (m ≤ c' ∧ Own g c') → Own g c' := fun c' z => z.2
  have sF := frzF_same (P := fun c' => m ≤ c' ∧ Own g c') ok own
  refine ⟨sF, ok.freeze own (by simp; omega) fun c' cell a' q1 q2 => ?_⟩
  by_cases hlt : c' < m
  · rw [List.getElem?_append_left (by simp; omega), List.getElem?_take_of_lt hlt] at q1
    exact .inl ⟨fun z => by omega, q1⟩
  · rw [List.getElem?_append_right (by simp; omega), List.getElem?_replicate] at q1
    split at q1
    · cases q1; exact .inr (.inl rfl)
    · cases q1
theorem RD.ok {g : Rg} {m : Nat} {r : Rv} {d : D} {v : V} (f : RD g m r d) (hm : m ≤ g.length) (ok : Ok ks C σ F H κ env g) (h : RvOk ks F κ v r) : ∃ F', Same F F' ∧ Ok ks C σ F' H κ env (g.take m ++ List.replicate (g.length - m) .dead) ∧ At ks F' v d :=
  ⟨_, (ok.deep hm).1, (ok.deep hm).2, RD.at ok (ok.deep hm).1 f h⟩
theorem datsN_at {g : Rg} (ok : Ok ks C σ F H κ env g) : ∀ {rs : List Rv} {ds : List D} {vs : List V}, datsN g rs = some ds → All2 (RvOk ks F κ) vs rs → Ats ks F vs ds
  | [], _, _, e, h => by cases e; cases h; exact .nil
  | r :: t, ds, _, e, h => by
    cases h with
    | cons h1 h2 =>
      have h3 := h1.nrm ok
      simp only [datsN] at e
      split at e
      · rename_i d hd
        rw [hd] at h3
        obtain ⟨ds', e1, e2⟩ := Option.map_eq_some_iff.mp e
        subst e2
        exact .cons h3 (datsN_at ok e1 h2)
      · cases e
theorem datsK_at {g : Rg} (ok : Ok ks C σ F H κ env g) : ∀ {rs : List (Nat × Rv)} {ds : List (Nat × D)} {vs : List (Key × V)}, datsK g rs = some ds → All2 (KvOk ks F κ) vs rs → Atk ks F vs ds
  | [], _, _, e, h => by cases e; cases h; exact .nil
  | (k, r) :: t, ds, _, e, h => by
    cases h with
    | @cons p _ l _ h1 h2 =>
      obtain ⟨⟨x, hx, hp⟩, hv⟩ := h1
      obtain ⟨p1, p2⟩ := p
      cases hp
      have h3 := RvOk.nrm ok hv
      simp only [datsK] at e
      split at e
      · rename_i d hd
        rw [hd] at h3
        obtain ⟨ds', e1, e2⟩ := Option.map_eq_some_iff.mp e
        subst e2
        exact .cons hx h3 (datsK_at ok e1 h2)
      · cases e
theorem Ok.leaf {g : Rg} {c : Nat} {a : Addr} {d : D} (ok : Ok ks C σ F H κ env g) (e1 : κ[c]? = some a) (hown : Own g c) (hA : At ks (frzF F H κ fun c' => c' = c) (.ref a) d) : Ok ks C σ (frzF F H κ fun c' => c' = c) H κ env (g.set c (.fz d)) := by
  have own : ∀ c', c' = c → Own g c' := fun c' z => by subst z; exact hown
  refine ok.freeze own (by simp) fun c' cell a' q1 q2 => ?_
  by_cases hcc : c' = c
  · subst hcc
    have hlt : c' < g.length := by rcases hown with ⟨_, e⟩ | ⟨_, e⟩ <;> exact (List.getElem?_eq_some_iff.mp e).1
    rw [List.getElem?_set_self hlt] at q1
    cases q1
    rw [e1] at q2; cases q2
    exact .inr (.inr ⟨_, rfl, hA⟩)
  · rw [List.getElem?_set_ne (Ne.symm hcc)] at q1
    exact .inl ⟨hcc, q1⟩
theorem frz1_ok {g : Rg} {r : Rv} {p : D × Rg} {v : V} (f : frz1 g r = some p) (ok : Ok ks C σ F H κ env g) (h : RvOk ks F κ v r) : ∃ F', Same F F' ∧ Ok ks C σ F' H κ env p.2 ∧ At ks F' v p.1 := by
  cases r with
  | dat d => cases f; exact ⟨F, Same.refl F, ok, h⟩
  | ref c =>
    obtain ⟨a, e1, rfl⟩ := h
    simp only [frz1] at f
    split at f
    · rename_i d e
      cases f
      exact ⟨F, Same.refl F, ok, ok.g.cells _ _ a e e1⟩
    · rename_i rs e
      obtain ⟨ds, hd, hp⟩ := Option.map_eq_some_iff.mp f
      subst hp
      have own : Own g c := .inl ⟨_, e⟩
      have sF := frzF_same (P := fun c' => c' = c) ok fun c' z => by subst z; exact own
      obtain ⟨_, _, xs, h1, h2⟩ := ok.g.cells _ _ a e e1
      have hA : At ks (frzF F H κ fun c' => c' = c) (.ref a) (.lst ds) := .lst ((frzF_in (P := fun c' => c' = c) (c := c) rfl e1).trans h1) (Ats.mono sF (datsN_at ok hd h2))
      exact ⟨_, sF, ok.leaf e1 own hA, hA⟩
    · rename_i rs e
      obtain ⟨ds, hd, hp⟩ := Option.map_eq_some_iff.mp f
      subst hp
      have own : Own g c := .inr ⟨_, e⟩
      have sF := frzF_same (P := fun c' => c' = c) ok fun c' z => by subst z; exact own
      obtain ⟨_, _, xs, h1, h2⟩ := ok.g.cells _ _ a e e1
      have hA : At ks (frzF F H κ fun c' => c' = c) (.ref a) (.dic ds) := .dic ((frzF_in (P := fun c' => c' = c) (c := c) rfl e1).trans h1) (Atk.mono sF (datsK_at ok hd h2))
      exact ⟨_, sF, ok.leaf e1 own hA, hA⟩
    · cases f
theorem frzs_ok : ∀ {rs : List Rv} {g : Rg} {p : List D × Rg} {F : Hp} {vs : List V}, frzs g rs = some p → Ok ks C σ F H κ env g → All2 (RvOk ks F κ) vs rs → ∃ F', Same F F' ∧ Ok ks C σ F' H κ env p.2 ∧ Ats ks F' vs p.1
  | [], _, _, F, _, e, ok, h => by cases e; cases h; exact ⟨F, Same.refl F, ok, .nil⟩
  | r :: t, g, _, F, _, e, ok, h => by
    cases h with
    | cons h1 h2 =>
      simp only [frzs] at e
      split at e
      · rename_i d g1 hd
        obtain ⟨p, e1, e2⟩ := Option.map_eq_some_iff.mp e
        subst e2
        obtain ⟨F1, s1, ok1, a1⟩ := frz1_ok hd ok h1
        obtain ⟨F2, s2, ok2, a2⟩ := frzs_ok e1 ok1 (h2.imp fun _ _ z => z.mono s1 (Pre.refl κ))
        exact ⟨F2, s1.trans s2, ok2, .cons (At.mono s2 a1) a2⟩
      · cases e
theorem wFrz_ok {g : Rg} {r : Rv} {v : V} {Q : D → Rg → Prop} (w : wFrz r g Q) (ok : Ok ks C σ F H κ env g) (h : RvOk ks F κ v r) : ∃ F' d g', Same F F' ∧ Ok ks C σ F' H κ env g' ∧ At ks F' v d ∧ Q d g' := by
  unfold wFrz at w
  split at w
  · rename_i p hp
    obtain ⟨F', s, ok', a⟩ := frz1_ok hp ok h
    exact ⟨F', _, _, s, ok', a, w⟩
  · obtain ⟨m, d, hd, hm, q⟩ := w
    obtain ⟨F', s, ok', a⟩ := hd.ok hm ok h
    exact ⟨F', _, _, s, ok', a, q⟩
theorem wFrzL_ok {g : Rg} {rs : List Rv} {vs : List V} {Q : List D → Rg → Prop} (w : wFrzL rs g Q) (ok : Ok ks C σ F H κ env g) (h : All2 (RvOk ks F κ) vs rs) : ∃ F' ds g', Same F F' ∧ Ok ks C σ F' H κ env g' ∧ Ats ks F' vs ds ∧ Q ds g' := by
  unfold wFrzL at w
  split at w
  · rename_i p hp
    obtain ⟨F', s, ok', a⟩ := frzs_ok hp ok h
    exact ⟨F', _, _, s, ok', a, w⟩
  · obtain ⟨m, d, hd, hm, q⟩ := w
    exact ⟨_, _, _, (ok.deep hm).1, (ok.deep hm).2, RDs.at ok (ok.deep hm).1 hd h, q⟩
end

/-! ### reading, for simp -/
theorem rd_dat {g : Rg} {m : Nat} {e d : D} : RD g m (.dat e) d ↔ d = e := ⟨fun h => by cases h; rfl, fun h => h ▸ .dat _⟩
theorem rd_ref {g : Rg} {m c : Nat} {d : D} : RD g m (.ref c) d ↔ match g[c]? with | some (.fz e) => d = e | some (.lst rs) => m ≤ c ∧ ∃ ds, RDs g m rs ds ∧ d = .lst ds | some (.dic rs) => m ≤ c ∧ ∃ ds, RDk g m rs ds ∧ d = .dic ds | _ => False := by
  constructor
  · intro h
    cases h with
    | fz e => rw [e]
    | lst hm e s => rw [e]; exact ⟨hm, _, s, rfl⟩
    | dic hm e s => rw [e]; exact ⟨hm, _, s, rfl⟩
  · intro h
    split at h
    · rename_i e he; subst h; exact .fz he
    · rename_i rs he; obtain ⟨hm, ds, s, rfl⟩ := h; exact .lst hm he s
    · rename_i rs he; obtain ⟨hm, ds, s, rfl⟩ := h; exact .dic hm he s
    · exact h.elim
theorem rds_nil {g : Rg} {m : Nat} {ds : List D} : RDs g m [] ds ↔ ds = [] := ⟨fun h => by cases h; rfl, fun h => h ▸ .nil⟩
theorem rds_cons {g : Rg} {m : Nat} {r : Rv} {rs : List Rv} {ds : List D} : RDs g m (r :: rs) ds ↔ ∃ d, RD g m r d ∧ ∃ t, RDs g m rs t ∧ ds = d :: t :=
  ⟨fun h => by cases h with | cons a b => exact ⟨_, a, _, b, rfl⟩, fun ⟨_, a, _, b, e⟩ => e ▸ .cons a b⟩
theorem rdk_nil {g : Rg} {m : Nat} {ds : List (Nat × D)} : RDk g m [] ds ↔ ds = [] := ⟨fun h => by cases h; rfl, fun h => h ▸ .nil⟩
theorem rdk_cons {g : Rg} {m k : Nat} {r : Rv} {rs : List (Nat × Rv)} {ds : List (Nat × D)} : RDk g m ((k, r) :: rs) ds ↔ ∃ d, RD g m r d ∧ ∃ t, RDk g m rs t ∧ ds = (k, d) :: t :=
  ⟨fun h => by cases h with | cons a b => exact ⟨_, a, _, b, rfl⟩, fun ⟨_, a, _, b, e⟩ => e ▸ .cons a b⟩
theorem rds_map {g : Rg} {m : Nat} : ∀ {es ds : List D}, RDs g m (es.map .dat) ds ↔ ds = es
  | [], ds => rds_nil
  | e :: es, ds => by
    rw [List.map_cons, rds_cons]
    exact ⟨fun ⟨d, a, t, b, q⟩ => by rw [q, rd_dat.mp a, rds_map.mp b], fun h => ⟨e, rd_dat.mpr rfl, es, rds_map.mpr rfl, h⟩⟩
theorem datsN_map {g : Rg} : ∀ {ds : List D}, datsN g (ds.map .dat) = some ds
  | [] => rfl
  | d :: ds => by simp only [List.map_cons, datsN, nrm, datsN_map, Option.map_some]
theorem datsN_app {g : Rg} : ∀ {rs ts : List Rv}, datsN g (rs ++ ts) = (datsN g rs).bind fun a => (datsN g ts).map (a ++ ·)
  | [], ts => by simp [datsN]
  | r :: rs, ts => by
    simp only [List.cons_append, datsN]
    split
    · rw [datsN_app]; cases datsN g rs <;> cases datsN g ts <;> rfl
    · rfl
theorem rds_app {g : Rg} {m : Nat} : ∀ {rs ts : List Rv} {ds : List D}, RDs g m (rs ++ ts) ds ↔ ∃ a, RDs g m rs a ∧ ∃ b, RDs g m ts b ∧ ds = a ++ b
  | [], ts, ds => ⟨fun h => ⟨[], .nil, ds, h, rfl⟩, fun ⟨a, h, b, q, e⟩ => by rw [rds_nil.mp h] at e; rw [e]; exact q⟩
  | r :: rs, ts, ds => by
    rw [List.cons_append, rds_cons]
    constructor
    · rintro ⟨d, h, t, q, rfl⟩
      obtain ⟨a, h1, b, h2, rfl⟩ := rds_app.mp q
      exact ⟨d :: a, .cons h h1, b, h2, rfl⟩
    · rintro ⟨a, h, b, q, rfl⟩
      obtain ⟨d, h1, t, h2, rfl⟩ := rds_cons.mp h
      exact ⟨d, h1, t ++ b, rds_app.mpr ⟨t, h2, b, q, rfl⟩, rfl⟩
end DW

/-! ## DW3.lean -/
set_option Elab.async false
set_option linter.all false
set_option maxRecDepth 100000
set_option maxHeartbeats 2000000
set_option autoImplicit false
/-! DW3: the rules of expressions. -/
namespace DW
open PySem PySem.Spec L2
open PyProof.Rows hiding St

section
variable {ks : Kt} {X : Cx} {C : Ent} {env : En} {pos : Pos}

section
variable {F : Hp} {κ : List Addr}
theorem rv_int (n : Int) : RvOk ks F κ (.int n) (.dat (.int n)) := At.int n
theorem rv_bl (n : Bool) : RvOk ks F κ (.bl n) (.dat (.bl n)) := At.bl n
theorem rv_non : RvOk ks F κ .non (.dat .non) := At.non
theorem rv_str {i : Nat} {x : Str} (hx : ks.w[i]? = some x) : RvOk ks F κ (.str x) (.dat (.str i)) := At.str hx
theorem rv_d {v : V} {d : D} (h : At ks F v d) : RvOk ks F κ v (.dat d) := h
theorem rv_ref {c : Nat} {a : Addr} (h : κ[c]? = some a) : RvOk ks F κ (.ref a) (.ref c) := ⟨a, h, rfl⟩
theorem rv_new {p : Addr} {n : Nat} (h : κ.length = n) : RvOk ks F (κ ++ [p]) (.ref p) (.ref n) := ⟨p, by subst h; simp, rfl⟩
end
theorem Ok.fresh {σ : L2.St} {F H : Hp} {κ : List Addr} {g : Rg} {p : Addr} (ok : Ok ks C σ F H κ env g) (hp : H p = none) : F p = none ∧ (C.A p ∨ C.H p = none) := by
  constructor
  · cases q : F p with
    | none => rfl
    | some u => have := ok.ch.fh p u q; rw [hp] at this; cases this
  · cases q : C.H p with
    | none => exact .inr rfl
    | some u =>
      by_cases z : C.A p
      · exact .inl z
      · have := ok.ch.hh p u q z; rw [hp] at this; cases this
/-! ### constants, names -/
theorem se_int {n : Int} {j : Nat} : SE ks X C env (.Constant (.int n) j pos) (fun g Q => Q (.dat (.int n)) g) :=
  fun g Q h σ F H κ Qv ok k => wE_of pe_int (k.here ok (rv_int n) h)
theorem se_bl {b : Bool} {j : Nat} : SE ks X C env (.Constant (.bool b) j pos) (fun g Q => Q (.dat (.bl b)) g) :=
  fun g Q h σ F H κ Qv ok k => wE_of pe_bl (k.here ok (rv_bl b) h)
theorem se_non {j : Nat} : SE ks X C env (.Constant .none j pos) (fun g Q => Q (.dat .non) g) :=
  fun g Q h σ F H κ Qv ok k => wE_of pe_non (k.here ok rv_non h)
theorem se_str {i : Nat} {x : Str} {j : Nat} (hx : ks.w[i]? = some x) : SE ks X C env (.Constant (.str x) j pos) (fun g Q => Q (.dat (.str i)) g) :=
  fun g Q h σ F H κ Qv ok k => wE_of pe_str (k.here ok (rv_str hx) h)
/-- a name's value -/
def wVar (env : En) (i : Nat) (g : Rg) (Q : RQ) : Prop := ∃ r, env[i]? = some (some r) ∧ Q (nrm g r) g
theorem se_var {i : Nat} {x : Str} (hN : X.N[i]? = some x) (hv : Vis X.env.scope x) (hd : (x == ("__debug__" : Str)) = false) (hcd : (x == ("__classdict__" : Str)) = false) : SE ks X C env (.Name x pos) (wVar env i) :=
  fun g Q ⟨r, e, h⟩ σ F H κ Qv ok k => by
    obtain ⟨v, h1, h2⟩ := ok.env i r e
    exact wE_of (pe_var hN hv hd hcd) ⟨v, h1, k.here ok (h2.nrm ok) h⟩
theorem se_glob {x : Str} {n : Int} {t : Tok} (hg : Gl X x) (hm : X.mg x = some (.int n t)) (hd : (x == ("__debug__" : Str)) = false) : SE ks X C env (.Name x pos) (fun g Q => Q (.dat (.int n)) g) :=
  fun g Q h σ F H κ Qv ok k => wE_of (pe_glob hg hm (v := .int n) ⟨t, rfl⟩ hd) (k.here ok (rv_int n) h)

/-! ### several expressions -/
theorem sa_nil : SA ks X C env [] (fun g Q => Q [] g) :=
  fun g Q h σ F H κ Qv ok k => wA_of pa_nil (k [] F H κ [] g ok (Same.refl F) (Pre.refl κ) .nil h)
theorem sa_cons {e : Expr} {es : List Expr} {W : Rg → RQ → Prop} {Ws : Rg → (List Rv → Rg → Prop) → Prop} (he : SE ks X C env e W) (hs : SA ks X C env es Ws) (hst : starEach (e :: es) X.env = (false, eval e X.env) :: starEach es X.env) :
    SA ks X C env (e :: es) (fun g Q => W g fun r g => Ws g fun rs g => Q (r :: rs) g) :=
  fun g Q h σ F H κ Qv ok k => wA_of (pa_cons pe_w pa_w hst) (he g _ h σ F H κ _ ok fun v F1 H1 κ1 r g1 ok1 s1 p1 rv q1 =>
    hs g1 _ q1 σ F1 H1 κ1 _ ok1 fun vs F2 H2 κ2 rs g2 ok2 s2 p2 rvs q2 => k _ F2 H2 κ2 _ g2 ok2 (s1.trans s2) (p1.trans p2) (.cons (rv.mono s2 p2) rvs) q2)

/-! ### two operands -/
/-- what an operator on values gives -/
def BinOk (ks : Kt) (X : Cx) (C : Ent) (env : En) (r : R2) (B : Rv → Rv → Rg → RQ → Prop) : Prop :=
  ∀ g rx ry Q, B rx ry g Q → ∀ σ F H κ Qv x y, Ok ks C σ F H κ env g → RvOk ks F κ x rx → RvOk ks F κ y ry → Kont ks C env σ F κ Q Qv → r x y H Qv
section
variable {a b : Expr} {Wa Wb : Rg → RQ → Prop} {r : R2} {B : Rv → Rv → Rg → RQ → Prop}
theorem two {Qv : VK} {σ : L2.St} {F H : Hp} {κ : List Addr} {g : Rg} {Q : RQ} (ha : SE ks X C env a Wa) (hb : SE ks X C env b Wb) (hB : BinOk ks X C env r B) (ok : Ok ks C σ F H κ env g) (k : Kont ks C env σ F κ Q Qv)
    (h : Wa g fun r1 g1 => Wb g1 fun r2 g2 => B r1 r2 g2 Q) : wE X a σ H fun x H1 => wE X b σ H1 fun y H2 => r x y H2 Qv :=
  ha g _ h σ F H κ _ ok fun v F1 H1 κ1 r1 g1 ok1 s1 p1 rv1 q1 => hb g1 _ q1 σ F1 H1 κ1 _ ok1 fun w F2 H2 κ2 r2 g2 ok2 s2 p2 rv2 q2 =>
    hB g2 r1 r2 Q q2 σ F2 H2 κ2 Qv v w ok2 (rv1.mono s2 p2) rv2 (k.at (s1.trans s2) (p1.trans p2))
theorem se_op {op : Operator} (ho : OpR X (binaryOp op) r) (ha : SE ks X C env a Wa) (hb : SE ks X C env b Wb) (hB : BinOk ks X C env r B) :
    SE ks X C env (.BinOp a op b pos) (fun g Q => Wa g fun r1 g1 => Wb g1 fun r2 g2 => B r1 r2 g2 Q) :=
  fun g Q h σ F H κ Qv ok k => wE_of (pe_op ho pe_w pe_w) (two ha hb hB ok k h)
theorem se_cmp {op : CmpOp} (ho : OpR X (compareOp op) r) (hm : behindInMarks op b = false) (ha : SE ks X C env a Wa) (hb : SE ks X C env b Wb) (hB : BinOk ks X C env r B) :
    SE ks X C env (.Compare a [op] [b] pos) (fun g Q => Wa g fun r1 g1 => Wb g1 fun r2 g2 => B r1 r2 g2 Q) :=
  fun g Q h σ F H κ Qv ok k => wE_of (pe_cmpR ho pe_w pe_w hm) (two ha hb hB ok k h)
/-- a bool wanted -/
def wantB (Q : Bool → Rg → Prop) : RQ := fun r g => ∃ b, r = .dat (.bl b) ∧ Q b g
theorem st_cmp {op : CmpOp} (ho : OpR X (compareOp op) r) (hm : behindInMarks op b = false) (ha : SE ks X C env a Wa) (hb : SE ks X C env b Wb) (hB : BinOk ks X C env r B) :
    ST ks X C env (.Compare a [op] [b] pos) (fun g Q => Wa g fun r1 g1 => Wb g1 fun r2 g2 => B r1 r2 g2 (wantB Q)) :=
  fun g Q h σ F H κ Qv ok k => wT_of (pt_cmpR ho pe_w pe_w hm) (two (Q := wantB Q) (Qv := fun x H' => ∃ k, x = .bl k ∧ Qv k H') ha hb hB ok (fun v F' H' κ' r g' ok' s p rv q => by
    obtain ⟨c, rfl, q⟩ := q
    exact ⟨c, At.blI rv, k c F' H' κ' g' ok' s p q⟩) h)
/-- an expression whose value is a bool, as a test -/
theorem st_val {e : Expr} {W : Rg → RQ → Prop} (he : SE ks X C env e W) (hp : ∀ whole, isTrue e X.env whole = (do let v ← whole; standAt e.pos; holding [v] (truthy v))) : ST ks X C env e (fun g Q => W g (wantB Q)) :=
  fun g Q h σ F H κ Qv ok k => wT_of (pt_val pe_w hp) (he g _ h σ F H κ _ ok fun v F' H' κ' r g' ok' s p rv q => by
    obtain ⟨c, rfl, q⟩ := q
    exact ⟨c, At.blI rv, k c F' H' κ' g' ok' s p q⟩)
/-- a < b < c -/
theorem se_chain {c : Expr} {op op' : CmpOp} {r' : R2} {B' : Rv → Rv → Rg → RQ → Prop} {Wc : Rg → RQ → Prop} (ho : OpR X (compareOp op) r) (ho' : OpR X (compareOp op') r') (ha : SE ks X C env a Wa) (hb : SE ks X C env b Wb) (hc : SE ks X C env c Wc)
    (hB : BinOk ks X C env r B) (hB' : BinOk ks X C env r' B') {tch : TE} (hpe : tch = tChain r r' (wE X a) (wE X b) (wE X c)) (hch : PE X (.Compare a [op, op'] [b, c] pos) tch) :
    SE ks X C env (.Compare a [op, op'] [b, c] pos) (fun g Q => Wa g fun r1 g1 => Wb g1 fun r2 g2 => B r1 r2 g2 (wantB fun k g3 => (k = true → Wc g3 fun r3 g4 => B' r2 r3 g4 Q) ∧ (k = false → Q (.dat (.bl false)) g3))) := by
  subst hpe
  intro g Q h σ F H κ Qv ok k
  refine wE_of hch ?_
  refine ha g _ h σ F H κ _ ok fun v F1 H1 κ1 r1 g1 ok1 s1 p1 rv1 q1 => hb g1 _ q1 σ F1 H1 κ1 _ ok1 fun w F2 H2 κ2 r2 g2 ok2 s2 p2 rv2 q2 => ?_
  refine hB g2 r1 r2 _ q2 σ F2 H2 κ2 _ v w ok2 (rv1.mono s2 p2) rv2 fun z F3 H3 κ3 r3 g3 ok3 s3 p3 rv3 q3 => ?_
  obtain ⟨k3, rfl, q4, q5⟩ := q3
  refine ⟨k3, At.blI rv3, ?_⟩
  cases k3 with
  | true =>
    rw [if_pos rfl]
    exact hc g3 _ (q4 rfl) σ F3 H3 κ3 _ ok3 fun u F4 H4 κ4 r4 g4 ok4 s4 p4 rv4 q6 => hB' g4 r2 r4 Q q6 σ F4 H4 κ4 Qv w u ok4 (rv2.mono (s3.trans s4) (p3.trans p4)) rv4 (k.at (((s1.trans s2).trans s3).trans s4) (((p1.trans p2).trans p3).trans p4))
  | false =>
    rw [if_neg Bool.false_ne_true]
    exact k _ F3 H3 κ3 _ g3 ok3 ((s1.trans s2).trans s3) ((p1.trans p2).trans p3) (rv_bl false) (q5 rfl)
end

/-! ### and, or, not -/
section
variable {a b : Expr} {rest : List Expr} {Wa Wb : Rg → RQ → Prop} {Ta Tb : Rg → (Bool → Rg → Prop) → Prop}
theorem se_one {op : BoolOp} (ha : SE ks X C env a Wa) : SE ks X C env (.BoolOp op [a] pos) Wa := fun g Q h σ F H κ Qv ok k => wE_of (pe_one pe_w) (ha g Q h σ F H κ Qv ok k)
def wAndV (Wa Wb : Rg → RQ → Prop) : Rg → RQ → Prop := fun g Q => Wa g (wantB fun k g1 => (k = true → Wb g1 Q) ∧ (k = false → Q (.dat (.bl false)) g1))
def wOrV (Wa Wb : Rg → RQ → Prop) : Rg → RQ → Prop := fun g Q => Wa g (wantB fun k g1 => (k = true → Q (.dat (.bl true)) g1) ∧ (k = false → Wb g1 Q))
theorem se_and (ha : SE ks X C env a Wa) (hb : SE ks X C env (.BoolOp .And (b :: rest) pos) Wb) : SE ks X C env (.BoolOp .And (a :: b :: rest) pos) (wAndV Wa Wb) := by
  intro g Q h σ F H κ Qv ok k
  refine wE_of (pe_and pe_w pe_w) (ha g _ h σ F H κ _ ok fun v F1 H1 κ1 r1 g1 ok1 s1 p1 rv1 q1 => ?_)
  obtain ⟨c, rfl, q2, q3⟩ := q1
  refine ⟨c, At.blI rv1, ?_⟩
  cases c with
  | true => rw [if_pos rfl]; exact hb g1 Q (q2 rfl) σ F1 H1 κ1 Qv ok1 (k.at s1 p1)
  | false => rw [if_neg Bool.false_ne_true]; exact k _ F1 H1 κ1 _ g1 ok1 s1 p1 (rv_bl false) (q3 rfl)
theorem se_or (ha : SE ks X C env a Wa) (hb : SE ks X C env (.BoolOp .Or (b :: rest) pos) Wb) : SE ks X C env (.BoolOp .Or (a :: b :: rest) pos) (wOrV Wa Wb) := by
  intro g Q h σ F H κ Qv ok k
  refine wE_of (pe_or pe_w pe_w) (ha g _ h σ F H κ _ ok fun v F1 H1 κ1 r1 g1 ok1 s1 p1 rv1 q1 => ?_)
  obtain ⟨c, rfl, q2, q3⟩ := q1
  refine ⟨c, At.blI rv1, ?_⟩
  cases c with
  | true => rw [if_pos rfl]; exact k _ F1 H1 κ1 _ g1 ok1 s1 p1 (rv_bl true) (q2 rfl)
  | false => rw [if_neg Bool.false_ne_true]; exact hb g1 Q (q3 rfl) σ F1 H1 κ1 Qv ok1 (k.at s1 p1)
def wNotV (Wa : Rg → RQ → Prop) : Rg → RQ → Prop := fun g Q => Wa g (wantB fun k g1 => Q (.dat (.bl (!k))) g1)
theorem se_not (ha : SE ks X C env a Wa) : SE ks X C env (.UnaryOp .Not a pos) (wNotV Wa) := by
  intro g Q h σ F H κ Qv ok k
  refine wE_of (pe_not pe_w) (ha g _ h σ F H κ _ ok fun v F1 H1 κ1 r1 g1 ok1 s1 p1 rv1 q1 => ?_)
  obtain ⟨c, rfl, q2⟩ := q1
  exact ⟨c, At.blI rv1, k _ F1 H1 κ1 _ g1 ok1 s1 p1 (rv_bl _) q2⟩
theorem sw_one {op : BoolOp} (ho : op = .And ∨ op = .Or) (ha : ST ks X C env a Ta) : SW ks X C env (.BoolOp op [a] pos) Ta := by
  intro g Q h σ F H κ Qv ok k
  rcases ho with rfl | rfl
  · exact wW_of (pw_and1 pt_w) (ha g Q h σ F H κ Qv ok k)
  · exact wW_of (pw_or1 pt_w) (ha g Q h σ F H κ Qv ok k)
theorem st_w (ha : SW ks X C env a Ta) : ST ks X C env a Ta := fun g Q h σ F H κ Qv ok k => wT_of pw_w.pt (ha g Q h σ F H κ Qv ok k)
def wAndT (Ta Tb : Rg → (Bool → Rg → Prop) → Prop) : Rg → (Bool → Rg → Prop) → Prop := fun g Q => Ta g fun k g1 => (k = true → Tb g1 Q) ∧ (k = false → Q false g1)
def wOrT (Ta Tb : Rg → (Bool → Rg → Prop) → Prop) : Rg → (Bool → Rg → Prop) → Prop := fun g Q => Ta g fun k g1 => (k = true → Q true g1) ∧ (k = false → Tb g1 Q)
theorem sw_and (ha : ST ks X C env a Ta) (hb : SW ks X C env (.BoolOp .And (b :: rest) pos) Tb) : SW ks X C env (.BoolOp .And (a :: b :: rest) pos) (wAndT Ta Tb) := by
  intro g Q h σ F H κ Qv ok k
  refine wW_of (pw_and pt_w pw_w) (ha g _ h σ F H κ _ ok fun c F1 H1 κ1 g1 ok1 s1 p1 q1 => ?_)
  cases c with
  | true => rw [if_pos rfl]; exact hb g1 Q (q1.1 rfl) σ F1 H1 κ1 Qv ok1 (k.at s1 p1)
  | false => rw [if_neg Bool.false_ne_true]; exact k _ F1 H1 κ1 g1 ok1 s1 p1 (q1.2 rfl)
theorem sw_or (ha : ST ks X C env a Ta) (hb : SW ks X C env (.BoolOp .Or (b :: rest) pos) Tb) : SW ks X C env (.BoolOp .Or (a :: b :: rest) pos) (wOrT Ta Tb) := by
  intro g Q h σ F H κ Qv ok k
  refine wW_of (pw_or pt_w pw_w) (ha g _ h σ F H κ _ ok fun c F1 H1 κ1 g1 ok1 s1 p1 q1 => ?_)
  cases c with
  | true => rw [if_pos rfl]; exact k _ F1 H1 κ1 g1 ok1 s1 p1 (q1.1 rfl)
  | false => rw [if_neg Bool.false_ne_true]; exact hb g1 Q (q1.2 rfl) σ F1 H1 κ1 Qv ok1 (k.at s1 p1)
theorem st_not (ha : ST ks X C env a Ta) : ST ks X C env (.UnaryOp .Not a pos) (fun g Q => Ta g fun k g1 => Q (!k) g1) := by
  intro g Q h σ F H κ Qv ok k
  exact wT_of (pt_not pt_w) (ha g _ h σ F H κ _ ok fun c F1 H1 κ1 g1 ok1 s1 p1 q1 => k _ F1 H1 κ1 g1 ok1 s1 p1 q1)
end

/-! ### displays -/
theorem sizeL {n : Nat} (h : n ≤ 1000000) : n ≤ sizeLine := Nat.le_trans h (by decide)
theorem se_tup {es : List Expr} {x1 : Nat} {W : Rg → (List Rv → Rg → Prop) → Prop} (hs : SA ks X C env es W) :
    SE ks X C env (.Tuple es x1 pos) (fun g Q => W g fun rs g1 => wFrzL rs g1 fun ds g2 => ds.length ≤ 1000000 ∧ Q (.dat (.tup ds)) g2) := by
  intro g Q h σ F H κ Qv ok k
  refine wE_of (pe_tup pa_w) (hs g _ h σ F H κ _ ok fun vs F1 H1 κ1 rs g1 ok1 s1 p1 rv1 q1 => ?_)
  obtain ⟨F2, ds, g2, s2, ok2, a2, hl, q⟩ := wFrzL_ok q1 ok1 rv1
  have el : vs.length = ds.length := (Ats.all2 a2).length
  refine ⟨sizeL (by omega), fun p hp => ?_⟩
  have sF := ok2.newD_F (o := .tup vs) hp
  exact k _ _ _ κ1 _ g2 (ok2.newD hp) ((s1.trans s2).trans sF) p1 (rv_d (.tup upd_same (Ats.mono sF a2))) q
theorem se_lst {es : List Expr} {W : Rg → (List Rv → Rg → Prop) → Prop} (hs : SA ks X C env es W) :
    SE ks X C env (.List es pos) (fun g Q => W g fun rs g1 => rs.length ≤ 1000000 ∧ Q (.ref g1.length) (g1 ++ [.lst rs])) := by
  intro g Q h σ F H κ Qv ok k
  refine wE_of (pe_lst pa_w) (hs g _ h σ F H κ _ ok fun vs F1 H1 κ1 rs g1 ok1 s1 p1 rv1 q1 => ?_)
  have el := rv1.length
  refine ⟨sizeL (by omega), fun p hp => ?_⟩
  have fresh := ok1.fresh hp
  exact k _ _ _ (κ1 ++ [p]) _ _ (ok1.newC (cell := .lst rs) hp ⟨fresh.1, fresh.2, vs, upd_same, rv1.imp fun _ _ z => z.mono (Same.refl _) (Pre.app _ _)⟩) s1 (p1.trans (Pre.app _ _)) (rv_new ok1.g.len) q1.2
end
end DW

/-! ## DW4.lean -/
set_option Elab.async false
set_option linter.all false
set_option maxRecDepth 100000
set_option maxHeartbeats 2000000
set_option autoImplicit false
/-! DW4: equality of data; the operators. -/
namespace DW
open PySem PySem.Spec L2
open PyProof.Rows hiding St

/-! ### == -/
mutual
def eqv : D → D → Bool
  | .non, e => match e with | .non => true | _ => false
  | .bl a, e => match e with | .bl b => a == b | .int j => (if a then 1 else 0) == j | _ => false
  | .int i, e => match e with | .bl b => i == (if b then 1 else 0) | .int j => i == j | _ => false
  | .str a, e => match e with | .str b => a == b | _ => false
  | .lst ds, e => match e with | .lst es => eqvs ds es | _ => false
  | .tup ds, e => match e with | .tup es => eqvs ds es | _ => false
  | .dic _, _ => false
  | .scr _, _ => false
def eqvs : List D → List D → Bool
  | [], es => es.isEmpty
  | d :: ds, es => match es with | [] => false | e :: es => eqv d e && eqvs ds es
end
mutual
/-- no dicts in it, of depth n at most -/
def plN : Nat → D → Bool
  | _, .non => true
  | _, .bl _ => true
  | _, .int _ => true
  | _, .str _ => true
  | n, .lst ds => plAll n ds
  | n, .tup ds => plAll n ds
  | _, .dic _ => false
  | _, .scr _ => false
def plAll : Nat → List D → Bool
  | _, [] => true
  | 0, _ :: _ => false
  | n + 1, d :: ds => plN n d && plAll (n + 1) ds
end
mutual
def toPy (ks : Kt) : D → PyData
  | .non => .none
  | .bl b => .bool b
  | .int i => .int i
  | .str k => .str (ks.w.getD k ⟨#[]⟩)
  | .lst ds => .list (toPys ks ds)
  | .tup ds => .tuple (toPys ks ds)
  | .dic _ => .none
  | .scr _ => .none
def toPys (ks : Kt) : List D → List PyData
  | [] => []
  | d :: ds => toPy ks d :: toPys ks ds
end
section
variable {ks : Kt} {X : Cx} {C : Ent} {env : En} {σ : L2.St} {F H : Hp} {κ : List Addr}
theorem getD_of {k : Nat} {x : Str} (h : ks.w[k]? = some x) : ks.w.getD k ⟨#[]⟩ = x := by rw [List.getD_eq_getElem?_getD, h]; rfl
mutual
theorem At.dp {K : PySem.W.Frag} (s : Same F H) : ∀ {d : D} {n : Nat} {v : V}, At ks F v d → plN n d = true → Dp K H v (toPy ks d)
  | .non, _, _, h, _ => by cases h; simp only [toPy]; exact .non
  | .bl b, _, _, h, _ => by cases h; simp only [toPy]; exact .bl b
  | .int i, _, _, h, _ => by cases h; simp only [toPy]; exact .int i
  | .str k, _, _, h, _ => by
    cases h with
    | str e => simp only [toPy]; rw [getD_of e]; exact .str _
  | .lst ds, n, _, h, p => by
    cases h with
    | lst e a => simp only [toPy]; exact .lst (SqL.of (s _ _ e)) (Ats.dp s a (by simpa only [plN] using p))
  | .tup ds, n, _, h, p => by
    cases h with
    | tup e a => simp only [toPy]; exact .tup (SqT.of (s _ _ e)) (Ats.dp s a (by simpa only [plN] using p))
  | .dic _, _, _, _, p => by simp [plN] at p
  | .scr _, _, _, _, p => by simp [plN] at p
theorem Ats.dp {K : PySem.W.Frag} (s : Same F H) : ∀ {ds : List D} {n : Nat} {vs : List V}, Ats ks F vs ds → plAll n ds = true → DpAll K H vs (toPys ks ds)
  | [], _, _, h, _ => by cases h; simp only [toPys]; exact .nil
  | d :: ds, 0, _, _, p => by simp [plAll] at p
  | d :: ds, n + 1, _, h, p => by
    simp only [plAll, Bool.and_eq_true] at p
    cases h with
    | cons a b => simp only [toPys]; exact .cons (At.dp s a p.1) (Ats.dp s b p.2)
end
mutual
theorem depth_le : ∀ {d : D} {n : Nat}, plN n d = true → (toPy ks d).depth ≤ n + 1
  | .non, n, _ => by simp [toPy, PyData.depth]
  | .bl _, n, _ => by simp [toPy, PyData.depth]
  | .int _, n, _ => by simp [toPy, PyData.depth]
  | .str _, n, _ => by simp [toPy, PyData.depth]
  | .lst ds, n, p => by
    have h := depths_le (ds := ds) (n := n) (by simpa only [plN] using p)
    simp only [toPy, PyData.depth]; omega
  | .tup ds, n, p => by
    have h := depths_le (ds := ds) (n := n) (by simpa only [plN] using p)
    simp only [toPy, PyData.depth]; omega
  | .dic _, _, p => by simp [plN] at p
  | .scr _, _, p => by simp [plN] at p
theorem depths_le : ∀ {ds : List D} {n : Nat}, plAll n ds = true → PyData.depthAll (toPys ks ds) ≤ n
  | [], n, _ => by simp [toPys, PyData.depthAll]
  | d :: ds, 0, p => by simp [plAll] at p
  | d :: ds, n + 1, p => by
    simp only [plAll, Bool.and_eq_true] at p
    have h1 := depth_le (d := d) (n := n) p.1
    have h2 := depths_le (ds := ds) (n := n + 1) p.2
    simp only [toPys, PyData.depthAll]; omega
end
mutual
theorem canLay (hs : ∀ x ∈ ks.w, PyData.strOk x = true) : ∀ {d : D} {n : Nat}, plN n d = true → (toPy ks d).canLay0 = true
  | .non, n, _ => by simp [toPy, PyData.canLay0]
  | .bl _, n, _ => by simp [toPy, PyData.canLay0]
  | .int _, n, _ => by simp [toPy, PyData.canLay0]
  | .str k, n, _ => by
    simp only [toPy, PyData.canLay0]
    by_cases h : k < ks.w.length
    · rw [getD_of (List.getElem?_eq_getElem h)]; exact hs _ (List.getElem_mem h)
    · rw [List.getD_eq_getElem?_getD, List.getElem?_eq_none (by omega)]; simp [PyData.strOk]
  | .lst ds, n, p => by
    simp only [toPy, PyData.canLay0]
    exact canLays hs (by simpa only [plN] using p)
  | .tup ds, n, p => by
    simp only [toPy, PyData.canLay0]
    exact canLays hs (by simpa only [plN] using p)
  | .dic _, _, p => by simp [plN] at p
  | .scr _, _, p => by simp [plN] at p
theorem canLays (hs : ∀ x ∈ ks.w, PyData.strOk x = true) : ∀ {ds : List D} {n : Nat}, plAll n ds = true → PyData.canLayAll0 (toPys ks ds) = true
  | [], n, _ => by simp [toPys, PyData.canLayAll0]
  | d :: ds, 0, p => by simp [plAll] at p
  | d :: ds, n + 1, p => by
    simp only [plAll, Bool.and_eq_true] at p
    simp only [toPys, PyData.canLayAll0, canLay hs p.1, canLays hs p.2, Bool.and_self]
end
theorem shaped_pl (hs : ∀ x ∈ ks.w, PyData.strOk x = true) {d : D} (p : plN 60 d = true) : SeqAt.shaped (toPy ks d) = true := by
  unfold SeqAt.shaped
  rw [canLay hs p]
  have := depth_le (ks := ks) p
  simp; omega
theorem str_eqv (nd : ks.w.Nodup) {a b : Nat} {x y : Str} (h : ks.w[a]? = some x) (h' : ks.w[b]? = some y) : (x == y) = (a == b) := by
  by_cases e : a = b
  · subst e
    rw [h] at h'; cases h'
    simp
  · have : x ≠ y := by
      rintro rfl
      obtain ⟨l1, q1⟩ := List.getElem?_eq_some_iff.mp h
      obtain ⟨l2, q2⟩ := List.getElem?_eq_some_iff.mp h'
      exact e ((List.getElem_inj nd).mp (q1.trans q2.symm))
    rw [beq_eq_false_iff_ne.mpr this, beq_eq_false_iff_ne.mpr e]
mutual
theorem eqv_py (nd : ks.w.Nodup) {F2 : Hp} : ∀ {d e : D} {n m : Nat} {v w : V}, At ks F v d → At ks F2 w e → plN n d = true → plN m e = true → PyData.eqv (toPy ks d) (toPy ks e) = eqv d e
  | .non, e, _, _, _, _, _, h', _, p' => by cases e <;> first | rfl | simp [plN] at p'
  | .bl a, e, _, _, _, _, _, h', _, p' => by cases e <;> first | rfl | simp [toPy, PyData.eqv, eqv] | simp [plN] at p'
  | .int a, e, _, _, _, _, _, h', _, p' => by cases e <;> first | rfl | simp [toPy, PyData.eqv, eqv] | simp [plN] at p'
  | .str a, e, _, _, _, _, h, h', _, p' => by
    cases e with
    | str b =>
      cases h with
      | str q =>
        cases h' with
        | str q' =>
          simp only [toPy, PyData.eqv, eqv]
          rw [getD_of q, getD_of q']
          exact str_eqv nd q q'
    | _ => first | rfl | simp [plN] at p'
  | .lst ds, e, n, m, _, _, h, h', p, p' => by
    cases e with
    | lst es =>
      cases h with
      | lst _ a =>
        cases h' with
        | lst _ b =>
          simp only [toPy, PyData.eqv, eqv]
          exact eqvs_py nd a b (by simpa only [plN] using p) (by simpa only [plN] using p')
    | _ => first | rfl | simp [plN] at p'
  | .tup ds, e, n, m, _, _, h, h', p, p' => by
    cases e with
    | tup es =>
      cases h with
      | tup _ a =>
        cases h' with
        | tup _ b =>
          simp only [toPy, PyData.eqv, eqv]
          exact eqvs_py nd a b (by simpa only [plN] using p) (by simpa only [plN] using p')
    | _ => first | rfl | simp [plN] at p'
  | .dic _, _, _, _, _, _, _, _, p, _ => by simp [plN] at p
  | .scr _, _, _, _, _, _, _, _, p, _ => by simp [plN] at p
theorem eqvs_py (nd : ks.w.Nodup) {F2 : Hp} : ∀ {ds es : List D} {n m : Nat} {vs ws : List V}, Ats ks F vs ds → Ats ks F2 ws es → plAll n ds = true → plAll m es = true → PyData.eqvAll (toPys ks ds) (toPys ks es) = eqvs ds es
  | [], [], _, _, _, _, _, _, _, _ => by simp [toPys, PyData.eqvAll, eqvs]
  | [], _ :: _, _, _, _, _, _, _, _, _ => by simp [toPys, PyData.eqvAll, eqvs]
  | _ :: _, [], _, _, _, _, _, _, _, _ => by simp [toPys, PyData.eqvAll, eqvs]
  | d :: ds, e :: es, 0, _, _, _, _, _, p, _ => by simp [plAll] at p
  | d :: ds, e :: es, _, 0, _, _, _, _, _, p => by simp [plAll] at p
  | d :: ds, e :: es, n + 1, m + 1, _, _, h, h', p, p' => by
    simp only [plAll, Bool.and_eq_true] at p p'
    cases h with
    | cons a b =>
      cases h' with
      | cons a' b' =>
        simp only [toPys, PyData.eqvAll, eqvs]
        rw [eqv_py nd a a' p.1 p'.1, eqvs_py nd b b' p.2 p'.2]
end
end

/-! ### the operators -/
section
variable {ks : Kt} {X : Cx} {C : Ent} {env : En} {pos : Pos}
def bI0 (f : Int → Int → D) : Rv → Rv → Rg → RQ → Prop := fun rx ry g Q => ∃ i j, rx = .dat (.int i) ∧ ry = .dat (.int j) ∧ Q (.dat (f i j)) g
def bIC (cnd : Int → Int → Prop) (f : Int → Int → D) : Rv → Rv → Rg → RQ → Prop := fun rx ry g Q => ∃ i j, rx = .dat (.int i) ∧ ry = .dat (.int j) ∧ cnd i j ∧ Q (.dat (f i j)) g
theorem binI {f : Int → Int → Int} : BinOk ks X C env (rI0 fun i j => .int (f i j)) (bI0 fun i j => .int (f i j)) := by
  rintro g rx ry Q ⟨i, j, rfl, rfl, q⟩ σ F H κ Qv x y ok hx hy k
  exact ⟨i, j, At.intI hx, At.intI hy, k.here ok (rv_int _) q⟩
theorem binB {f : Int → Int → Bool} : BinOk ks X C env (rI0 fun i j => .bl (f i j)) (bI0 fun i j => .bl (f i j)) := by
  rintro g rx ry Q ⟨i, j, rfl, rfl, q⟩ σ F H κ Qv x y ok hx hy k
  exact ⟨i, j, At.intI hx, At.intI hy, k.here ok (rv_bl _) q⟩
theorem binIC {cnd : Int → Int → Prop} {f : Int → Int → Int} : BinOk ks X C env (rI cnd fun i j => .int (f i j)) (bIC cnd fun i j => .int (f i j)) := by
  rintro g rx ry Q ⟨i, j, rfl, rfl, c, q⟩ σ F H κ Qv x y ok hx hy k
  exact ⟨i, j, At.intI hx, At.intI hy, c, k.here ok (rv_int _) q⟩
/-- what the words of the text must be for == -/
structure KsOk (ks : Kt) : Prop where
  nd : ks.w.Nodup
  ok : ∀ x ∈ ks.w, PyData.strOk x = true
def bEq (neg : Bool) : Rv → Rv → Rg → RQ → Prop := fun rx ry g Q => ∃ d e, RD g 0 rx d ∧ RD g 0 ry e ∧ plN 60 d = true ∧ plN 60 e = true ∧ Q (.dat (.bl (if neg then !eqv d e else eqv d e))) g
theorem RD.dp {σ : L2.St} {F H : Hp} {κ : List Addr} {g : Rg} {r : Rv} {d : D} {v : V} {K : PySem.W.Frag} (h : RD g 0 r d) (ok : Ok ks C σ F H κ env g) (rv : RvOk ks F κ v r) (p : plN 60 d = true) :
    ∃ F', At ks F' v d ∧ Dp K H v (toPy ks d) := by
  obtain ⟨F', s, ok', a⟩ := h.ok (Nat.zero_le _) ok rv
  exact ⟨F', a, At.dp ok'.ch.fh a p⟩
theorem binEq (hk : KsOk ks) : BinOk ks X C env (rEqD X.K) (bEq false) := by
  rintro g rx ry Q ⟨d, e, hd, he, pd, pe, q⟩ σ F H κ Qv x y ok hx hy k
  obtain ⟨F1, a1, d1⟩ := hd.dp (K := X.K) ok hx pd
  obtain ⟨F2, a2, d2⟩ := he.dp (K := X.K) ok hy pe
  refine ⟨_, _, d1, d2, shaped_pl hk.ok pd, shaped_pl hk.ok pe, ?_⟩
  rw [eqv_py hk.nd a1 a2 pd pe]
  exact k.here ok (rv_bl _) q
theorem binNe (hk : KsOk ks) : BinOk ks X C env (rNeD X.K) (bEq true) := by
  rintro g rx ry Q ⟨d, e, hd, he, pd, pe, q⟩ σ F H κ Qv x y ok hx hy k
  obtain ⟨F1, a1, d1⟩ := hd.dp (K := X.K) ok hx pd
  obtain ⟨F2, a2, d2⟩ := he.dp (K := X.K) ok hy pe
  refine ⟨_, _, d1, d2, shaped_pl hk.ok pd, shaped_pl hk.ok pe, ?_⟩
  rw [eqv_py hk.nd a1 a2 pd pe]
  exact k.here ok (rv_bl _) q
def isNon : Rv → Bool
  | .dat .non => true
  | _ => false
def bIs (neg : Bool) : Rv → Rv → Rg → RQ → Prop := fun rx ry g Q => ry = .dat .non ∧ Q (.dat (.bl (if neg then !isNon rx else isNon rx))) g
theorem isNon_of {F : Hp} {κ : List Addr} {x : V} {rx : Rv} (h : RvOk ks F κ x rx) : decide (x = .non) = isNon rx := by
  cases rx with
  | ref c => obtain ⟨a, _, rfl⟩ := h; rfl
  | dat d => cases h <;> rfl
theorem binIs : BinOk ks X C env (fun x y H Q => y = .non ∧ Q (.bl (decide (x = .non))) H) (bIs false) := by
  rintro g rx ry Q ⟨rfl, q⟩ σ F H κ Qv x y ok hx hy k
  refine ⟨At.nonI hy, ?_⟩
  rw [isNon_of hx]
  exact k.here ok (rv_bl _) q
theorem binIsNot : BinOk ks X C env (fun x y H Q => y = .non ∧ Q (.bl (!decide (x = .non))) H) (bIs true) := by
  rintro g rx ry Q ⟨rfl, q⟩ σ F H κ Qv x y ok hx hy k
  refine ⟨At.nonI hy, ?_⟩
  rw [isNon_of hx]
  exact k.here ok (rv_bl _) q
/-! in, over a list of data -/
def bIn (neg : Bool) : Rv → Rv → Rg → RQ → Prop := fun rx ry g Q => ∃ (d : D) (ds : List D), RD g 0 rx d ∧ RD g 0 ry (.lst ds) ∧ plN 60 d = true ∧ plAll 60 ds = true ∧ Q (.dat (.bl (if neg then !(ds.any fun e => eqv e d) else ds.any fun e => eqv e d))) g
theorem any_py (nd : ks.w.Nodup) {F F2 : Hp} {d : D} {n m : Nat} {w : V} (hd : At ks F2 w d) (pd : plN m d = true) : ∀ {ds : List D} {vs : List V}, Ats ks F vs ds → plAll n ds = true → ((toPys ks ds).any fun z => PyData.eqv z (toPy ks d)) = ds.any fun e => eqv e d
  | [], _, _, _ => by simp [toPys]
  | e :: ds, _, h, p => by
    cases n with
    | zero => simp [plAll] at p
    | succ n =>
      simp only [plAll, Bool.and_eq_true] at p
      cases h with
      | cons a b =>
        simp only [toPys, List.any_cons]
        rw [eqv_py nd a hd p.1 pd, any_py nd hd pd b p.2]
theorem binIn (hk : KsOk ks) (neg : Bool) : BinOk ks X C env (if neg then rNotInD X.K else rInD X.K) (bIn neg) := by
  rintro g rx ry Q ⟨d, ds, hd, he, pd, pe, q⟩ σ F H κ Qv x y ok hx hy k
  have pe' : plN 60 (.lst ds) = true := by simpa only [plN] using pe
  obtain ⟨F1, a1, d1⟩ := hd.dp (K := X.K) ok hx pd
  obtain ⟨F2, a2, d2⟩ := he.dp (K := X.K) ok hy pe'
  have e : ((toPys ks ds).any fun z => PyData.eqv z (toPy ks d)) = ds.any fun e => eqv e d := by
    cases a2 with
    | lst _ b => exact any_py hk.nd a1 pd b pe
  have sh := shaped_pl hk.ok pe'
  simp only [toPy] at d2 sh
  cases neg with
  | false =>
    refine ⟨_, _, d1, d2, shaped_pl hk.ok pd, sh, ?_⟩
    rw [e]
    exact k.here ok (rv_bl _) q
  | true =>
    refine ⟨_, _, d1, d2, shaped_pl hk.ok pd, sh, ?_⟩
    rw [e]
    exact k.here ok (rv_bl _) q
/-! lists, tuples -/
def bCat : Rv → Rv → Rg → RQ → Prop := fun rx ry g Q => ∃ xs ys, lstOf g rx = some xs ∧ lstOf g ry = some ys ∧ xs.length + ys.length ≤ 1000000 ∧ Q (.ref g.length) (g ++ [.lst (xs ++ ys)])
theorem Ok.newL {σ : L2.St} {F H : Hp} {κ : List Addr} {g : Rg} {p : Addr} {xs : List V} {rs : List Rv} (ok : Ok ks C σ F H κ env g) (hp : H p = none) (h : All2 (RvOk ks F κ) xs rs) :
    Ok ks C σ F (upd H p (.lst xs)) (κ ++ [p]) env (g ++ [.lst rs]) :=
  ok.newC (cell := .lst rs) hp ⟨(ok.fresh hp).1, (ok.fresh hp).2, xs, upd_same, h.imp fun _ _ z => z.mono (Same.refl _) (Pre.app _ _)⟩
theorem Kont.newL {σ : L2.St} {F H : Hp} {κ : List Addr} {g : Rg} {p : Addr} {xs : List V} {rs : List Rv} {Q : RQ} {Qv : VK} (k : Kont ks C env σ F κ Q Qv) (ok : Ok ks C σ F H κ env g) (hp : H p = none) (h : All2 (RvOk ks F κ) xs rs) (q : Q (.ref g.length) (g ++ [.lst rs])) :
    Qv (.ref p) (upd H p (.lst xs)) := k _ F _ _ _ _ (ok.newL hp h) (Same.refl F) (Pre.app _ _) (rv_new ok.g.len) q
theorem binCat : BinOk ks X C env rCat bCat := by
  rintro g rx ry Q ⟨xs, ys, e1, e2, l, q⟩ σ F H κ Qv x y ok hx hy k
  obtain ⟨a, vs, rfl, h1, h2⟩ := hx.lst ok e1
  obtain ⟨b, ws, rfl, h3, h4⟩ := hy.lst ok e2
  refine ⟨a, b, vs, ws, rfl, rfl, h1, h3, ?_, fun p hp => k.newL ok hp (h2.append h4) q⟩
  rw [h2.length, h4.length]
  exact sizeL l
def bRep : Rv → Rv → Rg → RQ → Prop := fun rx ry g Q => ∃ xs n, lstOf g rx = some xs ∧ ry = .dat (.int n) ∧ -(2 ^ 63) ≤ n ∧ n < 2 ^ 63 ∧ xs.length * n.toNat ≤ 1000000 ∧ Q (.ref g.length) (g ++ [.lst ((List.replicate n.toNat xs).flatten)])
theorem All2.rep {α β : Type} {R : α → β → Prop} {l : List α} {m : List β} (h : All2 R l m) : ∀ n : Nat, All2 R (List.replicate n l).flatten (List.replicate n m).flatten
  | 0 => .nil
  | n + 1 => by
    rw [List.replicate_succ, List.replicate_succ, List.flatten_cons, List.flatten_cons]
    exact h.append (All2.rep h n)
theorem binRep : BinOk ks X C env rRep bRep := by
  rintro g rx ry Q ⟨xs, n, e1, rfl, l1, l2, l, q⟩ σ F H κ Qv x y ok hx hy k
  obtain ⟨a, vs, rfl, h1, h2⟩ := hx.lst ok e1
  refine ⟨a, n, vs, rfl, At.intI hy, h1, l1, l2, ?_, fun p hp => k.newL ok hp (h2.rep _) q⟩
  rw [h2.length]
  exact sizeL l
def bCatT : Rv → Rv → Rg → RQ → Prop := fun rx ry g Q => ∃ xs ys, rx = .dat (.tup xs) ∧ ry = .dat (.tup ys) ∧ xs ≠ [] ∧ ys ≠ [] ∧ xs.length + ys.length ≤ 1000000 ∧ Q (.dat (.tup (xs ++ ys))) g
theorem Kont.newT {σ : L2.St} {F H : Hp} {κ : List Addr} {g : Rg} {p : Addr} {xs : List V} {ds : List D} {Q : RQ} {Qv : VK} (k : Kont ks C env σ F κ Q Qv) (ok : Ok ks C σ F H κ env g) (hp : H p = none) (h : Ats ks F xs ds) (q : Q (.dat (.tup ds)) g) :
    Qv (.ref p) (upd H p (.tup xs)) := k _ _ _ κ _ g (ok.newD hp) (ok.newD_F hp) (Pre.refl κ) (rv_d (.tup upd_same (Ats.mono (ok.newD_F hp) h))) q
theorem binCatT : BinOk ks X C env (rCatT X.K) bCatT := by
  rintro g rx ry Q ⟨xs, ys, rfl, rfl, n1, n2, l, q⟩ σ F H κ Qv x y ok hx hy k
  obtain ⟨a, vs, rfl, h1, h2⟩ := At.tupI hx
  obtain ⟨b, ws, rfl, h3, h4⟩ := At.tupI hy
  have l1 := (Ats.all2 h2).length
  have l2 := (Ats.all2 h4).length
  refine ⟨a, b, vs, ws, rfl, rfl, SqT.of (ok.ch.fh _ _ h1), SqT.of (ok.ch.fh _ _ h3), ?_, by rw [l1, l2]; exact sizeL l, ?_⟩
  · rintro rfl; apply n1; cases xs with | nil => rfl | cons _ _ => simp at l1
  · refine ⟨fun z => ?_, fun _ p hp => k.newT ok hp (Ats.of_all2 ((Ats.all2 h2).append (Ats.all2 h4))) q⟩
    subst z; exact absurd (by cases ys with | nil => rfl | cons _ _ => simp at l2) n2
/-! subscripts -/
section
variable {a b : Expr} {Wa Wb : Rg → RQ → Prop} {r : R2} {B : Rv → Rv → Rg → RQ → Prop}
theorem se_ix (hr : IxR X r) (hs : PlainIx b) (ha : SE ks X C env a Wa) (hb : SE ks X C env b Wb) (hB : BinOk ks X C env r B) :
    SE ks X C env (.Subscript a b pos) (fun g Q => Wa g fun r1 g1 => Wb g1 fun r2 g2 => B r1 r2 g2 Q) :=
  fun g Q h σ F H κ Qv ok k => wE_of (pe_ix hr pe_w pe_w hs) (two ha hb hB ok k h)
end
theorem All2.atI {α β : Type} {R : α → β → Prop} {l : List α} {m : List β} (h : All2 R l m) {i : Int} {y : β} (e : atI m i = some y) : ∃ x, atI l i = some x ∧ R x y := by
  unfold L2.atI at e ⊢
  rw [h.length]
  obtain ⟨j, h1, h2⟩ := Option.bind_eq_some_iff.mp e
  obtain ⟨x, h3, h4⟩ := h.get h2
  exact ⟨x, by rw [h1]; exact h3, h4⟩
def bIxL : Rv → Rv → Rg → RQ → Prop := fun rx ry g Q => ∃ rs i r, lstOf g rx = some rs ∧ ry = .dat (.int i) ∧ atI rs i = some r ∧ Q (nrm g r) g
theorem binIxL : BinOk ks X C env (rIxL X.K) bIxL := by
  rintro g rx ry Q ⟨rs, i, r, e1, rfl, e2, q⟩ σ F H κ Qv x y ok hx hy k
  obtain ⟨a, vs, rfl, h1, h2⟩ := hx.lst ok e1
  obtain ⟨v, h3, h4⟩ := h2.atI e2
  exact ⟨a, vs, i, v, rfl, At.intI hy, SqL.of h1, h3, k.here ok (h4.nrm ok) q⟩
def bIxT : Rv → Rv → Rg → RQ → Prop := fun rx ry g Q => ∃ ds i d, rx = .dat (.tup ds) ∧ ry = .dat (.int i) ∧ atI ds i = some d ∧ Q (.dat d) g
theorem binIxT : BinOk ks X C env (rIxT X.K) bIxT := by
  rintro g rx ry Q ⟨ds, i, d, rfl, rfl, e2, q⟩ σ F H κ Qv x y ok hx hy k
  obtain ⟨a, vs, rfl, h1, h2⟩ := At.tupI hx
  obtain ⟨v, h3, h4⟩ := (Ats.all2 h2).atI e2
  exact ⟨a, vs, i, v, rfl, At.intI hy, SqT.of (ok.ch.fh _ _ h1), h3, k.here ok (rv_d h4) q⟩
def bIxS : Rv → Rv → Rg → RQ → Prop := fun rx ry g Q => ∃ ns i n, rx = .dat (.scr ns) ∧ ry = .dat (.int i) ∧ atI ns i = some n ∧ Q (.dat (.int n)) g
theorem binIxS (hK : ks.K = X.K) : BinOk ks X C env (rIxL X.K) bIxS := by
  rintro g rx ry Q ⟨ns, i, n, rfl, rfl, e2, q⟩ σ F H κ Qv x y ok hx hy k
  obtain ⟨a, rfl, h1⟩ := At.scrI hx
  rw [hK] at h1
  refine ⟨a, ns.map V.int, i, .int n, rfl, At.intI hy, ok.ch.fh.seq h1, ?_, k.here ok (rv_int n) q⟩
  unfold L2.atI at e2 ⊢
  obtain ⟨j, h1, h2⟩ := Option.bind_eq_some_iff.mp e2
  rw [List.length_map, h1]
  show (ns.map V.int)[j]? = _
  rw [List.getElem?_map, h2]; rfl
/-! dicts -/
def dicOf (g : Rg) : Rv → Option (List (Nat × Rv))
  | .dat (.dic kds) => some (kds.map fun p => (p.1, .dat p.2))
  | .dat _ => none
  | .ref c => match g[c]? with | some (.dic rs) => some rs | some (.fz (.dic kds)) => some (kds.map fun p => (p.1, .dat p.2)) | _ => none
theorem Atk.all2 {F : Hp} {κ : List Addr} : ∀ {v : List (Key × V)} {d : List (Nat × D)}, Atk ks F v d → All2 (KvOk ks F κ) v (d.map fun p => (p.1, .dat p.2))
  | _, _, .nil => .nil
  | _, _, .cons e a s => .cons ⟨⟨_, e, rfl⟩, a⟩ (Atk.all2 s)
theorem RvOk.dic {σ : L2.St} {F H : Hp} {κ : List Addr} {g : Rg} {v : V} {r : Rv} {rs : List (Nat × Rv)} (ok : Ok ks C σ F H κ env g) (h : RvOk ks F κ v r) (e : dicOf g r = some rs) : ∃ a xs, v = .ref a ∧ H a = some (.dK xs) ∧ All2 (KvOk ks F κ) xs rs := by
  have fromD : ∀ {v : V} {ds : List (Nat × D)}, At ks F v (.dic ds) → ∃ a xs, v = .ref a ∧ H a = some (.dK xs) ∧ All2 (KvOk ks F κ) xs (ds.map fun p => (p.1, .dat p.2)) := fun {v ds} q => by
    cases q with
    | dic e1 s => exact ⟨_, _, rfl, ok.ch.fh _ _ e1, Atk.all2 s⟩
  cases r with
  | dat d =>
    cases d with
    | dic ds => simp only [dicOf, Option.some.injEq] at e; subst e; exact fromD h
    | _ => simp [dicOf] at e
  | ref c =>
    obtain ⟨a, e1, rfl⟩ := h
    simp only [dicOf] at e
    split at e
    · rename_i rs' hc
      cases e
      obtain ⟨_, _, xs, h1, h2⟩ := ok.g.cells c _ a hc e1
      exact ⟨a, xs, rfl, h1, h2⟩
    · rename_i ds hc
      cases e
      exact fromD (ok.g.cells c _ a hc e1)
    · cases e
theorem key_eq (nd : ks.w.Nodup) {a b : Nat} {x y : Str} (h : ks.w[a]? = some x) (h' : ks.w[b]? = some y) : (decide ((.inr x : Key) = .inr y)) = (b == a) := by
  rw [key_rr]
  have := str_eqv nd h h'
  by_cases e : x = y
  · rw [decide_eq_true e]
    rw [beq_iff_eq.mpr e] at this
    have z : a = b := beq_iff_eq.mp this.symm
    rw [z]; simp
  · rw [decide_eq_false e]
    rw [beq_eq_false_iff_ne.mpr e] at this
    have z : a ≠ b := beq_eq_false_iff_ne.mp this.symm
    exact (beq_eq_false_iff_ne.mpr (Ne.symm z)).symm
theorem lookup_kv (nd : ks.w.Nodup) {F : Hp} {κ : List Addr} {k : Nat} {x : Str} (hx : ks.w[k]? = some x) : ∀ {kvs : List (Key × V)} {krs : List (Nat × Rv)}, All2 (KvOk ks F κ) kvs krs →
    (∀ r, krs.lookup k = some r → ∃ v, valV kvs (.inr x) = some v ∧ RvOk ks F κ v r)
  | _, _, .nil => fun r e => by simp at e
  | _, _, @All2.cons _ _ _ p q l m h t => fun r e => by
    obtain ⟨p1, p2⟩ := p
    obtain ⟨q1, q2⟩ := q
    obtain ⟨⟨y, hy, ep⟩, hv⟩ := h
    dsimp only at hy ep hv
    subst ep
    rw [List.lookup_cons] at e
    unfold valV
    rw [List.find?_cons]
    dsimp only
    rw [key_eq nd hy hx]
    cases hb : (k == q1) with
    | true =>
      rw [hb] at e
      simp only [Option.some.injEq] at e
      subst e
      exact ⟨p2, rfl, hv⟩
    | false =>
      rw [hb] at e
      exact lookup_kv nd hx t r e
def bIxK : Rv → Rv → Rg → RQ → Prop := fun rx ry g Q => ∃ kr k r, dicOf g rx = some kr ∧ ry = .dat (.str k) ∧ kr.lookup k = some r ∧ Q (nrm g r) g
theorem se_dget {a b : Expr} {Wa Wb : Rg → RQ → Prop} (hk : KsOk ks) (hu : X.A.units + 1 < cLine) (hs : NoSl b) (ha : SE ks X C env a Wa) (hb : SE ks X C env b Wb) :
    SE ks X C env (.Subscript a b pos) (fun g Q => Wa g fun r1 g1 => Wb g1 fun r2 g2 => bIxK r1 r2 g2 Q) := by
  intro g Q h σ F H κ Qv ok k
  refine wE_of (pe_dget hu pe_w pe_w hs) ?_
  refine two (r := fun x y H Q => ∃ a v, x = .ref a ∧ DGet H a y (some v) ∧ Q v H) (B := bIxK) ha hb ?_ ok k h
  rintro g rx ry Q ⟨kr, kk, r, e1, rfl, e2, q⟩ σ F H κ Qv x y ok hx hy k
  obtain ⟨a, kvs, rfl, h1, h2⟩ := hx.dic ok e1
  obtain ⟨z, rfl, hz⟩ := At.strI hy
  obtain ⟨v, h3, h4⟩ := lookup_kv hk.nd hz h2 r e2
  refine ⟨a, v, rfl, ?_, k.here ok (h4.nrm ok) q⟩
  have q := DGet.k (H := H) (a := a) (kvs := kvs) (k := .inr z) h1
  rw [h3] at q
  exact q
end
end DW

/-! ## DW5.lean -/
set_option Elab.async false
set_option linter.all false
set_option maxRecDepth 100000
set_option maxHeartbeats 2000000
set_option autoImplicit false
/-! DW5: slices, calls, methods, dict displays, what is walked, comprehensions. -/
namespace DW
open PySem PySem.Spec L2
open PyProof.Rows hiding St

section
variable {ks : Kt} {X : Cx} {C : Ent} {env : En} {pos : Pos}
/-! ### slices -/
def wO (X : Cx) (e : Option Expr) : TO := fun σ H Q => ∀ pins s, Inv X pins σ H s → wpAny (model X.prog X.w) X.A (evalPart e X.env) (fun u s' => ∃ o H', Inv X pins σ H' s' ∧ IsPart u o ∧ Q o H') X.xe s
theorem po_w {e : Option Expr} : PO X e (wO X e) := ⟨fun pins s σ H Q I h => h pins s I⟩
theorem wO_of {e : Option Expr} {t : TO} {σ : L2.St} {H : Hp} {Q : Option Int → Hp → Prop} (p : PO X e t) (h : t σ H Q) : wO X e σ H Q := fun pins s I => p.run pins s σ H Q I h
def SO (ks : Kt) (X : Cx) (C : Ent) (env : En) (e : Option Expr) (W : Rg → (Option Int → Rg → Prop) → Prop) : Prop := ∀ g Q, W g Q → ∀ σ F H κ Qo, Ok ks C σ F H κ env g →
  (∀ o F' H' κ' g', Ok ks C σ F' H' κ' env g' → Same F F' → Pre κ κ' → Q o g' → Qo o H') → wO X e σ H Qo
theorem so_none : SO ks X C env none (fun g Q => Q none g) := fun g Q h σ F H κ Qo ok k => wO_of po_none (k none F H κ g ok (Same.refl F) (Pre.refl κ) h)
theorem so_some {e : Expr} {W : Rg → RQ → Prop} (he : SE ks X C env e W) : SO ks X C env (some e) (fun g Q => W g fun r g1 => ∃ i, r = .dat (.int i) ∧ Q (some i) g1) :=
  fun g Q h σ F H κ Qo ok k => wO_of (po_some pe_w) (he g _ h σ F H κ _ ok fun v F' H' κ' r g' ok' s p rv q => by
    obtain ⟨i, rfl, q⟩ := q
    exact ⟨i, At.intI rv, k (some i) F' H' κ' g' ok' s p q⟩)
def cutL {α : Type} (xs : List α) (lo hi : Option Int) : List α := (xs.drop (HT.sIx xs.length 0 lo)).take (HT.sIx xs.length xs.length hi - HT.sIx xs.length 0 lo)
theorem All2.cut {β : Type} {R : V → β → Prop} {l : List V} {m : List β} (h : All2 R l m) (lo hi : Option Int) : All2 R (cutV l lo hi) (cutL m lo hi) := by
  unfold cutV cutL
  rw [h.length]
  exact (h.drop _).take _
theorem se_slL {e : Expr} {lo hi : Option Expr} {p2 : Pos} {W : Rg → RQ → Prop} {Wl Wh : Rg → (Option Int → Rg → Prop) → Prop} (he : SE ks X C env e W) (hl : SO ks X C env lo Wl) (hh : SO ks X C env hi Wh) :
    SE ks X C env (.Subscript e (.Slice lo hi none p2) pos) (fun g Q => W g fun r g1 => Wl g1 fun l g2 => Wh g2 fun u g3 => ∃ rs, lstOf g3 r = some rs ∧ Q (.ref g3.length) (g3 ++ [.lst (cutL rs l u)])) := by
  intro g Q h σ F H κ Qv ok k
  refine wE_of (pe_slice sl_list pe_w po_w po_w) ?_
  refine he g _ h σ F H κ _ ok fun v F1 H1 κ1 r1 g1 ok1 s1 p1 rv1 q1 => hl g1 _ q1 σ F1 H1 κ1 _ ok1 fun l F2 H2 κ2 g2 ok2 s2 p2 q2 => hh g2 _ q2 σ F2 H2 κ2 _ ok2 fun u F3 H3 κ3 g3 ok3 s3 p3 q3 => ?_
  obtain ⟨rs, e1, q⟩ := q3
  obtain ⟨a, xs, rfl, h1, h2⟩ := (rv1.mono (s2.trans s3) (p2.trans p3)).lst ok3 e1
  exact ⟨a, xs, rfl, SqL.of h1, fun p hp => (k.at ((s1.trans s2).trans s3) ((p1.trans p2).trans p3)).newL ok3 hp (h2.cut l u) q⟩
theorem se_slT {e : Expr} {lo hi : Option Expr} {p2 : Pos} {W : Rg → RQ → Prop} {Wl Wh : Rg → (Option Int → Rg → Prop) → Prop} (he : SE ks X C env e W) (hl : SO ks X C env lo Wl) (hh : SO ks X C env hi Wh) :
    SE ks X C env (.Subscript e (.Slice lo hi none p2) pos) (fun g Q => W g fun r g1 => Wl g1 fun l g2 => Wh g2 fun u g3 => ∃ ds, r = .dat (.tup ds) ∧ ¬ (HT.sIx ds.length 0 l = 0 ∧ HT.sIx ds.length ds.length u = ds.length) ∧ Q (.dat (.tup (cutL ds l u))) g3) := by
  intro g Q h σ F H κ Qv ok k
  refine wE_of (pe_slice sl_tup pe_w po_w po_w) ?_
  refine he g _ h σ F H κ _ ok fun v F1 H1 κ1 r1 g1 ok1 s1 p1 rv1 q1 => hl g1 _ q1 σ F1 H1 κ1 _ ok1 fun l F2 H2 κ2 g2 ok2 s2 p2 q2 => hh g2 _ q2 σ F2 H2 κ2 _ ok2 fun u F3 H3 κ3 g3 ok3 s3 p3 q3 => ?_
  obtain ⟨ds, rfl, n, q⟩ := q3
  obtain ⟨a, xs, rfl, h1, h2⟩ := At.tupI (rv1.mono (s2.trans s3) (p2.trans p3))
  have el := (Ats.all2 h2).length
  exact ⟨a, xs, rfl, SqT.of (ok3.ch.fh _ _ h1), by rw [el]; exact n, fun p hp => (k.at ((s1.trans s2).trans s3) ((p1.trans p2).trans p3)).newT ok3 hp (Ats.of_all2 ((Ats.all2 h2).cut l u)) q⟩

/-! ### calls of defs -/
/-- what a def promises, over data -/
def PSpD (ks : Kt) (S : SpD) : Sp := fun vs H Q _ => ∃ (F : Hp) (κ : List Addr) (g : Rg) (rs : List Rv), Same F H ∧ GOk ks F H κ (fun _ => True) g ∧ All2 (RvOk ks F κ) vs rs ∧
  S rs g (fun r g' => ∀ v F' H' κ', Ch ⟨F, H, fun b => b ∈ κ⟩ F' H' → Pre κ κ' → GOk ks F' H' κ' (fun a => a ∈ κ ∨ H a = none) g' → RvOk ks F' κ' v r → Q v H')
structure FnIn (ks : Kt) (X : Cx) (x : Str) (S : SpD) : Prop where
  mono : ∀ rs g (P P' : RQ), (∀ r g', P r g' → P' r g') → S rs g P → S rs g P'
  fn : ∃ (fa : Addr) (fd : FuncData) (k : Nat) (ps : List Str), X.mg x = some (.ref fa) ∧ PySem.W.keepIn X.K (.ref fa) = true ∧ Binds X.K fd ps [] ∧ Room k X.A ∧ FnOk X.prog X.w X.K X.mg X.base CX0 k fa fd ps (PSpD ks S)
theorem GOk.monoW {F H : Hp} {κ : List Addr} {W W' : Addr → Prop} {g : Rg} (h : GOk ks F H κ W g) (hw : ∀ a ∈ κ, F a = none → W a → W' a) : GOk ks F H κ W' g := by
  refine ⟨h.len, fun c cell a e1 e2 => ?_, h.nd, h.live, fun a ha => ?_⟩
  · have hm := List.mem_of_getElem? e2
    have := h.cells c cell a e1 e2
    cases cell with
    | lst rs => exact ⟨this.1, hw a hm this.1 this.2.1, this.2.2⟩
    | dic rs => exact ⟨this.1, hw a hm this.1 this.2.1, this.2.2⟩
    | fz d => exact this
    | dead => exact this
  · rcases h.wf a ha with z | z
    · cases q : F a with
      | none => exact .inl (hw a ha q z)
      | some u => exact .inr (by simp)
    · exact .inr z
theorem mem_ix {κ : List Addr} {a : Addr} (h : a ∈ κ) : ∃ c : Nat, κ[c]? = some a := by
  obtain ⟨i, hi, e⟩ := List.mem_iff_getElem.mp h
  exact ⟨i, by rw [List.getElem?_eq_getElem hi, e]⟩
/-- behind a call -/
theorem Ok.back {σ : L2.St} {F H F' H' : Hp} {κ κ' : List Addr} {g g' : Rg} (ok : Ok ks C σ F H κ env g) (ch : Ch ⟨F, H, fun b => b ∈ κ⟩ F' H') (pre : Pre κ κ') (gk : GOk ks F' H' κ' (fun a => a ∈ κ ∨ H a = none) g') :
    Ok ks C σ F' H' κ' env g' := by
  have stay : ∀ b o, C.H b = some o → ¬ C.A b → H' b = some o := fun b o e n => by
    have hb := ok.ch.hh b o e n
    by_cases hk : b ∈ κ
    · rcases ok.g.wf b hk with (z | z) | z
      · exact absurd z n
      · rw [z] at e; cases e
      · cases q : F b with
        | none => exact absurd q z
        | some u =>
          have h1 := ok.ch.fh b u q
          rw [hb] at h1; cases h1
          exact ch.fh b _ (ch.ff b _ q)
    · exact ch.hh b o hb hk
  refine ⟨gk.monoW fun a _ hF hw => ?_, ⟨fun b o e => ch.ff b o (ok.ch.ff b o e), ch.fh, stay, fun b e1 e2 e3 => ?_⟩, ok.len, fun i r e => ?_⟩
  · rcases hw with hk | hn
    · rcases ok.g.wf a hk with z | z
      · exact z
      · cases q : F a with
        | none => exact absurd q z
        | some u => have := ch.ff a u q; rw [hF] at this; cases this
    · cases q : C.H a with
      | none => exact .inr rfl
      | some u =>
        by_cases z : C.A a
        · exact .inl z
        · have := ok.ch.hh a u q z; rw [hn] at this; cases this
  · have h1 := ok.ch.nw b e1 e2 e3
    refine ch.nw b h1 ?_ ?_
    · intro z
      cases q : C.H b with
      | none => exact e2 q
      | some u => have := ok.ch.hh b u q e3; rw [show H b = none from z] at this; cases this
    · intro hk
      rcases ok.g.wf b hk with (z | z) | z
      · exact e3 z
      · exact e2 z
      · exact z h1
  · obtain ⟨v, h1, h2⟩ := ok.env i r e
    exact ⟨v, h1, h2.mono ch.ff pre⟩
theorem run_spd {σ : L2.St} {F H : Hp} {κ : List Addr} {g : Rg} {vs : List V} {rs : List Rv} {S : SpD} {Q : RQ} {Qv : VK} {E : XK} (ok : Ok ks C σ F H κ env g) (rv : All2 (RvOk ks F κ) vs rs) (k : Kont ks C env σ F κ Q Qv)
    (mono : ∀ rs g (P P' : RQ), (∀ r g', P r g' → P' r g') → S rs g P → S rs g P') (h : S rs g Q) : PSpD ks S vs H Qv E :=
  ⟨F, κ, g, rs, ok.ch.fh, ok.g.monoW fun _ _ _ _ => True.intro, rv, mono _ _ _ _ (fun r g' q v F' H' κ' ch pre gk rvv => k v F' H' κ' r g' (ok.back ch pre gk) ch.ff pre rvv q) h⟩
theorem se_call {x : Str} {p : Pos} {e : Expr} {es : List Expr} {S : SpD} {Ws : Rg → (List Rv → Rg → Prop) → Prop} (fi : FnIn ks X x S) (hg : Gl X x) (ha : SA ks X C env (e :: es) Ws) (hdb : (x == ("__debug__" : Str)) = false)
    (he : starEach (e :: es) X.env = (false, eval e X.env) :: starEach es X.env) (hpl : (backTo pos (starEach es X.env)).any (·.1) = false) : SE ks X C env (.Call (.Name x p) (e :: es) [] pos) (fun g Q => Ws g fun rs g1 => S rs g1 Q) := by
  obtain ⟨fa, fd, k, ps, hm, hkp, hb, hr, F⟩ := fi.fn
  intro g Q h σ F' H κ Qv ok kk
  refine wE_of (pe_call F hr hg hm hkp hb .nil pass0 pa_w hdb he hpl) ?_
  refine ha g _ h σ F' H κ _ ok fun vs F1 H1 κ1 rs g1 ok1 s1 p1 rv q => ?_
  show PSpD ks S (vs ++ []) H1 Qv E0
  rw [List.append_nil]
  exact run_spd ok1 rv (kk.at s1 p1) fi.mono q

/-! ### built-ins -/
def CallOk (ks : Kt) (X : Cx) (C : Ent) (env : En) (r : List V → Hp → VK → Prop) (B : List Rv → Rg → RQ → Prop) : Prop :=
  ∀ g rs Q, B rs g Q → ∀ σ F H κ Qv vs, Ok ks C σ F H κ env g → All2 (RvOk ks F κ) vs rs → Kont ks C env σ F κ Q Qv → r vs H Qv
section
variable {x : Str} {p : Pos} {e : Expr} {es : List Expr} {Ws : Rg → (List Rv → Rg → Prop) → Prop} {r : List V → Hp → VK → Prop} {B : List Rv → Rg → RQ → Prop}
theorem se_bi {id : String} (hc : CallR X (.builtin id) r) (hB : CallOk ks X C env r B) (hg : Gl X x) (hm : X.mg x = none) (hv : bootBuiltins x = some (.builtin id)) (ha : SA ks X C env (e :: es) Ws) (hn : x ≠ "__name__") (hdb : (x == ("__debug__" : Str)) = false)
    (he : starEach (e :: es) X.env = (false, eval e X.env) :: starEach es X.env) (hpl : (backTo pos (starEach es X.env)).any (·.1) = false) : SE ks X C env (.Call (.Name x p) (e :: es) [] pos) (fun g Q => Ws g fun rs g1 => B rs g1 Q) :=
  fun g Q h σ F' H κ Qv ok kk => wE_of (pe_callB hc hg hm hv pa_w hn hdb he hpl) (ha g _ h σ F' H κ _ ok fun vs F1 H1 κ1 rs g1 ok1 s1 p1 rv q => hB g1 rs Q q σ F1 H1 κ1 Qv vs ok1 rv (kk.at s1 p1))
theorem se_ty {T : String} (hc : CallR X (.type T) r) (hB : CallOk ks X C env r B) (hg : Gl X x) (hm : X.mg x = none) (hv : bootBuiltins x = some (.type T)) (ha : SA ks X C env (e :: es) Ws) (hn : x ≠ "__name__") (hdb : (x == ("__debug__" : Str)) = false)
    (he : starEach (e :: es) X.env = (false, eval e X.env) :: starEach es X.env) (hpl : (backTo pos (starEach es X.env)).any (·.1) = false) : SE ks X C env (.Call (.Name x p) (e :: es) [] pos) (fun g Q => Ws g fun rs g1 => B rs g1 Q) :=
  fun g Q h σ F' H κ Qv ok kk => wE_of (pe_callTy hc hg hm hv pa_w hn hdb he hpl) (ha g _ h σ F' H κ _ ok fun vs F1 H1 κ1 rs g1 ok1 s1 p1 rv q => hB g1 rs Q q σ F1 H1 κ1 Qv vs ok1 rv (kk.at s1 p1))
end
theorem All2.one {α β : Type} {R : α → β → Prop} {l : List α} {b : β} (h : All2 R l [b]) : ∃ a, l = [a] ∧ R a b := by
  cases h with | cons h1 h2 => cases h2; exact ⟨_, rfl, h1⟩
theorem All2.two {α β : Type} {R : α → β → Prop} {l : List α} {b c : β} (h : All2 R l [b, c]) : ∃ a a', l = [a, a'] ∧ R a b ∧ R a' c := by
  cases h with | cons h1 h2 => obtain ⟨a', rfl, h3⟩ := h2.one; exact ⟨_, _, rfl, h1, h3⟩
/-- len -/
def lenOf (g : Rg) : Rv → Option Nat
  | .dat (.tup ds) => some ds.length
  | .dat (.scr ns) => some ns.length
  | r => (lstOf g r).map List.length
def cLen : List Rv → Rg → RQ → Prop := fun rs g Q => ∃ r n, rs = [r] ∧ lenOf g r = some n ∧ Q (.dat (.int n)) g
theorem callLen (hK : ks.K = X.K) : CallOk ks X C env (fun xs H Q => ∃ p ys, xs = [.ref p] ∧ (SqL X.K H p ys ∨ SqT X.K H p ys) ∧ Q (.int ys.length) H) cLen := by
  rintro g rs Q ⟨r, n, rfl, e, q⟩ σ F H κ Qv vs ok rv k
  obtain ⟨v, rfl, h1⟩ := rv.one
  have viaL : ∀ {rs : List Rv}, lstOf g r = some rs → rs.length = n → ∃ p ys, [v] = [V.ref p] ∧ (SqL X.K H p ys ∨ SqT X.K H p ys) ∧ Qv (.int ys.length) H := fun {rs} e1 e2 => by
    obtain ⟨a, xs, rfl, h2, h3⟩ := h1.lst ok e1
    refine ⟨a, xs, rfl, .inl (SqL.of h2), ?_⟩
    rw [h3.length, e2]
    exact k.here ok (rv_int _) q
  unfold lenOf at e
  split at e
  · rename_i ds
    cases e
    obtain ⟨a, xs, rfl, h2, h3⟩ := At.tupI h1
    refine ⟨a, xs, rfl, .inr (SqT.of (ok.ch.fh _ _ h2)), ?_⟩
    rw [(Ats.all2 h3).length]
    exact k.here ok (rv_int _) q
  · rename_i ns
    cases e
    obtain ⟨a, rfl, h2⟩ := At.scrI h1
    rw [hK] at h2
    refine ⟨a, ns.map V.int, rfl, .inl (ok.ch.fh.seq h2), ?_⟩
    rw [List.length_map]
    exact k.here ok (rv_int _) q
  · obtain ⟨rs, e1, e2⟩ := Option.map_eq_some_iff.mp e
    exact viaL e1 e2
/-- int(flag), int(n) -/
def cInt : List Rv → Rg → RQ → Prop := fun rs g Q => (∃ i, rs = [.dat (.int i)] ∧ Q (.dat (.int i)) g) ∨ ∃ b, rs = [.dat (.bl b)] ∧ Q (.dat (.int (if b then 1 else 0))) g
theorem callInt : CallOk ks X C env (fun xs H Q => (∃ i, xs = [.int i] ∧ Q (.int i) H) ∨ ∃ k, xs = [.bl k] ∧ Q (.int (if k then 1 else 0)) H) cInt := by
  rintro g rs Q h σ F H κ Qv vs ok rv k
  rcases h with ⟨i, rfl, q⟩ | ⟨b, rfl, q⟩
  · obtain ⟨v, rfl, h1⟩ := rv.one
    cases At.intI h1
    exact .inl ⟨i, rfl, k.here ok (rv_int _) q⟩
  · obtain ⟨v, rfl, h1⟩ := rv.one
    cases At.blI h1
    exact .inr ⟨b, rfl, k.here ok (rv_int _) q⟩
/-- min(i, j) -/
def cMin2 : List Rv → Rg → RQ → Prop := fun rs g Q => ∃ i j, rs = [.dat (.int i), .dat (.int j)] ∧ Q (.dat (.int (if j < i then j else i))) g
theorem callMin2 : CallOk ks X C env (fun xs H Q => ∃ i j, xs = [.int i, .int j] ∧ Q (.int (if j < i then j else i)) H) cMin2 := by
  rintro g rs Q ⟨i, j, rfl, q⟩ σ F H κ Qv vs ok rv k
  obtain ⟨v, w, rfl, h1, h2⟩ := rv.two
  cases At.intI h1; cases At.intI h2
  exact ⟨i, j, rfl, k.here ok (rv_int _) q⟩
/-- any(list of truths) -/
def cAny : List Rv → Rg → RQ → Prop := fun rs g Q => ∃ (r : Rv) (bs : List Bool), rs = [r] ∧ lstOf g r = some (bs.map fun b => .dat (.bl b)) ∧ Q (.dat (.bl (bs.any id))) g
theorem bls_of {F : Hp} {κ : List Addr} : ∀ {xs : List V} {bs : List Bool}, All2 (RvOk ks F κ) xs (bs.map fun b => .dat (.bl b)) → xs = bs.map V.bl
  | [], [], _ => rfl
  | _ :: _, [], h => by cases h
  | [], _ :: _, h => by cases h
  | x :: xs, b :: bs, .cons h t => by rw [List.map_cons, ← bls_of t, At.blI h]
theorem ints_of {F : Hp} {κ : List Addr} : ∀ {xs : List V} {bs : List Int}, All2 (RvOk ks F κ) xs (bs.map fun b => .dat (.int b)) → xs = bs.map V.int
  | [], [], _ => rfl
  | _ :: _, [], h => by cases h
  | [], _ :: _, h => by cases h
  | x :: xs, b :: bs, .cons h t => by rw [List.map_cons, ← ints_of t, At.intI h]
theorem callAny : CallOk ks X C env (rAny X.K) cAny := by
  rintro g rs Q ⟨r, bs, rfl, e, q⟩ σ F H κ Qv vs ok rv k
  obtain ⟨v, rfl, h1⟩ := rv.one
  obtain ⟨a, xs, rfl, h2, h3⟩ := h1.lst ok e
  have e2 := bls_of h3
  subst e2
  exact ⟨a, bs, rfl, SqL.of h2, k.here ok (rv_bl _) q⟩
/-- max(list of ints) -/
def cMax : List Rv → Rg → RQ → Prop := fun rs g Q => ∃ (r : Rv) (ns : List Int), rs = [r] ∧ lstOf g r = some (ns.map fun b => .dat (.int b)) ∧ 0 < ns.length ∧ ∀ m, m ∈ ns → (∀ y, y ∈ ns → y ≤ m) → Q (.dat (.int m)) g
theorem callMax : CallOk ks X C env (rMax X.K) cMax := by
  rintro g rs Q ⟨r, ns, rfl, e, l, q⟩ σ F H κ Qv vs ok rv k
  obtain ⟨v, rfl, h1⟩ := rv.one
  obtain ⟨a, xs, rfl, h2, h3⟩ := h1.lst ok e
  have e2 := ints_of h3
  subst e2
  exact ⟨a, ns, rfl, SqL.of h2, l, fun m hm hy => k.here ok (rv_int _) (q m hm hy)⟩
/-- list(xs), list(t) -/
def seqOf (g : Rg) : Rv → Option (List Rv)
  | .dat (.tup ds) => some (ds.map .dat)
  | r => lstOf g r
theorem RvOk.seq {σ : L2.St} {F H : Hp} {κ : List Addr} {g : Rg} {v : V} {r : Rv} {rs : List Rv} (ok : Ok ks C σ F H κ env g) (h : RvOk ks F κ v r) (e : seqOf g r = some rs) : ∃ a xs, v = .ref a ∧ (H a = some (.lst xs) ∨ H a = some (.tup xs)) ∧ All2 (RvOk ks F κ) xs rs := by
  unfold seqOf at e
  split at e
  · cases e
    obtain ⟨a, xs, rfl, h2, h3⟩ := At.tupI h
    exact ⟨a, xs, rfl, .inr (ok.ch.fh _ _ h2), (Ats.all2 h3).mapR (f := Rv.dat) (S := RvOk ks F κ) fun _ _ z => z⟩
  · obtain ⟨a, xs, rfl, h2, h3⟩ := h.lst ok e
    exact ⟨a, xs, rfl, .inl h2, h3⟩
def cList : List Rv → Rg → RQ → Prop := fun rs g Q => ∃ r l, rs = [r] ∧ seqOf g r = some l ∧ Q (.ref g.length) (g ++ [.lst l])
theorem callList : CallOk ks X C env (fun xs H Q => ∃ p ys, xs = [.ref p] ∧ (SqL X.K H p ys ∨ SqT X.K H p ys) ∧ ∀ l, H l = none → Q (.ref l) (upd H l (.lst ys))) cList := by
  rintro g rs Q ⟨r, l, rfl, e, q⟩ σ F H κ Qv vs ok rv k
  obtain ⟨v, rfl, h1⟩ := rv.one
  obtain ⟨a, xs, rfl, h2, h3⟩ := h1.seq ok e
  exact ⟨a, xs, rfl, h2.imp (fun z => SqL.of z) fun z => SqT.of z, fun p hp => k.newL ok hp h3 q⟩
/-- tuple(xs) of data -/
def cTup : List Rv → Rg → RQ → Prop := fun rs g Q => ∃ (r : Rv) (ds : List D), rs = [r] ∧ lstOf g r = some (ds.map .dat) ∧ Q (.dat (.tup ds)) g
theorem callTup : CallOk ks X C env (fun xs H Q => ∃ p ys, xs = [.ref p] ∧ ((SqL X.K H p ys ∧ ∀ l, H l = none → Q (.ref l) (upd H l (.tup ys))) ∨ (SqT X.K H p ys ∧ Q (.ref p) H))) cTup := by
  rintro g rs Q ⟨r, ds, rfl, e, q⟩ σ F H κ Qv vs ok rv k
  obtain ⟨v, rfl, h1⟩ := rv.one
  obtain ⟨a, xs, rfl, h2, h3⟩ := h1.lst ok e
  exact ⟨a, xs, rfl, .inl ⟨SqL.of h2, fun p hp => k.newT ok hp (Ats.of_all2 (All2.of_mapR (f := Rv.dat) (S := RvOk ks F κ) (fun _ _ z => z) h3)) q⟩⟩
end
end DW

/-! ## DW6.lean -/
set_option Elab.async false
set_option linter.all false
set_option maxRecDepth 100000
set_option maxHeartbeats 2000000
set_option autoImplicit false
/-! DW6: methods, dict displays, isinstance, what is walked, comprehensions. -/
namespace DW
open PySem PySem.Spec L2
open PyProof.Rows hiding St

section
variable {ks : Kt} {X : Cx} {C : Ent} {env : En} {pos : Pos}
/-! ### methods of own lists -/
theorem Ok.putL {σ : L2.St} {F H : Hp} {κ : List Addr} {g : Rg} {c : Nat} {a : Addr} {rs rs' : List Rv} {xs' : List V} (ok : Ok ks C σ F H κ env g) (e : g[c]? = some (.lst rs)) (ha : κ[c]? = some a) (h : All2 (RvOk ks F κ) xs' rs') :
    Ok ks C σ F (upd H a (.lst xs')) κ env (g.set c (.lst rs')) := by
  obtain ⟨h1, h2, _⟩ := ok.g.cells c _ a e ha
  exact ok.putC (cell := .lst rs') ha h1 h2 ⟨h1, h2, xs', upd_same, h⟩
theorem Ok.putK {σ : L2.St} {F H : Hp} {κ : List Addr} {g : Rg} {c : Nat} {a : Addr} {rs rs' : List (Nat × Rv)} {xs' : List (Key × V)} (ok : Ok ks C σ F H κ env g) (e : g[c]? = some (.dic rs)) (ha : κ[c]? = some a) (h : All2 (KvOk ks F κ) xs' rs') :
    Ok ks C σ F (upd H a (.dK xs')) κ env (g.set c (.dic rs')) := by
  obtain ⟨h1, h2, _⟩ := ok.g.cells c _ a e ha
  exact ok.putC (cell := .dic rs') ha h1 h2 ⟨h1, h2, xs', upd_same, h⟩
theorem Ok.lstAt {σ : L2.St} {F H : Hp} {κ : List Addr} {g : Rg} {c : Nat} {rs : List Rv} (ok : Ok ks C σ F H κ env g) (e : g[c]? = some (.lst rs)) : ∃ a xs, κ[c]? = some a ∧ H a = some (.lst xs) ∧ All2 (RvOk ks F κ) xs rs := by
  obtain ⟨a, h1, _, _, xs, h2, h3⟩ := ok.addr e
  exact ⟨a, xs, h1, h2, h3⟩
theorem Ok.dicAt {σ : L2.St} {F H : Hp} {κ : List Addr} {g : Rg} {c : Nat} {rs : List (Nat × Rv)} (ok : Ok ks C σ F H κ env g) (e : g[c]? = some (.dic rs)) : ∃ a xs, κ[c]? = some a ∧ H a = some (.dK xs) ∧ All2 (KvOk ks F κ) xs rs := by
  obtain ⟨a, h1, _, _, xs, h2, h3⟩ := ok.addr e
  exact ⟨a, xs, h1, h2, h3⟩
section
variable {o e : Expr} {apos : Pos} {Wo We : Rg → RQ → Prop}
def mAppend (ro r : Rv) (g : Rg) (Q : RQ) : Prop := ∃ c l, ro = .ref c ∧ g[c]? = some (.lst l) ∧ l.length < 1000000 ∧ Q (.dat .non) (g.set c (.lst (l ++ [r])))
theorem se_append (ho : SE ks X C env o Wo) (he : SE ks X C env e We) (hbase : attributeBase o "append" X.env (eval o X.env) = eval o X.env) (hline : (apos.endLine == pos.line) = true) (hs : starEach [e] X.env = [(false, eval e X.env)]) :
    SE ks X C env (.Call (.Attribute o "append" apos) [e] [] pos) (fun g Q => Wo g fun ro g1 => (lstOf g1 ro).isSome = true ∧ We g1 fun r g2 => mAppend ro r g2 Q) := by
  intro g Q h σ F H κ Qv ok k
  refine wE_of (pe_bm PySem.F.plainAttrs_list PySem.F.slot_list_append PySem.F.type_list_append mt_append pe_w (pa_cons pe_w pa_nil hs) hbase (by rw [hs]; rfl) hline hs rfl) ?_
  refine ho g _ h σ F H κ _ ok fun v F1 H1 κ1 r1 g1 ok1 s1 p1 rv1 q1 => ?_
  obtain ⟨q0, q1⟩ := q1
  obtain ⟨rs0, e0⟩ := Option.isSome_iff_exists.mp q0
  obtain ⟨a0, xs0, rfl, h0, _⟩ := rv1.lst ok1 e0
  refine ⟨.inl ⟨rfl, _, SqL.of h0⟩, ?_⟩
  refine he g1 _ q1 σ F1 H1 κ1 _ ok1 fun w F2 H2 κ2 r2 g2 ok2 s2 p2 rv2 q2 => ?_
  obtain ⟨c, l, rfl, e1, hl, q⟩ := q2
  obtain ⟨a, ha, ea⟩ := rv1.mono s2 p2
  cases ea
  obtain ⟨a', xs, ha', h1, h2⟩ := ok2.lstAt e1
  rw [ha] at ha'; cases ha'
  refine ⟨a0, xs, w, rfl, rfl, h1, by rw [h2.length]; exact Nat.lt_of_lt_of_le hl (by decide), ?_⟩
  exact k _ F2 _ κ2 _ _ (ok2.putL e1 ha (h2.append (.cons rv2 .nil))) (s1.trans s2) (p1.trans p2) rv_non q
def mPop (ro : Rv) (g : Rg) (Q : RQ) : Prop := ∃ c l r, ro = .ref c ∧ g[c]? = some (.lst l) ∧ l[l.length - 1]? = some r ∧ Q (nrm g r) (g.set c (.lst l.dropLast))
theorem nrm_dat {g : Rg} {d : D} : nrm g (.dat d) = .dat d := rfl
theorem se_pop (ho : SE ks X C env o Wo) (hbase : attributeBase o "pop" X.env (eval o X.env) = eval o X.env) (hline : (apos.endLine == pos.line) = true) :
    SE ks X C env (.Call (.Attribute o "pop" apos) [] [] pos) (fun g Q => Wo g fun ro g1 => mPop ro g1 Q) := by
  intro g Q h σ F H κ Qv ok k
  refine wE_of (pe_bm0 PySem.F.plainAttrs_list PySem.F.slot_list_pop PySem.F.type_list_pop mt_pop pe_w hbase hline) ?_
  refine ho g _ h σ F H κ _ ok fun v F1 H1 κ1 r1 g1 ok1 s1 p1 rv1 q1 => ?_
  obtain ⟨c, l, r, rfl, e1, e2, q⟩ := q1
  obtain ⟨a, ha, rfl⟩ := rv1
  obtain ⟨a', xs, ha', h1, h2⟩ := ok1.lstAt e1
  rw [ha] at ha'; cases ha'
  obtain ⟨y, hy, ry⟩ := h2.get e2
  refine ⟨.inl ⟨rfl, _, SqL.of h1⟩, a, xs, y, rfl, rfl, h1, by rw [h2.length]; exact hy, ?_⟩
  exact k _ F1 _ κ1 _ _ (ok1.putL e1 ha h2.dropLast) s1 p1 (ry.nrm ok1) q
def mPopAt (ro ri : Rv) (g : Rg) (Q : RQ) : Prop := ∃ c l i k r, ro = .ref c ∧ ri = .dat (.int i) ∧ g[c]? = some (.lst l) ∧ -(2 ^ 63) ≤ i ∧ i < 2 ^ 63 ∧ seqIndex? i l.length = some k ∧ l[k]? = some r ∧ Q (nrm g r) (g.set c (.lst (l.eraseIdx k)))
theorem se_popAt (ho : SE ks X C env o Wo) (he : SE ks X C env e We) (hbase : attributeBase o "pop" X.env (eval o X.env) = eval o X.env) (hline : (apos.endLine == pos.line) = true) (hs : starEach [e] X.env = [(false, eval e X.env)]) :
    SE ks X C env (.Call (.Attribute o "pop" apos) [e] [] pos) (fun g Q => Wo g fun ro g1 => (lstOf g1 ro).isSome = true ∧ We g1 fun r g2 => mPopAt ro r g2 Q) := by
  intro g Q h σ F H κ Qv ok k
  refine wE_of (pe_bm PySem.F.plainAttrs_list PySem.F.slot_list_pop PySem.F.type_list_pop mt_popAt pe_w (pa_cons pe_w pa_nil hs) hbase (by rw [hs]; rfl) hline hs rfl) ?_
  refine ho g _ h σ F H κ _ ok fun v F1 H1 κ1 r1 g1 ok1 s1 p1 rv1 q1 => ?_
  obtain ⟨q0, q1⟩ := q1
  obtain ⟨rs0, e0⟩ := Option.isSome_iff_exists.mp q0
  obtain ⟨a0, xs0, rfl, h0, _⟩ := rv1.lst ok1 e0
  refine ⟨.inl ⟨rfl, _, SqL.of h0⟩, ?_⟩
  refine he g1 _ q1 σ F1 H1 κ1 _ ok1 fun w F2 H2 κ2 r2 g2 ok2 s2 p2 rv2 q2 => ?_
  obtain ⟨c, l, i, kk, r, rfl, rfl, e1, b1, b2, e2, e3, q⟩ := q2
  obtain ⟨a, ha, ea⟩ := rv1.mono s2 p2
  cases ea
  obtain ⟨a', xs, ha', h1, h2⟩ := ok2.lstAt e1
  rw [ha] at ha'; cases ha'
  obtain ⟨y, hy, ry⟩ := h2.get e3
  refine ⟨a0, xs, i, kk, y, rfl, by rw [At.intI rv2], h1, b1, b2, by rw [h2.length]; exact e2, hy, ?_⟩
  exact k _ F2 _ κ2 _ _ (ok2.putL e1 ha (h2.eraseIdx kk)) (s1.trans s2) (p1.trans p2) (ry.nrm ok2) q
def mClear (ro : Rv) (g : Rg) (Q : RQ) : Prop := ∃ c l, ro = .ref c ∧ g[c]? = some (.lst l) ∧ Q (.dat .non) (g.set c (.lst []))
theorem se_clear (ho : SE ks X C env o Wo) (hbase : attributeBase o "clear" X.env (eval o X.env) = eval o X.env) (hline : (apos.endLine == pos.line) = true) :
    SE ks X C env (.Call (.Attribute o "clear" apos) [] [] pos) (fun g Q => Wo g fun ro g1 => mClear ro g1 Q) := by
  intro g Q h σ F H κ Qv ok k
  refine wE_of (pe_bm0 PySem.F.plainAttrs_list PySem.F.slot_list_clear PySem.F.type_list_clear mt_clear pe_w hbase hline) ?_
  refine ho g _ h σ F H κ _ ok fun v F1 H1 κ1 r1 g1 ok1 s1 p1 rv1 q1 => ?_
  obtain ⟨c, l, rfl, e1, q⟩ := q1
  obtain ⟨a, ha, rfl⟩ := rv1
  obtain ⟨a', xs, ha', h1, h2⟩ := ok1.lstAt e1
  rw [ha] at ha'; cases ha'
  refine ⟨.inl ⟨rfl, _, SqL.of h1⟩, a, xs, rfl, rfl, h1, ?_⟩
  exact k _ F1 _ κ1 _ _ (ok1.putL e1 ha .nil) s1 p1 rv_non q
end

/-! ### dict displays -/
def PvOk (ks : Kt) (F : Hp) (κ : List Addr) (p : V × V) (q : Nat × Rv) : Prop := (∃ x, ks.w[q.1]? = some x ∧ p.1 = .str x) ∧ RvOk ks F κ p.2 q.2
def SPr (ks : Kt) (X : Cx) (C : Ent) (env : En) (pos : Pos) (keys : List (Option Expr)) (vals : List Expr) (W : Rg → (List (Nat × Rv) → Rg → Prop) → Prop) : Prop :=
  ∃ trs, PPs X pos keys vals trs ∧ ∀ g Q, W g Q → ∀ σ F H κ Qp, Ok ks C σ F H κ env g →
    (∀ ps F' H' κ' rs g', Ok ks C σ F' H' κ' env g' → Same F F' → Pre κ κ' → All2 (PvOk ks F' κ') ps rs → Q rs g' → Qp ps H') → tPairs trs σ H Qp
theorem spr_nil : SPr ks X C env pos [] [] (fun g Q => Q [] g) := ⟨[], pps_nil, fun g Q h σ F H κ Qp ok k => k [] F H κ [] g ok (Same.refl F) (Pre.refl κ) .nil h⟩
theorem spr_cons {i : Nat} {x : Str} {j : Nat} {kp : Pos} {v : Expr} {keys : List (Option Expr)} {vals : List Expr} {Wv : Rg → RQ → Prop} {W : Rg → (List (Nat × Rv) → Rg → Prop) → Prop} (hx : ks.w[i]? = some x) (hv : SE ks X C env v Wv) (hr : SPr ks X C env pos keys vals W) :
    SPr ks X C env pos (some (.Constant (.str x) j kp) :: keys) (v :: vals) (fun g Q => Wv g fun r g1 => W g1 fun rs g2 => Q ((i, r) :: rs) g2) := by
  obtain ⟨trs, hp, hw⟩ := hr
  refine ⟨_, pps_cons (pe_w (e := .Constant (.str x) j kp)) (pe_w (e := v)) hp, fun g Q h σ F H κ Qp ok k => ?_⟩
  refine wE_of pe_str ?_
  refine hv g _ h σ F H κ _ ok fun u F1 H1 κ1 r g1 ok1 s1 p1 rv1 q1 => ?_
  refine hw g1 _ q1 σ F1 H1 κ1 _ ok1 fun ps F2 H2 κ2 rs g2 ok2 s2 p2 rv2 q2 => ?_
  exact k _ F2 H2 κ2 _ g2 ok2 (s1.trans s2) (p1.trans p2) (.cons ⟨⟨x, hx, rfl⟩, rv1.mono s2 p2⟩ rv2) q2
theorem merge_new (nd : ks.w.Nodup) {F : Hp} {κ : List Addr} : ∀ {kvs : List (Key × V)} {rs : List (Nat × Rv)} {acc : List (Key × V)} {ra : List (Nat × Rv)}, All2 (KvOk ks F κ) acc ra → All2 (KvOk ks F κ) kvs rs → ((ra ++ rs).map (·.1)).Nodup →
    mergeK acc kvs = acc ++ kvs
  | [], _, acc, ra, _, _, _ => by rw [List.append_nil]; rfl
  | p :: kvs, [], acc, ra, _, h, _ => by cases h
  | p :: kvs, q :: rs, acc, ra, ha, .cons h t, hn => by
    obtain ⟨p1, p2⟩ := p
    obtain ⟨q1, q2⟩ := q
    obtain ⟨⟨y, hy, ep⟩, hv⟩ := id h
    dsimp only at hy ep hv
    subst ep
    have hnot : (acc.any fun kv => decide (kv.1 = (.inr y : Key))) = false := by
      rw [List.any_eq_false]
      intro z hz
      obtain ⟨i, hi, ez⟩ := List.mem_iff_getElem.mp hz
      obtain ⟨b, hb, ⟨⟨w, hw, ew⟩, _⟩⟩ := ha.get' (i := i) (a := z) (by rw [List.getElem?_eq_getElem hi, ez])
      intro hd
      have e2 := of_decide_eq_true hd
      rw [ew] at e2
      cases e2
      have : b.1 = q1 := by
        obtain ⟨l1, z1⟩ := List.getElem?_eq_some_iff.mp hw
        obtain ⟨l2, z2⟩ := List.getElem?_eq_some_iff.mp hy
        exact (List.getElem_inj nd).mp (z1.trans z2.symm)
      rw [List.map_append, List.nodup_append] at hn
      exact hn.2.2 b.1 (List.mem_map_of_mem (List.mem_of_getElem? hb)) q1 (by simp) this
    have e1 : L2.putK acc (.inr y) p2 = acc ++ [(.inr y, p2)] := by unfold L2.putK; rw [if_neg (by rw [hnot]; decide)]
    show mergeK (L2.putK acc (.inr y) p2) kvs = _
    rw [e1, merge_new nd (ha.append (.cons h .nil)) t (by simpa using hn), List.append_assoc]
    rfl
theorem kvs_of {F : Hp} {κ : List Addr} : ∀ {ps : List (V × V)} {rs : List (Nat × Rv)}, All2 (PvOk ks F κ) ps rs → ∃ kvs : List (Key × V), ps = kvs.map (fun kv => (kV kv.1, kv.2)) ∧ All2 (KvOk ks F κ) kvs rs
  | _, _, .nil => ⟨[], rfl, .nil⟩
  | _, _, @All2.cons _ _ _ p q l m h t => by
    obtain ⟨kvs, e, a⟩ := kvs_of t
    obtain ⟨⟨x, hx, ep⟩, hv⟩ := h
    obtain ⟨p1, p2⟩ := p
    dsimp only at ep hv
    subst ep
    exact ⟨(.inr x, p2) :: kvs, by rw [e]; rfl, .cons ⟨⟨x, hx, rfl⟩, hv⟩ a⟩
theorem se_dic {keys : List (Option Expr)} {vals : List Expr} {W : Rg → (List (Nat × Rv) → Rg → Prop) → Prop} (hk : KsOk ks) (hp : SPr ks X C env pos keys vals W) (hall : keys.all (·.isSome) = true) (hl : keys.length = vals.length) (h0 : keys ≠ []) (h15 : keys.length ≤ 15) :
    SE ks X C env (.Dict keys vals pos) (fun g Q => W (g ++ [.dic []]) fun rs g2 => g2[g.length]? = some (.dic []) ∧ (rs.map (·.1)).Nodup ∧ rs.length ≤ 15 ∧ Q (.ref g.length) (g2.set g.length (.dic rs))) := by
  obtain ⟨trs, hpp, hw⟩ := hp
  intro g Q h σ F H κ Qv ok k
  refine wE_of (pe_disp hpp hall hl h0 h15) fun p hp => ?_
  have ok1 := ok.newC (cell := .dic []) hp ⟨(ok.fresh hp).1, (ok.fresh hp).2, [], upd_same, .nil⟩
  refine hw _ _ h σ F _ (κ ++ [p]) _ ok1 fun ps F2 H2 κ2 rs g2 ok2 s2 p2 rv2 q2 => ?_
  obtain ⟨e1, nd, hl, q⟩ := q2
  obtain ⟨a, xs, ha, h1, h2⟩ := ok2.dicAt e1
  have hap : κ2[g.length]? = some p := p2 _ _ (by rw [← ok.g.len]; simp)
  rw [hap] at ha; cases ha
  cases h2
  obtain ⟨kvs, e2, hk2⟩ := kvs_of rv2
  refine ⟨h1, kvs, e2, by rw [hk2.length]; exact hl, ?_⟩
  rw [merge_new hk.nd (acc := []) .nil hk2 (by simpa using nd)]
  exact k _ F2 _ κ2 _ _ (ok2.putK e1 hap hk2) s2 ((Pre.app κ [p]).trans p2) (rv_ref hap) q

/-! ### isinstance -/
def tyD : D → Option String
  | .non => some "NoneType" | .bl _ => some "bool" | .int _ => some "int" | .str _ => some "str" | .lst _ => some "list" | .tup _ => some "tuple" | .dic _ => some "dict" | .scr _ => none
def tyR (g : Rg) : Rv → Option String
  | .dat d => tyD d
  | .ref c => match g[c]? with | some (.lst _) => some "list" | some (.dic _) => some "dict" | some (.fz d) => tyD d | _ => none
theorem At.ty {F H : Hp} {K : PySem.W.Frag} (s : Same F H) {v : V} {d : D} {t : String} (h : At ks F v d) (et : tyD d = some t) : TyX K H v (.type t) := by
  cases h with
  | non => cases et; exact .base .non
  | bl b => cases et; exact .base (.bl b)
  | int i => cases et; exact .base (.int i)
  | str e => cases et; exact .base (.str _)
  | lst e _ => cases et; exact .base (.lst (s _ _ e))
  | tup e _ => cases et; exact .base (.tup (s _ _ e))
  | dic e _ => cases et; exact .base (.dK (s _ _ e))
  | scr e => cases et
theorem RvOk.ty {σ : L2.St} {F H : Hp} {κ : List Addr} {g : Rg} {K : PySem.W.Frag} {v : V} {r : Rv} {t : String} (ok : Ok ks C σ F H κ env g) (h : RvOk ks F κ v r) (e : tyR g r = some t) : TyX K H v (.type t) := by
  cases r with
  | dat d => exact At.ty ok.ch.fh h e
  | ref c =>
    obtain ⟨a, ha, rfl⟩ := h
    simp only [tyR] at e
    split at e
    · rename_i rs hc
      cases e
      obtain ⟨_, _, xs, h1, _⟩ := ok.g.cells c _ a hc ha
      exact .base (.lst h1)
    · rename_i rs hc
      cases e
      obtain ⟨_, _, xs, h1, _⟩ := ok.g.cells c _ a hc ha
      exact .base (.dK h1)
    · rename_i d hc
      exact At.ty ok.ch.fh (ok.g.cells c _ a hc ha) e
    · cases e
/-- isinstance(x, T): the answer by the library's table -/
theorem se_isin {o : Expr} {T x : Str} {Ts : String} {p1 p2 : Pos} {Wo : Rg → RQ → Prop} (ho : SE ks X C env o Wo) (hg : Gl X x) (hx : x = "isinstance") (hm : X.mg x = none) (hgT : Gl X T) (hmT : X.mg T = none) (hvT : bootBuiltins T = some (.type Ts)) (hnT : T ≠ "__name__") (hdT : (T == ("__debug__" : Str)) = false)
    (hs : starEach [o, .Name T p2] X.env = (false, eval o X.env) :: starEach [.Name T p2] X.env) : SE ks X C env (.Call (.Name x p1) [o, .Name T p2] [] pos) (fun g Q => Wo g fun r g1 => ∃ t b, tyR g1 r = some t ∧ kitB t Ts = some b ∧ Q (.dat (.bl b)) g1) := by
  subst hx
  intro g Q h σ F H κ Qv ok k
  refine wE_of (pe_callB call_isi hg hm PyProof.Rows.boot_isinstance (pa_cons (pe_w (e := o)) (pa_cons (pe_bltn (v := .ty Ts) hgT hmT hvT rfl hnT hdT) pa_nil) hs) (by decide) (by decide) hs rfl) ?_
  refine ho g _ h σ F H κ _ ok fun v F1 H1 κ1 r1 g1 ok1 s1 p1 rv1 q1 => ?_
  obtain ⟨t, b, e1, e2, q⟩ := q1
  exact ⟨v, .ty Ts, _, _, b, rfl, .ty Ts, rv1.ty ok1 e1, kit_ty e2, k _ F1 H1 κ1 _ g1 ok1 s1 p1 (rv_bl b) q⟩
end
end DW

/-! ## DW7.lean -/
set_option Elab.async false
set_option linter.all false
set_option maxRecDepth 100000
set_option maxHeartbeats 2000000
set_option autoImplicit false
/-! DW7: what is walked; comprehensions. -/
namespace DW
open PySem PySem.Spec L2
open PyProof.Rows hiding St

section
variable {ks : Kt} {X : Cx} {C : Ent} {env : En} {pos : Pos}
/-- isinstance(x, (T, U)) -/
theorem se_isin2 {o : Expr} {T U x : Str} {Ts Us : String} {p1 p2 p3 p4 : Pos} {k4 : Nat} {Wo : Rg → RQ → Prop} (ho : SE ks X C env o Wo) (hg : Gl X x) (hx : x = "isinstance") (hm : X.mg x = none)
    (hgT : Gl X T) (hmT : X.mg T = none) (hvT : bootBuiltins T = some (.type Ts)) (hnT : T ≠ "__name__") (hdT : (T == ("__debug__" : Str)) = false)
    (hgU : Gl X U) (hmU : X.mg U = none) (hvU : bootBuiltins U = some (.type Us)) (hnU : U ≠ "__name__") (hdU : (U == ("__debug__" : Str)) = false)
    (hs : starEach [o, .Tuple [.Name T p2, .Name U p3] k4 p4] X.env = (false, eval o X.env) :: starEach [.Tuple [.Name T p2, .Name U p3] k4 p4] X.env) :
    SE ks X C env (.Call (.Name x p1) [o, .Tuple [.Name T p2, .Name U p3] k4 p4] [] pos) (fun g Q => Wo g fun r g1 => ∃ t b b', tyR g1 r = some t ∧ kitB t Ts = some b ∧ kitB t Us = some b' ∧ Q (.dat (.bl (b || b'))) g1) := by
  subst hx
  intro g Q h σ F H κ Qv ok k
  refine wE_of (pe_callB call_isiT hg hm PyProof.Rows.boot_isinstance (pa_cons (pe_w (e := o)) (pa_cons (pe_tup (pa_cons (pe_bltn (v := .ty Ts) hgT hmT hvT rfl hnT hdT) (pa_cons (pe_bltn (v := .ty Us) hgU hmU hvU rfl hnU hdU) pa_nil))) pa_nil) hs) (by decide) (by decide) hs rfl) ?_
  refine ho g _ h σ F H κ _ ok fun v F1 H1 κ1 r1 g1 ok1 s1 p1 rv1 q1 => ?_
  obtain ⟨t, b, b', e1, e2, e3, q⟩ := q1
  refine ⟨by show 2 ≤ sizeLine; decide, fun p hp => ?_⟩
  have sF := ok1.newD_F (o := .tup [.ty Ts, .ty Us]) hp
  have ok2 := ok1.newD (o := .tup [.ty Ts, .ty Us]) hp
  refine ⟨v, p, [.ty Ts, .ty Us], _, [.type Ts, .type Us], b || b', rfl, upd_same, .cons (.ty Ts) (.cons (.ty Us) .nil), (rv1.mono sF (Pre.refl κ1)).ty ok2 e1, ?_, k _ _ _ κ1 _ g1 ok2 (s1.trans sF) p1 (rv_bl _) q⟩
  refine kitAny_cons (kit_ty e2) (fun z => ?_) (fun z => by rw [z]; rfl)
  subst z
  refine kitAny_cons (kit_ty e3) (fun z => ?_) (fun z => by rw [z]; rfl)
  subst z
  rfl

/-! ### what is walked -/
def wI (X : Cx) (tg iter : Expr) : TI := fun σ H R => ∀ pins s, Inv X pins σ H s → wpAny (model X.prog X.w) X.A (eval iter X.env) (fun v s1 => wpAny (model X.prog X.w) X.A (pyIter v) (fun itv s2 => PIE X pins σ tg R itv s2) X.xe s1) X.xe s
structure JOk (ks : Kt) (C : Ent) (J : It) (F : Hp) (κ : List Addr) (its : List Rv) (keep : Rg → Prop) : Prop where
  stop : ∀ {i σ env F' H' κ' g'}, Ok ks C σ F' H' κ' env g' → Same F F' → Pre κ κ' → keep g' → its.length ≤ i → J.stop i H'
  go : ∀ {i σ env F' H' κ' g'}, Ok ks C σ F' H' κ' env g' → Same F F' → Pre κ κ' → keep g' → i < its.length → J.go i H'
  yld : ∀ {i σ env F' H' κ' g' x H2}, Ok ks C σ F' H' κ' env g' → Same F F' → Pre κ κ' → keep g' → i < its.length → J.yld i H' x H2 → ∃ F2 r, Ok ks C σ F2 H2 κ' env g' ∧ Same F' F2 ∧ its[i]? = some r ∧ RvOk ks F2 κ' x r
abbrev IQ := List Rv → (Rg → Prop) → Rg → Prop
def SI (ks : Kt) (X : Cx) (C : Ent) (env : En) (tg iter : Expr) (W : Rg → IQ → Prop) : Prop := ∃ wi : TI, PI X tg iter wi ∧ ∀ g Q, W g Q → ∀ σ F H κ R, Ok ks C σ F H κ env g →
  (∀ J F' H' κ' its keep g', Ok ks C σ F' H' κ' env g' → Same F F' → Pre κ κ' → JOk ks C J F' κ' its keep → keep g' → Q its keep g' → R J H') → wi σ H R
/-- a list, own or not -/
theorem si_list {tg iter : Expr} {W : Rg → RQ → Prop} (he : SE ks X C env iter W) : SI ks X C env tg iter (fun g Q => W g fun r g1 => ∃ rs, lstOf g1 r = some rs ∧ Q rs (fun g' => lstOf g' r = some rs) g1) := by
  refine ⟨_, pi_list pe_w, fun g Q h σ F H κ R ok k => ?_⟩
  refine he g _ h σ F H κ _ ok fun v F1 H1 κ1 r g1 ok1 s1 p1 rv q => ?_
  obtain ⟨rs, e, q⟩ := q
  obtain ⟨a, xs, rfl, h1, h2⟩ := rv.lst ok1 e
  refine ⟨a, rfl, ⟨xs, SqL.of h1⟩, k _ F1 H1 κ1 rs _ g1 ok1 s1 p1 ⟨?_, ?_, ?_⟩ e q⟩
  · intro i σ env F' H' κ' g' ok' s p kp hi
    obtain ⟨a', xs', ea, h3, h4⟩ := (rv.mono s p).lst ok' kp
    cases ea
    exact ⟨xs', SqL.of h3, by rw [h4.length]; exact hi⟩
  · intro i σ env F' H' κ' g' ok' s p kp hi
    obtain ⟨a', xs', ea, h3, h4⟩ := (rv.mono s p).lst ok' kp
    cases ea
    obtain ⟨x, hx, _⟩ := h4.get (i := i) (List.getElem?_eq_getElem hi)
    exact ⟨xs', x, SqL.of h3, hx⟩
  · intro i σ env F' H' κ' g' x H2 ok' s p kp hi hy
    obtain ⟨a', xs', ea, h3, h4⟩ := (rv.mono s p).lst ok' kp
    cases ea
    obtain ⟨rfl, hy⟩ := hy
    obtain ⟨r', hr, hv⟩ := h4.get' (hy xs' (SqL.of h3))
    exact ⟨F', r', ok', Same.refl F', hr, hv⟩
def rngs (lo : Int) (n : Nat) : List Rv := (List.range n).map fun i => .dat (.int (lo + (i : Nat)))
theorem rngs_length (lo : Int) (n : Nat) : (rngs lo n).length = n := by unfold rngs; simp
theorem rngs_get {lo : Int} {n i : Nat} (h : i < n) : (rngs lo n)[i]? = some (.dat (.int (lo + (i : Nat)))) := by unfold rngs; rw [List.getElem?_map, List.getElem?_range h]; rfl
theorem jok_range {F : Hp} {κ : List Addr} {lo : Int} {n : Nat} : JOk ks C (Itr lo n) F κ (rngs lo n) (fun _ => True) := by
  refine ⟨?_, ?_, ?_⟩
  · intro i σ env F' H' κ' g' ok' s p kp hi
    rw [rngs_length] at hi; exact hi
  · intro i σ env F' H' κ' g' ok' s p kp hi
    rw [rngs_length] at hi; exact hi
  · intro i σ env F' H' κ' g' x H2 ok' s p kp hi hy
    rw [rngs_length] at hi
    obtain ⟨rfl, rfl⟩ := hy
    exact ⟨F', _, ok', Same.refl F', rngs_get hi, rv_int _⟩
theorem si_range1 {tg a : Expr} {x : Str} {p : Pos} {W : Rg → RQ → Prop} (hx : x = "range") (hg : Gl X x) (hm : X.mg x = none) (ha : SE ks X C env a W) (hs : starEach [a] X.env = [(false, eval a X.env)]) :
    SI ks X C env tg (.Call (.Name x p) [a] [] pos) (fun g Q => W g fun r g1 => ∃ j : Int, r = .dat (.int j) ∧ -(2 ^ 62) ≤ j ∧ j < 2 ^ 62 ∧ Q (rngs 0 j.toNat) (fun _ => True) g1) := by
  subst hx
  refine ⟨_, pi_range1 hg hm (pa_cons (pe_w (e := a)) pa_nil hs) hs, fun g Q h σ F H κ R ok k => ?_⟩
  refine ha g _ h σ F H κ _ ok fun v F1 H1 κ1 r g1 ok1 s1 p1 rv q => ?_
  obtain ⟨j, rfl, l1, l2, q⟩ := q
  exact ⟨j, by rw [At.intI rv], l1, l2, k _ F1 H1 κ1 _ _ g1 ok1 s1 p1 jok_range True.intro q⟩
theorem si_range2 {tg a b : Expr} {x : Str} {p : Pos} {W W' : Rg → RQ → Prop} (hx : x = "range") (hg : Gl X x) (hm : X.mg x = none) (ha : SE ks X C env a W) (hb : SE ks X C env b W') (hs : starEach [a, b] X.env = [(false, eval a X.env), (false, eval b X.env)]) (hs2 : starEach [b] X.env = [(false, eval b X.env)]) :
    SI ks X C env tg (.Call (.Name x p) [a, b] [] pos) (fun g Q => W g fun r g1 => W' g1 fun r2 g2 => ∃ i j : Int, r = .dat (.int i) ∧ r2 = .dat (.int j) ∧ (-(2 ^ 62) ≤ i ∧ i < 2 ^ 62 ∧ -(2 ^ 62) ≤ j ∧ j < 2 ^ 62) ∧ Q (rngs i (j - i).toNat) (fun _ => True) g2) := by
  subst hx
  refine ⟨_, pi_range2 hg hm (pa_cons (pe_w (e := a)) (pa_cons (pe_w (e := b)) pa_nil hs2) (by rw [hs, hs2])) hs hs2, fun g Q h σ F H κ R ok k => ?_⟩
  refine ha g _ h σ F H κ _ ok fun v F1 H1 κ1 r g1 ok1 s1 p1 rv q => ?_
  refine hb g1 _ q σ F1 H1 κ1 _ ok1 fun v2 F2 H2 κ2 r2 g2 ok2 s2 p2 rv2 q2 => ?_
  obtain ⟨i, j, rfl, rfl, l, q⟩ := q2
  exact ⟨i, j, by rw [At.intI rv, At.intI rv2], l, k _ F2 H2 κ2 _ _ g2 ok2 (s1.trans s2) (p1.trans p2) jok_range True.intro q⟩
def enums (ds : List D) : List Rv := (List.range ds.length).map fun i => .dat (.tup [.int (i : Nat), ds.getD i .non])
theorem si_enum {e : Expr} {x : Str} {p tpos : Pos} {elts : List Expr} {kk : Nat} {W : Rg → RQ → Prop} (hx : x = "enumerate") (hg : Gl X x) (hm : X.mg x = none) (he : SE ks X C env e W) (hs : starEach [e] X.env = [(false, eval e X.env)]) :
    SI ks X C env (.Tuple elts kk tpos) (.Call (.Name x p) [e] [] pos) (fun g Q => W g fun r g1 => ∃ ds : List D, lstOf g1 r = some (ds.map .dat) ∧ Q (enums ds) (fun g' => lstOf g' r = some (ds.map .dat)) g1) := by
  subst hx
  refine ⟨_, pi_enum hg hm (pa_cons (pe_w (e := e)) pa_nil hs) hs, fun g Q h σ F H κ R ok k => ?_⟩
  refine he g _ h σ F H κ _ ok fun v F1 H1 κ1 r g1 ok1 s1 p1 rv q => ?_
  obtain ⟨ds, e, q⟩ := q
  obtain ⟨a, xs, rfl, h1, h2⟩ := rv.lst ok1 e
  refine ⟨a, xs, rfl, SqL.of h1, k _ F1 H1 κ1 (enums ds) _ g1 ok1 s1 p1 ⟨?_, ?_, ?_⟩ e q⟩
  · intro i σ env F' H' κ' g' ok' s p kp hi
    obtain ⟨a', xs', ea, h3, h4⟩ := (rv.mono s p).lst ok' kp
    cases ea
    unfold enums at hi
    rw [List.length_map, List.length_range] at hi
    exact ⟨xs', SqL.of h3, by rw [h4.length, List.length_map]; exact hi⟩
  · intro i σ env F' H' κ' g' ok' s p kp hi
    obtain ⟨a', xs', ea, h3, h4⟩ := (rv.mono s p).lst ok' kp
    cases ea
    unfold enums at hi
    rw [List.length_map, List.length_range] at hi
    obtain ⟨x, hx, _⟩ := h4.get (i := i) (List.getElem?_eq_getElem (by rw [List.length_map]; exact hi))
    exact ⟨xs', x, SqL.of h3, hx⟩
  · intro i σ env F' H' κ' g' x H2 ok' s p kp hi hy
    obtain ⟨a', xs', ea, h3, h4⟩ := (rv.mono s p).lst ok' kp
    cases ea
    unfold enums at hi
    rw [List.length_map, List.length_range] at hi
    obtain ⟨T, y, rfl, hT, rfl, hy⟩ := hy
    obtain ⟨r', hr, hv⟩ := h4.get' (hy xs' (SqL.of h3))
    rw [List.getElem?_map, List.getElem?_eq_getElem hi] at hr
    cases hr
    have sF := ok'.newD_F (o := .tup [.int (i : Nat), y]) hT
    refine ⟨_, _, ok'.newD hT, sF, ?_, rv_d (.tup upd_same (.cons (.int _) (.cons (At.mono sF hv) .nil)))⟩
    unfold enums
    rw [List.getElem?_map, List.getElem?_range hi]
    simp [List.getD_eq_getElem?_getD, List.getElem?_eq_getElem hi]

/-! ### targets -/
inductive Tg where
  | name (i : Nat) | pair (i j : Nat)
def Tg.put (env : En) (r : Rv) : Tg → Option En
  | .name i => some (env.set i (some r))
  | .pair i j => match r with | .dat (.tup [a, b]) => some ((env.set i (some (.dat a))).set j (some (.dat b))) | _ => none
def Tg.at : Tg → List Nat
  | .name i => [i]
  | .pair i j => [i, j]
/-- how a target takes a value -/
def Tg.G (K : PySem.W.Frag) : Tg → TG
  | .name i => gName i
  | .pair i j => gTup K 2 (gCons (gName i) (gCons (gName j) gNil))
theorem Ok.setE {σ : L2.St} {F H : Hp} {κ : List Addr} {g : Rg} {v : V} {r : Rv} {i : Nat} (ok : Ok ks C σ F H κ env g) (h : RvOk ks F κ v r) : Ok ks C (σ.set i (some v)) F H κ (env.set i (some r)) g := by
  refine ⟨ok.g, ok.ch, by simpa using ok.len, fun j r' e => ?_⟩
  by_cases hj : i = j
  · subst hj
    have hl : i < env.length := by
      have := (List.getElem?_eq_some_iff.mp e).1
      simpa using this
    rw [List.getElem?_set_self hl] at e
    cases e
    exact ⟨v, by rw [List.getElem?_set_self (by rw [ok.len]; exact hl)], h⟩
  · rw [List.getElem?_set_ne hj] at e
    obtain ⟨w, h1, h2⟩ := ok.env j r' e
    exact ⟨w, by rw [List.getElem?_set_ne hj]; exact h1, h2⟩
theorem Ok.wipeE {σ : L2.St} {F H : Hp} {κ : List Addr} {g : Rg} {i : Nat} (ok : Ok ks C σ F H κ env g) : Ok ks C (σ.set i none) F H κ (env.set i none) g := by
  refine ⟨ok.g, ok.ch, by simpa using ok.len, fun j r' e => ?_⟩
  by_cases hj : i = j
  · subst hj
    have hl : i < env.length := by
      have := (List.getElem?_eq_some_iff.mp e).1
      simpa using this
    rw [List.getElem?_set_self hl] at e
    cases e
  · rw [List.getElem?_set_ne hj] at e
    obtain ⟨w, h1, h2⟩ := ok.env j r' e
    exact ⟨w, by rw [List.getElem?_set_ne hj]; exact h1, h2⟩
/-- names forgotten -/
def wipeN (env : En) : List Nat → En
  | [] => env
  | v :: vs => (wipeN env vs).set v none
theorem Ok.wipe {σ : L2.St} {F H : Hp} {κ : List Addr} {g : Rg} (ok : Ok ks C σ F H κ env g) : ∀ vs : List Nat, Ok ks C (L2.wipe σ vs) F H κ (wipeN env vs) g
  | [] => ok
  | v :: vs => (Ok.wipe ok vs).wipeE
theorem wipe_set_in {σ : L2.St} {i : Nat} {x : Option V} : ∀ {vs : List Nat}, i ∈ vs → wipe (σ.set i x) vs = wipe σ vs
  | [], h => by cases h
  | v :: vs, h => by
    show (wipe (σ.set i x) vs).set v none = (wipe σ vs).set v none
    by_cases hm : i ∈ vs
    · rw [wipe_set_in hm]
    · have e : i = v := by
        rcases List.mem_cons.mp h with e | e
        · exact e
        · exact absurd e hm
      subst e
      have comm : ∀ {us : List Nat}, i ∉ us → wipe (σ.set i x) us = (wipe σ us).set i x := by
        intro us
        induction us with
        | nil => intro _; rfl
        | cons u us ih =>
          intro hn
          have h1 : u ≠ i := fun z => hn (by rw [z]; exact List.mem_cons_self)
          show (wipe (σ.set i x) us).set u none = ((wipe σ us).set u none).set i x
          rw [ih fun z => hn (List.mem_cons_of_mem _ z), List.set_comm _ _ h1.symm]
      rw [comm hm, List.set_set]
theorem wipe_idem (σ : L2.St) : ∀ vs : List Nat, wipe (wipe σ vs) vs = wipe σ vs := by
  have key : ∀ (us : List Nat) (τ : L2.St), (∀ u ∈ us, τ[u]? = some none ∨ τ.length ≤ u) → wipe τ us = τ := by
    intro us
    induction us with
    | nil => intro τ _; rfl
    | cons u us ih =>
      intro τ h
      show (wipe τ us).set u none = τ
      rw [ih τ fun z hz => h z (List.mem_cons_of_mem _ hz)]
      rcases h u List.mem_cons_self with e | e
      · obtain ⟨l, e⟩ := List.getElem?_eq_some_iff.mp e
        rw [← e]; exact List.set_getElem_self l
      · exact List.set_eq_of_length_le e
  intro vs
  refine key vs _ fun u hu => ?_
  induction vs with
  | nil => cases hu
  | cons v vs ih =>
    show ((wipe σ vs).set v none)[u]? = some none ∨ ((wipe σ vs).set v none).length ≤ u
    by_cases e : v = u
    · subst e
      by_cases l : v < (wipe σ vs).length
      · exact .inl (List.getElem?_set_self l)
      · exact .inr (by rw [List.length_set]; omega)
    · rw [List.getElem?_set_ne e, List.length_set]
      rcases List.mem_cons.mp hu with z | z
      · exact absurd z.symm e
      · exact ih z
theorem Tg.G_ok {K : PySem.W.Frag} {T : Tg} {σ : L2.St} {F H : Hp} {κ : List Addr} {env env' : En} {g : Rg} {v : V} {r : Rv} {Q : L2.St → Hp → Prop} (ok : Ok ks C σ F H κ env g) (rv : RvOk ks F κ v r) (e : T.put env r = some env')
    (k : ∀ σ', Ok ks C σ' F H κ env' g → (∀ vs : List Nat, (∀ i ∈ T.at, i ∈ vs) → wipe σ' vs = wipe σ vs) → Q σ' H) : T.G K v σ H Q := by
  cases T with
  | name i =>
    cases e
    exact k _ (ok.setE rv) fun vs h => wipe_set_in (h i (by simp [Tg.at]))
  | pair i j =>
    simp only [Tg.put] at e
    split at e
    · rename_i a b
      cases e
      obtain ⟨p, xs, rfl, h1, h2⟩ := At.tupI rv
      cases h2 with
      | cons ha t =>
        cases t with
        | cons hb t =>
          cases t
          refine ⟨p, _, rfl, SqT.of (ok.ch.fh _ _ h1), rfl, _, _, rfl, _, _, rfl, rfl, ?_⟩
          refine k _ ((ok.setE (rv_d ha)).setE (rv_d hb)) fun vs h => ?_
          rw [wipe_set_in (h j (by simp [Tg.at])), wipe_set_in (h i (by simp [Tg.at]))]
    · cases e
theorem pg_n {i : Nat} {x : Str} (hN : X.N.Nodup) (hi : X.N[i]? = some x) (hx : Loc X.env.scope x) (hf : X.fn x = true ∨ X.env.scope.names.lookup x = some .local) : PG X (.Name x pos) ((Tg.name i).G X.K) := pg_name hN hi hx hf
theorem pg_p {i j : Nat} {x y : Str} {px py : Pos} {kk : Nat} (hc : X.calm = true) (hN : X.N.Nodup) (hi : X.N[i]? = some x) (hx : Loc X.env.scope x) (hf : X.fn x = true ∨ X.env.scope.names.lookup x = some .local)
    (hj : X.N[j]? = some y) (hy : Loc X.env.scope y) (hf' : X.fn y = true ∨ X.env.scope.names.lookup y = some .local) : PG X (.Tuple [.Name x px, .Name y py] kk pos) ((Tg.pair i j).G X.K) :=
  pg_tup hc (pgs_cons (pg_name hN hi hx hf) (pgs_cons (pg_name hN hj hy hf') pgs_nil))
/-! ### comprehensions -/
theorem Ok.slots {σ σ2 : L2.St} {F H F3 H3 : Hp} {κ κ3 : List Addr} {env env2 : En} {g g3 : Rg} (ok : Ok ks C σ F H κ env g) (ok3 : Ok ks C σ2 F3 H3 κ3 env2 g3) (s : Same F F3) (p : Pre κ κ3) : Ok ks C σ F3 H3 κ3 env g3 :=
  ⟨ok3.g, ok3.ch, ok.len, fun i r e => let ⟨v, h1, h2⟩ := ok.env i r e; ⟨v, h1, h2.mono s p⟩⟩
/-- a block's element, its test, whatever it starts from -/
def wEb (X : Cx) (scope : Scope) (e : Expr) : TE := fun σ H Q => ∀ s H0 Cc cl fp, wE (X.blk s H0 scope (compEnvC scope cl Cc X.env) fp) e σ H Q
def wTb (X : Cx) (scope : Scope) (e : Expr) : TT := fun σ H Q => ∀ s H0 Cc cl fp, wT (X.blk s H0 scope (compEnvC scope cl Cc X.env) fp) e σ H Q
theorem pe_wb {scope : Scope} {e : Expr} (s : Shared) (H0 : Hp) (Cc : Addr) (cl : List (Str × Addr)) (fp : List Addr) : PE (X.blk s H0 scope (compEnvC scope cl Cc X.env) fp) e (wEb X scope e) := ⟨fun pins s' σ H Q I h => h s H0 Cc cl fp pins s' I⟩
theorem pt_wb {scope : Scope} {e : Expr} (s : Shared) (H0 : Hp) (Cc : Addr) (cl : List (Str × Addr)) (fp : List Addr) : PT (X.blk s H0 scope (compEnvC scope cl Cc X.env) fp) e (wTb X scope e) := ⟨fun pins s' σ H Q I h => h s H0 Cc cl fp pins s' I⟩
/-- the test of a clause: none, or one -/
def ttOf (X : Cx) (scope : Scope) : List Expr → TT
  | [] => tYes
  | c :: _ => wTb X scope c
theorem pts_of {scope : Scope} {ifs : List Expr} (hl : ifs.length ≤ 1) (s : Shared) (H0 : Hp) (Cc : Addr) (cl : List (Str × Addr)) (fp : List Addr) : PTs (X.blk s H0 scope (compEnvC scope cl Cc X.env) fp) ifs (ttOf X scope ifs) := by
  match ifs, hl with
  | [], _ => exact pts_nil
  | [c], _ => exact pts_one (pt_wb s H0 Cc cl fp)
  | _ :: _ :: _, h => simp at h
/-- the tests' reading in a block -/
def SC (ks : Kt) (X : Cx) (C : Ent) (scope : Scope) (ifs : List Expr) (W : En → Rg → (Bool → Rg → Prop) → Prop) : Prop := ∀ env g Q, W env g Q → ∀ σ F H κ Qv, Ok ks C σ F H κ env g → KontT ks C env σ F κ Q Qv → ttOf X scope ifs σ H Qv
theorem sc_nil {scope : Scope} : SC ks X C scope [] (fun _ g Q => Q true g) := fun env g Q h σ F H κ Qv ok k => k true F H κ g ok (Same.refl F) (Pre.refl κ) h
theorem sc_one {scope : Scope} {c : Expr} {W : En → Rg → (Bool → Rg → Prop) → Prop} (h : ∀ env s H0 Cc cl fp, ST ks (X.blk s H0 scope (compEnvC scope cl Cc X.env) fp) C env c (W env)) : SC ks X C scope [c] W :=
  fun env g Q hw σ F H κ Qv ok k s H0 Cc cl fp => h env s H0 Cc cl fp g Q hw σ F H κ Qv ok k
def WComp (T : Tg) (vs : List Nat) (env : En) (Wt : En → Rg → (Bool → Rg → Prop) → Prop) (We : En → Rg → RQ → Prop) (its : List Rv) (keep : Rg → Prop) (g1 : Rg) (Q : RQ) : Prop :=
  ∃ Inv : Nat → List Rv → Rg → Prop, Inv 0 [] (g1 ++ [.lst []]) ∧ (∀ k acc g, Inv k acc g → keep g ∧ g[g1.length]? = some (.lst acc)) ∧
  (∀ k r acc g, its[k]? = some r → Inv k acc g → ∃ env', T.put (wipeN env vs) (nrm g r) = some env' ∧ Wt env' g fun b g2 =>
    (b = true → We env' g2 fun y g3 => g3[g1.length]? = some (.lst acc) ∧ acc.length < 1000000 ∧ Inv (k + 1) (acc ++ [y]) (g3.set g1.length (.lst (acc ++ [y])))) ∧ (b = false → Inv (k + 1) acc g2)) ∧
  ∀ acc g, Inv its.length acc g → Q (.ref g1.length) g
theorem lc_sem {elt : Expr} {ifs : List Expr} {scope : Scope} {T : Tg} {vs : List Nat} {WI : Rg → IQ → Prop} {Wt : En → Rg → (Bool → Rg → Prop) → Prop} {We : En → Rg → RQ → Prop} {wi : TI}
    (hi : ∀ g Q, WI g Q → ∀ σ F H κ R, Ok ks C σ F H κ env g → (∀ J F' H' κ' its keep g', Ok ks C σ F' H' κ' env g' → Same F F' → Pre κ κ' → JOk ks C J F' κ' its keep → keep g' → Q its keep g' → R J H') → wi σ H R)
    (ht : SC ks X C scope ifs Wt) (he : ∀ env s H0 Cc cl fp, SE ks (X.blk s H0 scope (compEnvC scope cl Cc X.env) fp) C env elt (We env)) (hT : ∀ i ∈ T.at, i ∈ vs)
    {g : Rg} {Q : RQ} {σ : L2.St} {F H : Hp} {κ : List Addr} {Qv : VK} (h : WI g fun its keep g1 => WComp T vs env Wt We its keep g1 Q) (ok : Ok ks C σ F H κ env g) (k : Kont ks C env σ F κ Q Qv) :
    tLc wi (T.G X.K) (ttOf X scope ifs) (wEb X scope elt) vs σ H Qv := by
  refine hi g _ h σ F H κ _ ok fun J F1 H1 κ1 its keep g1 ok1 s1 p1 jok kp0 q => ?_
  intro D hD
  obtain ⟨Inv, i0, ik, istep, iend⟩ := q
  have ok2 := ok1.newL hD (All2.nil (R := RvOk ks F1 κ1))
  refine ⟨fun i m H' => m = its.length - i ∧ i ≤ its.length ∧ ∃ F' κ' acc g', Ok ks C σ F' H' κ' env g' ∧ Same F1 F' ∧ Pre (κ1 ++ [D]) κ' ∧ Inv i acc g',
    ⟨its.length, by simp, Nat.zero_le _, F1, κ1 ++ [D], [], _, ok2, Same.refl F1, Pre.refl _, i0⟩, ?_⟩
  rintro i m H' ⟨rfl, hil, F', κ', acc, g', ok', s', p', inv⟩
  obtain ⟨kp, hacc⟩ := ik i acc g' inv
  have p1' : Pre κ1 κ' := (Pre.app κ1 [D]).trans p'
  have hDk : κ'[g1.length]? = some D := p' _ _ (by rw [← ok1.g.len]; simp)
  by_cases hlt : i < its.length
  · refine .inr ⟨jok.go ok' s' p1' kp hlt, fun H'' => ∃ F'' κ'' acc'' g'', Ok ks C σ F'' H'' κ'' env g'' ∧ Same F1 F'' ∧ Pre (κ1 ++ [D]) κ'' ∧ Inv (i + 1) acc'' g'',
      fun H'' n => ⟨its.length - (i + 1), by omega, rfl, hlt, n⟩, fun x H2 hy => ?_⟩
    obtain ⟨F2, r, okb, sb, hr, hv⟩ := jok.yld ok' s' p1' kp hlt hy
    obtain ⟨env', ep, q⟩ := istep i r acc g' hr inv
    refine Tg.G_ok (okb.wipe vs) (hv.nrm okb) ep fun σ2 ok3 hw => ⟨by rw [hw vs hT, wipe_idem], ?_⟩
    refine ht env' g' _ q σ2 F2 H2 κ' _ ok3 fun b F3 H3 κ3 g3 ok4 s4 p4 q4 => ?_
    cases b with
    | false =>
      rw [if_neg Bool.false_ne_true]
      exact ⟨F3, κ3, acc, g3, okb.slots ok4 s4 p4, (s'.trans sb).trans s4, p'.trans p4, q4.2 rfl⟩
    | true =>
      rw [if_pos rfl]
      intro s H0 Cc cl fp
      refine he env' s H0 Cc cl fp g3 _ (q4.1 rfl) σ2 F3 H3 κ3 _ ok4 fun y F5 H5 κ5 ry g5 ok5 s5 p5 rv5 q5 => ?_
      obtain ⟨e5, l5, inv5⟩ := q5
      obtain ⟨a, xs, ha, h1, h2⟩ := ok5.lstAt e5
      have hD5 : κ5[g1.length]? = some D := p5 _ _ (p4 _ _ hDk)
      rw [hD5] at ha; cases ha
      refine ⟨xs, h1, by rw [h2.length]; exact Nat.lt_of_lt_of_le l5 (by decide), F5, κ5, _, _, ?_, ((s'.trans sb).trans s4).trans s5, (p'.trans p4).trans p5, inv5⟩
      exact (okb.slots (ok5.putL e5 hD5 (h2.append (.cons rv5 .nil))) (s4.trans s5) (p4.trans p5))
  · have e : i = its.length := by omega
    subst e
    exact .inl ⟨jok.stop ok' s' p1' kp (Nat.le_refl _), k _ F' H' κ' _ g' ok' (s1.trans s') (p1.trans p1') (rv_ref hDk) (iend acc g' inv)⟩
theorem se_comp {elt tg iter : Expr} {ifs : List Expr} {scope : Scope} {own : List (Str × Nat)} {T : Tg} {WI : Rg → IQ → Prop} {Wt : En → Rg → (Bool → Rg → Prop) → Prop} {We : En → Rg → RQ → Prop}
    (hc : X.calm = true) (hN : X.N.Nodup) (hi : SI ks X C env tg iter WI) (bok : BlkOk X.N X.env.scope scope own) (hg : ∀ s H0 Cc cl fp, PG (X.blk s H0 scope (compEnvC scope cl Cc X.env) fp) tg (T.G X.K)) (hl : ifs.length ≤ 1)
    (ht : SC ks X C scope ifs Wt) (he : ∀ env s H0 Cc cl fp, SE ks (X.blk s H0 scope (compEnvC scope cl Cc X.env) fp) C env elt (We env)) (hT : ∀ i ∈ T.at, i ∈ own.map (·.2)) (hs : ∀ x, foldedSetIterable iter X.env x = pure x) :
    SE ks X C env (.ListComp elt [⟨tg, iter, ifs, 0⟩] scope pos) (fun g Q => WI g fun its keep g1 => WComp T (own.map (·.2)) env Wt We its keep g1 Q) := by
  obtain ⟨wi, hp, hw⟩ := hi
  intro g Q h σ F H κ Qv ok k
  exact wE_of (pe_lc hc hN hp bok hg (fun s H0 Cc cl fp => pts_of hl s H0 Cc cl fp) (fun s H0 Cc cl fp => pe_wb s H0 Cc cl fp) hs) (lc_sem hw ht he hT h ok k)
end
end DW

/-! ## DW8.lean -/
set_option Elab.async false
set_option linter.all false
set_option maxRecDepth 100000
set_option maxHeartbeats 2000000
set_option autoImplicit false
/-! DW8: statements; a def by its body. -/
namespace DW
open PySem PySem.Spec L2
open PyProof.Rows hiding St

abbrev EQ := En → Rg → Prop
section
variable {ks : Kt} {X : Cx} {C : Ent} {pos : Pos}
def wSs (X : Cx) (sts : List Stmt) : TS := fun D σ H => ∀ pins s, Inv X pins σ H s → wpAny (model X.prog X.w) X.A (execs sts X.env) (SP X pins D) X.xe s
def wS (X : Cx) (st : Stmt) : TS := fun D σ H => ∀ pins s, Inv X pins σ H s → wpAny (model X.prog X.w) X.A (exec st X.env) (SP X pins D) X.xe s
theorem pss_w {sts : List Stmt} : PSs X sts (wSs X sts) := ⟨fun pins s σ H Q I h => h pins s I⟩
theorem ps_w {st : Stmt} : PS X st (wS X st) := ⟨fun pins s σ H Q I h => h pins s I⟩
theorem wSs_of {sts : List Stmt} {t : TS} {D : Ends} {σ : L2.St} {H : Hp} (p : PSs X sts t) (h : t D σ H) : wSs X sts D σ H := fun pins s I => p.run pins s σ H D I h
theorem wS_of {st : Stmt} {t : TS} {D : Ends} {σ : L2.St} {H : Hp} (p : PS X st t) (h : t D σ H) : wS X st D σ H := fun pins s I => p.run pins s σ H D I h
/-- what is wanted of an exception of a class (by its number): over data, and in the heap -/
structure XZ where
  ex : Nat → Rg → Prop
  wx : Nat → L2.St → Hp → Prop
variable {Z : XZ}
structure KontS (ks : Kt) (C : Ent) (Z : XZ) (F : Hp) (κ : List Addr) (N : EQ) (R : RQ) (D : Ends) : Prop where
  nx : ∀ σ' F' H' κ' env' g', Ok ks C σ' F' H' κ' env' g' → Same F F' → Pre κ κ' → N env' g' → D.nx σ' H'
  rt : ∀ σ' env' v F' H' κ' r g', Ok ks C σ' F' H' κ' env' g' → Same F F' → Pre κ κ' → RvOk ks F' κ' v r → R r g' → D.rt v H'
  xx : ∀ c σ' F' H' κ' env' g', Ok ks C σ' F' H' κ' env' g' → Same F F' → Pre κ κ' → Z.ex c g' → Z.wx c σ' H'
abbrev SWt := En → Rg → EQ → RQ → Prop
def SS (ks : Kt) (X : Cx) (C : Ent) (Z : XZ) (st : Stmt) (W : SWt) : Prop := ∀ env g N R, W env g N R → ∀ σ F H κ D, Ok ks C σ F H κ env g → KontS ks C Z F κ N R D → wS X st D σ H
def SB (ks : Kt) (X : Cx) (C : Ent) (Z : XZ) (sts : List Stmt) (W : SWt) : Prop := ∀ env g N R, W env g N R → ∀ σ F H κ D, Ok ks C σ F H κ env g → KontS ks C Z F κ N R D → wSs X sts D σ H
theorem KontS.at {F F1 : Hp} {κ κ1 : List Addr} {N : EQ} {R : RQ} {D : Ends} (k : KontS ks C Z F κ N R D) (s : Same F F1) (p : Pre κ κ1) : KontS ks C Z F1 κ1 N R D :=
  ⟨fun σ' F' H' κ' env' g' ok s' p' q => k.nx σ' F' H' κ' env' g' ok (s.trans s') (p.trans p') q, fun σ' env' v F' H' κ' r g' ok s' p' rv q => k.rt σ' env' v F' H' κ' r g' ok (s.trans s') (p.trans p') rv q,
   fun c σ' F' H' κ' env' g' ok s' p' q => k.xx c σ' F' H' κ' env' g' ok (s.trans s') (p.trans p') q⟩
theorem sb_nil : SB ks X C Z [] (fun env g N R => N env g) := fun env g N R h σ F H κ D ok k => wSs_of pss_nil (k.nx σ F H κ env g ok (Same.refl F) (Pre.refl κ) h)
theorem sb_cons {st : Stmt} {rest : List Stmt} {W W' : SWt} (h1 : SS ks X C Z st W) (h2 : SB ks X C Z rest W') : SB ks X C Z (st :: rest) (fun env g N R => W env g (fun env g => W' env g N R) R) := by
  intro env g N R h σ F H κ D ok k
  refine wSs_of (pss_cons ps_w pss_w) ?_
  exact h1 env g _ R h σ F H κ _ ok ⟨fun σ' F' H' κ' env' g' ok' s p q => h2 env' g' N R q σ' F' H' κ' D ok' (k.at s p), k.rt, k.xx⟩
theorem ss_pass : SS ks X C Z (.Pass pos) (fun env g N R => N env g) := fun env g N R h σ F H κ D ok k => wS_of ps_pass (k.nx σ F H κ env g ok (Same.refl F) (Pre.refl κ) h)
theorem ss_never {st : Stmt} : SS ks X C Z st (fun env g N R => False) := fun env g N R h => h.elim
theorem ss_set {i : Nat} {x : Str} {e : Expr} {pos' : Pos} {W : En → Rg → RQ → Prop} (hN : X.N.Nodup) (hi : X.N[i]? = some x) (hx : Loc X.env.scope x) (he : ∀ env, SE ks X C env e (W env)) (hs : swapsWith e (some (.Name x pos')) pos.line X.env = pure false)
    (hf : X.fn x = true ∨ X.env.scope.names.lookup x = some .local) : SS ks X C Z (.Assign [.Name x pos'] e pos) (fun env g N R => W env g fun r g1 => N (env.set i (some r)) g1) := by
  intro env g N R h σ F H κ D ok k
  refine wS_of (ps_set hN hi hx pe_w hs hf) ?_
  exact he env g _ h σ F H κ _ ok fun v F1 H1 κ1 r g1 ok1 s1 p1 rv q => k.nx _ F1 H1 κ1 _ g1 (ok1.setE rv) s1 p1 q
theorem ss_setC {i : Nat} {y : Str} {py spos : Pos} {elt tg iter : Expr} {ifs : List Expr} {scope : Scope} {own : List (Str × Nat)} {T : Tg} {WI : En → Rg → IQ → Prop} {Wt : En → Rg → (Bool → Rg → Prop) → Prop} {We : En → Rg → RQ → Prop}
    (hc : X.calm = true) (hN : X.N.Nodup) (hy : X.N[i]? = some y) (hyl : X.env.scope.names.lookup y = some .local) (hsw : swapsWith (.ListComp elt [⟨tg, iter, ifs, 0⟩] scope pos) (some (.Name y py)) spos.line X.env = pure true)
    (hi : ∀ env, SI ks X C env tg iter (WI env)) (bok : BlkOk X.N X.env.scope scope own) (hg : ∀ s H0 Cc cl fp, PG (X.blk s H0 scope (compEnvC scope cl Cc X.env) fp) tg (T.G X.K)) (hl : ifs.length ≤ 1)
    (ht : SC ks X C scope ifs Wt) (he : ∀ env s H0 Cc cl fp, SE ks (X.blk s H0 scope (compEnvC scope cl Cc X.env) fp) C env elt (We env)) (hT : ∀ i ∈ T.at, i ∈ own.map (·.2)) (hs : ∀ x, foldedSetIterable iter X.env x = pure x) :
    SS ks X C Z (.Assign [.Name y py] (.ListComp elt [⟨tg, iter, ifs, 0⟩] scope pos) spos) (fun env g N R => WI env g fun its keep g1 => WComp T (own.map (·.2)) env Wt We its keep g1 fun r g2 => N (env.set i (some r)) g2) := by
  intro env g N R h σ F H κ D ok k
  obtain ⟨wi, hp, hw⟩ := hi env
  refine wS_of (ps_setLc hc hN hy hyl hsw hp bok hg (fun s H0 Cc cl fp => pts_of hl s H0 Cc cl fp) (fun s H0 Cc cl fp => pe_wb s H0 Cc cl fp) hs) ?_
  exact lc_sem hw ht he hT h ok fun v F1 H1 κ1 r g1 ok1 s1 p1 rv q => k.nx _ F1 H1 κ1 _ g1 (ok1.setE rv) s1 p1 q
def wSetIx (ro ri r : Rv) (g : Rg) (Q : Rg → Prop) : Prop := ∃ c l i j, ro = .ref c ∧ ri = .dat (.int i) ∧ g[c]? = some (.lst l) ∧ ixN l.length i = some j ∧ Q (g.set c (.lst (l.set j r)))
theorem ss_setIx {a b e : Expr} {p2 : Pos} {W Wa Wb : En → Rg → RQ → Prop} (he : ∀ env, SE ks X C env e (W env)) (ha : ∀ env, SE ks X C env a (Wa env)) (hb : ∀ env, SE ks X C env b (Wb env))
    (hs : swapsWithSole [.Subscript a b p2] e pos.line X.env = pure false) (hw : swappedStores [.Subscript a b p2] e X.env = pure none) (h1 : (assignEach [.Subscript a b p2] X.env).map (·.2) = [assign (.Subscript a b p2) X.env])
    (hsub : ∀ v, assign (.Subscript a b p2) X.env v = (do
      let ov ← holding [v] (eval a X.env)
      let iv ← holding [v, ov] (eval b X.env)
      standAt p2
      holding [v, ov, iv] (setItem ov iv v)
      release [v, ov, iv] [])) :
    SS ks X C Z (.Assign [.Subscript a b p2] e pos) (fun env g N R => W env g fun r g1 => Wa env g1 fun ro g2 => Wb env g2 fun ri g3 => wSetIx ro ri r g3 fun g4 => N env g4) := by
  intro env g N R h σ F H κ D ok k
  refine wS_of (ps_asg pe_w (pg_sub pe_w pe_w set_list hsub) hs hw h1) ?_
  refine he env g _ h σ F H κ _ ok fun v F1 H1 κ1 r g1 ok1 s1 p1 rv1 q1 => ha env g1 _ q1 σ F1 H1 κ1 _ ok1 fun vo F2 H2 κ2 ro g2 ok2 s2 p2 rv2 q2 => hb env g2 _ q2 σ F2 H2 κ2 _ ok2 fun vi F3 H3 κ3 ri g3 ok3 s3 p3 rv3 q3 => ?_
  obtain ⟨c, l, i, j, rfl, rfl, e1, e2, q⟩ := q3
  obtain ⟨a', ha', rfl⟩ := rv2.mono s3 p3
  obtain ⟨a'', xs, hb', h2, h3⟩ := ok3.lstAt e1
  rw [ha'] at hb'; cases hb'
  refine ⟨a', xs, i, j, rfl, At.intI rv3, h2, by rw [h3.length]; exact e2, ?_⟩
  exact k.nx σ F3 _ κ3 env _ (ok3.putL e1 ha' (All2.set (rv1.mono (s2.trans s3) (p2.trans p3)) j h3)) ((s1.trans s2).trans s3) ((p1.trans p2).trans p3) q
/-- a dict's pairs with one more, or one changed -/
def putN (krs : List (Nat × Rv)) (k : Nat) (r : Rv) : List (Nat × Rv) := if (krs.any fun p => p.1 == k) = true then krs.map (fun p => if p.1 == k then (p.1, r) else p) else krs ++ [(k, r)]
theorem putK_of (nd : ks.w.Nodup) {F : Hp} {κ : List Addr} {k : Nat} {x : Str} {v : V} {r : Rv} (hx : ks.w[k]? = some x) (hv : RvOk ks F κ v r) {kvs : List (Key × V)} {krs : List (Nat × Rv)} (h : All2 (KvOk ks F κ) kvs krs) :
    All2 (KvOk ks F κ) (L2.putK kvs (.inr x) v) (putN krs k r) := by
  have key : ∀ {p : Key × V} {q : Nat × Rv}, KvOk ks F κ p q → (decide (p.1 = (.inr x : Key))) = (q.1 == k) := fun {p q} ⟨⟨y, hy, e⟩, _⟩ => by
    rw [e, key_eq nd hy hx]
    by_cases z : k = q.1
    · subst z; rfl
    · rw [beq_eq_false_iff_ne.mpr z, beq_eq_false_iff_ne.mpr (Ne.symm z)]
  have ha : (kvs.any fun kv => decide (kv.1 = (.inr x : Key))) = krs.any fun p => p.1 == k := by
    induction h with
    | nil => rfl
    | cons a _ ih => rw [List.any_cons, List.any_cons, key a, ih]
  unfold L2.putK putN
  rw [ha]
  split
  · rename_i hif
    clear ha hif
    induction h with
    | nil => exact .nil
    | @cons p q _ _ a _ ih =>
      rw [List.map_cons, List.map_cons]
      refine .cons ?_ ih
      have e := key a
      by_cases z : p.1 = (.inr x : Key)
      · rw [decide_eq_true z] at e
        rw [if_pos z, if_pos e.symm]
        exact ⟨a.1, hv⟩
      · rw [decide_eq_false z] at e
        rw [if_neg z, if_neg (by rw [← e]; decide)]
        exact a
  · exact h.append (.cons ⟨⟨x, hx, rfl⟩, hv⟩ .nil)
def wSetKey (ro ri r : Rv) (g : Rg) (Q : Rg → Prop) : Prop := ∃ c l k, ro = .ref c ∧ ri = .dat (.str k) ∧ g[c]? = some (.dic l) ∧ l.length < 1000000 ∧ Q (g.set c (.dic (putN l k r)))
theorem ss_setKey {a b e : Expr} {p2 : Pos} {W Wa Wb : En → Rg → RQ → Prop} (hk : KsOk ks) (hu : X.A.units + 1 < cLine) (he : ∀ env, SE ks X C env e (W env)) (ha : ∀ env, SE ks X C env a (Wa env)) (hb : ∀ env, SE ks X C env b (Wb env))
    (hs : swapsWith e (some (.Subscript a b p2)) pos.line X.env = pure false) :
    SS ks X C Z (.Assign [.Subscript a b p2] e pos) (fun env g N R => W env g fun r g1 => Wa env g1 fun ro g2 => Wb env g2 fun ri g3 => wSetKey ro ri r g3 fun g4 => N env g4) := by
  intro env g N R h σ F H κ D ok k
  refine wS_of (ps_dput hu pe_w pe_w pe_w hs) ?_
  refine he env g _ h σ F H κ _ ok fun v F1 H1 κ1 r g1 ok1 s1 p1 rv1 q1 => ha env g1 _ q1 σ F1 H1 κ1 _ ok1 fun vo F2 H2 κ2 ro g2 ok2 s2 p2 rv2 q2 => hb env g2 _ q2 σ F2 H2 κ2 _ ok2 fun vi F3 H3 κ3 ri g3 ok3 s3 p3 rv3 q3 => ?_
  obtain ⟨c, l, kk, rfl, rfl, e1, e2, q⟩ := q3
  obtain ⟨a', ha', rfl⟩ := rv2.mono s3 p3
  obtain ⟨a'', kvs, hb', h2, h3⟩ := ok3.dicAt e1
  rw [ha'] at hb'; cases hb'
  obtain ⟨z, rfl, hz⟩ := At.strI rv3
  refine ⟨a', _, rfl, DPut.k (k := .inr z) h2 (by rw [h3.length]; exact Nat.lt_of_lt_of_le e2 (by decide)), ?_⟩
  exact k.nx σ F3 _ κ3 env _ (ok3.putK e1 ha' (putK_of hk.nd hz (rv1.mono (s2.trans s3) (p2.trans p3)) h3)) ((s1.trans s2).trans s3) ((p1.trans p2).trans p3) q
theorem ss_expr {e : Expr} {W : En → Rg → RQ → Prop} (he : ∀ env, SE ks X C env e (W env)) (hs : swapsWith e none pos.line X.env = pure false) : SS ks X C Z (.Expr e pos) (fun env g N R => W env g fun _ g1 => N env g1) := by
  intro env g N R h σ F H κ D ok k
  refine wS_of (ps_expr pe_w hs) ?_
  exact he env g _ h σ F H κ _ ok fun v F1 H1 κ1 r g1 ok1 s1 p1 rv q => k.nx σ F1 H1 κ1 env g1 ok1 s1 p1 q
theorem ss_ret {e : Expr} {W : En → Rg → RQ → Prop} (he : ∀ env, SE ks X C env e (W env)) : SS ks X C Z (.Return (some e) pos) (fun env g N R => W env g R) := by
  intro env g N R h σ F H κ D ok k
  refine wS_of (ps_ret pe_w) ?_
  exact he env g _ h σ F H κ _ ok fun v F1 H1 κ1 r g1 ok1 s1 p1 rv q => k.rt σ env v F1 H1 κ1 r g1 ok1 s1 p1 rv q
theorem ss_if {c : Expr} {a b : List Stmt} {Wc : En → Rg → (Bool → Rg → Prop) → Prop} {Wa Wb : SWt} (hc : ∀ env, ST ks X C env c (Wc env)) (ha : SB ks X C Z a Wa) (hb : SB ks X C Z b Wb) :
    SS ks X C Z (.If c a b pos) (fun env g N R => Wc env g fun k g1 => (k = true → Wa env g1 N R) ∧ (k = false → Wb env g1 N R)) := by
  intro env g N R h σ F H κ D ok k
  refine wS_of (ps_if pt_w pss_w pss_w) ?_
  refine hc env g _ h σ F H κ _ ok fun t F1 H1 κ1 g1 ok1 s1 p1 q => ?_
  cases t with
  | true => rw [if_pos rfl]; exact ha env g1 N R (q.1 rfl) σ F1 H1 κ1 D ok1 (k.at s1 p1)
  | false => rw [if_neg Bool.false_ne_true]; exact hb env g1 N R (q.2 rfl) σ F1 H1 κ1 D ok1 (k.at s1 p1)
def WWhile (Wc : En → Rg → (Bool → Rg → Prop) → Prop) (Wb : SWt) : SWt := fun env g N R => ∃ Inv : Nat → En → Rg → Prop, (∃ m, Inv m env g) ∧ ∀ m env g, Inv m env g →
  Wc env g fun k g1 => (k = true → Wb env g1 (fun env' g' => ∃ m', m' < m ∧ Inv m' env' g') R) ∧ (k = false → N env g1)
theorem ss_while {c : Expr} {body : List Stmt} {Wc : En → Rg → (Bool → Rg → Prop) → Prop} {Wb : SWt} (hp : PassesOwn (model X.prog X.w) X.A X.env X.xe) (hc : ∀ env, ST ks X C env c (Wc env)) (hb : SB ks X C Z body Wb) : SS ks X C Z (.While c body [] pos) (WWhile Wc Wb) := by
  intro env g N R h σ F H κ D ok k
  obtain ⟨Inv, ⟨m0, i0⟩, istep⟩ := h
  refine wS_of (ps_while hp pt_w pss_w) ?_
  refine ⟨fun m σ H => ∃ F' κ' env g, Ok ks C σ F' H κ' env g ∧ Same F F' ∧ Pre κ κ' ∧ Inv m env g, ⟨m0, F, κ, env, g, ok, Same.refl F, Pre.refl κ, i0⟩, ?_⟩
  rintro m σ' H' ⟨F', κ', env', g', ok', s', p', inv⟩
  refine hc env' g' _ (istep m env' g' inv) σ' F' H' κ' _ ok' fun t F1 H1 κ1 g1 ok1 s1 p1 q => ?_
  cases t with
  | true =>
    rw [if_pos rfl]
    refine ⟨fun σ2 H2 => ∃ m', m' < m ∧ ∃ F' κ' env g, Ok ks C σ2 F' H2 κ' env g ∧ Same F F' ∧ Pre κ κ' ∧ Inv m' env g, fun σ2 H2 n => n, ?_⟩
    refine hb env' g1 _ R (q.1 rfl) σ' F1 H1 κ1 _ ok1 ⟨fun σ2 F2 H2 κ2 env2 g2 ok2 s2 p2 ⟨m', hm, i2⟩ => ⟨m', hm, F2, κ2, env2, g2, ok2, (s'.trans s1).trans s2, (p'.trans p1).trans p2, i2⟩, ?_, ?_⟩
    · exact (k.at (s'.trans s1) (p'.trans p1)).rt
    · exact (k.at (s'.trans s1) (p'.trans p1)).xx
  | false =>
    rw [if_neg Bool.false_ne_true]
    exact k.nx σ' F1 H1 κ1 env' g1 ok1 (s'.trans s1) (p'.trans p1) (q.2 rfl)
def WFor (WI : En → Rg → IQ → Prop) (T : Tg) (Wb : SWt) : SWt := fun env g N R => WI env g fun its keep g1 => ∃ Inv : Nat → En → Rg → Prop, Inv 0 env g1 ∧ (∀ k env g, Inv k env g → keep g) ∧
  (∀ k r env g, its[k]? = some r → Inv k env g → ∃ env', T.put env (nrm g r) = some env' ∧ Wb env' g (Inv (k + 1)) R) ∧ ∀ env g, Inv its.length env g → N env g
theorem ss_for {tg iter : Expr} {body : List Stmt} {T : Tg} {WI : En → Rg → IQ → Prop} {Wb : SWt} (hp : PassesOwn (model X.prog X.w) X.A X.env X.xe) (hcm : X.calm = true) (hi : ∀ env, SI ks X C env tg iter (WI env)) (hg : PG X tg (T.G X.K)) (hb : SB ks X C Z body Wb)
    (hs : ∀ x, foldedSetIterable iter X.env x = pure x) : SS ks X C Z (.For tg iter body [] pos) (WFor WI T Wb) := by
  intro env g N R h σ F H κ D ok k
  obtain ⟨wi, hpi, hw⟩ := hi env
  refine wS_of (ps_for hp hcm hpi hg pss_w hs) ?_
  refine hw g _ h σ F H κ _ ok fun J F1 H1 κ1 its keep g1 ok1 s1 p1 jok kp0 q => ?_
  obtain ⟨Inv, i0, ik, istep, iend⟩ := q
  refine ⟨fun i m σ H => m = its.length - i ∧ i ≤ its.length ∧ ∃ F' κ' env g, Ok ks C σ F' H κ' env g ∧ Same F1 F' ∧ Pre κ1 κ' ∧ Inv i env g, ⟨its.length, by simp, Nat.zero_le _, F1, κ1, env, g1, ok1, Same.refl F1, Pre.refl κ1, i0⟩, ?_⟩
  rintro i m σ' H' ⟨rfl, hil, F', κ', env', g', ok', s', p', inv⟩
  have kp := ik i env' g' inv
  by_cases hlt : i < its.length
  · refine .inr ⟨jok.go ok' s' p' kp hlt, fun σ2 H2 => ∃ F' κ' env g, Ok ks C σ2 F' H2 κ' env g ∧ Same F1 F' ∧ Pre κ1 κ' ∧ Inv (i + 1) env g, fun σ2 H2 n => ⟨its.length - (i + 1), by omega, rfl, hlt, n⟩, fun x H2 hy => ?_⟩
    obtain ⟨F2, r, ok2, s2, hr, hv⟩ := jok.yld ok' s' p' kp hlt hy
    obtain ⟨env2, ep, q⟩ := istep i r env' g' hr inv
    refine Tg.G_ok ok2 (hv.nrm ok2) ep fun σ3 ok3 _ => ?_
    refine hb env2 g' _ R q σ3 F2 H2 κ' _ ok3 ⟨fun σ4 F4 H4 κ4 env4 g4 ok4 s4 p4 i4 => ⟨F4, κ4, env4, g4, ok4, (s'.trans s2).trans s4, p'.trans p4, i4⟩, ?_, ?_⟩
    · exact (k.at ((s1.trans s').trans s2) (p1.trans p')).rt
    · exact (k.at ((s1.trans s').trans s2) (p1.trans p')).xx
  · have e : i = its.length := by omega
    subst e
    exact .inl ⟨jok.stop ok' s' p' kp (Nat.le_refl _), k.nx σ' F' H' κ' env' g' ok' (s1.trans s') (p1.trans p') (iend env' g' inv)⟩

/-! ### a def by its body -/
/-- what stands in a cell refers to the first m alone -/
def Rv.lt (m : Nat) : Rv → Prop
  | .dat _ => True
  | .ref c => c < m
def Cell.lt (m : Nat) : Cell → Prop
  | .lst rs => ∀ r ∈ rs, r.lt m
  | .dic krs => ∀ p ∈ krs, p.2.lt m
  | .fz _ => True
  | .dead => True
/-- what a def's end gives its caller, whose own objects are g0: his own objects come first; the answer is data, or one of the first m -/
inductive Fin (g0 : Rg) (P : RQ) : RQ
  | sub {r : Rv} {g : Rg} (m : Nat) (hm : g0.length ≤ m) (hl : m ≤ g.length) (hc : ∀ (c : Nat) (cell : Cell), c < m → g[c]? = some cell → g0[c]? = some cell ∨ cell.lt m) (hr : r.lt m) (h : P r (g.take m)) : Fin g0 P r g
  | frz {r : Rv} {g : Rg} (d : D) (hd : RD g g0.length r d) (hl : g0.length ≤ g.length) (hc : ∀ (c : Nat) (cell : Cell), c < g0.length → g[c]? = some cell → g0[c]? = some cell ∨ cell.lt g0.length) (h : P (.dat d) (g.take g0.length)) : Fin g0 P r g
theorem RvOk.cut {F : Hp} {κ : List Addr} {m : Nat} {v : V} : ∀ {r : Rv}, RvOk ks F κ v r → r.lt m → RvOk ks F (κ.take m) v r
  | .dat _, h, _ => h
  | .ref c, ⟨a, e, q⟩, hl => ⟨a, by rw [List.getElem?_take_of_lt hl]; exact e, q⟩
theorem All2.impR {α β : Type} {R S : α → β → Prop} : ∀ {l : List α} {m : List β}, All2 R l m → (∀ a b, b ∈ m → R a b → S a b) → All2 S l m
  | _, _, .nil, _ => .nil
  | _, _, .cons a t, f => .cons (f _ _ List.mem_cons_self a) (All2.impR t fun a b hb => f a b (List.mem_cons_of_mem _ hb))
theorem CellOk.cut {F H : Hp} {κ : List Addr} {W : Addr → Prop} {m : Nat} {a : Addr} {cell : Cell} (h : CellOk ks F H κ W a cell) (hl : cell.lt m) : CellOk ks F H (κ.take m) W a cell := by
  cases cell with
  | lst rs => exact ⟨h.1, h.2.1, h.2.2.imp fun xs q => ⟨q.1, q.2.impR fun _ r hr z => z.cut (hl r hr)⟩⟩
  | dic rs => exact ⟨h.1, h.2.1, h.2.2.imp fun xs q => ⟨q.1, q.2.impR fun _ r hr z => ⟨z.1, z.2.cut (hl r hr)⟩⟩⟩
  | fz d => exact h
  | dead => exact True.intro
theorem CellOk.ltLen {F H : Hp} {κ : List Addr} {W : Addr → Prop} {a : Addr} {cell : Cell} (h : CellOk ks F H κ W a cell) : cell.lt κ.length := by
  have one : ∀ {v : V} {r : Rv}, RvOk ks F κ v r → r.lt κ.length := fun {v r} q => by
    cases r with
    | dat d => exact True.intro
    | ref c => obtain ⟨a, e, _⟩ := q; exact (List.getElem?_eq_some_iff.mp e).1
  cases cell with
  | lst rs =>
    obtain ⟨_, _, xs, _, h⟩ := h
    intro r hr
    obtain ⟨i, hi, e⟩ := List.mem_iff_getElem.mp hr
    obtain ⟨v, _, q⟩ := h.get (i := i) (b := r) (by rw [List.getElem?_eq_getElem hi, e])
    exact one q
  | dic rs =>
    obtain ⟨_, _, xs, _, h⟩ := h
    intro r hr
    obtain ⟨i, hi, e⟩ := List.mem_iff_getElem.mp hr
    obtain ⟨v, _, q⟩ := h.get (i := i) (b := r) (by rw [List.getElem?_eq_getElem hi, e])
    exact one q.2
  | fz d => exact True.intro
  | dead => exact True.intro
theorem GOk.take {F H : Hp} {κ : List Addr} {W : Addr → Prop} {g : Rg} (h : GOk ks F H κ W g) (m : Nat) (hc : ∀ (c : Nat) (cell : Cell), c < m → g[c]? = some cell → cell.lt m) : GOk ks F H (κ.take m) W (g.take m) := by
  refine ⟨by rw [List.length_take, List.length_take, h.len], fun c cell a e1 e2 => ?_, h.nd.sublist (List.take_sublist _ _), fun a ha => h.live a (List.mem_of_mem_take ha), fun a ha => h.wf a (List.mem_of_mem_take ha)⟩
  have hlt : c < m := by
    have := (List.getElem?_eq_some_iff.mp e1).1
    rw [List.length_take] at this; omega
  rw [List.getElem?_take_of_lt hlt] at e1 e2
  exact (h.cells c cell a e1 e2).cut (hc c cell hlt e1)
theorem Pre.take {κ κ' : List Addr} {m : Nat} (h : Pre κ κ') (hm : κ.length ≤ m) : Pre κ (κ'.take m) := fun c a e => by
  have := (List.getElem?_eq_some_iff.mp e).1
  rw [List.getElem?_take_of_lt (by omega)]; exact h c a e
/-- the caller's wish is met where the data's is -/
theorem Fin.ok {F0 H0 : Hp} {κ0 : List Addr} {g0 : Rg} {P : RQ} {Qv : VK} (gk0 : GOk ks F0 H0 κ0 (fun _ => True) g0)
    (hP : ∀ r g', P r g' → ∀ v F' H' κ', Ch ⟨F0, H0, fun b => b ∈ κ0⟩ F' H' → Pre κ0 κ' → GOk ks F' H' κ' (fun a => a ∈ κ0 ∨ H0 a = none) g' → RvOk ks F' κ' v r → Qv v H')
    {σ : L2.St} {env : En} {F H : Hp} {κ : List Addr} {g : Rg} {r : Rv} {v : V} (f : Fin g0 P r g) (ok : Ok ks ⟨F0, H0, fun b => b ∈ κ0⟩ σ F H κ env g) (pre : Pre κ0 κ) (rv : RvOk ks F κ v r) : Qv v H := by
  have old : ∀ {m : Nat} {c : Nat} {cell : Cell}, g0.length ≤ m → g0[c]? = some cell ∨ cell.lt m → cell.lt m := fun {m c cell} hm z => by
    rcases z with z | z
    · have hl : c < κ0.length := by rw [gk0.len]; exact (List.getElem?_eq_some_iff.mp z).1
      have := (gk0.cells c cell _ z (List.getElem?_eq_getElem hl)).ltLen
      rw [gk0.len] at this
      cases cell with
      | lst rs => exact fun r hr => by have := this r hr; cases r with | dat d => exact True.intro | ref c => exact Nat.lt_of_lt_of_le this hm
      | dic rs => exact fun r hr => by have := this r hr; obtain ⟨k, r⟩ := r; cases r with | dat d => exact True.intro | ref c => exact Nat.lt_of_lt_of_le this hm
      | fz d => exact True.intro
      | dead => exact True.intro
    · exact z
  cases f with
  | sub m hm hl hc hr h =>
    exact hP r _ h v F H (κ.take m) ok.ch (pre.take (by rw [gk0.len]; exact hm)) (ok.g.take m fun c cell hcm e => old hm (hc c cell hcm e)) (rv.cut hr)
  | frz d hd hl hc h =>
    obtain ⟨F', s, ok', a⟩ := hd.ok hl ok rv
    have hm : g0.length ≤ g0.length := Nat.le_refl _
    have e1 : (g.take g0.length ++ List.replicate (g.length - g0.length) Cell.dead).take g0.length = g.take g0.length := by
      rw [List.take_append_of_le_length (by rw [List.length_take]; omega), List.take_take, Nat.min_self]
    have gk := ok'.g.take g0.length fun c cell hcm e => by
      rw [List.getElem?_append_left (by rw [List.length_take]; omega), List.getElem?_take_of_lt hcm] at e
      exact old hm (hc c cell hcm e)
    rw [e1] at gk
    exact hP _ _ h v F' H (κ.take g0.length) ok'.ch (pre.take (by rw [gk0.len]; exact hm)) gk (rv_d a)
theorem start_env {N : List Str} {F : Hp} {κ : List Addr} {vs : List V} {rs : List Rv} (h : All2 (RvOk ks F κ) vs rs) (i : Nat) (r : Rv) (e : (rs.map some ++ List.replicate (N.length - rs.length) none)[i]? = some (some r)) :
    ∃ v, (L2.start N vs)[i]? = some (some v) ∧ RvOk ks F κ v r := by
  unfold L2.start
  by_cases hi : i < rs.length
  · rw [List.getElem?_append_left (by simpa using hi), List.getElem?_map] at e
    rw [List.getElem?_append_left (by rw [List.length_map, h.length]; exact hi), List.getElem?_map]
    rw [List.getElem?_eq_getElem hi] at e
    cases e
    obtain ⟨v, h1, h2⟩ := h.get (List.getElem?_eq_getElem hi)
    exact ⟨v, by rw [h1]; rfl, h2⟩
  · rw [List.getElem?_append_right (by simp; omega), List.getElem?_replicate] at e
    split at e <;> cases e
/-- no exception is let out -/
def Z0 : XZ := ⟨fun _ _ => False, fun _ _ _ => False⟩
/-- THE RULE: a def keeps its promise if its body's data-level reading does -/
theorem fn_ok {P : Program} {w : World} {K : PySem.W.Frag} {mg : Str → Option Value} {base : Heap} {x qual : Str} {st : Stmt} {f : Addr} {fd : FuncData} {N ps : List Str} {k : Nat} {S : SpD} {W : SWt} (Fn : Fun K x qual st f fd) (Sc : FnScope N ps (defScope st))
    (hlen : ∀ rs g Q, S rs g Q → rs.length = ps.length) (hN : ps.length ≤ N.length)
    (body : ∀ (C : Ent) (cdv : Value) (A : Around) (outer : List Env) (s : Shared) (H : Hp) (E : XK), Room k (A.deeper (envOfC qual (defScope st) s.heap.objs.size f cdv)) → SB ks (cxOf CX0 P w K mg base N qual (defScope st) f cdv A outer s H E).nox C Z0 (defBody st) W)
    (hS : ∀ rs g Q, S rs g Q → W (rs.map some ++ List.replicate (N.length - rs.length) none) g (fun _ g' => Fin g Q (.dat .non) g') (Fin g Q)) :
    FnOk P w K mg base CX0 (k + 1) f fd ps (PSpD ks S) := by
  refine Fn.ok Sc (fun vs H Q E h => ?_) (fun cdv A outer s H vs Q E hr h => ?_)
  · obtain ⟨F, κ, g, rs, _, _, rv, h⟩ := h
    rw [rv.length]; exact hlen _ _ _ h
  · obtain ⟨F, κ, g, rs, sF, gk, rv, h⟩ := h
    refine ⟨_, pss_w, ?_⟩
    have hl := hlen _ _ _ h
    have ok : Ok ks ⟨F, H, fun b => b ∈ κ⟩ (L2.start N vs) F H κ (rs.map some ++ List.replicate (N.length - rs.length) none) g := by
      refine ⟨gk.monoW fun a ha _ _ => .inl ha, ⟨Same.refl F, sF, fun b o e _ => e, fun b e _ _ => e⟩, ?_, start_env rv⟩
      unfold L2.start
      rw [List.length_append, List.length_append, List.length_map, List.length_map, List.length_replicate, List.length_replicate, rv.length]
    have hP := fun r g' (q : (fun r g' => ∀ v F' H' κ', Ch ⟨F, H, fun b => b ∈ κ⟩ F' H' → Pre κ κ' → GOk ks F' H' κ' (fun a => a ∈ κ ∨ H a = none) g' → RvOk ks F' κ' v r → Q v H') r g') => q
    refine body ⟨F, H, fun b => b ∈ κ⟩ cdv A outer s H E hr _ g _ _ (hS rs g _ h) _ F H κ _ ok ⟨fun σ' F' H' κ' env' g' ok' s' p' q => ?_, fun σ' env' v F' H' κ' r g' ok' s' p' rv' q => ?_, fun c σ' F' H' κ' env' g' ok' s' p' q => q.elim⟩
    · exact Fin.ok gk hP q ok' p' rv_non
    · exact Fin.ok gk hP q ok' p' rv'
/-! ### a def that may raise -/
abbrev XQ := Nat → Rg → Prop
/-- what a def is worth that may raise -/
abbrev SpX := List Rv → Rg → RQ → XQ → Prop
def PSpX (ks : Kt) (cv : Nat → Value) (S : SpX) : Sp := fun vs H Q E => ∃ (F : Hp) (κ : List Addr) (g : Rg) (rs : List Rv), Same F H ∧ GOk ks F H κ (fun _ => True) g ∧ All2 (RvOk ks F κ) vs rs ∧
  S rs g (fun r g' => ∀ v F' H' κ', Ch ⟨F, H, fun b => b ∈ κ⟩ F' H' → Pre κ κ' → GOk ks F' H' κ' (fun a => a ∈ κ ∨ H a = none) g' → RvOk ks F' κ' v r → Q v H')
    (fun c g' => ∀ F' H' κ', Ch ⟨F, H, fun b => b ∈ κ⟩ F' H' → Pre κ κ' → GOk ks F' H' κ' (fun a => a ∈ κ ∨ H a = none) g' → E (cv c) none H')
/-- the exception that leaves: the caller's own objects stand -/
def FinX (g0 : Rg) (q : XQ) : XQ := fun c g => Fin g0 (fun _ g' => q c g') (.dat .non) g
def wX (cv : Nat → Value) (Z : XZ) : WX := fun cls d σ H => ∃ c, cls = cv c ∧ d = none ∧ Z.wx c σ H
theorem fn_okX {P : Program} {w : World} {K : PySem.W.Frag} {mg : Str → Option Value} {base : Heap} {x qual : Str} {st : Stmt} {f : Addr} {fd : FuncData} {N ps : List Str} {k : Nat} {S : SpX} {W : XQ → SWt} {cv : Nat → Value} (Fn : Fun K x qual st f fd) (Sc : FnScope N ps (defScope st))
    (hlen : ∀ rs g Q E, S rs g Q E → rs.length = ps.length) (hN : ps.length ≤ N.length)
    (body : ∀ (C : Ent) (cdv : Value) (A : Around) (outer : List Env) (s : Shared) (H : Hp) (E : XK), Room k (A.deeper (envOfC qual (defScope st) s.heap.objs.size f cdv)) → ∀ Z : XZ, L2N.Takes (cxOf (L2N.CX P w) P w K mg base N qual (defScope st) f cdv A outer s H E) (wX cv Z) →
      SB ks (cxOf (L2N.CX P w) P w K mg base N qual (defScope st) f cdv A outer s H E) C Z (defBody st) (W Z.ex))
    (hS : ∀ rs g Q E, S rs g Q E → W (FinX g E) (rs.map some ++ List.replicate (N.length - rs.length) none) g (fun _ g' => Fin g Q (.dat .non) g') (Fin g Q)) :
    FnOk P w K mg base (L2N.CX P w) (k + 1) f fd ps (PSpX ks cv S) := by
  obtain ⟨oc, od, kV, doc, pm, an, cdv, ct, osl, rfl, lk, hcd⟩ := Fn.ex
  refine fn_of lk hcd Sc (fun vs H Q E h => ?_) (fun A outer s H vs Q E hr h => ?_)
  · obtain ⟨F, κ, g, rs, _, _, rv, h⟩ := h
    rw [rv.length]; exact hlen _ _ _ _ h
  · obtain ⟨F, κ, g, rs, sF, gk, rv, h⟩ := h
    refine ⟨_, pss_w, ?_⟩
    have hl := hlen _ _ _ _ h
    have ok : Ok ks ⟨F, H, fun b => b ∈ κ⟩ (L2.start N vs) F H κ (rs.map some ++ List.replicate (N.length - rs.length) none) g := by
      refine ⟨gk.monoW fun a ha _ _ => .inl ha, ⟨Same.refl F, sF, fun b o e _ => e, fun b e _ _ => e⟩, ?_, start_env rv⟩
      unfold L2.start
      rw [List.length_append, List.length_append, List.length_map, List.length_map, List.length_replicate, List.length_replicate, rv.length]
    have hP := fun r g' (q : (fun r g' => ∀ v F' H' κ', Ch ⟨F, H, fun b => b ∈ κ⟩ F' H' → Pre κ κ' → GOk ks F' H' κ' (fun a => a ∈ κ ∨ H a = none) g' → RvOk ks F' κ' v r → Q v H') r g') => q
    have tk : L2N.Takes (cxOf (L2N.CX P w) P w K mg base N qual (defScope st) f cdv A outer s H E) (wX cv ⟨FinX g (fun c g' => ∀ F' H' κ', Ch ⟨F, H, fun b => b ∈ κ⟩ F' H' → Pre κ κ' → GOk ks F' H' κ' (fun a => a ∈ κ ∨ H a = none) g' → E (cv c) none H'), fun c _ H' => E (cv c) none H'⟩) :=
      (L2N.takes_of rfl rfl rfl rfl).imp fun cls d σ H' z => by
        obtain ⟨c, rfl, rfl, z⟩ := z
        exact z
    refine body ⟨F, H, fun b => b ∈ κ⟩ cdv A outer s H E hr _ tk _ g _ _ (hS rs g _ _ h) _ F H κ _ ok ⟨fun σ' F' H' κ' env' g' ok' s' p' q => ?_, fun σ' env' v F' H' κ' r g' ok' s' p' rv' q => ?_, fun c σ' F' H' κ' env' g' ok' s' p' q => ?_⟩
    · exact Fin.ok gk hP q ok' p' rv_non
    · exact Fin.ok gk hP q ok' p' rv'
    · exact Fin.ok (Qv := fun _ H' => E (cv c) none H') gk (fun r g' q v F' H' κ' c1 c2 c3 _ => q F' H' κ' c1 c2 c3) q ok' p' rv_non
end
end DW

/-! ## DY.lean -/
set_option Elab.async false
set_option linter.all false
set_option maxRecDepth 100000
set_option maxHeartbeats 2000000
set_option autoImplicit false
/-! DY: raise, calls that may raise, try; one dict's entries put into another. -/
namespace DW
open PySem PySem.Spec L2
open PyProof.Rows hiding St

section
variable {ks : Kt} {X : Cx} {C : Ent} {Z : XZ} {pos : Pos} {cv : Nat → Value}
/-- a def that may raise, callable here -/
structure FnInX (ks : Kt) (X : Cx) (cv : Nat → Value) (x : Str) (S : SpX) : Prop where
  mono : ∀ rs g (P P' : RQ) (E E' : XQ), (∀ r g', P r g' → P' r g') → (∀ c g', E c g' → E' c g') → S rs g P E → S rs g P' E'
  fn : ∃ (fa : Addr) (fd : FuncData) (k : Nat) (ps : List Str), X.mg x = some (.ref fa) ∧ PySem.W.keepIn X.K (.ref fa) = true ∧ Binds X.K fd ps [] ∧ Room k X.A ∧ FnOk X.prog X.w X.K X.mg X.base (L2N.CX X.prog X.w) k fa fd ps (PSpX ks cv S)
theorem run_spx {env : En} {σ : L2.St} {F H : Hp} {κ : List Addr} {g : Rg} {vs : List V} {rs : List Rv} {S : SpX} {Q : RQ} {Qv : VK} {E : XK} {ex : XQ} (ok : Ok ks C σ F H κ env g) (rv : All2 (RvOk ks F κ) vs rs) (k : Kont ks C env σ F κ Q Qv)
    (kx : ∀ c F' H' κ' g', Ok ks C σ F' H' κ' env g' → Same F F' → Pre κ κ' → ex c g' → E (cv c) none H')
    (mono : ∀ rs g (P P' : RQ) (E E' : XQ), (∀ r g', P r g' → P' r g') → (∀ c g', E c g' → E' c g') → S rs g P E → S rs g P' E') (h : S rs g Q ex) : PSpX ks cv S vs H Qv E :=
  ⟨F, κ, g, rs, ok.ch.fh, ok.g.monoW fun _ _ _ _ => True.intro, rv, mono _ _ _ _ _ _ (fun r g' q v F' H' κ' ch pre gk rvv => k v F' H' κ' r g' (ok.back ch pre gk) ch.ff pre rvv q)
    (fun c g' q F' H' κ' ch pre gk => kx c F' H' κ' g' (ok.back ch pre gk) ch.ff pre q) h⟩
section
variable {y : Str} {p p2 : Pos} {e : Expr} {es : List Expr} {S : SpX} {Ws : En → Rg → (List Rv → Rg → Prop) → Prop}
theorem ss_hset {i : Nat} {x : Str} {px : Pos} (tk : L2N.Takes X (wX cv Z)) (fi : FnInX ks X cv y S) (hg : Gl X y) (ha : ∀ env, SA ks X C env (e :: es) (Ws env)) (hdb : (y == ("__debug__" : Str)) = false)
    (he : starEach (e :: es) X.env = (false, eval e X.env) :: starEach es X.env) (hpl : (backTo p2 (starEach es X.env)).any (·.1) = false)
    (hN : X.N.Nodup) (hi : X.N[i]? = some x) (hx : Loc X.env.scope x) (hs : swapsWith (.Call (.Name y p) (e :: es) [] p2) (some (.Name x px)) pos.line X.env = pure false) (hf : X.fn x = true ∨ X.env.scope.names.lookup x = some .local) :
    SS ks X C Z (.Assign [.Name x px] (.Call (.Name y p) (e :: es) [] p2) pos) (fun env g N R => Ws env g fun rs g1 => S rs g1 (fun r g2 => N (env.set i (some r)) g2) Z.ex) := by
  obtain ⟨fa, fd, k, ps, hm, hkp, hb, hr, F⟩ := fi.fn
  intro env g N R h σ F' H κ D ok kk
  refine wS_of (ps_set hN hi hx (pe_callS F hr hg hm hkp hb (fun σ => L2N.passAt tk σ) pa_w hdb he hpl) hs hf) ?_
  refine ha env g _ h σ F' H κ _ ok fun vs F1 H1 κ1 rs g1 ok1 s1 p1 rv q => ?_
  refine run_spx ok1 rv (fun v F2 H2 κ2 r g2 ok2 s2 p2 rv2 q2 => kk.nx _ F2 H2 κ2 _ g2 (ok2.setE rv2) (s1.trans s2) (p1.trans p2) q2) (fun c F2 H2 κ2 g2 ok2 s2 p2 q2 => ?_) fi.mono q
  exact ⟨c, rfl, rfl, kk.xx c σ F2 H2 κ2 env g2 ok2 (s1.trans s2) (p1.trans p2) q2⟩
theorem ss_hexpr (tk : L2N.Takes X (wX cv Z)) (fi : FnInX ks X cv y S) (hg : Gl X y) (ha : ∀ env, SA ks X C env (e :: es) (Ws env)) (hdb : (y == ("__debug__" : Str)) = false)
    (he : starEach (e :: es) X.env = (false, eval e X.env) :: starEach es X.env) (hpl : (backTo p2 (starEach es X.env)).any (·.1) = false) (hs : swapsWith (.Call (.Name y p) (e :: es) [] p2) none pos.line X.env = pure false) :
    SS ks X C Z (.Expr (.Call (.Name y p) (e :: es) [] p2) pos) (fun env g N R => Ws env g fun rs g1 => S rs g1 (fun r g2 => N env g2) Z.ex) := by
  obtain ⟨fa, fd, k, ps, hm, hkp, hb, hr, F⟩ := fi.fn
  intro env g N R h σ F' H κ D ok kk
  refine wS_of (ps_expr (pe_callS F hr hg hm hkp hb (fun σ => L2N.passAt tk σ) pa_w hdb he hpl) hs) ?_
  refine ha env g _ h σ F' H κ _ ok fun vs F1 H1 κ1 rs g1 ok1 s1 p1 rv q => ?_
  refine run_spx ok1 rv (fun v F2 H2 κ2 r g2 ok2 s2 p2 rv2 q2 => kk.nx _ F2 H2 κ2 _ g2 ok2 (s1.trans s2) (p1.trans p2) q2) (fun c F2 H2 κ2 g2 ok2 s2 p2 q2 => ?_) fi.mono q
  exact ⟨c, rfl, rfl, kk.xx c σ F2 H2 κ2 env g2 ok2 (s1.trans s2) (p1.trans p2) q2⟩
end
/-- a class of the program that may be raised, by its number -/
structure ClsX (X : Cx) (cv : Nat → Value) (c : Nat) (x : Str) : Prop where
  at_ : ∃ a : Addr, cv c = .ref a ∧ X.mg x = some (.ref a) ∧ PySem.W.excIn X.K a [.type "ValueError", .type "Exception", .type "BaseException", .type "object"] "ValueError.__new__" = true ∧ PySem.W.keepIn X.K (.ref a) = true ∧ Raises X (.ref a)
theorem ss_raise {c : Nat} {x m : Str} {j : Nat} {p p2 p3 : Pos} (hc : X.calm = true) (tk : L2N.Takes X (wX cv Z)) (k : ClsX X cv c x) (hg : Gl X x) (hdb : (x == ("__debug__" : Str)) = false) :
    SS ks X C Z (.Raise (some (.Call (.Name x p) [.Constant (.str m) j p2] [] p3)) none pos) (fun env g N R => Z.ex c g) := by
  obtain ⟨a, e1, e2, e3, e4, e5⟩ := k.at_
  intro env g N R h σ F H κ D ok kk
  refine wS_of (L2N.ps_raise hc tk (L2N.pmk_own PySem.F.excBase_ValueError e3 e2 e4 e5 hg hdb)) ?_
  exact ⟨c, e1.symm, rfl, kk.xx c σ F H κ env g ok (Same.refl F) (Pre.refl κ) h⟩
/-! ### for k in b: a[k] = b[k] -/
theorem Ok.forget {env : En} {σ : L2.St} {F H : Hp} {κ : List Addr} {g : Rg} {i : Nat} (ok : Ok ks C σ F H κ env g) {σ' : L2.St} (hl : σ'.length = σ.length) (h : ∀ j, j ≠ i → σ'[j]? = σ[j]?) : Ok ks C σ' F H κ (env.set i none) g := by
  refine ⟨ok.g, ok.ch, by rw [hl, ok.len, List.length_set], fun j r e => ?_⟩
  have hj : j ≠ i := by
    rintro rfl
    have hl : j < env.length := by have := (List.getElem?_eq_some_iff.mp e).1; rw [List.length_set] at this; exact this
    rw [List.getElem?_set_self hl] at e; cases e
  rw [List.getElem?_set_ne (Ne.symm hj)] at e
  rw [h j hj]; exact ok.env j r e
theorem upd_self {H : Hp} {a : Addr} {o : HO} (h : H a = some o) : upd H a o = H := by
  funext b
  by_cases e : b = a
  · rw [e, upd_same, h]
  · rw [upd_ne e]
theorem upd_back {H : Hp} {a b : Addr} {u x y : HO} (hb : H b = some u) (ne : a ≠ b) : upd (upd (upd H b x) a y) b u = upd H a y := by
  funext c
  by_cases e : c = b
  · rw [e, upd_same, upd_ne (Ne.symm ne), hb]
  · rw [upd_ne e]
    by_cases e2 : c = a
    · rw [e2, upd_same, upd_same]
    · rw [upd_ne e2, upd_ne e2, upd_ne e]
theorem upd_upd {H : Hp} {a : Addr} {x y : HO} : upd (upd H a x) a y = upd H a y := by
  funext c
  by_cases e : c = a
  · rw [e, upd_same, upd_same]
  · rw [upd_ne e, upd_ne e, upd_ne e]
def putAll (ka kb : List (Nat × Rv)) : List (Nat × Rv) := kb.foldl (fun l p => putN l p.1 p.2) ka
def wCopy (env : En) (ik ia ib : Nat) (g : Rg) (N : EQ) : Prop := ∃ ca cb ka kb, env[ia]? = some (some (.ref ca)) ∧ env[ib]? = some (some (.ref cb)) ∧ ca ≠ cb ∧ ik ≠ ia ∧ ik ≠ ib ∧ ik < env.length ∧ g[ca]? = some (.dic ka) ∧ g[cb]? = some (.dic kb) ∧ (kb.map (·.1)).Nodup ∧ ka.length + kb.length < 1000000 ∧ N (env.set ik none) (g.set ca (.dic (putAll ka kb)))
theorem putN_len {l : List (Nat × Rv)} {k : Nat} {r : Rv} : (putN l k r).length ≤ l.length + 1 := by
  unfold putN
  split
  · rw [List.length_map]; omega
  · simp
theorem putAll_len {kb : List (Nat × Rv)} : ∀ {ka : List (Nat × Rv)}, (putAll ka kb).length ≤ ka.length + kb.length := by
  induction kb with
  | nil => intro ka; exact Nat.le_refl _
  | cons p t ih =>
    intro ka
    have := ih (ka := putN ka p.1 p.2)
    have h2 := putN_len (l := ka) (k := p.1) (r := p.2)
    show (putAll (putN ka p.1 p.2) t).length ≤ _
    rw [List.length_cons]; omega
theorem putAll_take {ka kb : List (Nat × Rv)} {i : Nat} {p : Nat × Rv} (h : kb[i]? = some p) : putAll ka (kb.take (i + 1)) = putN (putAll ka (kb.take i)) p.1 p.2 := by
  unfold putAll
  rw [List.take_add_one, h, Option.toList_some, List.foldl_append]; rfl
theorem lookup_nodup : ∀ {l : List (Nat × Rv)} {i : Nat} {p : Nat × Rv}, (l.map (·.1)).Nodup → l[i]? = some p → l.lookup p.1 = some p.2
  | [], i, p, _, h => by simp at h
  | (a, b) :: t, 0, p, _, h => by simp at h; subst h; simp
  | (a, b) :: t, i + 1, p, hn, h => by
    have h : t[i]? = some p := by simpa using h
    rw [List.map_cons, List.nodup_cons] at hn
    have hne : (p.1 == a) = false := by
      rw [beq_eq_false_iff_ne]
      rintro e
      exact hn.1 (by rw [← e]; exact List.mem_map_of_mem (f := (·.1)) (List.mem_of_getElem? h))
    rw [List.lookup_cons, hne]
    exact lookup_nodup hn.2 h
theorem ss_copy {ik ia ib : Nat} {k a b : Str} {pk pb pa pk2 pb2 pk3 p2 p3 p4 : Pos} (hk : KsOk ks) (hu : X.A.units + 1 < cLine) (hp : PassesOwn (model X.prog X.w) X.A X.env X.xe) (hcm : X.calm = true)
    (hN : X.N.Nodup) (hik : X.N[ik]? = some k) (hkl : Loc X.env.scope k) (hkf : X.fn k = true ∨ X.env.scope.names.lookup k = some .local) (hkv : Vis X.env.scope k) (dk : (k == ("__debug__" : Str)) = false ∧ (k == ("__classdict__" : Str)) = false)
    (hia : X.N[ia]? = some a) (hav : Vis X.env.scope a) (da : (a == ("__debug__" : Str)) = false ∧ (a == ("__classdict__" : Str)) = false)
    (hib : X.N[ib]? = some b) (hbv : Vis X.env.scope b) (db : (b == ("__debug__" : Str)) = false ∧ (b == ("__classdict__" : Str)) = false) :
    SS ks X C Z (.For (.Name k pk) (.Name b pb) [.Assign [.Subscript (.Name a pa) (.Name k pk2) p2] (.Subscript (.Name b pb2) (.Name k pk3) p3) p4] [] pos) (fun env g N R => wCopy env ik ia ib g N) := by
  intro env g N R h σ F H κ D ok kk
  obtain ⟨ca, cb, ka, kb, e1, e2, ne, n1, n2, nl, e3, e4, nd, hl, q⟩ := h
  have va := pe_var (X := X) (pos := pa) hia hav da.1 da.2
  have vb := pe_var (X := X) (pos := pb) hib hbv db.1 db.2
  have vb2 := pe_var (X := X) (pos := pb2) hib hbv db.1 db.2
  have vk2 := pe_var (X := X) (pos := pk2) hik hkv dk.1 dk.2
  have vk3 := pe_var (X := X) (pos := pk3) hik hkv dk.1 dk.2
  refine wS_of (ps_lock (ps_for hp hcm (pi_keys vb) (pg_name (pos := pk) hN hik hkl hkf) (pss_cons (ps_dput (pos := p4) hu va vk2 (pe_dget (pos := p3) hu vb2 vk3 (by intro o i; rfl)) (by rfl)) pss_nil) (by intro _; rfl))) ?_
  obtain ⟨w1, g1, r1⟩ := ok.env ia _ e1
  obtain ⟨w2, g2, r2⟩ := ok.env ib _ e2
  obtain ⟨aa, ha, rfl⟩ := r1
  obtain ⟨ab, hb, rfl⟩ := r2
  obtain ⟨aa', kva, ha', hHa, ra⟩ := ok.dicAt e3
  rw [ha] at ha'; cases ha'
  obtain ⟨ab', kvb, hb', hHb, rb⟩ := ok.dicAt e4
  rw [hb] at hb'; cases hb'
  have nab : aa ≠ ab := fun z => by
    subst z
    exact ne (nd_at ok.g.nd ha hb)
  refine ⟨ab, .dK kvb, hHb, True.intro, fun od => ?_⟩
  refine ⟨_, g2, ab, od, rfl, .inl ⟨kvb, upd_same, ?_⟩⟩
  refine ⟨fun i m σ' H' => m = kvb.length - i ∧ i ≤ kvb.length ∧ σ'.length = σ.length ∧ (∀ j, j ≠ ik → σ'[j]? = σ[j]?) ∧ ∃ kv, All2 (KvOk ks F κ) kv (putAll ka (kb.take i)) ∧ H' = upd (upd H ab (.frz od (.dK kvb))) aa (.dK kv), ⟨kvb.length, by simp, Nat.zero_le _, rfl, fun _ _ => rfl, kva, by rw [List.take_zero]; exact ra, (upd_self (by rw [upd_ne nab]; exact hHa)).symm⟩, ?_⟩
  rintro i m σ' H' ⟨rfl, hil, hsl, hsj, kv, hkv, rfl⟩
  have hlb := rb.length
  by_cases hlt : i < kvb.length
  · refine .inr ⟨⟨by rw [upd_ne (Ne.symm nab), upd_same], hlt⟩, fun σ2 H2 => i < kvb.length ∧ σ2.length = σ.length ∧ (∀ j, j ≠ ik → σ2[j]? = σ[j]?) ∧ ∃ kv, All2 (KvOk ks F κ) kv (putAll ka (kb.take (i + 1))) ∧ H2 = upd (upd H ab (.frz od (.dK kvb))) aa (.dK kv), fun σ2 H2 n => ⟨kvb.length - (i + 1), by omega, rfl, n.1, n.2.1, n.2.2.1, n.2.2.2⟩, fun x H2 hy => ?_⟩
    obtain ⟨rfl, kx, v, hkx, rfl⟩ := hy
    obtain ⟨pq, hpq, ⟨z, hz, ez⟩, hv⟩ := rb.get' hkx
    dsimp only at ez hv
    subst ez
    have hik2 : ik < σ'.length := by rw [hsl, ok.len]; exact nl
    have hget : ∀ j, j ≠ ik → (σ'.set ik (some (kV (.inr z))))[j]? = σ[j]? := fun j hj => by rw [List.getElem?_set_ne (Ne.symm hj)]; exact hsj j hj
    have hself : (σ'.set ik (some (kV (.inr z))))[ik]? = some (some (.str z)) := List.getElem?_set_self hik2
    have hpq' : kb[i]? = some pq := hpq
    obtain ⟨v', l1, l2⟩ := lookup_kv hk.nd hz rb pq.2 (lookup_nodup nd hpq)
    have hpl := putAll_len (ka := ka) (kb := kb.take i)
    rw [List.length_take] at hpl
    refine ⟨.ref ab, (hget ib (Ne.symm n2)).trans g2, .str z, hself, ab, v', rfl, .inl ⟨kvb, .inr z, .inr ⟨od, by rw [upd_ne (Ne.symm nab), upd_same]⟩, rfl, l1.symm⟩, ?_⟩
    refine ⟨.ref aa, (hget ia (Ne.symm n1)).trans g1, .str z, hself, aa, _, rfl, DPut.k (k := .inr z) upd_same (Nat.lt_of_lt_of_le (show kv.length < 1000000 by rw [hkv.length]; omega) (by decide)), ?_⟩
    refine ⟨hlt, by rw [List.length_set]; exact hsl, hget, _, ?_, upd_upd⟩
    rw [putAll_take hpq]
    exact putK_of hk.nd hz l2 hkv
  · have e : i = kvb.length := by omega
    subst e
    refine .inl ⟨⟨by rw [upd_ne (Ne.symm nab), upd_same], Nat.le_refl _⟩, ?_, ?_⟩
    · show upd (upd H ab (.frz od (.dK kvb))) aa (.dK kv) ab = _
      rw [upd_ne (Ne.symm nab), upd_same]
    · rw [upd_back hHb nab]
      rw [hlb, List.take_length] at hkv
      exact kk.nx σ' F _ κ _ _ ((ok.putK e3 ha hkv).forget hsl hsj) (Same.refl F) (Pre.refl κ) q

/-! ### try: body / except x as n: suite that returns -/
theorem tk0 : L2N.Takes X (fun _ _ _ _ => False) := fun _ _ x => by
  obtain ⟨_, _, _, _, _, _, _, _, _, _, _, _, _, _, _, _, z⟩ := x
  exact z.elim
/-- new objects alone -/
inductive Grow : Hp → Hp → Prop
  | refl (H : Hp) : Grow H H
  | step {H H1 : Hp} (p : Addr) (o : HO) : Grow H H1 → H1 p = none → Grow H (upd H1 p o)
theorem Grow.ok {env : En} {σ : L2.St} {F H H' : Hp} {κ : List Addr} {g : Rg} (h : Grow H H') (ok : Ok ks C σ F H κ env g) : ∃ F', Same F F' ∧ Ok ks C σ F' H' κ env g ∧ ∀ b o, H b = none → H' b = some o → F' b = some o := by
  revert ok
  induction h with
  | refl => intro ok; exact ⟨F, Same.refl F, ok, fun b o e1 e2 => by rw [e1] at e2; cases e2⟩
  | step p o _ hp ih =>
    intro ok
    obtain ⟨F1, s1, ok1, n1⟩ := ih ok
    refine ⟨upd F1 p o, s1.trans (ok1.newD_F hp), ok1.newD hp, fun b o' e1 e2 => ?_⟩
    by_cases hb : b = p
    · subst hb; rw [upd_same] at e2 ⊢; exact e2
    · rw [upd_ne hb] at e2 ⊢; exact n1 b o' e1 e2
def VAns (H H' : Hp) (v : V) : D → Prop
  | .bl b => v = .bl b
  | .int i => v = .int i
  | .lst [.int i] => ∃ p, v = .ref p ∧ H p = none ∧ H' p = some (.lst [.int i])
  | _ => False
theorem VAns.at {H H' F' : Hp} {v : V} {d : D} (h : VAns H H' v d) (n : ∀ b o, H b = none → H' b = some o → F' b = some o) : At ks F' v d := by
  unfold VAns at h
  split at h
  · subst h; exact .bl _
  · subst h; exact .int _
  · obtain ⟨p, rfl, h1, h2⟩ := h
    exact .lst (n _ _ h1 h2) (.cons (.int _) .nil)
  · exact h.elim
/-- what the suite answers, by the exception's class -/
structure SuiteOk (X : Cx) (cv : Nat → Value) (cN : Value) (i : Nat) (sts : List Stmt) (ans : Nat → Option D) : Prop where
  ts : ∃ ts : Addr → Value → Option Addr → TS, (∀ (a : Addr) (oe : Obj) (cls : Value) (d : Option Addr) (pn : List (Addr × Obj)), L2N.Zn cls d oe → (∃ vs, oe.data = .fields vs) → PSs (X.suite a ((a, oe) :: pn)) sts (ts a cls d)) ∧
    ∀ c d, ans c = some d → PySem.W.exmOne X.K (cv c) cN = some true ∧ ∀ (a : Addr) (σ : L2.St) (H : Hp) (D : Ends), H a = none → σ[i]? = some (some (.ref a)) → (∀ v H', Grow H H' → VAns H H' v d → D.rt v H') → ts a (cv c) none D σ H
theorem ss_try {i : Nat} {n x : Str} {cN : Value} {np pos' : Pos} {body suite : List Stmt} {b₀ : Stmt} {ans : Nat → Option D} {Wb : XQ → SWt} (hs : X.stack = X.env :: X.outer) (hf : X.env.frame = some X.env.locals) (hN : X.N.Nodup) (hi : X.N[i]? = some n) (hln : X.env.kindOf n = some .local) (hc : Names X x cN)
    (hb : ∀ (pn : List (Addr × Obj)) (xe : Value → Shared → Prop) (Z' : XZ), L2N.Takes (X.tr pn xe) (wX cv Z') → PassesOwn (model X.prog X.w) X.A X.env xe → SB ks (X.tr pn xe) C Z' body (Wb Z'.ex)) (su : SuiteOk X cv cN i (b₀ :: suite) ans) :
    SS ks X C Z (.Try body [.ExceptHandler (some (.Name x np)) (some n) (b₀ :: suite) pos'] [] [] pos) (fun env g N R => Wb (fun c g' => ∃ d, ans c = some d ∧ R (.dat d) g') env g N R) := by
  obtain ⟨ts, hrun, hans⟩ := su.ts
  intro env g N R h σ F H κ D ok kk
  refine wS_of (L2N.ps_try_as (tb := fun W => fun D σ H => ∀ pn xe, L2N.Takes (X.tr pn xe) W → PassesOwn (model X.prog X.w) X.A X.env xe → wSs (X.tr pn xe) body D σ H) (ts := fun a cls d D σ H => σ.length = X.N.length → ts a cls d D σ H) hs hf hN hi hln hc tk0 (fun W pn xe tkW hp => ⟨fun pins s σ H D I h => h pn xe tkW hp pins s I⟩) (fun a oe cls d pn z1 z2 => ⟨fun pins s σ H D I h => (hrun a oe cls d pn z1 z2).run pins s σ H D I (h I.len)⟩)) ?_
  intro pn xe tkW hp
  have tkZ : L2N.Takes (X.tr pn xe) (wX cv ⟨fun c g' => ∃ d, ans c = some d ∧ R (.dat d) g', fun c σ' H' => wAs X.K cN i (fun a cls d D σ H => σ.length = X.N.length → ts a cls d D σ H) (fun _ _ _ _ => False) D (cv c) none σ' H'⟩) := tkW.imp fun cls d σ' H' z => by
    obtain ⟨c, rfl, rfl, z⟩ := z
    exact z
  have hlen : env.length = σ.length := ok.len.symm
  refine hb pn xe _ tkZ hp env g N R h σ F H κ D ok ⟨kk.nx, kk.rt, fun c σ' F' H' κ' env' g' ok' s p q => ?_⟩
  obtain ⟨d, e, q⟩ := q
  obtain ⟨h1, h2⟩ := hans c d e
  refine ⟨true, h1, fun _ a ha hl => h2 a _ H' _ ha ?_ fun v H2 gr va => ?_, fun z => by cases z⟩
  · rw [List.length_set] at hl
    exact List.getElem?_set_self (by rw [hl]; exact (List.getElem?_eq_some_iff.mp hi).1)
  · obtain ⟨F2, s2, ok2, n2⟩ := gr.ok ok'
    exact kk.rt σ' env' v F2 H2 κ' (.dat d) g' ok2 (s.trans s2) p (rv_d (va.at n2)) q
end
end DW

/-! ## DK.lean -/
set_option Elab.async false
set_option linter.all false
set_option maxRecDepth 100000
set_option maxHeartbeats 2000000
set_option autoImplicit false
/-! DK: sorted(xs, key=f), f a def that gives its argument's first item. -/
namespace DW
open PySem PySem.Spec L2 PySem.W
open PyProof.Rows hiding St

/-- f(t) is t[0]; nothing else changes -/
def KeyFst (P : Program) (w : World) (B : Heap) (f : Addr) : Prop := ∀ (A : Around) (s : Shared) (E : Value → Shared → Prop) (b : Addr) (its : Array Value) (n : Int) (t : Tok), A.depth < recursionLimit → s.heap.NoLimit → (∀ a o, B.get? a = some o → s.heap.get? a = some o) → IsTup s.heap b its → its[0]? = some (.int n t) → its.size ≤ sizeLine →
  wpAny (model P w) A (call (.ref f) [.ref b]) (KeyPure (.int n) s) E s
theorem fst_body {P : Program} {w : World} {A : Around} {E : Value → Shared → Prop} {env : Env} {s : Shared} {p : Str} {m : Str → Option Value} {b : Addr} {its : Array Value} {n : Int} {t : Tok} {j : Nat} {p1 p2 p3 p4 : Pos} {Q : Flow → Shared → Prop} {bd : List Stmt} (hbd : bd = [.Return (some (.Subscript (.Name p p1) (.Constant (.int 0) j p2) p3)) p4])
    (hk : env.scope.kind = .function) (hl : env.kindOf p = some .local) (hd : (p == ("__debug__" : Str)) = false) (hn : s.heap.Ns env.locals m) (hm : m p = some (.ref b)) (hT : IsTup s.heap b its) (h0 : its[0]? = some (.int n t)) (h : ∀ tk, Q (.ret (.int n t)) { s with toks := tk }) :
    wpAny (model P w) A (execs bd env) Q E s := by
  subst hbd
  refine wpAny_execs_cons (wpAny_Return_some (Subscript_ (wpAny_Name (wpAny_loadName_local hk hl hn hm (wpAny_Constant_int ?_)) hd)))
  have hlen : 0 < its.size := (Array.getElem?_eq_some_iff.mp h0).1
  refine subscriptTail_builtinR (x := .int n t) (s := { s with toks := s.toks + 1 }) (T := "tuple") (IsTup.typeIs (s := { s with toks := s.toks + 1 }) hT) slot_tuple_getitem.lookup (getItem_tuple (s := { s with toks := s.toks + 1 }) (j := 0) (Q := fun r s' => r = .int n t ∧ _) hT (by decide) (by decide) ?_ h0 ⟨rfl, h _⟩)
  unfold seqIndex?
  simp [hlen]
theorem keyFst_of {P : Program} {w : World} {K : PySem.W.Frag} {B : Heap} {x qual p : Str} {st : Stmt} {f : Addr} {fd : FuncData} {j : Nat} {p1 p2 p3 p4 : Pos} (Fn : Fun K x qual st f fd) (Sc : FnScope [p] [p] (defScope st)) (kb : K.In B)
    (hl : (defScope st).names.lookup p = some .local) (hd : (p == ("__debug__" : Str)) = false) (hb : Binds K fd [p] [])
    (hbody : defBody st = [.Return (some (.Subscript (.Name p p1) (.Constant (.int 0) j p2) p3)) p4]) : KeyFst P w B f := by
  obtain ⟨oc, od, kV, doc, pm, an, cdv, ct, osl, rfl, lk, hcd⟩ := Fn.ex
  intro A s E b its n t hdp lim hB hT h0 hz
  have KX : K.In s.heap := kb.keeps hB
  have b0 := hb s [.ref b] KX rfl
  have hkind : ∀ y ∈ [p].zip [Value.ref b], (defScope st).names.lookup y.1 = some .local ∨ ((defScope st).names.lookup y.1 = some .cell ∧ ((cellsFrom (s.heap.objs.size + 1) (defScope st).names []).lookup y.1).isSome = true) := fun ⟨m, v⟩ hy => by
    have e : m = p := by simpa using (List.of_mem_zip hy).1
    subst e; exact .inl hl
  refine wpAny_call (codeAny_call_function hdp (KX _ _ lk) rfl Sc.co Sc.gen rfl (PySem.W.codeRec_of KX hcd) (b0 _ _ _ _ ?_))
  refine wpAny_newFunctionEnv_cells Sc.kind hkind fun env he s1 x => ?_
  subst he
  refine ⟨lim.keeps x.toInCall.keep, codeAny_func ?_⟩
  obtain ⟨h1, tk, rfl, hk⟩ := x.done
  have hns := x.toInCall.ns
  have hT1 : IsTup h1 b its := by
    obtain ⟨o, e, r⟩ := hT
    exact ⟨o, hk _ _ e, r⟩
  refine fst_body hbody Sc.kind hl hd hns ?_ hT1 h0 fun tk' => ⟨h1, tk', rfl, hk, .int _ _⟩
  show bindL _ ([p].zip ([Value.ref b] ++ [])) _ p = _
  rw [List.append_nil]
  exact bindL_get (i := 0) (by simp) rfl rfl hl
/-- what sorted(xs, key=f) gives: the items, by their keys -/
def rSortK (K : PySem.W.Frag) (fa : Addr) : List V → List V → Hp → VK → Prop := fun xs zs H Q => ∃ (l : Addr) (ys : List (V × Int)), xs = [.ref l] ∧ zs = [.ref fa] ∧ H l = some (.lst (ys.map (·.1))) ∧
  (∀ p ∈ ys, ∃ b ts, p.1 = .ref b ∧ H b = some (.tup (.int p.2 :: ts))) ∧ ∀ zs' : List (V × Int), zs'.Perm ys → zs'.Pairwise (fun a b => a.2 ≤ b.2) → ∀ p, H p = none → Q (.ref p) (upd H p (.lst (zs'.map (·.1))))
theorem each_of {α : Type} {R : Value → α → Prop} {f : α → V} : ∀ {ys : List α} {vs : List Value}, Vals (ys.map f) vs → (∀ y ∈ ys, ∀ v, RelV (f y) v → R v y) → EachIs R vs ys
  | [], vs, h, _ => by cases h; exact .nil
  | y :: ys, _, .cons h t, g => .cons (g y List.mem_cons_self _ h) (each_of t fun z hz => g z (List.mem_cons_of_mem _ hz))
theorem vals_of {α : Type} {R : Value → α → Prop} {f : α → V} (g : ∀ v y, R v y → RelV (f y) v) : ∀ {vs : List Value} {ys : List α}, EachIs R vs ys → Vals (ys.map f) vs
  | _, _, .nil => .nil
  | _, _, .cons h t => .cons (g _ _ h) (vals_of g t)
theorem cr_sortK {X : Cx} {fa : Addr} (hu : X.A.units + 65 < cLine) (hdp : X.A.depth + 5 < recursionLimit) (kf : KeyFst X.prog X.w X.base fa) : CallRK X (.builtin "sorted") ["key"] (rSortK X.K fa) := by
  intro pins s σ H xs zs us ws Q I r1 r2 h
  obtain ⟨l, ys, rfl, rfl, hl, hk, q⟩ := h
  cases r1 with
  | cons ru rn =>
    cases rn
    cases ru
    cases r2 with
    | cons rw rn =>
      cases rn
      cases rw
      obtain ⟨its, rv, pl, hz⟩ := I.list (SqL.of hl)
      rw [List.length_map] at hz
      have key : ∀ p ∈ ys, ∀ v, RelV p.1 v → ∃ b it t, v = .ref b ∧ IsTup s.heap b it ∧ it[0]? = some (.int p.2 t) ∧ it.size ≤ sizeLine := fun p hp v hv => by
        obtain ⟨b, ts, e, hb⟩ := hk p hp
        rw [e] at hv
        cases hv
        obtain ⟨it, rt, pt, zt⟩ := I.tuple (SqT.of hb)
        cases rt with
        | cons r0 rr =>
          obtain ⟨t, rfl⟩ := r0
          exact ⟨b, _, t, rfl, pt, rfl, by rw [List.size_toArray, List.length_cons, ← rr.length]; exact zt⟩
      have e := each_of (R := fun v p => RelV p.1 v ∧ ∃ b it t, v = .ref b ∧ IsTup s.heap b it ∧ it[0]? = some (.int p.2 t) ∧ it.size ≤ sizeLine) rv fun p hp v hv => ⟨hv, key p hp v hv⟩
      refine sorted_key_data (b := false) (fun p : V × Int => .int p.2) pl.isList e (AllAlike.of fun _ _ => by simp [alike]) (Sortable.others fun _ => by simp) hz (fun p _ => ?_) (ksk_s1 _ _) (fun _ => ksk_l1 _ _) (fun _ => ksk_t1 _ _) (fun v p hR _ h tk kp => ?_) fun out c h' tk kp fresh hD _ eo => ?_
      · have hd : (PyData.int p.2).depth = 0 := by simp [PyData.depth]
        omega
      · obtain ⟨_, b, it, t, rfl, hT, h0, hsz⟩ := hR
        refine kf _ _ _ b it p.2 t ?_ (I.nolimit.keeps kp) (fun a o z => kp a o (I.bk a o z)) ?_ h0 hsz
        · first
          | (show X.A.depth < _; omega)
          | (show X.A.depth + 1 + 1 < _; omega)
        · obtain ⟨o, e, r⟩ := hT
          exact ⟨o, kp _ _ e, r⟩
      · rw [dataLe_int (β := V × Int) (fun p => p.2)] at eo
        have vo := vals_of (f := fun p : V × Int => p.1) (fun v p z => z.1) eo
        have hn := I.hok.gone fresh
        have hlen : ((ys.mergeSort fun a b => decide (a.2 ≤ b.2)).map (·.1)).length ≤ sizeLine := by
          rw [List.length_map, (List.mergeSort_perm ys _).length_eq]; exact hz
        refine ⟨.ref (s.heap.objs.size + 1), _, I.laidN (t' := tk) (o := .lst ((ys.mergeSort fun a b => decide (a.2 ≤ b.2)).map (·.1))) kp fresh hn ⟨hlen, out, c, vo, hD⟩, rfl, q _ (List.mergeSort_perm ys _) ?_ _ hn⟩
        have hp := List.pairwise_mergeSort (le := fun a b : V × Int => decide (a.2 ≤ b.2)) (fun a b c h1 h2 => by simp at h1 h2 ⊢; omega) (fun a b => by simp; omega) ys
        exact hp.imp fun h => by simpa using h

/-- a def that gives its argument's first item, here -/
structure KfIn (X : Cx) (f : Str) : Prop where
  fn : ∃ fa : Addr, X.mg f = some (.ref fa) ∧ KeyFst X.prog X.w X.base fa ∧ X.A.depth + 5 < recursionLimit
def wSortK (r : Rv) (g : Rg) (Q : RQ) : Prop := ∃ xs : List (Int × D), lstOf g r = some (xs.map fun p => .dat p.2) ∧ (∀ p ∈ xs, ∃ ds, p.2 = .tup (.int p.1 :: ds)) ∧
  ∀ ys : List (Int × D), ys.Perm xs → ys.Pairwise (fun a b => a.1 ≤ b.1) → Q (.ref g.length) (g ++ [.lst (ys.map fun p => .dat p.2)])
theorem all2_trip {ks : Kt} {F : Hp} {κ : List Addr} : ∀ {vs : List V} {xs : List (Int × D)}, All2 (RvOk ks F κ) vs (xs.map fun p => .dat p.2) → ∃ T : List (V × (Int × D)), T.map (·.1) = vs ∧ T.map (·.2) = xs ∧ ∀ t ∈ T, RvOk ks F κ t.1 (.dat t.2.2)
  | [], [], _ => ⟨[], rfl, rfl, fun t h => by cases h⟩
  | [], _ :: _, h => by cases h
  | _ :: _, [], h => by cases h
  | v :: vs, x :: xs, .cons h t => by
    obtain ⟨T, h1, h2, h3⟩ := all2_trip t
    refine ⟨(v, x) :: T, by rw [List.map_cons, h1], by rw [List.map_cons, h2], fun t ht => ?_⟩
    rcases List.mem_cons.mp ht with rfl | ht
    · exact h
    · exact h3 t ht
theorem trip_all2 {ks : Kt} {F : Hp} {κ : List Addr} : ∀ {T : List (V × (Int × D))}, (∀ t ∈ T, RvOk ks F κ t.1 (.dat t.2.2)) → All2 (RvOk ks F κ) (T.map (·.1)) ((T.map (·.2)).map fun p => .dat p.2)
  | [], _ => .nil
  | t :: T, h => .cons (h t List.mem_cons_self) (trip_all2 fun x hx => h x (List.mem_cons_of_mem _ hx))
theorem se_sortK {ks : Kt} {X : Cx} {C : Ent} {env : En} {pos p pf kp : Pos} {x f : Str} {e : Expr} {W : Rg → RQ → Prop} (hx : x = "sorted") (hu : X.A.units + 65 < cLine) (hm : X.mg x = none) (hg : Gl X x) (hgf : Gl X f) (hdf : (f == ("__debug__" : Str)) = false) (kf : KfIn X f)
    (he : SE ks X C env e W) (hs : starEach [e] X.env = [(false, eval e X.env)]) : SE ks X C env (.Call (.Name x p) [e] [⟨some "key", .Name f pf, kp⟩] pos) (fun g Q => W g fun r g1 => wSortK r g1 Q) := by
  subst hx
  obtain ⟨fa, hmf, kfst, hdp⟩ := kf.fn
  intro g Q h σ F H κ Qv ok k
  refine wE_of (pe_callBK (cr_sortK hu hdp kfst) hg hm PyProof.Rows.boot_sorted (pa_cons (pe_w (e := e)) pa_nil hs) (pk_cons (pe_glob hgf hmf (v := .ref fa) rfl hdf) pk_nil) (by decide) (by decide) (by rw [hs]; rfl) (by rw [hs]; rfl)) ?_
  refine he g _ h σ F H κ _ ok fun v F1 H1 κ1 r g1 ok1 s1 p1 rv q1 => ?_
  obtain ⟨xs, e1, e2, q⟩ := q1
  obtain ⟨a, vs, rfl, h1, h2⟩ := rv.lst ok1 e1
  obtain ⟨T, t1, t2, t3⟩ := all2_trip h2
  refine ⟨a, T.map fun t => (t.1, t.2.1), rfl, rfl, by rw [h1, List.map_map, ← t1]; rfl, fun y hy => ?_, fun zs hp hw b hb => ?_⟩
  · obtain ⟨t, ht, rfl⟩ := List.mem_map.mp hy
    obtain ⟨ds, ed⟩ := e2 t.2 (by rw [← t2]; exact List.mem_map_of_mem ht)
    have h3 := t3 t ht
    rw [ed] at h3
    obtain ⟨b, us, eb, hb, hu⟩ := At.tupI h3
    cases hu with
    | cons h4 h5 =>
      cases At.intI h4
      exact ⟨b, _, eb, ok1.ch.fh _ _ hb⟩
  · obtain ⟨T', p2, e3⟩ := perm_lift (fun t : V × (Int × D) => (t.1, t.2.1)) hp T rfl
    have t3' : ∀ t ∈ T', RvOk ks F1 κ1 t.1 (.dat t.2.2) := fun t ht => t3 t (p2.mem_iff.mp ht)
    have ez : zs.map (·.1) = T'.map (·.1) := by rw [← e3, List.map_map]; rfl
    rw [ez]
    refine (k.at s1 p1).newL ok1 hb (trip_all2 t3') (q (T'.map (·.2)) ?_ ?_)
    · have := p2.map (·.2)
      rw [t2] at this; exact this
    · rw [← e3, List.pairwise_map] at hw
      rw [List.pairwise_map]
      exact hw
end DW

/-! ## ZP.lean -/
set_option Elab.async false
set_option linter.all false
set_option maxRecDepth 100000
set_option maxHeartbeats 2000000
set_option autoImplicit false
/-! ZP: list(zip(xs, ys)). -/
namespace ZL
open PySem PySem.W PySem.Spec PyProof.Rows L2

section
variable {prog : Program} {w : World} {A : Around} {E : Value → Shared → Prop} {s : Shared} {zq tI tO j1 j2 tT lS : Addr} {fp1 fp2 : List Addr} {n1 n2 i : Nat} {P1 P2 : Nat → Value → Prop} {St1 St2 : Nat → Heap → Prop}
theorem held_item {f : Bool} {oT : Obj} {Q : Value → Shared → Prop} (Z : ZipSep2 zq tI tO j1 j2 fp1 fp2) (D1 : Draws prog w A j1 fp1 n1 P1 St1) (D2 : Draws prog w A j2 fp2 n2 P2 St2)
    (hz : IsZipHeld s.heap zq tI tO tT f) (hT : s.heap.get? tT = some oT) (hI : IsTupOf2 s.heap tI (.ref j1) (.ref j2)) (st1 : St1 i s.heap) (st2 : St2 i s.heap) (l1 : i < n1) (l2 : i < n2)
    (hQ : ∀ x1 x2 h' tk, P1 i x1 → P2 i x2 → IsZipHeld h' zq tI tO tT true → St1 (i + 1) h' → St2 (i + 1) h' → IsTupOf2 h' s.heap.objs.size x1 x2 →
      (∀ c o, c ≠ zq → c ≠ j1 → c ≠ j2 → s.heap.get? c = some o → h'.get? c = some o) → Q (.ref s.heap.objs.size) { s with heap := h', toks := tk }) :
    wpAny (model prog w) A (Builtin.«zip.__next__» ⟨[.ref zq], []⟩) (fun fin s' => ∃ v, fin = .done (.ret v) ∧ Q v s') E s := by
  obtain ⟨hp, ge, dr, tk0, os⟩ := s
  show wpAny _ _ (field (.ref zq) 2 >>= _) _ _ _; refine wpAny_bind (wpAny_field hz rfl (x := .bool false) rfl ?_)
  show wpAny _ _ (field (.ref zq) 3 >>= _) _ _ _; refine wpAny_bind (wpAny_field hz rfl (x := .ref tI) rfl ?_)
  refine wpAny_bind (wpAny_seqItems hI rfl ?_); show wpAny _ _ (Builtin.SmallTypes.ownedTupleIsFree (.ref zq) >>= _) _ _ _
  refine wpAny_bind (wpAny_tupleHeld_zip hz hT fun u1 hu1 hs1 => ?_); replace hs1 : Heap.SameBut zq hp u1 := hs1
  simp only [Bool.false_eq_true, if_false]; refine wpAny_bind ?_; rw [← Array.forIn_toList]; simp only [List.forIn_cons, List.forIn_nil]
  refine wpAny_bind (wpAny_bind (wpAny_holding ?_)); show wpAny _ _ (Builtin.SmallTypes.nextOf (.ref j1) >>= _) _ _ ⟨u1, ge, dr, tk0, os⟩
  refine wpAny_bind (D1.item i _ _ _ l1 (D1.over st1 hs1 Z.zf1) fun x1 p1 tk1 hx1 sn1 hp1 => wpAny_pure ?_)
  replace hp1 : Heap.SameBut j1 u1 p1 := hp1; refine wpAny_pure ?_
  refine wpAny_bind (wpAny_bind (wpAny_holding ?_)); show wpAny _ _ (Builtin.SmallTypes.nextOf (.ref j2) >>= _) _ _ ⟨p1, ge, dr, tk1, os⟩
  refine wpAny_bind (D2.item i _ _ _ l2 (D2.over (D2.over st2 hs1 Z.zf2) hp1 Z.sep1_2) fun x2 p2 tk2 hx2 sn2 hp2 => wpAny_pure ?_)
  replace hp2 : Heap.SameBut j2 p1 p2 := hp2; refine wpAny_pure (wpAny_pure ?_)
  show wpAny _ _ (newTuple [x1, x2] >>= _) _ _ ⟨p2, ge, dr, tk2, os⟩
  refine wpAny_bind (wpAny_newTuple ?_); refine wpAny_pure ⟨_, rfl, ?_⟩
  have hsz : p2.objs.size = hp.objs.size := by rw [hp2.1, hp1.1, hs1.1]
  have hz3 : IsZipHeld p2 zq tI tO tT true := hp2.extBut _ _ Z.zi2 (hp1.extBut _ _ Z.zi1 hu1)
  have hk : ∀ c o, c ≠ zq → c ≠ j1 → c ≠ j2 → hp.get? c = some o → p2.get? c = some o := fun c o c1 c2 c3 e => hp2.extBut _ _ c3 (hp1.extBut _ _ c2 (hs1.extBut _ _ c1 e))
  have sn1' : St1 (i + 1) p2 := D1.over sn1 hp2 Z.sep2_1
  have hpn : IsTupOf2 (p2.push { cls := .type "tuple", data := .seq #[x1, x2] }) p2.objs.size x1 x2 := Heap.get?_push_size _ rfl
  show Q (.ref p2.objs.size) _; rw [hsz] at hpn ⊢
  exact hQ x1 x2 _ tk2 hx1 hx2 (Heap.get?_push_of_some _ hz3) (D1.frame _ _ _ sn1' fun b _ o e => Heap.get?_push_of_some _ e) (D2.frame _ _ _ sn2 fun b _ o e => Heap.get?_push_of_some _ e) hpn fun c o c1 c2 c3 e => Heap.get?_push_of_some _ (hk c o c1 c2 c3 e)

theorem held_end {f : Bool} {oT : Obj} {Q : Fin → Shared → Prop} (Z : ZipSep2 zq tI tO j1 j2 fp1 fp2) (D1 : Draws prog w A j1 fp1 n1 P1 St1) (D2 : Draws prog w A j2 fp2 n2 P2 St2)
    (hz : IsZipHeld s.heap zq tI tO tT f) (hT : s.heap.get? tT = some oT) (hI : IsTupOf2 s.heap tI (.ref j1) (.ref j2)) (st1 : St1 i s.heap) (st2 : St2 i s.heap) (hle1 : i ≤ n1) (hle2 : i ≤ n2) (hend : i = n1 ∨ i = n2)
    (hE : ∀ h' tk e, (∀ c o, c ≠ zq → c ≠ j1 → c ≠ j2 → s.heap.get? c = some o → h'.get? c = some o) → (∃ o, h'.get? e = some o ∧ o.cls = .type "StopIteration") → E (.ref e) { s with heap := h', toks := tk }) :
    wpAny (model prog w) A (Builtin.«zip.__next__» ⟨[.ref zq], []⟩) Q E s := by
  obtain ⟨hp, ge, dr, tk0, os⟩ := s
  show wpAny _ _ (field (.ref zq) 2 >>= _) _ _ _; refine wpAny_bind (wpAny_field hz rfl (x := .bool false) rfl ?_)
  show wpAny _ _ (field (.ref zq) 3 >>= _) _ _ _; refine wpAny_bind (wpAny_field hz rfl (x := .ref tI) rfl ?_)
  refine wpAny_bind (wpAny_seqItems hI rfl ?_); show wpAny _ _ (Builtin.SmallTypes.ownedTupleIsFree (.ref zq) >>= _) _ _ _
  refine wpAny_bind (wpAny_tupleHeld_zip hz hT fun u1 hu1 hs1 => ?_); replace hs1 : Heap.SameBut zq hp u1 := hs1
  simp only [Bool.false_eq_true, if_false]; refine wpAny_bind ?_; rw [← Array.forIn_toList]; simp only [List.forIn_cons, List.forIn_nil]
  refine wpAny_bind (wpAny_bind (wpAny_holding ?_)); show wpAny _ _ (Builtin.SmallTypes.nextOf (.ref j1) >>= _) _ _ ⟨u1, ge, dr, tk0, os⟩
  by_cases l1 : i < n1
  · refine wpAny_bind (D1.item i _ _ _ l1 (D1.over st1 hs1 Z.zf1) fun x1 p1 tk1 hx1 sn1 hp1 => wpAny_pure ?_)
    replace hp1 : Heap.SameBut j1 u1 p1 := hp1; refine wpAny_pure ?_
    refine wpAny_bind (wpAny_bind (wpAny_holding ?_)); show wpAny _ _ (Builtin.SmallTypes.nextOf (.ref j2) >>= _) _ _ ⟨p1, ge, dr, tk1, os⟩
    have hi2 : i = n2 := by omega
    refine wpAny_bind (D2.done ⟨p1, ge, dr, tk1, os⟩ _ _ (by rw [← hi2]; exact D2.over (D2.over st2 hs1 Z.zf2) hp1 Z.sep1_2) fun q e hq he => ?_)
    replace hq : Heap.ExtBut j2 p1 q := hq
    exact hE q tk1 e (fun c o c1 c2 c3 x => hq _ _ c3 (hp1.extBut _ _ c2 (hs1.extBut _ _ c1 x))) he
  · have hi1 : i = n1 := by omega
    refine wpAny_bind (D1.done ⟨u1, ge, dr, tk0, os⟩ _ _ (by rw [← hi1]; exact D1.over st1 hs1 Z.zf1) fun q e hq he => ?_)
    replace hq : Heap.ExtBut j1 u1 q := hq
    exact hE q tk0 e (fun c o c1 c2 _ x => hq _ _ c2 (hs1.extBut _ _ c1 x)) he

/-- a zip at its turn i, whatever became of the tuples it gave out; lS is another cell -/
def ZS (zq tI tO j1 j2 lS : Addr) (St1 St2 : Nat → Heap → Prop) (i : Nat) (h : Heap) : Prop :=
  ((IsZip h zq tI tO .none ∧ ∃ a b, IsTupOf2 h tO a b) ∨ ∃ T f oT, IsZipHeld h zq tI tO T f ∧ h.get? T = some oT ∧ T ≠ zq ∧ T ≠ j1 ∧ T ≠ j2 ∧ T ≠ lS) ∧ IsTupOf2 h tI (.ref j1) (.ref j2) ∧ St1 i h ∧ St2 i h
theorem zs_lt {h : Heap} (z : ZS zq tI tO j1 j2 lS St1 St2 i h) : zq < h.objs.size := by
  rcases z.1 with ⟨q, _⟩ | ⟨T, f, oT, q, _⟩ <;> exact Heap.lt_size q
theorem zs_ty {z : ZS zq tI tO j1 j2 lS St1 St2 i s.heap} : s.TypeIs (.ref zq) "zip" := by
  rcases z.1 with ⟨q, _⟩ | ⟨T, f, oT, q, _⟩ <;> exact ⟨_, q, rfl⟩
theorem zs_item {Q : Option Value → Shared → Prop} (Z : ZipSep2 zq tI tO j1 j2 fp1 fp2) (D1 : Draws prog w A.in1 j1 fp1 n1 P1 St1) (D2 : Draws prog w A.in1 j2 fp2 n2 P2 St2)
    (z : ZS zq tI tO j1 j2 lS St1 St2 i s.heap) (hlS : lS < s.heap.objs.size) (l1 : i < n1) (l2 : i < n2)
    (hQ : ∀ x1 x2 h' tk, P1 i x1 → P2 i x2 → ZS zq tI tO j1 j2 lS St1 St2 (i + 1) h' → IsTupOf2 h' s.heap.objs.size x1 x2 →
      (∀ c o, c ∉ [zq, tI, tO, j1, j2] → s.heap.get? c = some o → h'.get? c = some o) → Q (some (.ref s.heap.objs.size)) { s with heap := h', toks := tk }) :
    wpAny (model prog w) A (pyNext (.ref zq)) Q E s := by
  obtain ⟨hz, hI, st1, st2⟩ := id z
  have hzl := zs_lt z
  obtain ⟨o1, e1⟩ := D1.live _ _ st1
  obtain ⟨o2, e2⟩ := D2.live _ _ st2
  have nz := Nat.ne_of_gt hzl
  have n1' := Nat.ne_of_gt (Heap.lt_size e1)
  have n2' := Nat.ne_of_gt (Heap.lt_size e2)
  rcases hz with ⟨hz, a, b, hO⟩ | ⟨T, f, oT, hz, hT, t1, t2, t3, t4⟩
  · refine wpAny_pyNext_zipD2_item Z D1 D2 hz hI hO st1 st2 l1 l2 fun x1 x2 h' tk y1 y2 b1 b2 d1 d2 b5 b6 b7 => ?_
    refine hQ x1 x2 h' tk y1 y2 ⟨.inr ⟨_, false, _, b1, b5, nz, n1', n2', Nat.ne_of_gt hlS⟩, b7 _ _ Z.TIz Z.TITO Z.TIi1 Z.TIi2 hI, d1, d2⟩ b5 fun c o hc e => ?_
    simp only [List.mem_cons, List.not_mem_nil, or_false, not_or] at hc
    exact b7 c o hc.1 hc.2.2.1 hc.2.2.2.1 hc.2.2.2.2 e
  · have hTy : s.TypeIs (.ref zq) "zip" := ⟨_, hz, rfl⟩
    unfold pyNext
    refine wpAny_bind (wpAny_attempt (wpAny_callSpecial?_slot (name := Str.ofString "__next__") hTy F.slot_zip_next (wpAny_call_entry F.slot_zip_next hTy F.entry_zip_next (held_item Z D1 D2 hz hT hI st1 st2 l1 l2 fun x1 x2 h' tk y1 y2 b1 d1 d2 b5 b7 => ?_) (F.args_zip_next_1 _))))
    refine wpAny_pure (hQ x1 x2 h' tk y1 y2 ⟨.inr ⟨T, true, oT, b1, b7 _ _ t1 t2 t3 hT, t1, t2, t3, t4⟩, b7 _ _ Z.TIz Z.TIi1 Z.TIi2 hI, d1, d2⟩ b5 fun c o hc e => ?_)
    simp only [List.mem_cons, List.not_mem_nil, or_false, not_or] at hc
    exact b7 c o hc.1 hc.2.2.2.1 hc.2.2.2.2 e
theorem zs_end {Q : Option Value → Shared → Prop} (Z : ZipSep2 zq tI tO j1 j2 fp1 fp2) (D1 : Draws prog w A.in1 j1 fp1 n1 P1 St1) (D2 : Draws prog w A.in1 j2 fp2 n2 P2 St2)
    (z : ZS zq tI tO j1 j2 lS St1 St2 i s.heap) (hle1 : i ≤ n1) (hle2 : i ≤ n2) (hend : i = n1 ∨ i = n2)
    (hQ : ∀ h' tk, (∀ c o, c ∉ [zq, tI, tO, j1, j2] → s.heap.get? c = some o → h'.get? c = some o) → Q none { s with heap := h', toks := tk }) :
    wpAny (model prog w) A (pyNext (.ref zq)) Q E s := by
  obtain ⟨hz, hI, st1, st2⟩ := id z
  rcases hz with ⟨hz, a, b, hO⟩ | ⟨T, f, oT, hz, hT, t1, t2, t3, t4⟩
  · refine wpAny_pyNext_zipD2_end Z D1 D2 hz hI hO st1 st2 hle1 hle2 hend fun h' tk b7 => hQ h' tk fun c o hc e => ?_
    simp only [List.mem_cons, List.not_mem_nil, or_false, not_or] at hc
    exact b7 c o hc.1 hc.2.2.1 hc.2.2.2.1 hc.2.2.2.2 e
  · have hTy : s.TypeIs (.ref zq) "zip" := ⟨_, hz, rfl⟩
    unfold pyNext
    refine wpAny_bind (wpAny_attempt (wpAny_callSpecial?_slot (name := Str.ofString "__next__") hTy F.slot_zip_next (wpAny_call_entry F.slot_zip_next hTy F.entry_zip_next (held_end Z D1 D2 hz hT hI st1 st2 hle1 hle2 hend fun h' tk e b7 he => ?_) (F.args_zip_next_1 _))))
    obtain ⟨o, ho, hc⟩ := he
    refine wpAny_bind (wpAny_isInstance (T := "StopIteration") (b := true) ⟨o, ho, hc⟩ isSubtype_stop ?_)
    refine wpAny_pure (hQ h' tk fun c o hc e => ?_)
    simp only [List.mem_cons, List.not_mem_nil, or_false, not_or] at hc
    exact b7 c o hc.1 hc.2.2.2.1 hc.2.2.2.2 e
end

/-- the pairs laid one by one behind acc, in the list at l -/
def zipW (l : Addr) (Q : Hp → Prop) : List (V × V) → List V → Hp → Prop
  | [], _, H => Q H
  | (x, y) :: r, acc, H => ∀ T, H T = none → T ≠ l → zipW l Q r (acc ++ [.ref T]) (upd (upd H T (.tup [x, y])) l (.lst (acc ++ [.ref T])))
theorem zip_drop {xs ys : List V} {i : Nat} {x y : V} (hx : xs[i]? = some x) (hy : ys[i]? = some y) : (xs.zip ys).drop i = (x, y) :: (xs.zip ys).drop (i + 1) := by
  have h : (xs.zip ys)[i]? = some (x, y) := by rw [List.getElem?_zip_eq_some]; exact ⟨hx, hy⟩
  obtain ⟨hl, he⟩ := List.getElem?_eq_some_iff.mp h
  rw [List.drop_eq_getElem_cons hl, he]
section
variable {X : Cx} {pins : List (Addr × Obj)} {σ : L2.St} {A : Around} {zq tI tO j1 j2 lS : Addr} {fp1 fp2 : List Addr} {n m : Nat} {P1 P2 : Nat → Value → Prop} {St1 St2 : Nat → Heap → Prop} {xs ys : List V} {R : Result → Shared → Prop} {Qk : Hp → Prop} {res : Value}
theorem zl_loop (Z : ZipSep2 zq tI tO j1 j2 fp1 fp2) (D1 : Draws X.prog X.w A.in1.in1 j1 fp1 n P1 St1) (D2 : Draws X.prog X.w A.in1.in1 j2 fp2 m P2 St2)
    (hP1 : ∀ i v, P1 i v → ∃ x, xs[i]? = some x ∧ RelV x v) (hP2 : ∀ i v, P2 i v → ∃ x, ys[i]? = some x ∧ RelV x v) (ex : xs.length = n) (ey : ys.length = m) (hnm : n ≤ m) (hn : n ≤ 1000000)
    (f1 : lS ∉ fp1) (f2 : lS ∉ fp2) (f3 : lS ≠ zq) (f4 : lS ≠ tI) (f5 : lS ≠ tO) (fl : ∀ c ∈ [zq, tI, tO, j1, j2], c < lS)
    (hR : ∀ s' H', Inv X pins σ H' s' → Qk H' → R (.ok (.ret res)) s') :
    ∀ (k i : Nat) (s : Shared) (H : Hp) (acc : List V), n - i = k → i ≤ n → Inv X pins σ H s → (∀ c ∈ [zq, tI, tO, j1, j2], FpOk X pins H c) → ZS zq tI tO j1 j2 lS St1 St2 i s.heap → H lS = some (.lst acc) → acc.length = i →
      zipW lS Qk ((xs.zip ys).drop i) acc H → codeAny (model X.prog X.w) A (.builtin "list.extend.loop" ⟨[.ref lS, .ref zq, res], []⟩) R s := by
  intro k
  induction k with
  | zero =>
    intro i s H acc hk hi I hf z hH hl q
    have hin : i = n := by omega
    refine codeAny_builtin PySem.F.entry_extend_loop ?_; rw [Around.under_plainId PySem.F.plain_extend_loop _]
    show wpAny _ A.in1 (pyNext (.ref zq) >>= _) _ _ s
    refine wpAny_bind (zs_end Z D1 D2 z hi (Nat.le_trans hi hnm) (.inl hin) fun h' tk hkp => ?_)
    refine wpAny_pure (hR _ H (I.turnedL hkp hf) ?_)
    rw [List.drop_eq_nil_of_le (by rw [List.length_zip]; omega)] at q
    exact q
  | succ k ih =>
    intro i s H acc hk hi I hf z hH hl q
    have hlt : i < n := by omega
    obtain ⟨_, its0, n0, _, _, e0⟩ := I.lstM hH
    refine codeAny_builtin PySem.F.entry_extend_loop ?_; rw [Around.under_plainId PySem.F.plain_extend_loop _]
    show wpAny _ A.in1 (pyNext (.ref zq) >>= _) _ _ s
    refine wpAny_bind (zs_item Z D1 D2 z (Heap.lt_size e0) hlt (Nat.lt_of_lt_of_le hlt hnm) fun x1 x2 h' tk y1 y2 z' hT hkp => ?_)
    obtain ⟨x, hx, rx⟩ := hP1 _ _ y1
    obtain ⟨y, hy, ry⟩ := hP2 _ _ y2
    have hNl : s.heap.objs.size ≠ lS := Nat.ne_of_gt (Heap.lt_size e0)
    have hN : H s.heap.objs.size = none := I.hok.fresh (Nat.le_refl _)
    have new : ObjOk X.prog X.w (upd H s.heap.objs.size (.tup [x, y])) h' s.heap.objs.size (.tup [x, y]) := ⟨by show 2 ≤ sizeLine; decide, [x1, x2], .cons rx (.cons ry .nil), ⟨_, hT, rfl, _, rfl⟩⟩
    have I1 : Inv X pins σ (upd H s.heap.objs.size (.tup [x, y])) { s with heap := h', toks := tk } := I.turnedNew hkp hf (Nat.le_refl _) new
    have hH1 : upd H s.heap.objs.size (.tup [x, y]) lS = some (.lst acc) := by rw [upd_ne (Ne.symm hNl)]; exact hH
    obtain ⟨z1, its, m, rv, hlen, e⟩ := I1.lstM hH1
    have I2 := I1.lset (its' := its ++ [.ref s.heap.objs.size]) (f := (·.push (.ref s.heap.objs.size))) (ys := acc ++ [.ref s.heap.objs.size]) (t' := tk) hH1 e (by simp) (rv.append (.cons (show RelV (V.ref s.heap.objs.size) (Value.ref s.heap.objs.size) from rfl) .nil)) (by
      rw [List.length_append, hl]; show i + 1 ≤ sizeLine; exact Nat.le_trans (by omega) (show 1000000 ≤ sizeLine by decide))
    rw [zip_drop hx hy] at q
    show wpAny _ A.in1 (updateSeq lS (·.push (.ref s.heap.objs.size)) >>= _) _ _ _
    refine wpAny_bind ?_
    have keepS : ∀ c o, c ≠ lS → h'.get? c = some o → (h'.update lS (Obj.mapSeq (·.push (.ref s.heap.objs.size)))).get? c = some o := fun c o hc e => (Heap.get?_update_other _ _ (Ne.symm hc)).trans e
    have isz : its.toArray.size ≤ 1000000 := by rw [List.size_toArray]; omega
    refine wpAny_updateSeq e rfl (wpAny_pure ⟨plainId_quiet PySem.F.plain_extend_loop _, ih (i + 1) _ _ (acc ++ [.ref s.heap.objs.size]) (by omega) hlt I2 (fun c hc => ?_) ?_ upd_same (by rw [List.length_append, hl]; rfl) (q _ hN hNl)⟩)
      (by exact Nat.le_trans isz (by decide)) (by show (its.toArray.push (.ref s.heap.objs.size)).size ≤ sizeLine + 1; rw [Array.size_push]; exact Nat.le_trans (Nat.succ_le_succ isz) (by decide))
    · obtain ⟨g1, g2⟩ := hf c hc
      have hcl : c ≠ lS := fun e' => by rw [e', hH] at g1; cases g1
      have hcn : c ≠ s.heap.objs.size := Nat.ne_of_lt (Nat.lt_trans (fl c hc) (Heap.lt_size e0))
      exact ⟨by rw [upd_ne hcl, upd_ne hcn]; exact g1, g2⟩
    · obtain ⟨hz, hI, st1, st2⟩ := z'
      refine ⟨?_, keepS _ _ (Ne.symm f4) hI, D1.frame _ _ _ st1 fun b hb o e => keepS _ _ (fun q => f1 (q ▸ hb)) e, D2.frame _ _ _ st2 fun b hb o e => keepS _ _ (fun q => f2 (q ▸ hb)) e⟩
      rcases hz with ⟨hz, a, b, hO⟩ | ⟨T, f, oT, hz, hT', t1, t2, t3, t4⟩
      · exact .inl ⟨keepS _ _ (Ne.symm f3) hz, a, b, keepS _ _ (Ne.symm f5) hO⟩
      · exact .inr ⟨T, f, oT, keepS _ _ (Ne.symm f3) hz, keepS _ _ t4 hT', t1, t2, t3, t4⟩
theorem upd_id {H : Hp} {a : Addr} {o : HO} (h : H a = some o) : upd H a o = H := by
  funext b
  by_cases e : b = a
  · subst e; rw [upd_same, h]
  · rw [upd_ne e]
theorem zip_no_ln : typeLookup (.type "zip") "__len__" = pure none := by rw [typeLookup_type, builtinLookup_eq_fast]; kernel_rfl
theorem zip_no_hn : typeLookup (.type "zip") "__length_hint__" = pure none := by rw [typeLookup_type, builtinLookup_eq_fast]; kernel_rfl
theorem zl_extend {s : Shared} {H : Hp} (Z : ZipSep2 zq tI tO j1 j2 fp1 fp2) (D1 : Draws X.prog X.w A.in1.in1 j1 fp1 n P1 St1) (D2 : Draws X.prog X.w A.in1.in1 j2 fp2 m P2 St2)
    (hP1 : ∀ i v, P1 i v → ∃ x, xs[i]? = some x ∧ RelV x v) (hP2 : ∀ i v, P2 i v → ∃ x, ys[i]? = some x ∧ RelV x v) (ex : xs.length = n) (ey : ys.length = m) (hnm : n ≤ m) (hn : n ≤ 1000000)
    (f1 : lS ∉ fp1) (f2 : lS ∉ fp2) (f3 : lS ≠ zq) (f4 : lS ≠ tI) (f5 : lS ≠ tO) (fl : ∀ c ∈ [zq, tI, tO, j1, j2], c < lS)
    (hR : ∀ s' H', Inv X pins σ H' s' → Qk H' → R (.ok (.ret res)) s')
    (I : Inv X pins σ H s) (hf : ∀ c ∈ [zq, tI, tO, j1, j2], FpOk X pins H c) (hz : IsZip s.heap zq tI tO .none) (hO : ∃ a b, IsTupOf2 s.heap tO a b) (hI : IsTupOf2 s.heap tI (.ref j1) (.ref j2)) (st1 : St1 0 s.heap) (st2 : St2 0 s.heap)
    (hH : H lS = some (.lst [])) (q : zipW lS Qk (xs.zip ys) [] H) :
    wpAny (model X.prog X.w) A.in1 (Builtin.List.listExtendWith (.ref lS) (.ref zq) res)
      (fun fin s' => match fin with | .done f => R (.ok f) s' | .again c' => c'.quiet = true ∧ codeAny (model X.prog X.w) A c' R s') (fun e s' => R (.error e) s') s := by
  have hTy : s.TypeIs (.ref zq) "zip" := ⟨_, hz, rfl⟩
  obtain ⟨_, its0, n0, _, hl0, e0⟩ := I.lstM hH
  have ei : its0 = [] := List.eq_nil_of_length_eq_zero (by rw [← hl0]; rfl)
  subst ei
  unfold Builtin.List.listExtendWith
  refine wpAny_bind (wpAny_typeOf hTy ?_)
  have h1 : Builtin.List.listSameRef (.ref lS) (.ref zq) = false := by simp [Builtin.List.listSameRef, f3]
  have g2 : (Value.type "zip" == Value.type "list") = false := by decide
  have g3 : (Value.type "zip" == Value.type "tuple") = false := by decide
  simp only [h1, g2, g3, Bool.or_false, Bool.false_eq_true, if_false]
  refine wpAny_bind (wpAny_pyIter_zip hz ?_); refine wpAny_bind (wpAny_holding ?_)
  unfold Builtin.List.listLengthHint
  refine wpAny_bind (wpAny_specialOf hTy zip_no_ln ?_); show wpAny _ A.in1 (specialOf (Value.ref zq) (Str.ofString "__length_hint__") >>= _) _ _ _
  refine wpAny_bind (wpAny_specialOf hTy zip_no_hn ?_); refine wpAny_pure ?_
  show wpAny _ A.in1 (rule "list.extend.makes-room" >>= fun _ => Builtin.List.listTouch (.ref lS) >>= fun _ => again (.builtin "list.extend.loop" ⟨[.ref lS, .ref zq, res], []⟩)) _ _ _
  refine wpAny_bind (wpAny_rule ?_); refine wpAny_bind ?_
  show wpAny _ A.in1 (updateSeq lS (·.push .none) >>= fun _ => updateSeq lS (·.pop)) _ _ _
  refine wpAny_bind (wpAny_updateSeq e0 rfl ?_); have hS2 := Heap.get?_update_self (Obj.mapSeq (·.push Value.none)) e0 rfl
  refine wpAny_updateSeq hS2 rfl ?_; have hS3 := Heap.get?_update_self (Obj.mapSeq (·.pop)) hS2 rfl
  have oth : ∀ b o, b ≠ lS → s.heap.get? b = some o → ((s.heap.update lS (Obj.mapSeq (·.push Value.none))).update lS (Obj.mapSeq (·.pop))).get? b = some o := fun b o hb e => (Heap.get?_update_other _ _ (Ne.symm hb)).trans ((Heap.get?_update_other _ _ (Ne.symm hb)).trans e)
  have I2 : Inv X pins σ (upd H lS (.lst [])) { s with heap := (s.heap.update lS (Obj.mapSeq (·.push Value.none))).update lS (Obj.mapSeq (·.pop)), toks := s.toks } :=
    I.write (x := lS) (e := lS) (by rw [hH]; exact trivial) (.inl rfl) oth ⟨_, hS3⟩ ⟨by show 0 ≤ sizeLine; exact Nat.zero_le _, [], _, .nil, hS3⟩
  rw [upd_id hH] at I2
  refine wpAny_pure ⟨plainId_quiet PySem.F.plain_extend_loop _, zl_loop Z D1 D2 hP1 hP2 ex ey hnm hn f1 f2 f3 f4 f5 fl hR n 0 _ H [] rfl (Nat.zero_le _) I2 hf ?_ hH rfl q⟩
  obtain ⟨a, b, hO⟩ := hO
  exact ⟨.inl ⟨oth _ _ (Ne.symm f3) hz, a, b, oth _ _ (Ne.symm f5) hO⟩, oth _ _ (Ne.symm f4) hI, D1.frame _ _ _ st1 fun b hb o e => oth _ _ (fun q => f1 (q ▸ hb)) e, D2.frame _ _ _ st2 fun b hb o e => oth _ _ (fun q => f2 (q ▸ hb)) e⟩
theorem zl_call {s : Shared} {H : Hp} {Q : Value → Shared → Prop} {E : Value → Shared → Prop} (Z : ZipSep2 zq tI tO j1 j2 fp1 fp2) (D1 : ∀ A' : Around, A'.handled = none → Draws X.prog X.w A' j1 fp1 n P1 St1) (D2 : ∀ A' : Around, A'.handled = none → Draws X.prog X.w A' j2 fp2 m P2 St2)
    (hP1 : ∀ i v, P1 i v → ∃ x, xs[i]? = some x ∧ RelV x v) (hP2 : ∀ i v, P2 i v → ∃ x, ys[i]? = some x ∧ RelV x v) (ex : xs.length = n) (ey : ys.length = m) (hnm : n ≤ m) (hn : n ≤ 1000000)
    (hh : A.handled = none) (I : Inv X pins σ H s) (hf : ∀ c ∈ [zq, tI, tO, j1, j2], FpOk X pins H c) (hz : IsZip s.heap zq tI tO .none) (hO : ∃ a b, IsTupOf2 s.heap tO a b) (hI : IsTupOf2 s.heap tI (.ref j1) (.ref j2)) (st1 : St1 0 s.heap) (st2 : St2 0 s.heap)
    (fl : ∀ c ∈ zq :: tI :: tO :: (fp1 ++ fp2), c < s.heap.objs.size) (hj1 : j1 ∈ fp1) (hj2 : j2 ∈ fp2)
    (q : ∀ l, H l = none → zipW l (fun H' => ∀ s', Inv X pins σ H' s' → Q (.ref l) s') (xs.zip ys) [] (upd H l (.lst []))) :
    wpAny (model X.prog X.w) A (call (.type "list") [.ref zq]) Q E s := by
  refine callType_codes (Q₁ := fun obj s₁ => obj = .ref s.heap.objs.size ∧ s₁ = { s with heap := s.heap.push { cls := .type "list", data := .seq #[] } }) PySem.F.called_list (PySem.F.typeCall_list_1 _) PySem.F.entry_list_init (code_list_new _ ⟨rfl, rfl⟩) fun obj s₁ h₁ => ?_
  obtain ⟨rfl, rfl⟩ := h₁
  have hS : (s.heap.push { cls := .type "list", data := .seq #[] }).get? s.heap.objs.size = some { cls := .type "list", data := .seq #[] } := Heap.get?_push_size _ rfl
  have hN : H s.heap.objs.size = none := I.hok.fresh (Nat.le_refl _)
  have I1 : Inv X pins σ (upd H s.heap.objs.size (.lst [])) { s with heap := s.heap.push { cls := .type "list", data := .seq #[] }, toks := s.toks } := I.lnew (its := []) .nil (Nat.zero_le _)
  refine ⟨⟨_, hS, rfl⟩, PySem.F.args_list_init_2 _ _, ?_⟩
  show wpAny _ _ (do let old ← Builtin.List.listItems (.ref s.heap.objs.size); Builtin.List.listUpdate (.ref s.heap.objs.size) (fun _ => #[]); letGo old.toList.reverse; Builtin.List.listExtendWith (.ref s.heap.objs.size) (.ref zq) .none) _ _ _
  refine wpAny_bind ?_; unfold Builtin.List.listItems
  refine wpAny_bind (wpAny_seqItems hS rfl (wpAny_pure ?_))
  show wpAny _ _ (updateSeq s.heap.objs.size (fun _ => #[]) >>= fun _ => letGo (#[] : Array Value).toList.reverse >>= fun _ => Builtin.List.listExtendWith (.ref s.heap.objs.size) (.ref zq) .none) _ _ _
  refine wpAny_bind (wpAny_updateSeq hS rfl ?_); have hS2 := Heap.get?_update_self (Obj.mapSeq (fun _ => (#[] : Array Value))) hS rfl
  have oth : ∀ b o, b ≠ s.heap.objs.size → (s.heap.push { cls := .type "list", data := .seq #[] }).get? b = some o → ((s.heap.push { cls := .type "list", data := .seq #[] }).update s.heap.objs.size (Obj.mapSeq (fun _ => (#[] : Array Value)))).get? b = some o :=
    fun b o hb e => (Heap.get?_update_other _ _ (Ne.symm hb)).trans e
  have old : ∀ b o, s.heap.get? b = some o → ((s.heap.push { cls := .type "list", data := .seq #[] }).update s.heap.objs.size (Obj.mapSeq (fun _ => (#[] : Array Value)))).get? b = some o := fun b o e => oth b o (Nat.ne_of_lt (Heap.lt_size e)) (Heap.get?_push_of_some _ e)
  have I2 := I1.write (h' := (s.heap.push { cls := .type "list", data := .seq #[] }).update s.heap.objs.size (Obj.mapSeq (fun _ => (#[] : Array Value)))) (t' := s.toks) (x := s.heap.objs.size) (e := s.heap.objs.size) (o := .lst []) (by rw [upd_same]; exact trivial) (.inl rfl) oth ⟨_, hS2⟩ ⟨by show 0 ≤ sizeLine; exact Nat.zero_le _, [], _, .nil, hS2⟩
  rw [upd_id upd_same] at I2
  refine wpAny_bind (wpAny_letGo ?_)
  have lt := fun c hc => Nat.ne_of_lt (fl c hc)
  obtain ⟨a, b, hO⟩ := hO
  refine zl_extend (A := A.in1) (lS := s.heap.objs.size) (Qk := fun H' => ∀ s', Inv X pins σ H' s' → Q (.ref s.heap.objs.size) s') Z (D1 _ hh) (D2 _ hh) hP1 hP2 ex ey hnm hn (fun z => Nat.lt_irrefl _ (fl _ (by simp [z]))) (fun z => Nat.lt_irrefl _ (fl _ (by simp [z]))) (Ne.symm (lt _ (by simp))) (Ne.symm (lt _ (by simp))) (Ne.symm (lt _ (by simp))) (fun c hc => fl c ?_) (fun s' H' I' q' => ⟨rfl, q' s' I'⟩) I2 (fun c hc => ?_) (old _ _ hz) ⟨a, b, old _ _ hO⟩ (old _ _ hI) ?_ ?_ upd_same (q _ hN)
  · simp only [List.mem_cons, List.not_mem_nil, or_false] at hc
    rcases hc with rfl | rfl | rfl | rfl | rfl <;> simp [hj1, hj2]
  · obtain ⟨g1, g2⟩ := hf c hc
    refine ⟨?_, g2⟩
    rw [upd_ne (lt c (by
      simp only [List.mem_cons, List.not_mem_nil, or_false] at hc
      rcases hc with rfl | rfl | rfl | rfl | rfl <;> simp [hj1, hj2]))]
    exact g1
  · exact (D1 A hh).frame _ _ _ st1 fun b hb o e => old b o e
  · exact (D2 A hh).frame _ _ _ st2 fun b hb o e => old b o e
end

theorem vals_back : ∀ {xs : List V} {us : List Value} {i : Nat} {u : Value}, Vals xs us → us[i]? = some u → ∃ x, xs[i]? = some x ∧ RelV x u
  | _, _, _, _, .nil, e => by simp at e
  | _, _, 0, _, .cons r _, e => by simp at e; subst e; exact ⟨_, rfl, r⟩
  | _, _, i + 1, u, .cons _ t, e => by
    obtain ⟨x, h1, h2⟩ := vals_back (i := i) t (by simpa using e)
    exact ⟨x, by simpa using h1, h2⟩
theorem zipW_imp {l : Addr} {Q Q' : Hp → Prop} (h : ∀ H, Q H → Q' H) : ∀ {ps : List (V × V)} {acc : List V} {H : Hp}, zipW l Q ps acc H → zipW l Q' ps acc H
  | [], _, _, q => h _ q
  | (_, _) :: _, _, _, q => fun T h1 h2 => zipW_imp h (q T h1 h2)
def tLzip (K : PySem.W.Frag) (ta : TA) : TE := fun σ H Q => ta σ H fun vs H1 => ∃ (a b : Addr) (xs ys : List V), vs = [.ref a, .ref b] ∧ ((SqL K H1 a xs ∧ SqL K H1 b ys) ∨ (SqT K H1 a xs ∧ SqT K H1 b ys)) ∧ xs.length ≤ ys.length ∧ xs.length ≤ 1000000 ∧
  ∀ l, H1 l = none → zipW l (fun H2 => Q (.ref l) H2) (xs.zip ys) [] (upd H1 l (.lst []))
theorem sep_of {N a b : Nat} (la : a < N) (lb : b < N) : ZipSep2 (N + 4) (N + 2) (N + 3) N (N + 1) [N, a] [N + 1, b] :=
  have m0 : ∀ {x y z : Nat}, x ≠ y → x ≠ z → x ∉ [y, z] := fun h1 h2 => by simp [h1, h2]
  ⟨show (N + 2 : Nat) ≠ N + 4 by omega, show (N + 3 : Nat) ≠ N + 4 by omega, show (N + 2 : Nat) ≠ N + 3 by omega, show (N + 2 : Nat) ≠ N by omega, List.mem_cons_self, m0 (show (N + 4 : Nat) ≠ N by omega) (by omega), m0 (show (N + 3 : Nat) ≠ N by omega) (by omega),
   show (N + 2 : Nat) ≠ N + 1 by omega, List.mem_cons_self, m0 (show (N + 4 : Nat) ≠ N + 1 by omega) (by omega), m0 (show (N + 3 : Nat) ≠ N + 1 by omega) (by omega), m0 (show (N : Nat) ≠ N + 1 by omega) (by omega), m0 (show (N + 1 : Nat) ≠ N by omega) (by omega)⟩
theorem ne_lt {a N : Nat} (la : a < N) : a ≠ N := by omega
theorem ne_lt1 {a N : Nat} (la : a < N) : a ≠ N + 1 := by omega
theorem cells_of {N c : Nat} (h : c ∈ [N + 4, N + 2, N + 3, N, N + 1]) : N ≤ c := by
  simp only [List.mem_cons, List.not_mem_nil, or_false] at h; omega
theorem cells_lt {N a b c : Nat} (la : a < N) (lb : b < N) (h : c ∈ (N + 4) :: (N + 2) :: (N + 3) :: ([N, a] ++ [N + 1, b])) : c < N + 5 := by
  simp only [List.mem_cons, List.cons_append, List.nil_append, List.not_mem_nil, or_false] at h; omega
theorem pe_lzip {X : Cx} {a b : Expr} {ta : TA} {p p2 p3 pos : Pos} (hc : X.calm = true) (hg : Gl X "list") (hm : X.mg "list" = none) (hg2 : Gl X "zip") (hm2 : X.mg "zip" = none) (ha : PA X [a, b] ta)
    (hs : starEach [a, b] X.env = (false, eval a X.env) :: starEach [b] X.env) (hpl : (backTo p3 (starEach [b] X.env)).any (·.1) = false) (na : starEach [.Call (.Name "zip" p2) [a, b] [] p3] X.env = (false, eval (.Call (.Name "zip" p2) [a, b] [] p3) X.env) :: starEach [] X.env := by rfl) :
    PE X (.Call (.Name "list" p) [.Call (.Name "zip" p2) [a, b] [] p3] [] pos) (tLzip X.K ta) := by
  refine ⟨fun pins s σ H Q I h => ?_⟩
  have hh : X.A.handled = none := I.ok.hd hc
  have inner : wpAny (model X.prog X.w) X.A (eval (.Call (.Name "zip" p2) [a, b] [] p3) X.env) (fun v s1 => wpAny (model X.prog X.w) X.A (call (.type "list") [v]) (EP X pins σ Q) X.xe s1) X.xe s := by
    refine Call_ (ld_blt I hg2 hm2 PyProof.Rows.boot_zip (PyProof.Rows.callWith_type1 (thn (ha.run p3 pins s σ H _ I h) fun us s1 ⟨vs, H1, I1, r1, q1⟩ => ?_) hs hpl))
    obtain ⟨a1, b1, xs, ys, ev, hk, el, ez, q1⟩ := q1
    subst ev
    cases r1 with
    | cons r rr =>
      cases rr with
      | cons r' rr =>
        cases rr
        cases r
        cases r'
        have fin : ∀ {c : Addr}, s1.heap.objs.size ≤ c → FpOk X pins H1 c := fun hle => I1.fpOk hle (I1.hok.fresh hle)
        have q2 : ∀ l, H1 l = none → zipW l (fun H2 => ∀ s', Inv X pins σ H2 s' → EP X pins σ Q (.ref l) s') (xs.zip ys) [] (upd H1 l (.lst [])) := fun l hl => zipW_imp (fun H2 q s' I' => ⟨.ref l, H2, I', rfl, q⟩) (q1 l hl)
        rcases hk with ⟨hx, hy⟩ | ⟨hx, hy⟩
        · obtain ⟨its, rv, k1, _⟩ := I1.list hx
          obtain ⟨its2, rv2, k2, _⟩ := I1.list hy
          have e1 : its.toArray.size = xs.length := by rw [← show its.length = its.toArray.size by simp]; exact rv.length.symm
          have e2 : its2.toArray.size = ys.length := by rw [← show its2.length = its2.toArray.size by simp]; exact rv2.length.symm
          have la : a1 < s1.heap.objs.size := k1.lt
          have lb : b1 < s1.heap.objs.size := k2.lt
          refine call_zip_2 k1.isList k2.isList fun h' hz hTI hTO h1 h2 hsz hk => ?_
          have I2 : Inv X pins σ H1 { s1 with heap := h' } := I1.kept (t' := s1.toks) hk
          refine zl_call (zq := s1.heap.objs.size + 4) (tI := s1.heap.objs.size + 2) (tO := s1.heap.objs.size + 3) (fp1 := [s1.heap.objs.size, a1]) (fp2 := [s1.heap.objs.size + 1, b1]) (n := xs.length) (m := ys.length)
            (P1 := fun i v => its.toArray[i]? = some v) (P2 := fun i v => its2.toArray[i]? = some v) (St1 := fun i h => h.IsListIter s1.heap.objs.size a1 i ∧ h.IsList a1 its.toArray) (St2 := fun i h => h.IsListIter (s1.heap.objs.size + 1) b1 i ∧ h.IsList b1 its2.toArray)
            (sep_of la lb) (fun A' hA => e1 ▸ Draws.list (prog := X.prog) (w := X.w) hA s1.heap.objs.size a1 (ne_lt la) its.toArray) (fun A' hA => e2 ▸ Draws.list (prog := X.prog) (w := X.w) hA (s1.heap.objs.size + 1) b1 (ne_lt1 lb) its2.toArray)
            (fun i v e => vals_back rv (by simpa using e)) (fun i v e => vals_back rv2 (by simpa using e)) rfl rfl el ez hh I2 (fun c hcm => fin (cells_of hcm)) hz ⟨_, _, hTO⟩ hTI ⟨h1, k1.isList.at fun o e => hk _ o e⟩ ⟨h2, k2.isList.at fun o e => hk _ o e⟩ (fun c hcm => ?_) (by simp) (by simp) q2
          show c < h'.objs.size; rw [hsz]; exact cells_lt la lb hcm
        · obtain ⟨its, rv, k1, _⟩ := I1.tuple hx
          obtain ⟨its2, rv2, k2, _⟩ := I1.tuple hy
          have e1 : its.toArray.size = xs.length := by rw [← show its.length = its.toArray.size by simp]; exact rv.length.symm
          have e2 : its2.toArray.size = ys.length := by rw [← show its2.length = its2.toArray.size by simp]; exact rv2.length.symm
          obtain ⟨o1, ho1, _⟩ := id k1
          obtain ⟨o2, ho2, _⟩ := id k2
          have la : a1 < s1.heap.objs.size := Heap.lt_size ho1
          have lb : b1 < s1.heap.objs.size := Heap.lt_size ho2
          have t1 : s1.heap.IsTuple a1 its.toArray := k1
          have t2 : s1.heap.IsTuple b1 its2.toArray := k2
          refine RZ.call_zipT t1 t2 fun h' hz hTI hTO h1 h2 hsz hk => ?_
          have I2 : Inv X pins σ H1 { s1 with heap := h' } := I1.kept (t' := s1.toks) hk
          refine zl_call (zq := s1.heap.objs.size + 4) (tI := s1.heap.objs.size + 2) (tO := s1.heap.objs.size + 3) (fp1 := [s1.heap.objs.size, a1]) (fp2 := [s1.heap.objs.size + 1, b1]) (n := xs.length) (m := ys.length)
            (P1 := fun i v => its.toArray[i]? = some v) (P2 := fun i v => its2.toArray[i]? = some v) (St1 := fun i h => h.IsTupleIter s1.heap.objs.size a1 i ∧ h.IsTuple a1 its.toArray) (St2 := fun i h => h.IsTupleIter (s1.heap.objs.size + 1) b1 i ∧ h.IsTuple b1 its2.toArray)
            (sep_of la lb) (fun A' hA => e1 ▸ Draws.tuple (prog := X.prog) (w := X.w) hA s1.heap.objs.size a1 (ne_lt la) its.toArray) (fun A' hA => e2 ▸ Draws.tuple (prog := X.prog) (w := X.w) hA (s1.heap.objs.size + 1) b1 (ne_lt1 lb) its2.toArray)
            (fun i v e => vals_back rv (by simpa using e)) (fun i v e => vals_back rv2 (by simpa using e)) rfl rfl el ez hh I2 (fun c hcm => fin (cells_of hcm)) hz ⟨_, _, hTO⟩ hTI ⟨h1, t1.at fun o e => hk _ o e⟩ ⟨h2, t2.at fun o e => hk _ o e⟩ (fun c hcm => ?_) (by simp) (by simp) q2
          show c < h'.objs.size; rw [hsz]; exact cells_lt la lb hcm
  exact Call_ (ld_blt I hg hm boot_list (PyProof.Rows.callWith_type1 (args_cons (thn inner fun v s1 q => args_nil q) na) na))
end ZL

/-! ## DX.lean -/
set_option Elab.async false
set_option linter.all false
set_option maxRecDepth 100000
set_option maxHeartbeats 4000000
set_option autoImplicit false
/-! DX: more calls: list(range(n)), list(zip(a, b)), dict(d), sorted(ints), xs[::-1], a written table. -/
namespace DW
open PySem PySem.Spec L2
open PyProof.Rows hiding St
section
variable {ks : Kt} {X : Cx} {C : Ent} {env : En} {pos : Pos}
/-- list(range(n)) -/
theorem se_lrg {a : Expr} {x y : Str} {p p2 p3 : Pos} {Wa : Rg → RQ → Prop} (hc : X.calm = true) (hx : x = "list") (hy : y = "range") (hg : Gl X x) (hm : X.mg x = none) (hg2 : Gl X y) (hm2 : X.mg y = none) (ha : SE ks X C env a Wa) (hs : starEach [a] X.env = (false, eval a X.env) :: starEach [] X.env) :
    SE ks X C env (.Call (.Name x p) [.Call (.Name y p2) [a] [] p3] [] pos) (fun g Q => Wa g fun r g1 => ∃ n : Int, r = .dat (.int n) ∧ n ≤ 16777216 ∧ -1000000 ≤ n ∧ Q (.ref g1.length) (g1 ++ [.lst (rngs 0 n.toNat)])) := by
  subst hx hy
  intro g Q h σ F H κ Qv ok k
  refine wE_of (pe_listRg hc hg hm (prg_1 hg2 hm2 pe_w hs) rfl) (ha g _ h σ F H κ _ ok fun v F1 H1 κ1 r g1 ok1 s1 p1 rv q => ?_)
  obtain ⟨n, rfl, l1, l2, q⟩ := q
  refine ⟨n, At.intI rv, ⟨by decide, by decide, by omega, by omega, by omega⟩, fun p hp => (k.at s1 p1).newL ok1 hp ?_ q⟩
  have e : rgV 0 n = (List.range n.toNat).map fun (i : Nat) => V.int (0 + (i : Int)) := by unfold rgV; rw [show (n - 0).toNat = n.toNat by simp]
  rw [e]; unfold rngs
  generalize List.range n.toNat = l
  induction l with
  | nil => exact .nil
  | cons i l ih => exact .cons (rv_int _) ih
/-- list(range(a, b)) -/
theorem se_lrg2 {a b : Expr} {x y : Str} {p p2 p3 : Pos} {Wa Wb : Rg → RQ → Prop} (hc : X.calm = true) (hx : x = "list") (hy : y = "range") (hg : Gl X x) (hm : X.mg x = none) (hg2 : Gl X y) (hm2 : X.mg y = none) (ha : SE ks X C env a Wa) (hb : SE ks X C env b Wb) (hs : starEach [a, b] X.env = (false, eval a X.env) :: starEach [b] X.env) (hs2 : starEach [b] X.env = (false, eval b X.env) :: starEach [] X.env) :
    SE ks X C env (.Call (.Name x p) [.Call (.Name y p2) [a, b] [] p3] [] pos) (fun g Q => Wa g fun r g1 => Wb g1 fun r2 g2 => ∃ i j : Int, r = .dat (.int i) ∧ r2 = .dat (.int j) ∧ (0 ≤ i ∧ i ≤ 16777216 ∧ 0 ≤ j ∧ j ≤ 16777216) ∧ Q (.ref g2.length) (g2 ++ [.lst (rngs i (j - i).toNat)])) := by
  subst hx hy
  intro g Q h σ F H κ Qv ok k
  refine wE_of (pe_listRg hc hg hm (prg_2 hg2 hm2 pe_w pe_w hs hs2 (by rw [hs2]; rfl)) rfl) (ha g _ h σ F H κ _ ok fun v F1 H1 κ1 r g1 ok1 s1 p1 rv q => ?_)
  refine hb g1 _ q σ F1 H1 κ1 _ ok1 fun v2 F2 H2 κ2 r2 g2 ok2 s2 p2' rv2 q => ?_
  obtain ⟨i, j, rfl, rfl, ⟨l1, l2, l3, l4⟩, q⟩ := q
  refine ⟨i, j, At.intI rv, At.intI rv2, RgOk.of_le l1 l4 l2 l3, fun p hp => (k.at (s1.trans s2) (p1.trans p2')).newL ok2 hp ?_ q⟩
  unfold rgV rngs
  generalize List.range (j - i).toNat = l
  induction l with
  | nil => exact .nil
  | cons i l ih => exact .cons (rv_int _) ih
/-- xs[::-1] -/
theorem se_rev {a : Expr} {k1 : Nat} {p1 p2 p3 : Pos} {Wa : Rg → RQ → Prop} (ha : SE ks X C env a Wa) :
    SE ks X C env (.Subscript a (.Slice none none (some (.UnaryOp .USub (.Constant (.int 1) k1 p1) p2)) p3) pos) (fun g Q => Wa g fun r g1 => ∃ rs, lstOf g1 r = some rs ∧ Q (.ref g1.length) (g1 ++ [.lst rs.reverse])) := by
  intro g Q h σ F H κ Qv ok k
  refine wE_of (pe_revL pe_w) (ha g _ h σ F H κ _ ok fun v F1 H1 κ1 r g1 ok1 s1 pp1 rv q => ?_)
  obtain ⟨rs, e, q⟩ := q
  obtain ⟨c, xs, rfl, h2, h3⟩ := rv.lst ok1 e
  exact ⟨c, xs, rfl, SqL.of h2, fun p hp => (k.at s1 pp1).newL ok1 hp h3.reverse q⟩
/-- dict(d) -/
def cDict : List Rv → Rg → RQ → Prop := fun rs g Q => ∃ r kr, rs = [r] ∧ dicOf g r = some kr ∧ Q (.ref g.length) (g ++ [.dic kr])
theorem callDict : CallOk ks X C env (fun xs H Q => ∃ (a : Addr) (kvs : List (Key × V)), xs = [.ref a] ∧ Rd H a (.dK kvs) ∧ ∀ p, H p = none → Q (.ref p) (upd H p (.dK kvs))) cDict := by
  rintro g rs Q ⟨r, kr, rfl, e, q⟩ σ F H κ Qv vs ok rv k
  obtain ⟨v, rfl, h1⟩ := rv.one
  obtain ⟨a, xs, rfl, h2, h3⟩ := h1.dic ok e
  refine ⟨a, xs, rfl, Rd.of h2, fun p hp => ?_⟩
  have fresh := ok.fresh hp
  exact k _ F _ (κ ++ [p]) _ _ (ok.newC (cell := .dic kr) hp ⟨fresh.1, fresh.2, xs, upd_same, h3.imp fun _ _ z => ⟨z.1, z.2.mono (Same.refl _) (Pre.app _ _)⟩⟩) (Same.refl F) (Pre.app _ _) (rv_new ok.g.len) q
/-- sorted(ints) -/
def cSort : List Rv → Rg → RQ → Prop := fun rs g Q => ∃ (r : Rv) (ns : List Int), rs = [r] ∧ lstOf g r = some (ns.map fun b => .dat (.int b)) ∧ ∀ ns' : List Int, ns'.Perm ns → ns'.Pairwise (· ≤ ·) → Q (.ref g.length) (g ++ [.lst (ns'.map fun b => .dat (.int b))])
theorem ints_to {F : Hp} {κ : List Addr} : ∀ {bs : List Int}, All2 (RvOk ks F κ) (bs.map V.int) (bs.map fun b => .dat (.int b))
  | [] => .nil
  | b :: bs => .cons (rv_int _) ints_to
theorem callSort : CallOk ks X C env (rSortedI X.K) cSort := by
  rintro g rs Q ⟨r, ns, rfl, e, q⟩ σ F H κ Qv vs ok rv k
  obtain ⟨v, rfl, h1⟩ := rv.one
  obtain ⟨a, xs, rfl, h2, h3⟩ := h1.lst ok e
  have e2 := ints_of h3
  subst e2
  exact ⟨a, ns, rfl, SqL.of h2, fun ns' p hp hw hn => k.newL ok hn ints_to (q ns' hp hw)⟩
/-- TABLE[k] of a table that the module has written, texts to texts -/
def TabOk (ks : Kt) (X : Cx) (x : Str) (t : List (Nat × Nat)) : Prop := ∃ p : Addr, X.mg x = some (.ref p) ∧ ∀ k v, t.lookup k = some v → ∀ kx, ks.w[k]? = some kx → ∃ vx, ks.w[v]? = some vx ∧ KDct X.K X.w p kx (.str vx)
theorem se_tab {b : Expr} {x : Str} {p : Pos} {t : List (Nat × Nat)} {Wb : Rg → RQ → Prop} (hg : Gl X x) (hd : (x == ("__debug__" : Str)) = false) (ht : TabOk ks X x t) (hs : PlainIx b) (hb : SE ks X C env b Wb) :
    SE ks X C env (.Subscript (.Name x p) b pos) (fun g Q => Wb g fun r g1 => ∃ k v, r = .dat (.str k) ∧ t.lookup k = some v ∧ Q (.dat (.str v)) g1) := by
  obtain ⟨a, hm, hk⟩ := ht
  intro g Q h σ F H κ Qv ok k
  refine wE_of (pe_ix ix_kdict (pe_glob (v := .ref a) hg hm rfl hd) pe_w hs) ?_
  show wE X b σ H _
  refine hb g _ h σ F H κ _ ok fun v F1 H1 κ1 r g1 ok1 s1 p1 rv q => ?_
  obtain ⟨n, m, rfl, e, q⟩ := q
  obtain ⟨kx, rfl, hkx⟩ := At.strI rv
  obtain ⟨vx, hvx, kd⟩ := hk n m e kx hkx
  exact ⟨a, kx, .str vx, rfl, rfl, kd, k _ F1 H1 κ1 _ g1 ok1 s1 p1 (rv_d (.str hvx)) q⟩
/-- list(zip(a, b)) of data -/
def cZip (r1 r2 : Rv) (g : Rg) (Q : RQ) : Prop := ∃ ds es : List D, ((lstOf g r1 = some (ds.map .dat) ∧ lstOf g r2 = some (es.map .dat)) ∨ (r1 = .dat (.tup ds) ∧ r2 = .dat (.tup es))) ∧ ds.length ≤ es.length ∧ ds.length ≤ 1000000 ∧
  Q (.ref g.length) (g ++ [.lst ((ds.zip es).map fun p => .dat (.tup [p.1, p.2]))])
theorem zip_ok {l : Addr} {σ : L2.St} {κ : List Addr} {g : Rg} {Qk : Hp → Prop} : ∀ {ps : List (V × V)} {dps : List (D × D)} {acc : List V} {dacc : List Rv} {F H : Hp}, All2 (fun p q => At ks F p.1 q.1 ∧ At ks F p.2 q.2) ps dps → Ok ks C σ F H κ env (g ++ [.lst dacc]) → κ[g.length]? = some l → All2 (RvOk ks F κ) acc dacc →
    (∀ F' H', Same F F' → Ok ks C σ F' H' κ env (g ++ [.lst (dacc ++ dps.map fun p => .dat (.tup [p.1, p.2]))]) → Qk H') → ZL.zipW l Qk ps acc H
  | [], _, acc, dacc, F, H, h, ok, hk, ha, q => by
    cases h
    exact q F H (Same.refl F) (by simpa using ok)
  | (x, y) :: ps, _, acc, dacc, F, H, h, ok, hk, ha, q => by
    cases h with
    | @cons _ d _ dps h1 h2 =>
      obtain ⟨hx, hy⟩ := h1
      intro T hT hTl
      have sF := ok.newD_F (o := .tup [x, y]) hT
      have ok1 := ok.newD (o := .tup [x, y]) hT
      have hTa : At ks (upd F T (.tup [x, y])) (.ref T) (.tup [d.1, d.2]) := .tup upd_same (.cons (At.mono sF hx) (.cons (At.mono sF hy) .nil))
      have hacc : All2 (RvOk ks (upd F T (.tup [x, y])) κ) (acc ++ [.ref T]) (dacc ++ [.dat (.tup [d.1, d.2])]) := (ha.imp fun _ _ z => z.mono sF (Pre.refl κ)).append (.cons (rv_d hTa) .nil)
      have ok2 := ok1.putL (c := g.length) (rs := dacc) (by rw [List.getElem?_append_right (Nat.le_refl _)]; simp) hk hacc
      rw [List.set_append_right _ _ (Nat.le_refl _), Nat.sub_self, List.set_cons_zero] at ok2
      refine zip_ok (h2.imp fun _ _ z => ⟨At.mono sF z.1, At.mono sF z.2⟩) ok2 hk hacc fun F' H' s' ok' => q F' H' (sF.trans s') ?_
      rw [List.append_assoc] at ok'
      exact ok'
theorem All2.zip {α β γ δ : Type} {R : α → β → Prop} {S : γ → δ → Prop} : ∀ {a : List α} {b : List β} {c : List γ} {d : List δ}, All2 R a b → All2 S c d → All2 (fun p q => R p.1 q.1 ∧ S p.2 q.2) (a.zip c) (b.zip d)
  | _, _, _, _, .nil, _ => by simpa using All2.nil
  | _, _, _, _, .cons _ _, .nil => by simpa using All2.nil
  | _, _, _, _, .cons r t, .cons s u => .cons ⟨r, s⟩ (All2.zip t u)
theorem se_lzip {a b : Expr} {x y : Str} {p p2 p3 : Pos} {Ws : Rg → (List Rv → Rg → Prop) → Prop} (hc : X.calm = true) (hx : x = "list") (hy : y = "zip") (hg : Gl X x) (hm : X.mg x = none) (hg2 : Gl X y) (hm2 : X.mg y = none) (ha : SA ks X C env [a, b] Ws)
    (hs : starEach [a, b] X.env = (false, eval a X.env) :: starEach [b] X.env) (hpl : (backTo p3 (starEach [b] X.env)).any (·.1) = false) :
    SE ks X C env (.Call (.Name x p) [.Call (.Name y p2) [a, b] [] p3] [] pos) (fun g Q => Ws g fun rs g1 => ∃ r1 r2, rs = [r1, r2] ∧ cZip r1 r2 g1 Q) := by
  subst hx hy
  intro g Q h σ F H κ Qv ok k
  refine wE_of (ZL.pe_lzip hc hg hm hg2 hm2 pa_w hs hpl rfl) (ha g _ h σ F H κ _ ok fun vs F1 H1 κ1 rs g1 ok1 s1 pp1 rv q => ?_)
  obtain ⟨r1, r2, rfl, ds, es, hk, el, ez, q⟩ := q
  obtain ⟨v, w, rfl, h1, h2⟩ := rv.two
  have fin : ∀ {a b : Addr} {xs ys : List V}, All2 (At ks F1) xs ds → All2 (At ks F1) ys es → ∀ l, H1 l = none → ZL.zipW l (fun H2 => Qv (.ref l) H2) (xs.zip ys) [] (upd H1 l (.lst [])) := fun {a b xs ys} hx hy l hl => by
    refine zip_ok (g := g1) (κ := κ1 ++ [l]) (F := F1) (dacc := []) (hx.zip hy) (ok1.newL hl .nil) (by rw [← ok1.g.len, List.getElem?_append_right (Nat.le_refl _)]; simp) .nil fun F2 H2 s2 ok2 => ?_
    exact k _ F2 H2 (κ1 ++ [l]) _ _ ok2 (s1.trans s2) (pp1.trans (Pre.app _ _)) (rv_new ok1.g.len) q
  rcases hk with ⟨e1, e2⟩ | ⟨rfl, rfl⟩
  · obtain ⟨a1, xs, rfl, k1, k2⟩ := h1.lst ok1 e1
    obtain ⟨b1, ys, rfl, k3, k4⟩ := h2.lst ok1 e2
    have l1 := k2.length
    have l2 := k4.length
    rw [List.length_map] at l1 l2
    exact ⟨a1, b1, xs, ys, rfl, .inl ⟨SqL.of k1, SqL.of k3⟩, by omega, by omega, fin (a := a1) (b := b1) (All2.of_mapR (f := Rv.dat) (S := RvOk ks F1 κ1) (fun _ _ z => z) k2) (All2.of_mapR (f := Rv.dat) (S := RvOk ks F1 κ1) (fun _ _ z => z) k4)⟩
  · obtain ⟨a1, xs, rfl, k1, k2⟩ := At.tupI h1
    obtain ⟨b1, ys, rfl, k3, k4⟩ := At.tupI h2
    have l1 := (Ats.all2 k2).length
    have l2 := (Ats.all2 k4).length
    exact ⟨a1, b1, xs, ys, rfl, .inr ⟨SqT.of (ok1.ch.fh _ _ k1), SqT.of (ok1.ch.fh _ _ k3)⟩, by omega, by omega, fin (a := a1) (b := b1) (Ats.all2 k2) (Ats.all2 k4)⟩
/-- xs.count(x), items and x data -/
def rCountD (K : PySem.W.Frag) : V → List V → Hp → VK → Prop := fun x xs H Q => ∃ (a : Addr) (y : V) (d : PyData) (ds : List PyData), x = V.ref a ∧ xs = [y] ∧ Dp K H (V.ref a) (.list ds) ∧ Dp K H y d ∧
  SeqAt.shaped (.list ds) = true ∧ SeqAt.shaped d = true ∧ Q (.int (ds.countP fun z => PyData.eqv z d : Nat)) H
theorem mt_countD (hu : X.A.units + 65 < cLine) : MtR X "list.count" (rCountD X.K) := by
  intro pins s σ H x xs v us Q I rx rxs h
  obtain ⟨a, y, d, ds, rfl, rfl, hl, hy, sl, sd, q⟩ := h
  cases rx
  obtain ⟨uy, rfl, ry⟩ := rxs.one
  obtain ⟨bs, r1⟩ := Dp.reads I d y uy hy ry
  have hxs : PyData.canLayAll0 ds = true := SeqAt.canLay_of_shaped sl
  have hroom : X.A.units + 1 + min (PyData.depthAll ds) d.depth < cLine := room_in_shaped sd hu
  cases hl with
  | lst hs ha =>
    obtain ⟨its, rv, ⟨⟨cls, dd, data, sls⟩, n, ho, hc, hdn, hdt⟩, hlen⟩ := I.list hs
    simp only at hc hdt
    subst hc hdt
    obtain ⟨as, h4⟩ := Dp.readsAll I ds _ its ha rv
    have hmap : its.map (SeqAt.readOf s.heap) = ds := SeqAt.readsAll_map ds its as hxs h4
    refine call_meets PySem.F.slot_list_count ⟨_, ho, rfl⟩ PySem.F.entry_list_count (PySem.F.args_list_count_2 _ _)
      (SeqAt.list_countAt a its.toArray n dd sls uy (fun u => PyData.eqv (SeqAt.readOf s.heap u) d)) ⟨ho, SeqAt.items_eqAt (vs := its.toArray) (show ReadsAll s.heap its.toArray.toList ds as from h4) r1 hxs (SeqAt.canLay_of_shaped sd) hroom, ?_⟩
    have ec : its.toArray.toList.countP (fun u => PyData.eqv (SeqAt.readOf s.heap u) d) = ds.countP fun z => PyData.eqv z d := by
      rw [← hmap, List.countP_map]; rfl
    refine ⟨.int (ds.countP fun z => PyData.eqv z d : Nat), H, I.tok _, ⟨s.toks, ?_⟩, q⟩
    show Value.int ((its.toArray.toList.countP _ : Nat) : Int) s.toks = Value.int _ s.toks
    rw [ec]
def mCount (ro r : Rv) (g : Rg) (Q : RQ) : Prop := ∃ (d : D) (ds : List D), RD g 0 r d ∧ RD g 0 ro (.lst ds) ∧ plN 60 d = true ∧ plAll 60 ds = true ∧ Q (.dat (.int (ds.countP fun e => eqv e d : Nat))) g
theorem count_py (nd : ks.w.Nodup) {F F2 : Hp} {d : D} {n m : Nat} {w : V} (hd : At ks F2 w d) (pd : plN m d = true) : ∀ {ds : List D} {vs : List V}, Ats ks F vs ds → plAll n ds = true → ((toPys ks ds).countP fun z => PyData.eqv z (toPy ks d)) = ds.countP fun e => eqv e d
  | [], _, _, _ => by simp [toPys]
  | e :: ds, _, h, p => by
    cases n with
    | zero => simp [plAll] at p
    | succ n =>
      simp only [plAll, Bool.and_eq_true] at p
      cases h with
      | cons a b =>
        simp only [toPys, List.countP_cons]
        rw [eqv_py nd a hd p.1 pd, count_py nd hd pd b p.2]
theorem se_count {o e : Expr} {apos : Pos} {Wo We : Rg → RQ → Prop} (hk : KsOk ks) (hu : X.A.units + 65 < cLine) (ho : SE ks X C env o Wo) (he : SE ks X C env e We) (hbase : attributeBase o "count" X.env (eval o X.env) = eval o X.env) (hline : (apos.endLine == pos.line) = true) (hs : starEach [e] X.env = [(false, eval e X.env)]) :
    SE ks X C env (.Call (.Attribute o "count" apos) [e] [] pos) (fun g Q => Wo g fun ro g1 => (lstOf g1 ro).isSome = true ∧ We g1 fun r g2 => mCount ro r g2 Q) := by
  intro g Q h σ F H κ Qv ok k
  refine wE_of (pe_bm PySem.F.plainAttrs_list PySem.F.slot_list_count PySem.F.type_list_count (mt_countD hu) pe_w (pa_cons pe_w pa_nil hs) hbase (by rw [hs]; rfl) hline hs rfl) ?_
  refine ho g _ h σ F H κ _ ok fun v F1 H1 κ1 r1 g1 ok1 s1 p1 rv1 q1 => ?_
  obtain ⟨q0, q1⟩ := q1
  obtain ⟨rs0, e0⟩ := Option.isSome_iff_exists.mp q0
  obtain ⟨a0, xs0, rfl, h0, _⟩ := rv1.lst ok1 e0
  refine ⟨.inl ⟨rfl, _, SqL.of h0⟩, ?_⟩
  refine he g1 _ q1 σ F1 H1 κ1 _ ok1 fun w F2 H2 κ2 r2 g2 ok2 s2 p2 rv2 q2 => ?_
  obtain ⟨d, ds, hd, hds, pd, pe, q⟩ := q2
  have pe' : plN 60 (.lst ds) = true := by simpa only [plN] using pe
  obtain ⟨G1, a1, d1⟩ := hd.dp (K := X.K) ok2 rv2 pd
  obtain ⟨G2, a2, d2⟩ := hds.dp (K := X.K) ok2 (rv1.mono s2 p2) pe'
  have ec : ((toPys ks ds).countP fun z => PyData.eqv z (toPy ks d)) = ds.countP fun e => eqv e d := by
    cases a2 with
    | lst _ b => exact count_py hk.nd a1 pd b pe
  have sh := shaped_pl hk.ok pe'
  simp only [toPy] at d2 sh
  refine ⟨a0, w, _, _, rfl, rfl, d2, d1, sh, shaped_pl hk.ok pd, ?_⟩
  rw [ec]
  exact k _ F2 _ κ2 _ _ ok2 (s1.trans s2) (p1.trans p2) (rv_int _) q
end
end DW

/-! ## DW9.lean -/
set_option Elab.async false
set_option linter.all false
set_option maxRecDepth 100000
set_option maxHeartbeats 4000000
set_option autoImplicit false
/-! DW9: a small language; what it reads as; how a text of the program is seen to be one of its texts. -/
namespace DW
open PySem PySem.Spec L2
open PyProof.Rows hiding St

inductive BOp | addI | subI | mulI | fdivI | modI | powI | cat | catT | rep
inductive COp | lt | le | gt | ge | eq | ne | isN | notN | inF | notIn
inductive IxK | l | t | s | k
inductive Bi | len | int1 | min2 | any1 | max1 | list1 | tup1 | dict1 | sort1
inductive ItK | list | r1 | r2 | en
mutual
inductive Ex where
  | var (i : Nat) | int (n : Int) | str (k : Nat) | bl (b : Bool) | non | glob (k : Nat)
  | tup (es : Es) | lst (es : Es) | dic (keys : List Nat) (es : Es)
  | bin (op : BOp) (a b : Ex) | neg (a : Ex) | cmp (op : COp) (a b : Ex) | chain (o1 o2 : COp) (a b c : Ex)
  | one (a : Ex) | and (a b : Ex) | or (a b : Ex) | not (a : Ex)
  | ix (k : IxK) (a b : Ex) | slL (a : Ex) (hl : Bool) (lo : Ex) (hh : Bool) (hi : Ex) | slT (a : Ex) (hl : Bool) (lo : Ex) (hh : Bool) (hi : Ex)
  | call (f : Nat) (es : Es) | bi (b : Bi) (es : Es) | isin (a : Ex) (T : Nat) | isin2 (a : Ex) (T U : Nat)
  | app (o e : Ex) | pop (o : Ex) | popAt (o e : Ex) | clr (o : Ex) | cnt (o e : Ex)
  | comp (elt : Ex) (tg : Tg) (ik : ItK) (a b : Ex) (hc : Bool) (c : Ex) (own : List Nat)
  | frz (a : Ex)
  | lrg (a : Ex) | lrg2 (a b : Ex) | rev (a : Ex) | tab (t : Nat) (a : Ex) | lzip (es : Es) | sortk (f : Nat) (a : Ex)
inductive Es where
  | nil | cons (e : Ex) (es : Es)
end
mutual
inductive Sm where
  | set (i : Nat) (e : Ex) | setC (i : Nat) (e : Ex) | setIx (a b e : Ex) | setKey (a b e : Ex) | expr (e : Ex) | ret (e : Ex) | ite (c : Ex) (a b : Ss)
  | for_ (tg : Tg) (ik : ItK) (a b : Ex) (body : Ss) | while_ (c : Ex) (body : Ss) | never | pass
  | hset (i f : Nat) (es : Es) | hexpr (f : Nat) (es : Es) | rais (c : Nat) | try_ (i : Nat) (body : Ss) (s : Nat) | copy (ik ia ib : Nat)
inductive Ss where
  | nil | cons (s : Sm) (ss : Ss)
end

/-! ### its reading -/
structure Wd where
  fn : Nat → SpD
  gl : List Int
  dt : List (List (Nat × Nat))
  fx : Nat → SpX
  ex : XQ
  su : Nat → Nat → Option D
def BOp.B : BOp → Rv → Rv → Rg → RQ → Prop
  | .addI => bI0 fun i j => .int (i + j)
  | .subI => bI0 fun i j => .int (i - j)
  | .mulI => bIC CMul fun i j => .int (i * j)
  | .fdivI => bIC CDiv fun i j => .int (i / j)
  | .modI => bIC (fun _ j => 0 < j) fun i j => .int (i % j)
  | .powI => bIC CPow fun i j => .int (i ^ j.toNat)
  | .cat => bCat
  | .catT => bCatT
  | .rep => bRep
def COp.B : COp → Rv → Rv → Rg → RQ → Prop
  | .lt => bI0 fun i j => .bl (decide (i < j))
  | .le => bI0 fun i j => .bl (decide (i ≤ j))
  | .gt => bI0 fun i j => .bl (decide (j < i))
  | .ge => bI0 fun i j => .bl (decide (j ≤ i))
  | .eq => bEq false
  | .ne => bEq true
  | .isN => bIs false
  | .notN => bIs true
  | .inF => bIn false
  | .notIn => bIn true
def IxK.B : IxK → Rv → Rv → Rg → RQ → Prop
  | .l => bIxL
  | .t => bIxT
  | .s => bIxS
  | .k => bIxK
def Bi.B : Bi → List Rv → Rg → RQ → Prop
  | .len => cLen
  | .int1 => cInt
  | .min2 => cMin2
  | .any1 => cAny
  | .max1 => cMax
  | .list1 => cList
  | .tup1 => cTup
  | .dict1 => cDict
  | .sort1 => cSort
def tyNames : List String := ["int", "bool", "str", "tuple", "list"]
def wIter (ik : ItK) (Wa Wb : Rg → RQ → Prop) : Rg → IQ → Prop := match ik with
  | .list => fun g Q => Wa g fun r g1 => ∃ rs, lstOf g1 r = some rs ∧ Q rs (fun g' => lstOf g' r = some rs) g1
  | .r1 => fun g Q => Wa g fun r g1 => ∃ j : Int, r = .dat (.int j) ∧ -(2 ^ 62) ≤ j ∧ j < 2 ^ 62 ∧ Q (rngs 0 j.toNat) (fun _ => True) g1
  | .r2 => fun g Q => Wa g fun r g1 => Wb g1 fun r2 g2 => ∃ i j : Int, r = .dat (.int i) ∧ r2 = .dat (.int j) ∧ (-(2 ^ 62) ≤ i ∧ i < 2 ^ 62 ∧ -(2 ^ 62) ≤ j ∧ j < 2 ^ 62) ∧ Q (rngs i (j - i).toNat) (fun _ => True) g2
  | .en => fun g Q => Wa g fun r g1 => ∃ ds : List D, lstOf g1 r = some (ds.map .dat) ∧ Q (enums ds) (fun g' => lstOf g' r = some (ds.map .dat)) g1
def wPart (h : Bool) (W : Rg → RQ → Prop) : Rg → (Option Int → Rg → Prop) → Prop := fun g Q => match h with
  | false => Q none g
  | true => W g fun r g1 => ∃ i, r = .dat (.int i) ∧ Q (some i) g1
def tstW (h : Bool) (W : Rg → (Bool → Rg → Prop) → Prop) : Rg → (Bool → Rg → Prop) → Prop := fun g Q => match h with
  | false => Q true g
  | true => W g Q
mutual
def Ex.W (Γ : Wd) : Ex → En → Rg → RQ → Prop
  | .var i, env => wVar env i
  | .int n, _ => fun g Q => Q (.dat (.int n)) g
  | .str k, _ => fun g Q => Q (.dat (.str k)) g
  | .bl b, _ => fun g Q => Q (.dat (.bl b)) g
  | .non, _ => fun g Q => Q (.dat .non) g
  | .glob k, _ => fun g Q => ∃ n, Γ.gl[k]? = some n ∧ Q (.dat (.int n)) g
  | .tup es, env => fun g Q => es.W Γ env g fun rs g1 => wFrzL rs g1 fun ds g2 => ds.length ≤ 1000000 ∧ Q (.dat (.tup ds)) g2
  | .lst es, env => fun g Q => es.W Γ env g fun rs g1 => rs.length ≤ 1000000 ∧ Q (.ref g1.length) (g1 ++ [.lst rs])
  | .dic keys es, env => fun g Q => es.W Γ env (g ++ [.dic []]) fun rs g2 => g2[g.length]? = some (.dic []) ∧ (keys.zip rs |>.map (·.1)).Nodup ∧ (keys.zip rs).length ≤ 15 ∧ Q (.ref g.length) (g2.set g.length (.dic (keys.zip rs)))
  | .bin op a b, env => fun g Q => a.W Γ env g fun r1 g1 => b.W Γ env g1 fun r2 g2 => op.B r1 r2 g2 Q
  | .neg a, env => fun g Q => a.W Γ env g fun r g1 => ∃ i, r = .dat (.int i) ∧ Q (.dat (.int (-i))) g1
  | .cmp op a b, env => fun g Q => a.W Γ env g fun r1 g1 => b.W Γ env g1 fun r2 g2 => op.B r1 r2 g2 Q
  | .chain o1 o2 a b c, env => fun g Q => a.W Γ env g fun r1 g1 => b.W Γ env g1 fun r2 g2 => o1.B r1 r2 g2 (wantB fun k g3 => (k = true → c.W Γ env g3 fun r3 g4 => o2.B r2 r3 g4 Q) ∧ (k = false → Q (.dat (.bl false)) g3))
  | .one a, env => a.W Γ env
  | .and a b, env => wAndV (a.W Γ env) (b.W Γ env)
  | .or a b, env => wOrV (a.W Γ env) (b.W Γ env)
  | .not a, env => wNotV (a.W Γ env)
  | .ix k a b, env => fun g Q => a.W Γ env g fun r1 g1 => b.W Γ env g1 fun r2 g2 => k.B r1 r2 g2 Q
  | .slL a hl lo hh hi, env => fun g Q => a.W Γ env g fun r g1 => wPart hl (lo.W Γ env) g1 fun l g2 => wPart hh (hi.W Γ env) g2 fun u g3 => ∃ rs, lstOf g3 r = some rs ∧ Q (.ref g3.length) (g3 ++ [.lst (cutL rs l u)])
  | .slT a hl lo hh hi, env => fun g Q => a.W Γ env g fun r g1 => wPart hl (lo.W Γ env) g1 fun l g2 => wPart hh (hi.W Γ env) g2 fun u g3 => ∃ ds, r = .dat (.tup ds) ∧ ¬ (HT.sIx ds.length 0 l = 0 ∧ HT.sIx ds.length ds.length u = ds.length) ∧ Q (.dat (.tup (cutL ds l u))) g3
  | .call f es, env => fun g Q => es.W Γ env g fun rs g1 => Γ.fn f rs g1 Q
  | .bi b es, env => fun g Q => es.W Γ env g fun rs g1 => b.B rs g1 Q
  | .isin a T, env => fun g Q => a.W Γ env g fun r g1 => ∃ t b, tyR g1 r = some t ∧ kitB t (tyNames.getD T "") = some b ∧ Q (.dat (.bl b)) g1
  | .isin2 a T U, env => fun g Q => a.W Γ env g fun r g1 => ∃ t b b', tyR g1 r = some t ∧ kitB t (tyNames.getD T "") = some b ∧ kitB t (tyNames.getD U "") = some b' ∧ Q (.dat (.bl (b || b'))) g1
  | .app o e, env => fun g Q => o.W Γ env g fun ro g1 => (lstOf g1 ro).isSome = true ∧ e.W Γ env g1 fun r g2 => mAppend ro r g2 Q
  | .pop o, env => fun g Q => o.W Γ env g fun ro g1 => mPop ro g1 Q
  | .cnt o e, env => fun g Q => o.W Γ env g fun ro g1 => (lstOf g1 ro).isSome = true ∧ e.W Γ env g1 fun r g2 => mCount ro r g2 Q
  | .popAt o e, env => fun g Q => o.W Γ env g fun ro g1 => (lstOf g1 ro).isSome = true ∧ e.W Γ env g1 fun r g2 => mPopAt ro r g2 Q
  | .clr o, env => fun g Q => o.W Γ env g fun ro g1 => mClear ro g1 Q
  | .comp elt tg ik a b hc c own, env => fun g Q => wIter ik (a.W Γ env) (b.W Γ env) g fun its keep g1 => WComp tg own env (fun env => tstW hc (c.T Γ env)) (fun env => elt.W Γ env) its keep g1 Q
  | .frz a, env => fun g Q => a.W Γ env g fun r g1 => wFrz r g1 fun d g2 => Q (.dat d) g2
  | .lrg a, env => fun g Q => a.W Γ env g fun r g1 => ∃ n : Int, r = .dat (.int n) ∧ n ≤ 16777216 ∧ -1000000 ≤ n ∧ Q (.ref g1.length) (g1 ++ [.lst (rngs 0 n.toNat)])
  | .lrg2 a b, env => fun g Q => a.W Γ env g fun r g1 => b.W Γ env g1 fun r2 g2 => ∃ i j : Int, r = .dat (.int i) ∧ r2 = .dat (.int j) ∧ (0 ≤ i ∧ i ≤ 16777216 ∧ 0 ≤ j ∧ j ≤ 16777216) ∧ Q (.ref g2.length) (g2 ++ [.lst (rngs i (j - i).toNat)])
  | .rev a, env => fun g Q => a.W Γ env g fun r g1 => ∃ rs, lstOf g1 r = some rs ∧ Q (.ref g1.length) (g1 ++ [.lst rs.reverse])
  | .tab t a, env => fun g Q => a.W Γ env g fun r g1 => ∃ k v, r = .dat (.str k) ∧ (Γ.dt.getD t []).lookup k = some v ∧ Q (.dat (.str v)) g1
  | .lzip es, env => fun g Q => es.W Γ env g fun rs g1 => ∃ r1 r2, rs = [r1, r2] ∧ cZip r1 r2 g1 Q
  | .sortk _ a, env => fun g Q => a.W Γ env g fun r g1 => wSortK r g1 Q
def Ex.T (Γ : Wd) : Ex → En → Rg → (Bool → Rg → Prop) → Prop
  | .one a, env => a.T Γ env
  | .and a b, env => wAndT (a.T Γ env) (b.T Γ env)
  | .or a b, env => wOrT (a.T Γ env) (b.T Γ env)
  | .not a, env => fun g Q => a.T Γ env g fun k g1 => Q (!k) g1
  | .cmp op a b, env => fun g Q => a.W Γ env g fun r1 g1 => b.W Γ env g1 fun r2 g2 => op.B r1 r2 g2 (wantB Q)
  | .var i, env => fun g Q => wVar env i g (wantB Q)
  | .call f es, env => fun g Q => es.W Γ env g fun rs g1 => Γ.fn f rs g1 (wantB Q)
  | .bi b es, env => fun g Q => es.W Γ env g fun rs g1 => b.B rs g1 (wantB Q)
  | .isin a T, env => fun g Q => a.W Γ env g fun r g1 => ∃ t b, tyR g1 r = some t ∧ kitB t (tyNames.getD T "") = some b ∧ wantB Q (.dat (.bl b)) g1
  | .isin2 a T U, env => fun g Q => a.W Γ env g fun r g1 => ∃ t b b', tyR g1 r = some t ∧ kitB t (tyNames.getD T "") = some b ∧ kitB t (tyNames.getD U "") = some b' ∧ wantB Q (.dat (.bl (b || b'))) g1
  | .ix k a b, env => fun g Q => a.W Γ env g fun r1 g1 => b.W Γ env g1 fun r2 g2 => k.B r1 r2 g2 (wantB Q)
  | .chain o1 o2 a b c, env => fun g Q => a.W Γ env g fun r1 g1 => b.W Γ env g1 fun r2 g2 => o1.B r1 r2 g2 (wantB fun k g3 => (k = true → c.W Γ env g3 fun r3 g4 => o2.B r2 r3 g4 (wantB Q)) ∧ (k = false → Q false g3))
  | _, _ => fun _ _ => False
def Es.W (Γ : Wd) : Es → En → Rg → (List Rv → Rg → Prop) → Prop
  | .nil, _ => fun g Q => Q [] g
  | .cons e es, env => fun g Q => e.W Γ env g fun r g1 => es.W Γ env g1 fun rs g2 => Q (r :: rs) g2
end
mutual
def Sm.W (Γ : Wd) : Sm → SWt
  | .set i e => fun env g N R => e.W Γ env g fun r g1 => N (env.set i (some r)) g1
  | .setC i e => fun env g N R => e.W Γ env g fun r g1 => N (env.set i (some r)) g1
  | .setIx a b e => fun env g N R => e.W Γ env g fun r g1 => a.W Γ env g1 fun ro g2 => b.W Γ env g2 fun ri g3 => wSetIx ro ri r g3 fun g4 => N env g4
  | .setKey a b e => fun env g N R => e.W Γ env g fun r g1 => a.W Γ env g1 fun ro g2 => b.W Γ env g2 fun ri g3 => wSetKey ro ri r g3 fun g4 => N env g4
  | .expr e => fun env g N R => e.W Γ env g fun _ g1 => N env g1
  | .ret e => fun env g N R => e.W Γ env g R
  | .ite c a b => fun env g N R => c.T Γ env g fun k g1 => (k = true → a.W Γ env g1 N R) ∧ (k = false → b.W Γ env g1 N R)
  | .for_ tg ik a b body => WFor (fun env => wIter ik (a.W Γ env) (b.W Γ env)) tg (body.W Γ)
  | .while_ c body => WWhile (c.T Γ) (body.W Γ)
  | .never => fun _ _ _ _ => False
  | .pass => fun env g N _ => N env g
  | .hset i f es => fun env g N R => es.W Γ env g fun rs g1 => Γ.fx f rs g1 (fun r g2 => N (env.set i (some r)) g2) Γ.ex
  | .hexpr f es => fun env g N R => es.W Γ env g fun rs g1 => Γ.fx f rs g1 (fun r g2 => N env g2) Γ.ex
  | .rais c => fun env g N R => Γ.ex c g
  | .try_ _ body s => fun env g N R => body.W { Γ with ex := fun c g' => ∃ d, Γ.su s c = some d ∧ R (.dat d) g' } env g N R
  | .copy ik ia ib => fun env g N R => wCopy env ik ia ib g N
def Ss.W (Γ : Wd) : Ss → SWt
  | .nil => fun env g N _ => N env g
  | .cons s ss => fun env g N R => s.W Γ env g (fun env g => ss.W Γ env g N R) R
end
end DW

/-! ## DW10.lean -/
set_option Elab.async false
set_option linter.all false
set_option maxRecDepth 100000
set_option maxHeartbeats 4000000
set_option autoImplicit false
/-! DW10: the correspondence with the program's text. -/
namespace DW
open PySem PySem.Spec L2
open PyProof.Rows hiding St

structure Tbl where
  N : List Str
  sc : Scope
  ks : List Str
  fn : List Str
  gl : List (Str × Int)
  dt : List Str
  top : Bool
  kf : List Str
  fx : List Str
  xc : List Str
  su : Nat → Str → List Stmt → Bool
/-- its words, with what the top has written -/
abbrev Tbl.kt (tb : Tbl) (X : Cx) : Kt := ⟨tb.ks, X.K⟩
def nst : Expr → Bool | .Starred .. => false | _ => true
def nsl : Expr → Bool | .Slice .. => false | _ => true
def ncp : Expr → Bool | .ListComp .. => false | .SetComp .. => false | .DictComp .. => false | _ => true
def ncall : Expr → Bool | .Call .. => false | _ => true
def nset : Expr → Bool | .Set .. => false | _ => true
def okN (x : Str) : Bool := !(x == ("__debug__" : Str)) && !(x == ("__classdict__" : Str)) && !(x == ("__name__" : Str))
def visB (sc : Scope) (x : Str) : Bool := match sc.names.lookup x with | some .local => true | some .cell => true | some .free => true | _ => false
def glB (sc : Scope) (x : Str) : Bool := match sc.names.lookup x with | some .globalImplicit => true | _ => false
def tgB (tb : Tbl) (x : Str) : Bool := match tb.sc.names.lookup x with | some .local => true | some .cell => tb.top | _ => false
def BOp.ok : BOp → Operator → Bool
  | .addI, .Add => true | .subI, .Sub => true | .mulI, .Mult => true | .fdivI, .FloorDiv => true | .modI, .Mod => true | .powI, .Pow => true | .cat, .Add => true | .catT, .Add => true | .rep, .Mult => true
  | _, _ => false
def COp.ok : COp → CmpOp → Bool
  | .lt, .Lt => true | .le, .LtE => true | .gt, .Gt => true | .ge, .GtE => true | .eq, .Eq => true | .ne, .NotEq => true | .isN, .Is => true | .notN, .IsNot => true | .inF, .In => true | .notIn, .NotIn => true
  | _, _ => false
def Bi.nm : Bi → Str
  | .len => "len" | .int1 => "int" | .min2 => "min" | .any1 => "any" | .max1 => "max" | .list1 => "list" | .tup1 => "tuple" | .dict1 => "dict" | .sort1 => "sorted"
def isLC : Expr → Bool | .ListComp .. => true | _ => false
def isComp : Ex → Bool | .comp .. => true | _ => false
def chOk : COp → Bool | .lt => true | .le => true | .gt => true | .ge => true | _ => false
def corrTg (tb : Tbl) : Tg → Expr → Bool
  | .name i, e => match e with | .Name x _ => decide (tb.N[i]? = some x) && tgB tb x | _ => false
  | .pair i j, e => match e with | .Tuple es _ _ => (match es with | [.Name x _, .Name y _] => decide (tb.N[i]? = some x) && tgB tb x && decide (tb.N[j]? = some y) && tgB tb y | _ => false) | _ => false
def isPair : Expr → Bool | .Tuple .. => true | _ => false
def keysB (ks : List Str) : List Nat → List (Option Expr) → Bool
  | [], l => l.isEmpty
  | k :: r, l => match l with | some (.Constant (.str x) _ _) :: t => decide (ks[k]? = some x) && keysB ks r t | _ => false
def Tbl.blk (tb : Tbl) (scope : Scope) : Tbl := { tb with sc := relS scope tb.sc, top := false }
mutual
def Ex.ok (tb : Tbl) : Ex → Expr → Bool
  | .var i, e => match e with | .Name x _ => decide (tb.N[i]? = some x) && visB tb.sc x && okN x | _ => false
  | .int n, e => match e with | .Constant (.int m) _ _ => n == m | _ => false
  | .str k, e => match e with | .Constant (.str x) _ _ => decide (tb.ks[k]? = some x) | _ => false
  | .bl b, e => match e with | .Constant (.bool c) _ _ => b == c | _ => false
  | .non, e => match e with | .Constant .none _ _ => true | _ => false
  | .glob k, e => match e with | .Name x _ => decide ((tb.gl[k]?).map (·.1) = some x) && glB tb.sc x && okN x | _ => false
  | .tup es, e => match e with | .Tuple l _ _ => es.ok tb l | _ => false
  | .lst es, e => match e with | .List l _ => es.ok tb l | _ => false
  | .dic keys es, e => match e with | .Dict kl l _ => keysB tb.ks keys kl && es.ok tb l && !kl.isEmpty && decide (kl.length ≤ 15) && decide (kl.length = l.length) | _ => false
  | .bin op a b, e => match e with | .BinOp l o r _ => op.ok o && a.ok tb l && b.ok tb r | _ => false
  | .neg a, e => match e with | .UnaryOp .USub x _ => a.ok tb x | _ => false
  | .cmp op a b, e => match e with | .Compare l [o] [r] _ => op.ok o && nset r && a.ok tb l && b.ok tb r | _ => false
  | .chain o1 o2 a b c, e => match e with | .Compare l [p1, p2] [r1, r2] _ => o1.ok p1 && o2.ok p2 && chOk o1 && chOk o2 && nset r2 && a.ok tb l && b.ok tb r1 && c.ok tb r2 | _ => false
  | .one a, e => match e with | .BoolOp _ [x] _ => a.ok tb x | _ => false
  | .and a b, e => match e with | .BoolOp .And (x :: y :: r) p => a.ok tb x && b.ok tb (.BoolOp .And (y :: r) p) | _ => false
  | .or a b, e => match e with | .BoolOp .Or (x :: y :: r) p => a.ok tb x && b.ok tb (.BoolOp .Or (y :: r) p) | _ => false
  | .not a, e => match e with | .UnaryOp .Not x _ => a.ok tb x | _ => false
  | .ix _ a b, e => match e with | .Subscript x y _ => nsl y && a.ok tb x && b.ok tb y | _ => false
  | .slL a hl lo hh hi, e => match e with | .Subscript x (.Slice l u none _) _ => a.ok tb x && (match hl, l with | false, none => true | true, some z => lo.ok tb z | _, _ => false) && (match hh, u with | false, none => true | true, some z => hi.ok tb z | _, _ => false) | _ => false
  | .slT a hl lo hh hi, e => match e with | .Subscript x (.Slice l u none _) _ => a.ok tb x && (match hl, l with | false, none => true | true, some z => lo.ok tb z | _, _ => false) && (match hh, u with | false, none => true | true, some z => hi.ok tb z | _, _ => false) | _ => false
  | .call f es, e => match e with | .Call (.Name x _) (a :: l) [] _ => decide (tb.fn[f]? = some x) && glB tb.sc x && okN x && es.ok tb (a :: l) | _ => false
  | .bi b es, e => match e with | .Call (.Name x _) (a :: l) [] _ => decide (x = b.nm) && glB tb.sc x && es.ok tb (a :: l) | _ => false
  | .isin a T, e => match e with | .Call (.Name x _) [o, .Name t _] [] _ => decide (x = "isinstance") && glB tb.sc x && glB tb.sc t && decide ((tyNames[T]?).map Str.ofString = some t) && nst o && a.ok tb o | _ => false
  | .isin2 a T U, e => match e with | .Call (.Name x _) [o, .Tuple [.Name t _, .Name u _] _ _] [] _ => decide (x = "isinstance") && glB tb.sc x && glB tb.sc t && glB tb.sc u && decide ((tyNames[T]?).map Str.ofString = some t) && decide ((tyNames[U]?).map Str.ofString = some u) && nst o && a.ok tb o | _ => false
  | .app o e1, e => match e with | .Call (.Attribute x m ap) [y] [] p => decide (m = "append") && (ap.endLine == p.line) && ncall x && nst y && o.ok tb x && e1.ok tb y | _ => false
  | .pop o, e => match e with | .Call (.Attribute x m ap) [] [] p => decide (m = "pop") && (ap.endLine == p.line) && ncall x && o.ok tb x | _ => false
  | .cnt o e1, e => match e with | .Call (.Attribute x m ap) [y] [] p => decide (m = "count") && (ap.endLine == p.line) && ncall x && nst y && o.ok tb x && e1.ok tb y | _ => false
  | .popAt o e1, e => match e with | .Call (.Attribute x m ap) [y] [] p => decide (m = "pop") && (ap.endLine == p.line) && ncall x && nst y && o.ok tb x && e1.ok tb y | _ => false
  | .clr o, e => match e with | .Call (.Attribute x m ap) [] [] p => decide (m = "clear") && (ap.endLine == p.line) && ncall x && o.ok tb x | _ => false
  | .comp elt tg ik a b hc c own, e => match e with
    | .ListComp el [⟨t, it, ifs, 0⟩] scope _ => blkC tb.N tb.sc scope (own.map fun i => (tb.N.getD i ⟨#[]⟩, i)) && corrTg (tb.blk scope) tg t && tg.at.all (fun i => own.contains i) && nset it && elt.ok (tb.blk scope) el &&
        (match hc, ifs with | false, [] => true | true, [z] => c.ok (tb.blk scope) z | _, _ => false) &&
        (match ik with
          | .list => a.ok tb it
          | .r1 => (match it with | .Call (.Name x _) [y] [] _ => decide (x = "range") && glB tb.sc x && nst y && a.ok tb y | _ => false)
          | .r2 => (match it with | .Call (.Name x _) [y, z] [] _ => decide (x = "range") && glB tb.sc x && nst y && nst z && a.ok tb y && b.ok tb z | _ => false)
          | .en => (match it with | .Call (.Name x _) [y] [] _ => decide (x = "enumerate") && glB tb.sc x && isPair t && nst y && a.ok tb y | _ => false))
    | _ => false
  | .frz a, e => a.ok tb e
  | .lrg a, e => match e with | .Call (.Name x _) [.Call (.Name y _) [z] [] _] [] _ => decide (x = "list") && decide (y = "range") && glB tb.sc x && glB tb.sc y && nst z && a.ok tb z | _ => false
  | .lrg2 a b, e => match e with | .Call (.Name x _) [.Call (.Name y _) [z, u] [] _] [] _ => decide (x = "list") && decide (y = "range") && glB tb.sc x && glB tb.sc y && nst z && nst u && a.ok tb z && b.ok tb u | _ => false
  | .rev a, e => match e with | .Subscript x (.Slice none none (some (.UnaryOp .USub (.Constant (.int m) _ _) _)) _) _ => m == 1 && a.ok tb x | _ => false
  | .tab t a, e => match e with | .Subscript (.Name x _) y _ => decide (tb.dt[t]? = some x) && glB tb.sc x && okN x && nsl y && a.ok tb y | _ => false
  | .sortk f a, e => match e with | .Call (.Name x _) [y] [⟨some k, .Name z _, _⟩] _ => decide (x = "sorted") && glB tb.sc x && decide (k = "key") && decide (tb.kf[f]? = some z) && glB tb.sc z && okN z && nst y && a.ok tb y | _ => false
  | .lzip es, e => match e with | .Call (.Name x _) [.Call (.Name y _) [u, v] [] _] [] _ => decide (x = "list") && decide (y = "zip") && glB tb.sc x && glB tb.sc y && es.ok tb [u, v] | _ => false
def Es.ok (tb : Tbl) : Es → List Expr → Bool
  | .nil, l => l.isEmpty
  | .cons e es, l => match l with | x :: r => nst x && e.ok tb x && es.ok tb r | [] => false
end
mutual
def Sm.ok (tb : Tbl) : Sm → Stmt → Bool
  | .set i e, s => match s with | .Assign [.Name x _] v _ => decide (tb.N[i]? = some x) && tgB tb x && (ncp v || (isLC v && (match tb.sc.names.lookup x with | some .cell => true | _ => false))) && e.ok tb v | _ => false
  | .setC i e, s => match s with
    | .Assign [.Name x px] v p => (match v with
      | .ListComp _ _ scope lp => isComp e && decide (tb.N[i]? = some x) && (match tb.sc.names.lookup x with | some .local => true | _ => false) && (px.line == lp.line) && !(scope.names.any fun (n, k) => n == x && (k == .local || k == .cell)) && e.ok tb v
      | _ => false)
    | _ => false
  | .setIx a b e, s => match s with | .Assign [.Subscript x y _] v _ => ncp v && nsl y && a.ok tb x && b.ok tb y && e.ok tb v | _ => false
  | .setKey a b e, s => match s with | .Assign [.Subscript x y _] v _ => ncp v && nsl y && a.ok tb x && b.ok tb y && e.ok tb v | _ => false
  | .expr e, s => match s with | .Expr v _ => ncp v && e.ok tb v | _ => false
  | .ret e, s => match s with | .Return (some v) _ => e.ok tb v | _ => false
  | .ite c a b, s => match s with | .If t x y _ => c.ok tb t && a.ok tb x && b.ok tb y | _ => false
  | .for_ tg ik a b body, s => match s with
    | .For t it bd [] _ => corrTg tb tg t && nset it && body.ok tb bd &&
        (match ik with
          | .list => a.ok tb it
          | .r1 => (match it with | .Call (.Name x _) [y] [] _ => decide (x = "range") && glB tb.sc x && nst y && a.ok tb y | _ => false)
          | .r2 => (match it with | .Call (.Name x _) [y, z] [] _ => decide (x = "range") && glB tb.sc x && nst y && nst z && a.ok tb y && b.ok tb z | _ => false)
          | .en => (match it with | .Call (.Name x _) [y] [] _ => decide (x = "enumerate") && glB tb.sc x && isPair t && nst y && a.ok tb y | _ => false))
    | _ => false
  | .while_ c body, s => match s with | .While t bd [] _ => c.ok tb t && body.ok tb bd | _ => false
  | .never, _ => true
  | .pass, s => match s with | .Pass _ => true | _ => false
  | .hset i f es, s => match s with | .Assign [.Name x _] (.Call (.Name y _) (a :: l) [] _) _ => decide (tb.N[i]? = some x) && tgB tb x && decide (tb.fx[f]? = some y) && glB tb.sc y && okN y && es.ok tb (a :: l) | _ => false
  | .hexpr f es, s => match s with | .Expr (.Call (.Name y _) (a :: l) [] _) _ => decide (tb.fx[f]? = some y) && glB tb.sc y && okN y && es.ok tb (a :: l) | _ => false
  | .rais c, s => match s with | .Raise (some (.Call (.Name x _) [.Constant (.str _) _ _] [] _)) none _ => decide (tb.xc[c]? = some x) && glB tb.sc x && okN x | _ => false
  | .try_ i body n, s => match s with
    | .Try bd [.ExceptHandler (some (.Name x _)) (some y) (b0 :: sui) _] [] [] _ => decide (x = "TowerError") && glB tb.sc x && decide (tb.N[i]? = some y) && (match tb.sc.names.lookup y with | some .local => true | _ => false) && tb.su n y (b0 :: sui) && body.ok { tb with su := fun _ _ _ => false } bd
    | _ => false
  | .copy ik ia ib, s => match s with
    | .For (.Name k _) (.Name b _) [.Assign [.Subscript (.Name a _) (.Name k2 _) _] (.Subscript (.Name b2 _) (.Name k3 _) _) _] [] _ => decide (k2 = k) && decide (k3 = k) && decide (b2 = b) && decide (tb.N[ik]? = some k) && decide (tb.N[ia]? = some a) && decide (tb.N[ib]? = some b) &&
        tgB tb k && visB tb.sc k && visB tb.sc a && visB tb.sc b && okN k && okN a && okN b
    | _ => false
def Ss.ok (tb : Tbl) : Ss → List Stmt → Bool
  | .nil, l => l.isEmpty
  | .cons s ss, l => match l with | x :: r => s.ok tb x && ss.ok tb r | [] => false
end

/-! ### what the context must be -/
structure XOk (tb : Tbl) (Γ : Wd) (X : Cx) : Prop where
  N : X.N = tb.N
  sc : X.env.scope = tb.sc
  nd : tb.N.Nodup
  kind : tb.sc.kind = .function
  calm : X.calm = true
  hu : X.A.units + 65 < cLine
  ks : KsOk (tb.kt X)
  top : tb.top = true → ∀ x, X.fn x = true
  bn : ∀ x ∈ (["len", "isinstance", "int", "bool", "str", "tuple", "list", "range", "min", "max", "any", "enumerate", "zip", "dict", "sorted"] : List Str), X.mg x = none
  fn : ∀ (i : Nat) (x : Str), tb.fn[i]? = some x → FnIn (tb.kt X) X x (Γ.fn i)
  gl : ∀ (i : Nat) (x : Str), (tb.gl[i]?).map (·.1) = some x → ∃ n t, Γ.gl[i]? = some n ∧ X.mg x = some (.int n t)
  dt : ∀ (i : Nat) (x : Str), tb.dt[i]? = some x → TabOk (tb.kt X) X x (Γ.dt.getD i [])
  kf : ∀ (i : Nat) (x : Str), tb.kf[i]? = some x → KfIn X x
  pass : PassesOwn (model X.prog X.w) X.A X.env X.xe
/-- what else the context must be where exceptions are raised -/
structure XHot (tb : Tbl) (Γ : Wd) (X : Cx) (cv : Nat → Value) (Z : XZ) : Prop where
  ex : Z.ex = Γ.ex
  tk : L2N.Takes X (wX cv Z)
  fx : ∀ (i : Nat) (x : Str), tb.fx[i]? = some x → FnInX (tb.kt X) X cv x (Γ.fx i)
  xc : ∀ (i : Nat) (x : Str), tb.xc[i]? = some x → ClsX X cv i x
  su : ∀ (s i : Nat) (n : Str) (b0 : Stmt) (sui : List Stmt), tb.su s n (b0 :: sui) = true → tb.N[i]? = some n → X.stack = X.env :: X.outer ∧ X.env.frame = some X.env.locals ∧ ∃ cN, (Gl X "TowerError" → Names X "TowerError" cN) ∧ SuiteOk X cv cN i (b0 :: sui) (Γ.su s)
section
variable {tb : Tbl} {Γ : Wd} {X : Cx} {env : Env}
theorem starEach_n {e : Expr} {es : List Expr} (h : nst e = true) : starEach (e :: es) env = (false, eval e env) :: starEach es env := by cases e <;> first | rfl | simp [nst] at h
theorem plain_ix {e : Expr} (h : nsl e = true) : PlainIx e := fun o i => by cases e <;> first | rfl | simp [nsl] at h
theorem plain_no {e : Expr} (h : nsl e = true) : NoSl e := fun o i => by cases e <;> first | rfl | simp [nsl] at h
theorem swaps_n {e : Expr} {t : Option Expr} {l : Nat} (h : ncp e = true) : swapsWith e t l env = pure false := by cases e <;> first | rfl | simp [ncp] at h
theorem base_n {o : Expr} {a : Str} {w : Sem Value} (h : ncall o = true) : attributeBase o a env w = w := by cases o <;> first | rfl | simp [ncall] at h
theorem marks_n {op : CmpOp} {e : Expr} (h : nset e = true) : behindInMarks op e = false := by cases e <;> first | rfl | simp [nset] at h
theorem folded_n {e : Expr} (h : nset e = true) (x : Value) : foldedSetIterable e env x = pure x := by cases e <;> first | rfl | simp [nset] at h
theorem assign_n {o i : Expr} {pos : Pos} (h : nsl i = true) (v : Value) : assign (.Subscript o i pos) env v = (do
      let ov ← holding [v] (eval o env)
      let iv ← holding [v, ov] (eval i env)
      standAt pos
      holding [v, ov, iv] (setItem ov iv v)
      release [v, ov, iv] []) := by cases i <;> first | rfl | simp [nsl] at h
theorem okN_d {x : Str} (h : okN x = true) : (x == ("__debug__" : Str)) = false ∧ (x == ("__classdict__" : Str)) = false ∧ x ≠ "__name__" := by
  unfold okN at h
  simp only [Bool.and_eq_true, Bool.not_eq_true'] at h
  exact ⟨h.1.1, h.1.2, fun z => by rw [z] at h; exact absurd h.2 (by decide)⟩
theorem XOk.vis (h : XOk tb Γ X) {x : Str} (v : visB tb.sc x = true) : Vis X.env.scope x := by
  rw [h.sc]
  unfold visB at v
  unfold Vis
  split at v <;> simp_all
theorem XOk.glo (h : XOk tb Γ X) {x : Str} (v : glB tb.sc x = true) : Gl X x := by
  unfold glB at v
  show X.env.scope.names.lookup x = _
  rw [h.sc]
  split at v
  · assumption
  · cases v
theorem XOk.tg (h : XOk tb Γ X) {x : Str} (v : tgB tb x = true) : Loc X.env.scope x ∧ (X.fn x = true ∨ X.env.scope.names.lookup x = some .local) := by
  rw [h.sc]
  unfold tgB at v
  split at v
  · rename_i e; exact ⟨.inl e, .inr e⟩
  · rename_i e; exact ⟨.inr e, .inl (h.top v x)⟩
  · cases v
theorem XOk.blk (h : XOk tb Γ X) (scope : Scope) (hk : scope.kind = .function) (s : Shared) (H : Hp) (Cc : Addr) (cl : List (Str × Addr)) (fp : List Addr) : XOk (tb.blk scope) Γ (X.blk s H scope (compEnvC scope cl Cc X.env) fp) where
  N := h.N
  sc := by show relS scope X.env.scope = relS scope tb.sc; rw [h.sc]
  nd := h.nd
  kind := hk
  calm := h.calm
  hu := h.hu
  ks := h.ks
  top := fun z => by cases z
  bn := h.bn
  fn := fun i x e => ⟨(h.fn i x e).mono, (h.fn i x e).fn⟩
  dt := h.dt
  kf := fun i x e => ⟨(h.kf i x e).fn⟩
  gl := h.gl
  pass := PassesOwn.never
end
end DW

/-! ## DW11.lean -/
set_option Elab.async false
set_option linter.all false
set_option maxRecDepth 100000
set_option maxHeartbeats 4000000
set_option autoImplicit false
/-! DW11: the reading is sound. -/
namespace DW
open PySem PySem.Spec L2
open PyProof.Rows hiding St

section
variable {ks : Kt} {X : Cx} {C : Ent} {env : En} {pos : Pos}
theorem se_neg {a : Expr} {Wa : Rg → RQ → Prop} (ha : SE ks X C env a Wa) : SE ks X C env (.UnaryOp .USub a pos) (fun g Q => Wa g fun r g1 => ∃ i, r = .dat (.int i) ∧ Q (.dat (.int (-i))) g1) := by
  intro g Q h σ F H κ Qv ok k
  refine wE_of (pe_un un_neg pe_w) (ha g _ h σ F H κ _ ok fun v F1 H1 κ1 r1 g1 ok1 s1 p1 rv1 q1 => ?_)
  obtain ⟨i, rfl, q⟩ := q1
  exact ⟨i, At.intI rv1, k _ F1 H1 κ1 _ g1 ok1 s1 p1 (rv_int _) q⟩
theorem se_frz {a : Expr} {Wa : Rg → RQ → Prop} (ha : SE ks X C env a Wa) : SE ks X C env a (fun g Q => Wa g fun r g1 => wFrz r g1 fun d g2 => Q (.dat d) g2) := by
  intro g Q h σ F H κ Qv ok k
  refine ha g _ h σ F H κ _ ok fun v F1 H1 κ1 r1 g1 ok1 s1 p1 rv1 q1 => ?_
  obtain ⟨F2, d, g2, s2, ok2, a2, q⟩ := wFrz_ok q1 ok1 rv1
  exact k _ F2 H1 κ1 _ g2 ok2 (s1.trans s2) p1 (rv_d a2) q
theorem st_chain {a b c : Expr} {Wa Wb Wc : Rg → RQ → Prop} {r r' : R2} {B B' : Rv → Rv → Rg → RQ → Prop} {op op' : CmpOp} (ho : OpR X (compareOp op) r) (ho' : OpR X (compareOp op') r') (ha : SE ks X C env a Wa) (hb : SE ks X C env b Wb) (hc : SE ks X C env c Wc)
    (hB : BinOk ks X C env r B) (hB' : BinOk ks X C env r' B') (hm : lastMarks [op, op'] [b, c] = false) :
    ST ks X C env (.Compare a [op, op'] [b, c] pos) (fun g Q => Wa g fun r1 g1 => Wb g1 fun r2 g2 => B r1 r2 g2 (wantB fun k g3 => (k = true → Wc g3 fun r3 g4 => B' r2 r3 g4 (wantB Q)) ∧ (k = false → Q false g3))) := by
  intro g Q h σ F H κ Qv ok k
  refine wT_of (pt_chain ho ho' (pe_w (e := a)) (pe_w (e := b)) (pe_w (e := c)) hm) ?_
  refine ha g _ h σ F H κ _ ok fun v F1 H1 κ1 r1 g1 ok1 s1 p1 rv1 q1 => hb g1 _ q1 σ F1 H1 κ1 _ ok1 fun w F2 H2 κ2 r2 g2 ok2 s2 p2 rv2 q2 => ?_
  refine hB g2 r1 r2 _ q2 σ F2 H2 κ2 _ v w ok2 (rv1.mono s2 p2) rv2 fun z F3 H3 κ3 r3 g3 ok3 s3 p3 rv3 q3 => ?_
  obtain ⟨k3, rfl, q4, q5⟩ := q3
  refine ⟨k3, At.blI rv3, ?_⟩
  cases k3 with
  | true =>
    rw [if_pos rfl]
    refine hc g3 _ (q4 rfl) σ F3 H3 κ3 _ ok3 fun u F4 H4 κ4 r4 g4 ok4 s4 p4 rv4 q6 => hB' g4 r2 r4 _ q6 σ F4 H4 κ4 _ w u ok4 (rv2.mono (s3.trans s4) (p3.trans p4)) rv4 fun z F5 H5 κ5 r5 g5 ok5 s5 p5 rv5 q7 => ?_
    obtain ⟨b, rfl, q7⟩ := q7
    exact ⟨b, At.blI rv5, k b F5 H5 κ5 g5 ok5 ((((s1.trans s2).trans s3).trans s4).trans s5) ((((p1.trans p2).trans p3).trans p4).trans p5) q7⟩
  | false =>
    rw [if_neg Bool.false_ne_true]
    exact ⟨false, rfl, k false F3 H3 κ3 g3 ok3 ((s1.trans s2).trans s3) ((p1.trans p2).trans p3) (q5 rfl)⟩
/-- an operator's rule, whatever rule it is -/
def OpS (ks : Kt) (X : Cx) (C : Ent) (env : En) (f : Value → Value → Sem Value) (B : Rv → Rv → Rg → RQ → Prop) : Prop := ∃ r, OpR X f r ∧ BinOk ks X C env r B
theorem BOp.sound {op : BOp} {o : Operator} (h : op.ok o = true) : OpS ks X C env (binaryOp o) op.B := by
  cases op <;> cases o <;> first | (simp [BOp.ok] at h; done) | skip
  · exact ⟨_, op_add, binI⟩
  · exact ⟨_, op_sub, binI⟩
  · exact ⟨_, op_mul, binIC⟩
  · exact ⟨_, op_fdiv, binIC⟩
  · exact ⟨_, op_mod, binIC⟩
  · exact ⟨_, op_pow, binIC⟩
  · exact ⟨_, op_cat, binCat⟩
  · exact ⟨_, op_catT, binCatT⟩
  · exact ⟨_, op_rep, binRep⟩
theorem COp.sound {op : COp} {o : CmpOp} (hk : KsOk ks) (hu : X.A.units + 65 < cLine) (h : op.ok o = true) : OpS ks X C env (compareOp o) op.B := by
  cases op <;> cases o <;> first | (simp [COp.ok] at h; done) | skip
  · exact ⟨_, op_lt, binB⟩
  · exact ⟨_, op_le, binB⟩
  · exact ⟨_, op_gt, binB⟩
  · exact ⟨_, op_ge, binB⟩
  · exact ⟨_, op_eqD (by omega), binEq hk⟩
  · exact ⟨_, op_neD (by omega), binNe hk⟩
  · exact ⟨_, op_isN, binIs⟩
  · exact ⟨_, op_notN, binIsNot⟩
  · exact ⟨_, op_inD hu, binIn hk false⟩
  · exact ⟨_, op_notInD hu, binIn hk true⟩
theorem IxK.sound {k : IxK} {a b : Expr} {Wa Wb : Rg → RQ → Prop} (hK : ks.K = X.K) (hk : KsOk ks) (hu : X.A.units + 65 < cLine) (hs : nsl b = true) (ha : SE ks X C env a Wa) (hb : SE ks X C env b Wb) :
    SE ks X C env (.Subscript a b pos) (fun g Q => Wa g fun r1 g1 => Wb g1 fun r2 g2 => k.B r1 r2 g2 Q) := by
  cases k
  · exact se_ix ix_list (plain_ix hs) ha hb binIxL
  · exact se_ix ix_tup (plain_ix hs) ha hb binIxT
  · exact se_ix ix_list (plain_ix hs) ha hb (binIxS hK)
  · exact se_dget hk (by omega) (plain_no hs) ha hb
theorem so_part {h : Bool} {o : Option Expr} {W : Rg → RQ → Prop} (hs : match h, o with | false, none => True | true, some z => SE ks X C env z W | _, _ => False) : SO ks X C env o (wPart h W) := by
  cases h <;> cases o <;> first | exact hs.elim | skip
  · exact so_none
  · exact so_some hs
end
theorem Es.plain {tb : Tbl} {env : Env} {pos : Pos} : ∀ {es : Es} {l : List Expr}, es.ok tb l = true → (backTo pos (starEach l env)).any (·.1) = false
  | .nil, [], _ => rfl
  | .nil, _ :: _, h => by simp [Es.ok] at h
  | .cons _ _, [], h => by simp [Es.ok] at h
  | .cons e es, x :: r, h => by
    simp only [Es.ok, Bool.and_eq_true] at h
    rw [starEach_n h.1.1]
    show (false || (backTo pos (starEach r env)).any (·.1)) = false
    rw [Es.plain h.2]; rfl
theorem Es.head {tb : Tbl} : ∀ {es : Es} {x : Expr} {r : List Expr}, es.ok tb (x :: r) = true → nst x = true ∧ ∃ es' : Es, es'.ok tb r = true
  | .nil, _, _, h => by simp [Es.ok] at h
  | .cons e es, x, r, h => by
    simp only [Es.ok, Bool.and_eq_true] at h
    exact ⟨h.1.1, es, h.2⟩
theorem ty_boot {T : Nat} {t : Str} (h : (tyNames[T]?).map Str.ofString = some t) : bootBuiltins t = some (.type (tyNames.getD T "")) ∧ (t == ("__debug__" : Str)) = false ∧ t ≠ "__name__" ∧ t ∈ (["len", "isinstance", "int", "bool", "str", "tuple", "list", "range", "min", "max", "any", "enumerate", "zip", "dict", "sorted"] : List Str) := by
  match T, h with
  | 0, h => cases h; exact by decide +kernel
  | 1, h => cases h; exact by decide +kernel
  | 2, h => cases h; exact by decide +kernel
  | 3, h => cases h; exact by decide +kernel
  | 4, h => cases h; exact by decide +kernel
  | T + 5, h => simp [tyNames] at h
theorem Bi.mem (b : Bi) : b.nm ∈ (["len", "isinstance", "int", "bool", "str", "tuple", "list", "range", "min", "max", "any", "enumerate", "zip", "dict", "sorted"] : List Str) ∧ (b.nm == ("__debug__" : Str)) = false ∧ b.nm ≠ "__name__" := by cases b <;> decide +kernel
section
variable {tb : Tbl} {Γ : Wd} {X : Cx} {C : Ent} {env : En} {pos : Pos}
theorem Bi.sound {b : Bi} {x : Str} {p : Pos} {e : Expr} {l : List Expr} {es : Es} {Ws : Rg → (List Rv → Rg → Prop) → Prop} (hX : XOk tb Γ X) (hx : x = b.nm) (hg : glB tb.sc x = true) (ho : es.ok tb (e :: l) = true) (ha : SA (tb.kt X) X C env (e :: l) Ws) :
    SE (tb.kt X) X C env (.Call (.Name x p) (e :: l) [] pos) (fun g Q => Ws g fun rs g1 => b.B rs g1 Q) := by
  subst hx
  obtain ⟨m1, m2, m3⟩ := b.mem
  obtain ⟨h1, es', h2⟩ := Es.head ho
  have hs := starEach_n (env := X.env) (es := l) h1
  have hp := Es.plain (env := X.env) (pos := pos) h2
  have hm := hX.bn _ m1
  cases b
  · exact se_bi call_len_seq (callLen rfl) (hX.glo hg) hm PySem.boot_len ha m3 m2 hs hp
  · exact se_ty call_int1 callInt (hX.glo hg) hm PyProof.Rows.boot_int ha m3 m2 hs hp
  · exact se_bi (call_min2 hX.calm) callMin2 (hX.glo hg) hm PyProof.Rows.boot_min ha m3 m2 hs hp
  · exact se_bi (cr_any hX.calm) callAny (hX.glo hg) hm PyProof.Rows.boot_any ha m3 m2 hs hp
  · exact se_bi (cr_max hX.calm) callMax (hX.glo hg) hm PyProof.Rows.boot_max ha m3 m2 hs hp
  · exact se_ty call_list_of callList (hX.glo hg) hm PyProof.Rows.boot_list ha m3 m2 hs hp
  · exact se_ty call_tuple_of callTup (hX.glo hg) hm PyProof.Rows.boot_tuple ha m3 m2 hs hp
  · exact se_ty call_dictD callDict (hX.glo hg) hm PyProof.Rows.boot_dict ha m3 m2 hs hp
  · exact se_bi cr_sortedI callSort (hX.glo hg) hm PyProof.Rows.boot_sorted ha m3 m2 hs hp
/-- what is walked -/
theorem it_sound {ik : ItK} {tg it : Expr} {Wa Wb : Rg → RQ → Prop} {a b : Ex} (hX : XOk tb Γ X) (sa : ∀ e, a.ok tb e = true → SE (tb.kt X) X C env e Wa) (sb : ∀ e, b.ok tb e = true → SE (tb.kt X) X C env e Wb)
    (h : (match ik with
          | .list => a.ok tb it
          | .r1 => (match it with | .Call (.Name x _) [y] [] _ => decide (x = "range") && glB tb.sc x && nst y && a.ok tb y | _ => false)
          | .r2 => (match it with | .Call (.Name x _) [y, z] [] _ => decide (x = "range") && glB tb.sc x && nst y && nst z && a.ok tb y && b.ok tb z | _ => false)
          | .en => (match it with | .Call (.Name x _) [y] [] _ => decide (x = "enumerate") && glB tb.sc x && isPair tg && nst y && a.ok tb y | _ => false)) = true) :
    SI (tb.kt X) X C env tg it (wIter ik Wa Wb) := by
  cases ik with
  | list => exact si_list (sa it h)
  | r1 =>
    dsimp only at h
    split at h
    · rename_i x p y q
      simp only [Bool.and_eq_true, decide_eq_true_eq] at h
      obtain ⟨⟨⟨h1, h2⟩, h3⟩, h4⟩ := h
      exact si_range1 h1 (hX.glo h2) (hX.bn _ (by rw [h1]; decide +kernel)) (sa y h4) (starEach_n h3)
    · cases h
  | r2 =>
    dsimp only at h
    split at h
    · rename_i x p y z q
      simp only [Bool.and_eq_true, decide_eq_true_eq] at h
      obtain ⟨⟨⟨⟨⟨h1, h2⟩, h3⟩, h4⟩, h5⟩, h6⟩ := h
      exact si_range2 h1 (hX.glo h2) (hX.bn _ (by rw [h1]; decide +kernel)) (sa y h5) (sb z h6) (by rw [starEach_n h3, starEach_n h4]; rfl) (starEach_n h4)
    · cases h
  | en =>
    dsimp only at h
    split at h
    · rename_i x p y q
      simp only [Bool.and_eq_true, decide_eq_true_eq] at h
      obtain ⟨⟨⟨⟨h1, h2⟩, h3⟩, h4⟩, h5⟩ := h
      cases tg <;> first | (simp [isPair] at h3; done) | skip
      exact si_enum h1 (hX.glo h2) (hX.bn _ (by rw [h1]; decide +kernel)) (sa y h5) (starEach_n h4)
    · cases h
theorem tg_sound {T : Tg} {tg : Expr} (hX : XOk tb Γ X) (h : corrTg tb T tg = true) : PG X tg (T.G X.K) := by
  have hN : X.N.Nodup := by rw [hX.N]; exact hX.nd
  cases T with
  | name i =>
    simp only [corrTg] at h
    split at h
    · rename_i x p
      simp only [Bool.and_eq_true, decide_eq_true_eq] at h
      obtain ⟨a, b⟩ := hX.tg h.2
      exact pg_n hN (by rw [hX.N]; exact h.1) a b
    · cases h
  | pair i j =>
    simp only [corrTg] at h
    split at h
    · split at h
      · simp only [Bool.and_eq_true, decide_eq_true_eq] at h
        obtain ⟨⟨⟨h1, h2⟩, h3⟩, h4⟩ := h
        obtain ⟨a, b⟩ := hX.tg h2
        obtain ⟨a', b'⟩ := hX.tg h4
        exact pg_p hX.calm hN (by rw [hX.N]; exact h1) a b (by rw [hX.N]; exact h3) a' b'
      · cases h
    · cases h
theorem comp_own {N : List Str} {own : List Nat} : (own.map fun i => (N.getD i ⟨#[]⟩, i)).map (·.2) = own := by rw [List.map_map]; exact (List.map_congr_left fun _ _ => rfl).trans (List.map_id own)
end
mutual
theorem Ex.sound {Γ : Wd} {C : Ent} : ∀ (m : Ex) {tb : Tbl} {X : Cx} {e : Expr} {env : En}, XOk tb Γ X → m.ok tb e = true → SE (tb.kt X) X C env e (m.W Γ env)
  | .var i, tb, X, e, env, hX, h => by
    simp only [Ex.ok] at h
    split at h
    · simp only [Bool.and_eq_true, decide_eq_true_eq] at h
      obtain ⟨⟨h1, h2⟩, h3⟩ := h
      obtain ⟨d1, d2, _⟩ := okN_d h3
      exact se_var (by rw [hX.N]; exact h1) (hX.vis h2) d1 d2
    · cases h
  | .int n, tb, X, e, env, hX, h => by
    simp only [Ex.ok] at h
    split at h
    · have := beq_iff_eq.mp h; subst this; exact se_int
    · cases h
  | .str k, tb, X, e, env, hX, h => by
    simp only [Ex.ok] at h
    split at h
    · exact se_str (of_decide_eq_true h)
    · cases h
  | .bl b, tb, X, e, env, hX, h => by
    simp only [Ex.ok] at h
    split at h
    · have := beq_iff_eq.mp h; subst this; exact se_bl
    · cases h
  | .non, tb, X, e, env, hX, h => by
    simp only [Ex.ok] at h
    split at h
    · exact se_non
    · cases h
  | .glob k, tb, X, e, env, hX, h => by
    simp only [Ex.ok] at h
    split at h
    · simp only [Bool.and_eq_true, decide_eq_true_eq] at h
      obtain ⟨⟨h1, h2⟩, h3⟩ := h
      obtain ⟨n, t, e1, e2⟩ := hX.gl k _ h1
      intro g Q hq
      obtain ⟨n', e3, q⟩ := hq
      rw [e1] at e3; cases e3
      exact se_glob (hX.glo h2) e2 (okN_d h3).1 g Q q
    · cases h
  | .tup es, tb, X, e, env, hX, h => by
    simp only [Ex.ok] at h
    split at h
    · exact se_tup (Es.sound es hX h)
    · cases h
  | .lst es, tb, X, e, env, hX, h => by
    simp only [Ex.ok] at h
    split at h
    · exact se_lst (Es.sound es hX h)
    · cases h
  | .dic keys es, tb, X, e, env, hX, h => by
    simp only [Ex.ok] at h
    split at h
    · rename_i kl l p
      simp only [Bool.and_eq_true, decide_eq_true_eq, Bool.not_eq_true'] at h
      obtain ⟨⟨⟨⟨h1, h2⟩, h3⟩, h4⟩, h5⟩ := h
      have hp := Es.soundP (C := C) (env := env) (pos := p) es hX (keys := keys) h1 h2 h5
      refine se_dic hX.ks hp ?_ h5 (by intro z; subst z; simp at h3) h4
      clear hp h2 h3 h4 h5
      revert keys
      induction kl with
      | nil => intro keys _; rfl
      | cons a t ih =>
        intro keys h1
        cases keys with
        | nil => simp [keysB] at h1
        | cons k r =>
          simp only [keysB] at h1
          split at h1
          · rename_i e1
            cases e1
            simp only [Bool.and_eq_true] at h1
            rw [List.all_cons, ih r h1.2]; rfl
          · cases h1
    · cases h
  | .bin op a b, tb, X, e, env, hX, h => by
    simp only [Ex.ok] at h
    split at h
    · simp only [Bool.and_eq_true] at h
      obtain ⟨⟨h1, h2⟩, h3⟩ := h
      obtain ⟨r, ho, hB⟩ := BOp.sound (ks := tb.kt X) (X := X) (C := C) (env := env) h1
      exact se_op ho (Ex.sound a hX h2) (Ex.sound b hX h3) hB
    · cases h
  | .neg a, tb, X, e, env, hX, h => by
    simp only [Ex.ok] at h
    split at h
    · exact se_neg (Ex.sound a hX h)
    · cases h
  | .cmp op a b, tb, X, e, env, hX, h => by
    simp only [Ex.ok] at h
    split at h
    · simp only [Bool.and_eq_true] at h
      obtain ⟨⟨⟨h1, h2⟩, h3⟩, h4⟩ := h
      obtain ⟨r, ho, hB⟩ := COp.sound (ks := tb.kt X) (X := X) (C := C) (env := env) hX.ks hX.hu h1
      exact se_cmp ho (marks_n h2) (Ex.sound a hX h3) (Ex.sound b hX h4) hB
    · cases h
  | .chain o1 o2 a b c, tb, X, e, env, hX, h => by
    simp only [Ex.ok] at h
    split at h
    · simp only [Bool.and_eq_true] at h
      obtain ⟨⟨⟨⟨⟨⟨⟨h1, h2⟩, _⟩, _⟩, h3⟩, h4⟩, h5⟩, h6⟩ := h
      obtain ⟨r, ho, hB⟩ := COp.sound (ks := tb.kt X) (X := X) (C := C) (env := env) hX.ks hX.hu h1
      obtain ⟨r', ho', hB'⟩ := COp.sound (ks := tb.kt X) (X := X) (C := C) (env := env) hX.ks hX.hu h2
      exact se_chain ho ho' (Ex.sound a hX h4) (Ex.sound b hX h5) (Ex.sound c hX h6) hB hB' rfl (pe_chain ho ho' pe_w pe_w pe_w (marks_n h3))
    · cases h
  | .one a, tb, X, e, env, hX, h => by
    simp only [Ex.ok] at h
    split at h
    · exact se_one (Ex.sound a hX h)
    · cases h
  | .and a b, tb, X, e, env, hX, h => by
    simp only [Ex.ok] at h
    split at h
    · simp only [Bool.and_eq_true] at h
      exact se_and (Ex.sound a hX h.1) (Ex.sound b hX h.2)
    · cases h
  | .or a b, tb, X, e, env, hX, h => by
    simp only [Ex.ok] at h
    split at h
    · simp only [Bool.and_eq_true] at h
      exact se_or (Ex.sound a hX h.1) (Ex.sound b hX h.2)
    · cases h
  | .not a, tb, X, e, env, hX, h => by
    simp only [Ex.ok] at h
    split at h
    · exact se_not (Ex.sound a hX h)
    · cases h
  | .ix k a b, tb, X, e, env, hX, h => by
    simp only [Ex.ok] at h
    split at h
    · simp only [Bool.and_eq_true] at h
      exact IxK.sound rfl hX.ks hX.hu h.1.1 (Ex.sound a hX h.1.2) (Ex.sound b hX h.2)
    · cases h
  | .slL a hl lo hh hi, tb, X, e, env, hX, h => by
    simp only [Ex.ok] at h
    split at h
    · simp only [Bool.and_eq_true] at h
      obtain ⟨⟨h1, h2⟩, h3⟩ := h
      refine se_slL (Ex.sound a hX h1) (so_part ?_) (so_part ?_)
      · split at h2 <;> first | exact True.intro | exact Ex.sound lo hX h2 | cases h2
      · split at h3 <;> first | exact True.intro | exact Ex.sound hi hX h3 | cases h3
    · cases h
  | .slT a hl lo hh hi, tb, X, e, env, hX, h => by
    simp only [Ex.ok] at h
    split at h
    · simp only [Bool.and_eq_true] at h
      obtain ⟨⟨h1, h2⟩, h3⟩ := h
      refine se_slT (Ex.sound a hX h1) (so_part ?_) (so_part ?_)
      · split at h2 <;> first | exact True.intro | exact Ex.sound lo hX h2 | cases h2
      · split at h3 <;> first | exact True.intro | exact Ex.sound hi hX h3 | cases h3
    · cases h
  | .call f es, tb, X, e, env, hX, h => by
    simp only [Ex.ok] at h
    split at h
    · simp only [Bool.and_eq_true, decide_eq_true_eq] at h
      obtain ⟨⟨⟨h1, h2⟩, h3⟩, h4⟩ := h
      obtain ⟨n1, es', n2⟩ := Es.head h4
      exact se_call (hX.fn f _ h1) (hX.glo h2) (Es.sound es hX h4) (okN_d h3).1 (starEach_n n1) (Es.plain n2)
    · cases h
  | .bi b es, tb, X, e, env, hX, h => by
    simp only [Ex.ok] at h
    split at h
    · simp only [Bool.and_eq_true, decide_eq_true_eq] at h
      obtain ⟨⟨h1, h2⟩, h3⟩ := h
      exact Bi.sound hX h1 h2 h3 (Es.sound es hX h3)
    · cases h
  | .isin a T, tb, X, e, env, hX, h => by
    simp only [Ex.ok] at h
    split at h
    · simp only [Bool.and_eq_true, decide_eq_true_eq] at h
      obtain ⟨⟨⟨⟨⟨h1, h2⟩, h3⟩, h4⟩, h5⟩, h6⟩ := h
      obtain ⟨t1, t2, t3, t4⟩ := ty_boot h4
      exact se_isin (Ex.sound a hX h6) (hX.glo h2) h1 (hX.bn _ (by rw [h1]; decide +kernel)) (hX.glo h3) (hX.bn _ t4) t1 t3 t2 (starEach_n h5)
    · cases h
  | .isin2 a T U, tb, X, e, env, hX, h => by
    simp only [Ex.ok] at h
    split at h
    · simp only [Bool.and_eq_true, decide_eq_true_eq] at h
      obtain ⟨⟨⟨⟨⟨⟨⟨h1, h2⟩, h3⟩, h3'⟩, h4⟩, h4'⟩, h5⟩, h6⟩ := h
      obtain ⟨t1, t2, t3, t4⟩ := ty_boot h4
      obtain ⟨u1, u2, u3, u4⟩ := ty_boot h4'
      exact se_isin2 (Ex.sound a hX h6) (hX.glo h2) h1 (hX.bn _ (by rw [h1]; decide +kernel)) (hX.glo h3) (hX.bn _ t4) t1 t3 t2 (hX.glo h3') (hX.bn _ u4) u1 u3 u2 (starEach_n h5)
    · cases h
  | .app o e1, tb, X, e, env, hX, h => by
    simp only [Ex.ok] at h
    split at h
    · simp only [Bool.and_eq_true, decide_eq_true_eq] at h
      obtain ⟨⟨⟨⟨⟨h1, h2⟩, h3⟩, h4⟩, h5⟩, h6⟩ := h
      subst h1
      exact se_append (Ex.sound o hX h5) (Ex.sound e1 hX h6) (base_n h3) h2 (starEach_n h4)
    · cases h
  | .pop o, tb, X, e, env, hX, h => by
    simp only [Ex.ok] at h
    split at h
    · simp only [Bool.and_eq_true, decide_eq_true_eq] at h
      obtain ⟨⟨⟨h1, h2⟩, h3⟩, h5⟩ := h
      subst h1
      exact se_pop (Ex.sound o hX h5) (base_n h3) h2
    · cases h
  | .cnt o e1, tb, X, e, env, hX, h => by
    simp only [Ex.ok] at h
    split at h
    · simp only [Bool.and_eq_true, decide_eq_true_eq] at h
      obtain ⟨⟨⟨⟨⟨h1, h2⟩, h3⟩, h4⟩, h5⟩, h6⟩ := h
      subst h1
      exact se_count hX.ks hX.hu (Ex.sound o hX h5) (Ex.sound e1 hX h6) (base_n h3) h2 (starEach_n h4)
    · cases h
  | .popAt o e1, tb, X, e, env, hX, h => by
    simp only [Ex.ok] at h
    split at h
    · simp only [Bool.and_eq_true, decide_eq_true_eq] at h
      obtain ⟨⟨⟨⟨⟨h1, h2⟩, h3⟩, h4⟩, h5⟩, h6⟩ := h
      subst h1
      exact se_popAt (Ex.sound o hX h5) (Ex.sound e1 hX h6) (base_n h3) h2 (starEach_n h4)
    · cases h
  | .clr o, tb, X, e, env, hX, h => by
    simp only [Ex.ok] at h
    split at h
    · simp only [Bool.and_eq_true, decide_eq_true_eq] at h
      obtain ⟨⟨⟨h1, h2⟩, h3⟩, h5⟩ := h
      subst h1
      exact se_clear (Ex.sound o hX h5) (base_n h3) h2
    · cases h
  | .comp elt tg ik a b hc c own, tb, X, e, env, hX, h => by
    simp only [Ex.ok] at h
    split at h
    · rename_i el t it ifs scope p
      simp only [Bool.and_eq_true] at h
      obtain ⟨⟨⟨⟨⟨⟨h1, h2⟩, h3⟩, h4⟩, h5⟩, h6⟩, h7⟩ := h
      have hk : scope.kind = .function := (blkOk_by h1).kind
      have hB := fun s H0 Cc cl fp => hX.blk scope hk s H0 Cc cl fp
      have hi : SI (tb.kt X) X C env t it (wIter ik (a.W Γ env) (b.W Γ env)) := it_sound hX (fun e he => Ex.sound a hX he) (fun e he => Ex.sound b hX he) h7
      have hts : ifs.length ≤ 1 ∧ SC (tb.kt X) X C scope ifs (fun env => tstW hc (c.T Γ env)) := by
        split at h6
        · exact ⟨by simp, sc_nil⟩
        · exact ⟨by simp, sc_one fun env s H0 Cc cl fp => Ex.soundT c (tb := tb.blk scope) (hB s H0 Cc cl fp) h6⟩
        · cases h6
      have hp := se_comp (own := own.map fun i => (tb.N.getD i ⟨#[]⟩, i)) (pos := p) hX.calm (by rw [hX.N]; exact hX.nd) hi (by rw [hX.N, hX.sc]; exact blkOk_by h1) (fun s H0 Cc cl fp => tg_sound (hB s H0 Cc cl fp) h2) hts.1 hts.2
        (fun env s H0 Cc cl fp => Ex.sound elt (tb := tb.blk scope) (hB s H0 Cc cl fp) h5) (fun i hi => by rw [comp_own]; exact List.contains_iff_mem.mp (List.all_eq_true.mp h3 i hi)) (folded_n h4)
      rw [comp_own] at hp
      exact hp
    · cases h
  | .frz a, tb, X, e, env, hX, h => se_frz (Ex.sound a hX (by simpa only [Ex.ok] using h))
  | .lrg a, tb, X, e, env, hX, h => by
    simp only [Ex.ok] at h
    split at h
    · simp only [Bool.and_eq_true, decide_eq_true_eq] at h
      obtain ⟨⟨⟨⟨⟨h1, h2⟩, h3⟩, h4⟩, h5⟩, h6⟩ := h
      exact se_lrg hX.calm h1 h2 (hX.glo h3) (hX.bn _ (by rw [h1]; decide +kernel)) (hX.glo h4) (hX.bn _ (by rw [h2]; decide +kernel)) (Ex.sound a hX h6) (starEach_n h5)
    · cases h
  | .lrg2 a b, tb, X, e, env, hX, h => by
    simp only [Ex.ok] at h
    split at h
    · simp only [Bool.and_eq_true, decide_eq_true_eq] at h
      obtain ⟨⟨⟨⟨⟨⟨⟨h1, h2⟩, h3⟩, h4⟩, h5⟩, h6⟩, h7⟩, h8⟩ := h
      exact se_lrg2 hX.calm h1 h2 (hX.glo h3) (hX.bn _ (by rw [h1]; decide +kernel)) (hX.glo h4) (hX.bn _ (by rw [h2]; decide +kernel)) (Ex.sound a hX h7) (Ex.sound b hX h8) (starEach_n h5) (starEach_n h6)
    · cases h
  | .rev a, tb, X, e, env, hX, h => by
    simp only [Ex.ok] at h
    split at h
    · simp only [Bool.and_eq_true, beq_iff_eq] at h
      obtain ⟨h1, h2⟩ := h
      subst h1
      exact se_rev (Ex.sound a hX h2)
    · cases h
  | .tab t a, tb, X, e, env, hX, h => by
    simp only [Ex.ok] at h
    split at h
    · simp only [Bool.and_eq_true, decide_eq_true_eq] at h
      obtain ⟨⟨⟨⟨h1, h2⟩, h3⟩, h4⟩, h5⟩ := h
      exact se_tab (hX.glo h2) (okN_d h3).1 (hX.dt _ _ h1) (plain_ix h4) (Ex.sound a hX h5)
    · cases h
  | .lzip es, tb, X, e, env, hX, h => by
    simp only [Ex.ok] at h
    split at h
    · simp only [Bool.and_eq_true, decide_eq_true_eq] at h
      obtain ⟨⟨⟨⟨h1, h2⟩, h3⟩, h4⟩, h5⟩ := h
      obtain ⟨n1, es', n2⟩ := Es.head h5
      exact se_lzip hX.calm h1 h2 (hX.glo h3) (hX.bn _ (by rw [h1]; decide +kernel)) (hX.glo h4) (hX.bn _ (by rw [h2]; decide +kernel)) (Es.sound es hX h5) (starEach_n n1) (Es.plain n2)
    · cases h
  | .sortk f a, tb, X, e, env, hX, h => by
    simp only [Ex.ok] at h
    split at h
    · simp only [Bool.and_eq_true, decide_eq_true_eq] at h
      obtain ⟨⟨⟨⟨⟨⟨⟨h1, h2⟩, h3⟩, h4⟩, h5⟩, h6⟩, h7⟩, h8⟩ := h
      subst h3
      exact se_sortK h1 hX.hu (hX.bn _ (by rw [h1]; decide +kernel)) (hX.glo h2) (hX.glo h5) (okN_d h6).1 (hX.kf _ _ h4) (Ex.sound a hX h8) (starEach_n h7)
    · cases h
theorem Ex.soundT {Γ : Wd} {C : Ent} : ∀ (m : Ex) {tb : Tbl} {X : Cx} {e : Expr} {env : En}, XOk tb Γ X → m.ok tb e = true → ST (tb.kt X) X C env e (m.T Γ env)
  | .one a, tb, X, e, env, hX, h => by
    simp only [Ex.ok] at h
    split at h
    · rename_i op x p
      exact st_w (sw_one (by cases op <;> simp) (Ex.soundT a hX h))
    · cases h
  | .and a b, tb, X, e, env, hX, h => st_w (Ex.soundW (.and a b) hX rfl h)
  | .or a b, tb, X, e, env, hX, h => st_w (Ex.soundW (.or a b) hX rfl h)
  | .not a, tb, X, e, env, hX, h => by
    simp only [Ex.ok] at h
    split at h
    · exact st_not (Ex.soundT a hX h)
    · cases h
  | .cmp op a b, tb, X, e, env, hX, h => by
    simp only [Ex.ok] at h
    split at h
    · simp only [Bool.and_eq_true] at h
      obtain ⟨⟨⟨h1, h2⟩, h3⟩, h4⟩ := h
      obtain ⟨r, ho, hB⟩ := COp.sound (ks := tb.kt X) (X := X) (C := C) (env := env) hX.ks hX.hu h1
      exact st_cmp ho (marks_n h2) (Ex.sound a hX h3) (Ex.sound b hX h4) hB
    · cases h
  | .chain o1 o2 a b c, tb, X, e, env, hX, h => by
    simp only [Ex.ok] at h
    split at h
    · simp only [Bool.and_eq_true] at h
      obtain ⟨⟨⟨⟨⟨⟨⟨h1, h2⟩, _⟩, _⟩, h3⟩, h4⟩, h5⟩, h6⟩ := h
      obtain ⟨r, ho, hB⟩ := COp.sound (ks := tb.kt X) (X := X) (C := C) (env := env) hX.ks hX.hu h1
      obtain ⟨r', ho', hB'⟩ := COp.sound (ks := tb.kt X) (X := X) (C := C) (env := env) hX.ks hX.hu h2
      exact st_chain ho ho' (Ex.sound a hX h4) (Ex.sound b hX h5) (Ex.sound c hX h6) hB hB' (marks_n h3)
    · cases h
  | .var i, tb, X, e, env, hX, h => by
    have hs := Ex.sound (C := C) (env := env) (.var i) hX h
    simp only [Ex.ok] at h
    split at h
    · exact st_val hs fun _ => rfl
    · cases h
  | .call f es, tb, X, e, env, hX, h => by
    have hs := Ex.sound (C := C) (env := env) (.call f es) hX h
    simp only [Ex.ok] at h
    split at h
    · exact st_val hs fun _ => rfl
    · cases h
  | .bi b es, tb, X, e, env, hX, h => by
    have hs := Ex.sound (C := C) (env := env) (.bi b es) hX h
    simp only [Ex.ok] at h
    split at h
    · exact st_val hs fun _ => rfl
    · cases h
  | .isin a T, tb, X, e, env, hX, h => by
    have hs := Ex.sound (C := C) (env := env) (.isin a T) hX h
    simp only [Ex.ok] at h
    split at h
    · exact st_val hs fun _ => rfl
    · cases h
  | .isin2 a T U, tb, X, e, env, hX, h => by
    have hs := Ex.sound (C := C) (env := env) (.isin2 a T U) hX h
    simp only [Ex.ok] at h
    split at h
    · exact st_val hs fun _ => rfl
    · cases h
  | .ix k a b, tb, X, e, env, hX, h => by
    have hs := Ex.sound (C := C) (env := env) (.ix k a b) hX h
    simp only [Ex.ok] at h
    split at h
    · exact st_val hs fun _ => rfl
    · cases h
  | .int _, _, _, _, _, _, _ => fun g Q hq => hq.elim
  | .str _, _, _, _, _, _, _ => fun g Q hq => hq.elim
  | .bl _, _, _, _, _, _, _ => fun g Q hq => hq.elim
  | .non, _, _, _, _, _, _ => fun g Q hq => hq.elim
  | .glob _, _, _, _, _, _, _ => fun g Q hq => hq.elim
  | .tup _, _, _, _, _, _, _ => fun g Q hq => hq.elim
  | .lst _, _, _, _, _, _, _ => fun g Q hq => hq.elim
  | .dic _ _, _, _, _, _, _, _ => fun g Q hq => hq.elim
  | .bin _ _ _, _, _, _, _, _, _ => fun g Q hq => hq.elim
  | .neg _, _, _, _, _, _, _ => fun g Q hq => hq.elim
  | .slL _ _ _ _ _, _, _, _, _, _, _ => fun g Q hq => hq.elim
  | .slT _ _ _ _ _, _, _, _, _, _, _ => fun g Q hq => hq.elim
  | .app _ _, _, _, _, _, _, _ => fun g Q hq => hq.elim
  | .pop _, _, _, _, _, _, _ => fun g Q hq => hq.elim
  | .popAt _ _, _, _, _, _, _, _ => fun g Q hq => hq.elim
  | .cnt _ _, _, _, _, _, _, _ => fun g Q hq => hq.elim
  | .clr _, _, _, _, _, _, _ => fun g Q hq => hq.elim
  | .comp _ _ _ _ _ _ _ _, _, _, _, _, _, _ => fun g Q hq => hq.elim
  | .frz _, _, _, _, _, _, _ => fun g Q hq => hq.elim
  | .lrg _, _, _, _, _, _, _ => fun g Q hq => hq.elim
  | .lrg2 _ _, _, _, _, _, _, _ => fun g Q hq => hq.elim
  | .rev _, _, _, _, _, _, _ => fun g Q hq => hq.elim
  | .tab _ _, _, _, _, _, _, _ => fun g Q hq => hq.elim
  | .lzip _, _, _, _, _, _, _ => fun g Q hq => hq.elim
  | .sortk _ _, _, _, _, _, _, _ => fun g Q hq => hq.elim
theorem Ex.soundW {Γ : Wd} {C : Ent} : ∀ (m : Ex) {tb : Tbl} {X : Cx} {e : Expr} {env : En}, XOk tb Γ X → (match m with | .and _ _ => true | .or _ _ => true | .one _ => true | _ => false) = true → m.ok tb e = true → SW (tb.kt X) X C env e (m.T Γ env)
  | .and a b, tb, X, e, env, hX, _, h => by
    simp only [Ex.ok] at h
    split at h
    · simp only [Bool.and_eq_true] at h
      refine sw_and (Ex.soundT a hX h.1) ?_
      cases b with
      | and b1 b2 => exact Ex.soundW (.and b1 b2) hX rfl h.2
      | one b1 => exact Ex.soundW (.one b1) hX rfl h.2
      | frz b1 => exact fun g Q hq => hq.elim
      | _ => simp [Ex.ok] at h
    · cases h
  | .or a b, tb, X, e, env, hX, _, h => by
    simp only [Ex.ok] at h
    split at h
    · simp only [Bool.and_eq_true] at h
      refine sw_or (Ex.soundT a hX h.1) ?_
      cases b with
      | or b1 b2 => exact Ex.soundW (.or b1 b2) hX rfl h.2
      | one b1 => exact Ex.soundW (.one b1) hX rfl h.2
      | frz b1 => exact fun g Q hq => hq.elim
      | _ => simp [Ex.ok] at h
    · cases h
  | .one a, tb, X, e, env, hX, _, h => by
    simp only [Ex.ok] at h
    split at h
    · rename_i op x p
      exact sw_one (by cases op <;> simp) (Ex.soundT a hX h)
    · cases h
  | .not _, _, _, _, _, _, hh, _ => by cases hh
  | .cmp _ _ _, _, _, _, _, _, hh, _ => by cases hh
  | .chain _ _ _ _ _, _, _, _, _, _, hh, _ => by cases hh
  | .var _, _, _, _, _, _, hh, _ => by cases hh
  | .call _ _, _, _, _, _, _, hh, _ => by cases hh
  | .bi _ _, _, _, _, _, _, hh, _ => by cases hh
  | .isin _ _, _, _, _, _, _, hh, _ => by cases hh
  | .isin2 _ _ _, _, _, _, _, _, hh, _ => by cases hh
  | .ix _ _ _, _, _, _, _, _, hh, _ => by cases hh
  | .int _, _, _, _, _, _, hh, _ => by cases hh
  | .str _, _, _, _, _, _, hh, _ => by cases hh
  | .bl _, _, _, _, _, _, hh, _ => by cases hh
  | .non, _, _, _, _, _, hh, _ => by cases hh
  | .glob _, _, _, _, _, _, hh, _ => by cases hh
  | .tup _, _, _, _, _, _, hh, _ => by cases hh
  | .lst _, _, _, _, _, _, hh, _ => by cases hh
  | .dic _ _, _, _, _, _, _, hh, _ => by cases hh
  | .bin _ _ _, _, _, _, _, _, hh, _ => by cases hh
  | .neg _, _, _, _, _, _, hh, _ => by cases hh
  | .slL _ _ _ _ _, _, _, _, _, _, hh, _ => by cases hh
  | .slT _ _ _ _ _, _, _, _, _, _, hh, _ => by cases hh
  | .app _ _, _, _, _, _, _, hh, _ => by cases hh
  | .pop _, _, _, _, _, _, hh, _ => by cases hh
  | .popAt _ _, _, _, _, _, _, hh, _ => by cases hh
  | .cnt _ _, _, _, _, _, _, hh, _ => by cases hh
  | .clr _, _, _, _, _, _, hh, _ => by cases hh
  | .comp _ _ _ _ _ _ _ _, _, _, _, _, _, hh, _ => by cases hh
  | .frz _, _, _, _, _, _, hh, _ => by cases hh
  | .lrg _, _, _, _, _, _, hh, _ => by cases hh
  | .lrg2 _ _, _, _, _, _, _, hh, _ => by cases hh
  | .rev _, _, _, _, _, _, hh, _ => by cases hh
  | .tab _ _, _, _, _, _, _, hh, _ => by cases hh
  | .lzip _, _, _, _, _, _, hh, _ => by cases hh
  | .sortk _ _, _, _, _, _, _, hh, _ => by cases hh
theorem Es.sound {Γ : Wd} {C : Ent} : ∀ (m : Es) {tb : Tbl} {X : Cx} {l : List Expr} {env : En}, XOk tb Γ X → m.ok tb l = true → SA (tb.kt X) X C env l (m.W Γ env)
  | .nil, tb, X, l, env, hX, h => by
    cases l with
    | nil => exact sa_nil
    | cons _ _ => simp [Es.ok] at h
  | .cons e es, tb, X, l, env, hX, h => by
    cases l with
    | nil => simp [Es.ok] at h
    | cons x r =>
      simp only [Es.ok, Bool.and_eq_true] at h
      exact sa_cons (Ex.sound e hX h.1.2) (Es.sound es hX h.2) (starEach_n h.1.1)
theorem Es.soundP {Γ : Wd} {C : Ent} : ∀ (m : Es) {tb : Tbl} {X : Cx} {l : List Expr} {env : En} {pos : Pos} {keys : List Nat} {kl : List (Option Expr)}, XOk tb Γ X → keysB tb.ks keys kl = true → m.ok tb l = true → kl.length = l.length →
    SPr (tb.kt X) X C env pos kl l (fun g Q => m.W Γ env g fun rs g2 => Q (keys.zip rs) g2)
  | .nil, tb, X, l, env, pos, keys, kl, hX, hk, h, hl => by
    cases l with
    | nil =>
      cases kl with
      | nil =>
        cases keys with
        | nil => exact spr_nil
        | cons _ _ => simp [keysB] at hk
      | cons _ _ => simp at hl
    | cons _ _ => simp [Es.ok] at h
  | .cons e es, tb, X, l, env, pos, keys, kl, hX, hk, h, hl => by
    cases l with
    | nil => simp [Es.ok] at h
    | cons x r =>
      simp only [Es.ok, Bool.and_eq_true] at h
      cases kl with
      | nil => simp at hl
      | cons a t =>
        cases keys with
        | nil => simp [keysB] at hk
        | cons k kr =>
          simp only [keysB] at hk
          split at hk
          · rename_i e1
            cases e1
            simp only [Bool.and_eq_true, decide_eq_true_eq] at hk
            exact spr_cons hk.1 (Ex.sound e hX h.1.2) (Es.soundP es hX hk.2 h.2 (by simpa using hl))
          · cases hk
end
end DW

/-! ## DW12.lean -/
set_option Elab.async false
set_option linter.all false
set_option maxRecDepth 100000
set_option maxHeartbeats 4000000
set_option autoImplicit false
/-! DW12: statements are sound; a def by its mini text. -/
namespace DW
open PySem PySem.Spec L2
open PyProof.Rows hiding St

theorem swaps_cell {elt : Expr} {gs : List Comprehension} {scope : Scope} {pos py : Pos} {y : Str} {l : Nat} {env : Env} (hy : env.scope.names.lookup y = some .cell) : swapsWith (.ListComp elt gs scope pos) (some (.Name y py)) l env = pure false := by
  have ky : env.kindOf y = some .cell := hy
  unfold swapsWith
  simp only [ky]
  have : ((some NameKind.cell == some NameKind.local) : Bool) = false := by decide
  rw [this]
  simp
mutual
theorem Sm.sound {C : Ent} {cv : Nat → Value} : ∀ (m : Sm) {Γ : Wd} {tb : Tbl} {X : Cx} {Z : XZ} {st : Stmt}, XOk tb Γ X → XHot tb Γ X cv Z → m.ok tb st = true → SS (tb.kt X) X C Z st (m.W Γ)
  | .set i e, Γ, tb, X, Z, st, hX, hH, h => by
    simp only [Sm.ok] at h
    split at h
    · rename_i x px v p
      simp only [Bool.and_eq_true, decide_eq_true_eq] at h
      obtain ⟨⟨⟨h1, h2⟩, h3⟩, h4⟩ := h
      obtain ⟨a, b⟩ := hX.tg h2
      refine ss_set (by rw [hX.N]; exact hX.nd) (by rw [hX.N]; exact h1) a (fun env => Ex.sound e hX h4) ?_ b
      simp only [Bool.or_eq_true, Bool.and_eq_true] at h3
      rcases h3 with h3 | ⟨h3, h5⟩
      · exact swaps_n h3
      · cases v <;> first | (simp [isLC] at h3; done) | skip
        refine swaps_cell ?_
        rw [hX.sc]
        split at h5
        · assumption
        · cases h5
    · cases h
  | .setC i e, Γ, tb, X, Z, st, hX, hH, h => by
    simp only [Sm.ok] at h
    split at h
    · rename_i x px v p
      split at h
      · rename_i el gens scope lp
        simp only [Bool.and_eq_true, decide_eq_true_eq, Bool.not_eq_true'] at h
        obtain ⟨⟨⟨⟨⟨h0, h1⟩, h2⟩, h3⟩, h4⟩, h5⟩ := h
        have hl : tb.sc.names.lookup x = some .local := by
          split at h2
          · assumption
          · cases h2
        cases e <;> first | (simp [isComp] at h0; done) | skip
        rename_i elt tg ik a b hc c own
        simp only [Ex.ok] at h5
        split at h5
        · rename_i e0 el2 t it ifs scope2 p' heq
          cases heq
          simp only [Bool.and_eq_true] at h5
          obtain ⟨⟨⟨⟨⟨⟨g1, g2⟩, g3⟩, g4⟩, g5⟩, g6⟩, g7⟩ := h5
          have hk : scope.kind = .function := (blkOk_by g1).kind
          have hB := fun s H0 Cc cl fp => hX.blk scope hk s H0 Cc cl fp
          have hi : ∀ env, SI (tb.kt X) X C env t it (wIter ik (a.W Γ env) (b.W Γ env)) := fun env => it_sound hX (fun e he => Ex.sound a hX he) (fun e he => Ex.sound b hX he) g7
          have hts : ifs.length ≤ 1 ∧ SC (tb.kt X) X C scope ifs (fun env => tstW hc (c.T Γ env)) := by
            split at g6
            · exact ⟨by simp, sc_nil⟩
            · exact ⟨by simp, sc_one fun env s H0 Cc cl fp => Ex.soundT c (tb := tb.blk scope) (hB s H0 Cc cl fp) g6⟩
            · cases g6
          have hp := ss_setC (Z := Z) (own := own.map fun i => (tb.N.getD i ⟨#[]⟩, i)) (pos := lp) (spos := p) (i := i) (y := x) (py := px) hX.calm (by rw [hX.N]; exact hX.nd) (by rw [hX.N]; exact h1) (by rw [hX.sc]; exact hl)
            (sw_true (by rw [hX.sc]; exact hX.kind) (by rw [hX.sc]; exact hl) h3 h4) hi (by rw [hX.N, hX.sc]; exact blkOk_by g1) (fun s H0 Cc cl fp => tg_sound (hB s H0 Cc cl fp) g2) hts.1 hts.2
            (fun env s H0 Cc cl fp => Ex.sound elt (tb := tb.blk scope) (hB s H0 Cc cl fp) g5) (fun i hi => by rw [comp_own]; exact List.contains_iff_mem.mp (List.all_eq_true.mp g3 i hi)) (folded_n g4)
          rw [comp_own] at hp
          exact hp
        · cases h5
      · cases h
    · cases h
  | .setIx a b e, Γ, tb, X, Z, st, hX, hH, h => by
    simp only [Sm.ok] at h
    split at h
    · rename_i x y p2 v p
      simp only [Bool.and_eq_true] at h
      obtain ⟨⟨⟨⟨h1, h2⟩, h3⟩, h4⟩, h5⟩ := h
      exact ss_setIx (fun env => Ex.sound e hX h5) (fun env => Ex.sound a hX h3) (fun env => Ex.sound b hX h4) (show swapsWith v (some (.Subscript x y p2)) p.line X.env = pure false from swaps_n h1) rfl rfl (assign_n h2)
    · cases h
  | .setKey a b e, Γ, tb, X, Z, st, hX, hH, h => by
    simp only [Sm.ok] at h
    split at h
    · rename_i x y p2 v p
      simp only [Bool.and_eq_true] at h
      obtain ⟨⟨⟨⟨h1, h2⟩, h3⟩, h4⟩, h5⟩ := h
      have hu := hX.hu
      exact ss_setKey hX.ks (by omega) (fun env => Ex.sound e hX h5) (fun env => Ex.sound a hX h3) (fun env => Ex.sound b hX h4) (swaps_n h1)
    · cases h
  | .expr e, Γ, tb, X, Z, st, hX, hH, h => by
    simp only [Sm.ok] at h
    split at h
    · simp only [Bool.and_eq_true] at h
      exact ss_expr (fun env => Ex.sound e hX h.2) (swaps_n h.1)
    · cases h
  | .ret e, Γ, tb, X, Z, st, hX, hH, h => by
    simp only [Sm.ok] at h
    split at h
    · exact ss_ret fun env => Ex.sound e hX h
    · cases h
  | .ite c a b, Γ, tb, X, Z, st, hX, hH, h => by
    simp only [Sm.ok] at h
    split at h
    · simp only [Bool.and_eq_true] at h
      exact ss_if (fun env => Ex.soundT c hX h.1.1) (Ss.sound a hX hH h.1.2) (Ss.sound b hX hH h.2)
    · cases h
  | .for_ tg ik a b body, Γ, tb, X, Z, st, hX, hH, h => by
    simp only [Sm.ok] at h
    split at h
    · simp only [Bool.and_eq_true] at h
      obtain ⟨⟨⟨h1, h2⟩, h3⟩, h4⟩ := h
      exact ss_for hX.pass hX.calm (fun env => it_sound hX (fun e he => Ex.sound a hX he) (fun e he => Ex.sound b hX he) h4) (tg_sound hX h1) (Ss.sound body hX hH h3) (folded_n h2)
    · cases h
  | .while_ c body, Γ, tb, X, Z, st, hX, hH, h => by
    simp only [Sm.ok] at h
    split at h
    · simp only [Bool.and_eq_true] at h
      exact ss_while hX.pass (fun env => Ex.soundT c hX h.1) (Ss.sound body hX hH h.2)
    · cases h
  | .never, Γ, tb, X, Z, st, hX, hH, h => ss_never
  | .pass, Γ, tb, X, Z, st, hX, hH, h => by
    simp only [Sm.ok] at h
    split at h
    · exact ss_pass
    · cases h
  | .hset i f es, Γ, tb, X, Z, st, hX, hH, h => by
    simp only [Sm.ok] at h
    split at h
    · simp only [Bool.and_eq_true, decide_eq_true_eq] at h
      obtain ⟨⟨⟨⟨⟨h1, h2⟩, h3⟩, h4⟩, h5⟩, h6⟩ := h
      obtain ⟨n1, es', n2⟩ := Es.head h6
      obtain ⟨a, b⟩ := hX.tg h2
      rw [show (Sm.hset i f es).W Γ = fun env g N R => es.W Γ env g fun rs g1 => Γ.fx f rs g1 (fun r g2 => N (env.set i (some r)) g2) Z.ex by rw [hH.ex]; rfl]
      exact ss_hset hH.tk (hH.fx _ _ h3) (hX.glo h4) (fun env => Es.sound es hX h6) (okN_d h5).1 (starEach_n n1) (Es.plain n2) (by rw [hX.N]; exact hX.nd) (by rw [hX.N]; exact h1) a rfl b
    · cases h
  | .hexpr f es, Γ, tb, X, Z, st, hX, hH, h => by
    simp only [Sm.ok] at h
    split at h
    · simp only [Bool.and_eq_true, decide_eq_true_eq] at h
      obtain ⟨⟨⟨h3, h4⟩, h5⟩, h6⟩ := h
      obtain ⟨n1, es', n2⟩ := Es.head h6
      rw [show (Sm.hexpr f es).W Γ = fun env g N R => es.W Γ env g fun rs g1 => Γ.fx f rs g1 (fun r g2 => N env g2) Z.ex by rw [hH.ex]; rfl]
      exact ss_hexpr hH.tk (hH.fx _ _ h3) (hX.glo h4) (fun env => Es.sound es hX h6) (okN_d h5).1 (starEach_n n1) (Es.plain n2) rfl
    · cases h
  | .rais c, Γ, tb, X, Z, st, hX, hH, h => by
    simp only [Sm.ok] at h
    split at h
    · simp only [Bool.and_eq_true, decide_eq_true_eq] at h
      obtain ⟨⟨h1, h2⟩, h3⟩ := h
      rw [show (Sm.rais c).W Γ = fun env g N R => Z.ex c g by rw [hH.ex]; rfl]
      exact ss_raise hX.calm hH.tk (hH.xc _ _ h1) (hX.glo h2) (okN_d h3).1
    · cases h
  | .try_ i body n, Γ, tb, X, Z, st, hX, hH, h => by
    simp only [Sm.ok] at h
    split at h
    · rename_i bd x p1 y b0 sui p2 p3
      simp only [Bool.and_eq_true, decide_eq_true_eq] at h
      obtain ⟨⟨⟨⟨⟨h1, h2⟩, h3⟩, h4⟩, h5⟩, h6⟩ := h
      subst h1
      have hl : tb.sc.names.lookup y = some .local := by
        split at h4
        · assumption
        · cases h4
      obtain ⟨q1, q2, cN, q3, q4⟩ := hH.su n i y b0 sui h5 h3
      refine ss_try (Wb := fun ex => body.W { Γ with ex := ex }) q1 q2 (by rw [hX.N]; exact hX.nd) (by rw [hX.N]; exact h3) (by show X.env.scope.names.lookup y = _; rw [hX.sc]; exact hl) (q3 (hX.glo h2)) (fun pn xe Z' tk hp => ?_) q4
      exact Ss.sound body (X := X.tr pn xe) (tb := { tb with su := fun _ _ _ => false }) (Γ := { Γ with ex := Z'.ex }) ⟨hX.N, hX.sc, hX.nd, hX.kind, hX.calm, hX.hu, hX.ks, hX.top, hX.bn, fun i x e => ⟨(hX.fn i x e).mono, (hX.fn i x e).fn⟩, hX.gl, hX.dt, fun i x e => ⟨(hX.kf i x e).fn⟩, hp⟩
        ⟨rfl, tk, fun i x e => ⟨(hH.fx i x e).mono, (hH.fx i x e).fn⟩, fun i x e => ⟨(hH.xc i x e).at_⟩, fun _ _ _ _ _ z => by cases z⟩ h6
    · cases h
  | .copy ik ia ib, Γ, tb, X, Z, st, hX, hH, h => by
    simp only [Sm.ok] at h
    split at h
    · simp only [Bool.and_eq_true, decide_eq_true_eq] at h
      obtain ⟨⟨⟨⟨⟨⟨⟨⟨⟨⟨⟨⟨h1, h2⟩, h3⟩, h4⟩, h5⟩, h6⟩, h7⟩, h8⟩, h9⟩, h10⟩, h11⟩, h12⟩, h13⟩ := h
      subst h1
      subst h2
      subst h3
      obtain ⟨a, b⟩ := hX.tg h7
      have hu := hX.hu
      have d1 := okN_d h11
      have d2 := okN_d h12
      have d3 := okN_d h13
      exact ss_copy hX.ks (by omega) hX.pass hX.calm (by rw [hX.N]; exact hX.nd) (by rw [hX.N]; exact h4) a b (hX.vis h8) ⟨d1.1, d1.2.1⟩ (by rw [hX.N]; exact h5) (hX.vis h9) ⟨d2.1, d2.2.1⟩ (by rw [hX.N]; exact h6) (hX.vis h10) ⟨d3.1, d3.2.1⟩
    · cases h
theorem Ss.sound {C : Ent} {cv : Nat → Value} : ∀ (m : Ss) {Γ : Wd} {tb : Tbl} {X : Cx} {Z : XZ} {sts : List Stmt}, XOk tb Γ X → XHot tb Γ X cv Z → m.ok tb sts = true → SB (tb.kt X) X C Z sts (m.W Γ)
  | .nil, Γ, tb, X, Z, sts, hX, hH, h => by
    cases sts with
    | nil => exact sb_nil
    | cons _ _ => simp [Ss.ok] at h
  | .cons s ss, Γ, tb, X, Z, sts, hX, hH, h => by
    cases sts with
    | nil => simp [Ss.ok] at h
    | cons x r =>
      simp only [Ss.ok, Bool.and_eq_true] at h
      exact sb_cons (W := s.W Γ) (W' := ss.W Γ) (Sm.sound s hX hH h.1) (Ss.sound ss hX hH h.2)
end
theorem hu65 {k : Nat} {A : Around} (hr : Room k A) : A.units + 65 < cLine := by have := hr.un; omega
abbrev bnL : List Str := ["len", "isinstance", "int", "bool", "str", "tuple", "list", "range", "min", "max", "any", "enumerate", "zip", "dict", "sorted"]
/-- the module's facts that every def's context needs -/
structure MOk (ks : List Str) (fn : List Str) (gl : List (Str × Int)) (dt : List Str) (kf : List Str) (Γ : Wd) (P : Program) (w : World) (K : PySem.W.Frag) (mg : Str → Option Value) (base : Heap) (k : Nat) : Prop where
  kso : KsOk ⟨ks, K⟩
  bn : ∀ x ∈ (["len", "isinstance", "int", "bool", "str", "tuple", "list", "range", "min", "max", "any", "enumerate", "zip", "dict", "sorted"] : List Str), mg x = none
  gl : ∀ (i : Nat) (x : Str), (gl[i]?).map (·.1) = some x → ∃ n t, Γ.gl[i]? = some n ∧ mg x = some (.int n t)
  dt : ∀ (i : Nat) (x : Str), dt[i]? = some x → ∃ p : Addr, mg x = some (.ref p) ∧ ∀ k v, (Γ.dt.getD i []).lookup k = some v → ∀ kx, ks[k]? = some kx → ∃ vx, ks[v]? = some vx ∧ KDct K w p kx (.str vx)
  fn : ∀ (i : Nat) (x : Str), fn[i]? = some x → (∀ rs g (P P' : RQ), (∀ r g', P r g' → P' r g') → Γ.fn i rs g P → Γ.fn i rs g P') ∧
    ∃ (fa : Addr) (fd : FuncData) (j : Nat) (ps : List Str), mg x = some (.ref fa) ∧ PySem.W.keepIn K (.ref fa) = true ∧ Binds K fd ps [] ∧ j ≤ k ∧ FnOk P w K mg base CX0 j fa fd ps (PSpD ⟨ks, K⟩ (Γ.fn i))
  kf : ∀ (i : Nat) (x : Str), kf[i]? = some x → ∃ fa : Addr, mg x = some (.ref fa) ∧ KeyFst P w base fa
/-- .. and where exceptions are raised -/
structure MHot (ks : List Str) (cv : Nat → Value) (fx xc : List Str) (su : Nat → Str → List Stmt → Bool) (N : List Str) (sc : Scope) (Γ : Wd) (P : Program) (w : World) (K : PySem.W.Frag) (mg : Str → Option Value) (base : Heap) (k : Nat) : Prop where
  fx : ∀ (i : Nat) (x : Str), fx[i]? = some x → (∀ rs g (P P' : RQ) (E E' : XQ), (∀ r g', P r g' → P' r g') → (∀ c g', E c g' → E' c g') → Γ.fx i rs g P E → Γ.fx i rs g P' E') ∧
    ∃ (fa : Addr) (fd : FuncData) (j : Nat) (ps : List Str), mg x = some (.ref fa) ∧ PySem.W.keepIn K (.ref fa) = true ∧ Binds K fd ps [] ∧ j ≤ k ∧ FnOk P w K mg base (L2N.CX P w) j fa fd ps (PSpX ⟨ks, K⟩ cv (Γ.fx i))
  xc : ∀ (c : Nat) (x : Str), xc[c]? = some x → ∃ a : Addr, cv c = .ref a ∧ mg x = some (.ref a) ∧ PySem.W.excIn K a [.type "ValueError", .type "Exception", .type "BaseException", .type "object"] "ValueError.__new__" = true ∧ PySem.W.keepIn K (.ref a) = true ∧ PySem.W.subIn K (.ref a) (.type "BaseException") = some true ∧ PySem.W.typeIn K (.ref a) = some (.type "type")
  su : ∀ (s i : Nat) (n : Str) (b0 : Stmt) (sui : List Stmt), su s n (b0 :: sui) = true → N[i]? = some n → ∃ cN, mg "TowerError" = some cN ∧ ∀ X : Cx, X.prog = P → X.w = w → X.K = K → X.mg = mg → X.base = base → X.N = N → X.env.scope = sc → Room k X.A → X.stack = X.env :: X.outer → X.env.frame = some X.env.locals → SuiteOk X cv cN i (b0 :: sui) (Γ.su s)
theorem Names.of {X : Cx} {cN : Value} (h : X.mg "TowerError" = some cN) (g : Gl X "TowerError") : Names X "TowerError" cN := ⟨g, by decide, .inl h⟩
theorem xhot_none {tb : Tbl} {Γ : Wd} {X : Cx} {cv : Nat → Value} (h1 : tb.fx = []) (h2 : tb.xc = []) (h3 : tb.su = fun _ _ _ => false) (h4 : Γ.ex = fun _ _ => False) : XHot tb Γ X cv Z0 :=
  ⟨h4.symm, tk0.imp fun cls d σ H ⟨c, _, _, z⟩ => z, fun i x e => by rw [h1] at e; simp at e, fun i x e => by rw [h2] at e; simp at e, fun s i n b0 sui e => by rw [h3] at e; cases e⟩
/-- THE RULE: a def of the text keeps its promise if its mini text's reading does -/
theorem fn_mini {P : Program} {w : World} {K : PySem.W.Frag} {mg : Str → Option Value} {base : Heap} {x qual : Str} {st : Stmt} {f : Addr} {fd : FuncData} {N ps ks fn kf fx xc : List Str} {gl : List (Str × Int)} {dt : List Str} {su : Nat → Str → List Stmt → Bool} {cv : Nat → Value} {Γ : Wd} {k : Nat} {S : SpD} (m : Ss)
    (Fn : Fun K x qual st f fd) (Sc : FnScope N ps (defScope st)) (M : MOk ks fn gl dt kf Γ P w K mg base k) (MH : MHot ks cv fx xc su N (defScope st) Γ P w K mg base k) (he : Γ.ex = fun _ _ => False) (hm : m.ok ⟨N, defScope st, ks, fn, gl, dt, true, kf, fx, xc, su⟩ (defBody st) = true)
    (hlen : ∀ rs g Q, S rs g Q → rs.length = ps.length)
    (hS : ∀ rs g Q, S rs g Q → m.W Γ (rs.map some ++ List.replicate (N.length - rs.length) none) g (fun _ g' => Fin g Q (.dat .non) g') (Fin g Q)) :
    FnOk P w K mg base CX0 (k + 1) f fd ps (PSpD ⟨ks, K⟩ S) := by
  have hN : ps.length ≤ N.length := by have := congrArg List.length Sc.pre; rw [List.length_take] at this; omega
  refine fn_ok (W := m.W Γ) Fn Sc hlen hN (fun C cdv A outer s H E hr => ?_) hS
  refine Ss.sound m (cv := cv) (X := (cxOf CX0 P w K mg base N qual (defScope st) f cdv A outer s H E).nox) (Γ := Γ) (tb := ⟨N, defScope st, ks, fn, gl, dt, true, kf, fx, xc, su⟩)
    ⟨rfl, rfl, Sc.nd, Sc.kind, rfl, hu65 hr, M.kso, fun _ _ => rfl, M.bn, fun i y e => ?_, M.gl, M.dt, fun i y e => ?_, PassesOwn.never⟩ ⟨he.symm, tk0.imp fun cls d σ H ⟨c, _, _, z⟩ => z, fun i y e => ?_, fun i y e => ?_, fun s i n b0 sui e1 e2 => ?_⟩ hm
  · obtain ⟨h1, fa, fd', j, ps', h2, h3, h4, h5, h6⟩ := M.fn i y e
    exact ⟨h1, fa, fd', j, ps', h2, h3, h4, hr.mono h5, h6⟩
  · obtain ⟨fa, h1, h2⟩ := M.kf i y e
    exact ⟨fa, h1, h2, by have := hr.dp; show (A.deeper (envOfC qual (defScope st) s.heap.objs.size f cdv)).depth + 5 < recursionLimit; omega⟩
  · obtain ⟨h1, fa, fd', j, ps', h2, h3, h4, h5, h6⟩ := MH.fx i y e
    exact ⟨h1, fa, fd', j, ps', h2, h3, h4, hr.mono h5, h6⟩
  · obtain ⟨a, h1, h2, h3, h4, h5, h6⟩ := MH.xc i y e
    exact ⟨a, h1, h2, h3, h4, raises_own h5 h6⟩
  · obtain ⟨cN, h1, h2⟩ := MH.su s i n b0 sui e1 e2
    exact ⟨rfl, rfl, cN, Names.of h1, h2 _ rfl rfl rfl rfl rfl rfl rfl hr rfl rfl⟩
/-- .. that may raise -/
theorem fn_miniX {P : Program} {w : World} {K : PySem.W.Frag} {mg : Str → Option Value} {base : Heap} {x qual : Str} {st : Stmt} {f : Addr} {fd : FuncData} {N ps ks fn kf fx xc : List Str} {gl : List (Str × Int)} {dt : List Str} {cv : Nat → Value} {Γ : XQ → Wd} {k : Nat} {S : SpX} (m : Ss)
    (Fn : Fun K x qual st f fd) (Sc : FnScope N ps (defScope st)) (M : ∀ ex, MOk ks fn gl dt kf (Γ ex) P w K mg base k) (MH : ∀ ex, MHot ks cv fx xc (fun _ _ _ => false) N (defScope st) (Γ ex) P w K mg base k) (he : ∀ ex, (Γ ex).ex = ex) (hm : m.ok ⟨N, defScope st, ks, fn, gl, dt, true, kf, fx, xc, fun _ _ _ => false⟩ (defBody st) = true)
    (hlen : ∀ rs g Q E, S rs g Q E → rs.length = ps.length)
    (hS : ∀ rs g Q E, S rs g Q E → m.W (Γ (FinX g E)) (rs.map some ++ List.replicate (N.length - rs.length) none) g (fun _ g' => Fin g Q (.dat .non) g') (Fin g Q)) :
    FnOk P w K mg base (L2N.CX P w) (k + 1) f fd ps (PSpX ⟨ks, K⟩ cv S) := by
  have hN : ps.length ≤ N.length := by have := congrArg List.length Sc.pre; rw [List.length_take] at this; omega
  refine fn_okX (W := fun ex => m.W (Γ ex)) Fn Sc hlen hN (fun C cdv A outer s H E hr Z tk => ?_) hS
  refine Ss.sound m (cv := cv) (X := cxOf (L2N.CX P w) P w K mg base N qual (defScope st) f cdv A outer s H E) (Γ := Γ Z.ex) (tb := ⟨N, defScope st, ks, fn, gl, dt, true, kf, fx, xc, fun _ _ _ => false⟩)
    ⟨rfl, rfl, Sc.nd, Sc.kind, rfl, hu65 hr, (M Z.ex).kso, fun _ _ => rfl, (M Z.ex).bn, fun i y e => ?_, (M Z.ex).gl, (M Z.ex).dt, fun i y e => ?_, passes_of rfl⟩ ⟨(he _).symm, tk, fun i y e => ?_, fun i y e => ?_, fun s i n b0 sui e1 e2 => by cases e1⟩ hm
  · obtain ⟨h1, fa, fd', j, ps', h2, h3, h4, h5, h6⟩ := (M Z.ex).fn i y e
    exact ⟨h1, fa, fd', j, ps', h2, h3, h4, hr.mono h5, h6⟩
  · obtain ⟨fa, h1, h2⟩ := (M Z.ex).kf i y e
    exact ⟨fa, h1, h2, by have := hr.dp; show (A.deeper (envOfC qual (defScope st) s.heap.objs.size f cdv)).depth + 5 < recursionLimit; omega⟩
  · obtain ⟨h1, fa, fd', j, ps', h2, h3, h4, h5, h6⟩ := (MH Z.ex).fx i y e
    exact ⟨h1, fa, fd', j, ps', h2, h3, h4, hr.mono h5, h6⟩
  · obtain ⟨a, h1, h2, h3, h4, h5, h6⟩ := (MH Z.ex).xc i y e
    exact ⟨a, h1, h2, h3, h4, raises_own h5 h6⟩
end DW

/-! ## DW13.lean -/
set_option Elab.async false
set_option linter.all false
set_option maxRecDepth 100000
set_option maxHeartbeats 4000000
set_option autoImplicit false
/-! DW13: defs put together; the law's end. -/
namespace DW
open PySem PySem.Spec L2
open PyProof.Rows hiding St

def Mono (S : SpD) : Prop := ∀ rs g (P P' : RQ), (∀ r g', P r g' → P' r g') → S rs g P → S rs g P'
/-- a def that may be called -/
structure Cal (ks : List Str) (P : Program) (w : World) (K : PySem.W.Frag) (mg : Str → Option Value) (base : Heap) (x : Str) (S : SpD) (k : Nat) : Prop where
  mono : Mono S
  fn : ∃ (fa : Addr) (fd : FuncData) (j : Nat) (ps : List Str), mg x = some (.ref fa) ∧ PySem.W.keepIn K (.ref fa) = true ∧ Binds K fd ps [] ∧ j ≤ k ∧ FnOk P w K mg base CX0 j fa fd ps (PSpD ⟨ks, K⟩ S)
theorem Cal.up {ks : List Str} {P : Program} {w : World} {K : PySem.W.Frag} {mg : Str → Option Value} {base : Heap} {x : Str} {S : SpD} {k j : Nat} (c : Cal ks P w K mg base x S k) (h : k ≤ j) : Cal ks P w K mg base x S j :=
  ⟨c.mono, let ⟨fa, fd, i, ps, h1, h2, h3, h4, h5⟩ := c.fn; ⟨fa, fd, i, ps, h1, h2, h3, Nat.le_trans h4 h, h5⟩⟩
/-- what the module's top leaves, for every def -/
structure Bas (ks : List Str) (gl : List (Str × Int)) (dt : List (Str × List (Nat × Nat))) (w : World) (K : PySem.W.Frag) (mg : Str → Option Value) : Prop where
  nd : ks.Nodup
  ok : ∀ x ∈ ks, PyData.strOk x = true
  bn : ∀ x ∈ (["len", "isinstance", "int", "bool", "str", "tuple", "list", "range", "min", "max", "any", "enumerate", "zip", "dict", "sorted"] : List Str), mg x = none
  gl : ∀ (i : Nat) (x : Str), (gl[i]?).map (·.1) = some x → ∃ t, mg x = some (.int ((gl.map (·.2)).getD i 0) t)
  dt : ∀ (i : Nat) (x : Str), (dt.map (·.1))[i]? = some x → ∃ p : Addr, mg x = some (.ref p) ∧ ∀ k v, ((dt.map (·.2)).getD i []).lookup k = some v → ∀ kx, ks[k]? = some kx → ∃ vx, ks[v]? = some vx ∧ KDct K w p kx (.str vx)
/-- the callees of a def -/
inductive Cals (ks : List Str) (P : Program) (w : World) (K : PySem.W.Frag) (mg : Str → Option Value) (base : Heap) (k : Nat) : List Str → List SpD → Prop
  | nil : Cals ks P w K mg base k [] []
  | cons {x : Str} {S : SpD} {xs : List Str} {Ss : List SpD} : Cal ks P w K mg base x S k → Cals ks P w K mg base k xs Ss → Cals ks P w K mg base k (x :: xs) (S :: Ss)
theorem Cals.at {ks : List Str} {P : Program} {w : World} {K : PySem.W.Frag} {mg : Str → Option Value} {base : Heap} {k : Nat} : ∀ {xs : List Str} {Ss : List SpD} {i : Nat} {x : Str}, Cals ks P w K mg base k xs Ss → xs[i]? = some x → Cal ks P w K mg base x (Ss.getD i fun _ _ _ => False) k
  | _, _, _, _, .nil, e => by simp at e
  | _, _, 0, _, .cons c _, e => by simp at e; subst e; exact c
  | _, _, i + 1, _, .cons _ t, e => Cals.at (i := i) t (by simpa using e)
/-- the readings of a def's callees and constants -/
abbrev wdX (Ss : List SpD) (gl : List (Str × Int)) (dt : List (Str × List (Nat × Nat))) (Xs : List SpX) (su : Nat → Nat → Option D) (ex : XQ) : Wd := ⟨fun i => Ss.getD i fun _ _ _ => False, gl.map (·.2), dt.map (·.2), fun i => Xs.getD i fun _ _ _ _ => False, ex, su⟩
abbrev wd (Ss : List SpD) (gl : List (Str × Int)) (dt : List (Str × List (Nat × Nat))) : Wd := wdX Ss gl dt [] (fun _ _ => none) (fun _ _ => False)
def MonoX (S : SpX) : Prop := ∀ rs g (P P' : RQ) (E E' : XQ), (∀ r g', P r g' → P' r g') → (∀ c g', E c g' → E' c g') → S rs g P E → S rs g P' E'
/-- a def that may be called and may raise -/
structure CalX (ks : List Str) (cv : Nat → Value) (P : Program) (w : World) (K : PySem.W.Frag) (mg : Str → Option Value) (base : Heap) (x : Str) (S : SpX) (k : Nat) : Prop where
  mono : MonoX S
  fn : ∃ (fa : Addr) (fd : FuncData) (j : Nat) (ps : List Str), mg x = some (.ref fa) ∧ PySem.W.keepIn K (.ref fa) = true ∧ Binds K fd ps [] ∧ j ≤ k ∧ FnOk P w K mg base (L2N.CX P w) j fa fd ps (PSpX ⟨ks, K⟩ cv S)
theorem CalX.up {ks : List Str} {cv : Nat → Value} {P : Program} {w : World} {K : PySem.W.Frag} {mg : Str → Option Value} {base : Heap} {x : Str} {S : SpX} {k j : Nat} (c : CalX ks cv P w K mg base x S k) (h : k ≤ j) : CalX ks cv P w K mg base x S j :=
  ⟨c.mono, let ⟨fa, fd, i, ps, h1, h2, h3, h4, h5⟩ := c.fn; ⟨fa, fd, i, ps, h1, h2, h3, Nat.le_trans h4 h, h5⟩⟩
inductive CalsX (ks : List Str) (cv : Nat → Value) (P : Program) (w : World) (K : PySem.W.Frag) (mg : Str → Option Value) (base : Heap) (k : Nat) : List Str → List SpX → Prop
  | nil : CalsX ks cv P w K mg base k [] []
  | cons {x : Str} {S : SpX} {xs : List Str} {Ss : List SpX} : CalX ks cv P w K mg base x S k → CalsX ks cv P w K mg base k xs Ss → CalsX ks cv P w K mg base k (x :: xs) (S :: Ss)
theorem CalsX.at {ks : List Str} {cv : Nat → Value} {P : Program} {w : World} {K : PySem.W.Frag} {mg : Str → Option Value} {base : Heap} {k : Nat} : ∀ {xs : List Str} {Ss : List SpX} {i : Nat} {x : Str}, CalsX ks cv P w K mg base k xs Ss → xs[i]? = some x → CalX ks cv P w K mg base x (Ss.getD i fun _ _ _ _ => False) k
  | _, _, _, _, .nil, e => by simp at e
  | _, _, 0, _, .cons c _, e => by simp at e; subst e; exact c
  | _, _, i + 1, _, .cons _ t, e => CalsX.at (i := i) t (by simpa using e)
/-- the classes of exceptions that are raised -/
inductive ClsM (cv : Nat → Value) (K : PySem.W.Frag) (mg : Str → Option Value) : Nat → List Str → Prop
  | nil {c : Nat} : ClsM cv K mg c []
  | cons {c : Nat} {x : Str} {xs : List Str} (a : Addr) : cv c = .ref a → mg x = some (.ref a) → PySem.W.excIn K a [.type "ValueError", .type "Exception", .type "BaseException", .type "object"] "ValueError.__new__" = true → PySem.W.keepIn K (.ref a) = true →
      PySem.W.subIn K (.ref a) (.type "BaseException") = some true → PySem.W.typeIn K (.ref a) = some (.type "type") → ClsM cv K mg (c + 1) xs → ClsM cv K mg c (x :: xs)
theorem ClsM.at {cv : Nat → Value} {K : PySem.W.Frag} {mg : Str → Option Value} : ∀ {xs : List Str} {c i : Nat} {x : Str}, ClsM cv K mg c xs → xs[i]? = some x → ∃ a : Addr, cv (c + i) = .ref a ∧ mg x = some (.ref a) ∧ PySem.W.excIn K a [.type "ValueError", .type "Exception", .type "BaseException", .type "object"] "ValueError.__new__" = true ∧ PySem.W.keepIn K (.ref a) = true ∧ PySem.W.subIn K (.ref a) (.type "BaseException") = some true ∧ PySem.W.typeIn K (.ref a) = some (.type "type")
  | _, _, _, _, .nil, e => by simp at e
  | _, _, 0, _, .cons a h1 h2 h3 h4 h5 h6 _, e => by simp at e; subst e; exact ⟨a, h1, h2, h3, h4, h5, h6⟩
  | _, c, i + 1, _, .cons a h1 h2 h3 h4 h5 h6 t, e => by
    have := ClsM.at (i := i) t (by simpa using e)
    rw [show c + 1 + i = c + (i + 1) by omega] at this
    exact this
/-- a def of data alone: what it gives for its arguments -/
def datsOf : List Rv → Option (List D)
  | [] => some []
  | .dat d :: r => (datsOf r).map (d :: ·)
  | .ref _ :: _ => none
theorem datsOf_eq : ∀ {rs : List Rv} {ds : List D}, datsOf rs = some ds → rs = ds.map .dat
  | [], _, h => by cases h; rfl
  | .dat d :: r, _, h => by
    simp only [datsOf] at h
    obtain ⟨e, h1, h2⟩ := Option.map_eq_some_iff.mp h
    subst h2
    rw [datsOf_eq h1]; rfl
  | .ref _ :: _, _, h => by simp [datsOf] at h
def pureS (R : List D → D → Prop) : SpD := fun rs g Q => ∃ ds, datsOf rs = some ds ∧ ∃ d, R ds d ∧ Q (.dat d) g
theorem pureS_mono (R : List D → D → Prop) : Mono (pureS R) := fun rs g P P' h ⟨ds, e, d, r, q⟩ => ⟨ds, e, d, r, h _ _ q⟩
theorem pureS_len {R : List D → D → Prop} {n : Nat} (h : ∀ ds d, R ds d → ds.length = n) : ∀ rs g Q, pureS R rs g Q → rs.length = n := fun rs g Q ⟨ds, e, d, r, _⟩ => by rw [datsOf_eq e, List.length_map]; exact h ds d r
theorem fin_dat {g g' : Rg} {Q : RQ} {d : D} (j : Rg) (h : g' = g ++ j) (q : Q (.dat d) g) : Fin g Q (.dat d) g' := by
  subst h
  refine .sub g.length (Nat.le_refl _) (by simp) (fun c cell hc e => .inl ?_) True.intro (by rw [List.take_left]; exact q)
  rw [List.getElem?_append_left hc] at e; exact e
theorem fin_frz {g g' : Rg} {Q : RQ} {r : Rv} (d : D) (j : Rg) (h : g' = g ++ j) (hd : RD g' g.length r d) (q : Q (.dat d) g) : Fin g Q r g' := by
  subst h
  refine .frz d hd (by simp) (fun c cell hc e => .inl ?_) (by rw [List.take_left]; exact q)
  rw [List.getElem?_append_left hc] at e; exact e

/-! ### own cells behind the caller's -/
theorem get_app {g l : List Cell} {k : Nat} : (g ++ l)[g.length + k]? = l[k]? := by rw [List.getElem?_append_right (by omega)]; congr 1; omega
theorem get_app0 {g l : List Cell} : (g ++ l)[g.length]? = l[0]? := by rw [List.getElem?_append_right (by omega)]; congr 1; omega
theorem set_app {g l : List Cell} {k : Nat} {c : Cell} : (g ++ l).set (g.length + k) c = g ++ l.set k c := by rw [List.set_append_right _ _ (by omega)]; congr 2; omega
theorem set_app0 {g l : List Cell} {c : Cell} : (g ++ l).set g.length c = g ++ l.set 0 c := by rw [List.set_append_right _ _ (by omega)]; congr 2; omega

/-! ### the law's end -/
def lawS : SpD := fun rs g Q => ∃ ns : List Int, rs = [.dat (.scr ns)] ∧ ns.length ≤ 63 ∧ Q (.dat (.bl true)) g
theorem lawS_mono : Mono lawS := fun rs g P P' h ⟨ns, e, l, q⟩ => ⟨ns, e, l, h _ _ q⟩
def spLaw (K : PySem.W.Frag) : Sp := fun vs H Q _ => ∃ (a : Addr) (ns : List Int), vs = [.ref a] ∧ SqL K H a (ns.map V.int) ∧ ns.length ≤ 63 ∧ ∀ H', Q (.bl true) H'
theorem law_fn {ks : List Str} {P : Program} {w : World} {K : PySem.W.Frag} {mg : Str → Option Value} {base : Heap} {k : Nat} {f : Addr} {fd : FuncData} {ps : List Str} (F : FnOk P w K mg base CX0 k f fd ps (PSpD ⟨ks, K⟩ lawS)) : FnOk P w K mg base CX0 k f fd ps (spLaw K) := by
  refine F.imp fun vs H Q E ⟨a, ns, e, hs, hl, q⟩ => ?_
  refine ⟨H, [], [], [.dat (.scr ns)], Same.refl H, ⟨rfl, fun c cell a e => by simp at e, List.nodup_nil, fun a ha => (by cases ha), fun a ha => (by cases ha)⟩, ?_, ns, rfl, hl, fun v F' H' κ' _ _ _ rv => ?_⟩
  · subst e
    exact .cons (rv_d (.scr hs)) .nil
  · cases At.blI rv
    exact q H'
theorem law_walk {l : PySem.W.OpenLaw} {q : Program} {loose : List Str} {XP : (Str → Option Value) → Heap → Prop} {YP : World → Heap → Prop} {d : DefRec} {K : Params → PySem.W.Frag} {k : Nat} (hr : Room k callerA) (hn : l.most = some 63) (hdf : d.params.defaults = [])
    (hY : ∀ (w : World) (h : Heap), YP w h → (K w.params).In h)
    (F : ∀ (w : World) (mg : Str → Option Value) (fa : Addr) (h : Heap), (K w.params).In h → h.Ns mainGlobals mg → mg d.name = some (.ref fa) →
      ∃ fd : FuncData, (∀ (s : Shared) (u : Value), BindsTo s fd ⟨[u], []⟩ [("_law_script", u)]) ∧ ∀ base : Heap, (K w.params).In base → base.Ns mainGlobals mg → FnOk l.prog w (K w.params) mg base CX0 k fa fd ["_law_script"] (spLaw (K w.params))) :
    PySem.W.WalkO q loose XP YP l.row.toRowW d [] (fun f vs => PySem.call f vs) :=
  L2.walk_of (n := 63) (k := k) (x := "_law_script") (CX := fun _ => CX0) (sp := fun w => spLaw (K w.params)) hn (by decide) hdf hr hY F (fun _ _ a ns hl _ hS => ⟨a, ns, rfl, hS, hl, fun _ => rfl⟩) fun _ _ _ _ _ z => z
end DW
namespace DW
open PySem PySem.Spec L2
open PyProof.Rows hiding St
section
variable {P : Program} {w : World} {K : PySem.W.Frag} {mg : Str → Option Value} {base : Heap} {x : Str} {st : Stmt} {f : Addr} {fd : FuncData} {N ps ks fn : List Str} {gl glF : List (Str × Int)} {dt dtF : List (Str × List (Nat × Nat))} {Ss : List SpD} {k : Nat} {S : SpD}
theorem mok_of {kf : List Str} {Xs : List SpX} {suv : Nat → Nat → Option D} {ex : XQ} (pg : gl <+: glF) (pd : dt <+: dtF) (B : Bas ks gl dt w K mg) (C : Cals ks P w K mg base k fn Ss) (KF : ∀ (i : Nat) (x : Str), kf[i]? = some x → ∃ fa : Addr, mg x = some (.ref fa) ∧ KeyFst P w base fa) : MOk ks fn gl (dt.map (·.1)) kf (wdX Ss glF dtF Xs suv ex) P w K mg base k := by
  refine ⟨⟨B.nd, B.ok⟩, B.bn, fun i y e => ?_, fun i y e => ?_, fun i y e => ⟨(C.at e).1, (C.at e).2⟩, KF⟩
  · obtain ⟨t, h⟩ := B.gl i y e
    refine ⟨_, t, ?_, h⟩
    obtain ⟨p, hp, _⟩ := Option.map_eq_some_iff.mp e
    obtain ⟨l, hl⟩ := pg
    show (glF.map (·.2))[i]? = _
    rw [← hl, List.map_append, List.getElem?_append_left (by rw [List.length_map]; exact (List.getElem?_eq_some_iff.mp hp).1), List.getElem?_map, hp, List.getD_eq_getElem?_getD, List.getElem?_map, hp]; rfl
  · obtain ⟨p, h1, h2⟩ := B.dt i y e
    refine ⟨p, h1, ?_⟩
    have hi : i < dt.length := by have := (List.getElem?_eq_some_iff.mp e).1; rw [List.length_map] at this; exact this
    obtain ⟨l, hl⟩ := pd
    have e2 : (dtF.map (·.2)).getD i [] = (dt.map (·.2)).getD i [] := by
      rw [← hl, List.map_append, List.getD_eq_getElem?_getD, List.getD_eq_getElem?_getD, List.getElem?_append_left (by rw [List.length_map]; exact hi)]
    show ∀ k v, ((dtF.map (·.2)).getD i []).lookup k = some v → _
    rw [e2]; exact h2
theorem kf0 : ∀ (i : Nat) (x : Str), ([] : List Str)[i]? = some x → ∃ fa : Addr, mg x = some (.ref fa) ∧ KeyFst P w base fa := fun i x e => by simp at e
theorem mhot0 {Γ : Wd} {cv : Nat → Value} {sc : Scope} : MHot ks cv [] [] (fun _ _ _ => false) N sc Γ P w K mg base k := ⟨fun i x e => by simp at e, fun i x e => by simp at e, fun s i n b0 sui e => by cases e⟩
theorem cal_of2 (n : Nat) (m : DW.Ss) (pg : gl <+: glF) (pd : dt <+: dtF)
    (B : Bas ks gl dt w K mg) (C : Cals ks P w K mg base k fn Ss) (Fn : Fun K x x st f fd) (hm : mg x = some (.ref f)) (hb : Binds K fd ps []) (Sc : FnScope N ps (defScope st)) (hn : N.length = n)
    (ho : m.ok ⟨N, defScope st, ks, fn, gl, dt.map (·.1), true, [], [], [], fun _ _ _ => false⟩ (defBody st) = true) (mo : Mono S) (hlen : ∀ rs g Q, S rs g Q → rs.length = ps.length)
    (hS : ∀ rs g Q, S rs g Q → m.W (wd Ss glF dtF) (rs.map some ++ List.replicate (n - rs.length) none) g (fun _ g' => Fin g Q (.dat .non) g') (Fin g Q)) :
    Cal ks P w K mg base x S (k + 1) := by
  subst hn
  exact ⟨mo, f, fd, k + 1, ps, hm, Fn.kp, hb, Nat.le_refl _, fn_mini (Γ := wd Ss glF dtF) (cv := fun _ => .none) m Fn Sc (mok_of pg pd B C kf0) mhot0 rfl ho hlen hS⟩
theorem fn_of_cals2 (n : Nat) (m : DW.Ss) (pg : gl <+: glF) (pd : dt <+: dtF)
    (B : Bas ks gl dt w K mg) (C : Cals ks P w K mg base k fn Ss) (Fn : Fun K x x st f fd) (Sc : FnScope N ps (defScope st)) (hn : N.length = n)
    (ho : m.ok ⟨N, defScope st, ks, fn, gl, dt.map (·.1), true, [], [], [], fun _ _ _ => false⟩ (defBody st) = true) (hlen : ∀ rs g Q, S rs g Q → rs.length = ps.length)
    (hS : ∀ rs g Q, S rs g Q → m.W (wd Ss glF dtF) (rs.map some ++ List.replicate (n - rs.length) none) g (fun _ g' => Fin g Q (.dat .non) g') (Fin g Q)) :
    FnOk P w K mg base CX0 (k + 1) f fd ps (PSpD ⟨ks, K⟩ S) := by
  subst hn
  exact fn_mini (Γ := wd Ss glF dtF) (cv := fun _ => .none) m Fn Sc (mok_of pg pd B C kf0) mhot0 rfl ho hlen hS
/-- a def that sorts by a key function -/
theorem cal_ofK {kf : List Str} (n : Nat) (m : DW.Ss) (pg : gl <+: glF) (pd : dt <+: dtF)
    (B : Bas ks gl dt w K mg) (C : Cals ks P w K mg base k fn Ss) (KF : ∀ (i : Nat) (x : Str), kf[i]? = some x → ∃ fa : Addr, mg x = some (.ref fa) ∧ KeyFst P w base fa) (Fn : Fun K x x st f fd) (hm : mg x = some (.ref f)) (hb : Binds K fd ps []) (Sc : FnScope N ps (defScope st)) (hn : N.length = n)
    (ho : m.ok ⟨N, defScope st, ks, fn, gl, dt.map (·.1), true, kf, [], [], fun _ _ _ => false⟩ (defBody st) = true) (mo : Mono S) (hlen : ∀ rs g Q, S rs g Q → rs.length = ps.length)
    (hS : ∀ rs g Q, S rs g Q → m.W (wd Ss glF dtF) (rs.map some ++ List.replicate (n - rs.length) none) g (fun _ g' => Fin g Q (.dat .non) g') (Fin g Q)) :
    Cal ks P w K mg base x S (k + 1) := by
  subst hn
  exact ⟨mo, f, fd, k + 1, ps, hm, Fn.kp, hb, Nat.le_refl _, fn_mini (Γ := wd Ss glF dtF) (cv := fun _ => .none) m Fn Sc (mok_of pg pd B C KF) mhot0 rfl ho hlen hS⟩
/-- a def with a try -/
theorem cal_ofT {cv : Nat → Value} {fx xc : List Str} {Xs : List SpX} {suv : Nat → Nat → Option D} {su : Nat → Str → List Stmt → Bool} (n : Nat) (m : DW.Ss) (pg : gl <+: glF) (pd : dt <+: dtF)
    (B : Bas ks gl dt w K mg) (C : Cals ks P w K mg base k fn Ss) (CX : CalsX ks cv P w K mg base k fx Xs)
    (SU : ∀ (s i : Nat) (y : Str) (b0 : Stmt) (sui : List Stmt), su s y (b0 :: sui) = true → N[i]? = some y → ∃ cN, mg "TowerError" = some cN ∧ ∀ X : Cx, X.prog = P → X.w = w → X.K = K → X.mg = mg → X.base = base → X.N = N → X.env.scope = defScope st → Room k X.A → X.stack = X.env :: X.outer → X.env.frame = some X.env.locals → SuiteOk X cv cN i (b0 :: sui) (suv s))
    (Fn : Fun K x x st f fd) (hm : mg x = some (.ref f)) (hb : Binds K fd ps []) (Sc : FnScope N ps (defScope st)) (hn : N.length = n)
    (ho : m.ok ⟨N, defScope st, ks, fn, gl, dt.map (·.1), true, [], fx, [], su⟩ (defBody st) = true) (mo : Mono S) (hlen : ∀ rs g Q, S rs g Q → rs.length = ps.length)
    (hS : ∀ rs g Q, S rs g Q → m.W (wdX Ss glF dtF Xs suv fun _ _ => False) (rs.map some ++ List.replicate (n - rs.length) none) g (fun _ g' => Fin g Q (.dat .non) g') (Fin g Q)) :
    Cal ks P w K mg base x S (k + 1) := by
  subst hn
  exact ⟨mo, f, fd, k + 1, ps, hm, Fn.kp, hb, Nat.le_refl _, fn_mini (Γ := wdX Ss glF dtF Xs suv fun _ _ => False) (cv := cv) m Fn Sc (mok_of pg pd B C kf0) ⟨fun i y e => ⟨(CX.at e).1, (CX.at e).2⟩, fun i y e => by simp at e, SU⟩ rfl ho hlen hS⟩
/-- a def that may raise -/
theorem calX_of {cv : Nat → Value} {fx xc : List Str} {Xs : List SpX} {SX : SpX} (n : Nat) (m : DW.Ss) (pg : gl <+: glF) (pd : dt <+: dtF)
    (B : Bas ks gl dt w K mg) (C : Cals ks P w K mg base k fn Ss) (CX : CalsX ks cv P w K mg base k fx Xs) (CL : ClsM cv K mg 0 xc)
    (Fn : Fun K x x st f fd) (hm : mg x = some (.ref f)) (hb : Binds K fd ps []) (Sc : FnScope N ps (defScope st)) (hn : N.length = n)
    (ho : m.ok ⟨N, defScope st, ks, fn, gl, dt.map (·.1), true, [], fx, xc, fun _ _ _ => false⟩ (defBody st) = true) (mo : MonoX SX) (hlen : ∀ rs g Q E, SX rs g Q E → rs.length = ps.length)
    (hS : ∀ rs g Q E, SX rs g Q E → m.W (wdX Ss glF dtF Xs (fun _ _ => none) (FinX g E)) (rs.map some ++ List.replicate (n - rs.length) none) g (fun _ g' => Fin g Q (.dat .non) g') (Fin g Q)) :
    CalX ks cv P w K mg base x SX (k + 1) := by
  subst hn
  exact ⟨mo, f, fd, k + 1, ps, hm, Fn.kp, hb, Nat.le_refl _, fn_miniX (Γ := fun ex => wdX Ss glF dtF Xs (fun _ _ => none) ex) (cv := cv) m Fn Sc (fun ex => mok_of pg pd B C kf0) (fun ex => ⟨fun i y e => ⟨(CX.at e).1, (CX.at e).2⟩, fun c y e => by have := CL.at e; rw [Nat.zero_add] at this; exact this, fun s i y b0 sui e => by cases e⟩) (fun _ => rfl) ho hlen hS⟩
end
end DW

/-! ## M0.lean -/
set_option linter.all false
set_option autoImplicit false
/-! M0: the tower as a plain machine. -/
namespace DW
inductive Deed where
  | push (v : Int) | swap (v : Int) | pop | top | clear
  deriving DecidableEq, Inhabited
inductive Kd where
  | marks | bare | new
  deriving DecidableEq, Inhabited
inductive Ph where
  | idle | take | look | see | check | put | walk
  deriving DecidableEq, Inhabited
abbrev Hd := Option Nat × Nat
/-- what a hand has got: values, or what it saw in a box -/
inductive Got where
  | vals (l : List Int) | pair (v : Int) (w : Option Nat)
  deriving DecidableEq, Inhabited
structure Hand where
  deeds : List Deed
  at_ : Nat
  ph : Ph
  box : Option Nat
  seen : Option Hd
  got : Got
  begun : Nat
  deriving Inhabited
inductive Ans where
  | non | val (v : Int) | tup (vs : List Int)
  deriving DecidableEq, Inhabited
structure MRow where
  hand : Nat
  at_ : Nat
  deed : Deed
  begun : Nat
  point : Nat
  ended : Option Nat
  ans : Ans
  deriving Inhabited
structure St where
  kind : Kd
  head : Hd
  boxes : List (Int × Option Nat)
  spare : List Nat
  hands : List Hand
  rows : List MRow
  time : Nat
  deriving Inhabited
inductive Step where
  | rest | take (b : Nat) | look (b : Option Nat) (m : Nat) | see (b : Nat) (v : Int) (w : Option Nat) | put (k : Bool)
  deriving DecidableEq, Inhabited
def Deed.own : Deed → Bool
  | .push _ => true
  | .swap _ => true
  | _ => false
def Deed.val : Deed → Int
  | .push v => v
  | .swap v => v
  | _ => 0
def Deed.isClear : Deed → Bool
  | .clear => true
  | _ => false
def Hand.deed (h : Hand) : Deed := h.deeds.getD h.at_ .pop
def St.inside (s : St) (b : Nat) : Int × Option Nat := s.boxes.getD b (0, none)
def stillB (k : Kd) (hd seen : Hd) : Bool := match k with | .marks => decide (hd = seen) | _ => decide (hd.1 = seen.1)
theorem stillB_o {k : Kd} {a b : Hd} (h : k ≠ .marks) : stillB k a b = decide (a.1 = b.1) := by cases k <;> first | rfl | exact absurd rfl h
theorem stillB_m {k : Kd} {a b : Hd} (h : k = .marks) : stillB k a b = decide (a = b) := by rw [h]; rfl
def St.setHead (s : St) (b : Option Nat) : St := { s with head := (b, s.head.2 + 1) }
def St.point (s : St) (h : Hand) (n : Nat) (e : Option Nat) (a : Ans) : St := { s with rows := s.rows ++ [⟨n, h.at_, h.deed, h.begun, s.time, e, a⟩] }
def Hand.next (h : Hand) : Hand := { h with at_ := h.at_ + 1, ph := .idle, box := none, seen := none, got := .vals [] }
def Hand.own (h : Hand) : Nat := h.box.getD 0
def Hand.sawB (h : Hand) : Nat := (h.seen.getD (none, 0)).1.getD 0
def Got.val : Got → Int
  | .pair v _ => v
  | _ => 0
def Got.below : Got → Option Nat
  | .pair _ w => w
  | _ => none
def Got.list : Got → List Int
  | .vals l => l
  | _ => []
/-- what a take takes, and what is left -/
def St.takeBox (s : St) : Nat := if s.kind = .new ∨ s.spare = [] then s.boxes.length else s.spare.getLastD 0
def St.took (s : St) (v : Int) : St := if s.kind = .new ∨ s.spare = [] then { s with boxes := s.boxes ++ [(v, none)] } else { s with spare := s.spare.dropLast, boxes := s.boxes.set (s.spare.getLastD 0) (v, none) }
def stepTake (s : St) (h : Hand) : St × Hand × Step := (s.took h.deed.val, { h with box := some s.takeBox, ph := .look }, .take s.takeBox)
def St.below (s : St) (b : Nat) (w : Option Nat) : St := { s with boxes := s.boxes.set b ((s.inside b).1, w) }
def St.free (s : St) (b : Nat) : St := { s with spare := s.spare ++ [b] }
def stepLook (s : St) (h : Hand) (n : Nat) : St × Hand × Step :=
  let h1 := { h with seen := some s.head }
  let r : St × Hand := match h.deed with
    | .push _ => (s.below h.own s.head.1, { h1 with ph := .put })
    | .clear => if s.head.1 = none then (s.point h1 n (some s.time) (.tup []), h1.next) else (s, { h1 with ph := .put })
    | .swap _ => if s.head.1 = none then ((s.free h.own).point h1 n (some s.time) .non, h1.next) else (s, { h1 with ph := .see })
    | _ => if s.head.1 = none then (s.point h1 n (some s.time) .non, h1.next) else (s, { h1 with ph := .see })
  (r.1, r.2, .look s.head.1 s.head.2)
def stepSee (s : St) (h : Hand) : St × Hand × Step :=
  let i := s.inside h.sawB
  let h1 := { h with got := .pair i.1 i.2 }
  let r : St × Hand := match h.deed with
    | .top => (s, { h1 with ph := .check })
    | .swap _ => (s.below h.own i.2, { h1 with ph := .put })
    | _ => (s, { h1 with ph := .put })
  (r.1, r.2, .see h.sawB i.1 i.2)
def stepCheck (s : St) (h : Hand) (n : Nat) : St × Hand × Step :=
  if stillB s.kind s.head (h.seen.getD (none, 0)) = true then (s.point h n (some s.time) (.val h.got.val), h.next, .look s.head.1 s.head.2)
  else (s, { h with ph := .look }, .look s.head.1 s.head.2)
def stepPut (s : St) (h : Hand) (n : Nat) : St × Hand × Step :=
  if stillB s.kind s.head (h.seen.getD (none, 0)) = true then
    let r : St × Hand := match h.deed with
      | .push _ => ((s.setHead h.box).point h n (some s.time) .non, h.next)
      | .clear => ((s.setHead none).point h n none .non, { h with box := some h.sawB, ph := .walk })
      | .pop => (((s.setHead h.got.below).free h.sawB).point h n (some s.time) (.val h.got.val), h.next)
      | _ => (((s.setHead h.box).free h.sawB).point h n (some s.time) (.val h.got.val), h.next)
    (r.1, r.2, .put true)
  else (s, { h with ph := .look }, .put false)
def endRow (n a t : Nat) (vs : List Int) (r : MRow) : MRow := if r.hand = n ∧ r.at_ = a then { r with ended := some t, ans := .tup vs } else r
def stepWalk (s : St) (h : Hand) (n : Nat) : St × Hand × Step :=
  let b := h.own
  let i := s.inside b
  let h1 := { h with got := .vals (h.got.list ++ [i.1]), box := i.2 }
  if i.2 = none then ({ s.free b with rows := s.rows.map (endRow n h.at_ s.time (h.got.list ++ [i.1])) }, h1.next, .see b i.1 i.2)
  else (s.free b, h1, .see b i.1 i.2)
/-- a hand begins its next deed -/
def Hand.begin (h : Hand) (t : Nat) : Hand := if h.ph = .idle then { h with ph := if h.deed.own then .take else .look, begun := t } else h
def stepOf (s : St) (h : Hand) (n : Nat) : St × Hand × Step :=
  if h.at_ = h.deeds.length then (s, h, .rest) else
  let h1 := h.begin s.time
  match h1.ph with
  | .take => stepTake s h1
  | .look => stepLook s h1 n
  | .see => stepSee s h1
  | .check => stepCheck s h1 n
  | .put => stepPut s h1 n
  | _ => stepWalk s h1 n
def St.hand (s : St) (n : Nat) : Hand := s.hands.getD n default
def step (s : St) (n : Nat) : St × Step :=
  let r := stepOf s (s.hand n) n
  ({ r.1 with hands := s.hands.set n r.2.1, time := s.time + 1 }, r.2.2)
def run : St → List Nat → St × List Step
  | s, [] => (s, [])
  | s, n :: w => let r := run (step s n).1 w; (r.1, (step s n).2 :: r.2)
/-- the start -/
def handOf (ds : List Deed) : Hand := ⟨ds, 0, .idle, none, none, .vals [], 0⟩
def boxesOf (start : List Int) : List (Int × Option Nat) := (List.range start.length).map fun k => (start.getD k 0, if k + 1 = start.length then none else some (k + 1))
def towerOf (start : List Int) (progs : List (List Deed)) (k : Kd) : St :=
  ⟨k, (if start = [] then none else some 0, 0), boxesOf start, [], progs.map handOf, [], 0⟩
end DW

/-! ## MA.lean -/
set_option Elab.async false
set_option linter.all false
set_option maxRecDepth 100000
set_option maxHeartbeats 4000000
set_option autoImplicit false
/-! MA: the law's draws and the program's values, in plain Lean. -/
namespace DW
open PySem PySem.Spec L2
open PyProof.Rows hiding St
abbrev ksL : List Str := (["push", "swap", "pop", "top", "clear", "marks", "bare", "new", "take", "look", "see", "put", "check", "walk", "rest", "pile", "spare", "held", "kind", "head"] : List Str) ++ (["boxes", "hands", "rows", "time", "deeds", "at", "phase", "box", "seen", "got", "begun", "", "no deed", "1", "no kind", "too many values", "too many hands", "no value", "too many deeds", "no hand"] : List Str) ++ (["too many steps", "mark", "Marks", "first", "due", "own", "below", "looks", "saw", "point", "0"] : List Str)
abbrev glF : List (Str × Int) := [("MOST_VALUES", 60), ("MOST_HANDS", 20), ("MOST_DEEDS", 60), ("MOST_STEPS", 2000), ("MOST_ROWS", 7)]
abbrev dtF : List (Str × List (Nat × Nat)) := [("FIRST", [(0, 8), (1, 8), (2, 9), (3, 9), (4, 9)])]
def mixed (c k : Int) : Int := ((c + 7919 * k) * 48271 % 2147483647) * ((c + 7919 * k) * 48271 % 2147483647) % 2147483629
theorem mixed_lo (c k : Int) : 0 ≤ mixed c k := Int.emod_nonneg _ (by decide)
theorem mixed_hi (c k : Int) : mixed c k < 2147483629 := Int.emod_lt_of_pos _ (by decide)
/-- a script's cell -/
def cellAt (ns : List Int) (k : Nat) : Int := match ns[k]? with | some n => mixed n k | none => 0
theorem cellAt_lo (ns : List Int) (k : Nat) : 0 ≤ cellAt ns k := by unfold cellAt; split; exact mixed_lo _ _; exact Int.le_refl 0
theorem cellAt_hi (ns : List Int) (k : Nat) : cellAt ns k < 2147483629 := by unfold cellAt; split; exact mixed_hi _ _; decide
def valueBy (c : Int) : Int := if c % 4 = 0 then c / 4 * 7919 * 7919 * 7919 - 10 ^ 20 else c / 4 % 5 - 1
def Deed.enc : Deed → D
  | .push v => .tup [.str 0, .int v]
  | .swap v => .tup [.str 1, .int v]
  | .pop => .tup [.str 2]
  | .top => .tup [.str 3]
  | .clear => .tup [.str 4]
def deedBy (c : Int) : Deed :=
  if c % 12 < 4 then .push (valueBy (c / 12)) else if c % 12 < 7 then .pop else if c % 12 < 9 then .top else if c % 12 < 11 then .swap (valueBy (c / 12)) else .clear
theorem eqv_ii {i j : Int} : eqv (.int i) (.int j) = (i == j) := by simp only [eqv]
theorem eqv_ss {i j : Nat} : eqv (.str i) (.str j) = (i == j) := by simp only [eqv]
theorem eqv_bb {i j : Bool} : eqv (.bl i) (.bl j) = (i == j) := by simp only [eqv]
theorem eqv_nn : eqv .non .non = true := by simp only [eqv]
theorem eqv_ll {i j : List D} : eqv (.lst i) (.lst j) = eqvs i j := by simp only [eqv]
theorem eqv_tt {i j : List D} : eqv (.tup i) (.tup j) = eqvs i j := by simp only [eqv]
theorem eqn_non_int {i : Int} : eqv .non (.int i) = false := by simp only [eqv]
theorem eqn_non_str {k : Nat} : eqv .non (.str k) = false := by simp only [eqv]
theorem eqn_non_lst {l : List D} : eqv .non (.lst l) = false := by simp only [eqv]
theorem eqn_non_tup {t : List D} : eqv .non (.tup t) = false := by simp only [eqv]
theorem eqn_non_bl {b : Bool} : eqv .non (.bl b) = false := by simp only [eqv]
theorem eqn_non_dic {m : List (Nat × D)} : eqv .non (.dic m) = false := by simp only [eqv]
theorem eqn_int_non {i : Int} : eqv (.int i) .non = false := by simp only [eqv]
theorem eqn_int_str {i : Int} {k : Nat} : eqv (.int i) (.str k) = false := by simp only [eqv]
theorem eqn_int_lst {i : Int} {l : List D} : eqv (.int i) (.lst l) = false := by simp only [eqv]
theorem eqn_int_tup {i : Int} {t : List D} : eqv (.int i) (.tup t) = false := by simp only [eqv]
theorem eqn_int_dic {i : Int} {m : List (Nat × D)} : eqv (.int i) (.dic m) = false := by simp only [eqv]
theorem eqn_str_non {k : Nat} : eqv (.str k) .non = false := by simp only [eqv]
theorem eqn_str_int {k : Nat} {i : Int} : eqv (.str k) (.int i) = false := by simp only [eqv]
theorem eqn_str_lst {k : Nat} {l : List D} : eqv (.str k) (.lst l) = false := by simp only [eqv]
theorem eqn_str_tup {k : Nat} {t : List D} : eqv (.str k) (.tup t) = false := by simp only [eqv]
theorem eqn_str_bl {k : Nat} {b : Bool} : eqv (.str k) (.bl b) = false := by simp only [eqv]
theorem eqn_str_dic {k : Nat} {m : List (Nat × D)} : eqv (.str k) (.dic m) = false := by simp only [eqv]
theorem eqn_lst_non {l : List D} : eqv (.lst l) .non = false := by simp only [eqv]
theorem eqn_lst_int {l : List D} {i : Int} : eqv (.lst l) (.int i) = false := by simp only [eqv]
theorem eqn_lst_str {l : List D} {k : Nat} : eqv (.lst l) (.str k) = false := by simp only [eqv]
theorem eqn_lst_tup {l : List D} {t : List D} : eqv (.lst l) (.tup t) = false := by simp only [eqv]
theorem eqn_lst_bl {l : List D} {b : Bool} : eqv (.lst l) (.bl b) = false := by simp only [eqv]
theorem eqn_lst_dic {l : List D} {m : List (Nat × D)} : eqv (.lst l) (.dic m) = false := by simp only [eqv]
theorem eqn_tup_non {t : List D} : eqv (.tup t) .non = false := by simp only [eqv]
theorem eqn_tup_int {t : List D} {i : Int} : eqv (.tup t) (.int i) = false := by simp only [eqv]
theorem eqn_tup_str {t : List D} {k : Nat} : eqv (.tup t) (.str k) = false := by simp only [eqv]
theorem eqn_tup_lst {t : List D} {l : List D} : eqv (.tup t) (.lst l) = false := by simp only [eqv]
theorem eqn_tup_bl {t : List D} {b : Bool} : eqv (.tup t) (.bl b) = false := by simp only [eqv]
theorem eqn_tup_dic {t : List D} {m : List (Nat × D)} : eqv (.tup t) (.dic m) = false := by simp only [eqv]
theorem eqn_bl_non {b : Bool} : eqv (.bl b) .non = false := by simp only [eqv]
theorem eqn_bl_str {b : Bool} {k : Nat} : eqv (.bl b) (.str k) = false := by simp only [eqv]
theorem eqn_bl_lst {b : Bool} {l : List D} : eqv (.bl b) (.lst l) = false := by simp only [eqv]
theorem eqn_bl_tup {b : Bool} {t : List D} : eqv (.bl b) (.tup t) = false := by simp only [eqv]
theorem eqn_bl_dic {b : Bool} {m : List (Nat × D)} : eqv (.bl b) (.dic m) = false := by simp only [eqv]
theorem atI_lit {α : Type} {xs : List α} {n : Nat} : atI xs (no_index (@OfNat.ofNat Int n _)) = xs[(@OfNat.ofNat Nat n _)]? := by
  have h : (0 : Int) ≤ (n : Int) := Int.natCast_nonneg n
  show atI xs (n : Int) = xs[n]?
  unfold L2.atI L2.ixN
  by_cases hl : n < xs.length
  · rw [if_pos (by omega), if_pos (by omega)]; simp
  · rw [if_pos (by omega), if_neg (by omega), List.getElem?_eq_none (by omega)]; rfl
theorem cdiv_lit {i : Int} {n : Nat} : CDiv i (no_index (@OfNat.ofNat Int n _)) ↔ 0 < n ∧ n < 1073741824 := by
  show CDiv i (n : Int) ↔ _
  unfold CDiv; omega
theorem cmul_r {i : Int} {n : Nat} : CMul i (no_index (@OfNat.ofNat Int n _)) ↔ (-(2 ^ 64) < i ∧ i < 2 ^ 64) ∨ n < 18446744073709551616 := by
  show CMul i (n : Int) ↔ _
  unfold CMul; omega
theorem cmul_l {i : Int} {n : Nat} : CMul (no_index (@OfNat.ofNat Int n _)) i ↔ n < 18446744073709551616 ∨ (-(2 ^ 64) < i ∧ i < 2 ^ 64) := by
  show CMul (n : Int) i ↔ _
  unfold CMul; omega
theorem cpow_lit {a b : Nat} : CPow (no_index (@OfNat.ofNat Int a _)) (no_index (@OfNat.ofNat Int b _)) ↔ b ≤ 1000000 ∧ a < 18446744073709551616 := by
  show CPow (a : Int) (b : Int) ↔ _
  unfold CPow; omega
theorem nrm_ref {g : Rg} {c : Nat} : nrm g (.ref c) = match g[c]? with | some (.fz d) => .dat d | _ => .ref c := rfl
theorem cast_lit {n : Nat} : ((no_index (@OfNat.ofNat Nat n _) : Nat) : Int) = @OfNat.ofNat Int n _ := rfl
mutual
theorem plN_mono : ∀ {d : D} {n m : Nat}, plN n d = true → n ≤ m → plN m d = true
  | .non, n, m, _, _ => by simp only [plN]
  | .bl _, n, m, _, _ => by simp only [plN]
  | .int _, n, m, _, _ => by simp only [plN]
  | .str _, n, m, _, _ => by simp only [plN]
  | .lst ds, n, m, p, h => by
    simp only [plN] at p ⊢; exact plAll_mono p h
  | .tup ds, n, m, p, h => by
    simp only [plN] at p ⊢; exact plAll_mono p h
  | .dic _, _, _, p, _ => by simp [plN] at p
  | .scr _, _, _, p, _ => by simp [plN] at p
theorem plAll_mono : ∀ {ds : List D} {n m : Nat}, plAll n ds = true → n ≤ m → plAll m ds = true
  | [], n, m, _, _ => by simp only [plAll]
  | d :: ds, 0, _, p, _ => by simp [plAll] at p
  | d :: ds, n + 1, 0, _, h => by omega
  | d :: ds, n + 1, m + 1, p, h => by
    simp only [plAll, Bool.and_eq_true] at p ⊢
    exact ⟨plN_mono p.1 (by omega), plAll_mono p.2 h⟩
end
/-- a for loop, its items known -/
def WLoop (T : Tg) (Wb : SWt) (its : List Rv) (keep : Rg → Prop) (env : En) (g : Rg) (N : En → Rg → Prop) (R : RQ) : Prop := ∃ Inv : Nat → En → Rg → Prop, Inv 0 env g ∧ (∀ k env g, Inv k env g → keep g) ∧
  (∀ k r env g, its[k]? = some r → Inv k env g → ∃ env', T.put env (nrm g r) = some env' ∧ Wb env' g (Inv (k + 1)) R) ∧ ∀ env g, Inv its.length env g → N env g
theorem wfor_eq {WI : En → Rg → IQ → Prop} {T : Tg} {Wb : SWt} {env : En} {g : Rg} {N : En → Rg → Prop} {R : RQ} : WFor WI T Wb env g N R = WI env g fun its keep g1 => WLoop T Wb its keep env g1 N R := rfl
theorem wloop {T : Tg} {Wb : SWt} {its : List Rv} {keep : Rg → Prop} {env : En} {g : Rg} {N : En → Rg → Prop} {R : RQ} (Inv : Nat → En → Rg → Prop) (h0 : Inv 0 env g) (hk : ∀ k env g, Inv k env g → keep g)
    (hs : ∀ k r env g, its[k]? = some r → Inv k env g → ∃ env', T.put env (nrm g r) = some env' ∧ Wb env' g (Inv (k + 1)) R) (he : ∀ env g, Inv its.length env g → N env g) : WLoop T Wb its keep env g N R := ⟨Inv, h0, hk, hs, he⟩
theorem wwhile {Wc : En → Rg → (Bool → Rg → Prop) → Prop} {Wb : SWt} {env : En} {g : Rg} {N : En → Rg → Prop} {R : RQ} (Inv : Nat → En → Rg → Prop) (m : Nat) (h0 : Inv m env g)
    (hs : ∀ m env g, Inv m env g → Wc env g fun k g1 => (k = true → Wb env g1 (fun env' g' => ∃ m', m' < m ∧ Inv m' env' g') R) ∧ (k = false → N env g1)) : WWhile Wc Wb env g N R := ⟨Inv, ⟨m, h0⟩, hs⟩
theorem rngs_get' {n : Int} {k : Nat} {r : Rv} (h : (rngs 0 n.toNat)[k]? = some r) : r = .dat (.int k) ∧ (k : Int) < n := by
  have hl := (List.getElem?_eq_some_iff.mp h).1
  rw [rngs_length] at hl
  rw [rngs_get hl] at h
  cases h
  exact ⟨by simp, by omega⟩
/-- a list of data made item by item -/
theorem comp_map {T : Tg} {vs : List Nat} {env : En} {W : Rg → (Bool → Rg → Prop) → Prop} {We : En → Rg → RQ → Prop} {its : List Rv} {keep : Rg → Prop} {g1 : Rg} {Q : RQ} (f : Nat → D) (hl : its.length ≤ 1000000) (hk : ∀ j, keep (g1 ++ j))
    (hs : ∀ k r l P, its[k]? = some r → (∀ j, P (.dat (f k)) (g1 ++ (l ++ j))) → ∃ env', T.put (wipeN env vs) (nrm (g1 ++ l) r) = some env' ∧ We env' (g1 ++ l) P)
    (hQ : ∀ j, Q (.ref g1.length) (g1 ++ (.lst (((List.range its.length).map f).map .dat) :: j))) :
    WComp T vs env (fun _ => tstW false W) We its keep g1 Q := by
  refine ⟨fun k acc g => ∃ j, g = g1 ++ (.lst acc :: j) ∧ acc = ((List.range k).map f).map .dat ∧ k ≤ its.length, ⟨[], rfl, rfl, Nat.zero_le _⟩, ?_, ?_, ?_⟩
  · rintro k acc g ⟨j, rfl, ha, hle⟩
    exact ⟨hk _, by rw [List.getElem?_append_right (Nat.le_refl _)]; simp⟩
  · rintro k r acc g hr ⟨j, rfl, ha, hle⟩
    have hlt := (List.getElem?_eq_some_iff.mp hr).1
    have hal : acc.length = k := by rw [ha]; simp
    obtain ⟨env', h1, h2⟩ := hs k r (.lst acc :: j) (fun y g3 => g3[g1.length]? = some (.lst acc) ∧ acc.length < 1000000 ∧ ∃ j, g3.set g1.length (.lst (acc ++ [y])) = g1 ++ (.lst (acc ++ [y]) :: j) ∧ acc ++ [y] = ((List.range (k + 1)).map f).map .dat ∧ k + 1 ≤ its.length) hr fun j2 => by
      refine ⟨by rw [List.getElem?_append_right (Nat.le_refl _)]; simp, by omega, j ++ j2, by rw [List.set_append_right _ _ (Nat.le_refl _)]; simp, ?_, hlt⟩
      rw [ha, List.range_succ, List.map_append, List.map_append]; rfl
    exact ⟨env', h1, fun _ => h2, fun z => by cases z⟩
  · rintro acc g ⟨j, rfl, ha, hle⟩
    rw [ha]; exact hQ j
theorem ixD {l : List D} {i : Int} {P : Rv → Prop} : (∃ r, atI (l.map Rv.dat) i = some r ∧ P r) ↔ ∃ d, atI l i = some d ∧ P (.dat d) := by
  have e : atI (l.map Rv.dat) i = (atI l i).map .dat := by unfold L2.atI; rw [List.length_map]; cases L2.ixN l.length i <;> simp [Option.bind, List.getElem?_map, Option.map]
  rw [e]
  exact ⟨fun ⟨r, h, p⟩ => by obtain ⟨d, h1, h2⟩ := Option.map_eq_some_iff.mp h; exact ⟨d, h1, h2 ▸ p⟩, fun ⟨d, h, p⟩ => ⟨_, by rw [h]; rfl, p⟩⟩
theorem ixM {α : Type} {l : List α} {f : α → D} {i : Int} {P : D → Prop} : (∃ r, atI (l.map f) i = some r ∧ P r) ↔ ∃ d, atI l i = some d ∧ P (f d) := by
  have e : atI (l.map f) i = (atI l i).map f := by unfold L2.atI; rw [List.length_map]; cases L2.ixN l.length i <;> simp [Option.bind, List.getElem?_map, Option.map]
  rw [e]
  exact ⟨fun ⟨r, h, p⟩ => by obtain ⟨d, h1, h2⟩ := Option.map_eq_some_iff.mp h; exact ⟨d, h1, h2 ▸ p⟩, fun ⟨d, h, p⟩ => ⟨_, by rw [h]; rfl, p⟩⟩
theorem kbs : kitB "NoneType" "int" = some false ∧ kitB "NoneType" "bool" = some false ∧ kitB "NoneType" "str" = some false ∧ kitB "NoneType" "tuple" = some false ∧ kitB "NoneType" "list" = some false ∧ kitB "bool" "int" = some true ∧ kitB "bool" "bool" = some true ∧ kitB "bool" "str" = some false ∧ kitB "bool" "tuple" = some false ∧ kitB "bool" "list" = some false ∧ kitB "int" "int" = some true ∧ kitB "int" "bool" = some false ∧ kitB "int" "str" = some false ∧ kitB "int" "tuple" = some false ∧ kitB "int" "list" = some false ∧ kitB "str" "int" = some false ∧ kitB "str" "bool" = some false ∧ kitB "str" "str" = some true ∧ kitB "str" "tuple" = some false ∧ kitB "str" "list" = some false ∧ kitB "list" "int" = some false ∧ kitB "list" "bool" = some false ∧ kitB "list" "str" = some false ∧ kitB "list" "tuple" = some false ∧ kitB "list" "list" = some true ∧ kitB "tuple" "int" = some false ∧ kitB "tuple" "bool" = some false ∧ kitB "tuple" "str" = some false ∧ kitB "tuple" "tuple" = some true ∧ kitB "tuple" "list" = some false ∧ kitB "dict" "int" = some false ∧ kitB "dict" "bool" = some false ∧ kitB "dict" "str" = some false ∧ kitB "dict" "tuple" = some false ∧ kitB "dict" "list" = some false := by
  refine ⟨?_, ?_, ?_, ?_, ?_, ?_, ?_, ?_, ?_, ?_, ?_, ?_, ?_, ?_, ?_, ?_, ?_, ?_, ?_, ?_, ?_, ?_, ?_, ?_, ?_, ?_, ?_, ?_, ?_, ?_, ?_, ?_, ?_, ?_, ?_⟩ <;> decide +kernel
theorem atI_nat' {α : Type} {xs : List α} {n : Nat} {x : α} (h : xs[n]? = some x) : atI xs (n : Int) = some x := by
  have hl := (List.getElem?_eq_some_iff.mp h).1
  unfold L2.atI L2.ixN
  rw [if_pos (by omega), if_pos (by omega)]
  simpa using h
end DW

/-! ## MB.lean -/
set_option Elab.async false
set_option linter.all false
set_option maxRecDepth 100000
set_option maxHeartbeats 4000000
set_option autoImplicit false
/-! MB: rows. -/
namespace DW
open PySem PySem.Spec L2
open PyProof.Rows hiding St
def optI : Option Int → D
  | none => .non
  | some i => .int i
/-- a row of a deed -/
structure Row where
  hand : Int
  at_ : Int
  deed : D
  begun : Int
  point : Int
  ended : Option Int
  answer : D
  deriving Inhabited
def Row.enc (r : Row) : D := .tup [.int r.hand, .int r.at_, r.deed, .int r.begun, .int r.point, optI r.ended, r.answer]
def aheadR (a b : Row) : Bool := match a.ended with | some e => decide (e < b.begun) | none => false
def natD (n : Nat) : D := .int (n : Int)
theorem eqvs_nil {l : List D} : eqvs l [] = l.isEmpty := by cases l <;> simp [eqvs]
theorem plAll_nat {n : Nat} {l : List Nat} : plAll (n + 1) (l.map natD) = true := by
  induction l with
  | nil => simp [plAll]
  | cons a l ih => simp [plAll, natD, plN]; exact ih
theorem eqvs_self : ∀ {l : List D}, (∀ d ∈ l, eqv d d = true) → eqvs l l = true
  | [], _ => by simp [eqvs]
  | d :: l, h => by simp only [eqvs, Bool.and_eq_true]; exact ⟨h d List.mem_cons_self, eqvs_self fun e he => h e (List.mem_cons_of_mem _ he)⟩
mutual
theorem eqv_refl : ∀ {d : D} {n : Nat}, plN n d = true → eqv d d = true
  | .non, _, _ => by simp [eqv]
  | .bl _, _, _ => by simp [eqv]
  | .int _, _, _ => by simp [eqv]
  | .str _, _, _ => by simp [eqv]
  | .lst ds, n, p => by simp only [eqv]; exact eqvs_refl (n := n) (by simpa only [plN] using p)
  | .tup ds, n, p => by simp only [eqv]; exact eqvs_refl (n := n) (by simpa only [plN] using p)
  | .dic _, _, p => by simp [plN] at p
  | .scr _, _, p => by simp [plN] at p
theorem eqvs_refl : ∀ {ds : List D} {n : Nat}, plAll n ds = true → eqvs ds ds = true
  | [], _, _ => by simp [eqvs]
  | d :: ds, 0, p => by simp [plAll] at p
  | d :: ds, n + 1, p => by
    simp only [plAll, Bool.and_eq_true] at p
    simp only [eqvs, Bool.and_eq_true]; exact ⟨eqv_refl p.1, eqvs_refl p.2⟩
end
theorem er_map {α β : Type} {f : α → β} : ∀ {l : List α} {i : Nat}, (l.map f).eraseIdx i = (l.eraseIdx i).map f
  | [], _ => by simp
  | a :: l, 0 => by simp
  | a :: l, i + 1 => by simp [er_map (l := l) (i := i)]
theorem cut_take {α : Type} {l : List α} {k : Nat} : cutL l none (some (k : Int)) = l.take k := by
  unfold cutL
  rw [HT.sIx_none, HT.sIx_nat]
  simp only [List.drop_zero, Nat.sub_zero]
  by_cases h : k ≤ l.length
  · rw [Nat.min_eq_left h]
  · rw [Nat.min_eq_right (by omega), List.take_of_length_le (Nat.le_refl _), List.take_of_length_le (by omega)]
theorem cut_one {α : Type} {l : List α} : cutL l (some 1) none = l.tail := by
  unfold cutL
  rw [HT.sIx_none, show HT.sIx l.length 0 (some 1) = min 1 l.length from HT.sIx_nat _ _ 1]
  cases l with
  | nil => rfl
  | cons a l => simp
theorem rngs_getN {n : Nat} {k : Nat} {r : Rv} (h : (rngs 0 n)[k]? = some r) : r = .dat (.int k) ∧ k < n := by
  have hl := (List.getElem?_eq_some_iff.mp h).1
  rw [rngs_length] at hl
  rw [rngs_get hl] at h
  cases h
  exact ⟨by simp, hl⟩
theorem plAll_int {n : Nat} {l : List Int} : plAll (n + 1) (l.map D.int) = true := by
  induction l with
  | nil => simp [plAll]
  | cons a l ih => simp [plAll, plN]; exact ih
theorem mapint_inj {l m : List Int} : (l.map D.int = m.map D.int) ↔ l = m := by
  refine ⟨fun h => ?_, fun h => h ▸ rfl⟩
  induction l generalizing m with
  | nil => cases m <;> simp_all
  | cons a l ih => cases m with
    | nil => simp at h
    | cons b m =>
      simp only [List.map_cons, List.cons.injEq, D.int.injEq] at h ⊢
      exact ⟨h.1, ih h.2⟩
theorem mapnat_inj {l m : List Nat} : (l.map natD = m.map natD) ↔ l = m := by
  refine ⟨fun h => ?_, fun h => h ▸ rfl⟩
  induction l generalizing m with
  | nil => cases m <;> simp_all
  | cons a l ih => cases m with
    | nil => simp at h
    | cons b m =>
      simp only [List.map_cons, List.cons.injEq, natD, D.int.injEq] at h ⊢
      exact ⟨by omega, ih h.2⟩
theorem denc_inj {a b : Deed} : (a.enc = b.enc) ↔ a = b := by
  refine ⟨fun h => ?_, fun h => h ▸ rfl⟩
  cases a <;> cases b <;> simp [Deed.enc] at h ⊢ <;> exact h
theorem seqIx_nat {i : Int} {n : Nat} (h0 : 0 ≤ i) (h : i < n) : seqIndex? i n = some i.toNat := by
  unfold seqIndex?
  simp [show ¬ i < 0 by omega]
  omega
end DW
namespace DW
open PySem PySem.Spec L2
open PyProof.Rows hiding St
mutual
/-- how much there is in it -/
def dsize : D → Nat
  | .lst ds => 1 + dsizes ds
  | .tup ds => 1 + dsizes ds
  | _ => 1
def dsizes : List D → Nat
  | [] => 0
  | d :: ds => dsize d + dsizes ds
end
open Classical in
/-- the same datum -/
noncomputable def deq (a b : D) : Bool := decide (a = b)
theorem deq_self (a : D) : deq a a = true := by unfold deq; simp
theorem deq_true {a b : D} : deq a b = true ↔ a = b := by unfold deq; simp
theorem deq_false {a b : D} : deq a b = false ↔ a ≠ b := by unfold deq; simp
theorem dsize_pos (d : D) : 0 < dsize d := by cases d <;> simp [dsize] <;> omega
theorem dsizes_len (l : List D) : l.length ≤ dsizes l := by
  induction l with
  | nil => simp
  | cons d l ih => simp only [List.length_cons, dsizes]; have := dsize_pos d; omega
theorem dsizes_app (l m : List D) : dsizes (l ++ m) = dsizes l + dsizes m := by
  induction l with
  | nil => simp [dsizes]
  | cons d l ih => simp only [List.cons_append, dsizes, ih]; omega
theorem dsizes_take_drop (l : List D) : dsizes (l.dropLast) + (match l.getLast? with | some d => dsize d | none => 0) = dsizes l := by
  rcases List.eq_nil_or_concat l with rfl | ⟨m, d, rfl⟩
  · simp [dsizes]
  · simp [dsizes_app, dsizes]
theorem zip_map_eq {a b : List D} (h : a.length = b.length) : (∀ p ∈ a.zip b, p.1 = p.2) ↔ a = b := by
  induction a generalizing b with
  | nil => cases b <;> simp_all
  | cons x a ih =>
    cases b with
    | nil => simp at h
    | cons y b =>
      have := ih (b := b) (by simpa using h)
      simp only [List.zip_cons_cons, List.mem_cons, forall_eq_or_imp, List.cons.injEq]
      rw [this]
theorem zip_snd {a b : List D} (h : a.length = b.length) : dsizes ((a.zip b).map (·.2)) = dsizes b := by
  rw [List.map_snd_zip (by omega)]
theorem plAll_mem {n : Nat} : ∀ {l : List D}, plAll n l = true → ∀ d ∈ l, plN (n - 1) d = true
  | [], _, d, h => by cases h
  | x :: l, p, d, h => by
    cases n with
    | zero => simp [plAll] at p
    | succ n =>
      simp only [plAll, Bool.and_eq_true] at p
      rcases List.mem_cons.mp h with rfl | h
      · exact p.1
      · exact plAll_mem p.2 d h
theorem plAll_of {n : Nat} : ∀ {l : List D}, (∀ d ∈ l, plN n d = true) → plAll (n + 1) l = true
  | [], _ => by simp [plAll]
  | x :: l, h => by
    simp only [plAll, Bool.and_eq_true]
    exact ⟨h x List.mem_cons_self, plAll_of fun d hd => h d (List.mem_cons_of_mem _ hd)⟩
end DW

/-! ## M1.lean -/
set_option linter.all false
set_option autoImplicit false
set_option maxHeartbeats 1000000
/-! M1: what every state of the machine keeps. -/
namespace DW
def inB (nb : Nat) (o : Option Nat) : Prop := ∀ b, o = some b → b < nb
theorem inB_none {nb : Nat} : inB nb none := fun b h => by cases h
theorem inB_some {nb b : Nat} (h : b < nb) : inB nb (some b) := fun c e => by cases e; exact h
theorem inB.mono {nb nc : Nat} {o : Option Nat} (h : inB nb o) (l : nb ≤ nc) : inB nc o := fun b e => Nat.lt_of_lt_of_le (h b e) l
def PhOk (h : Hand) : Prop := (h.deed.own = false → h.ph ≠ .walk → h.box = none) ∧ match h.ph with
  | .idle => h.box = none ∧ h.got = .vals [] ∧ h.seen = none
  | .take => h.deed.own = true ∧ h.box = none ∧ h.got = .vals [] ∧ h.seen = none
  | .look => (h.deed.own = true → h.box ≠ none) ∧ (h.deed = .clear → h.got = .vals [])
  | .see => (∀ v, h.deed ≠ .push v) ∧ h.deed ≠ .clear ∧ (∃ b m, h.seen = some (some b, m)) ∧ (h.deed.own = true → h.box ≠ none)
  | .check => h.deed = .top ∧ (∃ b m, h.seen = some (some b, m)) ∧ ∃ v w, h.got = .pair v w
  | .put => h.deed ≠ .top ∧ (∃ o m, h.seen = some (o, m) ∧ (o = none → ∃ v, h.deed = .push v)) ∧ (h.deed.own = true → h.box ≠ none) ∧ (h.deed = .clear → h.got = .vals []) ∧ (h.deed = .pop → ∃ v w, h.got = .pair v w) ∧ (∀ x, h.deed = .swap x → ∃ v w, h.got = .pair v w)
  | .walk => h.deed = .clear ∧ h.box ≠ none ∧ ∃ l, h.got = .vals l
/-- a hand in a tower of so many boxes, at a time -/
structure HOk (nb t : Nat) (h : Hand) : Prop where
  le : h.at_ ≤ h.deeds.length
  lt : h.ph ≠ .idle → h.at_ < h.deeds.length
  box : inB nb h.box
  seen : ∀ p, h.seen = some p → inB nb p.1
  got : inB nb h.got.below
  ph : PhOk h
  size : h.got.list.length ≤ t
  mark : ∀ p, h.seen = some p → p.2 ≤ t
  begun : h.begun ≤ t
structure WfS (s : St) : Prop where
  head : inB s.boxes.length s.head.1
  boxes : ∀ p ∈ s.boxes, inB s.boxes.length p.2
  spare : ∀ b ∈ s.spare, b < s.boxes.length
  hands : ∀ h ∈ s.hands, HOk s.boxes.length s.time h
  nb : s.boxes.length ≤ 60 + s.time
  ns : s.spare.length ≤ s.time
  nr : s.rows.length ≤ s.time
  mark : s.head.2 ≤ s.time
theorem HOk.mono {nb nc t u : Nat} {h : Hand} (k : HOk nb t h) (l : nb ≤ nc) (m : t ≤ u) : HOk nc u h :=
  ⟨k.le, k.lt, k.box.mono l, fun p e => (k.seen p e).mono l, k.got.mono l, k.ph, Nat.le_trans k.size m, fun p e => Nat.le_trans (k.mark p e) m, Nat.le_trans k.begun m⟩
/-- one step's state apart from the hands -/
structure WfT (t : Nat) (s : St) : Prop where
  head : inB s.boxes.length s.head.1
  boxes : ∀ p ∈ s.boxes, inB s.boxes.length p.2
  spare : ∀ b ∈ s.spare, b < s.boxes.length
  nb : s.boxes.length ≤ 60 + t
  ns : s.spare.length ≤ t
  nr : s.rows.length ≤ t
  mark : s.head.2 ≤ t
theorem WfS.t {s : St} (w : WfS s) : WfT s.time s := ⟨w.head, w.boxes, w.spare, w.nb, w.ns, w.nr, w.mark⟩
theorem begin_deed {h : Hand} {t : Nat} : (h.begin t).deed = h.deed ∧ (h.begin t).at_ = h.at_ ∧ (h.begin t).deeds = h.deeds ∧ (h.begin t).box = h.box ∧ (h.begin t).seen = h.seen ∧ (h.begin t).got = h.got := by
  unfold Hand.begin; split <;> exact ⟨rfl, rfl, rfl, rfl, rfl, rfl⟩
theorem begin_ok {nb t : Nat} {h : Hand} (k : HOk nb t h) (hl : h.at_ < h.deeds.length) : HOk nb t (h.begin t) ∧ (h.begin t).ph ≠ .idle := by
  unfold Hand.begin
  split
  · rename_i e
    have p := k.ph
    unfold PhOk at p
    rw [e] at p
    dsimp only at p
    obtain ⟨p0, p1, p2, p3⟩ := p
    by_cases ho : h.deed.own = true
    · rw [if_pos ho]
      refine ⟨⟨k.le, fun _ => hl, k.box, k.seen, k.got, ?_, k.size, k.mark, Nat.le_refl t⟩, by simp⟩
      exact ⟨fun h1 _ => p1, ho, p1, p2, p3⟩
    · rw [if_neg ho]
      refine ⟨⟨k.le, fun _ => hl, k.box, k.seen, k.got, ?_, k.size, k.mark, Nat.le_refl t⟩, by simp⟩
      exact ⟨fun h1 _ => p1, fun h1 => absurd h1 ho, fun _ => p2⟩
  · rename_i e
    exact ⟨k, e⟩
theorem next_ok {nb t : Nat} {h : Hand} (k : HOk nb t h) (hl : h.at_ < h.deeds.length) : HOk nb t h.next :=
  ⟨hl, fun z => absurd rfl z, inB_none, fun p e => (by cases e), inB_none, ⟨fun _ _ => rfl, rfl, rfl, rfl⟩, Nat.zero_le _, fun p e => (by cases e), k.begun⟩
theorem inside_ok {t : Nat} {s : St} (w : WfT t s) (b : Nat) : inB s.boxes.length (s.inside b).2 := by
  unfold St.inside
  rw [List.getD_eq_getElem?_getD]
  cases e : s.boxes[b]? with
  | none => exact inB_none
  | some p => exact w.boxes p (List.mem_of_getElem? e)
theorem wt_below {t : Nat} {s : St} (w : WfT t s) (b : Nat) {o : Option Nat} (h : inB s.boxes.length o) : WfT t (s.below b o) := by
  unfold St.below
  refine ⟨by simpa using w.head, fun p hp => ?_, by simpa using w.spare, by simpa using w.nb, w.ns, w.nr, w.mark⟩
  dsimp only at hp ⊢
  rw [List.length_set]
  rcases List.mem_or_eq_of_mem_set hp with hp | rfl
  · exact w.boxes p hp
  · exact h
theorem wt_free {t : Nat} {s : St} (w : WfT t s) {b : Nat} (h : b < s.boxes.length) : WfT (t + 1) (s.free b) := by
  refine ⟨w.head, w.boxes, fun c hc => ?_, Nat.le_succ_of_le w.nb, ?_, Nat.le_succ_of_le w.nr, Nat.le_succ_of_le w.mark⟩
  · rcases List.mem_append.mp hc with hc | hc
    · exact w.spare c hc
    · rw [List.mem_singleton.mp hc]; exact h
  · show (s.spare ++ [b]).length ≤ t + 1
    rw [List.length_append]; exact Nat.succ_le_succ w.ns
/-- rows and mark may grow by one in a step -/
structure WfU (t r m : Nat) (s : St) : Prop where
  head : inB s.boxes.length s.head.1
  boxes : ∀ p ∈ s.boxes, inB s.boxes.length p.2
  spare : ∀ b ∈ s.spare, b < s.boxes.length
  nb : s.boxes.length ≤ 60 + t
  ns : s.spare.length ≤ t
  nr : s.rows.length ≤ r
  mark : s.head.2 ≤ m
theorem took_ok {t : Nat} {s : St} (w : WfT t s) (v : Int) : WfT (t + 1) (s.took v) ∧ s.boxes.length ≤ (s.took v).boxes.length ∧ s.takeBox < (s.took v).boxes.length := by
  unfold St.took St.takeBox
  by_cases h : s.kind = .new ∨ s.spare = []
  · rw [if_pos h, if_pos h]
    refine ⟨⟨?_, fun p hp => ?_, fun b hb => ?_, ?_, Nat.le_succ_of_le w.ns, Nat.le_succ_of_le w.nr, Nat.le_succ_of_le w.mark⟩, ?_, ?_⟩ <;> dsimp only <;> try rw [List.length_append]
    · exact w.head.mono (Nat.le_add_right _ _)
    · rcases List.mem_append.mp hp with hp | hp
      · exact (w.boxes p hp).mono (Nat.le_add_right _ _)
      · rw [List.mem_singleton.mp hp]; exact inB_none
    · exact Nat.lt_of_lt_of_le (w.spare b hb) (Nat.le_add_right _ _)
    · have := w.nb; simp; omega
    · exact Nat.le_add_right _ _
    · simp
  · rw [if_neg h, if_neg h]
    have hne : s.spare ≠ [] := fun z => h (.inr z)
    have hm : s.spare.getLastD 0 ∈ s.spare := by
      rw [List.getLastD_eq_getLast?, List.getLast?_eq_some_getLast hne]; exact List.getLast_mem hne
    refine ⟨⟨?_, fun p hp => ?_, fun b hb => ?_, ?_, ?_, Nat.le_succ_of_le w.nr, Nat.le_succ_of_le w.mark⟩, ?_, ?_⟩ <;> dsimp only <;> try rw [List.length_set]
    · exact w.head
    · rcases List.mem_or_eq_of_mem_set hp with hp | rfl
      · exact w.boxes p hp
      · exact inB_none
    · exact w.spare b (List.dropLast_subset _ hb)
    · exact Nat.le_succ_of_le w.nb
    · have := w.ns; rw [List.length_dropLast]; omega
    · exact Nat.le_refl _
    · exact w.spare _ hm
/-- what a step leaves -/
structure StepOk (s : St) (h : Hand) (r : St × Hand × Step) : Prop where
  t : WfT (s.time + 1) r.1
  hk : HOk r.1.boxes.length (s.time + 1) r.2.1
  nb : s.boxes.length ≤ r.1.boxes.length
  hs : r.1.hands = s.hands
  tm : r.1.time = s.time
  kd : r.1.kind = s.kind
  ds : r.2.1.deeds = h.deeds
theorem WfT.up {t : Nat} {s : St} (w : WfT t s) : WfT (t + 1) s := ⟨w.head, w.boxes, w.spare, Nat.le_succ_of_le w.nb, Nat.le_succ_of_le w.ns, Nat.le_succ_of_le w.nr, Nat.le_succ_of_le w.mark⟩
theorem wt_point {t : Nat} {s : St} (w : WfT t s) (h : Hand) (n : Nat) (e : Option Nat) (a : Ans) : WfT (t + 1) (s.point h n e a) :=
  ⟨w.head, w.boxes, w.spare, Nat.le_succ_of_le w.nb, Nat.le_succ_of_le w.ns, by show (s.rows ++ [_]).length ≤ t + 1; rw [List.length_append]; exact Nat.succ_le_succ w.nr, Nat.le_succ_of_le w.mark⟩
theorem wt_pointF {t : Nat} {s : St} (w : WfT t s) (h : Hand) (n : Nat) (e : Option Nat) (a : Ans) (b : Nat) (hb : b < s.boxes.length) (o : Option Nat) (ho : inB s.boxes.length o) : WfT (t + 1) (((s.setHead o).free b).point h n e a) :=
  ⟨ho, w.boxes, (wt_free w hb).spare, Nat.le_succ_of_le w.nb, (wt_free w hb).ns, (wt_point w h n e a).nr, Nat.succ_le_succ w.mark⟩
theorem wt_pointH {t : Nat} {s : St} (w : WfT t s) (h : Hand) (n : Nat) (e : Option Nat) (a : Ans) (o : Option Nat) (ho : inB s.boxes.length o) : WfT (t + 1) ((s.setHead o).point h n e a) :=
  ⟨ho, w.boxes, w.spare, Nat.le_succ_of_le w.nb, Nat.le_succ_of_le w.ns, (wt_point w h n e a).nr, Nat.succ_le_succ w.mark⟩
theorem wt_freeP {t : Nat} {s : St} (w : WfT t s) (h : Hand) (n : Nat) (e : Option Nat) (a : Ans) (b : Nat) (hb : b < s.boxes.length) : WfT (t + 1) ((s.free b).point h n e a) :=
  ⟨w.head, w.boxes, (wt_free w hb).spare, Nat.le_succ_of_le w.nb, (wt_free w hb).ns, (wt_point w h n e a).nr, Nat.le_succ_of_le w.mark⟩
theorem wt_walk {t : Nat} {s : St} (w : WfT t s) (b : Nat) (hb : b < s.boxes.length) (f : MRow → MRow) : WfT (t + 1) { s.free b with rows := s.rows.map f } :=
  ⟨w.head, w.boxes, (wt_free w hb).spare, Nat.le_succ_of_le w.nb, (wt_free w hb).ns, by show (s.rows.map f).length ≤ t + 1; rw [List.length_map]; exact Nat.le_succ_of_le w.nr, Nat.le_succ_of_le w.mark⟩
theorem own_some {h : Hand} (e : h.box ≠ none) : h.box = some h.own := by
  unfold Hand.own; cases q : h.box with
  | none => exact absurd q e
  | some b => rfl
theorem own_lt {nb t : Nat} {h : Hand} (k : HOk nb t h) (e : h.box ≠ none) : h.own < nb := k.box _ (own_some e)
theorem saw_some {h : Hand} {b m : Nat} (e : h.seen = some (some b, m)) : h.sawB = b := by unfold Hand.sawB; rw [e]; rfl
theorem deed_own_swap {h : Hand} {x : Int} (e : h.deed = .swap x) : h.deed.own = true := by rw [e]; rfl
theorem deed_own_push {h : Hand} {x : Int} (e : h.deed = .push x) : h.deed.own = true := by rw [e]; rfl
theorem take_ok {s : St} {h : Hand} (w : WfT s.time s) (k : HOk s.boxes.length s.time h) (e : h.ph = .take) : StepOk s h (stepTake s h) := by
  have hl := k.lt (by rw [e]; decide)
  have p := k.ph
  unfold PhOk at p; rw [e] at p; dsimp only at p
  obtain ⟨p0, p1, p2, p3, p4⟩ := p
  obtain ⟨a, b, c⟩ := took_ok w h.deed.val
  refine ⟨a, ⟨k.le, fun _ => hl, inB_some c, fun p e => ?_, k.got.mono b, ?_, Nat.le_succ_of_le k.size, fun p e => Nat.le_succ_of_le (k.mark p e), Nat.le_succ_of_le k.begun⟩, b, ?_, ?_, ?_, rfl⟩
  · exact (k.seen p e).mono b
  · refine ⟨fun z => ?_, fun _ => by simp [stepTake], fun _ => p3⟩
    exact absurd z (by show ¬ h.deed.own = false; rw [p1]; decide)
  all_goals (show _ = _; unfold stepTake St.took; dsimp only; split <;> rfl)
theorem look_ok {s : St} {h : Hand} (n : Nat) (w : WfT s.time s) (k : HOk s.boxes.length s.time h) (e : h.ph = .look) : StepOk s h (stepLook s h n) := by
  have hl := k.lt (by rw [e]; decide)
  have p := k.ph
  unfold PhOk at p; rw [e] at p; dsimp only at p
  obtain ⟨p0, p1, p2⟩ := p
  have p0 := fun z => p0 z (by decide)
  have hn : ∀ nb t, s.boxes.length ≤ nb → s.time ≤ t → HOk nb t h.next := fun nb t a b => (next_ok k hl).mono a b
  have mk : ∀ (ph : Ph), (PhOk { h with seen := some s.head, ph := ph }) → HOk s.boxes.length (s.time + 1) { h with seen := some s.head, ph := ph } := fun ph a =>
    ⟨k.le, fun _ => hl, k.box, fun p e => (by cases e; exact w.head), k.got, a, Nat.le_succ_of_le k.size, fun p e => (by cases e; exact Nat.le_succ_of_le w.mark), Nat.le_succ_of_le k.begun⟩
  unfold stepLook
  cases hd : h.deed with
  | push v =>
    dsimp only
    have ho := p1 (deed_own_push hd)
    have w' := wt_below w h.own w.head
    refine ⟨w'.up, ?_, by simp [St.below], rfl, rfl, rfl, rfl⟩
    have e2 : (s.below h.own s.head.1).boxes.length = s.boxes.length := by simp [St.below]
    rw [e2]
    refine mk .put ?_
    have hd' : Hand.deed { h with seen := some s.head, ph := .put } = .push v := hd
    refine ⟨fun z => (by rw [hd'] at z; cases z), ?_⟩
    dsimp only
    rw [hd']
    exact ⟨by simp, ⟨_, _, rfl, fun _ => ⟨v, rfl⟩⟩, fun _ => ho, fun z => (by cases z), fun z => (by cases z), fun _ z => (by cases z)⟩
  | clear =>
    dsimp only
    split
    · exact ⟨wt_point w _ _ _ _, hn _ _ (Nat.le_refl _) (Nat.le_succ _), Nat.le_refl _, rfl, rfl, rfl, rfl⟩
    · rename_i hne
      refine ⟨w.up, mk .put ?_, Nat.le_refl _, rfl, rfl, rfl, rfl⟩
      have hd' : Hand.deed { h with seen := some s.head, ph := .put } = .clear := hd
      refine ⟨fun _ _ => p0 (by rw [hd]; rfl), ?_⟩
      dsimp only
      rw [hd']
      exact ⟨by simp, ⟨_, _, rfl, fun z => absurd z hne⟩, fun z => (by cases z), fun _ => p2 hd, fun z => (by cases z), fun _ z => (by cases z)⟩
  | swap v =>
    dsimp only
    have ho := p1 (deed_own_swap hd)
    split
    · exact ⟨wt_freeP w _ _ _ _ _ (own_lt k ho), hn _ _ (Nat.le_refl _) (Nat.le_succ _), Nat.le_refl _, rfl, rfl, rfl, rfl⟩
    · rename_i hne
      refine ⟨w.up, mk .see ?_, Nat.le_refl _, rfl, rfl, rfl, rfl⟩
      have hd' : Hand.deed { h with seen := some s.head, ph := .see } = .swap v := hd
      refine ⟨fun z => (by rw [hd'] at z; cases z), ?_⟩
      dsimp only
      rw [hd']
      refine ⟨fun _ z => (by cases z), by simp, ?_, fun _ => ho⟩
      cases q : s.head.1 with
      | none => exact absurd q hne
      | some b => exact ⟨b, s.head.2, by rw [← q]⟩
  | pop =>
    dsimp only
    split
    · exact ⟨wt_point w _ _ _ _, hn _ _ (Nat.le_refl _) (Nat.le_succ _), Nat.le_refl _, rfl, rfl, rfl, rfl⟩
    · rename_i hne
      refine ⟨w.up, mk .see ?_, Nat.le_refl _, rfl, rfl, rfl, rfl⟩
      have hd' : Hand.deed { h with seen := some s.head, ph := .see } = .pop := hd
      refine ⟨fun _ _ => p0 (by rw [hd]; rfl), ?_⟩
      dsimp only
      rw [hd']
      refine ⟨fun _ z => (by cases z), by simp, ?_, fun z => (by cases z)⟩
      cases q : s.head.1 with
      | none => exact absurd q hne
      | some b => exact ⟨b, s.head.2, by rw [← q]⟩
  | top =>
    dsimp only
    split
    · exact ⟨wt_point w _ _ _ _, hn _ _ (Nat.le_refl _) (Nat.le_succ _), Nat.le_refl _, rfl, rfl, rfl, rfl⟩
    · rename_i hne
      refine ⟨w.up, mk .see ?_, Nat.le_refl _, rfl, rfl, rfl, rfl⟩
      have hd' : Hand.deed { h with seen := some s.head, ph := .see } = .top := hd
      refine ⟨fun _ _ => p0 (by rw [hd]; rfl), ?_⟩
      dsimp only
      rw [hd']
      refine ⟨fun _ z => (by cases z), by simp, ?_, fun z => (by cases z)⟩
      cases q : s.head.1 with
      | none => exact absurd q hne
      | some b => exact ⟨b, s.head.2, by rw [← q]⟩
theorem see_ok {s : St} {h : Hand} (w : WfT s.time s) (k : HOk s.boxes.length s.time h) (e : h.ph = .see) : StepOk s h (stepSee s h) := by
  have hl := k.lt (by rw [e]; decide)
  have p := k.ph
  unfold PhOk at p; rw [e] at p; dsimp only at p
  obtain ⟨p0, p1, p2, ⟨b, m, hs⟩, p3⟩ := p
  have p0 := fun z => p0 z (by decide)
  have hi := inside_ok w h.sawB
  have mk : ∀ (ph : Ph), PhOk { h with got := .pair (s.inside h.sawB).1 (s.inside h.sawB).2, ph := ph } → HOk s.boxes.length (s.time + 1) { h with got := .pair (s.inside h.sawB).1 (s.inside h.sawB).2, ph := ph } := fun ph a =>
    ⟨k.le, fun _ => hl, k.box, k.seen, hi, a, Nat.zero_le _, fun p e => Nat.le_succ_of_le (k.mark p e), Nat.le_succ_of_le k.begun⟩
  unfold stepSee
  cases hd : h.deed with
  | push v => exact absurd hd (p1 v)
  | clear => exact absurd hd p2
  | top =>
    dsimp only
    refine ⟨w.up, mk .check ?_, Nat.le_refl _, rfl, rfl, rfl, rfl⟩
    exact ⟨fun _ _ => p0 (by rw [hd]; rfl), hd, ⟨b, m, hs⟩, _, _, rfl⟩
  | swap v =>
    dsimp only
    have w' := wt_below w h.own hi
    refine ⟨w'.up, ?_, by simp [St.below], rfl, rfl, rfl, rfl⟩
    have e2 : (s.below h.own (s.inside h.sawB).2).boxes.length = s.boxes.length := by simp [St.below]
    rw [e2]
    refine mk .put ?_
    have hd' : Hand.deed { h with got := .pair (s.inside h.sawB).1 (s.inside h.sawB).2, ph := .put } = .swap v := hd
    refine ⟨fun z => (by rw [hd'] at z; cases z), ?_⟩
    dsimp only
    rw [hd']
    exact ⟨by simp, ⟨some b, m, hs, fun z => (by cases z)⟩, fun _ => p3 (deed_own_swap hd), fun z => (by cases z), fun z => (by cases z), fun _ _ => ⟨_, _, rfl⟩⟩
  | pop =>
    dsimp only
    refine ⟨w.up, mk .put ?_, Nat.le_refl _, rfl, rfl, rfl, rfl⟩
    have hd' : Hand.deed { h with got := .pair (s.inside h.sawB).1 (s.inside h.sawB).2, ph := .put } = .pop := hd
    refine ⟨fun _ _ => p0 (by rw [hd]; rfl), ?_⟩
    dsimp only
    rw [hd']
    exact ⟨by simp, ⟨some b, m, hs, fun z => (by cases z)⟩, fun z => (by cases z), fun z => (by cases z), fun _ => ⟨_, _, rfl⟩, fun _ z => (by cases z)⟩
theorem check_yes {s : St} {h : Hand} {n : Nat} {p : Hd} (hs : h.seen = some p) (e : stillB s.kind s.head p = true) : stepCheck s h n = (s.point h n (some s.time) (.val h.got.val), h.next, .look s.head.1 s.head.2) := by
  unfold stepCheck; rw [if_pos]; rw [hs]; exact e
theorem check_no {s : St} {h : Hand} {n : Nat} {p : Hd} (hs : h.seen = some p) (e : stillB s.kind s.head p = false) : stepCheck s h n = (s, { h with ph := .look }, .look s.head.1 s.head.2) := by
  unfold stepCheck; rw [if_neg]; rw [hs]; show ¬ stillB s.kind s.head p = true; rw [e]; decide
theorem put_no {s : St} {h : Hand} {n : Nat} {p : Hd} (hs : h.seen = some p) (e : stillB s.kind s.head p = false) : stepPut s h n = (s, { h with ph := .look }, .put false) := by
  unfold stepPut; rw [if_neg]; rw [hs]; show ¬ stillB s.kind s.head p = true; rw [e]; decide
section
variable {s : St} {h : Hand} {n : Nat} {p : Hd}
theorem put_yes (hs : h.seen = some p) (e : stillB s.kind s.head p = true) : stepPut s h n =
    let r : St × Hand := match h.deed with
      | .push _ => ((s.setHead h.box).point h n (some s.time) .non, h.next)
      | .clear => ((s.setHead none).point h n none .non, { h with box := some h.sawB, ph := .walk })
      | .pop => (((s.setHead h.got.below).free h.sawB).point h n (some s.time) (.val h.got.val), h.next)
      | _ => (((s.setHead h.box).free h.sawB).point h n (some s.time) (.val h.got.val), h.next)
    (r.1, r.2, .put true) := by
  have c : stillB s.kind s.head (h.seen.getD (none, 0)) = true := by rw [hs]; exact e
  unfold stepPut; exact if_pos c
theorem put_push {x : Int} (hs : h.seen = some p) (e : stillB s.kind s.head p = true) (d : h.deed = .push x) : stepPut s h n = ((s.setHead h.box).point h n (some s.time) .non, h.next, .put true) := by rw [put_yes hs e, d]
theorem put_clear (hs : h.seen = some p) (e : stillB s.kind s.head p = true) (d : h.deed = .clear) : stepPut s h n = ((s.setHead none).point h n none .non, { h with box := some h.sawB, ph := .walk }, .put true) := by rw [put_yes hs e, d]
theorem put_pop (hs : h.seen = some p) (e : stillB s.kind s.head p = true) (d : h.deed = .pop) : stepPut s h n = (((s.setHead h.got.below).free h.sawB).point h n (some s.time) (.val h.got.val), h.next, .put true) := by rw [put_yes hs e, d]
theorem put_swap {x : Int} (hs : h.seen = some p) (e : stillB s.kind s.head p = true) (d : h.deed = .swap x) : stepPut s h n = (((s.setHead h.box).free h.sawB).point h n (some s.time) (.val h.got.val), h.next, .put true) := by rw [put_yes hs e, d]
theorem look_push {x : Int} (d : h.deed = .push x) : stepLook s h n = (s.below h.own s.head.1, { h with seen := some s.head, ph := .put }, .look s.head.1 s.head.2) := by unfold stepLook; rw [d]
theorem look_none {x : Ans} (e : s.head.1 = none) (d : h.deed.own = false) (hx : x = if h.deed = .clear then .tup [] else .non) : stepLook s h n = (s.point { h with seen := some s.head } n (some s.time) x, Hand.next { h with seen := some s.head }, .look s.head.1 s.head.2) := by
  unfold stepLook; cases q : h.deed <;> rw [q] at d hx <;> first | (cases d; done) | skip
  all_goals (simp only [e, if_true]; rw [hx]; rfl)
theorem look_swap0 {x : Int} (e : s.head.1 = none) (d : h.deed = .swap x) : stepLook s h n = ((s.free h.own).point { h with seen := some s.head } n (some s.time) .non, Hand.next { h with seen := some s.head }, .look s.head.1 s.head.2) := by
  unfold stepLook; rw [d]; simp only [e, if_true]
theorem look_some {b : Nat} (e : s.head.1 = some b) (d : ∀ x, h.deed ≠ .push x) : stepLook s h n = (s, { h with seen := some s.head, ph := if h.deed = .clear then .put else .see }, .look s.head.1 s.head.2) := by
  unfold stepLook; cases q : h.deed <;> first | exact absurd q (d _) | (simp [e])
theorem see_top (d : h.deed = .top) : stepSee s h = (s, { h with got := .pair (s.inside h.sawB).1 (s.inside h.sawB).2, ph := .check }, .see h.sawB (s.inside h.sawB).1 (s.inside h.sawB).2) := by unfold stepSee; rw [d]
theorem see_pop (d : h.deed = .pop) : stepSee s h = (s, { h with got := .pair (s.inside h.sawB).1 (s.inside h.sawB).2, ph := .put }, .see h.sawB (s.inside h.sawB).1 (s.inside h.sawB).2) := by unfold stepSee; rw [d]
theorem see_swap {x : Int} (d : h.deed = .swap x) : stepSee s h = (s.below h.own (s.inside h.sawB).2, { h with got := .pair (s.inside h.sawB).1 (s.inside h.sawB).2, ph := .put }, .see h.sawB (s.inside h.sawB).1 (s.inside h.sawB).2) := by unfold stepSee; rw [d]
theorem walk_end (e : (s.inside h.own).2 = none) : stepWalk s h n = ({ s.free h.own with rows := s.rows.map (endRow n h.at_ s.time (h.got.list ++ [(s.inside h.own).1])) }, Hand.next { h with got := .vals (h.got.list ++ [(s.inside h.own).1]), box := (s.inside h.own).2 }, .see h.own (s.inside h.own).1 (s.inside h.own).2) := by
  unfold stepWalk; simp only [e, if_true]
theorem walk_on (e : (s.inside h.own).2 ≠ none) : stepWalk s h n = (s.free h.own, { h with got := .vals (h.got.list ++ [(s.inside h.own).1]), box := (s.inside h.own).2 }, .see h.own (s.inside h.own).1 (s.inside h.own).2) := by
  unfold stepWalk; simp only [e, if_false]
theorem take_new (e : s.kind = .new ∨ s.spare = []) : stepTake s h = ({ s with boxes := s.boxes ++ [(h.deed.val, none)] }, { h with box := some s.boxes.length, ph := .look }, .take s.boxes.length) := by
  unfold stepTake St.took St.takeBox; rw [if_pos e, if_pos e]
theorem take_old (e : ¬ (s.kind = .new ∨ s.spare = [])) : stepTake s h = ({ s with spare := s.spare.dropLast, boxes := s.boxes.set (s.spare.getLastD 0) (h.deed.val, none) }, { h with box := some (s.spare.getLastD 0), ph := .look }, .take (s.spare.getLastD 0)) := by
  unfold stepTake St.took St.takeBox; rw [if_neg e, if_neg e]
end
theorem check_ok {s : St} {h : Hand} (n : Nat) (w : WfT s.time s) (k : HOk s.boxes.length s.time h) (e : h.ph = .check) : StepOk s h (stepCheck s h n) := by
  have hl := k.lt (by rw [e]; decide)
  have p := k.ph
  unfold PhOk at p; rw [e] at p; dsimp only at p
  obtain ⟨p0, hd, ⟨b, m, hs⟩, p3⟩ := p
  have p0 := fun z => p0 z (by decide)
  unfold stepCheck
  split
  · exact ⟨wt_point w _ _ _ _, (next_ok k hl).mono (Nat.le_refl _) (Nat.le_succ _), Nat.le_refl _, rfl, rfl, rfl, rfl⟩
  · refine ⟨w.up, ⟨k.le, fun _ => hl, k.box, k.seen, k.got, ?_, Nat.le_succ_of_le k.size, fun p e => Nat.le_succ_of_le (k.mark p e), Nat.le_succ_of_le k.begun⟩, Nat.le_refl _, rfl, rfl, rfl, rfl⟩
    have hd' : Hand.deed { h with ph := .look } = .top := hd
    refine ⟨fun _ _ => p0 (by rw [hd]; rfl), ?_⟩
    dsimp only
    rw [hd']
    exact ⟨fun z => (by cases z), fun z => (by cases z)⟩
theorem put_ok {s : St} {h : Hand} (n : Nat) (w : WfT s.time s) (k : HOk s.boxes.length s.time h) (e : h.ph = .put) : StepOk s h (stepPut s h n) := by
  have hl := k.lt (by rw [e]; decide)
  have p := k.ph
  unfold PhOk at p; rw [e] at p; dsimp only at p
  obtain ⟨p0, p1, ⟨o, m, hs, ho⟩, p2, p3, p4, p5⟩ := p
  have p0 := fun z => p0 z (by decide)
  have hn := (next_ok k hl).mono (Nat.le_refl _) (Nat.le_succ s.time)
  have saw : (∀ v, h.deed ≠ .push v) → h.sawB < s.boxes.length := fun z => by
    cases q : o with
    | none => obtain ⟨v, hv⟩ := ho q; exact absurd hv (z v)
    | some b => rw [q] at hs; rw [saw_some hs]; exact k.seen _ hs b rfl
  unfold stepPut
  split
  · cases hd : h.deed with
    | push v => exact ⟨wt_pointH w _ _ _ _ _ k.box, hn, Nat.le_refl _, rfl, rfl, rfl, rfl⟩
    | clear =>
      have hb := saw fun v z => by rw [hd] at z; cases z
      refine ⟨wt_pointH w _ _ _ _ _ inB_none, ⟨k.le, fun _ => hl, inB_some hb, k.seen, k.got, ?_, Nat.le_succ_of_le k.size, fun p e => Nat.le_succ_of_le (k.mark p e), Nat.le_succ_of_le k.begun⟩, Nat.le_refl _, rfl, rfl, rfl, rfl⟩
      exact ⟨fun _ z => absurd rfl z, hd, by simp, [], p3 hd⟩
    | pop =>
      have hb := saw fun v z => by rw [hd] at z; cases z
      exact ⟨wt_pointF w _ _ _ _ _ hb _ k.got, hn, Nat.le_refl _, rfl, rfl, rfl, rfl⟩
    | top => exact absurd hd p1
    | swap v =>
      have hb := saw fun v z => by rw [hd] at z; cases z
      exact ⟨wt_pointF w _ _ _ _ _ hb _ k.box, hn, Nat.le_refl _, rfl, rfl, rfl, rfl⟩
  · refine ⟨w.up, ⟨k.le, fun _ => hl, k.box, k.seen, k.got, ?_, Nat.le_succ_of_le k.size, fun p e => Nat.le_succ_of_le (k.mark p e), Nat.le_succ_of_le k.begun⟩, Nat.le_refl _, rfl, rfl, rfl, rfl⟩
    exact ⟨fun z _ => p0 z, p2, p3⟩
theorem walk_ok {s : St} {h : Hand} (n : Nat) (w : WfT s.time s) (k : HOk s.boxes.length s.time h) (e : h.ph = .walk) : StepOk s h (stepWalk s h n) := by
  have hl := k.lt (by rw [e]; decide)
  have p := k.ph
  unfold PhOk at p; rw [e] at p; dsimp only at p
  obtain ⟨p0, hd, p1, l, hg⟩ := p
  have hi := inside_ok w h.own
  have hsz := k.size
  unfold stepWalk
  dsimp only
  split
  · exact ⟨wt_walk w _ (own_lt k p1) _, (next_ok k hl).mono (Nat.le_refl _) (Nat.le_succ _), Nat.le_refl _, rfl, rfl, rfl, rfl⟩
  · rename_i hne
    refine ⟨wt_free w (own_lt k p1), ⟨k.le, fun _ => hl, hi, k.seen, inB_none, ?_, ?_, fun p e => Nat.le_succ_of_le (k.mark p e), Nat.le_succ_of_le k.begun⟩, Nat.le_refl _, rfl, rfl, rfl, rfl⟩
    · refine ⟨fun _ z => absurd e z, ?_⟩
      dsimp only
      rw [e]
      exact ⟨hd, hne, _, rfl⟩
    · show (h.got.list ++ [_]).length ≤ _
      rw [List.length_append]; exact Nat.succ_le_succ hsz
theorem stepOf_ok {s : St} {h : Hand} (n : Nat) (w : WfT s.time s) (k : HOk s.boxes.length s.time h) : StepOk s h (stepOf s h n) := by
  unfold stepOf
  split
  · exact ⟨w.up, k.mono (Nat.le_refl _) (Nat.le_succ _), Nat.le_refl _, rfl, rfl, rfl, rfl⟩
  · rename_i hne
    obtain ⟨k1, hi⟩ := begin_ok k (Nat.lt_of_le_of_ne k.le hne)
    have hds := (begin_deed (h := h) (t := s.time)).2.2.1
    have fix : ∀ {r}, StepOk s (h.begin s.time) r → StepOk s h r := fun {r} a => ⟨a.t, a.hk, a.nb, a.hs, a.tm, a.kd, a.ds.trans hds⟩
    dsimp only
    split <;> rename_i e
    · exact fix (take_ok w k1 e)
    · exact fix (look_ok n w k1 e)
    · exact fix (see_ok w k1 e)
    · exact fix (check_ok n w k1 e)
    · exact fix (put_ok n w k1 e)
    · exact fix (walk_ok n w k1 (by cases q : (h.begin s.time).ph <;> simp_all))
theorem hand_at {s : St} {n : Nat} (hn : n < s.hands.length) : s.hands[n]? = some (s.hand n) := by
  unfold St.hand; rw [List.getD_eq_getElem?_getD, List.getElem?_eq_getElem hn]; rfl
theorem hand_mem {s : St} {n : Nat} (hn : n < s.hands.length) : s.hand n ∈ s.hands := List.mem_of_getElem? (hand_at hn)
theorem wf_step {s : St} {n : Nat} (w : WfS s) (hn : n < s.hands.length) : WfS (step s n).1 ∧ (step s n).1.hands.length = s.hands.length ∧ (step s n).1.time = s.time + 1 ∧ (step s n).1.kind = s.kind := by
  have o := stepOf_ok n w.t (w.hands _ (hand_mem hn))
  unfold step
  dsimp only
  refine ⟨⟨o.t.head, o.t.boxes, o.t.spare, fun h hh => ?_, o.t.nb, o.t.ns, o.t.nr, o.t.mark⟩, by simp, rfl, o.kd⟩
  rcases List.mem_or_eq_of_mem_set hh with hh | rfl
  · exact (w.hands h hh).mono o.nb (Nat.le_succ _)
  · exact o.hk
theorem wf_run {w : List Nat} : ∀ {s : St}, WfS s → (∀ n ∈ w, n < s.hands.length) → WfS (run s w).1 ∧ (run s w).1.hands.length = s.hands.length ∧ (run s w).1.time = s.time + w.length ∧ (run s w).1.kind = s.kind ∧ (run s w).2.length = w.length := by
  induction w with
  | nil => intro s k _; exact ⟨k, rfl, rfl, rfl, rfl⟩
  | cons n w ih =>
    intro s k hw
    obtain ⟨a, b, c, d⟩ := wf_step k (hw n List.mem_cons_self)
    obtain ⟨e, f, g, i, j⟩ := ih a fun m hm => by rw [b]; exact hw m (List.mem_cons_of_mem _ hm)
    refine ⟨e, f.trans b, ?_, i.trans d, ?_⟩
    · show (run (step s n).1 w).1.time = _
      rw [g, c, List.length_cons]; omega
    · show (run (step s n).1 w).2.length + 1 = _
      rw [j]; rfl
theorem wf_tower {start : List Int} {progs : List (List Deed)} {k : Kd} (hl : start.length ≤ 60) : WfS (towerOf start progs k) := by
  have hb : (boxesOf start).length = start.length := by unfold boxesOf; simp
  refine ⟨?_, ?_, fun b h => (by cases h), ?_, ?_, Nat.le_refl _, Nat.le_refl _, Nat.le_refl _⟩
  · show inB (boxesOf start).length (if start = [] then none else some 0)
    split
    · exact inB_none
    · rename_i h
      rw [hb]
      exact inB_some (by cases start with | nil => exact absurd rfl h | cons _ _ => simp)
  · show ∀ p ∈ boxesOf start, inB (boxesOf start).length p.2
    rw [hb]
    intro p hp
    unfold boxesOf at hp
    obtain ⟨i, hi, rfl⟩ := List.mem_map.mp hp
    have := List.mem_range.mp hi
    dsimp only
    split
    · exact inB_none
    · exact inB_some (by omega)
  · intro h hh
    obtain ⟨ds, _, rfl⟩ := List.mem_map.mp hh
    exact ⟨Nat.zero_le _, fun z => absurd rfl z, inB_none, fun p e => (by cases e), inB_none, ⟨fun _ _ => rfl, rfl, rfl, rfl⟩, Nat.le_refl _, fun p e => (by cases e), Nat.le_refl _⟩
  · show (boxesOf start).length ≤ 60 + 0
    rw [hb]; exact hl
end DW

/-! ## MC.lean -/
set_option Elab.async false
set_option linter.all false
set_option maxRecDepth 100000
set_option maxHeartbeats 4000000
set_option autoImplicit false
/-! MC: the machine's states as data, and as own cells. -/
namespace DW
open PySem PySem.Spec L2
open PyProof.Rows hiding St
def optN : Option Nat → D
  | none => .non
  | some n => .int (n : Int)
def Kd.k : Kd → Nat
  | .marks => 5
  | .bare => 6
  | .new => 7
def Ph.k : Ph → Nat
  | .idle => 31
  | .take => 8
  | .look => 9
  | .see => 10
  | .check => 12
  | .put => 11
  | .walk => 13
theorem phk : Ph.idle.k = 31 ∧ Ph.take.k = 8 ∧ Ph.look.k = 9 ∧ Ph.see.k = 10 ∧ Ph.check.k = 12 ∧ Ph.put.k = 11 ∧ Ph.walk.k = 13 := ⟨rfl, rfl, rfl, rfl, rfl, rfl, rfl⟩
theorem kdk : Kd.marks.k = 5 ∧ Kd.bare.k = 6 ∧ Kd.new.k = 7 := ⟨rfl, rfl, rfl⟩
theorem denc_push {v : Int} : (Deed.push v).enc = .tup [.str 0, .int v] := rfl
theorem denc_swap {v : Int} : (Deed.swap v).enc = .tup [.str 1, .int v] := rfl
theorem denc_pop : Deed.pop.enc = .tup [.str 2] := rfl
theorem denc_top : Deed.top.enc = .tup [.str 3] := rfl
theorem denc_clear : Deed.clear.enc = .tup [.str 4] := rfl
def hdD (p : Hd) : D := .tup [optN p.1, .int (p.2 : Int)]
def seenD : Option Hd → D
  | none => .non
  | some p => hdD p
def Got.items : Got → List D
  | .vals l => l.map D.int
  | .pair v w => [.int v, optN w]
def Ans.enc : Ans → D
  | .non => .non
  | .val v => .int v
  | .tup vs => .tup (vs.map D.int)
def boxD (p : Int × Option Nat) : D := .tup [.int p.1, optN p.2]
theorem optN_some {n : Nat} : optN (some n) = .int (n : Int) := rfl
theorem optN_none : optN none = .non := rfl
theorem seenD_some {p : Hd} : seenD (some p) = .tup [optN p.1, .int (p.2 : Int)] := rfl
theorem seenD_none : seenD none = .non := rfl
theorem items_pair {v : Int} {w : Option Nat} : (Got.pair v w).items = [.int v, optN w] := rfl
theorem items_vals {l : List Int} : (Got.vals l).items = l.map D.int := rfl
def MRow.enc (r : MRow) : D := .tup [.int (r.hand : Int), .int (r.at_ : Int), r.deed.enc, .int (r.begun : Int), .int (r.point : Int), optN r.ended, r.ans.enc]
def Step.enc : Step → D
  | .rest => .tup [.str 14]
  | .take b => .tup [.str 8, .int (b : Int)]
  | .look b m => .tup [.str 9, optN b, .int (m : Int)]
  | .see b v w => .tup [.str 10, .int (b : Int), .int v, optN w]
  | .put k => .tup [.str 11, .bl k]
def Hand.enc (h : Hand) : D := .dic [(24, .lst (h.deeds.map Deed.enc)), (25, .int (h.at_ : Int)), (26, .str h.ph.k), (27, optN h.box), (28, seenD h.seen), (29, .lst h.got.items), (30, .int (h.begun : Int))]
def St.enc (s : St) : D := .dic [(18, .str s.kind.k), (19, hdD s.head), (20, .lst (s.boxes.map boxD)), (16, .lst (s.spare.map natD)), (21, .lst (s.hands.map Hand.enc)), (22, .lst (s.rows.map MRow.enc)), (23, .int (s.time : Int))]
/-! own cells -/
theorem dicOf_ref {g : Rg} {c : Nat} : dicOf g (.ref c) = match g[c]? with | some (.dic rs) => some rs | some (.fz (.dic kds)) => some (kds.map fun p => (p.1, .dat p.2)) | _ => none := rfl
theorem dicOf_dic {g : Rg} {kds : List (Nat × D)} : dicOf g (.dat (.dic kds)) = some (kds.map fun p => (p.1, .dat p.2)) := rfl
theorem lstOf_ref {g : Rg} {c : Nat} : lstOf g (.ref c) = match g[c]? with | some (.lst rs) => some rs | some (.fz (.lst ds)) => some (ds.map .dat) | _ => none := rfl
theorem lstOf_lst {g : Rg} {ds : List D} : lstOf g (.dat (.lst ds)) = some (ds.map .dat) := rfl
theorem ltaddr {a b c : Nat} (h : a < b) : a < b + c := Nat.lt_add_right c h
def hdR (a b c d e f i : Rv) : List (Nat × Rv) := [(24, a), (25, b), (26, c), (27, d), (28, e), (29, f), (30, i)]
def stR (a b c d e f i : Rv) : List (Nat × Rv) := [(18, a), (19, b), (20, c), (16, d), (21, e), (22, f), (23, i)]
def handL (h : Hand) (r : Rv) : List (Nat × Rv) := hdR (.dat (.lst (h.deeds.map Deed.enc))) (.dat (.int (h.at_ : Int))) (.dat (.str h.ph.k)) (.dat (optN h.box)) (.dat (seenD h.seen)) r (.dat (.int (h.begun : Int)))
def stL (s : St) (b p c r : Rv) : List (Nat × Rv) := stR (.dat (.str s.kind.k)) (.dat (hdD s.head)) b p c r (.dat (.int (s.time : Int)))
section
variable {a b c d e f i x : Rv}
theorem hdR_len : (hdR a b c d e f i).length = 7 := rfl
theorem stR_len : (stR a b c d e f i).length = 7 := rfl
theorem hdR_24 : (hdR a b c d e f i).lookup 24 = some a := rfl
theorem hdR_25 : (hdR a b c d e f i).lookup 25 = some b := rfl
theorem hdR_26 : (hdR a b c d e f i).lookup 26 = some c := rfl
theorem hdR_27 : (hdR a b c d e f i).lookup 27 = some d := rfl
theorem hdR_28 : (hdR a b c d e f i).lookup 28 = some e := rfl
theorem hdR_29 : (hdR a b c d e f i).lookup 29 = some f := rfl
theorem hdR_30 : (hdR a b c d e f i).lookup 30 = some i := rfl
theorem stR_18 : (stR a b c d e f i).lookup 18 = some a := rfl
theorem stR_19 : (stR a b c d e f i).lookup 19 = some b := rfl
theorem stR_20 : (stR a b c d e f i).lookup 20 = some c := rfl
theorem stR_16 : (stR a b c d e f i).lookup 16 = some d := rfl
theorem stR_21 : (stR a b c d e f i).lookup 21 = some e := rfl
theorem stR_22 : (stR a b c d e f i).lookup 22 = some f := rfl
theorem stR_23 : (stR a b c d e f i).lookup 23 = some i := rfl
theorem hdP_25 : putN (hdR a b c d e f i) 25 x = hdR a x c d e f i := rfl
theorem hdP_26 : putN (hdR a b c d e f i) 26 x = hdR a b x d e f i := rfl
theorem hdP_27 : putN (hdR a b c d e f i) 27 x = hdR a b c x e f i := rfl
theorem hdP_28 : putN (hdR a b c d e f i) 28 x = hdR a b c d x f i := rfl
theorem hdP_29 : putN (hdR a b c d e f i) 29 x = hdR a b c d e x i := rfl
theorem hdP_30 : putN (hdR a b c d e f i) 30 x = hdR a b c d e f x := rfl
theorem stP_19 : putN (stR a b c d e f i) 19 x = stR a x c d e f i := rfl
theorem stP_20 : putN (stR a b c d e f i) 20 x = stR a b x d e f i := rfl
theorem stP_16 : putN (stR a b c d e f i) 16 x = stR a b c x e f i := rfl
theorem stP_21 : putN (stR a b c d e f i) 21 x = stR a b c d x f i := rfl
theorem stP_22 : putN (stR a b c d e f i) 22 x = stR a b c d e x i := rfl
theorem stP_23 : putN (stR a b c d e f i) 23 x = stR a b c d e f x := rfl
end
def dats (l : List D) : List Rv := l.map Rv.dat
/-- where the own cells of a state and of one of its hands are -/
structure Vw where
  cs : Nat
  cb : Nat
  cp : Nat
  cl : Nat
  ch : Nat
  cr : Nat
  cg : Nat
  n : Nat
  hl : List Rv
structure Mem (g : Rg) (v : Vw) (s : St) (h : Hand) : Prop where
  st : g[v.cs]? = some (.dic (stL s (.ref v.cb) (.ref v.cp) (.ref v.cl) (.ref v.cr)))
  bx : g[v.cb]? = some (.lst ((s.boxes.map boxD).map Rv.dat))
  sp : g[v.cp]? = some (.lst ((s.spare.map natD).map Rv.dat))
  hs : g[v.cl]? = some (.lst v.hl)
  hn : v.hl[v.n]? = some (.ref v.ch)
  rw : g[v.cr]? = some (.lst ((s.rows.map MRow.enc).map Rv.dat))
  hd : g[v.ch]? = some (.dic (handL h (.ref v.cg)))
  gt : g[v.cg]? = some (.lst (h.got.items.map Rv.dat))
  nd : [v.cs, v.cb, v.cp, v.cl, v.ch, v.cr, v.cg].Nodup
structure Go (g : Rg) (v : Vw) (g' : Rg) (v' : Vw) : Prop where
  eq : v' = { v with cr := v'.cr, cg := v'.cg }
  cr : v'.cr = v.cr ∨ g.length ≤ v'.cr
  cg : v'.cg = v.cg ∨ g.length ≤ v'.cg
  len : g.length ≤ g'.length
  fr : ∀ c, c < g.length → c ∉ [v.cs, v.cb, v.cp, v.ch, v.cr, v.cg] → g'[c]? = g[c]?
  clo : ∀ (c : Nat) (cell : Cell), g'[c]? = some cell → g[c]? = some cell ∨ cell.lt g'.length
theorem Cell.lt_mono {c : Cell} {n m : Nat} (h : c.lt n) (l : n ≤ m) : c.lt m := by
  have one : ∀ r : Rv, r.lt n → r.lt m := fun r q => by cases r with | dat _ => exact True.intro | ref c => exact Nat.lt_of_lt_of_le q l
  cases c with
  | lst rs => exact fun r hr => one r (h r hr)
  | dic rs => exact fun p hp => one _ (h p hp)
  | fz _ => exact True.intro
  | dead => exact True.intro
theorem Go.same {g g' : Rg} {v v' : Vw} (k : Go g v g' v') : v'.cs = v.cs ∧ v'.n = v.n ∧ v'.ch = v.ch ∧ v'.cp = v.cp ∧ v'.cb = v.cb ∧ v'.cl = v.cl ∧ v'.hl = v.hl := by rw [k.eq]; exact ⟨rfl, rfl, rfl, rfl, rfl, rfl, rfl⟩
theorem Go.refl (g : Rg) (v : Vw) : Go g v g v := ⟨rfl, .inl rfl, .inl rfl, Nat.le_refl _, fun _ _ _ => rfl, fun _ _ h => .inl h⟩
theorem Go.trans {g g1 g2 : Rg} {v v1 v2 : Vw} (a : Go g v g1 v1) (b : Go g1 v1 g2 v2) : Go g v g2 v2 := by
  have e1 : v1.cs = v.cs ∧ v1.cb = v.cb ∧ v1.cp = v.cp ∧ v1.ch = v.ch := by rw [a.eq]; exact ⟨rfl, rfl, rfl, rfl⟩
  refine ⟨?_, ?_, ?_, Nat.le_trans a.len b.len, fun c hc hn => ?_, fun c cell e => ?_⟩
  · have := b.eq; rw [a.eq] at this; exact this
  · rcases b.cr with h | h
    · rw [h]; exact a.cr
    · exact .inr (Nat.le_trans a.len h)
  · rcases b.cg with h | h
    · rw [h]; exact a.cg
    · exact .inr (Nat.le_trans a.len h)
  · rw [b.fr c (Nat.lt_of_lt_of_le hc a.len) ?_, a.fr c hc hn]
    simp only [List.mem_cons, List.not_mem_nil, or_false, not_or] at hn ⊢
    rw [e1.1, e1.2.1, e1.2.2.1, e1.2.2.2]
    refine ⟨hn.1, hn.2.1, hn.2.2.1, hn.2.2.2.1, ?_, ?_⟩
    · rcases a.cr with h | h
      · rw [h]; exact hn.2.2.2.2.1
      · omega
    · rcases a.cg with h | h
      · rw [h]; exact hn.2.2.2.2.2
      · omega
  · rcases b.clo c cell e with h | h
    · rcases a.clo c cell h with h | h
      · exact .inl h
      · exact .inr (Cell.lt_mono h b.len)
    · exact .inr h
theorem fin_go {g0 g' : Rg} {v v' : Vw} {Q : RQ} {d : D} (k : Go g0 v g' v') (q : Q (.dat d) g') : Fin g0 Q (.dat d) g' :=
  .sub g'.length k.len (Nat.le_refl _) (fun c cell _ e => k.clo c cell e) True.intro (by rw [List.take_length]; exact q)
/-- one cell written -/
theorem Go.set {g g1 : Rg} {v v1 : Vw} (a : Go g v g1 v1) {c : Nat} {cell : Cell} (hc : c ∈ [v1.cs, v1.cb, v1.cp, v1.ch, v1.cr, v1.cg]) (hl : cell.lt g1.length) : Go g v (g1.set c cell) v1 := by
  refine a.trans ⟨rfl, .inl rfl, .inl rfl, by simp, fun d hd hn => ?_, fun d x e => ?_⟩
  · rw [List.getElem?_set_ne]; rintro rfl; exact hn hc
  · by_cases h : c = d
    · subst h
      by_cases hlt : c < g1.length
      · rw [List.getElem?_set_self hlt] at e; cases e; exact .inr (by rw [List.length_set]; exact hl)
      · rw [List.getElem?_eq_none (by rw [List.length_set]; omega)] at e; cases e
    · rw [List.getElem?_set_ne h] at e; exact .inl e
/-- a new list -/
theorem Go.app {g g1 : Rg} {v v1 : Vw} (a : Go g v g1 v1) {cell : Cell} (hl : cell.lt g1.length) : Go g v (g1 ++ [cell]) v1 := by
  refine a.trans ⟨rfl, .inl rfl, .inl rfl, by simp, fun d hd hn => by rw [List.getElem?_append_left hd], fun d x e => ?_⟩
  by_cases h : d < g1.length
  · rw [List.getElem?_append_left h] at e; exact .inl e
  · rw [List.getElem?_append_right (by omega)] at e
    cases q : d - g1.length with
    | zero => rw [q] at e; cases e; exact .inr (Cell.lt_mono hl (by simp))
    | succ n => rw [q] at e; simp at e
theorem lt_dats {l : List D} {n : Nat} : Cell.lt n (.lst (l.map Rv.dat)) := fun r hr => by
  obtain ⟨d, _, rfl⟩ := List.mem_map.mp hr; exact True.intro
theorem lt_hand {h : Hand} {c n : Nat} (l : c < n) : Cell.lt n (.dic (handL h (.ref c))) := fun p hp => by
  simp only [handL, hdR, List.mem_cons, List.not_mem_nil, or_false] at hp
  rcases hp with rfl | rfl | rfl | rfl | rfl | rfl | rfl <;> first | exact True.intro | exact l
theorem lt_st {s : St} {a b c d n : Nat} (h1 : a < n) (h2 : b < n) (h3 : c < n) (h4 : d < n) : Cell.lt n (.dic (stL s (.ref a) (.ref b) (.ref c) (.ref d))) := fun p hp => by
  simp only [stL, stR, List.mem_cons, List.not_mem_nil, or_false] at hp
  rcases hp with rfl | rfl | rfl | rfl | rfl | rfl | rfl <;> first | exact True.intro | assumption
section
variable {g : Rg} {v : Vw} {s : St} {h : Hand}
theorem lt_of_some {c : Nat} {x : Cell} (e : g[c]? = some x) : c < g.length := (List.getElem?_eq_some_iff.mp e).1
/-- all that is told of the cells' numbers -/
theorem Mem.ne (m : Mem g v s h) : (v.cs ≠ v.cb ∧ v.cs ≠ v.cp ∧ v.cs ≠ v.cl ∧ v.cs ≠ v.ch ∧ v.cs ≠ v.cr ∧ v.cs ≠ v.cg) ∧ (v.cb ≠ v.cp ∧ v.cb ≠ v.cl ∧ v.cb ≠ v.ch ∧ v.cb ≠ v.cr ∧ v.cb ≠ v.cg) ∧ (v.cp ≠ v.cl ∧ v.cp ≠ v.ch ∧ v.cp ≠ v.cr ∧ v.cp ≠ v.cg) ∧ (v.cl ≠ v.ch ∧ v.cl ≠ v.cr ∧ v.cl ≠ v.cg) ∧ (v.ch ≠ v.cr ∧ v.ch ≠ v.cg) ∧ v.cr ≠ v.cg := by
  have := m.nd
  simp only [List.nodup_cons, List.mem_cons, List.not_mem_nil, or_false, not_or, List.nodup_nil, and_true, not_false_eq_true] at this
  exact this
theorem Mem.nes (m : Mem g v s h) : ((¬ v.cb = v.cs ∧ ¬ v.cp = v.cs ∧ ¬ v.cl = v.cs ∧ ¬ v.ch = v.cs ∧ ¬ v.cr = v.cs ∧ ¬ v.cg = v.cs) ∧ (¬ v.cp = v.cb ∧ ¬ v.cl = v.cb ∧ ¬ v.ch = v.cb ∧ ¬ v.cr = v.cb ∧ ¬ v.cg = v.cb) ∧ (¬ v.cl = v.cp ∧ ¬ v.ch = v.cp ∧ ¬ v.cr = v.cp ∧ ¬ v.cg = v.cp) ∧ (¬ v.ch = v.cl ∧ ¬ v.cr = v.cl ∧ ¬ v.cg = v.cl) ∧ (¬ v.cr = v.ch ∧ ¬ v.cg = v.ch) ∧ ¬ v.cg = v.cr) ∧
    ((¬ v.cs = v.cb ∧ ¬ v.cs = v.cp ∧ ¬ v.cs = v.cl ∧ ¬ v.cs = v.ch ∧ ¬ v.cs = v.cr ∧ ¬ v.cs = v.cg) ∧ (¬ v.cb = v.cp ∧ ¬ v.cb = v.cl ∧ ¬ v.cb = v.ch ∧ ¬ v.cb = v.cr ∧ ¬ v.cb = v.cg) ∧ (¬ v.cp = v.cl ∧ ¬ v.cp = v.ch ∧ ¬ v.cp = v.cr ∧ ¬ v.cp = v.cg) ∧ (¬ v.cl = v.ch ∧ ¬ v.cl = v.cr ∧ ¬ v.cl = v.cg) ∧ (¬ v.ch = v.cr ∧ ¬ v.ch = v.cg) ∧ ¬ v.cr = v.cg) ∧
    (v.cs < g.length ∧ v.cb < g.length ∧ v.cp < g.length ∧ v.cl < g.length ∧ v.ch < g.length ∧ v.cr < g.length ∧ v.cg < g.length) := by
  obtain ⟨⟨n1, n2, n3, n4, n5, n6⟩, ⟨n7, n8, n9, n10, n11⟩, ⟨n12, n13, n14, n15⟩, ⟨n16, n17, n18⟩, ⟨n19, n20⟩, n21⟩ := m.ne
  exact ⟨⟨⟨n1.symm, n2.symm, n3.symm, n4.symm, n5.symm, n6.symm⟩, ⟨n7.symm, n8.symm, n9.symm, n10.symm, n11.symm⟩, ⟨n12.symm, n13.symm, n14.symm, n15.symm⟩, ⟨n16.symm, n17.symm, n18.symm⟩, ⟨n19.symm, n20.symm⟩, n21.symm⟩,
    ⟨⟨n1, n2, n3, n4, n5, n6⟩, ⟨n7, n8, n9, n10, n11⟩, ⟨n12, n13, n14, n15⟩, ⟨n16, n17, n18⟩, ⟨n19, n20⟩, n21⟩,
    lt_of_some m.st, lt_of_some m.bx, lt_of_some m.sp, lt_of_some m.hs, lt_of_some m.hd, lt_of_some m.rw, lt_of_some m.gt⟩
/-- a hand's own fields -/
theorem Mem.setH (m : Mem g v s h) (h' : Hand) (e : h'.got = h.got) : Mem (g.set v.ch (.dic (handL h' (.ref v.cg)))) v s h' := by
  obtain ⟨⟨n1, n2, n3, n4, n5, n6⟩, ⟨n7, n8, n9, n10, n11⟩, ⟨n12, n13, n14, n15⟩, ⟨n16, n17, n18⟩, ⟨n19, n20⟩, n21⟩ := m.ne
  refine ⟨?_, ?_, ?_, ?_, m.hn, ?_, ?_, ?_, m.nd⟩
  · rw [List.getElem?_set_ne (by first | assumption | (apply Ne.symm; assumption) | exact Nat.ne_of_lt (lt_of_some m.hd) | exact Ne.symm hn.1 | exact Ne.symm hn.2.1 | exact Ne.symm hn.2.2.1)]; exact m.st
  · rw [List.getElem?_set_ne (by first | assumption | (apply Ne.symm; assumption) | exact Nat.ne_of_lt (lt_of_some m.hd) | exact Ne.symm hn.1 | exact Ne.symm hn.2.1 | exact Ne.symm hn.2.2.1)]; exact m.bx
  · rw [List.getElem?_set_ne (by first | assumption | (apply Ne.symm; assumption) | exact Nat.ne_of_lt (lt_of_some m.hd) | exact Ne.symm hn.1 | exact Ne.symm hn.2.1 | exact Ne.symm hn.2.2.1)]; exact m.sp
  · rw [List.getElem?_set_ne (by first | assumption | (apply Ne.symm; assumption) | exact Nat.ne_of_lt (lt_of_some m.hd) | exact Ne.symm hn.1 | exact Ne.symm hn.2.1 | exact Ne.symm hn.2.2.1)]; exact m.hs
  · rw [List.getElem?_set_ne (by first | assumption | (apply Ne.symm; assumption) | exact Nat.ne_of_lt (lt_of_some m.hd) | exact Ne.symm hn.1 | exact Ne.symm hn.2.1 | exact Ne.symm hn.2.2.1)]; exact m.rw
  · exact List.getElem?_set_self (lt_of_some m.hd)
  · rw [List.getElem?_set_ne (by first | assumption | (apply Ne.symm; assumption) | exact Nat.ne_of_lt (lt_of_some m.hd) | exact Ne.symm hn.1 | exact Ne.symm hn.2.1 | exact Ne.symm hn.2.2.1), e]; exact m.gt
theorem Mem.goH {g0 : Rg} {v0 : Vw} (m : Mem g v s h) (k : Go g0 v0 g v) (h' : Hand) : Go g0 v0 (g.set v.ch (.dic (handL h' (.ref v.cg)))) v :=
  k.set (by simp) (lt_hand (lt_of_some m.gt))
/-- a state's own fields -/
theorem Mem.setS (m : Mem g v s h) (s' : St) (e1 : s'.boxes = s.boxes) (e2 : s'.spare = s.spare) (e3 : s'.rows = s.rows) : Mem (g.set v.cs (.dic (stL s' (.ref v.cb) (.ref v.cp) (.ref v.cl) (.ref v.cr)))) v s' h := by
  obtain ⟨⟨n1, n2, n3, n4, n5, n6⟩, ⟨n7, n8, n9, n10, n11⟩, ⟨n12, n13, n14, n15⟩, ⟨n16, n17, n18⟩, ⟨n19, n20⟩, n21⟩ := m.ne
  refine ⟨List.getElem?_set_self (lt_of_some m.st), ?_, ?_, ?_, m.hn, ?_, ?_, ?_, m.nd⟩
  · rw [List.getElem?_set_ne (by first | assumption | (apply Ne.symm; assumption) | exact Nat.ne_of_lt (lt_of_some m.hd) | exact Ne.symm hn.1 | exact Ne.symm hn.2.1 | exact Ne.symm hn.2.2.1), e1]; exact m.bx
  · rw [List.getElem?_set_ne (by first | assumption | (apply Ne.symm; assumption) | exact Nat.ne_of_lt (lt_of_some m.hd) | exact Ne.symm hn.1 | exact Ne.symm hn.2.1 | exact Ne.symm hn.2.2.1), e2]; exact m.sp
  · rw [List.getElem?_set_ne (by first | assumption | (apply Ne.symm; assumption) | exact Nat.ne_of_lt (lt_of_some m.hd) | exact Ne.symm hn.1 | exact Ne.symm hn.2.1 | exact Ne.symm hn.2.2.1)]; exact m.hs
  · rw [List.getElem?_set_ne (by first | assumption | (apply Ne.symm; assumption) | exact Nat.ne_of_lt (lt_of_some m.hd) | exact Ne.symm hn.1 | exact Ne.symm hn.2.1 | exact Ne.symm hn.2.2.1), e3]; exact m.rw
  · rw [List.getElem?_set_ne (by first | assumption | (apply Ne.symm; assumption) | exact Nat.ne_of_lt (lt_of_some m.hd) | exact Ne.symm hn.1 | exact Ne.symm hn.2.1 | exact Ne.symm hn.2.2.1)]; exact m.hd
  · rw [List.getElem?_set_ne (by first | assumption | (apply Ne.symm; assumption) | exact Nat.ne_of_lt (lt_of_some m.hd) | exact Ne.symm hn.1 | exact Ne.symm hn.2.1 | exact Ne.symm hn.2.2.1)]; exact m.gt
theorem Mem.goS {g0 : Rg} {v0 : Vw} (m : Mem g v s h) (k : Go g0 v0 g v) (s' : St) : Go g0 v0 (g.set v.cs (.dic (stL s' (.ref v.cb) (.ref v.cp) (.ref v.cl) (.ref v.cr)))) v :=
  k.set (by simp) (lt_st (lt_of_some m.bx) (lt_of_some m.sp) (lt_of_some m.hs) (lt_of_some m.rw))
theorem Mem.setB (m : Mem g v s h) (l : List (Int × Option Nat)) : Mem (g.set v.cb (.lst ((l.map boxD).map Rv.dat))) v { s with boxes := l } h := by
  obtain ⟨⟨n1, n2, n3, n4, n5, n6⟩, ⟨n7, n8, n9, n10, n11⟩, ⟨n12, n13, n14, n15⟩, ⟨n16, n17, n18⟩, ⟨n19, n20⟩, n21⟩ := m.ne
  refine ⟨?_, List.getElem?_set_self (lt_of_some m.bx), ?_, ?_, m.hn, ?_, ?_, ?_, m.nd⟩
  · rw [List.getElem?_set_ne (by first | assumption | (apply Ne.symm; assumption) | exact Nat.ne_of_lt (lt_of_some m.hd) | exact Ne.symm hn.1 | exact Ne.symm hn.2.1 | exact Ne.symm hn.2.2.1)]; exact m.st
  · rw [List.getElem?_set_ne (by first | assumption | (apply Ne.symm; assumption) | exact Nat.ne_of_lt (lt_of_some m.hd) | exact Ne.symm hn.1 | exact Ne.symm hn.2.1 | exact Ne.symm hn.2.2.1)]; exact m.sp
  · rw [List.getElem?_set_ne (by first | assumption | (apply Ne.symm; assumption) | exact Nat.ne_of_lt (lt_of_some m.hd) | exact Ne.symm hn.1 | exact Ne.symm hn.2.1 | exact Ne.symm hn.2.2.1)]; exact m.hs
  · rw [List.getElem?_set_ne (by first | assumption | (apply Ne.symm; assumption) | exact Nat.ne_of_lt (lt_of_some m.hd) | exact Ne.symm hn.1 | exact Ne.symm hn.2.1 | exact Ne.symm hn.2.2.1)]; exact m.rw
  · rw [List.getElem?_set_ne (by first | assumption | (apply Ne.symm; assumption) | exact Nat.ne_of_lt (lt_of_some m.hd) | exact Ne.symm hn.1 | exact Ne.symm hn.2.1 | exact Ne.symm hn.2.2.1)]; exact m.hd
  · rw [List.getElem?_set_ne (by first | assumption | (apply Ne.symm; assumption) | exact Nat.ne_of_lt (lt_of_some m.hd) | exact Ne.symm hn.1 | exact Ne.symm hn.2.1 | exact Ne.symm hn.2.2.1)]; exact m.gt
theorem Mem.goB {g0 : Rg} {v0 : Vw} (m : Mem g v s h) (k : Go g0 v0 g v) (l : List D) : Go g0 v0 (g.set v.cb (.lst (l.map Rv.dat))) v := k.set (by simp) lt_dats
theorem Mem.setP (m : Mem g v s h) (l : List Nat) : Mem (g.set v.cp (.lst ((l.map natD).map Rv.dat))) v { s with spare := l } h := by
  obtain ⟨⟨n1, n2, n3, n4, n5, n6⟩, ⟨n7, n8, n9, n10, n11⟩, ⟨n12, n13, n14, n15⟩, ⟨n16, n17, n18⟩, ⟨n19, n20⟩, n21⟩ := m.ne
  refine ⟨?_, ?_, List.getElem?_set_self (lt_of_some m.sp), ?_, m.hn, ?_, ?_, ?_, m.nd⟩
  · rw [List.getElem?_set_ne (by first | assumption | (apply Ne.symm; assumption) | exact Nat.ne_of_lt (lt_of_some m.hd) | exact Ne.symm hn.1 | exact Ne.symm hn.2.1 | exact Ne.symm hn.2.2.1)]; exact m.st
  · rw [List.getElem?_set_ne (by first | assumption | (apply Ne.symm; assumption) | exact Nat.ne_of_lt (lt_of_some m.hd) | exact Ne.symm hn.1 | exact Ne.symm hn.2.1 | exact Ne.symm hn.2.2.1)]; exact m.bx
  · rw [List.getElem?_set_ne (by first | assumption | (apply Ne.symm; assumption) | exact Nat.ne_of_lt (lt_of_some m.hd) | exact Ne.symm hn.1 | exact Ne.symm hn.2.1 | exact Ne.symm hn.2.2.1)]; exact m.hs
  · rw [List.getElem?_set_ne (by first | assumption | (apply Ne.symm; assumption) | exact Nat.ne_of_lt (lt_of_some m.hd) | exact Ne.symm hn.1 | exact Ne.symm hn.2.1 | exact Ne.symm hn.2.2.1)]; exact m.rw
  · rw [List.getElem?_set_ne (by first | assumption | (apply Ne.symm; assumption) | exact Nat.ne_of_lt (lt_of_some m.hd) | exact Ne.symm hn.1 | exact Ne.symm hn.2.1 | exact Ne.symm hn.2.2.1)]; exact m.hd
  · rw [List.getElem?_set_ne (by first | assumption | (apply Ne.symm; assumption) | exact Nat.ne_of_lt (lt_of_some m.hd) | exact Ne.symm hn.1 | exact Ne.symm hn.2.1 | exact Ne.symm hn.2.2.1)]; exact m.gt
theorem Mem.goP {g0 : Rg} {v0 : Vw} (m : Mem g v s h) (k : Go g0 v0 g v) (l : List D) : Go g0 v0 (g.set v.cp (.lst (l.map Rv.dat))) v := k.set (by simp) lt_dats
theorem Mem.setR (m : Mem g v s h) (l : List MRow) : Mem (g.set v.cr (.lst ((l.map MRow.enc).map Rv.dat))) v { s with rows := l } h := by
  obtain ⟨⟨n1, n2, n3, n4, n5, n6⟩, ⟨n7, n8, n9, n10, n11⟩, ⟨n12, n13, n14, n15⟩, ⟨n16, n17, n18⟩, ⟨n19, n20⟩, n21⟩ := m.ne
  refine ⟨?_, ?_, ?_, ?_, m.hn, List.getElem?_set_self (lt_of_some m.rw), ?_, ?_, m.nd⟩
  · rw [List.getElem?_set_ne (by first | assumption | (apply Ne.symm; assumption) | exact Nat.ne_of_lt (lt_of_some m.hd) | exact Ne.symm hn.1 | exact Ne.symm hn.2.1 | exact Ne.symm hn.2.2.1)]; exact m.st
  · rw [List.getElem?_set_ne (by first | assumption | (apply Ne.symm; assumption) | exact Nat.ne_of_lt (lt_of_some m.hd) | exact Ne.symm hn.1 | exact Ne.symm hn.2.1 | exact Ne.symm hn.2.2.1)]; exact m.bx
  · rw [List.getElem?_set_ne (by first | assumption | (apply Ne.symm; assumption) | exact Nat.ne_of_lt (lt_of_some m.hd) | exact Ne.symm hn.1 | exact Ne.symm hn.2.1 | exact Ne.symm hn.2.2.1)]; exact m.sp
  · rw [List.getElem?_set_ne (by first | assumption | (apply Ne.symm; assumption) | exact Nat.ne_of_lt (lt_of_some m.hd) | exact Ne.symm hn.1 | exact Ne.symm hn.2.1 | exact Ne.symm hn.2.2.1)]; exact m.hs
  · rw [List.getElem?_set_ne (by first | assumption | (apply Ne.symm; assumption) | exact Nat.ne_of_lt (lt_of_some m.hd) | exact Ne.symm hn.1 | exact Ne.symm hn.2.1 | exact Ne.symm hn.2.2.1)]; exact m.hd
  · rw [List.getElem?_set_ne (by first | assumption | (apply Ne.symm; assumption) | exact Nat.ne_of_lt (lt_of_some m.hd) | exact Ne.symm hn.1 | exact Ne.symm hn.2.1 | exact Ne.symm hn.2.2.1)]; exact m.gt
theorem Mem.goR {g0 : Rg} {v0 : Vw} (m : Mem g v s h) (k : Go g0 v0 g v) (l : List D) : Go g0 v0 (g.set v.cr (.lst (l.map Rv.dat))) v := k.set (by simp) lt_dats
/-- what the hand has got, in place -/
theorem Mem.setG (m : Mem g v s h) (x : Got) : Mem (g.set v.cg (.lst (x.items.map Rv.dat))) v s { h with got := x } := by
  obtain ⟨⟨n1, n2, n3, n4, n5, n6⟩, ⟨n7, n8, n9, n10, n11⟩, ⟨n12, n13, n14, n15⟩, ⟨n16, n17, n18⟩, ⟨n19, n20⟩, n21⟩ := m.ne
  refine ⟨?_, ?_, ?_, ?_, m.hn, ?_, ?_, List.getElem?_set_self (lt_of_some m.gt), m.nd⟩
  · rw [List.getElem?_set_ne (by first | assumption | (apply Ne.symm; assumption) | exact Nat.ne_of_lt (lt_of_some m.hd) | exact Ne.symm hn.1 | exact Ne.symm hn.2.1 | exact Ne.symm hn.2.2.1)]; exact m.st
  · rw [List.getElem?_set_ne (by first | assumption | (apply Ne.symm; assumption) | exact Nat.ne_of_lt (lt_of_some m.hd) | exact Ne.symm hn.1 | exact Ne.symm hn.2.1 | exact Ne.symm hn.2.2.1)]; exact m.bx
  · rw [List.getElem?_set_ne (by first | assumption | (apply Ne.symm; assumption) | exact Nat.ne_of_lt (lt_of_some m.hd) | exact Ne.symm hn.1 | exact Ne.symm hn.2.1 | exact Ne.symm hn.2.2.1)]; exact m.sp
  · rw [List.getElem?_set_ne (by first | assumption | (apply Ne.symm; assumption) | exact Nat.ne_of_lt (lt_of_some m.hd) | exact Ne.symm hn.1 | exact Ne.symm hn.2.1 | exact Ne.symm hn.2.2.1)]; exact m.hs
  · rw [List.getElem?_set_ne (by first | assumption | (apply Ne.symm; assumption) | exact Nat.ne_of_lt (lt_of_some m.hd) | exact Ne.symm hn.1 | exact Ne.symm hn.2.1 | exact Ne.symm hn.2.2.1)]; exact m.rw
  · rw [List.getElem?_set_ne (by first | assumption | (apply Ne.symm; assumption) | exact Nat.ne_of_lt (lt_of_some m.hd) | exact Ne.symm hn.1 | exact Ne.symm hn.2.1 | exact Ne.symm hn.2.2.1)]; exact m.hd
theorem Mem.goG {g0 : Rg} {v0 : Vw} (m : Mem g v s h) (k : Go g0 v0 g v) (l : List D) : Go g0 v0 (g.set v.cg (.lst (l.map Rv.dat))) v := k.set (by simp) lt_dats
theorem Go.re {g0 g1 : Rg} {v0 v1 : Vw} (k : Go g0 v0 g1 v1) (r c : Nat) (hr : r = v1.cr ∨ g0.length ≤ r) (hc : c = v1.cg ∨ g0.length ≤ c) : Go g0 v0 g1 { v1 with cr := r, cg := c } := by
  refine ⟨?_, ?_, ?_, k.len, k.fr, k.clo⟩
  · have := k.eq; rw [this]
  · rcases hr with rfl | h
    · exact k.cr
    · exact .inr h
  · rcases hc with rfl | h
    · exact k.cg
    · exact .inr h
/-- .. as a new list -/
theorem Mem.newG (m : Mem g v s h) (x : Got) (h' : Hand) (e : h'.got = x) : Mem ((g ++ [Cell.lst (x.items.map Rv.dat)]).set v.ch (.dic (handL h' (.ref g.length)))) { v with cg := g.length } s h' := by
  obtain ⟨⟨n1, n2, n3, n4, n5, n6⟩, ⟨n7, n8, n9, n10, n11⟩, ⟨n12, n13, n14, n15⟩, ⟨n16, n17, n18⟩, ⟨n19, n20⟩, n21⟩ := m.ne
  have l1 := lt_of_some m.st; have l2 := lt_of_some m.bx; have l3 := lt_of_some m.sp; have l4 := lt_of_some m.hs; have l5 := lt_of_some m.rw; have l6 := lt_of_some m.hd
  refine ⟨?_, ?_, ?_, ?_, m.hn, ?_, ?_, ?_, ?_⟩
  · dsimp only; rw [List.getElem?_set_ne (by first | assumption | (apply Ne.symm; assumption) | exact Nat.ne_of_lt (lt_of_some m.hd) | exact Ne.symm hn.1 | exact Ne.symm hn.2.1 | exact Ne.symm hn.2.2.1), List.getElem?_append_left l1]; exact m.st
  · dsimp only; rw [List.getElem?_set_ne (by first | assumption | (apply Ne.symm; assumption) | exact Nat.ne_of_lt (lt_of_some m.hd) | exact Ne.symm hn.1 | exact Ne.symm hn.2.1 | exact Ne.symm hn.2.2.1), List.getElem?_append_left l2]; exact m.bx
  · dsimp only; rw [List.getElem?_set_ne (by first | assumption | (apply Ne.symm; assumption) | exact Nat.ne_of_lt (lt_of_some m.hd) | exact Ne.symm hn.1 | exact Ne.symm hn.2.1 | exact Ne.symm hn.2.2.1), List.getElem?_append_left l3]; exact m.sp
  · dsimp only; rw [List.getElem?_set_ne (by first | assumption | (apply Ne.symm; assumption) | exact Nat.ne_of_lt (lt_of_some m.hd) | exact Ne.symm hn.1 | exact Ne.symm hn.2.1 | exact Ne.symm hn.2.2.1), List.getElem?_append_left l4]; exact m.hs
  · dsimp only; rw [List.getElem?_set_ne (by first | assumption | (apply Ne.symm; assumption) | exact Nat.ne_of_lt (lt_of_some m.hd) | exact Ne.symm hn.1 | exact Ne.symm hn.2.1 | exact Ne.symm hn.2.2.1), List.getElem?_append_left l5]; exact m.rw
  · exact List.getElem?_set_self (by rw [List.length_append]; exact Nat.lt_of_lt_of_le l6 (Nat.le_add_right _ _))
  · dsimp only; rw [List.getElem?_set_ne (by first | assumption | (apply Ne.symm; assumption) | exact Nat.ne_of_lt (lt_of_some m.hd) | exact Ne.symm hn.1 | exact Ne.symm hn.2.1 | exact Ne.symm hn.2.2.1), e, List.getElem?_append_right (Nat.le_refl _), Nat.sub_self]; rfl
  · simp only [List.nodup_cons, List.mem_cons, List.not_mem_nil, or_false, not_or, List.nodup_nil, and_true, not_false_eq_true]; refine ⟨⟨?_, ?_, ?_, ?_, ?_, ?_⟩, ⟨?_, ?_, ?_, ?_, ?_⟩, ⟨?_, ?_, ?_, ?_⟩, ⟨?_, ?_, ?_⟩, ⟨?_, ?_⟩, ?_⟩ <;> first | assumption | (apply Nat.ne_of_lt; assumption) | (apply Ne.symm; first | assumption | exact hn.1 | exact hn.2.1 | exact hn.2.2.1 | exact hn.2.2.2.1 | exact hn.2.2.2.2.1 | exact hn.2.2.2.2.2) | exact hn.1 | exact hn.2.1 | exact hn.2.2.1 | exact hn.2.2.2.1 | exact hn.2.2.2.2.1 | exact hn.2.2.2.2.2
theorem Mem.goN {g0 : Rg} {v0 : Vw} (m : Mem g v s h) (k : Go g0 v0 g v) (x : Got) (h' : Hand) : Go g0 v0 ((g ++ [Cell.lst (x.items.map Rv.dat)]).set v.ch (.dic (handL h' (.ref g.length)))) { v with cg := g.length } :=
  (((k.app lt_dats).re v.cr g.length (.inl rfl) (.inr k.len)).set (by simp) (lt_hand (by simp)))
/-- the rows as a new list -/
theorem Mem.newR (m : Mem g v s h) (l : List MRow) {c : Nat} (hc : g[c]? = some (.lst ((l.map MRow.enc).map Rv.dat))) (hn : c ∉ [v.cs, v.cb, v.cp, v.cl, v.ch, v.cg]) : Mem (g.set v.cs (.dic (stL s (.ref v.cb) (.ref v.cp) (.ref v.cl) (.ref c)))) { v with cr := c } { s with rows := l } h := by
  obtain ⟨⟨n1, n2, n3, n4, n5, n6⟩, ⟨n7, n8, n9, n10, n11⟩, ⟨n12, n13, n14, n15⟩, ⟨n16, n17, n18⟩, ⟨n19, n20⟩, n21⟩ := m.ne
  simp only [List.mem_cons, List.not_mem_nil, or_false, not_or] at hn
  have l1 := lt_of_some m.st
  refine ⟨List.getElem?_set_self l1, ?_, ?_, ?_, m.hn, ?_, ?_, ?_, ?_⟩
  · dsimp only; rw [List.getElem?_set_ne (by first | assumption | (apply Ne.symm; assumption) | exact Nat.ne_of_lt (lt_of_some m.hd) | exact Ne.symm hn.1 | exact Ne.symm hn.2.1 | exact Ne.symm hn.2.2.1)]; exact m.bx
  · dsimp only; rw [List.getElem?_set_ne (by first | assumption | (apply Ne.symm; assumption) | exact Nat.ne_of_lt (lt_of_some m.hd) | exact Ne.symm hn.1 | exact Ne.symm hn.2.1 | exact Ne.symm hn.2.2.1)]; exact m.sp
  · dsimp only; rw [List.getElem?_set_ne (by first | assumption | (apply Ne.symm; assumption) | exact Nat.ne_of_lt (lt_of_some m.hd) | exact Ne.symm hn.1 | exact Ne.symm hn.2.1 | exact Ne.symm hn.2.2.1)]; exact m.hs
  · dsimp only; rw [List.getElem?_set_ne (by first | assumption | (apply Ne.symm; assumption) | exact Nat.ne_of_lt (lt_of_some m.hd) | exact Ne.symm hn.1 | exact Ne.symm hn.2.1 | exact Ne.symm hn.2.2.1)]; exact hc
  · dsimp only; rw [List.getElem?_set_ne (by first | assumption | (apply Ne.symm; assumption) | exact Nat.ne_of_lt (lt_of_some m.hd) | exact Ne.symm hn.1 | exact Ne.symm hn.2.1 | exact Ne.symm hn.2.2.1)]; exact m.hd
  · dsimp only; rw [List.getElem?_set_ne (by first | assumption | (apply Ne.symm; assumption) | exact Nat.ne_of_lt (lt_of_some m.hd) | exact Ne.symm hn.1 | exact Ne.symm hn.2.1 | exact Ne.symm hn.2.2.1)]; exact m.gt
  · simp only [List.nodup_cons, List.mem_cons, List.not_mem_nil, or_false, not_or, List.nodup_nil, and_true, not_false_eq_true]; refine ⟨⟨?_, ?_, ?_, ?_, ?_, ?_⟩, ⟨?_, ?_, ?_, ?_, ?_⟩, ⟨?_, ?_, ?_, ?_⟩, ⟨?_, ?_, ?_⟩, ⟨?_, ?_⟩, ?_⟩ <;> first | assumption | (apply Nat.ne_of_lt; assumption) | (apply Ne.symm; first | assumption | exact hn.1 | exact hn.2.1 | exact hn.2.2.1 | exact hn.2.2.2.1 | exact hn.2.2.2.2.1 | exact hn.2.2.2.2.2) | exact hn.1 | exact hn.2.1 | exact hn.2.2.1 | exact hn.2.2.2.1 | exact hn.2.2.2.2.1 | exact hn.2.2.2.2.2
theorem Mem.goQ {g0 : Rg} {v0 : Vw} (m : Mem g v s h) (k : Go g0 v0 g v) {c : Nat} (hl : c < g.length) (hc : g0.length ≤ c) : Go g0 v0 (g.set v.cs (.dic (stL s (.ref v.cb) (.ref v.cp) (.ref v.cl) (.ref c)))) { v with cr := c } :=
  ((k.re c v.cg (.inr hc) (.inl rfl)).set (by simp) (lt_st (lt_of_some m.bx) (lt_of_some m.sp) (lt_of_some m.hs) hl))
/-- new cells behind -/
theorem Mem.more (m : Mem g v s h) (l : Rg) : Mem (g ++ l) v s h := by
  have ap : ∀ {c : Nat} {x : Cell}, g[c]? = some x → (g ++ l)[c]? = some x := fun e => by rw [List.getElem?_append_left (lt_of_some e)]; exact e
  exact ⟨ap m.st, ap m.bx, ap m.sp, ap m.hs, m.hn, ap m.rw, ap m.hd, ap m.gt, m.nd⟩
end
/-- two times written: the last counts; written apart: in whatever order -/
theorem set_two {g : Rg} {c : Nat} {x y : Cell} : (g.set c x).set c y = g.set c y := List.set_set ..

/-- all lookups of a state's cells -/
theorem Mem.all {g : Rg} {v : Vw} {s : St} {h : Hand} (m : Mem g v s h) :
    g[v.cs]? = some (.dic (stR (.dat (.str s.kind.k)) (.dat (.tup [optN s.head.1, .int (s.head.2 : Int)])) (.ref v.cb) (.ref v.cp) (.ref v.cl) (.ref v.cr) (.dat (.int (s.time : Int))))) ∧
    g[v.cb]? = some (.lst ((s.boxes.map boxD).map Rv.dat)) ∧ g[v.cp]? = some (.lst ((s.spare.map natD).map Rv.dat)) ∧ g[v.cl]? = some (.lst v.hl) ∧ atI v.hl (v.n : Int) = some (.ref v.ch) ∧ g[v.cr]? = some (.lst ((s.rows.map MRow.enc).map Rv.dat)) ∧
    g[v.ch]? = some (.dic (hdR (.dat (.lst (h.deeds.map Deed.enc))) (.dat (.int (h.at_ : Int))) (.dat (.str h.ph.k)) (.dat (optN h.box)) (.dat (seenD h.seen)) (.ref v.cg) (.dat (.int (h.begun : Int))))) ∧
    g[v.cg]? = some (.lst (h.got.items.map Rv.dat)) := ⟨m.st, m.bx, m.sp, m.hs, atI_nat' m.hn, m.rw, m.hd, m.gt⟩
/-- what was at the start, what is now -/
structure MG (g0 : Rg) (v0 : Vw) (g : Rg) (v : Vw) (s : St) (h : Hand) : Prop where
  m : Mem g v s h
  k : Go g0 v0 g v
section
variable {g0 g : Rg} {v0 v : Vw} {s : St} {h : Hand}
theorem Mem.mg (m : Mem g v s h) : MG g v g v s h := ⟨m, Go.refl g v⟩
theorem MG.hw (x : MG g0 v0 g v s h) (h' : Hand) (e : h'.got = h.got) : MG g0 v0 (g.set v.ch (.dic (handL h' (.ref v.cg)))) v s h' := ⟨x.m.setH h' e, x.m.goH x.k h'⟩
theorem MG.sw (x : MG g0 v0 g v s h) (s' : St) (e1 : s'.boxes = s.boxes) (e2 : s'.spare = s.spare) (e3 : s'.rows = s.rows) : MG g0 v0 (g.set v.cs (.dic (stL s' (.ref v.cb) (.ref v.cp) (.ref v.cl) (.ref v.cr)))) v s' h := ⟨x.m.setS s' e1 e2 e3, x.m.goS x.k s'⟩
theorem MG.bw (x : MG g0 v0 g v s h) (l : List (Int × Option Nat)) : MG g0 v0 (g.set v.cb (.lst ((l.map boxD).map Rv.dat))) v { s with boxes := l } h := ⟨x.m.setB l, x.m.goB x.k _⟩
theorem MG.pw (x : MG g0 v0 g v s h) (l : List Nat) : MG g0 v0 (g.set v.cp (.lst ((l.map natD).map Rv.dat))) v { s with spare := l } h := ⟨x.m.setP l, x.m.goP x.k _⟩
theorem MG.rw (x : MG g0 v0 g v s h) (l : List MRow) : MG g0 v0 (g.set v.cr (.lst ((l.map MRow.enc).map Rv.dat))) v { s with rows := l } h := ⟨x.m.setR l, x.m.goR x.k _⟩
theorem MG.gw (x : MG g0 v0 g v s h) (y : Got) : MG g0 v0 (g.set v.cg (.lst (y.items.map Rv.dat))) v s { h with got := y } := ⟨x.m.setG y, x.m.goG x.k _⟩
theorem MG.nw (x : MG g0 v0 g v s h) (y : Got) (h' : Hand) (e : h'.got = y) : MG g0 v0 ((g ++ [Cell.lst (y.items.map Rv.dat)]).set v.ch (.dic (handL h' (.ref g.length)))) { v with cg := g.length } s h' := ⟨x.m.newG y h' e, x.m.goN x.k y h'⟩
theorem Mem.notin (m : Mem g v s h) {c : Nat} (l : g.length ≤ c) : c ∉ [v.cs, v.cb, v.cp, v.cl, v.ch, v.cg] := by
  intro hc
  simp only [List.mem_cons, List.not_mem_nil, or_false] at hc
  rcases hc with rfl | rfl | rfl | rfl | rfl | rfl
  · exact absurd (lt_of_some m.st) (Nat.not_lt.mpr l)
  · exact absurd (lt_of_some m.bx) (Nat.not_lt.mpr l)
  · exact absurd (lt_of_some m.sp) (Nat.not_lt.mpr l)
  · exact absurd (lt_of_some m.hs) (Nat.not_lt.mpr l)
  · exact absurd (lt_of_some m.hd) (Nat.not_lt.mpr l)
  · exact absurd (lt_of_some m.gt) (Nat.not_lt.mpr l)
theorem MG.qw (x : MG g0 v0 g v s h) (l : List MRow) (cell : Cell) (e : cell = .lst ((l.map MRow.enc).map Rv.dat)) : MG g0 v0 ((g ++ [cell]).set v.cs (.dic (stL s (.ref v.cb) (.ref v.cp) (.ref v.cl) (.ref g.length)))) { v with cr := g.length } { s with rows := l } h := by
  subst e
  have y : MG g0 v0 (g ++ [Cell.lst ((l.map MRow.enc).map Rv.dat)]) v s h := ⟨x.m.more _, x.k.app lt_dats⟩
  have hc : (g ++ [Cell.lst ((l.map MRow.enc).map Rv.dat)])[g.length]? = some (.lst ((l.map MRow.enc).map Rv.dat)) := by rw [List.getElem?_append_right (Nat.le_refl _), Nat.sub_self]; rfl
  exact ⟨y.m.newR l hc (x.m.notin (Nat.le_refl _)), y.m.goQ y.k (lt_of_some hc) x.k.len⟩
theorem MG.box_set (x : MG g0 v0 g v s h) (b : Nat) (p : Int × Option Nat) : MG g0 v0 (g.set v.cb (.lst (((s.boxes.map boxD).map Rv.dat).set b (.dat (boxD p))))) v { s with boxes := s.boxes.set b p } h := by
  have := x.bw (s.boxes.set b p); rw [List.map_set, List.map_set] at this; exact this
theorem MG.box_app (x : MG g0 v0 g v s h) (p : Int × Option Nat) : MG g0 v0 (g.set v.cb (.lst ((s.boxes.map boxD).map Rv.dat ++ [.dat (boxD p)]))) v { s with boxes := s.boxes ++ [p] } h := by
  have := x.bw (s.boxes ++ [p]); rw [List.map_append, List.map_append] at this; exact this
theorem MG.sp_app (x : MG g0 v0 g v s h) (b : Nat) : MG g0 v0 (g.set v.cp (.lst ((s.spare.map natD).map Rv.dat ++ [.dat (natD b)]))) v { s with spare := s.spare ++ [b] } h := by
  have := x.pw (s.spare ++ [b]); rw [List.map_append, List.map_append] at this; exact this
theorem MG.row_app (x : MG g0 v0 g v s h) (b : MRow) : MG g0 v0 (g.set v.cr (.lst ((s.rows.map MRow.enc).map Rv.dat ++ [.dat b.enc]))) v { s with rows := s.rows ++ [b] } h := by
  have := x.rw (s.rows ++ [b]); rw [List.map_append, List.map_append] at this; exact this
theorem MG.on {g1 : Rg} {v1 : Vw} {s1 : St} {h1 : Hand} (x : MG g0 v0 g v s h) (m : Mem g1 v1 s1 h1) (k : Go g v g1 v1) : MG g0 v0 g1 v1 s1 h1 := ⟨m, x.k.trans k⟩
theorem MG.more (x : MG g0 v0 g v s h) (cell : Cell) (hl : cell.lt g.length) : MG g0 v0 (g ++ [cell]) v s h := ⟨x.m.more [cell], x.k.app hl⟩
theorem MG.sp_pop (x : MG g0 v0 g v s h) : MG g0 v0 (g.set v.cp (.lst ((s.spare.map natD).map Rv.dat).dropLast)) v { s with spare := s.spare.dropLast } h := by
  have := x.pw s.spare.dropLast; rw [List.map_dropLast, List.map_dropLast] at this; exact this
theorem last_get {l : List Nat} (h : l ≠ []) : ((l.map natD).map Rv.dat)[l.length - 1]? = some (.dat (.int (l.getLastD 0 : Nat))) := by
  have hp : 0 < l.length := List.length_pos_iff.mpr h
  rw [List.getElem?_map, List.getElem?_map, List.getElem?_eq_getElem (by omega), List.getLastD_eq_getLast?, List.getLast?_eq_some_getLast h, List.getLast_eq_getElem]; rfl
theorem last_mem {l : List Nat} (h : l ≠ []) : l.getLastD 0 ∈ l := by
  rw [List.getLastD_eq_getLast?, List.getLast?_eq_some_getLast h]; exact List.getLast_mem h
/-- what a step of a hand is worth -/
def Post (g : Rg) (v : Vw) (r : St × Hand × Step) (Q : RQ) : Prop := ∀ g' v', Mem g' v' r.1 r.2.1 → Go g v g' v' → Q (.dat r.2.2.enc) g'
theorem fin_mk {r : St × Hand × Step} {Q : RQ} (q : Post g0 v0 r Q) (x : MG g0 v0 g v r.1 r.2.1) : Fin g0 Q (.dat r.2.2.enc) g := fin_go x.k (q _ _ x.m x.k)
theorem fin_non {Q : RQ} {s' : St} {h' : Hand} (q : ∀ g' v', Mem g' v' s' h' → Go g0 v0 g' v' → Q (.dat .non) g') (x : MG g0 v0 g v s' h') : Fin g0 Q (.dat .non) g := fin_go x.k (q _ _ x.m x.k)
end
theorem deed_at {h : Hand} (l : h.at_ < h.deeds.length) : atI h.deeds (h.at_ : Int) = some h.deed := by
  refine atI_nat' ?_
  unfold Hand.deed; rw [List.getD_eq_getElem?_getD, List.getElem?_eq_getElem l]; rfl
theorem inside_at {s : St} {b : Nat} (l : b < s.boxes.length) : atI s.boxes (b : Int) = some (s.inside b) := by
  refine atI_nat' ?_
  unfold St.inside; rw [List.getD_eq_getElem?_getD, List.getElem?_eq_getElem l]; rfl
theorem ixN_nat' {n m : Nat} (h : m < n) : ixN n (m : Int) = some m := by
  unfold L2.ixN; rw [if_pos (by omega), if_pos (by omega)]; simp
theorem eqv_optN {a b : Option Nat} : eqv (optN a) (optN b) = decide (a = b) := by
  cases a <;> cases b <;> simp [optN, eqv, Bool.beq_eq_decide_eq]
  rename_i x y
  by_cases h : x = y
  · subst h; simp
  · have : ¬ (x : Int) = (y : Int) := by omega
    simp [h, this]
theorem plN_optN {a : Option Nat} {n : Nat} : plN n (optN a) = true := by cases a <;> simp [optN, plN]
theorem isNon_optN {a : Option Nat} : isNon (.dat (optN a)) = decide (a = none) := by cases a <;> rfl
end DW

/-! ## F_value_by.lean -/
set_option Elab.async false
set_option linter.all false
set_option maxRecDepth 100000
set_option maxHeartbeats 4000000
set_option autoImplicit false
namespace DW
open PySem PySem.Spec L2
open PyProof.Rows hiding St

local macro_rules | `(tactic| walk_at "dw") => `(tactic| simp (config := { maxSteps := 1000000 }) only [and_assoc, natD, mapint_inj, mapnat_inj, denc_inj, wfor_eq, ixD, ixM, cut_one, List.tail_cons, List.tail_nil, eqvs_nil, List.isEmpty_cons, List.isEmpty_nil, plAll_int, plAll_nat, Ss.W, Sm.W, Ex.W, Ex.T, Es.W, wVar, BOp.B, COp.B, Bi.B, IxK.B, bI0, bIC, bEq, bIs, bIn, bIxL, bIxT, bIxS, bIxK, bCat, bCatT, bRep, cLen, cInt, cMin2, cList, cTup, wantB, wAndT, wOrT, wAndV, wOrV, wNotV, lenOf, lstOf_ref, lstOf_lst, seqOf, dicOf_ref, dicOf_dic, wPart, wIter, tstW, mAppend, mPop, mPopAt, mClear, wSetIx, wSetKey, Tg.put, wipeN, Cell.lst.injEq, Cell.dic.injEq, Cell.fz.injEq, List.length_map, tyR, tyD,
    eqv_ii, eqv_ss, eqv_bb, eqv_nn, eqv_ll, eqv_tt, eqn_non_int, eqn_non_str, eqn_non_lst, eqn_non_tup, eqn_non_bl, eqn_non_dic, eqn_int_non, eqn_int_str, eqn_int_lst, eqn_int_tup, eqn_int_dic, eqn_str_non, eqn_str_int, eqn_str_lst, eqn_str_tup, eqn_str_bl, eqn_str_dic, eqn_lst_non, eqn_lst_int, eqn_lst_str, eqn_lst_tup, eqn_lst_bl, eqn_lst_dic, eqn_tup_non, eqn_tup_int, eqn_tup_str, eqn_tup_lst, eqn_tup_bl, eqn_tup_dic, eqn_bl_non, eqn_bl_str, eqn_bl_lst, eqn_bl_tup, eqn_bl_dic, eqvs, atI_lit, cdiv_lit, cmul_r, cmul_l, cpow_lit, nrm_dat, nrm_ref, plN, plAll, rd_dat, rd_ref, rds_nil, rds_cons, rds_map, rdk_nil, rdk_cons, wFrz, frz1, wFrzL, frzs, datsN, datsN_map, datsK, isNon, tyNames, kbs,
    Option.map_some, Option.map_none, Option.isSome_some, List.getD_cons_zero, List.getD_cons_succ, List.getD_nil, get_app, get_app0, set_app, set_app0, List.length_append, List.append_assoc, List.any_cons, List.any_nil, List.zip_cons_cons, List.zip_nil_left, List.zip_nil_right,
    List.map_cons, List.map_nil, List.cons_append, List.nil_append, List.append_nil, List.length_cons, List.length_nil, List.replicate, List.set_cons_zero, List.set_cons_succ, List.getElem?_cons_zero, List.getElem?_cons_succ, List.set_nil, List.getElem?_nil,
    Nat.reduceAdd, Nat.reduceSub, Nat.reduceBEq, Nat.reduceLeDiff, Nat.reduceEqDiff, Nat.sub_self, Nat.zero_add, Nat.add_zero, Nat.zero_le, Nat.le_add_right, Nat.le_refl, Int.reduceToNat, Int.reduceLE, Nat.reduceLT, Nat.reducePow, Int.reducePow, Int.reduceNeg, or_true, true_or, Int.reduceLT, Bool.false_eq_true, if_true, if_false, forall_const, false_implies, true_implies, implies_true, Int.reduceEq, cast_lit, not_true_eq_false, not_false_eq_true, Bool.not_true, Bool.not_false, Bool.not_eq_true', Bool.not_eq_false', Bool.and_true, Bool.true_and, Bool.and_false, Bool.false_and, Bool.or_false, Bool.false_or, Bool.or_true, Bool.true_or, reduceCtorEq, false_and, and_false, or_false, false_or, beq_self_eq_true,
    Option.some.injEq, Prod.mk.injEq, Rv.dat.injEq, Rv.ref.injEq, D.int.injEq, D.bl.injEq, D.str.injEq, D.tup.injEq, D.lst.injEq, D.dic.injEq, D.scr.injEq, List.cons.injEq, and_true, true_and, exists_and_left, exists_and_right, exists_eq_left, exists_eq_left', exists_eq_right, exists_eq_right', exists_eq, exists_eq', exists_const, decide_eq_true_eq, decide_eq_false_iff_not, Bool.and_eq_true, beq_iff_eq, beq_eq_false_iff_ne, ne_eq, decide_true, decide_false, hdR_len, stR_len, hdR_24, hdR_25, hdR_26, hdR_27, hdR_28, hdR_29, hdR_30, stR_16, stR_18, stR_19, stR_20, stR_21, stR_22, stR_23, hdP_25, hdP_26, hdP_27, hdP_28, hdP_29, hdP_30, stP_16, stP_19, stP_20, stP_21, stP_22, stP_23, hdD, List.length_set, set_two, denc_push, denc_swap, denc_pop, denc_top, denc_clear, eqv_optN, plN_optN, isNon_optN, optN_some, optN_none, seenD_some, seenD_none, items_pair, items_vals, phk, kdk, List.getElem?_set_self, List.getElem?_set_ne, List.getElem?_append_left, ltaddr, boxD, cDict])
abbrev fn_value_by : List Str := []
def m_value_by : DW.Ss := (.cons (.ite (.cmp .eq (.bin .modI (.var 0) (.int 4)) (.int 0)) (.cons (.ret (.bin .subI (.bin .mulI (.bin .mulI (.bin .mulI (.bin .fdivI (.var 0) (.int 4)) (.int 7919)) (.int 7919)) (.int 7919)) (.bin .powI (.int 10) (.int 20))))
  .nil) .nil)
  (.cons (.ret (.bin .subI (.bin .modI (.bin .fdivI (.var 0) (.int 4)) (.int 5)) (.int 1)))
  .nil))
abbrev Ss_value_by : List SpD := []
def S_value_by : SpD := fun rs g Q => match rs with
  | [.dat (.int c)] => Q (.dat (.int (valueBy c))) g
  | _ => False
theorem mo_value_by : Mono S_value_by := by
  intro rs g P P2 h
  unfold S_value_by
  split
  · intro q; first | exact h _ _ q | exact ⟨q.1, h _ _ q.2⟩ | exact ⟨q.1, q.2.1, h _ _ q.2.2⟩ | exact q.imp fun _ z => ⟨z.1, h _ _ z.2⟩
  · exact id
theorem len_value_by : ∀ rs g Q, S_value_by rs g Q → rs.length = 1 := by
  intro rs g Q q
  unfold S_value_by at q
  split at q
  · rfl
  · exact q.elim
theorem hS_value_by : ∀ rs g Q, S_value_by rs g Q → m_value_by.W (wd Ss_value_by glF dtF) (rs.map some ++ List.replicate (1 - rs.length) none) g (fun _ g2 => Fin g Q (.dat .non) g2) (Fin g Q) := by
  intro rs g Q q
  unfold S_value_by at q
  split at q
  · rename_i c
    unfold m_value_by
    walk_at "dw"
    unfold valueBy at q
    refine ⟨fun h => fin_dat [] (by simp) ?_, fun h => fin_dat [] (by simp) ?_⟩
    · rw [if_pos h] at q; exact q
    · rw [if_neg h] at q; exact q
  · exact q.elim

end DW

/-! ## F_mixed.lean -/
set_option Elab.async false
set_option linter.all false
set_option maxRecDepth 100000
set_option maxHeartbeats 4000000
set_option autoImplicit false
namespace DW
open PySem PySem.Spec L2
open PyProof.Rows hiding St

local macro_rules | `(tactic| walk_at "dw") => `(tactic| simp (config := { maxSteps := 1000000 }) only [and_assoc, natD, mapint_inj, mapnat_inj, denc_inj, wfor_eq, ixD, ixM, cut_one, List.tail_cons, List.tail_nil, eqvs_nil, List.isEmpty_cons, List.isEmpty_nil, plAll_int, plAll_nat, Ss.W, Sm.W, Ex.W, Ex.T, Es.W, wVar, BOp.B, COp.B, Bi.B, IxK.B, bI0, bIC, bEq, bIs, bIn, bIxL, bIxT, bIxS, bIxK, bCat, bCatT, bRep, cLen, cInt, cMin2, cList, cTup, wantB, wAndT, wOrT, wAndV, wOrV, wNotV, lenOf, lstOf_ref, lstOf_lst, seqOf, dicOf_ref, dicOf_dic, wPart, wIter, tstW, mAppend, mPop, mPopAt, mClear, wSetIx, wSetKey, Tg.put, wipeN, Cell.lst.injEq, Cell.dic.injEq, Cell.fz.injEq, List.length_map, tyR, tyD,
    eqv_ii, eqv_ss, eqv_bb, eqv_nn, eqv_ll, eqv_tt, eqn_non_int, eqn_non_str, eqn_non_lst, eqn_non_tup, eqn_non_bl, eqn_non_dic, eqn_int_non, eqn_int_str, eqn_int_lst, eqn_int_tup, eqn_int_dic, eqn_str_non, eqn_str_int, eqn_str_lst, eqn_str_tup, eqn_str_bl, eqn_str_dic, eqn_lst_non, eqn_lst_int, eqn_lst_str, eqn_lst_tup, eqn_lst_bl, eqn_lst_dic, eqn_tup_non, eqn_tup_int, eqn_tup_str, eqn_tup_lst, eqn_tup_bl, eqn_tup_dic, eqn_bl_non, eqn_bl_str, eqn_bl_lst, eqn_bl_tup, eqn_bl_dic, eqvs, atI_lit, cdiv_lit, cmul_r, cmul_l, cpow_lit, nrm_dat, nrm_ref, plN, plAll, rd_dat, rd_ref, rds_nil, rds_cons, rds_map, rdk_nil, rdk_cons, wFrz, frz1, wFrzL, frzs, datsN, datsN_map, datsK, isNon, tyNames, kbs,
    Option.map_some, Option.map_none, Option.isSome_some, List.getD_cons_zero, List.getD_cons_succ, List.getD_nil, get_app, get_app0, set_app, set_app0, List.length_append, List.append_assoc, List.any_cons, List.any_nil, List.zip_cons_cons, List.zip_nil_left, List.zip_nil_right,
    List.map_cons, List.map_nil, List.cons_append, List.nil_append, List.append_nil, List.length_cons, List.length_nil, List.replicate, List.set_cons_zero, List.set_cons_succ, List.getElem?_cons_zero, List.getElem?_cons_succ, List.set_nil, List.getElem?_nil,
    Nat.reduceAdd, Nat.reduceSub, Nat.reduceBEq, Nat.reduceLeDiff, Nat.reduceEqDiff, Nat.sub_self, Nat.zero_add, Nat.add_zero, Nat.zero_le, Nat.le_add_right, Nat.le_refl, Int.reduceToNat, Int.reduceLE, Nat.reduceLT, Nat.reducePow, Int.reducePow, Int.reduceNeg, or_true, true_or, Int.reduceLT, Bool.false_eq_true, if_true, if_false, forall_const, false_implies, true_implies, implies_true, Int.reduceEq, cast_lit, not_true_eq_false, not_false_eq_true, Bool.not_true, Bool.not_false, Bool.not_eq_true', Bool.not_eq_false', Bool.and_true, Bool.true_and, Bool.and_false, Bool.false_and, Bool.or_false, Bool.false_or, Bool.or_true, Bool.true_or, reduceCtorEq, false_and, and_false, or_false, false_or, beq_self_eq_true,
    Option.some.injEq, Prod.mk.injEq, Rv.dat.injEq, Rv.ref.injEq, D.int.injEq, D.bl.injEq, D.str.injEq, D.tup.injEq, D.lst.injEq, D.dic.injEq, D.scr.injEq, List.cons.injEq, and_true, true_and, exists_and_left, exists_and_right, exists_eq_left, exists_eq_left', exists_eq_right, exists_eq_right', exists_eq, exists_eq', exists_const, decide_eq_true_eq, decide_eq_false_iff_not, Bool.and_eq_true, beq_iff_eq, beq_eq_false_iff_ne, ne_eq, decide_true, decide_false, hdR_len, stR_len, hdR_24, hdR_25, hdR_26, hdR_27, hdR_28, hdR_29, hdR_30, stR_16, stR_18, stR_19, stR_20, stR_21, stR_22, stR_23, hdP_25, hdP_26, hdP_27, hdP_28, hdP_29, hdP_30, stP_16, stP_19, stP_20, stP_21, stP_22, stP_23, hdD, List.length_set, set_two, denc_push, denc_swap, denc_pop, denc_top, denc_clear, eqv_optN, plN_optN, isNon_optN, optN_some, optN_none, seenD_some, seenD_none, items_pair, items_vals, phk, kdk, List.getElem?_set_self, List.getElem?_set_ne, List.getElem?_append_left, ltaddr, boxD, cDict])
abbrev fn_mixed : List Str := []
def m_mixed : DW.Ss := (.cons (.set 2 (.bin .modI (.bin .mulI (.bin .addI (.var 0) (.bin .mulI (.int 7919) (.var 1))) (.int 48271)) (.int 2147483647)))
  (.cons (.ret (.bin .modI (.bin .mulI (.var 2) (.var 2)) (.int 2147483629)))
  .nil))
abbrev Ss_mixed : List SpD := []
def S_mixed : SpD := fun rs g Q => match rs with
  | [.dat (.int c), .dat (.int k)] => Q (.dat (.int (mixed c k))) g
  | _ => False
theorem mo_mixed : Mono S_mixed := by
  intro rs g P P2 h
  unfold S_mixed
  split
  · intro q; first | exact h _ _ q | exact ⟨q.1, h _ _ q.2⟩ | exact ⟨q.1, q.2.1, h _ _ q.2.2⟩ | exact q.imp fun _ z => ⟨z.1, h _ _ z.2⟩
  · exact id
theorem len_mixed : ∀ rs g Q, S_mixed rs g Q → rs.length = 2 := by
  intro rs g Q q
  unfold S_mixed at q
  split at q
  · rfl
  · exact q.elim
theorem hS_mixed : ∀ rs g Q, S_mixed rs g Q → m_mixed.W (wd Ss_mixed glF dtF) (rs.map some ++ List.replicate (3 - rs.length) none) g (fun _ g2 => Fin g Q (.dat .non) g2) (Fin g Q) := by
  intro rs g Q q
  unfold S_mixed at q
  split at q
  · rename_i c k
    unfold m_mixed
    walk_at "dw"
    have h1 := Int.emod_nonneg ((c + 7919 * k) * 48271) (show (2147483647 : Int) ≠ 0 by decide)
    have h2 := Int.emod_lt_of_pos ((c + 7919 * k) * 48271) (show (0 : Int) < 2147483647 by decide)
    exact ⟨.inl (by omega), fin_dat [] (by simp) q⟩
  · exact q.elim

end DW

/-! ## F_start_by.lean -/
set_option Elab.async false
set_option linter.all false
set_option maxRecDepth 100000
set_option maxHeartbeats 4000000
set_option autoImplicit false
namespace DW
open PySem PySem.Spec L2
open PyProof.Rows hiding St

local macro_rules | `(tactic| walk_at "dw") => `(tactic| simp (config := { maxSteps := 1000000 }) only [and_assoc, natD, mapint_inj, mapnat_inj, denc_inj, wfor_eq, ixD, ixM, cut_one, List.tail_cons, List.tail_nil, eqvs_nil, List.isEmpty_cons, List.isEmpty_nil, plAll_int, plAll_nat, Ss.W, Sm.W, Ex.W, Ex.T, Es.W, wVar, BOp.B, COp.B, Bi.B, IxK.B, bI0, bIC, bEq, bIs, bIn, bIxL, bIxT, bIxS, bIxK, bCat, bCatT, bRep, cLen, cInt, cMin2, cList, cTup, wantB, wAndT, wOrT, wAndV, wOrV, wNotV, lenOf, lstOf_ref, lstOf_lst, seqOf, dicOf_ref, dicOf_dic, wPart, wIter, tstW, mAppend, mPop, mPopAt, mClear, wSetIx, wSetKey, Tg.put, wipeN, Cell.lst.injEq, Cell.dic.injEq, Cell.fz.injEq, List.length_map, tyR, tyD,
    eqv_ii, eqv_ss, eqv_bb, eqv_nn, eqv_ll, eqv_tt, eqn_non_int, eqn_non_str, eqn_non_lst, eqn_non_tup, eqn_non_bl, eqn_non_dic, eqn_int_non, eqn_int_str, eqn_int_lst, eqn_int_tup, eqn_int_dic, eqn_str_non, eqn_str_int, eqn_str_lst, eqn_str_tup, eqn_str_bl, eqn_str_dic, eqn_lst_non, eqn_lst_int, eqn_lst_str, eqn_lst_tup, eqn_lst_bl, eqn_lst_dic, eqn_tup_non, eqn_tup_int, eqn_tup_str, eqn_tup_lst, eqn_tup_bl, eqn_tup_dic, eqn_bl_non, eqn_bl_str, eqn_bl_lst, eqn_bl_tup, eqn_bl_dic, eqvs, atI_lit, cdiv_lit, cmul_r, cmul_l, cpow_lit, nrm_dat, nrm_ref, plN, plAll, rd_dat, rd_ref, rds_nil, rds_cons, rds_map, rdk_nil, rdk_cons, wFrz, frz1, wFrzL, frzs, datsN, datsN_map, datsK, isNon, tyNames, kbs,
    Option.map_some, Option.map_none, Option.isSome_some, List.getD_cons_zero, List.getD_cons_succ, List.getD_nil, get_app, get_app0, set_app, set_app0, List.length_append, List.append_assoc, List.any_cons, List.any_nil, List.zip_cons_cons, List.zip_nil_left, List.zip_nil_right,
    List.map_cons, List.map_nil, List.cons_append, List.nil_append, List.append_nil, List.length_cons, List.length_nil, List.replicate, List.set_cons_zero, List.set_cons_succ, List.getElem?_cons_zero, List.getElem?_cons_succ, List.set_nil, List.getElem?_nil,
    Nat.reduceAdd, Nat.reduceSub, Nat.reduceBEq, Nat.reduceLeDiff, Nat.reduceEqDiff, Nat.sub_self, Nat.zero_add, Nat.add_zero, Nat.zero_le, Nat.le_add_right, Nat.le_refl, Int.reduceToNat, Int.reduceLE, Nat.reduceLT, Nat.reducePow, Int.reducePow, Int.reduceNeg, or_true, true_or, Int.reduceLT, Bool.false_eq_true, if_true, if_false, forall_const, false_implies, true_implies, implies_true, Int.reduceEq, cast_lit, not_true_eq_false, not_false_eq_true, Bool.not_true, Bool.not_false, Bool.not_eq_true', Bool.not_eq_false', Bool.and_true, Bool.true_and, Bool.and_false, Bool.false_and, Bool.or_false, Bool.false_or, Bool.or_true, Bool.true_or, reduceCtorEq, false_and, and_false, or_false, false_or, beq_self_eq_true,
    Option.some.injEq, Prod.mk.injEq, Rv.dat.injEq, Rv.ref.injEq, D.int.injEq, D.bl.injEq, D.str.injEq, D.tup.injEq, D.lst.injEq, D.dic.injEq, D.scr.injEq, List.cons.injEq, and_true, true_and, exists_and_left, exists_and_right, exists_eq_left, exists_eq_left', exists_eq_right, exists_eq_right', exists_eq, exists_eq', exists_const, decide_eq_true_eq, decide_eq_false_iff_not, Bool.and_eq_true, beq_iff_eq, beq_eq_false_iff_ne, ne_eq, decide_true, decide_false, hdR_len, stR_len, hdR_24, hdR_25, hdR_26, hdR_27, hdR_28, hdR_29, hdR_30, stR_16, stR_18, stR_19, stR_20, stR_21, stR_22, stR_23, hdP_25, hdP_26, hdP_27, hdP_28, hdP_29, hdP_30, stP_16, stP_19, stP_20, stP_21, stP_22, stP_23, hdD, List.length_set, set_two, denc_push, denc_swap, denc_pop, denc_top, denc_clear, eqv_optN, plN_optN, isNon_optN, optN_some, optN_none, seenD_some, seenD_none, items_pair, items_vals, phk, kdk, List.getElem?_set_self, List.getElem?_set_ne, List.getElem?_append_left, ltaddr, boxD, cDict, S_value_by, S_mixed])
abbrev fn_start_by : List Str := ["_law_value_by", "_law_mixed"]
def b_start_by_0 : DW.Ex := (.call 0 (.cons (.call 1 (.cons (.bin .fdivI (.var 0) (.int 8)) (.cons (.var 2) .nil))) .nil))
def b_start_by_1 : DW.Ss := (.cons (.ret (.comp b_start_by_0 (.name 2) .r1 (.var 1) .non false .non [2]))
  .nil)
def m_start_by : DW.Ss := (.cons (.set 1 (.bin .modI (.var 0) (.int 4)))
  (.cons (.ite (.cmp .eq (.bin .modI (.bin .fdivI (.var 0) (.int 4)) (.int 8)) (.int 1)) (.cons (.set 1 (.bin .modI (.bin .fdivI (.var 0) (.int 32)) (.int 61)))
  .nil) .nil)
  b_start_by_1))
abbrev Ss_start_by : List SpD := [S_value_by, S_mixed]
def startN (c : Int) : Nat := (if c / 4 % 8 = 1 then c / 32 % 61 else c % 4).toNat
def startBy (c : Int) : List Int := (List.range (startN c)).map fun (k : Nat) => valueBy (mixed (c / 8) (k : Int))
theorem startN_le (c : Int) : startN c ≤ 60 := by unfold startN; split <;> omega
theorem startBy_len (c : Int) : (startBy c).length ≤ 60 := by unfold startBy; rw [List.length_map, List.length_range]; exact startN_le c
def S_start_by : SpD := fun rs g Q => match rs with
  | [.dat (.int c)] => Q (.dat (.lst ((startBy c).map .int))) g
  | _ => False
theorem mo_start_by : Mono S_start_by := by
  intro rs g P P2 h
  unfold S_start_by
  split
  · intro q; first | exact h _ _ q | exact ⟨q.1, h _ _ q.2⟩ | exact ⟨q.1, q.2.1, h _ _ q.2.2⟩ | exact q.imp fun _ z => ⟨z.1, h _ _ z.2⟩
  · exact id
theorem len_start_by : ∀ rs g Q, S_start_by rs g Q → rs.length = 1 := by
  intro rs g Q q
  unfold S_start_by at q
  split at q
  · rfl
  · exact q.elim
theorem hS_start_by : ∀ rs g Q, S_start_by rs g Q → m_start_by.W (wd Ss_start_by glF dtF) (rs.map some ++ List.replicate (3 - rs.length) none) g (fun _ g2 => Fin g Q (.dat .non) g2) (Fin g Q) := by
  intro rs g Q q
  unfold S_start_by at q
  split at q
  · rename_i c
    unfold m_start_by
    have key : ∀ n : Int, 0 ≤ n → n ≤ 60 → n.toNat = startN c → WComp (Tg.name 2) [2] [some (Rv.dat (D.int c)), some (Rv.dat (D.int n)), none] (fun env => tstW false fun x x_1 => False) (fun env => Ex.W (wd Ss_start_by glF dtF) b_start_by_0 env) (rngs 0 n.toNat) (fun x => True) g (Fin g Q) := by
      intro n h0 h1 hn
      refine comp_map (fun k => .int (valueBy (mixed (c / 8) (k : Int)))) (by rw [rngs_length]; omega) (fun _ => trivial) ?_ ?_
      · rintro k r l P hr hP
        obtain ⟨rfl, hk⟩ := rngs_get' hr
        refine ⟨_, rfl, ?_⟩
        unfold b_start_by_0
        walk_at "dw"
        have h := hP []
        rw [List.append_nil] at h
        exact h
      · intro j
        rw [rngs_length, hn]
        have e : (List.range (startN c)).map (fun (k : Nat) => D.int (valueBy (mixed (c / 8) (k : Int)))) = (startBy c).map .int := by unfold startBy; rw [List.map_map]; rfl
        refine fin_frz (.lst ((startBy c).map .int)) _ rfl ?_ q
        rw [e]
        walk_at "dw"
    walk_at "dw"
    have a1 := Int.emod_nonneg (c / 32) (show (61 : Int) ≠ 0 by decide)
    have a2 := Int.emod_lt_of_pos (c / 32) (show (0 : Int) < 61 by decide)
    have a3 := Int.emod_nonneg c (show (4 : Int) ≠ 0 by decide)
    have a4 := Int.emod_lt_of_pos c (show (0 : Int) < 4 by decide)
    refine ⟨fun h => ?_, fun h => ?_⟩ <;> unfold b_start_by_1 <;> walk_at "dw"
    · refine ⟨by omega, by omega, key _ a1 (by omega) ?_⟩
      unfold startN; rw [if_pos h]
    · refine ⟨by omega, by omega, key _ a3 (by omega) ?_⟩
      unfold startN; rw [if_neg h]
  · exact q.elim

end DW

/-! ## F_deed_by.lean -/
set_option Elab.async false
set_option linter.all false
set_option maxRecDepth 100000
set_option maxHeartbeats 4000000
set_option autoImplicit false
namespace DW
open PySem PySem.Spec L2
open PyProof.Rows hiding St

local macro_rules | `(tactic| walk_at "dw") => `(tactic| simp (config := { maxSteps := 1000000 }) only [and_assoc, natD, mapint_inj, mapnat_inj, denc_inj, wfor_eq, ixD, ixM, cut_one, List.tail_cons, List.tail_nil, eqvs_nil, List.isEmpty_cons, List.isEmpty_nil, plAll_int, plAll_nat, Ss.W, Sm.W, Ex.W, Ex.T, Es.W, wVar, BOp.B, COp.B, Bi.B, IxK.B, bI0, bIC, bEq, bIs, bIn, bIxL, bIxT, bIxS, bIxK, bCat, bCatT, bRep, cLen, cInt, cMin2, cList, cTup, wantB, wAndT, wOrT, wAndV, wOrV, wNotV, lenOf, lstOf_ref, lstOf_lst, seqOf, dicOf_ref, dicOf_dic, wPart, wIter, tstW, mAppend, mPop, mPopAt, mClear, wSetIx, wSetKey, Tg.put, wipeN, Cell.lst.injEq, Cell.dic.injEq, Cell.fz.injEq, List.length_map, tyR, tyD,
    eqv_ii, eqv_ss, eqv_bb, eqv_nn, eqv_ll, eqv_tt, eqn_non_int, eqn_non_str, eqn_non_lst, eqn_non_tup, eqn_non_bl, eqn_non_dic, eqn_int_non, eqn_int_str, eqn_int_lst, eqn_int_tup, eqn_int_dic, eqn_str_non, eqn_str_int, eqn_str_lst, eqn_str_tup, eqn_str_bl, eqn_str_dic, eqn_lst_non, eqn_lst_int, eqn_lst_str, eqn_lst_tup, eqn_lst_bl, eqn_lst_dic, eqn_tup_non, eqn_tup_int, eqn_tup_str, eqn_tup_lst, eqn_tup_bl, eqn_tup_dic, eqn_bl_non, eqn_bl_str, eqn_bl_lst, eqn_bl_tup, eqn_bl_dic, eqvs, atI_lit, cdiv_lit, cmul_r, cmul_l, cpow_lit, nrm_dat, nrm_ref, plN, plAll, rd_dat, rd_ref, rds_nil, rds_cons, rds_map, rdk_nil, rdk_cons, wFrz, frz1, wFrzL, frzs, datsN, datsN_map, datsK, isNon, tyNames, kbs,
    Option.map_some, Option.map_none, Option.isSome_some, List.getD_cons_zero, List.getD_cons_succ, List.getD_nil, get_app, get_app0, set_app, set_app0, List.length_append, List.append_assoc, List.any_cons, List.any_nil, List.zip_cons_cons, List.zip_nil_left, List.zip_nil_right,
    List.map_cons, List.map_nil, List.cons_append, List.nil_append, List.append_nil, List.length_cons, List.length_nil, List.replicate, List.set_cons_zero, List.set_cons_succ, List.getElem?_cons_zero, List.getElem?_cons_succ, List.set_nil, List.getElem?_nil,
    Nat.reduceAdd, Nat.reduceSub, Nat.reduceBEq, Nat.reduceLeDiff, Nat.reduceEqDiff, Nat.sub_self, Nat.zero_add, Nat.add_zero, Nat.zero_le, Nat.le_add_right, Nat.le_refl, Int.reduceToNat, Int.reduceLE, Nat.reduceLT, Nat.reducePow, Int.reducePow, Int.reduceNeg, or_true, true_or, Int.reduceLT, Bool.false_eq_true, if_true, if_false, forall_const, false_implies, true_implies, implies_true, Int.reduceEq, cast_lit, not_true_eq_false, not_false_eq_true, Bool.not_true, Bool.not_false, Bool.not_eq_true', Bool.not_eq_false', Bool.and_true, Bool.true_and, Bool.and_false, Bool.false_and, Bool.or_false, Bool.false_or, Bool.or_true, Bool.true_or, reduceCtorEq, false_and, and_false, or_false, false_or, beq_self_eq_true,
    Option.some.injEq, Prod.mk.injEq, Rv.dat.injEq, Rv.ref.injEq, D.int.injEq, D.bl.injEq, D.str.injEq, D.tup.injEq, D.lst.injEq, D.dic.injEq, D.scr.injEq, List.cons.injEq, and_true, true_and, exists_and_left, exists_and_right, exists_eq_left, exists_eq_left', exists_eq_right, exists_eq_right', exists_eq, exists_eq', exists_const, decide_eq_true_eq, decide_eq_false_iff_not, Bool.and_eq_true, beq_iff_eq, beq_eq_false_iff_ne, ne_eq, decide_true, decide_false, hdR_len, stR_len, hdR_24, hdR_25, hdR_26, hdR_27, hdR_28, hdR_29, hdR_30, stR_16, stR_18, stR_19, stR_20, stR_21, stR_22, stR_23, hdP_25, hdP_26, hdP_27, hdP_28, hdP_29, hdP_30, stP_16, stP_19, stP_20, stP_21, stP_22, stP_23, hdD, List.length_set, set_two, denc_push, denc_swap, denc_pop, denc_top, denc_clear, eqv_optN, plN_optN, isNon_optN, optN_some, optN_none, seenD_some, seenD_none, items_pair, items_vals, phk, kdk, List.getElem?_set_self, List.getElem?_set_ne, List.getElem?_append_left, ltaddr, boxD, cDict, S_value_by])
abbrev fn_deed_by : List Str := ["_law_value_by"]
def m_deed_by : DW.Ss := (.cons (.set 1 (.ix .l (.lst (.cons (.str 0) (.cons (.str 0) (.cons (.str 0) (.cons (.str 0) (.cons (.str 2) (.cons (.str 2) (.cons (.str 2) (.cons (.str 3) (.cons (.str 3) (.cons (.str 1) (.cons (.str 1) (.cons (.str 4) .nil))))))))))))) (.bin .modI (.var 0) (.int 12))))
  (.cons (.ite (.cmp .inF (.var 1) (.lst (.cons (.str 0) (.cons (.str 1) .nil)))) (.cons (.ret (.tup (.cons (.var 1) (.cons (.call 0 (.cons (.bin .fdivI (.var 0) (.int 12)) .nil)) .nil))))
  .nil) .nil)
  (.cons (.ret (.tup (.cons (.var 1) .nil)))
  .nil)))
abbrev Ss_deed_by : List SpD := [S_value_by]
def S_deed_by : SpD := fun rs g Q => match rs with
  | [.dat (.int c)] => Q (.dat (deedBy c).enc) g
  | _ => False
theorem mo_deed_by : Mono S_deed_by := by
  intro rs g P P2 h
  unfold S_deed_by
  split
  · intro q; first | exact h _ _ q | exact ⟨q.1, h _ _ q.2⟩ | exact ⟨q.1, q.2.1, h _ _ q.2.2⟩ | exact q.imp fun _ z => ⟨z.1, h _ _ z.2⟩
  · exact id
theorem len_deed_by : ∀ rs g Q, S_deed_by rs g Q → rs.length = 1 := by
  intro rs g Q q
  unfold S_deed_by at q
  split at q
  · rfl
  · exact q.elim
theorem hS_deed_by : ∀ rs g Q, S_deed_by rs g Q → m_deed_by.W (wd Ss_deed_by glF dtF) (rs.map some ++ List.replicate (2 - rs.length) none) g (fun _ g2 => Fin g Q (.dat .non) g2) (Fin g Q) := by
  intro rs g Q q
  unfold S_deed_by at q
  split at q
  · rename_i c
    unfold m_deed_by
    walk_at "dw"
    have h : c % 12 = 0 ∨ c % 12 = 1 ∨ c % 12 = 2 ∨ c % 12 = 3 ∨ c % 12 = 4 ∨ c % 12 = 5 ∨ c % 12 = 6 ∨ c % 12 = 7 ∨ c % 12 = 8 ∨ c % 12 = 9 ∨ c % 12 = 10 ∨ c % 12 = 11 := by omega
    unfold deedBy at q
    rcases h with h | h | h | h | h | h | h | h | h | h | h | h <;> simp [h, Deed.enc] at q <;> rw [h] <;> walk_at "dw"
    all_goals exact fin_dat _ rfl q
  · exact q.elim

end DW

/-! ## F_p_is_value.lean -/
set_option Elab.async false
set_option linter.all false
set_option maxRecDepth 100000
set_option maxHeartbeats 4000000
set_option autoImplicit false
namespace DW
open PySem PySem.Spec L2
open PyProof.Rows hiding St

local macro_rules | `(tactic| walk_at "dw") => `(tactic| simp (config := { maxSteps := 1000000 }) only [and_assoc, natD, mapint_inj, mapnat_inj, denc_inj, wfor_eq, ixD, ixM, cut_one, List.tail_cons, List.tail_nil, eqvs_nil, List.isEmpty_cons, List.isEmpty_nil, plAll_int, plAll_nat, Ss.W, Sm.W, Ex.W, Ex.T, Es.W, wVar, BOp.B, COp.B, Bi.B, IxK.B, bI0, bIC, bEq, bIs, bIn, bIxL, bIxT, bIxS, bIxK, bCat, bCatT, bRep, cLen, cInt, cMin2, cList, cTup, wantB, wAndT, wOrT, wAndV, wOrV, wNotV, lenOf, lstOf_ref, lstOf_lst, seqOf, dicOf_ref, dicOf_dic, wPart, wIter, tstW, mAppend, mPop, mPopAt, mClear, wSetIx, wSetKey, Tg.put, wipeN, Cell.lst.injEq, Cell.dic.injEq, Cell.fz.injEq, List.length_map, tyR, tyD,
    eqv_ii, eqv_ss, eqv_bb, eqv_nn, eqv_ll, eqv_tt, eqn_non_int, eqn_non_str, eqn_non_lst, eqn_non_tup, eqn_non_bl, eqn_non_dic, eqn_int_non, eqn_int_str, eqn_int_lst, eqn_int_tup, eqn_int_dic, eqn_str_non, eqn_str_int, eqn_str_lst, eqn_str_tup, eqn_str_bl, eqn_str_dic, eqn_lst_non, eqn_lst_int, eqn_lst_str, eqn_lst_tup, eqn_lst_bl, eqn_lst_dic, eqn_tup_non, eqn_tup_int, eqn_tup_str, eqn_tup_lst, eqn_tup_bl, eqn_tup_dic, eqn_bl_non, eqn_bl_str, eqn_bl_lst, eqn_bl_tup, eqn_bl_dic, eqvs, atI_lit, cdiv_lit, cmul_r, cmul_l, cpow_lit, nrm_dat, nrm_ref, plN, plAll, rd_dat, rd_ref, rds_nil, rds_cons, rds_map, rdk_nil, rdk_cons, wFrz, frz1, wFrzL, frzs, datsN, datsN_map, datsK, isNon, tyNames, kbs,
    Option.map_some, Option.map_none, Option.isSome_some, List.getD_cons_zero, List.getD_cons_succ, List.getD_nil, get_app, get_app0, set_app, set_app0, List.length_append, List.append_assoc, List.any_cons, List.any_nil, List.zip_cons_cons, List.zip_nil_left, List.zip_nil_right,
    List.map_cons, List.map_nil, List.cons_append, List.nil_append, List.append_nil, List.length_cons, List.length_nil, List.replicate, List.set_cons_zero, List.set_cons_succ, List.getElem?_cons_zero, List.getElem?_cons_succ, List.set_nil, List.getElem?_nil,
    Nat.reduceAdd, Nat.reduceSub, Nat.reduceBEq, Nat.reduceLeDiff, Nat.reduceEqDiff, Nat.sub_self, Nat.zero_add, Nat.add_zero, Nat.zero_le, Nat.le_add_right, Nat.le_refl, Int.reduceToNat, Int.reduceLE, Nat.reduceLT, Nat.reducePow, Int.reducePow, Int.reduceNeg, or_true, true_or, Int.reduceLT, Bool.false_eq_true, if_true, if_false, forall_const, false_implies, true_implies, implies_true, Int.reduceEq, cast_lit, not_true_eq_false, not_false_eq_true, Bool.not_true, Bool.not_false, Bool.not_eq_true', Bool.not_eq_false', Bool.and_true, Bool.true_and, Bool.and_false, Bool.false_and, Bool.or_false, Bool.false_or, Bool.or_true, Bool.true_or, reduceCtorEq, false_and, and_false, or_false, false_or, beq_self_eq_true,
    Option.some.injEq, Prod.mk.injEq, Rv.dat.injEq, Rv.ref.injEq, D.int.injEq, D.bl.injEq, D.str.injEq, D.tup.injEq, D.lst.injEq, D.dic.injEq, D.scr.injEq, List.cons.injEq, and_true, true_and, exists_and_left, exists_and_right, exists_eq_left, exists_eq_left', exists_eq_right, exists_eq_right', exists_eq, exists_eq', exists_const, decide_eq_true_eq, decide_eq_false_iff_not, Bool.and_eq_true, beq_iff_eq, beq_eq_false_iff_ne, ne_eq, decide_true, decide_false, hdR_len, stR_len, hdR_24, hdR_25, hdR_26, hdR_27, hdR_28, hdR_29, hdR_30, stR_16, stR_18, stR_19, stR_20, stR_21, stR_22, stR_23, hdP_25, hdP_26, hdP_27, hdP_28, hdP_29, hdP_30, stP_16, stP_19, stP_20, stP_21, stP_22, stP_23, hdD, List.length_set, set_two, denc_push, denc_swap, denc_pop, denc_top, denc_clear, eqv_optN, plN_optN, isNon_optN, optN_some, optN_none, seenD_some, seenD_none, items_pair, items_vals, phk, kdk, List.getElem?_set_self, List.getElem?_set_ne, List.getElem?_append_left, ltaddr, boxD, cDict])
abbrev fn_p_is_value : List Str := []
def m_p_is_value : DW.Ss := (.cons (.ret (.and (.isin (.var 0) 0) (.one (.not (.isin (.var 0) 1)))))
  .nil)
abbrev Ss_p_is_value : List SpD := []
def isVal : D → Bool
  | .int _ => true
  | _ => false
def S_p_is_value : SpD := fun rs g Q => match rs with
  | [.dat d] => plN 60 d = true ∧ Q (.dat (.bl (isVal d))) g
  | _ => False
theorem mo_p_is_value : Mono S_p_is_value := by
  intro rs g P P2 h
  unfold S_p_is_value
  split
  · intro q; first | exact h _ _ q | exact ⟨q.1, h _ _ q.2⟩ | exact ⟨q.1, q.2.1, h _ _ q.2.2⟩ | exact q.imp fun _ z => ⟨z.1, h _ _ z.2⟩
  · exact id
theorem len_p_is_value : ∀ rs g Q, S_p_is_value rs g Q → rs.length = 1 := by
  intro rs g Q q
  unfold S_p_is_value at q
  split at q
  · rfl
  · exact q.elim
theorem hS_p_is_value : ∀ rs g Q, S_p_is_value rs g Q → m_p_is_value.W (wd Ss_p_is_value glF dtF) (rs.map some ++ List.replicate (1 - rs.length) none) g (fun _ g2 => Fin g Q (.dat .non) g2) (Fin g Q) := by
  intro rs g Q q
  unfold S_p_is_value at q
  split at q
  · rename_i d
    unfold m_p_is_value
    obtain ⟨hp, q⟩ := q
    cases d <;> first | (exfalso; simp [plN] at hp; done) | walk_at "dw"
    all_goals first | exact fin_dat [] (by simp) q
  · exact q.elim

end DW

/-! ## F_p_is_deed.lean -/
set_option Elab.async false
set_option linter.all false
set_option maxRecDepth 100000
set_option maxHeartbeats 4000000
set_option autoImplicit false
namespace DW
open PySem PySem.Spec L2
open PyProof.Rows hiding St

local macro_rules | `(tactic| walk_at "dw") => `(tactic| simp (config := { maxSteps := 1000000 }) only [and_assoc, natD, mapint_inj, mapnat_inj, denc_inj, wfor_eq, ixD, ixM, cut_one, List.tail_cons, List.tail_nil, eqvs_nil, List.isEmpty_cons, List.isEmpty_nil, plAll_int, plAll_nat, Ss.W, Sm.W, Ex.W, Ex.T, Es.W, wVar, BOp.B, COp.B, Bi.B, IxK.B, bI0, bIC, bEq, bIs, bIn, bIxL, bIxT, bIxS, bIxK, bCat, bCatT, bRep, cLen, cInt, cMin2, cList, cTup, wantB, wAndT, wOrT, wAndV, wOrV, wNotV, lenOf, lstOf_ref, lstOf_lst, seqOf, dicOf_ref, dicOf_dic, wPart, wIter, tstW, mAppend, mPop, mPopAt, mClear, wSetIx, wSetKey, Tg.put, wipeN, Cell.lst.injEq, Cell.dic.injEq, Cell.fz.injEq, List.length_map, tyR, tyD,
    eqv_ii, eqv_ss, eqv_bb, eqv_nn, eqv_ll, eqv_tt, eqn_non_int, eqn_non_str, eqn_non_lst, eqn_non_tup, eqn_non_bl, eqn_non_dic, eqn_int_non, eqn_int_str, eqn_int_lst, eqn_int_tup, eqn_int_dic, eqn_str_non, eqn_str_int, eqn_str_lst, eqn_str_tup, eqn_str_bl, eqn_str_dic, eqn_lst_non, eqn_lst_int, eqn_lst_str, eqn_lst_tup, eqn_lst_bl, eqn_lst_dic, eqn_tup_non, eqn_tup_int, eqn_tup_str, eqn_tup_lst, eqn_tup_bl, eqn_tup_dic, eqn_bl_non, eqn_bl_str, eqn_bl_lst, eqn_bl_tup, eqn_bl_dic, eqvs, atI_lit, cdiv_lit, cmul_r, cmul_l, cpow_lit, nrm_dat, nrm_ref, plN, plAll, rd_dat, rd_ref, rds_nil, rds_cons, rds_map, rdk_nil, rdk_cons, wFrz, frz1, wFrzL, frzs, datsN, datsN_map, datsK, isNon, tyNames, kbs,
    Option.map_some, Option.map_none, Option.isSome_some, List.getD_cons_zero, List.getD_cons_succ, List.getD_nil, get_app, get_app0, set_app, set_app0, List.length_append, List.append_assoc, List.any_cons, List.any_nil, List.zip_cons_cons, List.zip_nil_left, List.zip_nil_right,
    List.map_cons, List.map_nil, List.cons_append, List.nil_append, List.append_nil, List.length_cons, List.length_nil, List.replicate, List.set_cons_zero, List.set_cons_succ, List.getElem?_cons_zero, List.getElem?_cons_succ, List.set_nil, List.getElem?_nil,
    Nat.reduceAdd, Nat.reduceSub, Nat.reduceBEq, Nat.reduceLeDiff, Nat.reduceEqDiff, Nat.sub_self, Nat.zero_add, Nat.add_zero, Nat.zero_le, Nat.le_add_right, Nat.le_refl, Int.reduceToNat, Int.reduceLE, Nat.reduceLT, Nat.reducePow, Int.reducePow, Int.reduceNeg, or_true, true_or, Int.reduceLT, Bool.false_eq_true, if_true, if_false, forall_const, false_implies, true_implies, implies_true, Int.reduceEq, cast_lit, not_true_eq_false, not_false_eq_true, Bool.not_true, Bool.not_false, Bool.not_eq_true', Bool.not_eq_false', Bool.and_true, Bool.true_and, Bool.and_false, Bool.false_and, Bool.or_false, Bool.false_or, Bool.or_true, Bool.true_or, reduceCtorEq, false_and, and_false, or_false, false_or, beq_self_eq_true,
    Option.some.injEq, Prod.mk.injEq, Rv.dat.injEq, Rv.ref.injEq, D.int.injEq, D.bl.injEq, D.str.injEq, D.tup.injEq, D.lst.injEq, D.dic.injEq, D.scr.injEq, List.cons.injEq, and_true, true_and, exists_and_left, exists_and_right, exists_eq_left, exists_eq_left', exists_eq_right, exists_eq_right', exists_eq, exists_eq', exists_const, decide_eq_true_eq, decide_eq_false_iff_not, Bool.and_eq_true, beq_iff_eq, beq_eq_false_iff_ne, ne_eq, decide_true, decide_false, hdR_len, stR_len, hdR_24, hdR_25, hdR_26, hdR_27, hdR_28, hdR_29, hdR_30, stR_16, stR_18, stR_19, stR_20, stR_21, stR_22, stR_23, hdP_25, hdP_26, hdP_27, hdP_28, hdP_29, hdP_30, stP_16, stP_19, stP_20, stP_21, stP_22, stP_23, hdD, List.length_set, set_two, denc_push, denc_swap, denc_pop, denc_top, denc_clear, eqv_optN, plN_optN, isNon_optN, optN_some, optN_none, seenD_some, seenD_none, items_pair, items_vals, phk, kdk, List.getElem?_set_self, List.getElem?_set_ne, List.getElem?_append_left, ltaddr, boxD, cDict, S_p_is_value])
abbrev fn_p_is_deed : List Str := ["is_value"]
def m_p_is_deed : DW.Ss := (.cons (.ite (.or (.not (.isin (.var 0) 3)) (.one (.not (.chain .le .le (.int 1) (.bi .len (.cons (.var 0) .nil)) (.int 2))))) (.cons (.ret (.bl false))
  .nil) .nil)
  (.cons (.ite (.cmp .eq (.bi .len (.cons (.var 0) .nil)) (.int 2)) (.cons (.ret (.and (.cmp .inF (.ix .t (.var 0) (.int 0)) (.lst (.cons (.str 0) (.cons (.str 1) .nil)))) (.one (.call 0 (.cons (.frz (.ix .t (.var 0) (.int 1))) .nil)))))
  .nil) .nil)
  (.cons (.ret (.cmp .inF (.ix .t (.var 0) (.int 0)) (.lst (.cons (.str 2) (.cons (.str 3) (.cons (.str 4) .nil))))))
  .nil)))
abbrev Ss_p_is_deed : List SpD := [S_p_is_value]
def isDeedB : D → Bool
  | .tup [.str k] => k == 2 || (k == 3 || k == 4)
  | .tup [.str k, d] => (k == 0 || k == 1) && isVal d
  | _ => false
theorem isDeedB1 (x : D) : isDeedB (.tup [x]) = (eqv (.str 2) x || (eqv (.str 3) x || eqv (.str 4) x)) := by
  cases x <;> simp [isDeedB, eqv, Bool.beq_comm (a := (_ : Nat))]
theorem isDeedB2 (x y : D) : isDeedB (.tup [x, y]) = ((eqv (.str 0) x || eqv (.str 1) x) && isVal y) := by
  cases x <;> simp [isDeedB, eqv, Bool.beq_comm (a := (_ : Nat))]
def S_p_is_deed : SpD := fun rs g Q => match rs with
  | [.dat d] => plN 60 d = true ∧ Q (.dat (.bl (isDeedB d))) g
  | _ => False
theorem mo_p_is_deed : Mono S_p_is_deed := by
  intro rs g P P2 h
  unfold S_p_is_deed
  split
  · intro q; first | exact h _ _ q | exact ⟨q.1, h _ _ q.2⟩ | exact ⟨q.1, q.2.1, h _ _ q.2.2⟩ | exact q.imp fun _ z => ⟨z.1, h _ _ z.2⟩
  · exact id
theorem len_p_is_deed : ∀ rs g Q, S_p_is_deed rs g Q → rs.length = 1 := by
  intro rs g Q q
  unfold S_p_is_deed at q
  split at q
  · rfl
  · exact q.elim
theorem hS_p_is_deed : ∀ rs g Q, S_p_is_deed rs g Q → m_p_is_deed.W (wd Ss_p_is_deed glF dtF) (rs.map some ++ List.replicate (1 - rs.length) none) g (fun _ g2 => Fin g Q (.dat .non) g2) (Fin g Q) := by
  intro rs g Q q
  unfold S_p_is_deed at q
  split at q
  · rename_i d
    unfold m_p_is_deed
    obtain ⟨hp, q⟩ := q
    cases d <;> first | (exfalso; simp [plN] at hp; done) | walk_at "dw"
    case tup ds =>
      match ds with
      | [] => walk_at "dw"; exact fin_dat [] (by simp) q
      | [x] =>
        walk_at "dw"; rw [isDeedB1] at q
        have hx : plN 60 x = true := plN_mono (n := 59) (by simpa only [plN, plAll, Bool.and_true] using hp) (by decide)
        exact ⟨hx, fin_dat _ rfl q⟩
      | [x, y] =>
        walk_at "dw"; rw [isDeedB2] at q
        simp only [plN, plAll, Bool.and_true, Bool.and_eq_true] at hp
        have hx : plN 60 x = true := plN_mono (n := 59) hp.1 (by decide)
        have hy : plN 60 y = true := plN_mono (n := 59) hp.2 (by decide)
        exact ⟨hx, fun h => ⟨hy, fin_dat _ rfl (by rw [h, Bool.true_and] at q; exact q)⟩, fun h => fin_dat _ rfl (by rw [h, Bool.false_and] at q; exact q)⟩
      | x :: y :: z :: t =>
        walk_at "dw"
        have e1 : (1 : Int) ≤ ((t.length + 1 + 1 + 1 : Nat) : Int) := by omega
        have e2 : ¬ ((t.length + 1 + 1 + 1 : Nat) : Int) ≤ 2 := by omega
        have e3 : isDeedB (.tup (x :: y :: z :: t)) = false := by cases x <;> rfl
        rw [e3] at q
        exact ⟨fun _ => ⟨fun _ => fin_dat [] (by simp) q, fun h => absurd h e2⟩, fun h => absurd e1 h⟩
    all_goals exact fin_dat [] (by simp) q
  · exact q.elim

end DW

/-! ## MD.lean -/
set_option Elab.async false
set_option linter.all false
set_option maxRecDepth 100000
set_option maxHeartbeats 4000000
set_option autoImplicit false
/-! MD: a state's own copy. -/
namespace DW
open PySem PySem.Spec L2
open PyProof.Rows hiding St
theorem dicOf_st {g : Rg} {s : St} : dicOf g (.dat s.enc) = some (stL s (.dat (.lst (s.boxes.map boxD))) (.dat (.lst (s.spare.map natD))) (.dat (.lst (s.hands.map Hand.enc))) (.dat (.lst (s.rows.map MRow.enc)))) := rfl
theorem dicOf_hd {g : Rg} {h : Hand} : dicOf g (.dat h.enc) = some (handL h (.dat (.lst h.got.items))) := rfl
/-- hands' own cells, from b on -/
def hcells (b : Nat) : List Hand → Rg
  | [] => []
  | h :: t => .dic (handL h (.ref (b + 1))) :: .lst (h.got.items.map Rv.dat) :: hcells (b + 2) t
theorem hcells_len : ∀ {l : List Hand} {b : Nat}, (hcells b l).length = 2 * l.length
  | [], _ => rfl
  | h :: t, b => by simp only [hcells, List.length_cons, hcells_len (l := t)]; omega
theorem hcells_app : ∀ {l : List Hand} {b : Nat} {h : Hand}, hcells b (l ++ [h]) = hcells b l ++ [.dic (handL h (.ref (b + 2 * l.length + 1))), .lst (h.got.items.map Rv.dat)]
  | [], b, h => rfl
  | x :: t, b, h => by
    simp only [hcells, List.cons_append, hcells_app (l := t), List.length_cons]
    have e : b + 2 + 2 * t.length + 1 = b + 2 * (t.length + 1) + 1 := by omega
    rw [e]
theorem hcells_at : ∀ {l : List Hand} {b i : Nat} {h : Hand}, l[i]? = some h → (hcells b l)[2 * i]? = some (.dic (handL h (.ref (b + 2 * i + 1)))) ∧ (hcells b l)[2 * i + 1]? = some (.lst (h.got.items.map Rv.dat))
  | [], _, _, _, e => by simp at e
  | x :: t, b, 0, h, e => by simp at e; subst e; exact ⟨rfl, rfl⟩
  | x :: t, b, i + 1, h, e => by
    have := hcells_at (l := t) (b := b + 2) (i := i) (by simpa using e)
    have e1 : 2 * (i + 1) = 2 * i + 1 + 1 := by omega
    have e2 : b + 2 * (i + 1) + 1 = b + 2 + 2 * i + 1 := by omega
    rw [e2, e1]
    exact this
def hrefs (b k : Nat) : List Rv := (List.range k).map fun i => .ref (b + 2 * i)
theorem hrefs_succ {b k : Nat} : hrefs b (k + 1) = hrefs b k ++ [.ref (b + 2 * k)] := by unfold hrefs; rw [List.range_succ, List.map_append]; rfl
theorem hrefs_at {b k i : Nat} (h : i < k) : (hrefs b k)[i]? = some (.ref (b + 2 * i)) := by unfold hrefs; rw [List.getElem?_map, List.getElem?_range h]; rfl
theorem hrefs_len {b k : Nat} : (hrefs b k).length = k := by unfold hrefs; simp
/-- the cells of a copy, from b on -/
def copyC (b : Nat) (s : St) : Rg := .lst (hrefs (b + 1) s.hands.length) :: (hcells (b + 1) s.hands ++ [.dic (stL s (.ref (b + 1 + 2 * s.hands.length + 1)) (.ref (b + 1 + 2 * s.hands.length + 2)) (.ref b) (.ref (b + 1 + 2 * s.hands.length + 3))), .lst ((s.boxes.map boxD).map Rv.dat), .lst ((s.spare.map natD).map Rv.dat), .lst ((s.rows.map MRow.enc).map Rv.dat)])
theorem copyC_len {b : Nat} {s : St} : (copyC b s).length = 2 * s.hands.length + 5 := by unfold copyC; simp [hcells_len]
/-- where they are -/
def copyV (b n : Nat) (s : St) : Vw := ⟨b + 1 + 2 * s.hands.length, b + 1 + 2 * s.hands.length + 1, b + 1 + 2 * s.hands.length + 2, b, b + 1 + 2 * n, b + 1 + 2 * s.hands.length + 3, b + 1 + 2 * n + 1, n, hrefs (b + 1) s.hands.length⟩
section
variable {g : Rg} {s : St}
theorem copy_hand {i : Nat} {h : Hand} (e : s.hands[i]? = some h) : (g ++ copyC g.length s)[g.length + 1 + 2 * i]? = some (.dic (handL h (.ref (g.length + 1 + 2 * i + 1)))) ∧ (g ++ copyC g.length s)[g.length + 1 + 2 * i + 1]? = some (.lst (h.got.items.map Rv.dat)) := by
  have hi : i < s.hands.length := (List.getElem?_eq_some_iff.mp e).1
  obtain ⟨h1, h2⟩ := hcells_at (b := g.length + 1) e
  have e1 : ∀ k, g.length + 1 + 2 * i + k - g.length = (2 * i + k) + 1 := by intro k; omega
  constructor
  · rw [List.getElem?_append_right (by omega)]
    have := e1 0
    rw [Nat.add_zero, Nat.add_zero] at this
    rw [this]
    unfold copyC
    rw [List.getElem?_cons_succ, List.getElem?_append_left (by rw [hcells_len]; omega)]
    exact h1
  · rw [List.getElem?_append_right (by omega), e1 1]
    unfold copyC
    rw [List.getElem?_cons_succ, List.getElem?_append_left (by rw [hcells_len]; omega)]
    exact h2
theorem copy_end {k : Nat} : (g ++ copyC g.length s)[g.length + 1 + 2 * s.hands.length + k]? = ([.dic (stL s (.ref (g.length + 1 + 2 * s.hands.length + 1)) (.ref (g.length + 1 + 2 * s.hands.length + 2)) (.ref g.length) (.ref (g.length + 1 + 2 * s.hands.length + 3))), .lst ((s.boxes.map boxD).map Rv.dat), .lst ((s.spare.map natD).map Rv.dat), .lst ((s.rows.map MRow.enc).map Rv.dat)] : Rg)[k]? := by
  rw [List.getElem?_append_right (by omega)]
  have e1 : g.length + 1 + 2 * s.hands.length + k - g.length = (2 * s.hands.length + k) + 1 := by omega
  rw [e1]
  unfold copyC
  rw [List.getElem?_cons_succ, List.getElem?_append_right (by rw [hcells_len]; omega), hcells_len]
  congr 1; omega
theorem copy_mem {n : Nat} (hn : n < s.hands.length) : Mem (g ++ copyC g.length s) (copyV g.length n s) s (s.hand n) := by
  obtain ⟨h1, h2⟩ := copy_hand (g := g) (hand_at hn)
  refine ⟨copy_end (k := 0), copy_end (k := 1), copy_end (k := 2), ?_, hrefs_at hn, copy_end (k := 3), h1, h2, ?_⟩
  · show (g ++ copyC g.length s)[g.length]? = _
    rw [List.getElem?_append_right (Nat.le_refl _), Nat.sub_self]; rfl
  · simp only [copyV, List.nodup_cons, List.mem_cons, List.not_mem_nil, or_false, not_or, List.nodup_nil, and_true, not_false_eq_true]
    refine ⟨⟨?_, ?_, ?_, ?_, ?_, ?_⟩, ⟨?_, ?_, ?_, ?_, ?_⟩, ⟨?_, ?_, ?_, ?_⟩, ⟨?_, ?_, ?_⟩, ⟨?_, ?_⟩, ?_⟩ <;> omega
theorem rd_dats {m : Nat} {l : List D} : RDs g m (l.map .dat) l := rds_map.mpr rfl
theorem rd_hand {m c d : Nat} {h : Hand} (hc : m ≤ c) (hd : m ≤ d) (e : g[c]? = some (.dic (handL h (.ref d)))) (e2 : g[d]? = some (.lst (h.got.items.map Rv.dat))) : RD g m (.ref c) h.enc :=
  .dic hc e (.cons (.dat _) (.cons (.dat _) (.cons (.dat _) (.cons (.dat _) (.cons (.dat _) (.cons (.lst hd e2 rd_dats) (.cons (.dat _) .nil)))))))
theorem rds_hands {m : Nat} : ∀ {rs : List Rv} {hs : List Hand}, rs.length = hs.length → (∀ (i : Nat) (r : Rv) (h : Hand), rs[i]? = some r → hs[i]? = some h → RD g m r h.enc) → RDs g m rs (hs.map Hand.enc)
  | [], [], _, _ => .nil
  | r :: rs, h :: hs, e, f => .cons (f 0 r h rfl rfl) (rds_hands (by simpa using e) fun i r h a b => f (i + 1) r h (by simpa using a) (by simpa using b))
/-- behind a step of hand n the whole reads as the next state -/
theorem copy_rd {n : Nat} {g' : Rg} {v' : Vw} {s' : St} {h' : Hand} {s2 : St} (hn : n < s.hands.length) (m : Mem g' v' s' h') (k : Go (g ++ copyC g.length s) (copyV g.length n s) g' v') (e : s2 = { s' with hands := s.hands.set n h' }) : RD g' g.length (.ref v'.cs) s2.enc := by
  subst e
  have hL : (g ++ copyC g.length s).length = g.length + 2 * s.hands.length + 5 := by rw [List.length_append, copyC_len]; omega
  have sm := k.same
  have hcr : g.length ≤ v'.cr := by
    rcases k.cr with h | h
    · rw [h]; show g.length ≤ g.length + 1 + 2 * s.hands.length + 3; omega
    · rw [hL] at h; omega
  have hcg : g.length ≤ v'.cg := by
    rcases k.cg with h | h
    · rw [h]; show g.length ≤ g.length + 1 + 2 * n + 1; omega
    · rw [hL] at h; omega
  have c1 : v'.cs = g.length + 1 + 2 * s.hands.length := sm.1
  have c2 : v'.cb = g.length + 1 + 2 * s.hands.length + 1 := sm.2.2.2.2.1
  have c3 : v'.cp = g.length + 1 + 2 * s.hands.length + 2 := sm.2.2.2.1
  have c4 : v'.cl = g.length := sm.2.2.2.2.2.1
  have c5 : v'.ch = g.length + 1 + 2 * n := sm.2.2.1
  have c6 : v'.hl = hrefs (g.length + 1) s.hands.length := sm.2.2.2.2.2.2
  refine .dic (by rw [c1]; omega) m.st (.cons (.dat _) (.cons (.dat _) (.cons (.lst (by rw [c2]; omega) m.bx rd_dats) (.cons (.lst (by rw [c3]; omega) m.sp rd_dats) (.cons ?_ (.cons (.lst hcr m.rw rd_dats) (.cons (.dat _) .nil)))))))
  refine .lst (by rw [c4]; exact Nat.le_refl _) m.hs ?_
  rw [c6]
  refine rds_hands (by rw [hrefs_len, List.length_set]) fun i r h a b => ?_
  have hi : i < s.hands.length := by have := (List.getElem?_eq_some_iff.mp a).1; rw [hrefs_len] at this; exact this
  rw [hrefs_at hi] at a
  cases a
  by_cases hin : n = i
  · subst hin
    rw [List.getElem?_set_self hi] at b
    cases b
    exact rd_hand (by omega) hcg (by rw [← c5]; exact m.hd) m.gt
  · rw [List.getElem?_set_ne hin] at b
    obtain ⟨h1, h2⟩ := copy_hand (g := g) b
    have no : ∀ c, c = g.length + 1 + 2 * i ∨ c = g.length + 1 + 2 * i + 1 → g'[c]? = (g ++ copyC g.length s)[c]? := fun c hc => by
      refine k.fr c (by rw [hL]; omega) ?_
      simp only [copyV, List.mem_cons, List.not_mem_nil, or_false, not_or]
      refine ⟨?_, ?_, ?_, ?_, ?_, ?_⟩ <;> omega
    exact rd_hand (by omega) (by omega) ((no _ (.inl rfl)).trans h1) ((no _ (.inr rfl)).trans h2)
end

theorem fin_app {g l : Rg} {Q : RQ} {r : Rv} (hl : ∀ cell ∈ l, Cell.lt (g.length + l.length) cell) (hr : r.lt (g.length + l.length)) (q : Q r (g ++ l)) : Fin g Q r (g ++ l) := by
  refine .sub (g.length + l.length) (Nat.le_add_right _ _) (by rw [List.length_append]; exact Nat.le_refl _) (fun c cell hc e => ?_) hr (by rw [List.take_of_length_le (by rw [List.length_append]; exact Nat.le_refl _)]; exact q)
  by_cases h : c < g.length
  · rw [List.getElem?_append_left h] at e; exact .inl e
  · rw [List.getElem?_append_right (by omega)] at e; exact .inr (hl _ (List.mem_of_getElem? e))
theorem hcells_lt : ∀ {l : List Hand} {b : Nat}, ∀ cell ∈ hcells b l, Cell.lt (b + 2 * l.length) cell
  | [], _, _, h => by cases h
  | x :: t, b, cell, h => by
    simp only [hcells, List.mem_cons] at h
    rcases h with rfl | rfl | h
    · exact lt_hand (by simp only [List.length_cons]; omega)
    · exact lt_dats
    · exact Cell.lt_mono (hcells_lt (l := t) cell h) (by simp only [List.length_cons]; omega)
theorem copyC_lt {b : Nat} {s : St} : ∀ cell ∈ copyC b s, Cell.lt (b + (copyC b s).length) cell := by
  intro cell h
  rw [copyC_len]
  simp only [copyC, List.mem_cons, List.mem_append, List.not_mem_nil, or_false] at h
  rcases h with rfl | h | rfl | rfl | rfl | rfl
  · intro r hr
    unfold hrefs at hr
    obtain ⟨i, hi, rfl⟩ := List.mem_map.mp hr
    have := List.mem_range.mp hi
    show b + 1 + 2 * i < _
    omega
  · exact Cell.lt_mono (hcells_lt cell h) (by omega)
  · exact lt_st (by omega) (by omega) (by omega) (by omega)
  · exact lt_dats
  · exact lt_dats
  · exact lt_dats
theorem fin_copy {g : Rg} {s : St} {Q : RQ} (q : Q (.ref (g.length + 1 + 2 * s.hands.length)) (g ++ copyC g.length s)) : Fin g Q (.ref (g.length + 1 + 2 * s.hands.length)) (g ++ copyC g.length s) :=
  fin_app copyC_lt (by show _ < _; rw [copyC_len]; omega) q

theorem copy_take {g : Rg} {s : St} {n : Nat} {g' : Rg} {v' : Vw} (k : Go (g ++ copyC g.length s) (copyV g.length n s) g' v') : g'.take g.length = g := by
  have hl := k.len
  rw [List.length_append] at hl
  refine List.ext_getElem? fun c => ?_
  by_cases hc : c < g.length
  · rw [List.getElem?_take_of_lt hc, k.fr c (by rw [List.length_append]; omega) ?_, List.getElem?_append_left hc]
    simp only [copyV, List.mem_cons, List.not_mem_nil, or_false, not_or]
    refine ⟨?_, ?_, ?_, ?_, ?_, ?_⟩ <;> omega
  · rw [List.getElem?_eq_none (by rw [List.length_take]; omega), List.getElem?_eq_none (by omega)]
theorem frzs_none {g : Rg} {c b : Nat} {s : St} {x y z : Rv} {l rs : List Rv} (h1 : g[c]? = some (.dic (stL s (.ref b) x y z))) (h2 : g[b]? = some (.lst l)) : frzs g (.ref c :: rs) = none := by
  have e : datsK g (stL s (.ref b) x y z) = none := by
    unfold stL stR
    simp only [datsK, nrm, h2]
    rfl
  have e2 : frz1 g (.ref c) = none := by simp only [frz1, h1, e]; rfl
  simp only [frzs, e2]

/-- a program's deeds -/
def progD (p : List Deed) : D := .lst (p.map Deed.enc)

/-- references one behind the other -/
def nrefs (b n : Nat) : List Rv := (List.range n).map fun i => .ref (b + (i + 1))
theorem nrefs_at {b n i : Nat} (h : i < n) : (nrefs b n)[i]? = some (.ref (b + (i + 1))) := by unfold nrefs; rw [List.getElem?_map, List.getElem?_range h]; rfl
theorem nrefs_len {b n : Nat} : (nrefs b n).length = n := by unfold nrefs; simp
theorem nrefs_succ {b n : Nat} : nrefs b (n + 1) = nrefs b n ++ [.ref (b + (n + 1))] := by unfold nrefs; rw [List.range_succ, List.map_append]; rfl
/-- a comprehension that makes a new object a turn -/
theorem comp_new {T : Tg} {vs : List Nat} {env : En} {W : Rg → (Bool → Rg → Prop) → Prop} {We : En → Rg → RQ → Prop} {its : List Rv} {keep : Rg → Prop} {g1 : Rg} {Q : RQ} (f : Nat → Cell) (hl : its.length ≤ 1000000) (hk : ∀ j, keep (g1 ++ j))
    (hs : ∀ k r l P, its[k]? = some r → P (.ref (g1 ++ l).length) ((g1 ++ l) ++ [f k]) → ∃ env', T.put (wipeN env vs) (nrm (g1 ++ l) r) = some env' ∧ We env' (g1 ++ l) P)
    (hQ : Q (.ref g1.length) (g1 ++ (.lst (nrefs g1.length its.length) :: (List.range its.length).map f))) :
    WComp T vs env (fun _ => tstW false W) We its keep g1 Q := by
  refine ⟨fun k acc g => g = g1 ++ (.lst acc :: (List.range k).map f) ∧ acc = nrefs g1.length k ∧ k ≤ its.length, ⟨rfl, rfl, Nat.zero_le _⟩, ?_, ?_, ?_⟩
  · rintro k acc g ⟨rfl, ha, hle⟩
    exact ⟨hk _, by rw [List.getElem?_append_right (Nat.le_refl _)]; simp⟩
  · rintro k r acc g hr ⟨rfl, ha, hle⟩
    have hlt := (List.getElem?_eq_some_iff.mp hr).1
    have hal : acc.length = k := by rw [ha, nrefs_len]
    obtain ⟨P, hPd⟩ : ∃ P : RQ, P = fun (y : Rv) (g3 : Rg) => g3[g1.length]? = some (.lst acc) ∧ acc.length < 1000000 ∧ g3.set g1.length (.lst (acc ++ [y])) = g1 ++ (.lst (acc ++ [y]) :: (List.range (k + 1)).map f) ∧ acc ++ [y] = nrefs g1.length (k + 1) ∧ k + 1 ≤ its.length := ⟨_, rfl⟩
    have hP : P (.ref (g1 ++ (.lst acc :: (List.range k).map f)).length) ((g1 ++ (.lst acc :: (List.range k).map f)) ++ [f k]) := by
      rw [hPd]
      refine ⟨by rw [List.append_assoc, List.getElem?_append_right (Nat.le_refl _)]; simp, by omega, ?_, ?_, hlt⟩
      · rw [List.append_assoc, List.set_append_right _ _ (Nat.le_refl _), List.range_succ, List.map_append]; simp
      · rw [nrefs_succ, ← ha]; simp
    obtain ⟨env', h1, h2⟩ := hs k r (.lst acc :: (List.range k).map f) P hr hP
    subst hPd
    exact ⟨env', h1, fun _ => h2, fun z => by cases z⟩
  · rintro acc g ⟨rfl, ha, hle⟩
    rw [ha]; exact hQ

/-- a new list handed back -/
theorem fin_one {g j : Rg} {Q : RQ} {l : List D} (q : Q (.ref g.length) (g ++ [.lst (l.map .dat)])) : Fin g Q (.ref g.length) (g ++ (.lst (l.map .dat) :: j)) := by
  refine .sub (g.length + 1) (Nat.le_succ _) (by rw [List.length_append, List.length_cons]; omega) (fun c cell hc e => ?_) (Nat.lt_succ_self _) ?_
  · by_cases h : c < g.length
    · rw [List.getElem?_append_left h] at e; exact .inl e
    · have : c = g.length := by omega
      subst this
      rw [get_app0] at e
      cases e
      exact .inr lt_dats
  · have : (g ++ (Cell.lst (l.map Rv.dat) :: j)).take (g.length + 1) = g ++ [.lst (l.map .dat)] := by
      rw [show g ++ (Cell.lst (l.map Rv.dat) :: j) = (g ++ [Cell.lst (l.map Rv.dat)]) ++ j by simp, List.take_append_of_le_length (by simp), List.take_of_length_le (by simp)]
    rw [this]; exact q
end DW

/-! ## M2.lean -/
set_option linter.all false
set_option autoImplicit false
set_option maxHeartbeats 1000000
/-! M2: runs, step by step. -/
namespace DW
/-- the state behind the first k steps -/
def St.at_ (s : St) (w : List Nat) (k : Nat) : St := (run s (w.take k)).1
theorem run_app {a : List Nat} : ∀ {s : St} {b : List Nat}, run s (a ++ b) = ((run (run s a).1 b).1, (run s a).2 ++ (run (run s a).1 b).2) := by
  induction a with
  | nil => intro s b; rfl
  | cons n a ih => intro s b; simp only [List.cons_append, run, ih]
theorem at_zero {s : St} {w : List Nat} : s.at_ w 0 = s := rfl
theorem at_all {s : St} {w : List Nat} : s.at_ w w.length = (run s w).1 := by unfold St.at_; rw [List.take_length]
theorem at_succ {s : St} {w : List Nat} {k n : Nat} (h : w[k]? = some n) : s.at_ w (k + 1) = (step (s.at_ w k) n).1 := by
  unfold St.at_
  have e : w.take (k + 1) = w.take k ++ [n] := by rw [List.take_add_one, h]; rfl
  rw [e, run_app]; rfl
theorem run_len {w : List Nat} : ∀ {s : St}, (run s w).2.length = w.length := by
  induction w with
  | nil => intro s; rfl
  | cons n w ih => intro s; simp only [run, List.length_cons, ih]
theorem steps_at {s : St} {w : List Nat} {k n : Nat} (h : w[k]? = some n) : (run s w).2[k]? = some (step (s.at_ w k) n).2 := by
  have hk := (List.getElem?_eq_some_iff.mp h).1
  have e : w = w.take k ++ (n :: w.drop (k + 1)) := by
    have := List.take_append_drop k w
    rw [List.drop_eq_getElem_cons hk, (List.getElem?_eq_some_iff.mp h).2] at this
    exact this.symm
  have hl : (run s (w.take k)).2.length = k := by rw [run_len, List.length_take]; omega
  rw [show (run s w).2 = (run s (w.take k ++ (n :: w.drop (k + 1)))).2 by rw [← e], run_app, List.getElem?_append_right (by omega), hl, Nat.sub_self]
  rfl
theorem at_wf {s : St} {w : List Nat} (k : Nat) (h : WfS s) (hw : ∀ n ∈ w, n < s.hands.length) : WfS (s.at_ w k) ∧ (s.at_ w k).hands.length = s.hands.length ∧ (s.at_ w k).time = s.time + min k w.length ∧ (s.at_ w k).kind = s.kind := by
  obtain ⟨a, b, c, d, _⟩ := wf_run (w := w.take k) h fun n hn => hw n (List.mem_of_mem_take hn)
  refine ⟨a, b, ?_, d⟩
  show (run s (w.take k)).1.time = _
  rw [c, List.length_take]
end DW

/-! ## M3.lean -/
set_option linter.all false
set_option autoImplicit false
set_option maxHeartbeats 1000000
/-! M3: chains, places. -/
namespace DW
abbrev Bx := List (Int × Option Nat)
def bAt (bx : Bx) (b : Nat) : Int × Option Nat := bx.getD b (0, none)
def chainG (bx : Bx) : Nat → Option Nat → List Nat → List Nat
  | 0, _, acc => acc
  | _ + 1, none, acc => acc
  | f + 1, some b, acc => if b ∈ acc then acc else chainG bx f (bAt bx b).2 (acc ++ [b])
/-- the boxes from one on, downwards, each once -/
def chain (bx : Bx) (o : Option Nat) : List Nat := chainG bx (bx.length + 1) o []
theorem chainG_none {bx : Bx} {f : Nat} {acc : List Nat} : chainG bx f none acc = acc := by cases f <;> rfl
theorem chainG_mem {bx : Bx} {f b : Nat} {acc : List Nat} (h : b ∈ acc) : chainG bx f (some b) acc = acc := by
  cases f with
  | zero => rfl
  | succ f => simp only [chainG, if_pos h]
/-- a list of different numbers below n is not longer than n -/
theorem nodup_le : ∀ {n : Nat} {l : List Nat}, l.Nodup → (∀ x ∈ l, x < n) → l.length ≤ n
  | 0, l, _, h => by cases l with | nil => exact Nat.le_refl 0 | cons a t => exact absurd (h a List.mem_cons_self) (Nat.not_lt_zero _)
  | n + 1, l, nd, h => by
    have h1 := nodup_le (n := n) (l := l.erase n) (nd.erase n) fun x hx => by
      have h2 := h x (List.mem_of_mem_erase hx)
      have h3 : x ≠ n := fun z => by subst z; exact nd.not_mem_erase hx
      omega
    by_cases hm : n ∈ l
    · rw [List.length_erase_of_mem hm] at h1; omega
    · rw [List.erase_of_not_mem hm] at h1; omega
/-- boxes of a hand -/
def heldB (bx : Bx) (h : Hand) : List Nat := if h.ph = .walk then chain bx h.box else h.box.toList
/-- where each box is told to be: 15 in the pile, 16 spare, 17 held -/
def placedL (s : St) : List (Nat × Nat) := (chain s.boxes s.head.1).map (·, 15) ++ s.spare.map (·, 16) ++ (s.hands.flatMap (heldB s.boxes)).map (·, 17)
def wordsAt (L : List (Nat × Nat)) (i : Nat) : List Nat := (L.filter fun p => p.1 == i).map (·.2)
def placesL (s : St) : List (List Nat) := (List.range s.boxes.length).map (wordsAt (placedL s))
def valuesL (s : St) : List Int := (chain s.boxes s.head.1).map fun b => (bAt s.boxes b).1
theorem wordsAt_app {L : List (Nat × Nat)} {b w i : Nat} : wordsAt (L ++ [(b, w)]) i = if b = i then wordsAt L i ++ [w] else wordsAt L i := by
  unfold wordsAt
  rw [List.filter_append, List.map_append]
  by_cases h : b = i
  · subst h; simp
  · have : ((b == i) = false) := beq_eq_false_iff_ne.mpr h
    simp [List.filter, this, h]
theorem chainG_lt {bx : Bx} (hb : ∀ p ∈ bx, inB bx.length p.2) : ∀ {f : Nat} {o : Option Nat} {acc : List Nat}, inB bx.length o → (∀ x ∈ acc, x < bx.length) → ∀ x ∈ chainG bx f o acc, x < bx.length
  | 0, _, acc, _, h => h
  | _ + 1, none, acc, _, h => h
  | f + 1, some b, acc, ho, h => by
    have hbl := ho b rfl
    simp only [chainG]
    split
    · exact h
    · refine chainG_lt hb (f := f) ?_ fun x hx => ?_
      · unfold bAt; rw [List.getD_eq_getElem?_getD, List.getElem?_eq_getElem hbl]; exact hb _ (List.getElem_mem hbl)
      · rcases List.mem_append.mp hx with hx | hx
        · exact h x hx
        · rw [List.mem_singleton.mp hx]; exact hbl
theorem chain_lt {bx : Bx} (hb : ∀ p ∈ bx, inB bx.length p.2) {o : Option Nat} (ho : inB bx.length o) : ∀ x ∈ chain bx o, x < bx.length := chainG_lt hb ho fun x hx => by cases hx
theorem held_lt {bx : Bx} (hb : ∀ p ∈ bx, inB bx.length p.2) {h : Hand} (ho : inB bx.length h.box) : ∀ x ∈ heldB bx h, x < bx.length := by
  unfold heldB
  split
  · exact chain_lt hb ho
  · intro x hx
    cases e : h.box with
    | none => rw [e] at hx; cases hx
    | some b => rw [e] at hx; rw [List.mem_singleton.mp hx]; exact ho b e

theorem chainG_nd {bx : Bx} : ∀ {f : Nat} {o : Option Nat} {acc : List Nat}, acc.Nodup → (chainG bx f o acc).Nodup
  | 0, _, acc, h => h
  | _ + 1, none, acc, h => h
  | f + 1, some b, acc, h => by
    simp only [chainG]
    split
    · exact h
    · rename_i hm
      exact chainG_nd (f := f) (List.nodup_append.mpr ⟨h, by simp, fun a ha b' hb' => by rw [List.mem_singleton.mp hb']; rintro rfl; exact hm ha⟩)
theorem chain_nd (bx : Bx) (o : Option Nat) : (chain bx o).Nodup := chainG_nd List.nodup_nil
theorem chain_len {bx : Bx} (hb : ∀ p ∈ bx, inB bx.length p.2) {o : Option Nat} (ho : inB bx.length o) : (chain bx o).length ≤ bx.length := nodup_le (chain_nd bx o) (chain_lt hb ho)
end DW

/-! ## M4.lean -/
set_option linter.all false
set_option autoImplicit false
set_option maxHeartbeats 1000000
/-! M4: of marks and of new each box is in one place, and what is still as it was seen is as it was seen. -/
namespace DW
def Link (bx : Bx) : Option Nat → List Nat → Prop
  | none, [] => True
  | some b, c :: t => b = c ∧ b < bx.length ∧ Link bx (bAt bx b).2 t
  | _, _ => False
theorem link_lt {bx : Bx} : ∀ {o : Option Nat} {l : List Nat}, Link bx o l → ∀ x ∈ l, x < bx.length
  | none, [], _, x, h => by cases h
  | some b, c :: t, ⟨e, hl, k⟩, x, h => by
    rcases List.mem_cons.mp h with rfl | h
    · rw [← e]; exact hl
    · exact link_lt k x h
  | none, _ :: _, k, _, _ => k.elim
  | some _, [], k, _, _ => k.elim
theorem link_frame {bx by' : Bx} (hn : bx.length ≤ by'.length) : ∀ {o : Option Nat} {l : List Nat}, (∀ b ∈ l, bAt by' b = bAt bx b) → Link bx o l → Link by' o l
  | none, [], _, _ => trivial
  | some b, c :: t, f, ⟨e, hl, k⟩ => by
    subst e
    refine ⟨rfl, Nat.lt_of_lt_of_le hl hn, ?_⟩
    rw [f b List.mem_cons_self]
    exact link_frame hn (fun x hx => f x (List.mem_cons_of_mem _ hx)) k
  | none, _ :: _, _, k => k.elim
  | some _, [], _, k => k.elim
theorem link_none {bx : Bx} {l : List Nat} (h : Link bx none l) : l = [] := by cases l with | nil => rfl | cons _ _ => exact h.elim
theorem link_some {bx : Bx} {b : Nat} {l : List Nat} (h : Link bx (some b) l) : ∃ t, l = b :: t ∧ b < bx.length ∧ Link bx (bAt bx b).2 t := by
  cases l with
  | nil => exact h.elim
  | cons c t => obtain ⟨e, hl, k⟩ := h; subst e; exact ⟨t, rfl, hl, k⟩
theorem link_chainG {bx : Bx} : ∀ {l : List Nat} {o : Option Nat} {f : Nat} {acc : List Nat}, Link bx o l → (acc ++ l).Nodup → l.length ≤ f → chainG bx f o acc = acc ++ l
  | [], none, f, acc, _, _, _ => by rw [chainG_none, List.append_nil]
  | [], some _, _, _, k, _, _ => k.elim
  | _ :: _, none, _, _, k, _, _ => k.elim
  | c :: t, some b, 0, acc, _, _, hf => by simp at hf
  | c :: t, some b, f + 1, acc, ⟨e, hl, k⟩, nd, hf => by
    subst e
    have hb : b ∉ acc := fun hm => by
      have := (List.nodup_append.mp nd).2.2 b hm b List.mem_cons_self
      exact this rfl
    simp only [chainG, if_neg hb]
    have nd' : ((acc ++ [b]) ++ t).Nodup := by rw [List.append_assoc]; exact nd
    rw [link_chainG k nd' (by simpa using hf), List.append_assoc]; rfl
theorem link_chain {bx : Bx} {l : List Nat} {o : Option Nat} (k : Link bx o l) (nd : l.Nodup) : chain bx o = l := by
  unfold chain
  rw [link_chainG k (by simpa using nd) (Nat.le_succ_of_le (nodup_le nd (link_lt k)))]; rfl
inductive Place where
  | pile | spare | hand (i : Nat) | out
  deriving DecidableEq
def HeldOk (bx : Bx) (h : Hand) (l : List Nat) : Prop := (h.ph = .walk → Link bx h.box l) ∧ (h.ph ≠ .walk → l = h.box.toList)
/-- a box that no push or swap works at -/
def Pub (s : St) (own : Nat → Place) (b : Nat) : Prop := b < s.boxes.length ∧ ∀ (j : Nat) (h : Hand), s.hands[j]? = some h → h.ph ≠ .walk → own b ≠ .hand j
def Late (h : Hand) : Prop := h.ph = .see ∨ h.ph = .check ∨ h.ph = .put
structure SeenOk (bx : Bx) (hd : Hd) (kd : Kd) (Pb : Nat → Prop) (h : Hand) : Prop where
  mark : Late h → ∀ o m, h.seen = some (o, m) → m ≤ hd.2
  marks : Late h → ∀ o m, h.seen = some (o, m) → kd = .marks → m = hd.2 → o = hd.1
  pub : Late h → ∀ b m, h.seen = some (some b, m) → kd = .new → Pb b
  cons : Late h → h.ph ≠ .see → (∀ x, h.deed ≠ .push x) → ∀ b m v w, h.seen = some (some b, m) → h.got = .pair v w → (kd = .new ∨ m = hd.2) → bAt bx b = (v, w)
  push : h.ph = .put → ∀ x o m b, h.deed = .push x → h.seen = some (o, m) → h.box = some b → (bAt bx b).2 = o
  swap : h.ph = .put → ∀ x v w b, h.deed = .swap x → h.got = .pair v w → h.box = some b → (bAt bx b).2 = w
  val : h.ph ≠ .walk → ∀ b, h.box = some b → (bAt bx b).1 = h.deed.val
structure Inv (s : St) (own : Nat → Place) (P : List Nat) (L : Nat → List Nat) : Prop where
  wf : WfS s
  kind : s.kind ≠ .bare
  link : Link s.boxes s.head.1 P
  held : ∀ (i : Nat) (h : Hand), s.hands[i]? = some h → HeldOk s.boxes h (L i)
  seen : ∀ (i : Nat) (h : Hand), s.hands[i]? = some h → SeenOk s.boxes s.head s.kind (Pub s own) h
  ndP : P.Nodup
  ndS : s.spare.Nodup
  ndL : ∀ i, (L i).Nodup
  memP : ∀ b, b ∈ P ↔ own b = .pile
  memS : ∀ b, b ∈ s.spare ↔ own b = .spare
  memL : ∀ i b, b ∈ L i ↔ own b = .hand i
  out : ∀ b, own b = .out ↔ s.boxes.length ≤ b
  noL : ∀ i, s.hands.length ≤ i → L i = []
theorem bAt_set_ne {bx : Bx} {b c : Nat} {p : Int × Option Nat} (h : b ≠ c) : bAt (bx.set b p) c = bAt bx c := by
  unfold bAt; rw [List.getD_eq_getElem?_getD, List.getD_eq_getElem?_getD, List.getElem?_set_ne h]
theorem bAt_set {bx : Bx} {b : Nat} {p : Int × Option Nat} (h : b < bx.length) : bAt (bx.set b p) b = p := by
  unfold bAt; rw [List.getD_eq_getElem?_getD, List.getElem?_set_self h]; rfl
theorem bAt_app {bx : Bx} {c : Nat} {p : Int × Option Nat} (h : c < bx.length) : bAt (bx ++ [p]) c = bAt bx c := by
  unfold bAt; rw [List.getD_eq_getElem?_getD, List.getD_eq_getElem?_getD, List.getElem?_append_left h]
theorem bAt_last {bx : Bx} {p : Int × Option Nat} : bAt (bx ++ [p]) bx.length = p := by
  unfold bAt; rw [List.getD_eq_getElem?_getD, List.getElem?_append_right (Nat.le_refl _)]; simp

/-- one hand's step, all told -/
theorem inv_mk {s s' : St} {own own' : Nat → Place} {P P' : List Nat} {L : Nat → List Nat} {l' : List Nat} {n : Nat} {h' : Hand} (k : Inv s own P L) (hn : n < s.hands.length)
    (wf : WfS s') (kd : s'.kind = s.kind) (hs : s'.hands = s.hands.set n h') (nb : s.boxes.length ≤ s'.boxes.length)
    (link : Link s'.boxes s'.head.1 P') (held : HeldOk s'.boxes h' l') (seen : SeenOk s'.boxes s'.head s.kind (Pub s own) h')
    (ndP : P'.Nodup) (ndS : s'.spare.Nodup) (ndL : l'.Nodup) (memP : ∀ b, b ∈ P' ↔ own' b = .pile) (memS : ∀ b, b ∈ s'.spare ↔ own' b = .spare) (memL : ∀ b, b ∈ l' ↔ own' b = .hand n)
    (memO : ∀ i, i ≠ n → ∀ b, own b = .hand i ↔ own' b = .hand i) (out : ∀ b, own' b = .out ↔ s'.boxes.length ≤ b)
    (head : s'.head = s.head ∨ s'.head.2 = s.head.2 + 1)
    (frame : ∀ b, (∃ i, i ≠ n ∧ own b = .hand i) → bAt s'.boxes b = bAt s.boxes b)
    (frP : ∀ b, own b = .pile → s'.head = s.head → bAt s'.boxes b = bAt s.boxes b)
    (frN : ∀ b, s.kind = .new → Pub s own b → bAt s'.boxes b = bAt s.boxes b)
    (pubN : ∀ b, s.kind = .new → Pub s own b → h'.ph ≠ .walk → own' b ≠ .hand n) :
    Inv s' own' P' (fun i => if i = n then l' else L i) := by
  have hl : s'.hands.length = s.hands.length := by rw [hs, List.length_set]
  have pub' : ∀ b, s.kind = .new → Pub s own b → Pub s' own' b := fun b hk hp => by
    refine ⟨Nat.lt_of_lt_of_le hp.1 nb, fun j x hx hw => ?_⟩
    rw [hs] at hx
    by_cases hj : n = j
    · subst hj
      rw [List.getElem?_set_self hn] at hx; cases hx
      exact pubN b hk hp hw
    · rw [List.getElem?_set_ne hj] at hx
      intro z
      exact hp.2 j x hx hw ((memO j (Ne.symm hj) b).mpr z)
  refine ⟨wf, by rw [kd]; exact k.kind, link, fun i x hx => ?_, fun i x hx => ?_, ndP, ndS, fun i => ?_, memP, memS, fun i b => ?_, out, fun i hi => ?_⟩
  · rw [hs] at hx
    by_cases hi : n = i
    · subst hi
      rw [List.getElem?_set_self hn] at hx; cases hx
      rw [if_pos rfl]; exact held
    · rw [List.getElem?_set_ne hi] at hx
      rw [if_neg (Ne.symm hi)]
      have ho := k.held i x hx
      exact ⟨fun z => link_frame nb (fun b hb => frame b ⟨i, Ne.symm hi, (k.memL i b).mp hb⟩) (ho.1 z), ho.2⟩
  · rw [hs] at hx
    by_cases hi : n = i
    · subst hi
      rw [List.getElem?_set_self hn] at hx; cases hx
      rw [kd]
      exact ⟨seen.mark, seen.marks, fun a b m e hk => pub' b hk (seen.pub a b m e hk), seen.cons, seen.push, seen.swap, seen.val⟩
    · rw [List.getElem?_set_ne hi] at hx
      have so := k.seen i x hx
      have ho := k.held i x hx
      have own1 : x.ph ≠ .walk → ∀ b, x.box = some b → bAt s'.boxes b = bAt s.boxes b := fun hw b hb =>
        frame b ⟨i, Ne.symm hi, (k.memL i b).mp (by rw [ho.2 hw, hb]; exact List.mem_singleton.mpr rfl)⟩
      refine ⟨fun hL o m e => ?_, fun hL o m e hk hm => ?_, fun hL b m e hk => ?_, fun hL hs2 hnp b m v w e hg hc => ?_, fun hp y o m b hd e hb => ?_, fun hp y v w b hd hg hb => ?_, fun hw b hb => ?_⟩
      · have := so.mark hL o m e
        rcases head with h | h
        · rw [h]; exact this
        · omega
      · rw [kd] at hk
        have := so.mark hL o m e
        rcases head with h | h
        · rw [h] at hm ⊢; exact so.marks hL o m e hk hm
        · omega
      · rw [kd] at hk
        exact pub' b hk (so.pub hL b m e hk)
      · rw [kd] at hc
        rcases hc with hc | hc
        · rw [frN b hc (so.pub hL b m e hc)]
          exact so.cons hL hs2 hnp b m v w e hg (.inl hc)
        · have hm := so.mark hL _ m e
          rcases head with h | h
          · rw [h] at hc
            have hkd : s.kind = .marks ∨ s.kind = .new := by
              have := k.kind
              cases hkk : s.kind <;> first | exact .inl rfl | exact .inr rfl | exact absurd hkk this
            rcases hkd with hkd | hkd
            · have hb : some b = s.head.1 := so.marks hL _ m e hkd hc
              have hl := k.link
              rw [← hb] at hl
              obtain ⟨t, ht, _⟩ := link_some hl
              rw [frP b ((k.memP b).mp (by rw [ht]; exact List.mem_cons_self)) h]
              exact so.cons hL hs2 hnp b m v w e hg (.inr hc)
            · rw [frN b hkd (so.pub hL b m e hkd)]
              exact so.cons hL hs2 hnp b m v w e hg (.inl hkd)
          · omega
      · rw [own1 (by rw [hp]; decide) b hb]; exact so.push hp y o m b hd e hb
      · rw [own1 (by rw [hp]; decide) b hb]; exact so.swap hp y v w b hd hg hb
      · rw [own1 hw b hb]; exact so.val hw b hb
  · by_cases hi : i = n
    · rw [if_pos hi]; exact ndL
    · rw [if_neg hi]; exact k.ndL i
  · by_cases hi : i = n
    · subst hi; rw [if_pos rfl]; exact memL b
    · rw [if_neg hi, k.memL i b]; exact memO i hi b
  · rw [hl] at hi
    rw [if_neg (by omega)]; exact k.noL i hi

section
variable {s : St} {own : Nat → Place} {P : List Nat} {L : Nat → List Nat} {n : Nat}
theorem late_next (h : Hand) : ¬ Late h.next := by unfold Late Hand.next; simp
theorem seen_next {bx : Bx} {hd : Hd} {kd : Kd} {Pb : Nat → Prop} (h : Hand) : SeenOk bx hd kd Pb h.next :=
  ⟨fun z => absurd z (late_next h), fun z => absurd z (late_next h), fun z => absurd z (late_next h), fun z => absurd z (late_next h), fun z => by simp [Hand.next] at z, fun z => by simp [Hand.next] at z, fun _ b e => by simp [Hand.next] at e⟩
theorem seen_begin {bx : Bx} {hd : Hd} {kd : Kd} {Pb : Nat → Prop} {h : Hand} {t : Nat} (k : SeenOk bx hd kd Pb h) : SeenOk bx hd kd Pb (h.begin t) := by
  unfold Hand.begin
  split
  · rename_i hi
    have nl : ∀ p, (p = Ph.take ∨ p = Ph.look) → ¬ Late { h with ph := p, begun := t } := fun p hp => by
      rintro (z | z | z) <;> dsimp only at z <;> rcases hp with rfl | rfl <;> cases z
    have hp : (if h.deed.own = true then Ph.take else Ph.look) = .take ∨ (if h.deed.own = true then Ph.take else Ph.look) = .look := by split; exact .inl rfl; exact .inr rfl
    generalize (if h.deed.own = true then Ph.take else Ph.look) = p at hp
    refine ⟨fun z => absurd z (nl p hp), fun z => absurd z (nl p hp), fun z => absurd z (nl p hp), fun z => absurd z (nl p hp), fun z => ?_, fun z => ?_, fun _ b e => k.val (by rw [hi]; decide) b e⟩
    · dsimp only at z; rcases hp with rfl | rfl <;> cases z
    · dsimp only at z; rcases hp with rfl | rfl <;> cases z
  · exact k
theorem held_begin {bx : Bx} {h : Hand} {l : List Nat} {t : Nat} (k : HeldOk bx h l) : HeldOk bx (h.begin t) l := by
  unfold Hand.begin
  split
  · rename_i hi
    refine ⟨fun z => ?_, fun _ => k.2 (by rw [hi]; decide)⟩
    dsimp only at z; split at z <;> cases z
  · exact k
theorem nd_app {l : List Nat} {b : Nat} (h : l.Nodup) (hb : b ∉ l) : (l ++ [b]).Nodup := List.nodup_append.mpr ⟨h, by simp, fun a ha c hc => by rw [List.mem_singleton.mp hc]; rintro rfl; exact hb ha⟩
theorem Inv.own_lt (k : Inv s own P L) {b : Nat} (h : own b ≠ .out) : b < s.boxes.length := Nat.lt_of_not_le fun z => h ((k.out b).mpr z)
theorem Inv.pub_pile (k : Inv s own P L) {b : Nat} (h : own b = .pile) : Pub s own b := ⟨k.own_lt (by rw [h]; decide), fun j x _ _ z => by rw [h] at z; cases z⟩
theorem Inv.head_pile (k : Inv s own P L) {b : Nat} (h : s.head.1 = some b) : own b = .pile ∧ ∃ t, P = b :: t ∧ Link s.boxes (bAt s.boxes b).2 t := by
  have hl := k.link
  rw [h] at hl
  obtain ⟨t, e, _, l⟩ := link_some hl
  exact ⟨(k.memP b).mp (by rw [e]; exact List.mem_cons_self), t, e, l⟩
/-- boxes, spare ones and the head stay; the hand holds what it held -/
theorem inv_quiet {s' : St} {h h' : Hand} (k : Inv s own P L) (hn : n < s.hands.length) (hh : s.hands[n]? = some h) (wf : WfS s') (kd : s'.kind = s.kind) (hs : s'.hands = s.hands.set n h') (e1 : s'.boxes = s.boxes) (e2 : s'.spare = s.spare) (e3 : s'.head = s.head)
    (hw : h.ph ≠ .walk) (held : HeldOk s.boxes h' (L n)) (seen : SeenOk s.boxes s.head s.kind (Pub s own) h') : Inv s' own P (fun i => if i = n then L n else L i) := by
  refine inv_mk k hn wf kd hs (by rw [e1]; exact Nat.le_refl _) (by rw [e1, e3]; exact k.link) (by rw [e1]; exact held) (by rw [e1, e3]; exact seen) k.ndP (by rw [e2]; exact k.ndS) (k.ndL n) k.memP (by rw [e2]; exact k.memS) (k.memL n) (fun _ _ _ => Iff.rfl) (by rw [e1]; exact k.out) (.inl e3) (fun _ _ => by rw [e1]) (fun _ _ _ => by rw [e1]) (fun _ _ _ => by rw [e1]) ?_
  intro b _ hp _
  exact hp.2 n h hh hw
end
end DW

/-! ## M4b.lean -/
set_option linter.all false
set_option autoImplicit false
set_option maxHeartbeats 2000000
/-! M4b: each step keeps it. -/
namespace DW
def nx (s : St) (n : Nat) (r : St × Hand × Step) : St := { r.1 with hands := s.hands.set n r.2.1, time := s.time + 1 }
theorem step_nx (s : St) (n : Nat) : (step s n).1 = nx s n (stepOf s (s.hand n) n) := rfl
def Nxt (s : St) (n : Nat) (r : St × Hand × Step) : Prop := ∃ own' P' L', Inv (nx s n r) own' P' L'
section
variable {s : St} {own : Nat → Place} {P : List Nat} {L : Nat → List Nat} {n : Nat} {h0 h : Hand}
theorem inv_take (k : Inv s own P L) (hn : n < s.hands.length) (hh : s.hands[n]? = some h0) (hw : h0.ph ≠ .walk) (held : HeldOk s.boxes h (L n)) (ko : HOk s.boxes.length s.time h) (e : h.ph = .take) (wf : WfS (nx s n (stepTake s h))) : Nxt s n (stepTake s h) := by
  have p := ko.ph
  unfold PhOk at p; rw [e] at p; dsimp only at p
  obtain ⟨p0, p1, p2, p3, p4⟩ := p
  have hL : L n = [] := by rw [held.2 (by rw [e]; decide), p2]; rfl
  have hnn : ∀ b, own b ≠ .hand n := fun b z => by have := (k.memL n b).mpr z; rw [hL] at this; cases this
  have hpub : ∀ b, Pub s own b → own b ≠ .hand n := fun b _ => hnn b
  by_cases hc : s.kind = .new ∨ s.spare = []
  · rw [take_new hc] at wf ⊢
    have ho : own s.boxes.length = .out := (k.out _).mpr (Nat.le_refl _)
    have hne : ∀ x, own x ≠ .out → x ≠ s.boxes.length := fun x hx z => by rw [z] at hx; exact hx ho
    have hlt : ∀ x, own x ≠ .out → bAt (s.boxes ++ [(h.deed.val, none)]) x = bAt s.boxes x := fun x hx => bAt_app (k.own_lt hx)
    refine ⟨fun x => if x = s.boxes.length then .hand n else own x, P, _, inv_mk (s' := nx s n _) (h' := { h with box := some s.boxes.length, ph := .look }) (l' := [s.boxes.length]) k hn wf rfl rfl ?_ ?_ ?_ ?_ k.ndP k.ndS (by simp) ?_ ?_ ?_ ?_ ?_ (.inl rfl) ?_ ?_ ?_ ?_⟩
    · show s.boxes.length ≤ (s.boxes ++ [_]).length; rw [List.length_append]; exact Nat.le_add_right _ _
    · exact link_frame (by simp [nx]) (fun b hb => hlt b (by rw [(k.memP b).mp hb]; decide)) k.link
    · exact ⟨fun z => (by cases z), fun _ => rfl⟩
    · refine ⟨fun z => ?_, fun z => ?_, fun z => ?_, fun z => ?_, fun z => (by cases z), fun z => (by cases z), fun _ b eb => ?_⟩
      · rcases z with z | z | z <;> cases z
      · rcases z with z | z | z <;> cases z
      · rcases z with z | z | z <;> cases z
      · rcases z with z | z | z <;> cases z
      · cases eb
        show (bAt (s.boxes ++ [(h.deed.val, none)]) s.boxes.length).1 = h.deed.val
        rw [bAt_last]
    · intro b
      rw [k.memP b]
      by_cases hb : b = s.boxes.length
      · subst hb; rw [if_pos rfl, ho]; simp
      · rw [if_neg hb]
    · intro b
      show b ∈ s.spare ↔ _
      rw [k.memS b]
      by_cases hb : b = s.boxes.length
      · subst hb; rw [if_pos rfl, ho]; simp
      · rw [if_neg hb]
    · intro b
      by_cases hb : b = s.boxes.length
      · subst hb; simp
      · rw [if_neg hb]; simp [hb, hnn b]
    · intro i hi b
      by_cases hb : b = s.boxes.length
      · subst hb; rw [if_pos rfl, ho]; simp [Ne.symm hi]
      · rw [if_neg hb]
    · intro b
      show _ ↔ (s.boxes ++ [_]).length ≤ b
      rw [List.length_append]
      by_cases hb : b = s.boxes.length
      · subst hb; simp
      · rw [if_neg hb, k.out b]; simp; omega
    · rintro b ⟨i, hi, hb⟩; exact hlt b (by rw [hb]; simp)
    · intro b hb _; exact hlt b (by rw [hb]; decide)
    · intro b _ hp; exact hlt b fun z => by have := (k.out b).mp z; have := hp.1; omega
    · intro b _ hp _
      rw [if_neg (by have := hp.1; omega)]; exact hnn b
  · rw [take_old hc] at wf ⊢
    have hkn : s.kind ≠ .new := fun z => hc (.inl z)
    have hne : s.spare ≠ [] := fun z => hc (.inr z)
    obtain ⟨init, b, hsp⟩ : ∃ init b, s.spare = init ++ [b] := by
      rcases List.eq_nil_or_concat s.spare with z | ⟨i, b, z⟩
      · exact absurd z hne
      · exact ⟨i, b, by rw [z, List.concat_eq_append]⟩
    have hb0 : s.spare.getLastD 0 = b := by rw [hsp]; simp
    have hd0 : s.spare.dropLast = init := by rw [hsp]; simp
    rw [hb0, hd0] at wf ⊢
    have hob : own b = .spare := (k.memS b).mp (by rw [hsp]; simp)
    have hbl := k.own_lt (b := b) (by rw [hob]; decide)
    have hnd := k.ndS
    rw [hsp] at hnd
    have hbi : b ∉ init := fun hm => (List.nodup_append.mp hnd).2.2 b hm b (by simp) rfl
    have hfr : ∀ x, own x ≠ .spare → bAt (s.boxes.set b (h.deed.val, none)) x = bAt s.boxes x := fun x hx => bAt_set_ne fun z => hx (by rw [← z]; exact hob)
    refine ⟨fun x => if x = b then .hand n else own x, P, _, inv_mk (s' := nx s n _) (h' := { h with box := some b, ph := .look }) (l' := [b]) k hn wf rfl rfl ?_ ?_ ?_ ?_ k.ndP (List.nodup_append.mp hnd).1 (by simp) ?_ ?_ ?_ ?_ ?_ (.inl rfl) ?_ ?_ ?_ ?_⟩
    · show s.boxes.length ≤ (s.boxes.set _ _).length; rw [List.length_set]; exact Nat.le_refl _
    · exact link_frame (by simp [nx]) (fun x hx => hfr x (by rw [(k.memP x).mp hx]; decide)) k.link
    · exact ⟨fun z => (by cases z), fun _ => rfl⟩
    · refine ⟨fun z => ?_, fun z => ?_, fun z => ?_, fun z => ?_, fun z => (by cases z), fun z => (by cases z), fun _ c ec => ?_⟩
      · rcases z with z | z | z <;> cases z
      · rcases z with z | z | z <;> cases z
      · rcases z with z | z | z <;> cases z
      · rcases z with z | z | z <;> cases z
      · cases ec
        show (bAt (s.boxes.set b (h.deed.val, none)) b).1 = h.deed.val
        rw [bAt_set hbl]
    · intro x
      rw [k.memP x]
      by_cases hx : x = b
      · subst hx; rw [if_pos rfl, hob]; simp
      · rw [if_neg hx]
    · intro x
      show x ∈ init ↔ _
      by_cases hx : x = b
      · subst hx; rw [if_pos rfl]; simp [hbi]
      · rw [if_neg hx, ← k.memS x, hsp]; simp [hx]
    · intro x
      by_cases hx : x = b
      · subst hx; simp
      · rw [if_neg hx]; simp [hx, hnn x]
    · intro i hi x
      by_cases hx : x = b
      · subst hx; rw [if_pos rfl, hob]; simp [Ne.symm hi]
      · rw [if_neg hx]
    · intro x
      show _ ↔ (s.boxes.set _ _).length ≤ x
      rw [List.length_set]
      by_cases hx : x = b
      · subst hx; simp; omega
      · rw [if_neg hx, k.out x]
    · rintro x ⟨i, hi, hx⟩; exact hfr x (by rw [hx]; simp)
    · intro x hx _; exact hfr x (by rw [hx]; decide)
    · intro x hk _; exact absurd hk hkn
    · intro x hk _; exact absurd hk hkn
/-- the hand writes below its own box -/
theorem inv_below {h' : Hand} {b : Nat} {w : Option Nat} {s' : St} (k : Inv s own P L) (hn : n < s.hands.length) (hh : s.hands[n]? = some h0) (hw : h0.ph ≠ .walk) (hob : own b = .hand n) (wf : WfS s') (kd : s'.kind = s.kind) (hs : s'.hands = s.hands.set n h') (e1 : s'.boxes = s.boxes.set b ((s.inside b).1, w)) (e2 : s'.spare = s.spare) (e3 : s'.head = s.head)
    (held : HeldOk s'.boxes h' (L n)) (seen : SeenOk s'.boxes s.head s.kind (Pub s own) h') : ∃ own' P' L', Inv s' own' P' L' := by
  have hfr : ∀ x, own x ≠ .hand n → bAt s'.boxes x = bAt s.boxes x := fun x hx => by rw [e1]; exact bAt_set_ne fun z => hx (by rw [← z]; exact hob)
  have hpub : ∀ x, Pub s own x → own x ≠ .hand n := fun x hp => hp.2 n h0 hh hw
  refine ⟨own, P, _, inv_mk k hn wf kd hs (by rw [e1, List.length_set]; exact Nat.le_refl _) ?_ held (by rw [e3]; exact seen) k.ndP (by rw [e2]; exact k.ndS) (k.ndL n) k.memP (by rw [e2]; exact k.memS) (k.memL n) (fun _ _ _ => Iff.rfl) (by rw [e1, List.length_set]; exact k.out) (.inl e3) ?_ ?_ ?_ ?_⟩
  · rw [e3]; exact link_frame (by rw [e1, List.length_set]; exact Nat.le_refl _) (fun x hx => hfr x (by rw [(k.memP x).mp hx]; simp)) k.link
  · rintro x ⟨i, hi, hx⟩; exact hfr x (by rw [hx]; simp [hi])
  · intro x hx _; exact hfr x (by rw [hx]; simp)
  · intro x _ hp; exact hfr x (hpub x hp)
  · intro x _ hp _; exact hpub x hp
/-- the hand's own box becomes spare, and it goes on to its next deed -/
theorem inv_free {b : Nat} {s' : St} {h' : Hand} (k : Inv s own P L) (hn : n < s.hands.length) (hLn : L n = [b]) (wf : WfS s') (kd : s'.kind = s.kind) (hs : s'.hands = s.hands.set n h'.next) (e1 : s'.boxes = s.boxes) (e2 : s'.spare = s.spare ++ [b]) (e3 : s'.head = s.head) : ∃ own' P' L', Inv s' own' P' L' := by
  have hob : own b = .hand n := (k.memL n b).mp (by rw [hLn]; simp)
  have hon : ∀ x, own x = .hand n → x = b := fun x hx => by have := (k.memL n x).mpr hx; rw [hLn] at this; exact List.mem_singleton.mp this
  refine ⟨fun x => if x = b then .spare else own x, P, _, inv_mk (h' := h'.next) (l' := []) k hn wf kd hs (by rw [e1]; exact Nat.le_refl _) (by rw [e1, e3]; exact k.link) ?_ (seen_next h') k.ndP ?_ List.nodup_nil ?_ ?_ ?_ ?_ ?_ (.inl e3) (fun _ _ => by rw [e1]) (fun _ _ _ => by rw [e1]) (fun _ _ _ => by rw [e1]) ?_⟩
  · exact ⟨fun z => by simp [Hand.next] at z, fun _ => rfl⟩
  · rw [e2]; exact nd_app k.ndS fun z => by rw [k.memS, hob] at z; cases z
  · intro x
    rw [k.memP x]
    by_cases hx : x = b
    · subst hx; rw [if_pos rfl, hob]; simp
    · rw [if_neg hx]
  · intro x
    rw [e2]
    by_cases hx : x = b
    · subst hx; simp
    · rw [if_neg hx, ← k.memS x]; simp [hx]
  · intro x
    by_cases hx : x = b
    · subst hx; simp
    · rw [if_neg hx]; simp; exact fun z => hx (hon x z)
  · intro i hi x
    by_cases hx : x = b
    · subst hx; rw [if_pos rfl, hob]; simp [Ne.symm hi]
    · rw [if_neg hx]
  · intro x
    rw [e1]
    by_cases hx : x = b
    · subst hx; rw [if_pos rfl]; simp; exact k.own_lt (by rw [hob]; simp)
    · rw [if_neg hx]; exact k.out x
  · intro x _ hp _
    by_cases hx : x = b
    · subst hx; simp
    · rw [if_neg hx]; exact fun z => hx (hon x z)
theorem held_box {b : Nat} (held : HeldOk s.boxes h (L n)) (e : h.ph ≠ .walk) (hb : h.box = some b) : L n = [b] := by rw [held.2 e, hb]; rfl
theorem held_keep {bx : Bx} {h' : Hand} {l : List Nat} (held : HeldOk s.boxes h l) (e : h.ph ≠ .walk) (eb : h'.box = h.box) (e' : h'.ph ≠ .walk) : HeldOk bx h' l := ⟨fun z => absurd z e', fun _ => by rw [held.2 e, eb]⟩
theorem held_next {bx : Bx} {h' : Hand} (held : HeldOk s.boxes h (L n)) (e : h.ph ≠ .walk) (hb : h.box = none) : HeldOk bx h'.next (L n) := ⟨fun z => by simp [Hand.next] at z, fun _ => by rw [held.2 e, hb]; rfl⟩
theorem inv_look (k : Inv s own P L) (hn : n < s.hands.length) (hh : s.hands[n]? = some h0) (hw : h0.ph ≠ .walk) (held : HeldOk s.boxes h (L n)) (so : SeenOk s.boxes s.head s.kind (Pub s own) h) (ko : HOk s.boxes.length s.time h) (e : h.ph = .look) (wf : WfS (nx s n (stepLook s h n))) : Nxt s n (stepLook s h n) := by
  have p := ko.ph
  unfold PhOk at p; rw [e] at p; dsimp only at p
  obtain ⟨p0, p1, p2⟩ := p
  have hnw : h.ph ≠ .walk := by rw [e]; decide
  have hkp : s.kind = .new → ∀ b, s.head.1 = some b → Pub s own b := fun _ b hb => k.pub_pile (k.head_pile hb).1
  by_cases hpush : ∃ x, h.deed = .push x
  · obtain ⟨x, hd⟩ := hpush
    rw [look_push hd] at wf ⊢
    have ho := own_some (p1 (deed_own_push hd))
    have hLn := held_box held hnw ho
    have hob : own h.own = .hand n := (k.memL n _).mp (by rw [hLn]; simp)
    have hol := k.own_lt (b := h.own) (by rw [hob]; simp)
    have hset : bAt (s.boxes.set h.own ((s.inside h.own).1, s.head.1)) h.own = ((s.inside h.own).1, s.head.1) := bAt_set hol
    refine inv_below (s' := nx s n _) (h' := { h with seen := some s.head, ph := .put }) (w := s.head.1) (b := h.own) k hn hh hw hob wf rfl rfl rfl rfl rfl ⟨fun z => (by cases z), fun _ => by rw [hLn, ho]; rfl⟩ ?_
    refine ⟨fun _ o m eo => (by rw [Option.some.inj eo]; exact Nat.le_refl _), fun _ o m eo _ _ => (by rw [Option.some.inj eo]), fun _ b m eo hk => ?_, fun _ _ hnp => absurd hd (hnp x), fun _ y o m b _ eo hb => ?_, fun _ y v w b hs => ?_, fun _ b hb => ?_⟩
    · exact hkp hk b (by rw [Option.some.inj eo])
    · have eo2 := Option.some.inj eo
      have : b = h.own := by have := ho.symm.trans hb; cases this; rfl
      subst this
      show (bAt (s.boxes.set h.own ((s.inside h.own).1, s.head.1)) h.own).2 = _
      rw [hset]; show s.head.1 = o; rw [eo2]
    · have : h.deed = .swap y := hs
      rw [hd] at this; cases this
    · have : b = h.own := by have := ho.symm.trans hb; cases this; rfl
      subst this
      show (bAt (s.boxes.set h.own ((s.inside h.own).1, s.head.1)) h.own).1 = _
      rw [hset]; exact so.val hnw _ ho
  · have hnp : ∀ x, h.deed ≠ .push x := fun x z => hpush ⟨x, z⟩
    cases hd : s.head.1 with
    | none =>
      by_cases hsw : ∃ x, h.deed = .swap x
      · obtain ⟨x, hdd⟩ := hsw
        rw [look_swap0 hd hdd] at wf ⊢
        have ho := own_some (p1 (deed_own_swap hdd))
        exact inv_free (s' := nx s n _) (h' := { h with seen := some s.head }) k hn (held_box held hnw ho) wf rfl rfl rfl rfl rfl
      · have ho : h.deed.own = false := by
          cases hq : h.deed with
          | push x => exact absurd hq (hnp x)
          | swap x => exact absurd ⟨x, hq⟩ hsw
          | _ => rfl
        rw [look_none hd ho rfl] at wf ⊢
        have hb := p0 ho (by decide)
        exact ⟨own, P, _, inv_quiet (s' := nx s n _) (h' := Hand.next { h with seen := some s.head }) k hn hh wf rfl rfl rfl rfl rfl hw (held_next held hnw hb) (seen_next _)⟩
    | some b =>
      rw [look_some hd hnp] at wf ⊢
      refine ⟨own, P, _, inv_quiet (s' := nx s n _) (h' := { h with seen := some s.head, ph := if h.deed = .clear then .put else .see }) k hn hh wf rfl rfl rfl rfl rfl hw (held_keep held hnw rfl ?_) ?_⟩
      · dsimp only; split <;> decide
      · refine ⟨fun _ o m eo => (by rw [Option.some.inj eo]; exact Nat.le_refl _), fun _ o m eo _ _ => (by rw [Option.some.inj eo]), fun _ c m eo hk => ?_, fun _ hs _ c m v w eo hg _ => ?_, fun _ y o m c hq => absurd hq (hnp y), fun hp y v w c hs => ?_, fun _ c hc => so.val hnw c hc⟩
        · exact hkp hk c (by rw [Option.some.inj eo])
        · dsimp only at hs
          split at hs
          · rename_i hcl
            have hg : h.got = .pair v w := hg
            rw [p2 hcl] at hg; cases hg
          · exact absurd rfl hs
        · dsimp only at hp
          have hs : h.deed = .swap y := hs
          rw [hs] at hp; simp at hp
theorem inv_see (k : Inv s own P L) (hn : n < s.hands.length) (hh : s.hands[n]? = some h0) (hw : h0.ph ≠ .walk) (held : HeldOk s.boxes h (L n)) (so : SeenOk s.boxes s.head s.kind (Pub s own) h) (ko : HOk s.boxes.length s.time h) (e : h.ph = .see) (wf : WfS (nx s n (stepSee s h))) : Nxt s n (stepSee s h) := by
  have p := ko.ph
  unfold PhOk at p; rw [e] at p; dsimp only at p
  obtain ⟨p0, p1, p2, ⟨b, m, hs⟩, p3⟩ := p
  have hnw : h.ph ≠ .walk := by rw [e]; decide
  have hsb := saw_some hs
  have late : Late h := .inl e
  -- what is seen is not the hand's own
  have hbo : (s.kind = .new ∨ m = s.head.2) → own b ≠ .hand n := fun hc => by
    by_cases hkn : s.kind = .new
    · exact (so.pub late b m hs hkn).2 n h0 hh hw
    · have hkm : s.kind = .marks := by have := k.kind; cases hkk : s.kind <;> first | rfl | exact absurd hkk hkn | exact absurd hkk this
      have hm := hc.resolve_left hkn
      rw [(k.head_pile (so.marks late _ m hs hkm hm).symm).1]; simp
  have base : ∀ (bx : Bx) (ph : Ph), ph = .check ∨ ph = .put → (∀ x, h.deed = .swap x → ph = .put) → ((s.kind = .new ∨ m = s.head.2) → bAt bx b = s.inside b) → (∀ c, h.box = some c → (bAt bx c).1 = (bAt s.boxes c).1) → (∀ x c, h.deed = .swap x → h.box = some c → (bAt bx c).2 = (s.inside b).2) →
      SeenOk bx s.head s.kind (Pub s own) { h with got := .pair (s.inside b).1 (s.inside b).2, ph := ph } := fun bx ph hph hsw hb hv hs2 => by
    refine ⟨fun _ o m' eo => so.mark late o m' eo, fun _ o m' eo => so.marks late o m' eo, fun _ c m' eo => so.pub late c m' eo, fun _ _ _ c m' v w eo hg hc => ?_, fun hp y o m' c hd => absurd hd (p1 y), fun hp y v w c hd hg hc => ?_, fun _ c hc => ?_⟩
    · cases hg
      have eo : h.seen = some (some c, m') := eo
      rw [hs] at eo; cases eo
      exact hb hc
    · cases hg; exact hs2 y c hd hc
    · rw [hv c hc]; exact so.val hnw c hc
  by_cases hsw : ∃ x, h.deed = .swap x
  · obtain ⟨x, hdd⟩ := hsw
    rw [see_swap hdd, hsb] at wf ⊢
    have ho := own_some (p3 (deed_own_swap hdd))
    have hLn := held_box held hnw ho
    have hob : own h.own = .hand n := (k.memL n _).mp (by rw [hLn]; simp)
    have hol := k.own_lt (b := h.own) (by rw [hob]; simp)
    have hset : bAt (s.boxes.set h.own ((s.inside h.own).1, (s.inside b).2)) h.own = ((s.inside h.own).1, (s.inside b).2) := bAt_set hol
    refine inv_below (s' := nx s n _) (h' := { h with got := .pair (s.inside b).1 (s.inside b).2, ph := .put }) (w := (s.inside b).2) (b := h.own) k hn hh hw hob wf rfl rfl rfl rfl rfl (held_keep held hnw rfl (by simp)) ?_
    refine base _ .put (.inr rfl) (fun _ _ => rfl) (fun hc => ?_) (fun c hc => ?_) fun y c _ hc => ?_
    · exact bAt_set_ne fun z => hbo hc (by rw [← z]; exact hob)
    · have : c = h.own := by have := ho.symm.trans hc; cases this; rfl
      subst this
      show (bAt (s.boxes.set h.own ((s.inside h.own).1, (s.inside b).2)) h.own).1 = _
      rw [hset]; rfl
    · have : c = h.own := by have := ho.symm.trans hc; cases this; rfl
      subst this
      show (bAt (s.boxes.set h.own ((s.inside h.own).1, (s.inside b).2)) h.own).2 = _
      rw [hset]
  · have hns : ∀ x, h.deed ≠ .swap x := fun x z => hsw ⟨x, z⟩
    cases hdd : h.deed with
    | push x => exact absurd hdd (p1 x)
    | swap x => exact absurd hdd (hns x)
    | clear => exact absurd hdd p2
    | top =>
      rw [see_top hdd, hsb] at wf ⊢
      exact ⟨own, P, _, inv_quiet (s' := nx s n _) (h' := { h with got := .pair (s.inside b).1 (s.inside b).2, ph := .check }) k hn hh wf rfl rfl rfl rfl rfl hw (held_keep held hnw rfl (by simp)) (base _ .check (.inl rfl) (fun x z => absurd z (hns x)) (fun _ => rfl) (fun _ _ => rfl) fun x _ z => absurd z (hns x))⟩
    | pop =>
      rw [see_pop hdd, hsb] at wf ⊢
      exact ⟨own, P, _, inv_quiet (s' := nx s n _) (h' := { h with got := .pair (s.inside b).1 (s.inside b).2, ph := .put }) k hn hh wf rfl rfl rfl rfl rfl hw (held_keep held hnw rfl (by simp)) (base _ .put (.inr rfl) (fun x z => absurd z (hns x)) (fun _ => rfl) (fun _ _ => rfl) fun x _ z => absurd z (hns x))⟩
/-- back to a look -/
theorem seen_back {bx : Bx} {hd : Hd} {kd : Kd} {Pb : Nat → Prop} (so : SeenOk bx hd kd Pb h) (e : h.ph ≠ .walk) : SeenOk bx hd kd Pb { h with ph := .look } := by
  have nl : ¬ Late { h with ph := .look } := by rintro (z | z | z) <;> cases z
  exact ⟨fun z => absurd z nl, fun z => absurd z nl, fun z => absurd z nl, fun z => absurd z nl, fun z => (by cases z), fun z => (by cases z), fun _ b hb => so.val e b hb⟩
theorem inv_check (k : Inv s own P L) (hn : n < s.hands.length) (hh : s.hands[n]? = some h0) (hw : h0.ph ≠ .walk) (held : HeldOk s.boxes h (L n)) (so : SeenOk s.boxes s.head s.kind (Pub s own) h) (ko : HOk s.boxes.length s.time h) (e : h.ph = .check) (wf : WfS (nx s n (stepCheck s h n))) : Nxt s n (stepCheck s h n) := by
  have p := ko.ph
  unfold PhOk at p; rw [e] at p; dsimp only at p
  obtain ⟨p0, hdd, ⟨b, m, hs⟩, _⟩ := p
  have hnw : h.ph ≠ .walk := by rw [e]; decide
  have hb := p0 (by rw [hdd]; rfl) (by decide)
  cases hst : stillB s.kind s.head (some b, m) with
  | true =>
    rw [check_yes hs hst] at wf ⊢
    exact ⟨own, P, _, inv_quiet (s' := nx s n _) (h' := h.next) k hn hh wf rfl rfl rfl rfl rfl hw (held_next held hnw hb) (seen_next _)⟩
  | false =>
    rw [check_no hs hst] at wf ⊢
    exact ⟨own, P, _, inv_quiet (s' := nx s n _) (h' := { h with ph := .look }) k hn hh wf rfl rfl rfl rfl rfl hw (held_keep held hnw rfl (by simp)) (seen_back so hnw)⟩
end
end DW

/-! ## M4c.lean -/
set_option linter.all false
set_option autoImplicit false
set_option maxHeartbeats 2000000
/-! M4c: puts, walks; the invariant of every run. -/
namespace DW
section
variable {s : St} {own : Nat → Place} {P : List Nat} {L : Nat → List Nat} {n : Nat} {h0 h : Hand}
/-- still as it was seen -/
theorem still_head (k : Inv s own P L) (so : SeenOk s.boxes s.head s.kind (Pub s own) h) (late : Late h) {o : Option Nat} {m : Nat} (hs : h.seen = some (o, m)) (hst : stillB s.kind s.head (o, m) = true) : o = s.head.1 ∧ (s.kind = .new ∨ m = s.head.2) := by
  by_cases hkn : s.kind = .new
  · rw [stillB_o (by rw [hkn]; decide)] at hst
    exact ⟨(of_decide_eq_true hst).symm, .inl hkn⟩
  · have hkm : s.kind = .marks := by have := k.kind; cases hkk : s.kind <;> first | rfl | exact absurd hkk hkn | exact absurd hkk this
    rw [stillB_m hkm] at hst
    have := of_decide_eq_true hst
    rw [this]; exact ⟨rfl, .inr rfl⟩
theorem inv_put (k : Inv s own P L) (hn : n < s.hands.length) (hh : s.hands[n]? = some h0) (hw : h0.ph ≠ .walk) (held : HeldOk s.boxes h (L n)) (so : SeenOk s.boxes s.head s.kind (Pub s own) h) (ko : HOk s.boxes.length s.time h) (e : h.ph = .put) (wf : WfS (nx s n (stepPut s h n))) : Nxt s n (stepPut s h n) := by
  have p := ko.ph
  unfold PhOk at p; rw [e] at p; dsimp only at p
  obtain ⟨p0, p1, ⟨o, m, hs, ho⟩, p2, p3, p4, p5⟩ := p
  have hnw : h.ph ≠ .walk := by rw [e]; decide
  have late : Late h := .inr (.inr e)
  cases hst : stillB s.kind s.head (o, m) with
  | false =>
    rw [put_no hs hst] at wf ⊢
    exact ⟨own, P, _, inv_quiet (s' := nx s n _) (h' := { h with ph := .look }) k hn hh wf rfl rfl rfl rfl rfl hw (held_keep held hnw rfl (by simp)) (seen_back so hnw)⟩
  | true =>
    obtain ⟨hoh, hcm⟩ := still_head k so late hs hst
    have noOut : ∀ {own' : Nat → Place}, (∀ x, own' x = .out ↔ own x = .out) → ∀ b, own' b = .out ↔ s.boxes.length ≤ b := fun hx b => (hx b).trans (k.out b)
    cases hdd : h.deed with
    | top => exact absurd hdd p1
    | push x =>
      rw [put_push hs hst hdd] at wf ⊢
      have hbx := own_some (p2 (deed_own_push hdd))
      have hLn := held_box held hnw hbx
      have hob : own h.own = .hand n := (k.memL n _).mp (by rw [hLn]; simp)
      have hon : ∀ x, own x = .hand n → x = h.own := fun x hx => by have := (k.memL n x).mpr hx; rw [hLn] at this; exact List.mem_singleton.mp this
      have hlk := so.push e x o m h.own hdd hs hbx
      refine ⟨fun y => if y = h.own then .pile else own y, h.own :: P, _, inv_mk (s' := nx s n _) (h' := h.next) (l' := []) k hn wf rfl rfl (Nat.le_refl _) ?_ ⟨fun z => by simp [Hand.next] at z, fun _ => rfl⟩ (seen_next h) ?_ k.ndS List.nodup_nil ?_ ?_ ?_ ?_ ?_ (.inr rfl) (fun _ _ => rfl) (fun _ _ _ => rfl) (fun _ _ _ => rfl) ?_⟩
      · show Link s.boxes h.box (h.own :: P)
        rw [hbx]
        exact ⟨rfl, k.own_lt (by rw [hob]; simp), by rw [hlk, hoh]; exact k.link⟩
      · exact List.nodup_cons.mpr ⟨fun z => (by rw [k.memP, hob] at z; cases z), k.ndP⟩
      · intro y
        by_cases hy : y = h.own
        · subst hy; simp
        · rw [if_neg hy, ← k.memP]; simp [hy]
      · intro y
        show y ∈ s.spare ↔ _
        rw [k.memS y]
        by_cases hy : y = h.own
        · subst hy; rw [if_pos rfl, hob]; simp
        · rw [if_neg hy]
      · intro y
        by_cases hy : y = h.own
        · subst hy; simp
        · rw [if_neg hy]; simp; exact fun z => hy (hon y z)
      · intro i hi y
        by_cases hy : y = h.own
        · subst hy; rw [if_pos rfl, hob]; simp [Ne.symm hi]
        · rw [if_neg hy]
      · refine noOut fun y => ?_
        by_cases hy : y = h.own
        · subst hy; rw [if_pos rfl, hob]; simp
        · rw [if_neg hy]
      · intro y _ hp _
        by_cases hy : y = h.own
        · subst hy; simp
        · rw [if_neg hy]; exact fun z => hy (hon y z)
    | clear =>
      rw [put_clear hs hst hdd] at wf ⊢
      have hbn := p0 (by rw [hdd]; rfl) (by decide)
      have hLn : L n = [] := by rw [held.2 hnw, hbn]; rfl
      have hnn : ∀ y, own y ≠ .hand n := fun y z => by have := (k.memL n y).mpr z; rw [hLn] at this; cases this
      have hos : ∃ b, o = some b := by cases o with | none => obtain ⟨z, hz⟩ := ho rfl; rw [hdd] at hz; cases hz | some b => exact ⟨b, rfl⟩
      obtain ⟨b, rfl⟩ := hos
      rw [saw_some hs] at wf ⊢
      refine ⟨fun y => if own y = .pile then .hand n else own y, [], _, inv_mk (s' := nx s n _) (h' := { h with box := some b, ph := .walk }) (l' := P) k hn wf rfl rfl (Nat.le_refl _) (show Link s.boxes none [] from trivial) ⟨fun _ => ?_, fun z => absurd rfl z⟩ ?_ List.nodup_nil k.ndS k.ndP ?_ ?_ ?_ ?_ ?_ (.inr rfl) (fun _ _ => rfl) (fun _ _ _ => rfl) (fun _ _ _ => rfl) ?_⟩
      · show Link s.boxes (some b) P
        rw [hoh]; exact k.link
      · have nl : ¬ Late { h with box := some b, ph := .walk } := by rintro (z | z | z) <;> cases z
        exact ⟨fun z => absurd z nl, fun z => absurd z nl, fun z => absurd z nl, fun z => absurd z nl, fun z => (by cases z), fun z => (by cases z), fun z => absurd rfl z⟩
      · intro y
        by_cases hy : own y = .pile
        · rw [if_pos hy]; simp
        · rw [if_neg hy]; simp [hy]
      · intro y
        show y ∈ s.spare ↔ _
        rw [k.memS y]
        by_cases hy : own y = .pile
        · rw [if_pos hy, hy]; simp
        · rw [if_neg hy]
      · intro y
        rw [k.memP y]
        by_cases hy : own y = .pile
        · rw [if_pos hy]; simp [hy]
        · rw [if_neg hy]; simp [hy, hnn y]
      · intro i hi y
        by_cases hy : own y = .pile
        · rw [if_pos hy, hy]; simp [Ne.symm hi]
        · rw [if_neg hy]
      · refine noOut fun y => ?_
        by_cases hy : own y = .pile
        · rw [if_pos hy, hy]; simp
        · rw [if_neg hy]
      · intro y _ _ z; exact absurd rfl z
    | pop =>
      rw [put_pop hs hst hdd] at wf ⊢
      have hbn := p0 (by rw [hdd]; rfl) (by decide)
      have hLn : L n = [] := by rw [held.2 hnw, hbn]; rfl
      have hnn : ∀ y, own y ≠ .hand n := fun y z => by have := (k.memL n y).mpr z; rw [hLn] at this; cases this
      have hos : ∃ b, o = some b := by cases o with | none => obtain ⟨z, hz⟩ := ho rfl; rw [hdd] at hz; cases hz | some b => exact ⟨b, rfl⟩
      obtain ⟨b, rfl⟩ := hos
      obtain ⟨vv, ww, hg⟩ := p4 hdd
      rw [saw_some hs, hg] at wf ⊢
      have hc := so.cons late (by rw [e]; decide) (fun x z => by rw [hdd] at z; cases z) b m vv ww hs hg hcm
      obtain ⟨hpile, t, hPt, hlt⟩ := k.head_pile hoh.symm
      rw [hc] at hlt
      have hnd := k.ndP
      rw [hPt] at hnd
      have hbt := (List.nodup_cons.mp hnd).1
      refine ⟨fun y => if y = b then .spare else own y, t, _, inv_mk (s' := nx s n _) (h' := h.next) (l' := []) k hn wf rfl rfl (Nat.le_refl _) (show Link s.boxes ww t from hlt) ⟨fun z => by simp [Hand.next] at z, fun _ => rfl⟩ (seen_next h) (List.nodup_cons.mp hnd).2 (nd_app k.ndS fun z => (by have z2 := (k.memS _).mp z; rw [hpile] at z2; cases z2)) List.nodup_nil ?_ ?_ ?_ ?_ ?_ (.inr rfl) (fun _ _ => rfl) (fun _ _ _ => rfl) (fun _ _ _ => rfl) ?_⟩
      · intro y
        by_cases hy : y = b
        · subst hy; rw [if_pos rfl]; simp [hbt]
        · rw [if_neg hy, ← k.memP, hPt]; simp [hy]
      · intro y
        show y ∈ s.spare ++ [b] ↔ _
        by_cases hy : y = b
        · subst hy; simp
        · rw [if_neg hy, ← k.memS]; simp [hy]
      · intro y
        by_cases hy : y = b
        · subst hy; simp
        · rw [if_neg hy]; simp [hnn y]
      · intro i hi y
        by_cases hy : y = b
        · subst hy; rw [if_pos rfl, hpile]; simp
        · rw [if_neg hy]
      · refine noOut fun y => ?_
        by_cases hy : y = b
        · subst hy; rw [if_pos rfl, hpile]; simp
        · rw [if_neg hy]
      · intro y _ hp _
        by_cases hy : y = b
        · subst hy; simp
        · rw [if_neg hy]; exact hnn y
    | swap x =>
      rw [put_swap hs hst hdd] at wf ⊢
      have hbx := own_some (p2 (deed_own_swap hdd))
      have hLn := held_box held hnw hbx
      have hob : own h.own = .hand n := (k.memL n _).mp (by rw [hLn]; simp)
      have hon : ∀ x, own x = .hand n → x = h.own := fun x hx => by have := (k.memL n x).mpr hx; rw [hLn] at this; exact List.mem_singleton.mp this
      have hos : ∃ b, o = some b := by cases o with | none => obtain ⟨z, hz⟩ := ho rfl; rw [hdd] at hz; cases hz | some b => exact ⟨b, rfl⟩
      obtain ⟨b, rfl⟩ := hos
      obtain ⟨vv, ww, hg⟩ := p5 x hdd
      rw [saw_some hs] at wf ⊢
      have hc := so.cons late (by rw [e]; decide) (fun x z => by rw [hdd] at z; cases z) b m vv ww hs hg hcm
      have hlk := so.swap e x vv ww h.own hdd hg hbx
      obtain ⟨hpile, t, hPt, hlt⟩ := k.head_pile hoh.symm
      rw [hc] at hlt
      have hnd := k.ndP
      rw [hPt] at hnd
      have hbt := (List.nodup_cons.mp hnd).1
      have hne : h.own ≠ b := fun z => by rw [z, hpile] at hob; cases hob
      have hot : h.own ∉ t := fun z => by
        have : own h.own = .pile := (k.memP _).mp (by rw [hPt]; exact List.mem_cons_of_mem _ z)
        rw [hob] at this; cases this
      refine ⟨fun y => if y = b then .spare else if y = h.own then .pile else own y, h.own :: t, _, inv_mk (s' := nx s n _) (h' := h.next) (l' := []) k hn wf rfl rfl (Nat.le_refl _) ?_ ⟨fun z => by simp [Hand.next] at z, fun _ => rfl⟩ (seen_next h) (List.nodup_cons.mpr ⟨hot, (List.nodup_cons.mp hnd).2⟩) (nd_app k.ndS fun z => (by have z2 := (k.memS _).mp z; rw [hpile] at z2; cases z2)) List.nodup_nil ?_ ?_ ?_ ?_ ?_ (.inr rfl) (fun _ _ => rfl) (fun _ _ _ => rfl) (fun _ _ _ => rfl) ?_⟩
      · show Link s.boxes h.box (h.own :: t)
        rw [hbx]
        exact ⟨rfl, k.own_lt (by rw [hob]; simp), by rw [hlk]; exact hlt⟩
      · intro y
        by_cases hy : y = b
        · subst hy; rw [if_pos rfl]; simp [hbt, Ne.symm hne]
        · rw [if_neg hy]
          by_cases hz : y = h.own
          · subst hz; simp
          · rw [if_neg hz, ← k.memP, hPt]; simp [hy, hz]
      · intro y
        show y ∈ s.spare ++ [b] ↔ _
        by_cases hy : y = b
        · subst hy; simp
        · rw [if_neg hy]
          by_cases hz : y = h.own
          · subst hz; rw [if_pos rfl]; simp [hy, k.memS, hob]
          · rw [if_neg hz, ← k.memS]; simp [hy]
      · intro y
        by_cases hy : y = b
        · subst hy; simp
        · rw [if_neg hy]
          by_cases hz : y = h.own
          · subst hz; simp
          · rw [if_neg hz]; simp; exact fun q => hz (hon y q)
      · intro i hi y
        by_cases hy : y = b
        · subst hy; rw [if_pos rfl, hpile]; simp
        · rw [if_neg hy]
          by_cases hz : y = h.own
          · subst hz; rw [if_pos rfl, hob]; simp [Ne.symm hi]
          · rw [if_neg hz]
      · refine noOut fun y => ?_
        by_cases hy : y = b
        · subst hy; rw [if_pos rfl, hpile]; simp
        · rw [if_neg hy]
          by_cases hz : y = h.own
          · subst hz; rw [if_pos rfl, hob]; simp
          · rw [if_neg hz]
      · intro y _ hp _
        by_cases hy : y = b
        · subst hy; simp
        · rw [if_neg hy]
          by_cases hz : y = h.own
          · subst hz; simp
          · rw [if_neg hz]; exact fun q => hz (hon y q)
theorem inv_walk (k : Inv s own P L) (hn : n < s.hands.length) (held : HeldOk s.boxes h (L n)) (ko : HOk s.boxes.length s.time h) (e : h.ph = .walk) (wf : WfS (nx s n (stepWalk s h n))) : Nxt s n (stepWalk s h n) := by
  have p := ko.ph
  unfold PhOk at p; rw [e] at p; dsimp only at p
  obtain ⟨p0, hdd, p1, l, hg⟩ := p
  have hbx := own_some p1
  have hl := held.1 e
  rw [hbx] at hl
  obtain ⟨t, hLn, hbl, hlt⟩ := link_some hl
  have hob : own h.own = .hand n := (k.memL n _).mp (by rw [hLn]; simp)
  have hndl := k.ndL n
  rw [hLn] at hndl
  have hbt := (List.nodup_cons.mp hndl).1
  have hmem : ∀ y, own y = .hand n ↔ y = h.own ∨ y ∈ t := fun y => by rw [← k.memL n y, hLn]; simp
  have main : ∀ (s' : St) (h' : Hand), WfS s' → s'.kind = s.kind → s'.hands = s.hands.set n h' → s'.boxes = s.boxes → s'.spare = s.spare ++ [h.own] → s'.head = s.head → HeldOk s.boxes h' t → SeenOk s.boxes s.head s.kind (Pub s own) h' → (h'.ph ≠ .walk → t = []) → ∃ own' P' L', Inv s' own' P' L' := by
    intro s' h' wf kd hs e1 e2 e3 hd so hend
    refine ⟨fun y => if y = h.own then .spare else own y, P, _, inv_mk (h' := h') (l' := t) k hn wf kd hs (by rw [e1]; exact Nat.le_refl _) (by rw [e1, e3]; exact k.link) (by rw [e1]; exact hd) (by rw [e1, e3]; exact so) k.ndP ?_ (List.nodup_cons.mp hndl).2 ?_ ?_ ?_ ?_ ?_ (.inl e3) (fun _ _ => by rw [e1]) (fun _ _ _ => by rw [e1]) (fun _ _ _ => by rw [e1]) ?_⟩
    · rw [e2]; exact nd_app k.ndS fun z => (by have z2 := (k.memS _).mp z; rw [hob] at z2; cases z2)
    · intro y
      rw [k.memP y]
      by_cases hy : y = h.own
      · subst hy; rw [if_pos rfl, hob]; simp
      · rw [if_neg hy]
    · intro y
      rw [e2]
      by_cases hy : y = h.own
      · subst hy; simp
      · rw [if_neg hy, ← k.memS]; simp [hy]
    · intro y
      by_cases hy : y = h.own
      · subst hy; rw [if_pos rfl]; simp [hbt]
      · rw [if_neg hy, hmem y]; simp [hy]
    · intro i hi y
      by_cases hy : y = h.own
      · subst hy; rw [if_pos rfl, hob]; simp [Ne.symm hi]
      · rw [if_neg hy]
    · intro y
      rw [e1]
      by_cases hy : y = h.own
      · subst hy; rw [if_pos rfl]; simp; exact hbl
      · rw [if_neg hy]; exact k.out y
    · intro y _ _ hw'
      by_cases hy : y = h.own
      · subst hy; simp
      · rw [if_neg hy]
        intro z
        rcases (hmem y).mp z with z | z
        · exact hy z
        · rw [hend hw'] at z; cases z
  cases hi : (s.inside h.own).2 with
  | none =>
    rw [walk_end hi] at wf ⊢
    have ht : t = [] := link_none (by have := hlt; rw [show (bAt s.boxes h.own).2 = none from hi] at this; exact this)
    refine main (nx s n _) (Hand.next { h with got := .vals (h.got.list ++ [(s.inside h.own).1]), box := (s.inside h.own).2 }) wf rfl rfl rfl rfl rfl ⟨fun z => by simp [Hand.next] at z, fun _ => by rw [ht]; rfl⟩ (seen_next _) fun _ => ht
  | some b =>
    rw [walk_on (by rw [hi]; simp)] at wf ⊢
    have nl : ∀ g b', ¬ Late { h with got := g, box := b' } := fun g b' => by rintro (z | z | z) <;> (dsimp only at z; rw [e] at z; cases z)
    refine main (nx s n _) { h with got := .vals (h.got.list ++ [(s.inside h.own).1]), box := (s.inside h.own).2 } wf rfl rfl rfl rfl rfl ⟨fun _ => hlt, fun z => absurd e z⟩ ?_ fun z => absurd e z
    exact ⟨fun z => absurd z (nl _ _), fun z => absurd z (nl _ _), fun z => absurd z (nl _ _), fun z => absurd z (nl _ _), fun z => (by dsimp only at z; rw [e] at z; cases z), fun z => (by dsimp only at z; rw [e] at z; cases z), fun z => absurd e z⟩
theorem inv_step (k : Inv s own P L) (hn : n < s.hands.length) : ∃ own' P' L', Inv (step s n).1 own' P' L' := by
  have wf := (wf_step k.wf hn).1
  have hh := hand_at hn
  have ko := k.wf.hands _ (hand_mem hn)
  have held := k.held n _ hh
  have so := k.seen n _ hh
  rw [step_nx] at wf ⊢
  show Nxt s n (stepOf s (s.hand n) n)
  generalize s.hand n = h0 at *
  unfold stepOf at wf ⊢
  by_cases hat : h0.at_ = h0.deeds.length
  · rw [if_pos hat] at wf ⊢
    have hself : s.hands.set n h0 = s.hands := by
      refine List.ext_getElem? fun i => ?_
      by_cases hi : n = i
      · subst hi; rw [List.getElem?_set_self hn, hh]
      · rw [List.getElem?_set_ne hi]
    refine ⟨own, P, L, ⟨wf, k.kind, k.link, fun i x hx => ?_, fun i x hx => ?_, k.ndP, k.ndS, k.ndL, k.memP, k.memS, k.memL, k.out, fun i hi => ?_⟩⟩
    · have hx : (s.hands.set n h0)[i]? = some x := hx
      rw [hself] at hx; exact k.held i x hx
    · have hx : (s.hands.set n h0)[i]? = some x := hx
      rw [hself] at hx
      have so := k.seen i x hx
      have hp : ∀ b, Pub s own b → Pub (nx s n (s, h0, Step.rest)) own b := fun b hb => ⟨hb.1, fun j y hy => by
        have hy : (s.hands.set n h0)[j]? = some y := hy
        rw [hself] at hy; exact hb.2 j y hy⟩
      exact ⟨so.mark, so.marks, fun a b m e hk => hp b (so.pub a b m e hk), so.cons, so.push, so.swap, so.val⟩
    · have hi : (s.hands.set n h0).length ≤ i := hi
      rw [hself] at hi; exact k.noL i hi
  · rw [if_neg hat] at wf ⊢
    obtain ⟨kb, hi⟩ := begin_ok ko (Nat.lt_of_le_of_ne ko.le hat)
    have held1 := held_begin (t := s.time) held
    have so1 := seen_begin (t := s.time) so
    have hw : (h0.begin s.time).ph ≠ .walk → h0.ph ≠ .walk := fun z w => by
      unfold Hand.begin at z
      rw [if_neg (by rw [w]; decide)] at z
      exact z w
    generalize h0.begin s.time = h at *
    dsimp only at wf ⊢
    cases hph : h.ph <;> rw [hph] at wf <;> dsimp only at wf ⊢
    · exact absurd hph hi
    · exact inv_take k hn hh (hw (by rw [hph]; decide)) held1 kb hph wf
    · exact inv_look k hn hh (hw (by rw [hph]; decide)) held1 so1 kb hph wf
    · exact inv_see k hn hh (hw (by rw [hph]; decide)) held1 so1 kb hph wf
    · exact inv_check k hn hh (hw (by rw [hph]; decide)) held1 so1 kb hph wf
    · exact inv_put k hn hh (hw (by rw [hph]; decide)) held1 so1 kb hph wf
    · exact inv_walk k hn held1 kb hph wf
end
end DW

/-! ## M5.lean -/
set_option linter.all false
set_option autoImplicit false
set_option maxHeartbeats 2000000
/-! M5: the rows explain the values. -/
namespace DW
/-- a deed played as a whole -/
def plA (vs : List Int) : Deed → Ans
  | .push _ => .non
  | .clear => .tup vs
  | _ => match vs with | [] => .non | v :: _ => .val v
def plV (vs : List Int) : Deed → List Int
  | .push v => v :: vs
  | .clear => []
  | .pop => vs.tail
  | .top => vs
  | .swap v => match vs with | [] => [] | _ :: t => v :: t
def valsB (bx : Bx) (l : List Nat) : List Int := l.map fun b => (bAt bx b).1
/-- the values behind the first rows -/
def behind (start : List Int) (rows : List MRow) : List Int := rows.foldl (fun vs r => plV vs r.deed) start
theorem behind_app {start : List Int} {rows : List MRow} {r : MRow} : behind start (rows ++ [r]) = plV (behind start rows) r.deed := by unfold behind; rw [List.foldl_append]; rfl
theorem behind_map {f : MRow → MRow} (hf : ∀ r, (f r).deed = r.deed) : ∀ {rows : List MRow} {start : List Int}, behind start (rows.map f) = behind start rows
  | [], _ => rfl
  | r :: t, start => by
    show behind (plV start (f r).deed) (t.map f) = behind (plV start r.deed) t
    rw [hf, behind_map hf]
structure RowOk (s : St) (r : MRow) : Prop where
  begun : r.begun ≤ r.point
  point : r.point < s.time
  ended : ∀ e, r.ended = some e → r.point ≤ e ∧ e < s.time
  hand : ∃ h, s.hands[r.hand]? = some h ∧ r.at_ < h.deeds.length ∧ r.deed = h.deeds.getD r.at_ .pop
/-- an answer told, or still to come -/
def AnsOk (s : St) (L : Nat → List Nat) (vs : List Int) (r : MRow) : Prop :=
  (∀ e, r.ended = some e → r.ans = plA vs r.deed) ∧ (r.ended = none → r.deed = .clear ∧ ∃ h, s.hands[r.hand]? = some h ∧ h.ph = .walk ∧ h.at_ = r.at_ ∧ vs = h.got.list ++ valsB s.boxes (L r.hand))
def cntH (h : Hand) : Nat := h.at_ + if h.ph = .walk then 1 else 0
structure RInv (s : St) (start : List Int) (P : List Nat) (L : Nat → List Nat) : Prop where
  vals : valsB s.boxes P = behind start s.rows
  rows : ∀ r ∈ s.rows, RowOk s r
  ans : ∀ j r, s.rows[j]? = some r → AnsOk s L (behind start (s.rows.take j)) r
  cnt : ∀ (i : Nat) (h : Hand), s.hands[i]? = some h → (s.rows.filter fun r => r.hand == i).map (·.at_) = List.range (cntH h)
  sorted : s.rows.Pairwise fun a b => a.point < b.point
  opn : ∀ (i : Nat) (h : Hand), s.hands[i]? = some h → h.ph = .walk → ∀ r ∈ s.rows, r.hand = i → r.at_ = h.at_ → r.ended = none
theorem link_uniq {bx : Bx} : ∀ {o : Option Nat} {l m : List Nat}, Link bx o l → Link bx o m → l = m
  | none, [], [], _, _ => rfl
  | none, _ :: _, _, k, _ => k.elim
  | none, [], _ :: _, _, k => k.elim
  | some _, [], _, k, _ => k.elim
  | some _, _ :: _, [], _, k => k.elim
  | some b, c :: t, d :: u, ⟨e, _, k⟩, ⟨e', _, k'⟩ => by rw [← e, ← e', link_uniq k k']
theorem valsB_frame {bx by' : Bx} {l : List Nat} (f : ∀ b ∈ l, bAt by' b = bAt bx b) : valsB by' l = valsB bx l := List.map_congr_left fun b hb => by rw [f b hb]
section
variable {s s' : St} {own own' : Nat → Place} {P P' : List Nat} {L L' : Nat → List Nat} {n : Nat} {h h' : Hand} {start : List Int}
/-- what is the same for the others -/
structure Oth (s s' : St) (own : Nat → Place) (n : Nat) (h h' : Hand) : Prop where
  hs : s'.hands = s.hands.set n h'
  hn : s.hands[n]? = some h
  tm : s'.time = s.time + 1
  ds : h'.deeds = h.deeds
  nb : s.boxes.length ≤ s'.boxes.length
  fr : ∀ b, own b = .pile ∨ (∃ i, i ≠ n ∧ own b = .hand i) → bAt s'.boxes b = bAt s.boxes b
theorem Oth.lt (o : Oth s s' own n h h') : n < s.hands.length := (List.getElem?_eq_some_iff.mp o.hn).1
theorem Oth.self (o : Oth s s' own n h h') : s'.hands[n]? = some h' := by rw [o.hs]; exact List.getElem?_set_self o.lt
theorem Oth.other (o : Oth s s' own n h h') {i : Nat} (hi : i ≠ n) : s'.hands[i]? = s.hands[i]? := by rw [o.hs]; exact List.getElem?_set_ne (Ne.symm hi)
/-- a row's own hand, later -/
theorem Oth.row (o : Oth s s' own n h h') {r : MRow} (k : RowOk s r) : RowOk s' r := by
  refine ⟨k.begun, by rw [o.tm]; exact Nat.lt_succ_of_lt k.point, fun e he => ⟨(k.ended e he).1, by rw [o.tm]; exact Nat.lt_succ_of_lt (k.ended e he).2⟩, ?_⟩
  obtain ⟨x, hx, h1, h2⟩ := k.hand
  by_cases hi : r.hand = n
  · rw [hi] at hx ⊢
    rw [o.hn] at hx; cases hx
    exact ⟨h', o.self, by rw [o.ds]; exact h1, by rw [o.ds]; exact h2⟩
  · exact ⟨x, by rw [o.other hi]; exact hx, h1, h2⟩
/-- what another one that walks still has -/
theorem Oth.walk (o : Oth s s' own n h h') (k : Inv s own P L) (k' : Inv s' own' P' L') {i : Nat} {x : Hand} (hi : i ≠ n) (hx : s.hands[i]? = some x) (hw : x.ph = .walk) : valsB s'.boxes (L' i) = valsB s.boxes (L i) := by
  have l1 := (k.held i x hx).1 hw
  have l2 := (k'.held i x (by rw [o.other hi]; exact hx)).1 hw
  have hf : ∀ b ∈ L i, bAt s'.boxes b = bAt s.boxes b := fun b hb => o.fr b (.inr ⟨i, hi, (k.memL i b).mp hb⟩)
  rw [link_uniq l2 (link_frame o.nb hf l1)]
  exact valsB_frame hf
theorem Oth.ansO (o : Oth s s' own n h h') (k : Inv s own P L) (k' : Inv s' own' P' L') {vs : List Int} {r : MRow} (hi : r.hand ≠ n) (a : AnsOk s L vs r) : AnsOk s' L' vs r := by
  refine ⟨a.1, fun e => ?_⟩
  obtain ⟨h1, x, hx, hw, ha, hv⟩ := a.2 e
  exact ⟨h1, x, by rw [o.other hi]; exact hx, hw, ha, by rw [o.walk k k' hi hx hw]; exact hv⟩
/-- no row is told, none changed -/
theorem rinv_quiet (o : Oth s s' own n h h') (k : Inv s own P L) (k' : Inv s' own' P' L') (R : RInv s start P L) (er : s'.rows = s.rows) (hv : valsB s'.boxes P' = valsB s.boxes P) (hc : cntH h' = cntH h)
    (hwb : h'.ph = .walk → h.ph = .walk) (hw : h.ph = .walk → h'.ph = .walk ∧ h'.at_ = h.at_ ∧ h'.got.list ++ valsB s'.boxes (L' n) = h.got.list ++ valsB s.boxes (L n)) : RInv s' start P' L' := by
  refine ⟨by rw [hv, er]; exact R.vals, fun r hr => o.row (R.rows r (by rw [er] at hr; exact hr)), fun j r hj => ?_, fun i x hx => ?_, by rw [er]; exact R.sorted, fun i x hx hwx r hr => ?_⟩
  · rw [er] at hj ⊢
    have a := R.ans j r hj
    by_cases hi : r.hand = n
    · refine ⟨a.1, fun e => ?_⟩
      obtain ⟨h1, x, hx, hw1, ha, hv1⟩ := a.2 e
      rw [hi] at hx hv1
      rw [o.hn] at hx; cases hx
      obtain ⟨w1, w2, w3⟩ := hw hw1
      exact ⟨h1, h', by rw [hi]; exact o.self, w1, w2.trans ha, by rw [hi, w3]; exact hv1⟩
    · exact o.ansO k k' hi a
  · rw [er]
    by_cases hi : i = n
    · subst hi
      rw [o.self] at hx; cases hx
      rw [hc]; exact R.cnt i h o.hn
    · rw [o.other hi] at hx; exact R.cnt i x hx
  · rw [er] at hr
    by_cases hi : i = n
    · subst hi
      rw [o.self] at hx; cases hx
      have hwh : h.ph = .walk := hwb hwx
      rw [(hw hwh).2.1]
      exact R.opn i h o.hn hwh r hr
    · rw [o.other hi] at hx; exact R.opn i x hx hwx r hr
/-- a row is told at the end -/
theorem rinv_row {r : MRow} (o : Oth s s' own n h h') (k : Inv s own P L) (k' : Inv s' own' P' L') (R : RInv s start P L) (er : s'.rows = s.rows ++ [r]) (h1 : r.hand = n) (h2 : r.at_ = h.at_) (h3 : r.deed = h.deed) (h4 : r.point = s.time) (h5 : r.begun ≤ s.time) (h6 : ∀ e, r.ended = some e → e = s.time)
    (hl : h.at_ < h.deeds.length) (hnw : h.ph ≠ .walk) (hc : cntH h' = h.at_ + 1) (hv : valsB s'.boxes P' = plV (valsB s.boxes P) h.deed) (ha : AnsOk s' L' (valsB s.boxes P) r) (hwk : h'.ph = .walk → r.ended = none ∧ h'.at_ = h.at_) : RInv s' start P' L' := by
  refine ⟨?_, fun x hx => ?_, fun j x hj => ?_, fun i x hx => ?_, ?_, fun i x hx hwx y hy hyi hya => ?_⟩
  · rw [er, behind_app, h3, ← R.vals]; exact hv
  · rw [er] at hx
    rcases List.mem_append.mp hx with hx | hx
    · exact o.row (R.rows x hx)
    · rw [List.mem_singleton.mp hx]
      refine ⟨by rw [h4]; exact h5, by rw [h4, o.tm]; exact Nat.lt_succ_self _, fun e he => by rw [h6 e he, h4, o.tm]; exact ⟨Nat.le_refl _, Nat.lt_succ_self _⟩, h', by rw [h1]; exact o.self, by rw [h2, o.ds]; exact hl, ?_⟩
      rw [h3, h2, o.ds]; rfl
  · rw [er] at hj ⊢
    by_cases hjl : j < s.rows.length
    · rw [List.getElem?_append_left hjl] at hj
      rw [List.take_append_of_le_length (Nat.le_of_lt hjl)]
      have a := R.ans j x hj
      by_cases hi : x.hand = n
      · refine ⟨a.1, fun e => ?_⟩
        obtain ⟨_, y, hy, hw1, _⟩ := a.2 e
        rw [hi, o.hn] at hy; cases hy
        exact absurd hw1 hnw
      · exact o.ansO k k' hi a
    · have : j = s.rows.length := by
        have := (List.getElem?_eq_some_iff.mp hj).1
        rw [List.length_append] at this
        simp only [List.length_cons, List.length_nil] at this
        omega
      subst this
      rw [List.getElem?_append_right (Nat.le_refl _), Nat.sub_self] at hj
      cases hj
      rw [List.take_append_of_le_length (Nat.le_refl _), List.take_length, ← R.vals]
      exact ha
  · rw [er, List.filter_append, List.map_append]
    by_cases hi : i = n
    · subst hi
      rw [o.self] at hx; cases hx
      have := R.cnt i h o.hn
      have e0 : cntH h = h.at_ := by unfold cntH; rw [if_neg hnw]; rfl
      rw [this, e0, hc, List.range_succ]
      congr 1
      rw [List.filter_cons_of_pos (by simp [h1])]; simp [h2]
    · rw [o.other hi] at hx
      rw [R.cnt i x hx, List.filter_cons_of_neg (by simp [h1]; exact fun z => hi z.symm)]
      simp
  · rw [er]
    refine List.pairwise_append.mpr ⟨R.sorted, List.pairwise_singleton _ _, fun a ha' b hb => ?_⟩
    rw [List.mem_singleton.mp hb, h4]
    exact (R.rows a ha').point
  · rw [er] at hy
    by_cases hi : i = n
    · subst hi
      rw [o.self] at hx; cases hx
      rcases List.mem_append.mp hy with hy | hy
      · have hc := R.cnt i h o.hn
        have e0 : cntH h = h.at_ := by unfold cntH; rw [if_neg hnw]; rfl
        rw [e0] at hc
        have : y.at_ ∈ List.range h.at_ := by rw [← hc]; exact List.mem_map.mpr ⟨y, List.mem_filter.mpr ⟨hy, by simp [hyi]⟩, rfl⟩
        have := List.mem_range.mp this
        rw [hya, (hwk hwx).2] at this; omega
      · rw [List.mem_singleton.mp hy]; exact (hwk hwx).1
    · rw [o.other hi] at hx
      rcases List.mem_append.mp hy with hy | hy
      · exact R.opn i x hx hwx y hy hyi hya
      · rw [List.mem_singleton.mp hy, h1] at hyi; exact absurd hyi.symm hi
/-- a clear that walked ends -/
theorem rinv_end {t : Nat} (o : Oth s s' own n h h') (k : Inv s own P L) (k' : Inv s' own' P' L') (R : RInv s start P L) (er : s'.rows = s.rows.map (endRow n h.at_ s.time (h.got.list ++ valsB s.boxes (L n)))) (hw : h.ph = .walk) (hl : h.at_ < h.deeds.length) (hnw : h'.ph ≠ .walk) (hat : h'.at_ = h.at_ + 1) (hv : valsB s'.boxes P' = valsB s.boxes P) : RInv s' start P' L' := by
  have fd : ∀ r, (endRow n h.at_ s.time (h.got.list ++ valsB s.boxes (L n)) r).deed = r.deed := fun r => by unfold endRow; split <;> rfl
  have fh : ∀ r, (endRow n h.at_ s.time (h.got.list ++ valsB s.boxes (L n)) r).hand = r.hand := fun r => by unfold endRow; split <;> rfl
  have fa : ∀ r, (endRow n h.at_ s.time (h.got.list ++ valsB s.boxes (L n)) r).at_ = r.at_ := fun r => by unfold endRow; split <;> rfl
  have fp : ∀ r, (endRow n h.at_ s.time (h.got.list ++ valsB s.boxes (L n)) r).point = r.point := fun r => by unfold endRow; split <;> rfl
  have fb : ∀ r, (endRow n h.at_ s.time (h.got.list ++ valsB s.boxes (L n)) r).begun = r.begun := fun r => by unfold endRow; split <;> rfl
  refine ⟨by rw [hv, er, behind_map fd]; exact R.vals, fun x hx => ?_, fun j x hj => ?_, fun i x hx => ?_, ?_, fun i x hx hwx y hy hyi hya => ?_⟩
  · rw [er] at hx
    obtain ⟨r, hr, rfl⟩ := List.mem_map.mp hx
    have ro := R.rows r hr
    have ro' := o.row ro
    refine ⟨by rw [fb, fp]; exact ro.begun, by rw [fp]; exact ro'.point, fun e he => ?_, by rw [fh, fa, fd]; exact ro'.hand⟩
    rw [fp]
    unfold endRow at he
    split at he
    · cases he
      rw [o.tm]; exact ⟨Nat.le_of_lt ro.point, Nat.lt_succ_self _⟩
    · exact ro'.ended e he
  · rw [er] at hj ⊢
    rw [List.getElem?_map] at hj
    obtain ⟨r, hr, rfl⟩ := Option.map_eq_some_iff.mp hj
    rw [← List.map_take, behind_map fd]
    have a := R.ans j r hr
    unfold endRow
    split
    · rename_i hra
      refine ⟨fun e he => ?_, fun e => by cases e⟩
      show Ans.tup _ = plA _ r.deed
      -- the row of the deed that walks has not ended
      cases hre : r.ended with
      | none =>
        obtain ⟨h1, y, hy, _, _, hv1⟩ := a.2 hre
        rw [hra.1] at hy hv1
        rw [o.hn] at hy; cases hy
        rw [h1, hv1]; rfl
      | some e0 => have := R.opn n h o.hn hw r (List.mem_of_getElem? hr) hra.1 hra.2; rw [hre] at this; cases this
    · rename_i hra
      by_cases hi : r.hand = n
      · refine ⟨a.1, fun e => ?_⟩
        obtain ⟨_, y, hy, _, hya, _⟩ := a.2 e
        rw [hi, o.hn] at hy; cases hy
        exact absurd ⟨hi, hya.symm⟩ hra
      · exact o.ansO k k' hi a
  · rw [er, List.filter_map, List.map_map]
    have e1 : (fun r => r.at_) ∘ endRow n h.at_ s.time (h.got.list ++ valsB s.boxes (L n)) = fun r => r.at_ := funext fa
    have e2 : (fun r : MRow => r.hand == i) ∘ endRow n h.at_ s.time (h.got.list ++ valsB s.boxes (L n)) = fun r => r.hand == i := funext fun r => by simp only [Function.comp, fh]
    rw [e1, e2]
    by_cases hi : i = n
    · subst hi
      rw [o.self] at hx; cases hx
      rw [R.cnt i h o.hn]
      unfold cntH
      rw [if_pos hw, if_neg hnw, hat]
    · rw [o.other hi] at hx; exact R.cnt i x hx
  · rw [er]
    refine List.pairwise_map.mpr (R.sorted.imp fun {a b} hab => ?_)
    rw [fp, fp]; exact hab
  · rw [er] at hy
    obtain ⟨r, hr, rfl⟩ := List.mem_map.mp hy
    rw [fh] at hyi; rw [fa] at hya
    by_cases hi : i = n
    · subst hi
      rw [o.self] at hx; cases hx
      exact absurd hwx hnw
    · rw [o.other hi] at hx
      unfold endRow
      rw [if_neg fun z => hi (by rw [← hyi]; exact z.1)]
      exact R.opn i x hx hwx r hr hyi hya
end
end DW

/-! ## M5b.lean -/
set_option linter.all false
set_option autoImplicit false
set_option maxHeartbeats 2000000
/-! M5b: each step keeps what the rows tell. -/
namespace DW
section
variable {s : St} {own own' : Nat → Place} {P P' : List Nat} {L L' : Nat → List Nat} {n : Nat} {h0 h : Hand} {start : List Int}
theorem link_at {bx : Bx} {o o' : Option Nat} {l : List Nat} (k : Link bx o l) (e : o = o') : Link bx o' l := e ▸ k
theorem cnt_nw {h : Hand} (e : h.ph ≠ .walk) : cntH h = h.at_ := by unfold cntH; rw [if_neg e]; rfl
theorem next_nw (h : Hand) : h.next.ph ≠ .walk := by unfold Hand.next; simp
/-- a step that leaves rows and values -/
theorem rq {r : St × Hand × Step} (k : Inv s own P L) (k' : Inv (nx s n r) own' P' L') (R : RInv s start P L) (hh : s.hands[n]? = some h0) (hw0 : h0.ph ≠ .walk) (er : r.1.rows = s.rows) (eh : r.1.head = s.head) (ds : r.2.1.deeds = h0.deeds) (ea : r.2.1.at_ = h0.at_) (ew : r.2.1.ph ≠ .walk)
    (nb : s.boxes.length ≤ r.1.boxes.length) (fr : ∀ b, own b = .pile ∨ (∃ i, i ≠ n ∧ own b = .hand i) → bAt r.1.boxes b = bAt s.boxes b) : RInv (nx s n r) start P' L' := by
  have o : Oth s (nx s n r) own n h0 r.2.1 := ⟨rfl, hh, rfl, ds, nb, fr⟩
  have hf : ∀ b ∈ P, bAt r.1.boxes b = bAt s.boxes b := fun b hb => fr b (.inl ((k.memP b).mp hb))
  have e : P' = P := link_uniq k'.link (by show Link r.1.boxes r.1.head.1 P; rw [eh]; exact link_frame nb hf k.link)
  exact rinv_quiet o k k' R er (by rw [e]; exact valsB_frame hf) (by rw [cnt_nw ew, cnt_nw hw0, ea]) (fun z => absurd z ew) (fun z => absurd z hw0)
/-- a step that ends a deed -/
theorem rr {r : St × Hand × Step} {a : Ans} (k : Inv s own P L) (k' : Inv (nx s n r) own' P' L') (R : RInv s start P L) (hh : s.hands[n]? = some h0) (hw0 : h0.ph ≠ .walk) (hl : h0.at_ < h0.deeds.length) (row : MRow) (er : r.1.rows = s.rows ++ [row]) (h1 : row.hand = n) (h2 : row.at_ = h0.at_) (h3 : row.deed = h0.deed) (h4 : row.point = s.time) (h5 : row.begun ≤ s.time) (h6 : row.ended = some s.time)
    (ds : r.2.1.deeds = h0.deeds) (ea : r.2.1.at_ = h0.at_ + 1) (ew : r.2.1.ph ≠ .walk) (eb : r.1.boxes = s.boxes)
    (hv : valsB s.boxes P' = plV (valsB s.boxes P) h0.deed) (ha : row.ans = plA (valsB s.boxes P) h0.deed) : RInv (nx s n r) start P' L' := by
  have o : Oth s (nx s n r) own n h0 r.2.1 := ⟨rfl, hh, rfl, ds, by show _ ≤ r.1.boxes.length; rw [eb]; exact Nat.le_refl _, fun b _ => by show bAt r.1.boxes b = _; rw [eb]⟩
  refine rinv_row o k k' R er h1 h2 h3 h4 h5 (fun e he => by rw [h6] at he; cases he; rfl) hl hw0 (by rw [cnt_nw ew, ea]) (by show valsB r.1.boxes P' = _; rw [eb]; exact hv) ⟨fun _ _ => by rw [h3]; exact ha, fun e => by rw [h6] at e; cases e⟩ fun z => absurd z ew
theorem rinv_step (k : Inv s own P L) (hn : n < s.hands.length) (k' : Inv (step s n).1 own' P' L') (R : RInv s start P L) : RInv (step s n).1 start P' L' := by
  have hh := hand_at hn
  have ko := k.wf.hands _ (hand_mem hn)
  have held := k.held n _ hh
  have so := k.seen n _ hh
  rw [step_nx] at k' ⊢
  generalize s.hand n = h0 at *
  unfold stepOf at k' ⊢
  by_cases hat : h0.at_ = h0.deeds.length
  · rw [if_pos hat] at k' ⊢
    have hw0 : h0.ph ≠ .walk := fun z => by have := ko.lt (by rw [z]; decide); omega
    exact rq k k' R hh hw0 rfl rfl rfl rfl hw0 (Nat.le_refl _) fun _ _ => rfl
  · rw [if_neg hat] at k' ⊢
    have hl := Nat.lt_of_le_of_ne ko.le hat
    obtain ⟨kb, hi⟩ := begin_ok ko hl
    have held1 := held_begin (t := s.time) held
    have so1 := seen_begin (t := s.time) so
    obtain ⟨bd, ba, bds, bbx, bsn, bgt⟩ := begin_deed (h := h0) (t := s.time)
    have hw : (h0.begin s.time).ph ≠ .walk → h0.ph ≠ .walk := fun z w => by
      unfold Hand.begin at z
      rw [if_neg (by rw [w]; decide)] at z
      exact z w
    have hw2 : (h0.begin s.time).ph = .walk → h0.begin s.time = h0 := fun z => by
      unfold Hand.begin at z ⊢
      split
      · rename_i hi2
        rw [if_pos hi2] at z
        dsimp only at z
        split at z <;> cases z
      · rfl
    generalize h0.begin s.time = h at *
    have hb0 := kb.begun
    dsimp only at k' ⊢
    cases hph : h.ph <;> rw [hph] at k' <;> dsimp only at k' ⊢
    · exact absurd hph hi
    · -- take
      have hw0 := hw (by rw [hph]; decide)
      by_cases hc : s.kind = .new ∨ s.spare = []
      · rw [take_new hc] at k' ⊢
        refine rq k k' R hh hw0 rfl rfl bds ba (by simp) (by simp) fun b hb => bAt_app (k.own_lt ?_)
        rcases hb with hb | ⟨i, _, hb⟩ <;> rw [hb] <;> simp
      · rw [take_old hc] at k' ⊢
        have hm : s.spare.getLastD 0 ∈ s.spare := by
          have hne : s.spare ≠ [] := fun z => hc (.inr z)
          rw [List.getLastD_eq_getLast?, List.getLast?_eq_some_getLast hne]; exact List.getLast_mem hne
        have ho := (k.memS _).mp hm
        refine rq k k' R hh hw0 rfl rfl bds ba (by simp) (by simp) fun b hb => bAt_set_ne fun z => ?_
        rw [z] at ho
        rcases hb with hb | ⟨i, _, hb⟩ <;> rw [hb] at ho <;> cases ho
    · -- look
      have hw0 := hw (by rw [hph]; decide)
      have hnw : h.ph ≠ .walk := by rw [hph]; decide
      have p := kb.ph
      unfold PhOk at p; rw [hph] at p; dsimp only at p
      obtain ⟨p0, p1, p2⟩ := p
      by_cases hpush : ∃ x, h.deed = .push x
      · obtain ⟨x, hd⟩ := hpush
        rw [look_push hd] at k' ⊢
        have ho := own_some (p1 (deed_own_push hd))
        have hob : own h.own = .hand n := (k.memL n _).mp (by rw [held_box held1 hnw ho]; simp)
        refine rq k k' R hh hw0 rfl rfl bds ba (by simp) (by simp [St.below]) fun b hb => bAt_set_ne fun z => ?_
        rw [z] at hob
        rcases hb with hb | ⟨i, hin, hb⟩ <;> rw [hb] at hob <;> cases hob
        exact hin rfl
      · have hnp : ∀ x, h.deed ≠ .push x := fun x z => hpush ⟨x, z⟩
        cases hd : s.head.1 with
        | none =>
          have hP : P = [] := link_none (by have := k.link; rw [hd] at this; exact this)
          by_cases hsw : ∃ x, h.deed = .swap x
          · obtain ⟨x, hdd⟩ := hsw
            rw [look_swap0 hd hdd] at k' ⊢
            have hP' : P' = [] := link_none (link_at (o' := none) k'.link hd)
            refine rr (a := .non) k k' R hh hw0 hl _ rfl rfl ba bd rfl hb0 rfl bds (by show h.at_ + 1 = _; rw [ba]) (next_nw _) rfl ?_ ?_
            · rw [hP, hP', ← bd, hdd]; rfl
            · rw [hP, ← bd, hdd]; rfl
          · have ho : h.deed.own = false := by
              cases hq : h.deed with
              | push x => exact absurd hq (hnp x)
              | swap x => exact absurd ⟨x, hq⟩ hsw
              | _ => rfl
            rw [look_none hd ho rfl] at k' ⊢
            have hP' : P' = [] := link_none (link_at (o' := none) k'.link hd)
            refine rr (a := .non) k k' R hh hw0 hl _ rfl rfl ba bd rfl hb0 rfl bds (by show h.at_ + 1 = _; rw [ba]) (next_nw _) rfl ?_ ?_
            · rw [hP, hP', ← bd]; cases hq : h.deed <;> first | rfl | exact absurd hq (hnp _)
            · rw [hP, ← bd]
              show (if h.deed = .clear then Ans.tup [] else .non) = _
              cases hq : h.deed <;> first | rfl | exact absurd hq (hnp _)
        | some b =>
          rw [look_some hd hnp] at k' ⊢
          refine rq k k' R hh hw0 rfl rfl bds ba ?_ (Nat.le_refl _) fun _ _ => rfl
          dsimp only; split <;> decide
    · -- see
      have hw0 := hw (by rw [hph]; decide)
      have hnw : h.ph ≠ .walk := by rw [hph]; decide
      have p := kb.ph
      unfold PhOk at p; rw [hph] at p; dsimp only at p
      obtain ⟨p0, p1, p2, ⟨b, m, hs⟩, p3⟩ := p
      cases hdd : h.deed with
      | push x => exact absurd hdd (p1 x)
      | clear => exact absurd hdd p2
      | top => rw [see_top hdd] at k' ⊢; exact rq k k' R hh hw0 rfl rfl bds ba (by simp) (Nat.le_refl _) fun _ _ => rfl
      | pop => rw [see_pop hdd] at k' ⊢; exact rq k k' R hh hw0 rfl rfl bds ba (by simp) (Nat.le_refl _) fun _ _ => rfl
      | swap x =>
        rw [see_swap hdd] at k' ⊢
        have ho := own_some (p3 (deed_own_swap hdd))
        have hob : own h.own = .hand n := (k.memL n _).mp (by rw [held_box held1 hnw ho]; simp)
        refine rq k k' R hh hw0 rfl rfl bds ba (by simp) (by simp [St.below]) fun b hb => bAt_set_ne fun z => ?_
        rw [z] at hob
        rcases hb with hb | ⟨i, hin, hb⟩ <;> rw [hb] at hob <;> cases hob
        exact hin rfl
    · -- check
      have hw0 := hw (by rw [hph]; decide)
      have late : Late h := .inr (.inl hph)
      have p := kb.ph
      unfold PhOk at p; rw [hph] at p; dsimp only at p
      obtain ⟨p0, hdd, ⟨b, m, hs⟩, vv, ww, hg⟩ := p
      cases hst : stillB s.kind s.head (some b, m) with
      | true =>
        rw [check_yes hs hst] at k' ⊢
        obtain ⟨hoh, hcm⟩ := still_head k so1 late hs hst
        have hc := so1.cons late (by rw [hph]; decide) (fun x z => by rw [hdd] at z; cases z) b m vv ww hs hg hcm
        obtain ⟨hpile, t, hPt, hlt⟩ := k.head_pile hoh.symm
        have eP : P' = P := link_uniq k'.link k.link
        refine rr (a := .non) k k' R hh hw0 hl _ rfl rfl ba bd rfl hb0 rfl bds (by show h.at_ + 1 = _; rw [ba]) (next_nw _) rfl ?_ ?_
        · rw [eP, ← bd, hdd]; rfl
        · rw [← bd, hdd, hPt]
          show Ans.val h.got.val = .val (bAt s.boxes b).1
          rw [hc, hg]; rfl
      | false =>
        rw [check_no hs hst] at k' ⊢
        exact rq k k' R hh hw0 rfl rfl bds ba (by simp) (Nat.le_refl _) fun _ _ => rfl
    · -- put
      have hw0 := hw (by rw [hph]; decide)
      have hnw : h.ph ≠ .walk := by rw [hph]; decide
      have late : Late h := .inr (.inr hph)
      have p := kb.ph
      unfold PhOk at p; rw [hph] at p; dsimp only at p
      obtain ⟨p0, p1, ⟨o, m, hs, ho⟩, p2, p3, p4, p5⟩ := p
      cases hst : stillB s.kind s.head (o, m) with
      | false =>
        rw [put_no hs hst] at k' ⊢
        exact rq k k' R hh hw0 rfl rfl bds ba (by simp) (Nat.le_refl _) fun _ _ => rfl
      | true =>
        obtain ⟨hoh, hcm⟩ := still_head k so1 late hs hst
        have hos : (∀ x, h.deed ≠ .push x) → ∃ b, o = some b := fun hnp => by cases o with | none => obtain ⟨z, hz⟩ := ho rfl; exact absurd hz (hnp z) | some b => exact ⟨b, rfl⟩
        cases hdd : h.deed with
        | top => exact absurd hdd p1
        | push x =>
          rw [put_push hs hst hdd] at k' ⊢
          have hbx := own_some (p2 (deed_own_push hdd))
          have hlk := so1.push hph x o m h.own hdd hs hbx
          have hval := so1.val hnw h.own hbx
          have hl' := link_at (o' := some h.own) k'.link hbx
          obtain ⟨t, hPt, _, hlt⟩ := link_some hl'
          have et : t = P := link_uniq hlt (by exact link_at (o' := (bAt s.boxes h.own).2) k.link (by rw [hlk, hoh]))
          refine rr (a := .non) k k' R hh hw0 hl _ rfl rfl ba bd rfl hb0 rfl bds (by show h.at_ + 1 = _; rw [ba]) (next_nw _) rfl ?_ ?_
          · rw [hPt, et, ← bd, hdd]
            show (bAt s.boxes h.own).1 :: valsB s.boxes P = x :: valsB s.boxes P
            rw [hval, hdd]; rfl
          · rw [← bd, hdd]; rfl
        | clear =>
          obtain ⟨b, rfl⟩ := hos fun x z => by rw [hdd] at z; cases z
          rw [put_clear hs hst hdd, saw_some hs] at k' ⊢
          have hP' : P' = [] := link_none k'.link
          have hLP : L' n = P := by
            have := (k'.held n _ (show (s.hands.set n _)[n]? = some _ from List.getElem?_set_self hn)).1 rfl
            exact link_uniq this (by show Link s.boxes (some b) P; rw [hoh]; exact k.link)
          have og : Oth s (nx s n (((s.setHead none).point h n none .non), { h with box := some b, ph := .walk }, Step.put true)) own n h0 { h with box := some b, ph := .walk } := ⟨rfl, hh, rfl, bds, Nat.le_refl _, fun _ _ => rfl⟩
          refine rinv_row (r := ⟨n, h.at_, h.deed, h.begun, s.time, none, .non⟩) og k k' R rfl rfl ba bd rfl hb0 (fun e he => by cases he) hl hw0 (by show cntH { h with box := some b, ph := .walk } = _; unfold cntH; rw [if_pos rfl]; show h.at_ + 1 = _; rw [ba]) ?_ ⟨fun e he => (by cases he), fun _ => ⟨hdd, _, og.self, rfl, rfl, ?_⟩⟩ fun _ => ⟨rfl, ba⟩
          · rw [hP', ← bd, hdd]; rfl
          · rw [show (⟨n, h.at_, h.deed, h.begun, s.time, none, .non⟩ : MRow).hand = n from rfl, hLP]
            show valsB s.boxes P = h.got.list ++ valsB s.boxes P
            rw [p3 hdd]; rfl
        | pop =>
          obtain ⟨b, rfl⟩ := hos fun x z => by rw [hdd] at z; cases z
          obtain ⟨vv, ww, hg⟩ := p4 hdd
          rw [put_pop hs hst hdd, saw_some hs, hg] at k' ⊢
          have hc := so1.cons late (by rw [hph]; decide) (fun x z => by rw [hdd] at z; cases z) b m vv ww hs hg hcm
          obtain ⟨hpile, t, hPt, hlt⟩ := k.head_pile hoh.symm
          rw [hc] at hlt
          have et : P' = t := link_uniq k'.link hlt
          refine rr (a := .non) k k' R hh hw0 hl _ rfl rfl ba bd rfl hb0 rfl bds (by show h.at_ + 1 = _; rw [ba]) (next_nw _) rfl ?_ ?_
          · rw [et, hPt, ← bd, hdd]; rfl
          · rw [hPt, ← bd, hdd]
            show Ans.val vv = .val (bAt s.boxes b).1
            rw [hc]
        | swap x =>
          obtain ⟨b, rfl⟩ := hos fun x z => by rw [hdd] at z; cases z
          obtain ⟨vv, ww, hg⟩ := p5 x hdd
          rw [put_swap hs hst hdd, saw_some hs] at k' ⊢
          have hbx := own_some (p2 (deed_own_swap hdd))
          have hc := so1.cons late (by rw [hph]; decide) (fun x z => by rw [hdd] at z; cases z) b m vv ww hs hg hcm
          have hlk := so1.swap hph x vv ww h.own hdd hg hbx
          have hval := so1.val hnw h.own hbx
          obtain ⟨hpile, t, hPt, hlt⟩ := k.head_pile hoh.symm
          rw [hc] at hlt
          have hl' := link_at (o' := some h.own) k'.link hbx
          obtain ⟨t', hPt', _, hlt'⟩ := link_some hl'
          have et : t' = t := link_uniq hlt' (by exact link_at (o' := (bAt s.boxes h.own).2) hlt (by rw [hlk]))
          refine rr (a := .non) k k' R hh hw0 hl _ rfl rfl ba bd rfl hb0 rfl bds (by show h.at_ + 1 = _; rw [ba]) (next_nw _) rfl ?_ ?_
          · rw [hPt', et, hPt, ← bd, hdd]
            show (bAt s.boxes h.own).1 :: valsB s.boxes t = x :: valsB s.boxes t
            rw [hval, hdd]; rfl
          · rw [hPt, ← bd, hdd]
            show Ans.val h.got.val = .val (bAt s.boxes b).1
            rw [hc, hg]; rfl
    · -- walk
      have e0 := hw2 hph
      subst e0
      have p := kb.ph
      unfold PhOk at p; rw [hph] at p; dsimp only at p
      obtain ⟨p0, hdd, p1, l, hg⟩ := p
      have hbx := own_some p1
      have hl1 := held.1 hph
      rw [hbx] at hl1
      obtain ⟨t, hLn, hbl, hlt⟩ := link_some hl1
      cases hq : (s.inside h.own).2 with
      | none =>
        rw [walk_end hq] at k' ⊢
        have ht : t = [] := link_none (by have := hlt; rw [show (bAt s.boxes h.own).2 = none from hq] at this; exact this)
        have eP : P' = P := link_uniq k'.link k.link
        have og : Oth s (nx s n ({ s.free h.own with rows := s.rows.map (endRow n h.at_ s.time (h.got.list ++ [(s.inside h.own).1])) }, Hand.next { h with got := .vals (h.got.list ++ [(s.inside h.own).1]), box := (s.inside h.own).2 }, .see h.own (s.inside h.own).1 (s.inside h.own).2)) own n h (Hand.next { h with got := .vals (h.got.list ++ [(s.inside h.own).1]), box := (s.inside h.own).2 }) := ⟨rfl, hh, rfl, rfl, Nat.le_refl _, fun _ _ => rfl⟩
        refine rinv_end (t := 0) og k k' R ?_ hph hl (next_nw _) rfl (by rw [eP]; rfl)
        rw [hLn, ht]; rfl
      | some b =>
        rw [walk_on (by rw [hq]; simp)] at k' ⊢
        have eP : P' = P := link_uniq k'.link k.link
        have og : Oth s (nx s n (s.free h.own, { h with got := .vals (h.got.list ++ [(s.inside h.own).1]), box := (s.inside h.own).2 }, .see h.own (s.inside h.own).1 (s.inside h.own).2)) own n h { h with got := .vals (h.got.list ++ [(s.inside h.own).1]), box := (s.inside h.own).2 } := ⟨rfl, hh, rfl, rfl, Nat.le_refl _, fun _ _ => rfl⟩
        have hL' : L' n = t := by
          have := (k'.held n _ og.self).1 hph
          exact link_uniq this hlt
        refine rinv_quiet og k k' R rfl (by rw [eP]; rfl) (by unfold cntH; rfl) (fun _ => hph) fun _ => ⟨hph, rfl, ?_⟩
        rw [hL', hLn]
        show h.got.list ++ [(s.inside h.own).1] ++ valsB s.boxes t = h.got.list ++ ((bAt s.boxes h.own).1 :: valsB s.boxes t)
        rw [List.append_assoc]; rfl
end
/-! the start -/
def baseL (n : Nat) : Nat → Place := fun b => if b < n then .pile else .out
theorem boxesOf_at {start : List Int} {k : Nat} (h : k < start.length) : bAt (boxesOf start) k = (start.getD k 0, if k + 1 = start.length then none else some (k + 1)) := by
  unfold bAt boxesOf
  rw [List.getD_eq_getElem?_getD, List.getElem?_map, List.getElem?_range h]; rfl
theorem boxesOf_len {start : List Int} : (boxesOf start).length = start.length := by unfold boxesOf; simp
theorem link_range {start : List Int} : ∀ (d k : Nat), k + d = start.length → Link (boxesOf start) (if k = start.length then none else some k) ((List.range d).map (k + ·))
  | 0, k, h => by rw [if_pos (by omega)]; exact trivial
  | d + 1, k, h => by
    rw [if_neg (by omega), List.range_succ_eq_map, List.map_cons, List.map_map]
    refine ⟨by simp, by have := boxesOf_len (start := start); omega, ?_⟩
    rw [boxesOf_at (start := start) (k := k) (by omega)]
    have := link_range (start := start) d (k + 1) (by omega)
    have e : (List.range d).map ((fun x => k + x) ∘ Nat.succ) = (List.range d).map (k + 1 + ·) := List.map_congr_left fun i _ => by simp only [Function.comp]; omega
    rw [e]; exact this
theorem range_link {start : List Int} : Link (boxesOf start) (if start = [] then none else some 0) (List.range start.length) := by
  have := link_range (start := start) start.length 0 (by omega)
  have e : (List.range start.length).map (0 + ·) = List.range start.length := by simp
  rw [e] at this
  cases start with
  | nil => exact this
  | cons a t => rw [if_neg (by simp)] at this; rw [if_neg (by simp)]; exact this
theorem inv_tower {start : List Int} {progs : List (List Deed)} {kd : Kd} (hk : kd ≠ .bare) (hl : start.length ≤ 60) : Inv (towerOf start progs kd) (baseL start.length) (List.range start.length) (fun _ => []) := by
  have hb : ∀ b, b ∈ List.range start.length ↔ baseL start.length b = .pile := fun b => by
    rw [List.mem_range]; unfold baseL; split <;> simp_all
  refine ⟨wf_tower hl, hk, range_link, fun i h hh => ?_, fun i h hh => ?_, List.nodup_range, List.nodup_nil, fun _ => List.nodup_nil, hb, fun b => ?_, fun i b => ?_, fun b => ?_, fun _ _ => rfl⟩
  · simp only [towerOf, List.getElem?_map] at hh
    obtain ⟨p, _, rfl⟩ := Option.map_eq_some_iff.mp hh
    exact ⟨fun z => by simp [handOf] at z, fun _ => rfl⟩
  · simp only [towerOf, List.getElem?_map] at hh
    obtain ⟨p, _, rfl⟩ := Option.map_eq_some_iff.mp hh
    have nl : ¬ Late (handOf p) := by unfold Late handOf; simp
    exact ⟨fun z => absurd z nl, fun z => absurd z nl, fun z => absurd z nl, fun z => absurd z nl, fun z => by simp [handOf] at z, fun z => by simp [handOf] at z, fun _ b e => by simp [handOf] at e⟩
  · show b ∈ [] ↔ _; unfold baseL; split <;> simp
  · show b ∈ [] ↔ _; unfold baseL; split <;> simp
  · show _ ↔ (boxesOf start).length ≤ b; rw [boxesOf_len]; unfold baseL; split <;> simp <;> omega
theorem rinv_tower {start : List Int} {progs : List (List Deed)} {kd : Kd} : RInv (towerOf start progs kd) start (List.range start.length) (fun _ => []) := by
  refine ⟨?_, fun r hr => (by cases hr), fun j r hj => by simp [towerOf] at hj, fun i h hh => ?_, List.Pairwise.nil, fun i h hh hw r hr => (by cases hr)⟩
  · show valsB (boxesOf start) (List.range start.length) = start
    refine List.ext_getElem (by simp [valsB]) fun i h1 h2 => ?_
    simp only [valsB, List.getElem_map, List.getElem_range]
    rw [boxesOf_at h2]; simp [List.getD_eq_getElem?_getD, List.getElem?_eq_getElem h2]
  · simp only [towerOf, List.getElem?_map] at hh
    obtain ⟨p, _, rfl⟩ := Option.map_eq_some_iff.mp hh
    simp [towerOf, cntH, handOf]
/-- what every weaving of marks or of new keeps -/
theorem both_at {start : List Int} {progs : List (List Deed)} {kd : Kd} {w : List Nat} (hk : kd ≠ .bare) (hl : start.length ≤ 60) (hw : ∀ n ∈ w, n < progs.length) : ∀ k, k ≤ w.length → ∃ own P L, Inv ((towerOf start progs kd).at_ w k) own P L ∧ RInv ((towerOf start progs kd).at_ w k) start P L
  | 0, _ => ⟨_, _, _, inv_tower hk hl, rinv_tower⟩
  | k + 1, h => by
    obtain ⟨own, P, L, a, b⟩ := both_at hk hl hw k (by omega)
    obtain ⟨n, hn⟩ : ∃ n, w[k]? = some n := ⟨_, List.getElem?_eq_getElem (by omega)⟩
    have hnl := hw n (List.mem_of_getElem? hn)
    have h0 : (towerOf start progs kd).hands.length = progs.length := List.length_map ..
    have hh := (at_wf (w := w) k (wf_tower hl) (s := towerOf start progs kd) (fun m hm => by rw [h0]; exact hw m hm)).2.1
    have hnl2 : n < ((towerOf start progs kd).at_ w k).hands.length := by rw [hh, h0]; exact hnl
    rw [at_succ hn]
    obtain ⟨own', P', L', a'⟩ := inv_step a hnl2
    exact ⟨own', P', L', a', rinv_step a hnl2 a' b⟩
end DW

/-! ## ME.lean -/
set_option Elab.async false
set_option linter.all false
set_option maxRecDepth 100000
set_option maxHeartbeats 4000000
set_option autoImplicit false
/-! ME: deeds played as wholes, as data. -/
namespace DW
open PySem PySem.Spec L2
open PyProof.Rows hiding St
/-- a deed played as a whole: its answer, the values behind -/
def playA (vs : List Int) : Deed → D
  | .push _ => .non
  | .clear => .tup (vs.map .int)
  | _ => match vs with | [] => .non | v :: _ => .int v
def playV (vs : List Int) : Deed → List Int
  | .push v => v :: vs
  | .clear => []
  | .pop => vs.tail
  | .top => vs
  | .swap v => match vs with | [] => [] | _ :: t => v :: t
def playD (vs : List Int) (d : Deed) : D := .tup [playA vs d, .lst ((playV vs d).map .int)]
theorem playA_eq (vs : List Int) (d : Deed) : playA vs d = (plA vs d).enc := by cases d <;> cases vs <;> rfl
theorem playV_eq (vs : List Int) (d : Deed) : playV vs d = plV vs d := by cases d <;> rfl
theorem plV_len (vs : List Int) (d : Deed) : (plV vs d).length ≤ vs.length + 1 := by
  cases d <;> simp only [plV, List.length_cons, List.length_nil, List.length_tail] <;> first | omega | skip
  cases vs <;> simp
theorem dsizesI {l : List Int} : dsizes (l.map D.int) = l.length := by
  induction l with
  | nil => rfl
  | cons a l ih => simp only [List.map_cons, dsizes, dsize, List.length_cons, ih]; omega
theorem ans_size (a : Ans) : dsize a.enc ≤ 1 + (match a with | .tup vs => vs.length | _ => 0) := by
  cases a <;> simp only [Ans.enc, dsize] <;> first | omega | (rw [dsizesI]; omega)
theorem ans_pl (a : Ans) : plN 55 a.enc = true := by
  cases a <;> simp only [Ans.enc, plN]
  exact plAll_int (n := 54)
theorem plA_size (vs : List Int) (d : Deed) : dsize (plA vs d).enc ≤ 1 + vs.length := by
  refine Nat.le_trans (ans_size _) ?_
  cases d <;> cases vs <;> simp only [plA] <;> omega
/-- a told row as a row -/
def MRow.row (r : MRow) : Row := ⟨r.hand, r.at_, r.deed.enc, r.begun, r.point, r.ended.map fun e => (e : Int), r.ans.enc⟩
theorem mrow_row (r : MRow) : r.row.enc = r.enc := by
  obtain ⟨a, b, c, d, e, f, g⟩ := r
  cases f <;> rfl
theorem ahead_row (a b : MRow) : aheadR a.row b.row = (match a.ended with | some e => decide (e < b.begun) | none => false) := by
  obtain ⟨a1, a2, a3, a4, a5, a6, a7⟩ := a
  cases a6 with
  | none => rfl
  | some e =>
    show decide ((e : Int) < (b.begun : Int)) = decide (e < b.begun)
    by_cases h : e < b.begun
    · rw [decide_eq_true h, decide_eq_true (by omega)]
    · rw [decide_eq_false h, decide_eq_false (by omega)]
end DW

/-! ## F_p_played.lean -/
set_option Elab.async false
set_option linter.all false
set_option maxRecDepth 100000
set_option maxHeartbeats 4000000
set_option autoImplicit false
namespace DW
open PySem PySem.Spec L2
open PyProof.Rows hiding St

local macro_rules | `(tactic| walk_at "dwh") => `(tactic| simp (config := { maxSteps := 1000000 }) only [and_assoc, natD, mapint_inj, mapnat_inj, denc_inj, wfor_eq, ixD, ixM, cut_one, List.tail_cons, List.tail_nil, eqvs_nil, List.isEmpty_cons, List.isEmpty_nil, plAll_int, plAll_nat, Ss.W, Sm.W, Ex.W, Ex.T, Es.W, wVar, BOp.B, COp.B, Bi.B, IxK.B, bI0, bIC, bEq, bIs, bIn, bIxL, bIxT, bIxS, bIxK, bCat, bCatT, bRep, cLen, cInt, cMin2, cList, cTup, wantB, wAndT, wOrT, wAndV, wOrV, wNotV, lenOf, lstOf_ref, lstOf_lst, seqOf, dicOf_ref, dicOf_dic, wPart, wIter, tstW, mAppend, mPop, mPopAt, mClear, wSetIx, wSetKey, Tg.put, wipeN, Cell.lst.injEq, Cell.dic.injEq, Cell.fz.injEq, List.length_map, tyR, tyD,
    eqv_ii, eqv_ss, eqv_bb, eqv_nn, eqv_ll, eqv_tt, eqn_non_int, eqn_non_str, eqn_non_lst, eqn_non_tup, eqn_non_bl, eqn_non_dic, eqn_int_non, eqn_int_str, eqn_int_lst, eqn_int_tup, eqn_int_dic, eqn_str_non, eqn_str_int, eqn_str_lst, eqn_str_tup, eqn_str_bl, eqn_str_dic, eqn_lst_non, eqn_lst_int, eqn_lst_str, eqn_lst_tup, eqn_lst_bl, eqn_lst_dic, eqn_tup_non, eqn_tup_int, eqn_tup_str, eqn_tup_lst, eqn_tup_bl, eqn_tup_dic, eqn_bl_non, eqn_bl_str, eqn_bl_lst, eqn_bl_tup, eqn_bl_dic, eqvs, atI_lit, cdiv_lit, cmul_r, cmul_l, cpow_lit, nrm_dat, nrm_ref, plN, plAll, rd_dat, rd_ref, rds_nil, rds_cons, rds_map, rdk_nil, rdk_cons, wFrz, frz1, wFrzL, frzs, datsN, datsN_map, datsK, isNon, tyNames, kbs,
    Option.map_some, Option.map_none, Option.isSome_some, List.getD_cons_zero, List.getD_cons_succ, List.getD_nil, get_app, get_app0, set_app, set_app0, List.length_append, List.append_assoc, List.any_cons, List.any_nil, List.zip_cons_cons, List.zip_nil_left, List.zip_nil_right,
    List.map_cons, List.map_nil, List.cons_append, List.nil_append, List.append_nil, List.length_cons, List.length_nil, List.replicate, List.set_cons_zero, List.set_cons_succ, List.getElem?_cons_zero, List.getElem?_cons_succ, List.set_nil, List.getElem?_nil,
    Nat.reduceAdd, Nat.reduceSub, Nat.reduceBEq, Nat.reduceLeDiff, Nat.reduceEqDiff, Nat.sub_self, Nat.zero_add, Nat.add_zero, Nat.zero_le, Nat.le_add_right, Nat.le_refl, Int.reduceToNat, Int.reduceLE, Nat.reduceLT, Nat.reducePow, Int.reducePow, Int.reduceNeg, or_true, true_or, Int.reduceLT, Bool.false_eq_true, if_true, if_false, forall_const, false_implies, true_implies, implies_true, Int.reduceEq, cast_lit, not_true_eq_false, not_false_eq_true, Bool.not_true, Bool.not_false, Bool.not_eq_true', Bool.not_eq_false', Bool.and_true, Bool.true_and, Bool.and_false, Bool.false_and, Bool.or_false, Bool.false_or, Bool.or_true, Bool.true_or, reduceCtorEq, false_and, and_false, or_false, false_or, beq_self_eq_true,
    Option.some.injEq, Prod.mk.injEq, Rv.dat.injEq, Rv.ref.injEq, D.int.injEq, D.bl.injEq, D.str.injEq, D.tup.injEq, D.lst.injEq, D.dic.injEq, D.scr.injEq, List.cons.injEq, and_true, true_and, exists_and_left, exists_and_right, exists_eq_left, exists_eq_left', exists_eq_right, exists_eq_right', exists_eq, exists_eq', exists_const, decide_eq_true_eq, decide_eq_false_iff_not, Bool.and_eq_true, beq_iff_eq, beq_eq_false_iff_ne, ne_eq, decide_true, decide_false, hdR_len, stR_len, hdR_24, hdR_25, hdR_26, hdR_27, hdR_28, hdR_29, hdR_30, stR_16, stR_18, stR_19, stR_20, stR_21, stR_22, stR_23, hdP_25, hdP_26, hdP_27, hdP_28, hdP_29, hdP_30, stP_16, stP_19, stP_20, stP_21, stP_22, stP_23, hdD, List.length_set, set_two, denc_push, denc_swap, denc_pop, denc_top, denc_clear, eqv_optN, plN_optN, isNon_optN, optN_some, optN_none, seenD_some, seenD_none, items_pair, items_vals, phk, kdk, List.getElem?_set_self, List.getElem?_set_ne, List.getElem?_append_left, ltaddr, boxD, cDict, S_p_is_deed, *])
abbrev fn_p_played : List Str := ["is_deed"]
def b_p_played_0 : DW.Ss := (.cons (.ret (.tup (.cons (.ix .l (.var 0) (.int 0)) (.cons (.bi .list1 (.cons (.var 0) .nil)) .nil))))
  .nil)
def b_p_played_1 : DW.Ss := (.cons (.ite (.cmp .eq (.ix .t (.var 1) (.int 0)) (.str 1)) (.cons (.ret (.tup (.cons (.ix .l (.var 0) (.int 0)) (.cons (.bin .cat (.lst (.cons (.ix .t (.var 1) (.int 1)) .nil)) (.slL (.var 0) true (.int 1) false .non)) .nil))))
  .nil) .nil)
  b_p_played_0)
def b_p_played_2 : DW.Ss := (.cons (.ite (.cmp .eq (.ix .t (.var 1) (.int 0)) (.str 2)) (.cons (.ret (.tup (.cons (.ix .l (.var 0) (.int 0)) (.cons (.slL (.var 0) true (.int 1) false .non) .nil))))
  .nil) .nil)
  b_p_played_1)
def b_p_played_3 : DW.Ss := (.cons (.ite (.cmp .eq (.var 0) (.lst .nil)) (.cons (.ret (.tup (.cons .non (.cons (.lst .nil) .nil))))
  .nil) .nil)
  b_p_played_2)
def b_p_played_4 : DW.Ss := (.cons (.ite (.cmp .eq (.ix .t (.var 1) (.int 0)) (.str 4)) (.cons (.ret (.tup (.cons (.bi .tup1 (.cons (.var 0) .nil)) (.cons (.lst .nil) .nil))))
  .nil) .nil)
  b_p_played_3)
def b_p_played_5 : DW.Ss := (.cons (.ite (.cmp .eq (.ix .t (.var 1) (.int 0)) (.str 0)) (.cons (.ret (.tup (.cons .non (.cons (.bin .cat (.lst (.cons (.ix .t (.var 1) (.int 1)) .nil)) (.var 0)) .nil))))
  .nil) .nil)
  b_p_played_4)
def m_p_played : DW.Ss := (.cons (.ite (.not (.call 0 (.cons (.frz (.var 1)) .nil))) (.cons .never
  .nil) .nil)
  b_p_played_5)
abbrev Ss_p_played : List SpD := [S_p_is_deed]
theorem deed_pl60 (d : Deed) : plN 60 d.enc = true := by cases d <;> rfl
theorem deed_isB (d : Deed) : isDeedB d.enc = true := by cases d <;> rfl
def S_p_played : SpD := fun rs g Q => ∃ (vs : List Int) (d : Deed), rs = [.dat (.lst (vs.map .int)), .dat d.enc] ∧ (vs.length ≤ 10000 ∧ Q (.dat (playD vs d)) g)
theorem mo_p_played : Mono S_p_played := by
  rintro rs g P P2 hPP ⟨vs, d, eRS, q⟩
  refine ⟨vs, d, eRS, ?_⟩
  first | exact hPP _ _ q | exact ⟨q.1, hPP _ _ q.2⟩ | exact ⟨q.1, q.2.1, hPP _ _ q.2.2⟩ | exact ⟨q.1, q.2.1, q.2.2.1, hPP _ _ q.2.2.2⟩ | exact ⟨q.1, q.2.1, q.2.2.1, q.2.2.2.1, hPP _ _ q.2.2.2.2⟩ | exact ⟨q.1, fun x hx => hPP _ _ (q.2 x hx)⟩ | exact ⟨q.1, q.2.1, fun x hx => hPP _ _ (q.2.2 x hx)⟩ | exact ⟨q.1, q.2.1, fun x hx hy => hPP _ _ (q.2.2 x hx hy)⟩ | exact ⟨q.1, fun x y h1 => hPP _ _ (q.2 x y h1)⟩ | exact ⟨q.1, fun x y h1 h2 => hPP _ _ (q.2 x y h1 h2)⟩ | exact ⟨q.1, fun x h1 h2 => hPP _ _ (q.2 x h1 h2)⟩
theorem len_p_played : ∀ rs g Q, S_p_played rs g Q → rs.length = 2 := by
  rintro rs g Q ⟨vs, d, rfl, q⟩
  rfl
theorem hS_p_played : ∀ rs g Q, S_p_played rs g Q → m_p_played.W (wd Ss_p_played glF dtF) (rs.map some ++ List.replicate (2 - rs.length) none) g (fun _ g2 => Fin g Q (.dat .non) g2) (Fin g Q) := by
  rintro rs g Q ⟨vs, d, rfl, q⟩
  unfold m_p_played
  obtain ⟨hl, q⟩ := q
  have hd1 := deed_pl60 d
  have hd2 := deed_isB d
  cases d <;> simp only [Deed.enc] at hd1 hd2 ⊢ <;> rcases vs with _ | ⟨v, vs⟩ <;> (walk_at "dwh"; repeat ((first | unfold b_p_played_0 | unfold b_p_played_1 | unfold b_p_played_2 | unfold b_p_played_3 | unfold b_p_played_4 | unfold b_p_played_5); walk_at "dwh"))
  all_goals first
    | exact fin_dat _ rfl q
    | exact ⟨by simp at hl ⊢; omega, fin_dat _ rfl q⟩
    | exact ⟨[], rfl, fin_dat _ rfl q⟩
    | exact ⟨_, rfl, fin_dat _ rfl q⟩
    | trace_state

end DW

/-! ## F_p_played_k01.lean -/
set_option Elab.async false
set_option linter.all false
set_option maxRecDepth 100000
set_option maxHeartbeats 4000000
set_option autoImplicit false
namespace DW
open PySem PySem.Spec L2
open PyProof.Rows hiding St

local macro_rules | `(tactic| walk_at "dwh") => `(tactic| simp (config := { maxSteps := 1000000 }) only [and_assoc, natD, mapint_inj, mapnat_inj, denc_inj, wfor_eq, ixD, ixM, cut_one, List.tail_cons, List.tail_nil, eqvs_nil, List.isEmpty_cons, List.isEmpty_nil, plAll_int, plAll_nat, Ss.W, Sm.W, Ex.W, Ex.T, Es.W, wVar, BOp.B, COp.B, Bi.B, IxK.B, bI0, bIC, bEq, bIs, bIn, bIxL, bIxT, bIxS, bIxK, bCat, bCatT, bRep, cLen, cInt, cMin2, cList, cTup, wantB, wAndT, wOrT, wAndV, wOrV, wNotV, lenOf, lstOf_ref, lstOf_lst, seqOf, dicOf_ref, dicOf_dic, wPart, wIter, tstW, mAppend, mPop, mPopAt, mClear, wSetIx, wSetKey, Tg.put, wipeN, Cell.lst.injEq, Cell.dic.injEq, Cell.fz.injEq, List.length_map, tyR, tyD,
    eqv_ii, eqv_ss, eqv_bb, eqv_nn, eqv_ll, eqv_tt, eqn_non_int, eqn_non_str, eqn_non_lst, eqn_non_tup, eqn_non_bl, eqn_non_dic, eqn_int_non, eqn_int_str, eqn_int_lst, eqn_int_tup, eqn_int_dic, eqn_str_non, eqn_str_int, eqn_str_lst, eqn_str_tup, eqn_str_bl, eqn_str_dic, eqn_lst_non, eqn_lst_int, eqn_lst_str, eqn_lst_tup, eqn_lst_bl, eqn_lst_dic, eqn_tup_non, eqn_tup_int, eqn_tup_str, eqn_tup_lst, eqn_tup_bl, eqn_tup_dic, eqn_bl_non, eqn_bl_str, eqn_bl_lst, eqn_bl_tup, eqn_bl_dic, eqvs, atI_lit, cdiv_lit, cmul_r, cmul_l, cpow_lit, nrm_dat, nrm_ref, plN, plAll, rd_dat, rd_ref, rds_nil, rds_cons, rds_map, rdk_nil, rdk_cons, wFrz, frz1, wFrzL, frzs, datsN, datsN_map, datsK, isNon, tyNames, kbs,
    Option.map_some, Option.map_none, Option.isSome_some, List.getD_cons_zero, List.getD_cons_succ, List.getD_nil, get_app, get_app0, set_app, set_app0, List.length_append, List.append_assoc, List.any_cons, List.any_nil, List.zip_cons_cons, List.zip_nil_left, List.zip_nil_right,
    List.map_cons, List.map_nil, List.cons_append, List.nil_append, List.append_nil, List.length_cons, List.length_nil, List.replicate, List.set_cons_zero, List.set_cons_succ, List.getElem?_cons_zero, List.getElem?_cons_succ, List.set_nil, List.getElem?_nil,
    Nat.reduceAdd, Nat.reduceSub, Nat.reduceBEq, Nat.reduceLeDiff, Nat.reduceEqDiff, Nat.sub_self, Nat.zero_add, Nat.add_zero, Nat.zero_le, Nat.le_add_right, Nat.le_refl, Int.reduceToNat, Int.reduceLE, Nat.reduceLT, Nat.reducePow, Int.reducePow, Int.reduceNeg, or_true, true_or, Int.reduceLT, Bool.false_eq_true, if_true, if_false, forall_const, false_implies, true_implies, implies_true, Int.reduceEq, cast_lit, not_true_eq_false, not_false_eq_true, Bool.not_true, Bool.not_false, Bool.not_eq_true', Bool.not_eq_false', Bool.and_true, Bool.true_and, Bool.and_false, Bool.false_and, Bool.or_false, Bool.false_or, Bool.or_true, Bool.true_or, reduceCtorEq, false_and, and_false, or_false, false_or, beq_self_eq_true,
    Option.some.injEq, Prod.mk.injEq, Rv.dat.injEq, Rv.ref.injEq, D.int.injEq, D.bl.injEq, D.str.injEq, D.tup.injEq, D.lst.injEq, D.dic.injEq, D.scr.injEq, List.cons.injEq, and_true, true_and, exists_and_left, exists_and_right, exists_eq_left, exists_eq_left', exists_eq_right, exists_eq_right', exists_eq, exists_eq', exists_const, decide_eq_true_eq, decide_eq_false_iff_not, Bool.and_eq_true, beq_iff_eq, beq_eq_false_iff_ne, ne_eq, decide_true, decide_false, hdR_len, stR_len, hdR_24, hdR_25, hdR_26, hdR_27, hdR_28, hdR_29, hdR_30, stR_16, stR_18, stR_19, stR_20, stR_21, stR_22, stR_23, hdP_25, hdP_26, hdP_27, hdP_28, hdP_29, hdP_30, stP_16, stP_19, stP_20, stP_21, stP_22, stP_23, hdD, List.length_set, set_two, denc_push, denc_swap, denc_pop, denc_top, denc_clear, eqv_optN, plN_optN, isNon_optN, optN_some, optN_none, seenD_some, seenD_none, items_pair, items_vals, phk, kdk, List.getElem?_set_self, List.getElem?_set_ne, List.getElem?_append_left, ltaddr, boxD, cDict, S_p_is_deed, *])
abbrev fn_p_played_k01 : List Str := ["is_deed"]
def b_p_played_k01_0 : DW.Ss := (.cons (.ret (.tup (.cons (.ix .l (.var 0) (.int 0)) (.cons (.bi .list1 (.cons (.var 0) .nil)) .nil))))
  .nil)
def b_p_played_k01_1 : DW.Ss := (.cons (.ite (.cmp .eq (.ix .t (.var 1) (.int 0)) (.str 1)) (.cons (.ret (.tup (.cons (.ix .l (.var 0) (.int 0)) (.cons (.bin .cat (.lst (.cons (.ix .t (.var 1) (.int 1)) .nil)) (.slL (.var 0) true (.int 1) false .non)) .nil))))
  .nil) .nil)
  b_p_played_k01_0)
def b_p_played_k01_2 : DW.Ss := (.cons (.ite (.cmp .eq (.ix .t (.var 1) (.int 0)) (.str 2)) (.cons (.ret (.tup (.cons (.ix .l (.var 0) (.int 0)) (.cons (.slL (.var 0) true (.int 1) false .non) .nil))))
  .nil) .nil)
  b_p_played_k01_1)
def b_p_played_k01_3 : DW.Ss := (.cons (.ite (.cmp .eq (.var 0) (.lst .nil)) (.cons (.ret (.tup (.cons .non (.cons (.lst .nil) .nil))))
  .nil) .nil)
  b_p_played_k01_2)
def b_p_played_k01_4 : DW.Ss := (.cons (.ite (.cmp .eq (.ix .t (.var 1) (.int 0)) (.str 4)) (.cons (.ret (.tup (.cons (.bi .tup1 (.cons (.var 0) .nil)) (.cons (.lst .nil) .nil))))
  .nil) .nil)
  b_p_played_k01_3)
def b_p_played_k01_5 : DW.Ss := (.cons (.ite (.cmp .eq (.ix .t (.var 1) (.int 0)) (.str 0)) (.cons (.ret (.tup (.cons .non (.cons (.bin .cat (.lst (.cons (.ix .t (.var 1) (.int 1)) .nil)) (.var 0)) .nil))))
  .nil) .nil)
  b_p_played_k01_4)
def m_p_played_k01 : DW.Ss := (.cons (.ite (.not (.call 0 (.cons (.frz (.var 1)) .nil))) (.cons .never
  .nil) .nil)
  b_p_played_k01_5)
abbrev Ss_p_played_k01 : List SpD := [S_p_is_deed]
def S_p_played_k01 : SpD := fun rs g Q => ∃ (a : Nat) (vs : List Int) (d : Deed), rs = [.ref a, .dat d.enc] ∧ (g[a]? = some (.lst ((vs.map .int).map .dat)) ∧ vs.length ≤ 10000 ∧ Q (.dat (playD vs d)) g)
theorem mo_p_played_k01 : Mono S_p_played_k01 := by
  rintro rs g P P2 hPP ⟨a, vs, d, eRS, q⟩
  refine ⟨a, vs, d, eRS, ?_⟩
  exact ⟨q.1, q.2.1, hPP _ _ q.2.2⟩
theorem len_p_played_k01 : ∀ rs g Q, S_p_played_k01 rs g Q → rs.length = 2 := by
  rintro rs g Q ⟨a, vs, d, rfl, q⟩
  rfl
theorem hS_p_played_k01 : ∀ rs g Q, S_p_played_k01 rs g Q → m_p_played_k01.W (wd Ss_p_played_k01 glF dtF) (rs.map some ++ List.replicate (2 - rs.length) none) g (fun _ g2 => Fin g Q (.dat .non) g2) (Fin g Q) := by
  rintro rs g Q ⟨a, vs, d, rfl, q⟩
  unfold m_p_played_k01
  obtain ⟨hg, hl, q⟩ := q
  have hd1 := deed_pl60 d
  have hd2 := deed_isB d
  have ha : a < g.length := (List.getElem?_eq_some_iff.mp hg).1
  cases d <;> simp only [Deed.enc] at hd1 hd2 ⊢ <;> rcases vs with _ | ⟨v, vs⟩ <;> (walk_at "dwh"; repeat ((first | unfold b_p_played_k01_0 | unfold b_p_played_k01_1 | unfold b_p_played_k01_2 | unfold b_p_played_k01_3 | unfold b_p_played_k01_4 | unfold b_p_played_k01_5); walk_at "dwh"))
  all_goals first
    | exact fin_dat _ rfl q
    | exact ⟨by simp at hl ⊢; omega, fin_dat _ rfl q⟩
    | exact ⟨[], rfl, fin_dat _ rfl q⟩
    | exact ⟨_, rfl, fin_dat _ rfl q⟩
    | trace_state

end DW

/-! ## F_alike.lean -/
set_option Elab.async false
set_option linter.all false
set_option maxRecDepth 100000
set_option maxHeartbeats 4000000
set_option autoImplicit false
namespace DW
open PySem PySem.Spec L2
open PyProof.Rows hiding St

local macro_rules | `(tactic| walk_at "dw") => `(tactic| simp (config := { maxSteps := 1000000 }) only [and_assoc, natD, mapint_inj, mapnat_inj, denc_inj, wfor_eq, ixD, ixM, cut_one, List.tail_cons, List.tail_nil, eqvs_nil, List.isEmpty_cons, List.isEmpty_nil, plAll_int, plAll_nat, Ss.W, Sm.W, Ex.W, Ex.T, Es.W, wVar, BOp.B, COp.B, Bi.B, IxK.B, bI0, bIC, bEq, bIs, bIn, bIxL, bIxT, bIxS, bIxK, bCat, bCatT, bRep, cLen, cInt, cMin2, cList, cTup, wantB, wAndT, wOrT, wAndV, wOrV, wNotV, lenOf, lstOf_ref, lstOf_lst, seqOf, dicOf_ref, dicOf_dic, wPart, wIter, tstW, mAppend, mPop, mPopAt, mClear, wSetIx, wSetKey, Tg.put, wipeN, Cell.lst.injEq, Cell.dic.injEq, Cell.fz.injEq, List.length_map, tyR, tyD,
    eqv_ii, eqv_ss, eqv_bb, eqv_nn, eqv_ll, eqv_tt, eqn_non_int, eqn_non_str, eqn_non_lst, eqn_non_tup, eqn_non_bl, eqn_non_dic, eqn_int_non, eqn_int_str, eqn_int_lst, eqn_int_tup, eqn_int_dic, eqn_str_non, eqn_str_int, eqn_str_lst, eqn_str_tup, eqn_str_bl, eqn_str_dic, eqn_lst_non, eqn_lst_int, eqn_lst_str, eqn_lst_tup, eqn_lst_bl, eqn_lst_dic, eqn_tup_non, eqn_tup_int, eqn_tup_str, eqn_tup_lst, eqn_tup_bl, eqn_tup_dic, eqn_bl_non, eqn_bl_str, eqn_bl_lst, eqn_bl_tup, eqn_bl_dic, eqvs, atI_lit, cdiv_lit, cmul_r, cmul_l, cpow_lit, nrm_dat, nrm_ref, plN, plAll, rd_dat, rd_ref, rds_nil, rds_cons, rds_map, rdk_nil, rdk_cons, wFrz, frz1, wFrzL, frzs, datsN, datsN_map, datsK, isNon, tyNames, kbs,
    Option.map_some, Option.map_none, Option.isSome_some, List.getD_cons_zero, List.getD_cons_succ, List.getD_nil, get_app, get_app0, set_app, set_app0, List.length_append, List.append_assoc, List.any_cons, List.any_nil, List.zip_cons_cons, List.zip_nil_left, List.zip_nil_right,
    List.map_cons, List.map_nil, List.cons_append, List.nil_append, List.append_nil, List.length_cons, List.length_nil, List.replicate, List.set_cons_zero, List.set_cons_succ, List.getElem?_cons_zero, List.getElem?_cons_succ, List.set_nil, List.getElem?_nil,
    Nat.reduceAdd, Nat.reduceSub, Nat.reduceBEq, Nat.reduceLeDiff, Nat.reduceEqDiff, Nat.sub_self, Nat.zero_add, Nat.add_zero, Nat.zero_le, Nat.le_add_right, Nat.le_refl, Int.reduceToNat, Int.reduceLE, Nat.reduceLT, Nat.reducePow, Int.reducePow, Int.reduceNeg, or_true, true_or, Int.reduceLT, Bool.false_eq_true, if_true, if_false, forall_const, false_implies, true_implies, implies_true, Int.reduceEq, cast_lit, not_true_eq_false, not_false_eq_true, Bool.not_true, Bool.not_false, Bool.not_eq_true', Bool.not_eq_false', Bool.and_true, Bool.true_and, Bool.and_false, Bool.false_and, Bool.or_false, Bool.false_or, Bool.or_true, Bool.true_or, reduceCtorEq, false_and, and_false, or_false, false_or, beq_self_eq_true,
    Option.some.injEq, Prod.mk.injEq, Rv.dat.injEq, Rv.ref.injEq, D.int.injEq, D.bl.injEq, D.str.injEq, D.tup.injEq, D.lst.injEq, D.dic.injEq, D.scr.injEq, List.cons.injEq, and_true, true_and, exists_and_left, exists_and_right, exists_eq_left, exists_eq_left', exists_eq_right, exists_eq_right', exists_eq, exists_eq', exists_const, decide_eq_true_eq, decide_eq_false_iff_not, Bool.and_eq_true, beq_iff_eq, beq_eq_false_iff_ne, ne_eq, decide_true, decide_false, hdR_len, stR_len, hdR_24, hdR_25, hdR_26, hdR_27, hdR_28, hdR_29, hdR_30, stR_16, stR_18, stR_19, stR_20, stR_21, stR_22, stR_23, hdP_25, hdP_26, hdP_27, hdP_28, hdP_29, hdP_30, stP_16, stP_19, stP_20, stP_21, stP_22, stP_23, hdD, List.length_set, set_two, denc_push, denc_swap, denc_pop, denc_top, denc_clear, eqv_optN, plN_optN, isNon_optN, optN_some, optN_none, seenD_some, seenD_none, items_pair, items_vals, phk, kdk, List.getElem?_set_self, List.getElem?_set_ne, List.getElem?_append_left, ltaddr, boxD, cDict])
abbrev fn_alike : List Str := []
def b_alike_0 : DW.Ex := (.cmp .ne (.var 2) (.lst .nil))
def b_alike_1 : DW.Ss := (.cons (.set 3 (.pop (.var 2)))
  (.cons (.ite (.isin2 (.ix .t (.var 3) (.int 1)) 3 4) (.cons (.ite (.cmp .ne (.isin (.ix .t (.var 3) (.int 0)) 3) (.isin (.ix .t (.var 3) (.int 1)) 3)) (.cons (.ret (.bl false))
  .nil) .nil)
  (.cons (.ite (.or (.cmp .ne (.isin (.ix .t (.var 3) (.int 0)) 4) (.isin (.ix .t (.var 3) (.int 1)) 4)) (.one (.cmp .ne (.bi .len (.cons (.ix .t (.var 3) (.int 0)) .nil)) (.bi .len (.cons (.ix .t (.var 3) (.int 1)) .nil))))) (.cons (.ret (.bl false))
  .nil) .nil)
  (.cons (.set 2 (.bin .cat (.var 2) (.lzip (.cons (.ix .t (.var 3) (.int 0)) (.cons (.ix .t (.var 3) (.int 1)) .nil)))))
  .nil))) (.cons (.ite (.or (.cmp .isN (.ix .t (.var 3) (.int 1)) .non) (.one (.isin (.ix .t (.var 3) (.int 1)) 1))) (.cons (.ite (.or (.cmp .ne (.isin (.ix .t (.var 3) (.int 0)) 1) (.isin (.ix .t (.var 3) (.int 1)) 1)) (.one (.cmp .ne (.ix .t (.var 3) (.int 0)) (.ix .t (.var 3) (.int 1))))) (.cons (.ret (.bl false))
  .nil) .nil)
  .nil) (.cons (.ite (.or (.cmp .ne (.isin (.ix .t (.var 3) (.int 0)) 2) (.isin (.ix .t (.var 3) (.int 1)) 2)) (.or (.isin (.ix .t (.var 3) (.int 0)) 1) (.one (.cmp .ne (.ix .t (.var 3) (.int 0)) (.ix .t (.var 3) (.int 1)))))) (.cons (.ret (.bl false))
  .nil) .nil)
  .nil))
  .nil))
  .nil))
def b_alike_2 : DW.Ss := (.cons (.ret (.bl true))
  .nil)
def m_alike : DW.Ss := (.cons (.set 2 (.lst (.cons (.tup (.cons (.var 0) (.cons (.var 1) .nil))) .nil)))
  (.cons (.while_ b_alike_0 b_alike_1)
  b_alike_2))
abbrev Ss_alike : List SpD := []
def pairD (p : D × D) : D := .tup [p.1, p.2]
theorem get_lst {qs : List (D × D)} {x : Rv} : ((qs.map pairD).map Rv.dat ++ [x])[qs.length + 1 - 1]? = some x := by simp
theorem pairs_pl {ps : List (D × D)} (hp : ∀ p ∈ ps, plN 55 p.1 = true ∧ plN 55 p.2 = true) : plAll 60 (ps.map pairD) = true := plAll_of (n := 59) fun d hd => by
  obtain ⟨p, h, rfl⟩ := List.mem_map.mp hd
  have h1 := plN_mono (m := 58) (hp p h).1 (by decide)
  have h2 := plN_mono (m := 58) (hp p h).2 (by decide)
  simp only [pairD, plN, plAll, h1, h2, Bool.and_self]
theorem zip_next {qs : List (D × D)} {d1 d2 : List D} {a b : D} {m : Nat} (hl : d1.length = d2.length) (hq : ∀ p ∈ qs, plN 55 p.1 = true ∧ plN 55 p.2 = true) (h1 : plAll 55 d1 = true) (h2 : plAll 55 d2 = true)
    (hm : dsizes (qs.map fun x => x.2) + (1 + dsizes d2) = m) (hi : ((∀ p ∈ qs, p.1 = p.2) ∧ d1 = d2) ↔ a = b) :
    (∀ p ∈ qs ++ d1.zip d2, plN 55 p.1 = true ∧ plN 55 p.2 = true) ∧ dsizes ((qs ++ d1.zip d2).map fun x => x.2) < m ∧ ((∀ p ∈ qs ++ d1.zip d2, p.1 = p.2) ↔ a = b) := by
  refine ⟨fun p hp => ?_, ?_, ?_⟩
  · rcases List.mem_append.mp hp with hp | hp
    · exact hq p hp
    · obtain ⟨p1, p2⟩ := p
      have := List.of_mem_zip hp
      exact ⟨plN_mono (plAll_mem h1 _ this.1) (by decide), plN_mono (plAll_mem h2 _ this.2) (by decide)⟩
  · rw [List.map_append, dsizes_app, show (d1.zip d2).map (fun x => x.2) = (d1.zip d2).map (·.2) from rfl, zip_snd hl]; omega
  · rw [← hi, ← zip_map_eq hl]
    exact ⟨fun h => ⟨fun p hp => h p (by simp [hp]), fun p hp => h p (by simp [hp])⟩, fun h p hp => by
      rcases List.mem_append.mp hp with hp | hp
      · exact h.1 p hp
      · exact h.2 p hp⟩
def S_alike : SpD := fun rs g Q => ∃ (a b : D), rs = [.dat a, .dat b] ∧ (plN 55 a = true ∧ plN 55 b = true ∧ dsize b ≤ 500000 ∧ Q (.dat (.bl (deq a b))) g)
theorem mo_alike : Mono S_alike := by
  rintro rs g P P2 hPP ⟨a, b, eRS, q⟩
  refine ⟨a, b, eRS, ?_⟩
  first | exact hPP _ _ q | exact ⟨q.1, hPP _ _ q.2⟩ | exact ⟨q.1, q.2.1, hPP _ _ q.2.2⟩ | exact ⟨q.1, q.2.1, q.2.2.1, hPP _ _ q.2.2.2⟩ | exact ⟨q.1, q.2.1, q.2.2.1, q.2.2.2.1, hPP _ _ q.2.2.2.2⟩ | exact ⟨q.1, fun x hx => hPP _ _ (q.2 x hx)⟩ | exact ⟨q.1, q.2.1, fun x hx => hPP _ _ (q.2.2 x hx)⟩ | exact ⟨q.1, q.2.1, fun x hx hy => hPP _ _ (q.2.2 x hx hy)⟩ | exact ⟨q.1, fun x y h1 => hPP _ _ (q.2 x y h1)⟩ | exact ⟨q.1, fun x y h1 h2 => hPP _ _ (q.2 x y h1 h2)⟩ | exact ⟨q.1, fun x h1 h2 => hPP _ _ (q.2 x h1 h2)⟩
theorem len_alike : ∀ rs g Q, S_alike rs g Q → rs.length = 2 := by
  rintro rs g Q ⟨a, b, rfl, q⟩
  rfl
theorem hS_alike : ∀ rs g Q, S_alike rs g Q → m_alike.W (wd Ss_alike glF dtF) (rs.map some ++ List.replicate (4 - rs.length) none) g (fun _ g2 => Fin g Q (.dat .non) g2) (Fin g Q) := by
  rintro rs g Q ⟨a, b, rfl, q⟩
  unfold m_alike
  obtain ⟨pa, pb, hs, q⟩ := q
  walk_at "dw"
  refine wwhile (fun m env g2 => ∃ (ps : List (D × D)) (l1 l2 : Rg) (x : Option Rv), env = [some (.dat a), some (.dat b), some (.ref (g.length + l1.length)), x] ∧ g2 = g ++ (l1 ++ .lst ((ps.map pairD).map .dat) :: l2) ∧
    (∀ p ∈ ps, plN 55 p.1 = true ∧ plN 55 p.2 = true) ∧ dsizes (ps.map (·.2)) = m ∧ m ≤ 500000 ∧ ((∀ p ∈ ps, p.1 = p.2) ↔ a = b)) (dsize b) ⟨[(a, b)], [], [], none, rfl, rfl, by simpa using ⟨pa, pb⟩, by simp [dsizes], hs, by simp⟩ ?_
  rintro m env g2 ⟨ps, l1, l2, x, rfl, rfl, hp, hm, hm2, hi⟩
  unfold b_alike_0
  walk_at "dw"
  rw [pairs_pl hp]
  rcases List.eq_nil_or_concat ps with rfl | ⟨qs, p, rfl⟩
  · refine ⟨rfl, fun h => by simp at h, fun _ => ?_⟩
    unfold b_alike_2
    walk_at "dw"
    refine fin_dat _ rfl ?_
    rw [deq_true.mpr (hi.mp fun p hp => by cases hp)] at q; exact q
  · rw [List.concat_eq_append] at *
    refine ⟨rfl, fun _ => ?_, fun h => by simp at h⟩
    rw [List.map_append, List.map_append]
    obtain ⟨p1, p2⟩ := p
    have hF : p1 ≠ p2 → ∀ jj, Fin g Q (.dat (.bl false)) (g ++ jj) := fun hne jj => by
      refine fin_dat _ rfl ?_
      have : deq a b = false := deq_false.mpr fun z => hne (hi.mpr z (p1, p2) (by simp))
      rw [this] at q; exact q
    have h1 := (hp (p1, p2) (by simp)).1
    have h2 := (hp (p1, p2) (by simp)).2
    have hq : ∀ p ∈ qs, plN 55 p.1 = true ∧ plN 55 p.2 = true := fun p h => hp p (by simp [h])
    have hdp := dsize_pos p2
    rw [List.map_append, dsizes_app] at hm
    simp only [List.map_cons, List.map_nil, dsizes, Nat.add_zero] at hm
    have hI : p1 = p2 → ((∀ p ∈ qs, p.1 = p.2) ↔ a = b) := fun e => by
      rw [← hi]
      exact ⟨fun h p hp => by
        rcases List.mem_append.mp hp with hp | hp
        · exact h p hp
        · rw [List.mem_singleton.mp hp]; exact e, fun h p hp => h p (by simp [hp])⟩
    have hC : p1 = p2 → ∃ m', m' < m ∧ ∃ (ps : List (D × D)) (l1_1 : Rg), g.length + l1.length = g.length + l1_1.length ∧
        (∃ x, g ++ (l1 ++ Cell.lst ((qs.map pairD).map Rv.dat) :: (l2 ++ [Cell.lst []])) = g ++ (l1_1 ++ Cell.lst ((ps.map pairD).map Rv.dat) :: x)) ∧
        (∀ p ∈ ps, plN 55 p.1 = true ∧ plN 55 p.2 = true) ∧ dsizes (ps.map fun x => x.2) = m' ∧ m' ≤ 500000 ∧ ((∀ p ∈ ps, p.1 = p.2) ↔ a = b) :=
      fun e => ⟨_, by omega, qs, l1, rfl, ⟨_, rfl⟩, hq, rfl, by omega, hI e⟩
    unfold b_alike_1
    walk_at "dw"
    simp only [get_lst, List.dropLast_concat, pairD, Option.some.injEq, exists_eq_left', nrm_dat, Rv.dat.injEq, D.tup.injEq, List.getElem?_cons_zero, List.getElem?_cons_succ]
    cases p2 <;> first | (exfalso; simp [plN] at h2; done) | skip
    all_goals cases p1 <;> first | (exfalso; simp [plN] at h1; done) | skip
    all_goals walk_at "dw"
    all_goals try (have h1' := plAll_mono (m := 60) (by simpa only [plN] using h1) (by decide))
    all_goals try (have h2' := plAll_mono (m := 60) (by simpa only [plN] using h2) (by decide))
    all_goals try first
      | exact hF (by simp) _
      | exact hC rfl
      | exact ⟨fun h => hF (by simp [h]) _, fun h => hC (by rw [h])⟩
      | exact ⟨h1', hF (by simp) _⟩
    all_goals
      rename_i d2 d1 hx
      refine ⟨fun h => hF (fun e => h (by cases e; rfl)) _, fun h => ?_⟩
      have hl : d1.length = d2.length := by omega
      have g1 : plAll 55 d1 = true := by simpa only [plN] using h1
      have g2 : plAll 55 d2 = true := by simpa only [plN] using h2
      simp only [dsize] at hm
      have hi2 : ((∀ p ∈ qs, p.1 = p.2) ∧ d1 = d2) ↔ a = b := by
        rw [← hi]
        exact ⟨fun h p hp => by
          rcases List.mem_append.mp hp with hp | hp
          · exact h.1 p hp
          · rw [List.mem_singleton.mp hp, h.2], fun h => ⟨fun p hp => h p (by simp [hp]), by have := h _ (List.mem_append_right qs List.mem_cons_self); simpa using this⟩⟩
      obtain ⟨z1, z2, z3⟩ := zip_next hl hq g1 g2 hm hi2
      have y1 := dsizes_len d2
      have y2 := dsizes_len (qs.map fun x => x.2)
      rw [List.length_map] at y2
      unfold cZip
      first
      | refine ⟨d1, d2, .inl ⟨rfl, rfl⟩, by omega, by omega, ?_⟩
      | refine ⟨d1, d2, .inr ⟨rfl, rfl⟩, by omega, by omega, ?_⟩
    all_goals walk_at "dw"
    all_goals exact ⟨by rw [List.length_zip]; omega, _, z2, qs ++ d1.zip d2, l1 ++ Cell.lst ((qs.map pairD).map Rv.dat) :: (l2 ++ [Cell.lst [], Cell.lst ((d1.zip d2).map fun p => Rv.dat (D.tup [p.1, p.2]))]), by simp, ⟨[], by simp [pairD]⟩, z1, rfl, by omega, z3⟩

end DW

/-! ## F_cell_at.lean -/
set_option Elab.async false
set_option linter.all false
set_option maxRecDepth 100000
set_option maxHeartbeats 4000000
set_option autoImplicit false
namespace DW
open PySem PySem.Spec L2
open PyProof.Rows hiding St

local macro_rules | `(tactic| walk_at "dw") => `(tactic| simp (config := { maxSteps := 1000000 }) only [and_assoc, natD, mapint_inj, mapnat_inj, denc_inj, wfor_eq, ixD, ixM, cut_one, List.tail_cons, List.tail_nil, eqvs_nil, List.isEmpty_cons, List.isEmpty_nil, plAll_int, plAll_nat, Ss.W, Sm.W, Ex.W, Ex.T, Es.W, wVar, BOp.B, COp.B, Bi.B, IxK.B, bI0, bIC, bEq, bIs, bIn, bIxL, bIxT, bIxS, bIxK, bCat, bCatT, bRep, cLen, cInt, cMin2, cList, cTup, wantB, wAndT, wOrT, wAndV, wOrV, wNotV, lenOf, lstOf_ref, lstOf_lst, seqOf, dicOf_ref, dicOf_dic, wPart, wIter, tstW, mAppend, mPop, mPopAt, mClear, wSetIx, wSetKey, Tg.put, wipeN, Cell.lst.injEq, Cell.dic.injEq, Cell.fz.injEq, List.length_map, tyR, tyD,
    eqv_ii, eqv_ss, eqv_bb, eqv_nn, eqv_ll, eqv_tt, eqn_non_int, eqn_non_str, eqn_non_lst, eqn_non_tup, eqn_non_bl, eqn_non_dic, eqn_int_non, eqn_int_str, eqn_int_lst, eqn_int_tup, eqn_int_dic, eqn_str_non, eqn_str_int, eqn_str_lst, eqn_str_tup, eqn_str_bl, eqn_str_dic, eqn_lst_non, eqn_lst_int, eqn_lst_str, eqn_lst_tup, eqn_lst_bl, eqn_lst_dic, eqn_tup_non, eqn_tup_int, eqn_tup_str, eqn_tup_lst, eqn_tup_bl, eqn_tup_dic, eqn_bl_non, eqn_bl_str, eqn_bl_lst, eqn_bl_tup, eqn_bl_dic, eqvs, atI_lit, cdiv_lit, cmul_r, cmul_l, cpow_lit, nrm_dat, nrm_ref, plN, plAll, rd_dat, rd_ref, rds_nil, rds_cons, rds_map, rdk_nil, rdk_cons, wFrz, frz1, wFrzL, frzs, datsN, datsN_map, datsK, isNon, tyNames, kbs,
    Option.map_some, Option.map_none, Option.isSome_some, List.getD_cons_zero, List.getD_cons_succ, List.getD_nil, get_app, get_app0, set_app, set_app0, List.length_append, List.append_assoc, List.any_cons, List.any_nil, List.zip_cons_cons, List.zip_nil_left, List.zip_nil_right,
    List.map_cons, List.map_nil, List.cons_append, List.nil_append, List.append_nil, List.length_cons, List.length_nil, List.replicate, List.set_cons_zero, List.set_cons_succ, List.getElem?_cons_zero, List.getElem?_cons_succ, List.set_nil, List.getElem?_nil,
    Nat.reduceAdd, Nat.reduceSub, Nat.reduceBEq, Nat.reduceLeDiff, Nat.reduceEqDiff, Nat.sub_self, Nat.zero_add, Nat.add_zero, Nat.zero_le, Nat.le_add_right, Nat.le_refl, Int.reduceToNat, Int.reduceLE, Nat.reduceLT, Nat.reducePow, Int.reducePow, Int.reduceNeg, or_true, true_or, Int.reduceLT, Bool.false_eq_true, if_true, if_false, forall_const, false_implies, true_implies, implies_true, Int.reduceEq, cast_lit, not_true_eq_false, not_false_eq_true, Bool.not_true, Bool.not_false, Bool.not_eq_true', Bool.not_eq_false', Bool.and_true, Bool.true_and, Bool.and_false, Bool.false_and, Bool.or_false, Bool.false_or, Bool.or_true, Bool.true_or, reduceCtorEq, false_and, and_false, or_false, false_or, beq_self_eq_true,
    Option.some.injEq, Prod.mk.injEq, Rv.dat.injEq, Rv.ref.injEq, D.int.injEq, D.bl.injEq, D.str.injEq, D.tup.injEq, D.lst.injEq, D.dic.injEq, D.scr.injEq, List.cons.injEq, and_true, true_and, exists_and_left, exists_and_right, exists_eq_left, exists_eq_left', exists_eq_right, exists_eq_right', exists_eq, exists_eq', exists_const, decide_eq_true_eq, decide_eq_false_iff_not, Bool.and_eq_true, beq_iff_eq, beq_eq_false_iff_ne, ne_eq, decide_true, decide_false, hdR_len, stR_len, hdR_24, hdR_25, hdR_26, hdR_27, hdR_28, hdR_29, hdR_30, stR_16, stR_18, stR_19, stR_20, stR_21, stR_22, stR_23, hdP_25, hdP_26, hdP_27, hdP_28, hdP_29, hdP_30, stP_16, stP_19, stP_20, stP_21, stP_22, stP_23, hdD, List.length_set, set_two, denc_push, denc_swap, denc_pop, denc_top, denc_clear, eqv_optN, plN_optN, isNon_optN, optN_some, optN_none, seenD_some, seenD_none, items_pair, items_vals, phk, kdk, List.getElem?_set_self, List.getElem?_set_ne, List.getElem?_append_left, ltaddr, boxD, cDict, S_mixed])
abbrev fn_cell_at : List Str := ["_law_mixed"]
def m_cell_at : DW.Ss := (.cons (.ite (.cmp .lt (.var 1) (.bi .len (.cons (.var 0) .nil))) (.cons (.ret (.call 0 (.cons (.ix .s (.var 0) (.var 1)) (.cons (.var 1) .nil))))
  .nil) .nil)
  (.cons (.ret (.int 0))
  .nil))
abbrev Ss_cell_at : List SpD := [S_mixed]
def S_cell_at : SpD := fun rs g Q => match rs with
  | [.dat (.scr ns), .dat (.int k)] => 0 ≤ k ∧ Q (.dat (.int (cellAt ns k.toNat))) g
  | _ => False
theorem mo_cell_at : Mono S_cell_at := by
  intro rs g P P2 h
  unfold S_cell_at
  split
  · intro q; first | exact h _ _ q | exact ⟨q.1, h _ _ q.2⟩ | exact ⟨q.1, q.2.1, h _ _ q.2.2⟩ | exact q.imp fun _ z => ⟨z.1, h _ _ z.2⟩
  · exact id
theorem len_cell_at : ∀ rs g Q, S_cell_at rs g Q → rs.length = 2 := by
  intro rs g Q q
  unfold S_cell_at at q
  split at q
  · rfl
  · exact q.elim
theorem hS_cell_at : ∀ rs g Q, S_cell_at rs g Q → m_cell_at.W (wd Ss_cell_at glF dtF) (rs.map some ++ List.replicate (2 - rs.length) none) g (fun _ g2 => Fin g Q (.dat .non) g2) (Fin g Q) := by
  intro rs g Q q
  unfold S_cell_at at q
  split at q
  · rename_i ns k
    unfold m_cell_at
    obtain ⟨hk0, q⟩ := q
    obtain ⟨k, rfl⟩ := Int.eq_ofNat_of_zero_le hk0
    rw [Int.toNat_natCast] at q
    walk_at "dw"
    refine ⟨fun h => ?_, fun h => ?_⟩
    · have hk : k < ns.length := by omega
      refine ⟨ns[k], atI_nat' (List.getElem?_eq_getElem hk), fin_dat [] (by simp) ?_⟩
      have : cellAt ns k = mixed ns[k] k := by unfold cellAt; rw [List.getElem?_eq_getElem hk]
      rw [this] at q; exact q
    · refine fin_dat [] (by simp) ?_
      have : cellAt ns k = 0 := by unfold cellAt; rw [List.getElem?_eq_none (by omega)]
      rw [this] at q; exact q
  · exact q.elim

end DW

/-! ## F_odd_k01.lean -/
set_option Elab.async false
set_option linter.all false
set_option maxRecDepth 100000
set_option maxHeartbeats 4000000
set_option autoImplicit false
namespace DW
open PySem PySem.Spec L2
open PyProof.Rows hiding St

local macro_rules | `(tactic| walk_at "dw") => `(tactic| simp (config := { maxSteps := 1000000 }) only [and_assoc, natD, mapint_inj, mapnat_inj, denc_inj, wfor_eq, ixD, ixM, cut_one, List.tail_cons, List.tail_nil, eqvs_nil, List.isEmpty_cons, List.isEmpty_nil, plAll_int, plAll_nat, Ss.W, Sm.W, Ex.W, Ex.T, Es.W, wVar, BOp.B, COp.B, Bi.B, IxK.B, bI0, bIC, bEq, bIs, bIn, bIxL, bIxT, bIxS, bIxK, bCat, bCatT, bRep, cLen, cInt, cMin2, cList, cTup, wantB, wAndT, wOrT, wAndV, wOrV, wNotV, lenOf, lstOf_ref, lstOf_lst, seqOf, dicOf_ref, dicOf_dic, wPart, wIter, tstW, mAppend, mPop, mPopAt, mClear, wSetIx, wSetKey, Tg.put, wipeN, Cell.lst.injEq, Cell.dic.injEq, Cell.fz.injEq, List.length_map, tyR, tyD,
    eqv_ii, eqv_ss, eqv_bb, eqv_nn, eqv_ll, eqv_tt, eqn_non_int, eqn_non_str, eqn_non_lst, eqn_non_tup, eqn_non_bl, eqn_non_dic, eqn_int_non, eqn_int_str, eqn_int_lst, eqn_int_tup, eqn_int_dic, eqn_str_non, eqn_str_int, eqn_str_lst, eqn_str_tup, eqn_str_bl, eqn_str_dic, eqn_lst_non, eqn_lst_int, eqn_lst_str, eqn_lst_tup, eqn_lst_bl, eqn_lst_dic, eqn_tup_non, eqn_tup_int, eqn_tup_str, eqn_tup_lst, eqn_tup_bl, eqn_tup_dic, eqn_bl_non, eqn_bl_str, eqn_bl_lst, eqn_bl_tup, eqn_bl_dic, eqvs, atI_lit, cdiv_lit, cmul_r, cmul_l, cpow_lit, nrm_dat, nrm_ref, plN, plAll, rd_dat, rd_ref, rds_nil, rds_cons, rds_map, rdk_nil, rdk_cons, wFrz, frz1, wFrzL, frzs, datsN, datsN_map, datsK, isNon, tyNames, kbs,
    Option.map_some, Option.map_none, Option.isSome_some, List.getD_cons_zero, List.getD_cons_succ, List.getD_nil, get_app, get_app0, set_app, set_app0, List.length_append, List.append_assoc, List.any_cons, List.any_nil, List.zip_cons_cons, List.zip_nil_left, List.zip_nil_right,
    List.map_cons, List.map_nil, List.cons_append, List.nil_append, List.append_nil, List.length_cons, List.length_nil, List.replicate, List.set_cons_zero, List.set_cons_succ, List.getElem?_cons_zero, List.getElem?_cons_succ, List.set_nil, List.getElem?_nil,
    Nat.reduceAdd, Nat.reduceSub, Nat.reduceBEq, Nat.reduceLeDiff, Nat.reduceEqDiff, Nat.sub_self, Nat.zero_add, Nat.add_zero, Nat.zero_le, Nat.le_add_right, Nat.le_refl, Int.reduceToNat, Int.reduceLE, Nat.reduceLT, Nat.reducePow, Int.reducePow, Int.reduceNeg, or_true, true_or, Int.reduceLT, Bool.false_eq_true, if_true, if_false, forall_const, false_implies, true_implies, implies_true, Int.reduceEq, cast_lit, not_true_eq_false, not_false_eq_true, Bool.not_true, Bool.not_false, Bool.not_eq_true', Bool.not_eq_false', Bool.and_true, Bool.true_and, Bool.and_false, Bool.false_and, Bool.or_false, Bool.false_or, Bool.or_true, Bool.true_or, reduceCtorEq, false_and, and_false, or_false, false_or, beq_self_eq_true,
    Option.some.injEq, Prod.mk.injEq, Rv.dat.injEq, Rv.ref.injEq, D.int.injEq, D.bl.injEq, D.str.injEq, D.tup.injEq, D.lst.injEq, D.dic.injEq, D.scr.injEq, List.cons.injEq, and_true, true_and, exists_and_left, exists_and_right, exists_eq_left, exists_eq_left', exists_eq_right, exists_eq_right', exists_eq, exists_eq', exists_const, decide_eq_true_eq, decide_eq_false_iff_not, Bool.and_eq_true, beq_iff_eq, beq_eq_false_iff_ne, ne_eq, decide_true, decide_false, hdR_len, stR_len, hdR_24, hdR_25, hdR_26, hdR_27, hdR_28, hdR_29, hdR_30, stR_16, stR_18, stR_19, stR_20, stR_21, stR_22, stR_23, hdP_25, hdP_26, hdP_27, hdP_28, hdP_29, hdP_30, stP_16, stP_19, stP_20, stP_21, stP_22, stP_23, hdD, List.length_set, set_two, denc_push, denc_swap, denc_pop, denc_top, denc_clear, eqv_optN, plN_optN, isNon_optN, optN_some, optN_none, seenD_some, seenD_none, items_pair, items_vals, phk, kdk, List.getElem?_set_self, List.getElem?_set_ne, List.getElem?_append_left, ltaddr, boxD, cDict])
abbrev fn_odd_k01 : List Str := []
def m_odd_k01 : DW.Ss := (.cons (.set 2 (.lst (.cons (.tup (.cons (.str 0) .nil)) (.cons (.tup (.cons (.str 0) (.cons (.var 1) (.cons (.var 1) .nil)))) (.cons (.tup (.cons (.str 2) (.cons (.var 1) .nil))) (.cons (.tup (.cons (.str 4) (.cons .non .nil))) (.cons (.tup (.cons (.str 1) (.cons (.bl true) .nil))) (.cons (.tup (.cons (.str 0) (.cons (.str 33) .nil))) (.cons (.tup .nil) .nil)))))))))
  (.cons (.set 2 (.bin .cat (.var 2) (.lst (.cons (.lst (.cons (.str 2) .nil)) (.cons (.str 2) (.cons .non (.cons (.int 5) (.cons (.tup (.cons (.str 8) .nil)) (.cons (.tup (.cons (.str 0) (.cons .non .nil))) (.cons (.tup (.cons (.tup (.cons (.str 2) .nil)) .nil)) .nil))))))))))
  (.cons (.ret (.ix .l (.var 2) (.bin .modI (.var 0) (.int 14))))
  .nil)))
abbrev Ss_odd_k01 : List SpD := []
def oddOf1 (c v : Int) : D :=
  ([.tup [.str 0], .tup [.str 0, .int v, .int v], .tup [.str 2, .int v], .tup [.str 4, .non], .tup [.str 1, .bl true], .tup [.str 0, .str 33], .tup [], .lst [.str 2], .str 2, .non, .int 5, .tup [.str 8], .tup [.str 0, .non], .tup [.tup [.str 2]]] : List D).getD (c % 14).toNat .non
theorem mod14 (c : Int) : c % 14 = 0 ∨ c % 14 = 1 ∨ c % 14 = 2 ∨ c % 14 = 3 ∨ c % 14 = 4 ∨ c % 14 = 5 ∨ c % 14 = 6 ∨ c % 14 = 7 ∨ c % 14 = 8 ∨ c % 14 = 9 ∨ c % 14 = 10 ∨ c % 14 = 11 ∨ c % 14 = 12 ∨ c % 14 = 13 := by omega
theorem oddOf1_pl (c v : Int) : plN 60 (oddOf1 c v) = true := by
  unfold oddOf1
  rcases mod14 c with h | h | h | h | h | h | h | h | h | h | h | h | h | h <;> rw [h] <;> rfl
theorem oddOf1_no (c v : Int) : isDeedB (oddOf1 c v) = false := by
  unfold oddOf1
  rcases mod14 c with h | h | h | h | h | h | h | h | h | h | h | h | h | h <;> rw [h] <;> rfl
def S_odd_k01 : SpD := fun rs g Q => match rs with
  | [.dat (.int c), .dat (.int v)] => Q (.dat (oddOf1 c v)) g
  | _ => False
theorem mo_odd_k01 : Mono S_odd_k01 := by
  intro rs g P P2 h
  unfold S_odd_k01
  split
  · intro q; first | exact h _ _ q | exact ⟨q.1, h _ _ q.2⟩ | exact ⟨q.1, q.2.1, h _ _ q.2.2⟩ | exact q.imp fun _ z => ⟨z.1, h _ _ z.2⟩
  · exact id
theorem len_odd_k01 : ∀ rs g Q, S_odd_k01 rs g Q → rs.length = 2 := by
  intro rs g Q q
  unfold S_odd_k01 at q
  split at q
  · rfl
  · exact q.elim
theorem hS_odd_k01 : ∀ rs g Q, S_odd_k01 rs g Q → m_odd_k01.W (wd Ss_odd_k01 glF dtF) (rs.map some ++ List.replicate (3 - rs.length) none) g (fun _ g2 => Fin g Q (.dat .non) g2) (Fin g Q) := by
  intro rs g Q q
  unfold S_odd_k01 at q
  split at q
  · rename_i c v
    unfold m_odd_k01
    walk_at "dw"
    unfold oddOf1 at q
    rcases mod14 c with h | h | h | h | h | h | h | h | h | h | h | h | h | h <;> rw [h] at q ⊢ <;> walk_at "dw"
    all_goals first | exact fin_dat _ rfl q | exact fin_frz _ _ rfl (by walk_at "dw") q
  · exact q.elim

end DW

/-! ## F_played.lean -/
set_option Elab.async false
set_option linter.all false
set_option maxRecDepth 100000
set_option maxHeartbeats 4000000
set_option autoImplicit false
namespace DW
open PySem PySem.Spec L2
open PyProof.Rows hiding St

local macro_rules | `(tactic| walk_at "dwh") => `(tactic| simp (config := { maxSteps := 1000000 }) only [and_assoc, natD, mapint_inj, mapnat_inj, denc_inj, wfor_eq, ixD, ixM, cut_one, List.tail_cons, List.tail_nil, eqvs_nil, List.isEmpty_cons, List.isEmpty_nil, plAll_int, plAll_nat, Ss.W, Sm.W, Ex.W, Ex.T, Es.W, wVar, BOp.B, COp.B, Bi.B, IxK.B, bI0, bIC, bEq, bIs, bIn, bIxL, bIxT, bIxS, bIxK, bCat, bCatT, bRep, cLen, cInt, cMin2, cList, cTup, wantB, wAndT, wOrT, wAndV, wOrV, wNotV, lenOf, lstOf_ref, lstOf_lst, seqOf, dicOf_ref, dicOf_dic, wPart, wIter, tstW, mAppend, mPop, mPopAt, mClear, wSetIx, wSetKey, Tg.put, wipeN, Cell.lst.injEq, Cell.dic.injEq, Cell.fz.injEq, List.length_map, tyR, tyD,
    eqv_ii, eqv_ss, eqv_bb, eqv_nn, eqv_ll, eqv_tt, eqn_non_int, eqn_non_str, eqn_non_lst, eqn_non_tup, eqn_non_bl, eqn_non_dic, eqn_int_non, eqn_int_str, eqn_int_lst, eqn_int_tup, eqn_int_dic, eqn_str_non, eqn_str_int, eqn_str_lst, eqn_str_tup, eqn_str_bl, eqn_str_dic, eqn_lst_non, eqn_lst_int, eqn_lst_str, eqn_lst_tup, eqn_lst_bl, eqn_lst_dic, eqn_tup_non, eqn_tup_int, eqn_tup_str, eqn_tup_lst, eqn_tup_bl, eqn_tup_dic, eqn_bl_non, eqn_bl_str, eqn_bl_lst, eqn_bl_tup, eqn_bl_dic, eqvs, atI_lit, cdiv_lit, cmul_r, cmul_l, cpow_lit, nrm_dat, nrm_ref, plN, plAll, rd_dat, rd_ref, rds_nil, rds_cons, rds_map, rdk_nil, rdk_cons, wFrz, frz1, wFrzL, frzs, datsN, datsN_map, datsK, isNon, tyNames, kbs,
    Option.map_some, Option.map_none, Option.isSome_some, List.getD_cons_zero, List.getD_cons_succ, List.getD_nil, get_app, get_app0, set_app, set_app0, List.length_append, List.append_assoc, List.any_cons, List.any_nil, List.zip_cons_cons, List.zip_nil_left, List.zip_nil_right,
    List.map_cons, List.map_nil, List.cons_append, List.nil_append, List.append_nil, List.length_cons, List.length_nil, List.replicate, List.set_cons_zero, List.set_cons_succ, List.getElem?_cons_zero, List.getElem?_cons_succ, List.set_nil, List.getElem?_nil,
    Nat.reduceAdd, Nat.reduceSub, Nat.reduceBEq, Nat.reduceLeDiff, Nat.reduceEqDiff, Nat.sub_self, Nat.zero_add, Nat.add_zero, Nat.zero_le, Nat.le_add_right, Nat.le_refl, Int.reduceToNat, Int.reduceLE, Nat.reduceLT, Nat.reducePow, Int.reducePow, Int.reduceNeg, or_true, true_or, Int.reduceLT, Bool.false_eq_true, if_true, if_false, forall_const, false_implies, true_implies, implies_true, Int.reduceEq, cast_lit, not_true_eq_false, not_false_eq_true, Bool.not_true, Bool.not_false, Bool.not_eq_true', Bool.not_eq_false', Bool.and_true, Bool.true_and, Bool.and_false, Bool.false_and, Bool.or_false, Bool.false_or, Bool.or_true, Bool.true_or, reduceCtorEq, false_and, and_false, or_false, false_or, beq_self_eq_true,
    Option.some.injEq, Prod.mk.injEq, Rv.dat.injEq, Rv.ref.injEq, D.int.injEq, D.bl.injEq, D.str.injEq, D.tup.injEq, D.lst.injEq, D.dic.injEq, D.scr.injEq, List.cons.injEq, and_true, true_and, exists_and_left, exists_and_right, exists_eq_left, exists_eq_left', exists_eq_right, exists_eq_right', exists_eq, exists_eq', exists_const, decide_eq_true_eq, decide_eq_false_iff_not, Bool.and_eq_true, beq_iff_eq, beq_eq_false_iff_ne, ne_eq, decide_true, decide_false, hdR_len, stR_len, hdR_24, hdR_25, hdR_26, hdR_27, hdR_28, hdR_29, hdR_30, stR_16, stR_18, stR_19, stR_20, stR_21, stR_22, stR_23, hdP_25, hdP_26, hdP_27, hdP_28, hdP_29, hdP_30, stP_16, stP_19, stP_20, stP_21, stP_22, stP_23, hdD, List.length_set, set_two, denc_push, denc_swap, denc_pop, denc_top, denc_clear, eqv_optN, plN_optN, isNon_optN, optN_some, optN_none, seenD_some, seenD_none, items_pair, items_vals, phk, kdk, List.getElem?_set_self, List.getElem?_set_ne, List.getElem?_append_left, ltaddr, boxD, cDict, *])
abbrev fn_played : List Str := []
def b_played_0 : DW.Ss := (.cons (.ret (.tup (.cons (.var 2) (.cons (.bi .list1 (.cons (.var 0) .nil)) .nil))))
  .nil)
def b_played_1 : DW.Ss := (.cons (.ite (.cmp .eq (.ix .t (.var 1) (.int 0)) (.str 2)) (.cons (.ret (.tup (.cons (.var 2) (.cons (.slL (.var 0) true (.int 1) false .non) .nil))))
  .nil) .nil)
  b_played_0)
def b_played_2 : DW.Ss := (.cons (.set 2 (.ix .l (.bin .cat (.var 0) (.lst (.cons .non .nil))) (.int 0)))
  (.cons (.ite (.and (.cmp .eq (.ix .t (.var 1) (.int 0)) (.str 1)) (.one (.cmp .ne (.var 0) (.lst .nil)))) (.cons (.ret (.tup (.cons (.var 2) (.cons (.bin .cat (.lst (.cons (.ix .t (.var 1) (.int 1)) .nil)) (.slL (.var 0) true (.int 1) false .non)) .nil))))
  .nil) .nil)
  b_played_1))
def b_played_3 : DW.Ss := (.cons (.ite (.cmp .eq (.ix .t (.var 1) (.int 0)) (.str 4)) (.cons (.ret (.tup (.cons (.bi .tup1 (.cons (.var 0) .nil)) (.cons (.lst .nil) .nil))))
  .nil) .nil)
  b_played_2)
def m_played : DW.Ss := (.cons (.ite (.cmp .eq (.ix .t (.var 1) (.int 0)) (.str 0)) (.cons (.ret (.tup (.cons .non (.cons (.bin .cat (.lst (.cons (.ix .t (.var 1) (.int 1)) .nil)) (.var 0)) .nil))))
  .nil) .nil)
  b_played_3)
abbrev Ss_played : List SpD := []
def S_played : SpD := fun rs g Q => ∃ (vs : List Int) (d : Deed), rs = [.dat (.lst (vs.map .int)), .dat d.enc] ∧ (vs.length ≤ 10000 ∧ Q (.dat (playD vs d)) g)
theorem mo_played : Mono S_played := by
  rintro rs g P P2 hPP ⟨vs, d, eRS, q⟩
  refine ⟨vs, d, eRS, ?_⟩
  first | exact hPP _ _ q | exact ⟨q.1, hPP _ _ q.2⟩ | exact ⟨q.1, q.2.1, hPP _ _ q.2.2⟩ | exact ⟨q.1, q.2.1, q.2.2.1, hPP _ _ q.2.2.2⟩ | exact ⟨q.1, q.2.1, q.2.2.1, q.2.2.2.1, hPP _ _ q.2.2.2.2⟩ | exact ⟨q.1, fun x hx => hPP _ _ (q.2 x hx)⟩ | exact ⟨q.1, q.2.1, fun x hx => hPP _ _ (q.2.2 x hx)⟩ | exact ⟨q.1, q.2.1, fun x hx hy => hPP _ _ (q.2.2 x hx hy)⟩ | exact ⟨q.1, fun x y h1 => hPP _ _ (q.2 x y h1)⟩ | exact ⟨q.1, fun x y h1 h2 => hPP _ _ (q.2 x y h1 h2)⟩ | exact ⟨q.1, fun x h1 h2 => hPP _ _ (q.2 x h1 h2)⟩
theorem len_played : ∀ rs g Q, S_played rs g Q → rs.length = 2 := by
  rintro rs g Q ⟨vs, d, rfl, q⟩
  rfl
theorem hS_played : ∀ rs g Q, S_played rs g Q → m_played.W (wd Ss_played glF dtF) (rs.map some ++ List.replicate (3 - rs.length) none) g (fun _ g2 => Fin g Q (.dat .non) g2) (Fin g Q) := by
  rintro rs g Q ⟨vs, d, rfl, q⟩
  unfold m_played
  obtain ⟨hl, q⟩ := q
  unfold playD at q
  cases d <;> rcases vs with _ | ⟨v, vs⟩ <;> simp only [playA, playV, List.tail_cons, List.tail_nil] at q <;> simp only [List.length_cons, List.length_nil] at hl <;> (walk_at "dwh"; repeat ((first | unfold b_played_0 | unfold b_played_1 | unfold b_played_2 | unfold b_played_3); walk_at "dwh"))
  all_goals first
    | exact fin_dat _ rfl q
    | exact ⟨by omega, fin_dat _ rfl q⟩
    | exact ⟨by omega, by omega, fin_dat _ rfl q⟩
    | exact ⟨[], rfl, fin_dat _ rfl q⟩
    | exact ⟨_, rfl, fin_dat _ rfl q⟩
    | trace_state

end DW

/-! ## DE.lean -/
set_option Elab.async false
set_option linter.all false
set_option maxRecDepth 100000
set_option maxHeartbeats 4000000
set_option autoImplicit false
/-! DE: what an except suite asks of the error it caught. -/
namespace DW
open PySem PySem.Spec L2
open PyProof.Rows hiding St

theorem inst_of {h : Heap} {a D : Addr} {oe : Obj} {vs : Array Value} (g : h.get? a = some oe) (hz : Zc (.ref D) none oe) (hv : oe.data = .fields vs) : PySem.W.InstAt h a oe D none := by
  cases oe with
  | mk oc od oda osl =>
    cases hz.1
    cases hz.2
    cases hv
    exact ⟨g, rfl, rfl, trivial⟩
/-- isinstance(e, c), e an error that the context holds -/
theorem call_isP {X : Cx} {a D : Addr} {oe : Obj} (C : ExcC X.K D) (hp : (a, oe) ∈ X.pn) (hz : Zc (.ref D) none oe) (hf : ∃ vs, oe.data = .fields vs) : CallR X (.builtin "isinstance") (rIsE X.K D a) := by
  intro pins s σ H xs us Q I r h
  obtain ⟨c, cv, b, rfl, hcv, e, q⟩ := h
  have g := (I.pin (a, oe) (List.mem_append_left _ hp)).1
  obtain ⟨vs, hv⟩ := hf
  cases r with
  | cons r1 rr =>
    cases rr with
    | cons r2 rn =>
      cases rn
      cases r1
      cases hcv _ r2
      have kx := PySem.W.handS_kitx_exc (x := a) (ox := oe) C.hg C.hk C.hs C.hd C.ha C.hn C.ht C.hm
      refine PySem.W.kia_one kx I.kIn (inst_of g hz hv) e (fun z => nomatch z) fun tk => ?_
      exact ⟨.bl b, H, I.kept (t' := tk) fun _ _ z => z, rfl, q⟩

/-- a def that is handed the error, and says that it is of one class alone -/
def AloneOk (P : Program) (w : World) (K : PySem.W.Frag) (mg : Str → Option Value) (base : Heap) (k : Nat) (f : Addr) (fd : FuncData) (y : Str) (D : Addr) : Prop :=
  ∀ (A : Around) (outer : List Env) (s : Shared) (H : Hp) (args : Args) (Q : VK) (a : Addr) (oe : Obj), L2H.RoomH k A → L2H.Hot1 A (a, oe) → L2H.PinOk outer H s (a, oe) → Zc (.ref D) none oe → (∃ vs, oe.data = .fields vs) →
    Env0 P w K mg base A outer s H → BindsTo s fd args ([y].zip [Value.ref a]) → Q (.bl true) H → codeAny (model P w) A (.call (.ref f) args) (CR CX0 outer P w H s Q E0) s
theorem alone_of {P : Program} {w : World} {K : PySem.W.Frag} {mg : Str → Option Value} {base : Heap} {k : Nat} {x qual y : Str} {st : Stmt} {f D : Addr} {fd : FuncData} {N : List Str} (Fn : Fun K x qual st f fd) (S : FnScope N [y] (defScope st))
    (hbody : ∀ (cdv : Value) (A : Around) (outer : List Env) (s : Shared) (H : Hp) (Q : VK) (a : Addr) (oe : Obj), L2H.RoomH k (A.deeper (envOfC qual (defScope st) s.heap.objs.size f cdv)) → L2H.Hot1 A (a, oe) → Zc (.ref D) none oe → (∃ vs, oe.data = .fields vs) → Q (.bl true) H →
      wSs (L2H.cxH CX0 P w K mg base N qual (defScope st) f cdv A outer s H E0 (a, oe)) (defBody st) { nx := fun _ H' => Q .non H', rt := Q } (L2.start N [.ref a]) H) :
    AloneOk P w K mg base (k + 1) f fd y D := by
  obtain ⟨oc, od, kV, doc, pm, an, cdv, ct, osl, rfl, lk, hcd⟩ := Fn.ex
  intro A outer s H args Q a oe hr hot hpin hz hf e0 hb hq
  have hbs := fun b o e => (e0.bs b o e).1
  have KX : K.In s.heap := e0.mod.kin.keeps hbs
  have hkind : ∀ z ∈ [y].zip [Value.ref a], (defScope st).names.lookup z.1 = some .local ∨ ((defScope st).names.lookup z.1 = some .cell ∧ ((cellsFrom (s.heap.objs.size + 1) (defScope st).names []).lookup z.1).isSome = true) := by
    rintro ⟨n, v⟩ hz
    rcases S.par n (List.of_mem_zip hz).1 with q | q
    · exact .inl q
    · exact .inr ⟨q, PySem.W.cellsFrom_some _ _ _ (.inl q)⟩
  refine codeAny_call_function hr.depth (KX _ _ lk) rfl S.co S.gen rfl (PySem.W.codeRec_of KX hcd) (hb _ _ _ _ ?_)
  refine wpAny_newFunctionEnv_cells S.kind hkind fun env he s1 x => ?_
  subst he
  refine ⟨(e0.mod.nolimit.keeps hbs).keeps x.toInCall.keep, codeAny_func ?_⟩
  have I := L2H.inv_startH (CX := CX0) (E := E0) (vs := [.ref a]) S hpin e0 rfl (.cons rfl .nil) x
  refine wpAny_mono (hbody cdv A outer s H Q a oe (hr.deeper _) hot hz hf hq [] s1 I) (fun fl s' hs => ?_) fun e s' hs => hs
  cases fl with
  | ret u =>
    obtain ⟨v, _, H', J, rv, q⟩ := hs
    exact ⟨v, H', J.os, J.bare, J.base, J.hok, rv, q⟩
  | next =>
    obtain ⟨_, H', J, q⟩ := hs
    exact ⟨.non, H', J.os, J.bare, J.base, J.hok, rfl, q⟩
  | brk => exact hs.elim fun _ z => z.elim fun _ z => z.2.elim
  | cont => exact hs.elim fun _ z => z.elim fun _ z => z.2.elim
/-- it is callable here -/
structure AlIn (X : Cx) (an : Str) (a D : Addr) (oe : Obj) : Prop where
  fn : ∃ (fa : Addr) (fd : FuncData) (y : Str) (k : Nat), X.mg an = some (.ref fa) ∧ PySem.W.keepIn X.K (.ref fa) = true ∧ Binds X.K fd [y] [] ∧ L2H.RoomH k X.A ∧ L2H.Hot1 X.A (a, oe) ∧ AloneOk X.prog X.w X.K X.mg X.base k fa fd y D
theorem wE_alone {X : Cx} {an : Str} {a D : Addr} {oe : Obj} {e : Expr} {p pos : Pos} {σ : L2.St} {H : Hp} {Q : VK} (al : AlIn X an a D oe) (hp : (a, oe) ∈ X.pn) (hz : Zc (.ref D) none oe) (hf : ∃ vs, oe.data = .fields vs) (hg : Gl X an) (hdb : (an == ("__debug__" : Str)) = false) (hst : starEach [e] X.env = [(false, eval e X.env)])
    (he : ∀ Q : VK, Q (.ref a) H → wE X e σ H Q) (q : Q (.bl true) H) : wE X (.Call (.Name an p) [e] [] pos) σ H Q := by
  obtain ⟨fa, fd, y, k, hm, hk, hb, hr, hot, F⟩ := al.fn
  intro pins s I
  refine wpAny_Call_Name_kw (ld_glob I hg hm ?_ hdb)
  have ha : PA X [e] (tCons (wE X e) tNil) := pa_cons pe_w pa_nil hst
  refine PySem.W.callWith_K (h₀ := X.base) I.ok.mod.kin hk (thn (ha.run pos pins s σ H (fun vs H1 => vs = [V.ref a] ∧ H1 = H) I (he _ ⟨rfl, rfl⟩)) fun us s1 ⟨vs, H1, I1, r, e1, e2⟩ => ⟨I1.kIn, ?_⟩) (by rw [hst]; rfl) rfl
  subst e1
  subst e2
  cases r with
  | cons r1 rn =>
    cases rn
    cases r1
    have P1 := I1.pin (a, oe) (List.mem_append_left _ hp)
    have hpin : L2H.PinOk X.stack H1 s1 (a, oe) := ⟨P1.1, P1.2.1, fun hm => (List.mem_cons.mp (I1.stkSub a hm)).elim P1.2.2.1 P1.2.2.2.1, P1.2.2.2.2⟩
    have b := hb s1 [.ref a] I1.kIn rfl
    refine wpAny_call (codeAny_mono (F X.A X.stack s1 H1 ⟨[.ref a], []⟩ Q a oe hr hot hpin hz hf I1.env0 b q) fun r s' hq => ?_)
    cases r with
    | error e => exact hq.elim
    | ok fl =>
      cases fl with
      | ret u => exact I1.after hq
      | next => exact hq.elim
      | brk => exact hq.elim
      | cont => exact hq.elim
end DW

/-! ## DS.lean -/
set_option Elab.async false
set_option linter.all false
set_option maxRecDepth 100000
set_option maxHeartbeats 4000000
set_option autoImplicit false
/-! DS: a small language for what an except suite computes of its error. -/
namespace DW
open PySem PySem.Spec L2
open PyProof.Rows hiding St
inductive SX where
  | isx (c : Nat) | isv | alone | var (i : Nat) | intb (a : SX) | add (a b : SX) | mulc (n : Int) (a : SX) | notx (a : SX) | eqc (a : SX) (n : Int) | and (a b : SX)
/-- what it gives for an error of the class c -/
def SX.val (c : Nat) (vs : Nat → Option Int) : SX → Option V
  | .isx c' => some (.bl (c == c'))
  | .isv => some (.bl true)
  | .alone => some (.bl true)
  | .var i => (vs i).map V.int
  | .intb a => match a.val c vs with | some (.bl b) => some (.int (if b then 1 else 0)) | _ => none
  | .add a b => match a.val c vs, b.val c vs with | some (.int i), some (.int j) => some (.int (i + j)) | _, _ => none
  | .mulc n a => match a.val c vs with | some (.int i) => if 0 ≤ n ∧ n ≤ 1000 then some (.int (n * i)) else none | _ => none
  | .notx a => match a.val c vs with | some (.bl b) => some (.bl (!b)) | _ => none
  | .eqc a n => match a.val c vs with | some (.int i) => some (.bl (i == n)) | _ => none
  | .and a b => match a.val c vs with | some (.bl true) => (match b.val c vs with | some (.bl b) => some (.bl b) | _ => none) | some (.bl false) => some (.bl false) | _ => none
structure STb where
  N : List Str
  sc : Scope
  ie : Nat
  xc : List Str
  an : Str
def isE (t : STb) : Expr → Bool
  | .Name x _ => decide (t.N[t.ie]? = some x) && visB t.sc x && okN x
  | _ => false
def SX.ok (t : STb) : SX → Expr → Bool
  | .isx c, e => match e with | .Call (.Name f _) [x, .Name y _] [] _ => decide (f = "isinstance") && glB t.sc f && isE t x && decide (t.xc[c]? = some y) && glB t.sc y && okN y | _ => false
  | .isv, e => match e with | .Call (.Name f _) [x, .Name y _] [] _ => decide (f = "isinstance") && glB t.sc f && isE t x && decide (y = "ValueError") && glB t.sc y | _ => false
  | .alone, e => match e with | .Call (.Name f _) [x] [] _ => decide (f = t.an) && glB t.sc f && okN f && isE t x | _ => false
  | .var i, e => match e with | .Name x _ => decide (t.N[i]? = some x) && visB t.sc x && okN x | _ => false
  | .intb a, e => match e with | .Call (.Name f _) [x] [] _ => decide (f = "int") && glB t.sc f && nst x && a.ok t x | _ => false
  | .add a b, e => match e with | .BinOp x .Add y _ => a.ok t x && b.ok t y | _ => false
  | .mulc n a, e => match e with | .BinOp (.Constant (.int m) _ _) .Mult y _ => n == m && a.ok t y | _ => false
  | .notx a, e => match e with | .UnaryOp .Not x _ => a.ok t x | _ => false
  | .eqc a n, e => match e with | .Compare x [.Eq] [.Constant (.int m) _ _] _ => n == m && a.ok t x | _ => false
  | .and a b, e => match e with | .BoolOp .And [x, y] _ => a.ok t x && b.ok t y | _ => false
/-- what the context must tell -/
structure SOk (t : STb) (X : Cx) (c : Nat) (a D : Addr) (oe : Obj) (al : Bool) : Prop where
  N : X.N = t.N
  sc : X.env.scope = t.sc
  pin : (a, oe) ∈ X.pn
  zc : Zc (.ref D) none oe
  fl : ∃ vs, oe.data = .fields vs
  ex : ExcC X.K D
  bi : X.mg "isinstance" = none
  bv : X.mg "ValueError" = none
  bn : X.mg "int" = none
  cls : ∀ (i : Nat) (x : Str), t.xc[i]? = some x → ∃ b : Addr, X.mg x = some (.ref b) ∧ PySem.W.kitOne X.K (.ref D) (.ref b) = some (c == i)
  ve : PySem.W.kitOne X.K (.ref D) (.type "ValueError") = some true
  hu : X.A.units + 65 < cLine
  al : al = true → AlIn X t.an a D oe
def SX.calls : SX → Bool
  | .alone => true
  | .intb a => a.calls
  | .add a b => a.calls || b.calls
  | .mulc _ a => a.calls
  | .notx a => a.calls
  | .eqc a _ => a.calls
  | .and a b => a.calls || b.calls
  | _ => false
section
variable {t : STb} {X : Cx} {c : Nat} {a D : Addr} {oe : Obj} {al : Bool}
theorem SOk.glo (h : SOk t X c a D oe al) {x : Str} (v : glB t.sc x = true) : Gl X x := by
  unfold glB at v
  show X.env.scope.names.lookup x = _
  rw [h.sc]
  split at v
  · assumption
  · cases v
theorem SOk.vis (h : SOk t X c a D oe al) {x : Str} (v : visB t.sc x = true) : Vis X.env.scope x := by
  rw [h.sc]
  unfold visB at v
  unfold Vis
  split at v <;> simp_all
theorem SOk.e (h : SOk t X c a D oe al) {e : Expr} {σ : L2.St} {H : Hp} (ok : isE t e = true) (hs : σ[t.ie]? = some (some (.ref a))) : (∀ Q : VK, Q (.ref a) H → wE X e σ H Q) ∧ nst e = true := by
  unfold isE at ok
  split at ok
  · simp only [Bool.and_eq_true, decide_eq_true_eq] at ok
    obtain ⟨⟨h1, h2⟩, h3⟩ := ok
    obtain ⟨d1, d2, _⟩ := okN_d h3
    exact ⟨fun Q q => wE_of (pe_var (by rw [h.N]; exact h1) (h.vis h2) d1 d2) ⟨_, hs, q⟩, rfl⟩
  · cases ok
theorem nst_is {t : STb} : ∀ (m : SX) {e : Expr}, m.ok t e = true → nst e = true := by
  intro m e h
  cases e <;> first | rfl | (cases m <;> simp [SX.ok] at h)
theorem dpint {K : PySem.W.Frag} {H : Hp} (i : Int) : Dp K H (.int i) (.int i) := .int i
theorem shaped_int (i : Int) : SeqAt.shaped (.int i) = true := by simp [SeqAt.shaped, PyData.canLay0, PyData.depth]
theorem SX.sound {vs : Nat → Option Int} {σ : L2.St} (h : SOk t X c a D oe al) (hs : σ[t.ie]? = some (some (.ref a))) (hv : ∀ i n, vs i = some n → σ[i]? = some (some (.int n))) : ∀ (m : SX) {e : Expr} {v : V} {H : Hp} {Q : VK}, m.ok t e = true → (m.calls = true → al = true) → m.val c vs = some v → Q v H → wE X e σ H Q
  | .isx c', e, v, H, Q, ok, ca, ev, q => by
    simp only [SX.ok] at ok
    split at ok
    · simp only [Bool.and_eq_true, decide_eq_true_eq] at ok
      obtain ⟨⟨⟨⟨⟨h1, h2⟩, h3⟩, h4⟩, h5⟩, h6⟩ := ok
      subst h1
      obtain ⟨b, hb, hk⟩ := h.cls _ _ h4
      obtain ⟨he, hn⟩ := h.e (H := H) h3 hs
      cases ev
      refine wE_of (pe_callB (call_isP h.ex h.pin h.zc h.fl) (h.glo h2) h.bi PyProof.Rows.boot_isinstance (pa_cons pe_w (pa_cons (pe_glob (h.glo h5) hb (v := .ref b) rfl (okN_d h6).1) pa_nil) (starEach_n hn)) (by decide) (by decide) (starEach_n hn) rfl) ?_
      exact he _ ⟨.ref b, .ref b, _, rfl, fun u hu => by cases hu; rfl, hk, q⟩
    · cases ok
  | .isv, e, v, H, Q, ok, ca, ev, q => by
    simp only [SX.ok] at ok
    split at ok
    · simp only [Bool.and_eq_true, decide_eq_true_eq] at ok
      obtain ⟨⟨⟨⟨h1, h2⟩, h3⟩, h4⟩, h5⟩ := ok
      subst h1
      subst h4
      obtain ⟨he, hn⟩ := h.e (H := H) h3 hs
      cases ev
      refine wE_of (pe_callB (call_isP h.ex h.pin h.zc h.fl) (h.glo h2) h.bi PyProof.Rows.boot_isinstance (pa_cons pe_w (pa_cons (pe_bltn (v := .ty "ValueError") (h.glo h5) h.bv (by decide +kernel) rfl (by decide) (by decide)) pa_nil) (starEach_n hn)) (by decide) (by decide) (starEach_n hn) rfl) ?_
      exact he _ ⟨.ty "ValueError", .type "ValueError", _, rfl, fun u hu => by cases hu; rfl, h.ve, q⟩
    · cases ok
  | .alone, e, v, H, Q, ok, ca, ev, q => by
    simp only [SX.ok] at ok
    split at ok
    · simp only [Bool.and_eq_true, decide_eq_true_eq] at ok
      obtain ⟨⟨⟨h1, h2⟩, h3⟩, h4⟩ := ok
      subst h1
      obtain ⟨he, hn⟩ := h.e (H := H) h4 hs
      cases ev
      exact wE_alone (h.al (ca rfl)) h.pin h.zc h.fl (h.glo h2) (okN_d h3).1 (starEach_n hn) he q
    · cases ok
  | .var i, e, v, H, Q, ok, ca, ev, q => by
    simp only [SX.ok] at ok
    split at ok
    · simp only [Bool.and_eq_true, decide_eq_true_eq] at ok
      obtain ⟨⟨h1, h2⟩, h3⟩ := ok
      obtain ⟨d1, d2, _⟩ := okN_d h3
      simp only [SX.val] at ev
      obtain ⟨n, e1, rfl⟩ := Option.map_eq_some_iff.mp ev
      exact wE_of (pe_var (by rw [h.N]; exact h1) (h.vis h2) d1 d2) ⟨_, hv i n e1, q⟩
    · cases ok
  | .intb m, e, v, H, Q, ok, ca, ev, q => by
    simp only [SX.ok] at ok
    split at ok
    · simp only [Bool.and_eq_true, decide_eq_true_eq] at ok
      obtain ⟨⟨⟨h1, h2⟩, h3⟩, h4⟩ := ok
      subst h1
      simp only [SX.val] at ev
      split at ev
      · rename_i b eb
        cases ev
        refine wE_of (pe_callTy call_int1 (h.glo h2) h.bn PyProof.Rows.boot_int (pa_cons pe_w pa_nil (starEach_n h3)) (by decide) (by decide) (starEach_n h3) rfl) ?_
        exact SX.sound h hs hv m h4 ca eb (.inr ⟨b, rfl, q⟩)
      · cases ev
    · cases ok
  | .add m1 m2, e, v, H, Q, ok, ca, ev, q => by
    simp only [SX.ok] at ok
    split at ok
    · simp only [Bool.and_eq_true] at ok
      simp only [SX.val] at ev
      split at ev
      · rename_i i j e1 e2
        cases ev
        refine wE_of (pe_op op_add pe_w pe_w) ?_
        exact SX.sound h hs hv m1 ok.1 (fun z => ca (by simp [SX.calls, z])) e1 (SX.sound h hs hv m2 ok.2 (fun z => ca (by simp [SX.calls, z])) e2 ⟨i, j, rfl, rfl, q⟩)
      · cases ev
    · cases ok
  | .mulc n m, e, v, H, Q, ok, ca, ev, q => by
    simp only [SX.ok] at ok
    split at ok
    · simp only [Bool.and_eq_true, beq_iff_eq] at ok
      obtain ⟨h1, h2⟩ := ok
      subst h1
      simp only [SX.val] at ev
      split at ev
      · rename_i i e1
        split at ev
        · rename_i hn
          cases ev
          refine wE_of (pe_op op_mul pe_int pe_w) ?_
          exact SX.sound h hs hv m h2 ca e1 ⟨n, i, rfl, rfl, .inl ⟨by omega, by omega⟩, q⟩
        · cases ev
      · cases ev
    · cases ok
  | .notx m, e, v, H, Q, ok, ca, ev, q => by
    simp only [SX.ok] at ok
    split at ok
    · simp only [SX.val] at ev
      split at ev
      · rename_i b e1
        cases ev
        refine wE_of (pe_not pe_w) ?_
        exact SX.sound h hs hv m ok ca e1 ⟨b, rfl, q⟩
      · cases ev
    · cases ok
  | .eqc m n, e, v, H, Q, ok, ca, ev, q => by
    simp only [SX.ok] at ok
    split at ok
    · simp only [Bool.and_eq_true, beq_iff_eq] at ok
      obtain ⟨h1, h2⟩ := ok
      subst h1
      simp only [SX.val] at ev
      split at ev
      · rename_i i e1
        cases ev
        have hu := h.hu
        refine wE_of (pe_cmpR (op_eqD (by omega)) pe_w pe_int rfl) ?_
        exact SX.sound h hs hv m h2 ca e1 ⟨.int i, .int n, dpint i, dpint n, shaped_int i, shaped_int n, q⟩
      · cases ev
    · cases ok
  | .and m1 m2, e, v, H, Q, ok, ca, ev, q => by
    simp only [SX.ok] at ok
    split at ok
    · simp only [Bool.and_eq_true] at ok
      simp only [SX.val] at ev
      refine wE_of (pe_and pe_w (pe_one pe_w)) ?_
      split at ev
      · rename_i e1
        split at ev
        · rename_i b e2
          cases ev
          refine SX.sound h hs hv m1 ok.1 (fun z => ca (by simp [SX.calls, z])) e1 ⟨true, rfl, ?_⟩
          rw [if_pos rfl]
          exact SX.sound h hs hv m2 ok.2 (fun z => ca (by simp [SX.calls, z])) e2 q
        · cases ev
      · rename_i e1
        cases ev
        refine SX.sound h hs hv m1 ok.1 (fun z => ca (by simp [SX.calls, z])) e1 ⟨false, rfl, ?_⟩
        rw [if_neg Bool.false_ne_true]
        exact q
      · cases ev
    · cases ok
end
end DW

/-! ## DT.lean -/
set_option Elab.async false
set_option linter.all false
set_option maxRecDepth 100000
set_option maxHeartbeats 4000000
set_option autoImplicit false
/-! DT: suites that return, and the def that says that an error is of one class alone. -/
namespace DW
open PySem PySem.Spec L2
open PyProof.Rows hiding St
/-- what the written part says of an error's class -/
structure ClsF (K : PySem.W.Frag) (mg : Str → Option Value) (xc : List Str) (c : Nat) (D : Addr) : Prop where
  ex : ExcC K D
  cls : ∀ (i : Nat) (x : Str), xc[i]? = some x → ∃ b : Addr, mg x = some (.ref b) ∧ PySem.W.kitOne K (.ref D) (.ref b) = some (c == i)
  ve : PySem.W.kitOne K (.ref D) (.type "ValueError") = some true
def noV : Nat → Option Int := fun _ => none
def aloneB (t : STb) (i : Nat) (m1 m2 : SX) : List Stmt → Bool
  | [.Assign [.Name x _] v _, .Return (some r) _] => decide (t.N[i]? = some x) && (match t.sc.names.lookup x with | some .local => true | _ => false) && ncp v && m1.ok t v && m2.ok t r && decide (t.ie ≠ i)
  | _ => false
theorem alone_mini {P : Program} {w : World} {K : PySem.W.Frag} {mg : Str → Option Value} {base : Heap} {k : Nat} {x qual y : Str} {st : Stmt} {f D : Addr} {fd : FuncData} {N xc : List Str} {an : Str} {i c : Nat} {m1 m2 : SX} {n : Int} (Fn : Fun K x qual st f fd) (S : FnScope N [y] (defScope st))
    (ho : aloneB ⟨N, defScope st, 0, xc, an⟩ i m1 m2 (defBody st) = true) (c1 : m1.calls = false) (c2 : m2.calls = false) (bi : mg "isinstance" = none) (bv : mg "ValueError" = none) (bn : mg "int" = none) (F : ClsF K mg xc c D)
    (v1 : m1.val c noV = some (.int n)) (v2 : m2.val c (fun j => if j = i then some n else none) = some (.bl true)) : AloneOk P w K mg base (k + 1) f fd y D := by
  refine alone_of Fn S fun cdv A outer s H Q a oe hr hot hz hf q => ?_
  unfold aloneB at ho
  split at ho
  · rename_i x1 px v p r p' hb
    simp only [Bool.and_eq_true, decide_eq_true_eq] at ho
    obtain ⟨⟨⟨⟨⟨h1, h2⟩, h3⟩, h4⟩, h5⟩, h6⟩ := ho
    have hl : (defScope st).names.lookup x1 = some .local := by
      split at h2
      · assumption
      · cases h2
    rw [hb]
    have hN : 1 ≤ N.length := by have := congrArg List.length S.pre; rw [List.length_take] at this; simp at this; omega
    have hsl : (L2.start N [V.ref a]).length = N.length := by unfold L2.start; simp; omega
    have so : SOk ⟨N, defScope st, 0, xc, an⟩ (L2H.cxH CX0 P w K mg base N qual (defScope st) f cdv A outer s H E0 (a, oe)) c a D oe false := ⟨rfl, rfl, by show (a, oe) ∈ [(a, oe)]; simp, hz, hf, F.ex, bi, bv, bn, F.cls, F.ve, by have := hr.un; show (A.deeper _).units + 65 < cLine; omega, fun z => by cases z⟩
    have hs0 : (L2.start N [V.ref a])[0]? = some (some (.ref a)) := by unfold L2.start; simp
    refine wSs_of (pss_cons (ps_set S.nd h1 (.inl hl) pe_w (swaps_n h3) (.inr hl)) (pss_one (ps_ret pe_w))) ?_
    refine SX.sound so hs0 (fun j m e => by cases e) m1 h4 (fun z => by rw [c1] at z; cases z) v1 ?_
    have hi : i < (L2.start N [V.ref a]).length := by rw [hsl]; exact (List.getElem?_eq_some_iff.mp h1).1
    refine SX.sound so (by rw [List.getElem?_set_ne (Ne.symm h6)]; exact hs0) (fun j m e => ?_) m2 h5 (fun z => by rw [c2] at z; cases z) v2 q
    have e : (if j = i then some n else none) = some m := e
    by_cases hj : j = i
    · rw [if_pos hj] at e
      cases e
      rw [hj]
      exact List.getElem?_set_self hi
    · rw [if_neg hj] at e
      cases e
  · cases ho
/-- a suite that returns what m says -/
def suiB (t : STb) (m : SX) : List Stmt → Bool
  | [.Return (some r) _] => m.ok t r
  | _ => false
def dOf : V → Option D
  | .bl b => some (.bl b)
  | .int i => some (.int i)
  | _ => none
def ansOf (m : SX) (cs : List Nat) (c : Nat) : Option D := if c ∈ cs then (m.val c noV).bind dOf else none
theorem suite_ret {X : Cx} {cv : Nat → Value} {cN : Value} {N xc : List Str} {sc : Scope} {an : Str} {i k : Nat} {m : SX} {cs : List Nat} {sui : List Stmt} {fa : Addr} {fd : FuncData} {y : Str} (hN : X.N = N) (hsc : X.env.scope = sc) (hr : Room k X.A)
    (ho : suiB ⟨N, sc, i, xc, an⟩ m sui = true) (bi : X.mg "isinstance" = none) (bv : X.mg "ValueError" = none) (bn : X.mg "int" = none)
    (hcs : ∀ c ∈ cs, ∃ D : Addr, cv c = .ref D ∧ ClsF X.K X.mg xc c D ∧ PySem.W.exmOne X.K (.ref D) cN = some true ∧ AloneOk X.prog X.w X.K X.mg X.base k fa fd y D)
    (hfa : X.mg an = some (.ref fa)) (hkp : PySem.W.keepIn X.K (.ref fa) = true) (hb : Binds X.K fd [y] []) : SuiteOk X cv cN i sui (ansOf m cs) := by
  unfold suiB at ho
  split at ho
  · rename_i r p
    refine ⟨fun a cls d D σ H => ∃ c ∈ cs, ∃ v, cls = cv c ∧ d = none ∧ σ[i]? = some (some (.ref a)) ∧ m.val c noV = some v ∧ D.rt v H, fun a oe cls d pn hz hf => ⟨fun pins s σ H D I h => ?_⟩, fun c d e => ?_⟩
    · obtain ⟨c, hc, v, rfl, rfl, hs, ev, q⟩ := h
      obtain ⟨Dc, e1, F, _, al⟩ := hcs c hc
      rw [e1] at hz
      have hot : L2H.Hot1 (X.suite a ((a, oe) :: pn)).A (a, oe) := ⟨rfl, let ⟨vs, hv⟩ := hf; ⟨vs, hv, hz.2.2 vs hv⟩⟩
      have so : SOk ⟨N, sc, i, xc, an⟩ (X.suite a ((a, oe) :: pn)) c a Dc oe true := ⟨hN, hsc, List.mem_cons_self, hz.zc, hf, F.ex, bi, bv, bn, F.cls, F.ve, (show X.A.units + 65 < cLine from hu65 hr), fun _ => ⟨fa, fd, y, k, hfa, hkp, hb, ⟨hr.dp, hr.un⟩, hot, al⟩⟩
      have P1 : PSs (X.suite a ((a, oe) :: pn)) [.Return (some r) p] _ := pss_one (ps_ret (pe_w (e := r)))
      exact P1.run pins s σ H D I (SX.sound (Q := D.rt) so hs (fun j m e => by cases e) m ho (fun _ => rfl) ev q)
    · unfold ansOf at e
      split at e
      · rename_i hc
        obtain ⟨v, e1, e2⟩ := Option.bind_eq_some_iff.mp e
        obtain ⟨Dc, e3, F, ex, al⟩ := hcs c hc
        refine ⟨by rw [e3]; exact ex, fun a σ H D ha hs k => ⟨c, hc, v, rfl, rfl, hs, e1, k v H (.refl H) ?_⟩⟩
        unfold dOf at e2
        split at e2 <;> cases e2 <;> rfl
      · cases e
  · cases ho
theorem ix_uniq {α : Type} : ∀ {l : List α} {i j : Nat} {x : α}, l.Nodup → l[i]? = some x → l[j]? = some x → i = j
  | [], _, _, _, _, h, _ => by simp at h
  | a :: l, 0, 0, _, _, _, _ => rfl
  | a :: l, 0, j + 1, x, hn, h, h' => by
    simp at h h'
    subst h
    exact absurd (List.mem_of_getElem? h') (List.nodup_cons.mp hn).1
  | a :: l, i + 1, 0, x, hn, h, h' => by
    simp at h h'
    subst h'
    exact absurd (List.mem_of_getElem? h) (List.nodup_cons.mp hn).1
  | a :: l, i + 1, j + 1, x, hn, h, h' => by
    simp at h h'
    rw [ix_uniq (List.nodup_cons.mp hn).2 h h']
/-- the suites of a def's one try -/
def suF (t : STb) (y0 : Str) (m : SX) : Nat → Str → List Stmt → Bool := fun _ y l => decide (y = y0) && suiB t m l
theorem su_of {P : Program} {w : World} {K : PySem.W.Frag} {mg : Str → Option Value} {base : Heap} {N xc : List Str} {sc : Scope} {an y0 : Str} {i0 k : Nat} {m : SX} {cs : List Nat} {cv : Nat → Value} {cN : Value} {fa : Addr} {fd : FuncData} {z : Str}
    (nd : N.Nodup) (hi : N[i0]? = some y0) (hcN : mg "TowerError" = some cN) (bi : mg "isinstance" = none) (bv : mg "ValueError" = none) (bn : mg "int" = none)
    (hcs : ∀ c ∈ cs, ∃ D : Addr, cv c = .ref D ∧ ClsF K mg xc c D ∧ PySem.W.exmOne K (.ref D) cN = some true ∧ AloneOk P w K mg base k fa fd z D)
    (hfa : mg an = some (.ref fa)) (hkp : PySem.W.keepIn K (.ref fa) = true) (hb : Binds K fd [z] []) :
    ∀ (s i : Nat) (y : Str) (b0 : Stmt) (sui : List Stmt), suF ⟨N, sc, i0, xc, an⟩ y0 m s y (b0 :: sui) = true → N[i]? = some y → ∃ cN, mg "TowerError" = some cN ∧ ∀ X : Cx, X.prog = P → X.w = w → X.K = K → X.mg = mg → X.base = base → X.N = N → X.env.scope = sc → Room k X.A → X.stack = X.env :: X.outer → X.env.frame = some X.env.locals → SuiteOk X cv cN i (b0 :: sui) (ansOf m cs) := by
  intro s i y b0 sui hsu hiy
  unfold suF at hsu
  simp only [Bool.and_eq_true, decide_eq_true_eq] at hsu
  obtain ⟨rfl, hsu⟩ := hsu
  have e := ix_uniq nd hiy hi
  subst e
  refine ⟨cN, hcN, fun X e1 e2 e3 e4 e5 e6 e7 hr _ _ => ?_⟩
  subst e1 e2 e3 e4 e5
  exact suite_ret e6 e7 hr hsu bi bv bn hcs hfa hkp hb
end DW

/-! ## DU.lean -/
set_option Elab.async false
set_option linter.all false
set_option maxRecDepth 100000
set_option maxHeartbeats 4000000
set_option autoImplicit false
/-! DU: a def with a try, from what the written part says of the classes. -/
namespace DW
open PySem PySem.Spec L2
open PyProof.Rows hiding St
def cvOf (l : List Addr) (i : Nat) : Value := match l[i]? with | some a => .ref a | none => .none
theorem exm_of {K : PySem.W.Frag} {a b : Addr} {v : Bool} (h1 : PySem.W.subIn K (.ref b) (.type "BaseException") = some true) (hne : a ≠ b) (h2 : PySem.W.kitOne K (.ref a) (.ref b) = some v) : PySem.W.exmOne K (.ref a) (.ref b) = some v := by
  unfold PySem.W.exmOne
  rw [h1]
  unfold PySem.W.kitOne at h2
  have e : ((Value.ref a : Value) == .ref b) = false := by rw [beq_eq_false_iff_ne]; intro z; cases z; exact hne rfl
  rw [e] at h2
  simpa using h2
theorem AloneOk.up {P : Program} {w : World} {K : PySem.W.Frag} {mg : Str → Option Value} {base : Heap} {j k : Nat} {f : Addr} {fd : FuncData} {y : Str} {D : Addr} (h : AloneOk P w K mg base j f fd y D) (l : j ≤ k) : AloneOk P w K mg base k f fd y D :=
  fun A outer s H args Q a oe hr => h A outer s H args Q a oe (hr.mono l)
/-- the errors that are caught -/
structure XCs (P : Program) (w : World) (K : PySem.W.Frag) (mg : Str → Option Value) (base : Heap) (cv : Nat → Value) (xc : List Str) (an : Str) (k : Nat) (cs : List Nat) : Prop where
  bi : mg "isinstance" = none
  bv : mg "ValueError" = none
  bn : mg "int" = none
  al : ∃ (cN : Value) (fa : Addr) (fd : FuncData) (z : Str), mg "TowerError" = some cN ∧ mg an = some (.ref fa) ∧ PySem.W.keepIn K (.ref fa) = true ∧ Binds K fd [z] [] ∧
    ∀ c ∈ cs, ∃ D : Addr, cv c = .ref D ∧ ClsF K mg xc c D ∧ PySem.W.exmOne K (.ref D) cN = some true ∧ AloneOk P w K mg base k fa fd z D
theorem XCs.up {P : Program} {w : World} {K : PySem.W.Frag} {mg : Str → Option Value} {base : Heap} {cv : Nat → Value} {xc : List Str} {an : Str} {j k : Nat} {cs ds : List Nat} (h : XCs P w K mg base cv xc an j cs) (l : j ≤ k) (hs : ∀ c ∈ ds, c ∈ cs) : XCs P w K mg base cv xc an k ds :=
  ⟨h.bi, h.bv, h.bn, let ⟨cN, fa, fd, z, a, b, c, d, e⟩ := h.al; ⟨cN, fa, fd, z, a, b, c, d, fun i hi => let ⟨D, e1, e2, e3, e4⟩ := e i (hs i hi); ⟨D, e1, e2, e3, e4.up l⟩⟩⟩
section
variable {P : Program} {w : World} {K : PySem.W.Frag} {mg : Str → Option Value} {base : Heap} {x : Str} {st : Stmt} {f : Addr} {fd : FuncData} {N ps ks fn : List Str} {gl glF : List (Str × Int)} {dt dtF : List (Str × List (Nat × Nat))} {Ss : List SpD} {k : Nat} {S : SpD}
theorem cal_ofT2 {cv : Nat → Value} {fx xcA : List Str} {Xs : List SpX} {an y0 : Str} {i0 : Nat} {ax : SX} {cs : List Nat} (n : Nat) (m : DW.Ss) (pg : gl <+: glF) (pd : dt <+: dtF)
    (B : Bas ks gl dt w K mg) (C : Cals ks P w K mg base k fn Ss) (CX : CalsX ks cv P w K mg base k fx Xs) (E : XCs P w K mg base cv xcA an k cs) (hi : N[i0]? = some y0)
    (Fn : Fun K x x st f fd) (hm : mg x = some (.ref f)) (hb : Binds K fd ps []) (Sc : FnScope N ps (defScope st)) (hn : N.length = n)
    (ho : m.ok ⟨N, defScope st, ks, fn, gl, dt.map (·.1), true, [], fx, [], suF ⟨N, defScope st, i0, xcA, an⟩ y0 ax⟩ (defBody st) = true) (mo : Mono S) (hlen : ∀ rs g Q, S rs g Q → rs.length = ps.length)
    (hS : ∀ rs g Q, S rs g Q → m.W (wdX Ss glF dtF Xs (fun _ => ansOf ax cs) fun _ _ => False) (rs.map some ++ List.replicate (n - rs.length) none) g (fun _ g' => Fin g Q (.dat .non) g') (Fin g Q)) :
    Cal ks P w K mg base x S (k + 1) := by
  obtain ⟨cN, fa, fd', z, a1, a2, a3, a4, a5⟩ := E.al
  exact cal_ofT (xc := xcA) n m pg pd B C CX (su_of Sc.nd hi a1 E.bi E.bv E.bn a5 a2 a3 a4) Fn hm hb Sc hn ho mo hlen hS
end
/-- raising finishes like any end -/
theorem finX_dat {g g' : Rg} {E : XQ} {c : Nat} (j : Rg) (h : g' = g ++ j) (k : E c g) : FinX g E c g' := fin_dat (Q := fun _ g' => E c g') (d := .non) j h k
end DW

/-! ## F_x_p_played.lean -/
set_option Elab.async false
set_option linter.all false
set_option maxRecDepth 100000
set_option maxHeartbeats 4000000
set_option autoImplicit false
namespace DW
open PySem PySem.Spec L2
open PyProof.Rows hiding St

local macro_rules | `(tactic| walk_at "dwh") => `(tactic| simp (config := { maxSteps := 1000000 }) only [and_assoc, natD, mapint_inj, mapnat_inj, denc_inj, wfor_eq, ixD, ixM, cut_one, List.tail_cons, List.tail_nil, eqvs_nil, List.isEmpty_cons, List.isEmpty_nil, plAll_int, plAll_nat, Ss.W, Sm.W, Ex.W, Ex.T, Es.W, wVar, BOp.B, COp.B, Bi.B, IxK.B, bI0, bIC, bEq, bIs, bIn, bIxL, bIxT, bIxS, bIxK, bCat, bCatT, bRep, cLen, cInt, cMin2, cList, cTup, wantB, wAndT, wOrT, wAndV, wOrV, wNotV, lenOf, lstOf_ref, lstOf_lst, seqOf, dicOf_ref, dicOf_dic, wPart, wIter, tstW, mAppend, mPop, mPopAt, mClear, wSetIx, wSetKey, Tg.put, wipeN, Cell.lst.injEq, Cell.dic.injEq, Cell.fz.injEq, List.length_map, tyR, tyD,
    eqv_ii, eqv_ss, eqv_bb, eqv_nn, eqv_ll, eqv_tt, eqn_non_int, eqn_non_str, eqn_non_lst, eqn_non_tup, eqn_non_bl, eqn_non_dic, eqn_int_non, eqn_int_str, eqn_int_lst, eqn_int_tup, eqn_int_dic, eqn_str_non, eqn_str_int, eqn_str_lst, eqn_str_tup, eqn_str_bl, eqn_str_dic, eqn_lst_non, eqn_lst_int, eqn_lst_str, eqn_lst_tup, eqn_lst_bl, eqn_lst_dic, eqn_tup_non, eqn_tup_int, eqn_tup_str, eqn_tup_lst, eqn_tup_bl, eqn_tup_dic, eqn_bl_non, eqn_bl_str, eqn_bl_lst, eqn_bl_tup, eqn_bl_dic, eqvs, atI_lit, cdiv_lit, cmul_r, cmul_l, cpow_lit, nrm_dat, nrm_ref, plN, plAll, rd_dat, rd_ref, rds_nil, rds_cons, rds_map, rdk_nil, rdk_cons, wFrz, frz1, wFrzL, frzs, datsN, datsN_map, datsK, isNon, tyNames, kbs,
    Option.map_some, Option.map_none, Option.isSome_some, List.getD_cons_zero, List.getD_cons_succ, List.getD_nil, get_app, get_app0, set_app, set_app0, List.length_append, List.append_assoc, List.any_cons, List.any_nil, List.zip_cons_cons, List.zip_nil_left, List.zip_nil_right,
    List.map_cons, List.map_nil, List.cons_append, List.nil_append, List.append_nil, List.length_cons, List.length_nil, List.replicate, List.set_cons_zero, List.set_cons_succ, List.getElem?_cons_zero, List.getElem?_cons_succ, List.set_nil, List.getElem?_nil,
    Nat.reduceAdd, Nat.reduceSub, Nat.reduceBEq, Nat.reduceLeDiff, Nat.reduceEqDiff, Nat.sub_self, Nat.zero_add, Nat.add_zero, Nat.zero_le, Nat.le_add_right, Nat.le_refl, Int.reduceToNat, Int.reduceLE, Nat.reduceLT, Nat.reducePow, Int.reducePow, Int.reduceNeg, or_true, true_or, Int.reduceLT, Bool.false_eq_true, if_true, if_false, forall_const, false_implies, true_implies, implies_true, Int.reduceEq, cast_lit, not_true_eq_false, not_false_eq_true, Bool.not_true, Bool.not_false, Bool.not_eq_true', Bool.not_eq_false', Bool.and_true, Bool.true_and, Bool.and_false, Bool.false_and, Bool.or_false, Bool.false_or, Bool.or_true, Bool.true_or, reduceCtorEq, false_and, and_false, or_false, false_or, beq_self_eq_true,
    Option.some.injEq, Prod.mk.injEq, Rv.dat.injEq, Rv.ref.injEq, D.int.injEq, D.bl.injEq, D.str.injEq, D.tup.injEq, D.lst.injEq, D.dic.injEq, D.scr.injEq, List.cons.injEq, and_true, true_and, exists_and_left, exists_and_right, exists_eq_left, exists_eq_left', exists_eq_right, exists_eq_right', exists_eq, exists_eq', exists_const, decide_eq_true_eq, decide_eq_false_iff_not, Bool.and_eq_true, beq_iff_eq, beq_eq_false_iff_ne, ne_eq, decide_true, decide_false, hdR_len, stR_len, hdR_24, hdR_25, hdR_26, hdR_27, hdR_28, hdR_29, hdR_30, stR_16, stR_18, stR_19, stR_20, stR_21, stR_22, stR_23, hdP_25, hdP_26, hdP_27, hdP_28, hdP_29, hdP_30, stP_16, stP_19, stP_20, stP_21, stP_22, stP_23, hdD, List.length_set, set_two, denc_push, denc_swap, denc_pop, denc_top, denc_clear, eqv_optN, plN_optN, isNon_optN, optN_some, optN_none, seenD_some, seenD_none, items_pair, items_vals, phk, kdk, List.getElem?_set_self, List.getElem?_set_ne, List.getElem?_append_left, ltaddr, boxD, cDict, S_p_is_deed, *])
abbrev fn_x_p_played : List Str := ["is_deed"]
def b_x_p_played_0 : DW.Ss := (.cons (.ret (.tup (.cons (.ix .l (.var 0) (.int 0)) (.cons (.bi .list1 (.cons (.var 0) .nil)) .nil))))
  .nil)
def b_x_p_played_1 : DW.Ss := (.cons (.ite (.cmp .eq (.ix .t (.var 1) (.int 0)) (.str 1)) (.cons (.ret (.tup (.cons (.ix .l (.var 0) (.int 0)) (.cons (.bin .cat (.lst (.cons (.ix .t (.var 1) (.int 1)) .nil)) (.slL (.var 0) true (.int 1) false .non)) .nil))))
  .nil) .nil)
  b_x_p_played_0)
def b_x_p_played_2 : DW.Ss := (.cons (.ite (.cmp .eq (.ix .t (.var 1) (.int 0)) (.str 2)) (.cons (.ret (.tup (.cons (.ix .l (.var 0) (.int 0)) (.cons (.slL (.var 0) true (.int 1) false .non) .nil))))
  .nil) .nil)
  b_x_p_played_1)
def b_x_p_played_3 : DW.Ss := (.cons (.ite (.cmp .eq (.var 0) (.lst .nil)) (.cons (.ret (.tup (.cons .non (.cons (.lst .nil) .nil))))
  .nil) .nil)
  b_x_p_played_2)
def b_x_p_played_4 : DW.Ss := (.cons (.ite (.cmp .eq (.ix .t (.var 1) (.int 0)) (.str 4)) (.cons (.ret (.tup (.cons (.bi .tup1 (.cons (.var 0) .nil)) (.cons (.lst .nil) .nil))))
  .nil) .nil)
  b_x_p_played_3)
def b_x_p_played_5 : DW.Ss := (.cons (.ite (.cmp .eq (.ix .t (.var 1) (.int 0)) (.str 0)) (.cons (.ret (.tup (.cons .non (.cons (.bin .cat (.lst (.cons (.ix .t (.var 1) (.int 1)) .nil)) (.var 0)) .nil))))
  .nil) .nil)
  b_x_p_played_4)
def m_x_p_played : DW.Ss := (.cons (.ite (.not (.call 0 (.cons (.frz (.var 1)) .nil))) (.cons (.rais 2)
  .nil) .nil)
  b_x_p_played_5)
abbrev Ss_x_p_played : List SpD := [S_p_is_deed]
abbrev Xs_x_p_played : List SpX := []
abbrev fx_x_p_played : List Str := []
def S_x_p_played : SpX := fun rs g Q E => ∃ (r : Rv) (d : D), rs = [r, .dat d] ∧ (plN 60 d = true ∧ isDeedB d = false ∧ E 2 g)
theorem mo_x_p_played : MonoX S_x_p_played := by
  rintro rs g P P2 E E2 hPP hEE ⟨r, d, eRS, q⟩
  refine ⟨r, d, eRS, ?_⟩
  exact ⟨q.1, q.2.1, hEE _ _ q.2.2⟩
theorem len_x_p_played : ∀ rs g Q E, S_x_p_played rs g Q E → rs.length = 2 := by
  rintro rs g Q E ⟨r, d, rfl, q⟩
  rfl
theorem hS_x_p_played : ∀ rs g Q E, S_x_p_played rs g Q E → m_x_p_played.W (wdX Ss_x_p_played glF dtF Xs_x_p_played (fun _ _ => none) (FinX g E)) (rs.map some ++ List.replicate (2 - rs.length) none) g (fun _ g2 => Fin g Q (.dat .non) g2) (Fin g Q) := by
  rintro rs g Q E ⟨r, d, rfl, q⟩
  unfold m_x_p_played
  obtain ⟨h1, h2, q⟩ := q
  walk_at "dwh"
  exact finX_dat [] (by simp) q

end DW

/-! ## F_refused_k01.lean -/
set_option Elab.async false
set_option linter.all false
set_option maxRecDepth 100000
set_option maxHeartbeats 4000000
set_option autoImplicit false
namespace DW
open PySem PySem.Spec L2
open PyProof.Rows hiding St

local macro_rules | `(tactic| walk_at "dwh") => `(tactic| simp (config := { maxSteps := 1000000 }) only [and_assoc, natD, mapint_inj, mapnat_inj, denc_inj, wfor_eq, ixD, ixM, cut_one, List.tail_cons, List.tail_nil, eqvs_nil, List.isEmpty_cons, List.isEmpty_nil, plAll_int, plAll_nat, Ss.W, Sm.W, Ex.W, Ex.T, Es.W, wVar, BOp.B, COp.B, Bi.B, IxK.B, bI0, bIC, bEq, bIs, bIn, bIxL, bIxT, bIxS, bIxK, bCat, bCatT, bRep, cLen, cInt, cMin2, cList, cTup, wantB, wAndT, wOrT, wAndV, wOrV, wNotV, lenOf, lstOf_ref, lstOf_lst, seqOf, dicOf_ref, dicOf_dic, wPart, wIter, tstW, mAppend, mPop, mPopAt, mClear, wSetIx, wSetKey, Tg.put, wipeN, Cell.lst.injEq, Cell.dic.injEq, Cell.fz.injEq, List.length_map, tyR, tyD,
    eqv_ii, eqv_ss, eqv_bb, eqv_nn, eqv_ll, eqv_tt, eqn_non_int, eqn_non_str, eqn_non_lst, eqn_non_tup, eqn_non_bl, eqn_non_dic, eqn_int_non, eqn_int_str, eqn_int_lst, eqn_int_tup, eqn_int_dic, eqn_str_non, eqn_str_int, eqn_str_lst, eqn_str_tup, eqn_str_bl, eqn_str_dic, eqn_lst_non, eqn_lst_int, eqn_lst_str, eqn_lst_tup, eqn_lst_bl, eqn_lst_dic, eqn_tup_non, eqn_tup_int, eqn_tup_str, eqn_tup_lst, eqn_tup_bl, eqn_tup_dic, eqn_bl_non, eqn_bl_str, eqn_bl_lst, eqn_bl_tup, eqn_bl_dic, eqvs, atI_lit, cdiv_lit, cmul_r, cmul_l, cpow_lit, nrm_dat, nrm_ref, plN, plAll, rd_dat, rd_ref, rds_nil, rds_cons, rds_map, rdk_nil, rdk_cons, wFrz, frz1, wFrzL, frzs, datsN, datsN_map, datsK, isNon, tyNames, kbs,
    Option.map_some, Option.map_none, Option.isSome_some, List.getD_cons_zero, List.getD_cons_succ, List.getD_nil, get_app, get_app0, set_app, set_app0, List.length_append, List.append_assoc, List.any_cons, List.any_nil, List.zip_cons_cons, List.zip_nil_left, List.zip_nil_right,
    List.map_cons, List.map_nil, List.cons_append, List.nil_append, List.append_nil, List.length_cons, List.length_nil, List.replicate, List.set_cons_zero, List.set_cons_succ, List.getElem?_cons_zero, List.getElem?_cons_succ, List.set_nil, List.getElem?_nil,
    Nat.reduceAdd, Nat.reduceSub, Nat.reduceBEq, Nat.reduceLeDiff, Nat.reduceEqDiff, Nat.sub_self, Nat.zero_add, Nat.add_zero, Nat.zero_le, Nat.le_add_right, Nat.le_refl, Int.reduceToNat, Int.reduceLE, Nat.reduceLT, Nat.reducePow, Int.reducePow, Int.reduceNeg, or_true, true_or, Int.reduceLT, Bool.false_eq_true, if_true, if_false, forall_const, false_implies, true_implies, implies_true, Int.reduceEq, cast_lit, not_true_eq_false, not_false_eq_true, Bool.not_true, Bool.not_false, Bool.not_eq_true', Bool.not_eq_false', Bool.and_true, Bool.true_and, Bool.and_false, Bool.false_and, Bool.or_false, Bool.false_or, Bool.or_true, Bool.true_or, reduceCtorEq, false_and, and_false, or_false, false_or, beq_self_eq_true,
    Option.some.injEq, Prod.mk.injEq, Rv.dat.injEq, Rv.ref.injEq, D.int.injEq, D.bl.injEq, D.str.injEq, D.tup.injEq, D.lst.injEq, D.dic.injEq, D.scr.injEq, List.cons.injEq, and_true, true_and, exists_and_left, exists_and_right, exists_eq_left, exists_eq_left', exists_eq_right, exists_eq_right', exists_eq, exists_eq', exists_const, decide_eq_true_eq, decide_eq_false_iff_not, Bool.and_eq_true, beq_iff_eq, beq_eq_false_iff_ne, ne_eq, decide_true, decide_false, hdR_len, stR_len, hdR_24, hdR_25, hdR_26, hdR_27, hdR_28, hdR_29, hdR_30, stR_16, stR_18, stR_19, stR_20, stR_21, stR_22, stR_23, hdP_25, hdP_26, hdP_27, hdP_28, hdP_29, hdP_30, stP_16, stP_19, stP_20, stP_21, stP_22, stP_23, hdD, List.length_set, set_two, denc_push, denc_swap, denc_pop, denc_top, denc_clear, eqv_optN, plN_optN, isNon_optN, optN_some, optN_none, seenD_some, seenD_none, items_pair, items_vals, phk, kdk, List.getElem?_set_self, List.getElem?_set_ne, List.getElem?_append_left, ltaddr, boxD, cDict, S_x_p_played, *])
abbrev fn_refused_k01 : List Str := []
def m_refused_k01 : DW.Ss := (.cons (.try_ 2 (.cons (.hexpr 0 (.cons (.var 0) (.cons (.frz (.var 1)) .nil)))
  .nil) 0)
  (.cons (.ret (.bl false))
  .nil))
abbrev Ss_refused_k01 : List SpD := []
abbrev Xs_refused_k01 : List SpX := [S_x_p_played]
abbrev fx_refused_k01 : List Str := ["played"]
def ax_refused_k01 : SX := (.and (.isx 2) .alone)
abbrev cs_refused_k01 : List Nat := [2]
def S_refused_k01 : SpD := fun rs g Q => ∃ (r : Rv) (d : D), rs = [r, .dat d] ∧ (plN 60 d = true ∧ isDeedB d = false ∧ Q (.dat (.bl true)) g)
theorem mo_refused_k01 : Mono S_refused_k01 := by
  rintro rs g P P2 hPP ⟨r, d, eRS, q⟩
  refine ⟨r, d, eRS, ?_⟩
  first | exact hPP _ _ q | exact ⟨q.1, hPP _ _ q.2⟩ | exact ⟨q.1, q.2.1, hPP _ _ q.2.2⟩ | exact ⟨q.1, q.2.1, q.2.2.1, hPP _ _ q.2.2.2⟩ | exact ⟨q.1, q.2.1, q.2.2.1, q.2.2.2.1, hPP _ _ q.2.2.2.2⟩ | exact ⟨q.1, fun x hx => hPP _ _ (q.2 x hx)⟩ | exact ⟨q.1, q.2.1, fun x hx => hPP _ _ (q.2.2 x hx)⟩ | exact ⟨q.1, q.2.1, fun x hx hy => hPP _ _ (q.2.2 x hx hy)⟩ | exact ⟨q.1, fun x y h1 => hPP _ _ (q.2 x y h1)⟩ | exact ⟨q.1, fun x y h1 h2 => hPP _ _ (q.2 x y h1 h2)⟩ | exact ⟨q.1, fun x h1 h2 => hPP _ _ (q.2 x h1 h2)⟩
theorem len_refused_k01 : ∀ rs g Q, S_refused_k01 rs g Q → rs.length = 2 := by
  rintro rs g Q ⟨r, d, rfl, q⟩
  rfl
theorem hS_refused_k01 : ∀ rs g Q, S_refused_k01 rs g Q → m_refused_k01.W (wdX Ss_refused_k01 glF dtF Xs_refused_k01 (fun _ => ansOf ax_refused_k01 cs_refused_k01) fun _ _ => False) (rs.map some ++ List.replicate (3 - rs.length) none) g (fun _ g2 => Fin g Q (.dat .non) g2) (Fin g Q) := by
  rintro rs g Q ⟨r, d, rfl, q⟩
  unfold m_refused_k01
  obtain ⟨h1, h2, q⟩ := q
  walk_at "dwh"
  exact ⟨_, rfl, fin_dat [] (by simp) q⟩

end DW

/-! ## F_law_k01.lean -/
set_option Elab.async false
set_option linter.all false
set_option maxRecDepth 100000
set_option maxHeartbeats 4000000
set_option autoImplicit false
namespace DW
open PySem PySem.Spec L2
open PyProof.Rows hiding St

local macro_rules | `(tactic| walk_at "dw") => `(tactic| simp (config := { maxSteps := 1000000 }) only [and_assoc, natD, mapint_inj, mapnat_inj, denc_inj, wfor_eq, ixD, ixM, cut_one, List.tail_cons, List.tail_nil, eqvs_nil, List.isEmpty_cons, List.isEmpty_nil, plAll_int, plAll_nat, Ss.W, Sm.W, Ex.W, Ex.T, Es.W, wVar, BOp.B, COp.B, Bi.B, IxK.B, bI0, bIC, bEq, bIs, bIn, bIxL, bIxT, bIxS, bIxK, bCat, bCatT, bRep, cLen, cInt, cMin2, cList, cTup, wantB, wAndT, wOrT, wAndV, wOrV, wNotV, lenOf, lstOf_ref, lstOf_lst, seqOf, dicOf_ref, dicOf_dic, wPart, wIter, tstW, mAppend, mPop, mPopAt, mClear, wSetIx, wSetKey, Tg.put, wipeN, Cell.lst.injEq, Cell.dic.injEq, Cell.fz.injEq, List.length_map, tyR, tyD,
    eqv_ii, eqv_ss, eqv_bb, eqv_nn, eqv_ll, eqv_tt, eqn_non_int, eqn_non_str, eqn_non_lst, eqn_non_tup, eqn_non_bl, eqn_non_dic, eqn_int_non, eqn_int_str, eqn_int_lst, eqn_int_tup, eqn_int_dic, eqn_str_non, eqn_str_int, eqn_str_lst, eqn_str_tup, eqn_str_bl, eqn_str_dic, eqn_lst_non, eqn_lst_int, eqn_lst_str, eqn_lst_tup, eqn_lst_bl, eqn_lst_dic, eqn_tup_non, eqn_tup_int, eqn_tup_str, eqn_tup_lst, eqn_tup_bl, eqn_tup_dic, eqn_bl_non, eqn_bl_str, eqn_bl_lst, eqn_bl_tup, eqn_bl_dic, eqvs, atI_lit, cdiv_lit, cmul_r, cmul_l, cpow_lit, nrm_dat, nrm_ref, plN, plAll, rd_dat, rd_ref, rds_nil, rds_cons, rds_map, rdk_nil, rdk_cons, wFrz, frz1, wFrzL, frzs, datsN, datsN_map, datsK, isNon, tyNames, kbs,
    Option.map_some, Option.map_none, Option.isSome_some, List.getD_cons_zero, List.getD_cons_succ, List.getD_nil, get_app, get_app0, set_app, set_app0, List.length_append, List.append_assoc, List.any_cons, List.any_nil, List.zip_cons_cons, List.zip_nil_left, List.zip_nil_right,
    List.map_cons, List.map_nil, List.cons_append, List.nil_append, List.append_nil, List.length_cons, List.length_nil, List.replicate, List.set_cons_zero, List.set_cons_succ, List.getElem?_cons_zero, List.getElem?_cons_succ, List.set_nil, List.getElem?_nil,
    Nat.reduceAdd, Nat.reduceSub, Nat.reduceBEq, Nat.reduceLeDiff, Nat.reduceEqDiff, Nat.sub_self, Nat.zero_add, Nat.add_zero, Nat.zero_le, Nat.le_add_right, Nat.le_refl, Int.reduceToNat, Int.reduceLE, Nat.reduceLT, Nat.reducePow, Int.reducePow, Int.reduceNeg, or_true, true_or, Int.reduceLT, Bool.false_eq_true, if_true, if_false, forall_const, false_implies, true_implies, implies_true, Int.reduceEq, cast_lit, not_true_eq_false, not_false_eq_true, Bool.not_true, Bool.not_false, Bool.not_eq_true', Bool.not_eq_false', Bool.and_true, Bool.true_and, Bool.and_false, Bool.false_and, Bool.or_false, Bool.false_or, Bool.or_true, Bool.true_or, reduceCtorEq, false_and, and_false, or_false, false_or, beq_self_eq_true,
    Option.some.injEq, Prod.mk.injEq, Rv.dat.injEq, Rv.ref.injEq, D.int.injEq, D.bl.injEq, D.str.injEq, D.tup.injEq, D.lst.injEq, D.dic.injEq, D.scr.injEq, List.cons.injEq, and_true, true_and, exists_and_left, exists_and_right, exists_eq_left, exists_eq_left', exists_eq_right, exists_eq_right', exists_eq, exists_eq', exists_const, decide_eq_true_eq, decide_eq_false_iff_not, Bool.and_eq_true, beq_iff_eq, beq_eq_false_iff_ne, ne_eq, decide_true, decide_false, hdR_len, stR_len, hdR_24, hdR_25, hdR_26, hdR_27, hdR_28, hdR_29, hdR_30, stR_16, stR_18, stR_19, stR_20, stR_21, stR_22, stR_23, hdP_25, hdP_26, hdP_27, hdP_28, hdP_29, hdP_30, stP_16, stP_19, stP_20, stP_21, stP_22, stP_23, hdD, List.length_set, set_two, denc_push, denc_swap, denc_pop, denc_top, denc_clear, eqv_optN, plN_optN, isNon_optN, optN_some, optN_none, seenD_some, seenD_none, items_pair, items_vals, phk, kdk, List.getElem?_set_self, List.getElem?_set_ne, List.getElem?_append_left, ltaddr, boxD, cDict, S_start_by, S_deed_by, S_cell_at, S_odd_k01, S_value_by, S_refused_k01])
local macro_rules | `(tactic| walk_at "dwh") => `(tactic| simp (config := { maxSteps := 1000000 }) only [and_assoc, natD, mapint_inj, mapnat_inj, denc_inj, wfor_eq, ixD, ixM, cut_one, List.tail_cons, List.tail_nil, eqvs_nil, List.isEmpty_cons, List.isEmpty_nil, plAll_int, plAll_nat, Ss.W, Sm.W, Ex.W, Ex.T, Es.W, wVar, BOp.B, COp.B, Bi.B, IxK.B, bI0, bIC, bEq, bIs, bIn, bIxL, bIxT, bIxS, bIxK, bCat, bCatT, bRep, cLen, cInt, cMin2, cList, cTup, wantB, wAndT, wOrT, wAndV, wOrV, wNotV, lenOf, lstOf_ref, lstOf_lst, seqOf, dicOf_ref, dicOf_dic, wPart, wIter, tstW, mAppend, mPop, mPopAt, mClear, wSetIx, wSetKey, Tg.put, wipeN, Cell.lst.injEq, Cell.dic.injEq, Cell.fz.injEq, List.length_map, tyR, tyD,
    eqv_ii, eqv_ss, eqv_bb, eqv_nn, eqv_ll, eqv_tt, eqn_non_int, eqn_non_str, eqn_non_lst, eqn_non_tup, eqn_non_bl, eqn_non_dic, eqn_int_non, eqn_int_str, eqn_int_lst, eqn_int_tup, eqn_int_dic, eqn_str_non, eqn_str_int, eqn_str_lst, eqn_str_tup, eqn_str_bl, eqn_str_dic, eqn_lst_non, eqn_lst_int, eqn_lst_str, eqn_lst_tup, eqn_lst_bl, eqn_lst_dic, eqn_tup_non, eqn_tup_int, eqn_tup_str, eqn_tup_lst, eqn_tup_bl, eqn_tup_dic, eqn_bl_non, eqn_bl_str, eqn_bl_lst, eqn_bl_tup, eqn_bl_dic, eqvs, atI_lit, cdiv_lit, cmul_r, cmul_l, cpow_lit, nrm_dat, nrm_ref, plN, plAll, rd_dat, rd_ref, rds_nil, rds_cons, rds_map, rdk_nil, rdk_cons, wFrz, frz1, wFrzL, frzs, datsN, datsN_map, datsK, isNon, tyNames, kbs,
    Option.map_some, Option.map_none, Option.isSome_some, List.getD_cons_zero, List.getD_cons_succ, List.getD_nil, get_app, get_app0, set_app, set_app0, List.length_append, List.append_assoc, List.any_cons, List.any_nil, List.zip_cons_cons, List.zip_nil_left, List.zip_nil_right,
    List.map_cons, List.map_nil, List.cons_append, List.nil_append, List.append_nil, List.length_cons, List.length_nil, List.replicate, List.set_cons_zero, List.set_cons_succ, List.getElem?_cons_zero, List.getElem?_cons_succ, List.set_nil, List.getElem?_nil,
    Nat.reduceAdd, Nat.reduceSub, Nat.reduceBEq, Nat.reduceLeDiff, Nat.reduceEqDiff, Nat.sub_self, Nat.zero_add, Nat.add_zero, Nat.zero_le, Nat.le_add_right, Nat.le_refl, Int.reduceToNat, Int.reduceLE, Nat.reduceLT, Nat.reducePow, Int.reducePow, Int.reduceNeg, or_true, true_or, Int.reduceLT, Bool.false_eq_true, if_true, if_false, forall_const, false_implies, true_implies, implies_true, Int.reduceEq, cast_lit, not_true_eq_false, not_false_eq_true, Bool.not_true, Bool.not_false, Bool.not_eq_true', Bool.not_eq_false', Bool.and_true, Bool.true_and, Bool.and_false, Bool.false_and, Bool.or_false, Bool.false_or, Bool.or_true, Bool.true_or, reduceCtorEq, false_and, and_false, or_false, false_or, beq_self_eq_true,
    Option.some.injEq, Prod.mk.injEq, Rv.dat.injEq, Rv.ref.injEq, D.int.injEq, D.bl.injEq, D.str.injEq, D.tup.injEq, D.lst.injEq, D.dic.injEq, D.scr.injEq, List.cons.injEq, and_true, true_and, exists_and_left, exists_and_right, exists_eq_left, exists_eq_left', exists_eq_right, exists_eq_right', exists_eq, exists_eq', exists_const, decide_eq_true_eq, decide_eq_false_iff_not, Bool.and_eq_true, beq_iff_eq, beq_eq_false_iff_ne, ne_eq, decide_true, decide_false, hdR_len, stR_len, hdR_24, hdR_25, hdR_26, hdR_27, hdR_28, hdR_29, hdR_30, stR_16, stR_18, stR_19, stR_20, stR_21, stR_22, stR_23, hdP_25, hdP_26, hdP_27, hdP_28, hdP_29, hdP_30, stP_16, stP_19, stP_20, stP_21, stP_22, stP_23, hdD, List.length_set, set_two, denc_push, denc_swap, denc_pop, denc_top, denc_clear, eqv_optN, plN_optN, isNon_optN, optN_some, optN_none, seenD_some, seenD_none, items_pair, items_vals, phk, kdk, List.getElem?_set_self, List.getElem?_set_ne, List.getElem?_append_left, ltaddr, boxD, cDict, S_start_by, S_deed_by, S_cell_at, S_odd_k01, S_value_by, S_refused_k01, *])
abbrev fn_law_k01 : List Str := ["_law_start_by", "_law_deed_by", "played", "_law_alike", "_law_cell_at", "_law_odd", "_law_played", "_law_value_by", "_law_refused"]
def b_law_k01_0 : DW.Ss := (.cons (.ret (.and (.call 8 (.cons (.var 3) (.cons (.frz (.var 4)) .nil))) (.one (.cmp .eq (.var 3) (.var 1)))))
  .nil)
def b_law_k01_1 : DW.Ss := (.cons (.ret (.call 3 (.cons (.frz (.var 5)) (.cons (.frz (.call 6 (.cons (.frz (.var 1)) (.cons (.frz (.var 2)) .nil)))) .nil))))
  .nil)
def b_law_k01_2 : DW.Ss := (.cons (.expr (.app (.var 3) (.int 5)))
  b_law_k01_1)
def b_law_k01_3 : DW.Ss := (.cons (.ite (.or (.not (.call 3 (.cons (.frz (.var 5)) (.cons (.frz (.call 6 (.cons (.frz (.var 1)) (.cons (.frz (.var 2)) .nil)))) .nil)))) (.one (.cmp .ne (.var 3) (.var 1)))) (.cons (.ret (.bl false))
  .nil) .nil)
  b_law_k01_2)
def b_law_k01_4 : DW.Ss := (.cons (.set 5 (.call 2 (.cons (.var 3) (.cons (.frz (.var 2)) .nil))))
  b_law_k01_3)
def b_law_k01_5 : DW.Ss := (.cons (.ite (.cmp .eq (.bin .modI (.call 4 (.cons (.var 0) (.cons (.int 2) .nil))) (.int 5)) (.int 1)) (.cons (.set 4 (.call 5 (.cons (.bin .fdivI (.call 4 (.cons (.var 0) (.cons (.int 2) .nil))) (.int 5)) (.cons (.call 7 (.cons (.call 4 (.cons (.var 0) (.cons (.int 1) .nil))) .nil)) .nil))))
  b_law_k01_0) .nil)
  b_law_k01_4)
def b_law_k01_6 : DW.Ss := (.cons (.set 3 (.bi .list1 (.cons (.var 1) .nil)))
  b_law_k01_5)
def b_law_k01_7 : DW.Ss := (.cons (.set 2 (.call 1 (.cons (.call 4 (.cons (.var 0) (.cons (.int 1) .nil))) .nil)))
  b_law_k01_6)
def m_law_k01 : DW.Ss := (.cons (.set 1 (.call 0 (.cons (.call 4 (.cons (.var 0) (.cons (.int 0) .nil))) .nil)))
  b_law_k01_7)
abbrev Ss_law_k01 : List SpD := [S_start_by, S_deed_by, S_p_played_k01, S_alike, S_cell_at, S_odd_k01, S_played, S_value_by, S_refused_k01]
theorem playV_le (vs : List Int) (d : Deed) : (playV vs d).length ≤ vs.length + 1 := by
  cases d <;> simp only [playV, List.length_cons, List.length_nil, List.length_tail] <;> first | omega | (cases vs <;> simp)
theorem playA_pl (vs : List Int) (d : Deed) : plN 54 (playA vs d) = true := by
  cases d <;> simp only [playA] <;> first | rfl | (simp only [plN, plAll_int]) | (cases vs <;> rfl)
theorem playA_sz (vs : List Int) (d : Deed) : dsize (playA vs d) ≤ 1 + vs.length := by
  cases d <;> simp only [playA] <;> first | (simp only [dsize]; omega) | (simp only [dsize, dsizesI]; omega) | (cases vs <;> simp only [dsize] <;> omega)
theorem playD_pl (vs : List Int) (d : Deed) : plN 55 (playD vs d) = true := by
  simp only [playD, plN, plAll, playA_pl, plAll_int, Bool.and_self]
theorem playD_sz (vs : List Int) (d : Deed) : dsize (playD vs d) ≤ 4 + (2 * vs.length + 1) := by
  have h1 := playA_sz vs d
  have h2 := playV_le vs d
  simp only [playD, dsize, dsizes, dsizesI]
  omega
theorem hS_law_k01 : ∀ rs g Q, lawS rs g Q → m_law_k01.W (wd Ss_law_k01 glF dtF) (rs.map some ++ List.replicate (6 - rs.length) none) g (fun _ g2 => Fin g Q (.dat .non) g2) (Fin g Q) := by
  rintro rs g Q ⟨ns, rfl, hl, q⟩
  unfold m_law_k01
  walk_at "dw"
  have hvl := startBy_len (cellAt ns 0)
  generalize hv : startBy (cellAt ns 0) = vs at hvl ⊢
  generalize hd : deedBy (cellAt ns 1) = d
  unfold b_law_k01_7
  walk_at "dw"
  rw [hd]
  unfold b_law_k01_6
  walk_at "dwh"
  unfold b_law_k01_5
  walk_at "dwh"
  have hev : eqvs (List.map D.int vs) (List.map D.int vs) = true := eqvs_refl (n := 5) plAll_int
  have hpl := playD_pl vs d
  have hsz := playD_sz vs d
  refine ⟨fun _ => ?_, fun _ => ?_⟩
  · unfold b_law_k01_0
    walk_at "dwh"
    exact ⟨oddOf1_pl _ _, oddOf1_no _ _, fin_dat _ rfl q⟩
  · unfold b_law_k01_4
    walk_at "dwh"
    refine ⟨g.length, vs, d, rfl, by walk_at "dwh", by omega, ?_⟩
    unfold b_law_k01_3
    walk_at "dwh"
    refine ⟨vs, d, rfl, by omega, ?_⟩
    walk_at "dwh"
    refine ⟨_, _, rfl, hpl, hpl, by omega, ?_⟩
    rw [deq_self]
    walk_at "dwh"
    unfold b_law_k01_2
    walk_at "dwh"
    unfold b_law_k01_1
    walk_at "dwh"
    refine ⟨by omega, vs, d, rfl, by omega, ?_⟩
    walk_at "dwh"
    refine ⟨_, _, rfl, hpl, hpl, by omega, ?_⟩
    rw [deq_self]
    exact fin_dat _ rfl q

end DW

/-! ## K01.lean -/
set_option Elab.async false
set_option linter.all false
set_option maxRecDepth 100000
set_option maxHeartbeats 4000000
set_option autoImplicit false

namespace DW
open PySem PySem.Spec L2
open PyProof.Rows hiding St
abbrev P0 : Program := PySem.Challenge.pw_swaptower_k01_deeds_played
def top (i : Nat) : Stmt := P0.main.body.getD i (.Pass ⟨0, 0, 0, 0⟩)
abbrev glL : List (Str × Int) := []
abbrev dtL : List (Str × List (Nat × Nat)) := []
theorem glP : glL <+: glF := by decide +kernel
theorem dtP : dtL <+: dtF := by decide +kernel
abbrev xcL : List Str := ["NoKind", "NoValue", "NoDeed", "NoHand", "TooMany"]

/-! ### _law_value_by -/
abbrev s_value_by : Stmt := top 15
abbrev N_value_by : List Str := ["_law_cell"]
theorem sc_value_by : FnScope N_value_by ["_law_cell"] (defScope s_value_by) := ⟨rfl, rfl, rfl, by decide +kernel, rfl, by decide +kernel, by decide +kernel⟩
theorem c_value_by : m_value_by.ok ⟨N_value_by, defScope s_value_by, ksL, fn_value_by, glL, dtL.map (·.1), true, [], [], [], fun _ _ _ => false⟩ (defBody s_value_by) = true := by decide +kernel
theorem cal_value_by {w : World} {K : PySem.W.Frag} {mg : Str → Option Value} {base : Heap} {k : Nat} (B : Bas ksL glL dtL w K mg) (C : Cals ksL P0 w K mg base k fn_value_by Ss_value_by) {f : Addr} {fd : FuncData} (F : Fun K "_law_value_by" "_law_value_by" s_value_by f fd) (hm : mg "_law_value_by" = some (.ref f)) : Cal ksL P0 w K mg base "_law_value_by" S_value_by (k + 1) :=
  cal_of2 1 m_value_by glP dtP B C F hm (F.binds (ps := ["_law_cell"]) fun _ _ _ _ _ _ us hl => match us, hl with | [_], _ => rfl) sc_value_by rfl c_value_by mo_value_by len_value_by hS_value_by

/-! ### _law_mixed -/
abbrev s_mixed : Stmt := top 12
abbrev N_mixed : List Str := ["_law_cell", "_law_k", "_law_left"]
theorem sc_mixed : FnScope N_mixed ["_law_cell", "_law_k"] (defScope s_mixed) := ⟨rfl, rfl, rfl, by decide +kernel, rfl, by decide +kernel, by decide +kernel⟩
theorem c_mixed : m_mixed.ok ⟨N_mixed, defScope s_mixed, ksL, fn_mixed, glL, dtL.map (·.1), true, [], [], [], fun _ _ _ => false⟩ (defBody s_mixed) = true := by decide +kernel
theorem cal_mixed {w : World} {K : PySem.W.Frag} {mg : Str → Option Value} {base : Heap} {k : Nat} (B : Bas ksL glL dtL w K mg) (C : Cals ksL P0 w K mg base k fn_mixed Ss_mixed) {f : Addr} {fd : FuncData} (F : Fun K "_law_mixed" "_law_mixed" s_mixed f fd) (hm : mg "_law_mixed" = some (.ref f)) : Cal ksL P0 w K mg base "_law_mixed" S_mixed (k + 1) :=
  cal_of2 3 m_mixed glP dtP B C F hm (F.binds (ps := ["_law_cell", "_law_k"]) fun _ _ _ _ _ _ us hl => match us, hl with | [_, _], _ => rfl) sc_mixed rfl c_mixed mo_mixed len_mixed hS_mixed

/-! ### _law_start_by -/
abbrev s_start_by : Stmt := top 17
abbrev N_start_by : List Str := ["_law_cell", "_law_size", "_law_k"]
theorem sc_start_by : FnScope N_start_by ["_law_cell"] (defScope s_start_by) := ⟨rfl, rfl, rfl, by decide +kernel, rfl, by decide +kernel, by decide +kernel⟩
theorem c_start_by : m_start_by.ok ⟨N_start_by, defScope s_start_by, ksL, fn_start_by, glL, dtL.map (·.1), true, [], [], [], fun _ _ _ => false⟩ (defBody s_start_by) = true := by decide +kernel
theorem cal_start_by {w : World} {K : PySem.W.Frag} {mg : Str → Option Value} {base : Heap} {k : Nat} (B : Bas ksL glL dtL w K mg) (C : Cals ksL P0 w K mg base k fn_start_by Ss_start_by) {f : Addr} {fd : FuncData} (F : Fun K "_law_start_by" "_law_start_by" s_start_by f fd) (hm : mg "_law_start_by" = some (.ref f)) : Cal ksL P0 w K mg base "_law_start_by" S_start_by (k + 1) :=
  cal_of2 3 m_start_by glP dtP B C F hm (F.binds (ps := ["_law_cell"]) fun _ _ _ _ _ _ us hl => match us, hl with | [_], _ => rfl) sc_start_by rfl c_start_by mo_start_by len_start_by hS_start_by

/-! ### _law_deed_by -/
abbrev s_deed_by : Stmt := top 16
abbrev N_deed_by : List Str := ["_law_cell", "_law_name"]
theorem sc_deed_by : FnScope N_deed_by ["_law_cell"] (defScope s_deed_by) := ⟨rfl, rfl, rfl, by decide +kernel, rfl, by decide +kernel, by decide +kernel⟩
theorem c_deed_by : m_deed_by.ok ⟨N_deed_by, defScope s_deed_by, ksL, fn_deed_by, glL, dtL.map (·.1), true, [], [], [], fun _ _ _ => false⟩ (defBody s_deed_by) = true := by decide +kernel
theorem cal_deed_by {w : World} {K : PySem.W.Frag} {mg : Str → Option Value} {base : Heap} {k : Nat} (B : Bas ksL glL dtL w K mg) (C : Cals ksL P0 w K mg base k fn_deed_by Ss_deed_by) {f : Addr} {fd : FuncData} (F : Fun K "_law_deed_by" "_law_deed_by" s_deed_by f fd) (hm : mg "_law_deed_by" = some (.ref f)) : Cal ksL P0 w K mg base "_law_deed_by" S_deed_by (k + 1) :=
  cal_of2 2 m_deed_by glP dtP B C F hm (F.binds (ps := ["_law_cell"]) fun _ _ _ _ _ _ us hl => match us, hl with | [_], _ => rfl) sc_deed_by rfl c_deed_by mo_deed_by len_deed_by hS_deed_by

/-! ### is_value -/
abbrev s_p_is_value : Stmt := top 8
abbrev N_p_is_value : List Str := ["thing"]
theorem sc_p_is_value : FnScope N_p_is_value ["thing"] (defScope s_p_is_value) := ⟨rfl, rfl, rfl, by decide +kernel, rfl, by decide +kernel, by decide +kernel⟩
theorem c_p_is_value : m_p_is_value.ok ⟨N_p_is_value, defScope s_p_is_value, ksL, fn_p_is_value, glL, dtL.map (·.1), true, [], [], [], fun _ _ _ => false⟩ (defBody s_p_is_value) = true := by decide +kernel
theorem cal_p_is_value {w : World} {K : PySem.W.Frag} {mg : Str → Option Value} {base : Heap} {k : Nat} (B : Bas ksL glL dtL w K mg) (C : Cals ksL P0 w K mg base k fn_p_is_value Ss_p_is_value) {f : Addr} {fd : FuncData} (F : Fun K "is_value" "is_value" s_p_is_value f fd) (hm : mg "is_value" = some (.ref f)) : Cal ksL P0 w K mg base "is_value" S_p_is_value (k + 1) :=
  cal_of2 1 m_p_is_value glP dtP B C F hm (F.binds (ps := ["thing"]) fun _ _ _ _ _ _ us hl => match us, hl with | [_], _ => rfl) sc_p_is_value rfl c_p_is_value mo_p_is_value len_p_is_value hS_p_is_value

/-! ### is_deed -/
abbrev s_p_is_deed : Stmt := top 9
abbrev N_p_is_deed : List Str := ["thing"]
theorem sc_p_is_deed : FnScope N_p_is_deed ["thing"] (defScope s_p_is_deed) := ⟨rfl, rfl, rfl, by decide +kernel, rfl, by decide +kernel, by decide +kernel⟩
theorem c_p_is_deed : m_p_is_deed.ok ⟨N_p_is_deed, defScope s_p_is_deed, ksL, fn_p_is_deed, glL, dtL.map (·.1), true, [], [], [], fun _ _ _ => false⟩ (defBody s_p_is_deed) = true := by decide +kernel
theorem cal_p_is_deed {w : World} {K : PySem.W.Frag} {mg : Str → Option Value} {base : Heap} {k : Nat} (B : Bas ksL glL dtL w K mg) (C : Cals ksL P0 w K mg base k fn_p_is_deed Ss_p_is_deed) {f : Addr} {fd : FuncData} (F : Fun K "is_deed" "is_deed" s_p_is_deed f fd) (hm : mg "is_deed" = some (.ref f)) : Cal ksL P0 w K mg base "is_deed" S_p_is_deed (k + 1) :=
  cal_of2 1 m_p_is_deed glP dtP B C F hm (F.binds (ps := ["thing"]) fun _ _ _ _ _ _ us hl => match us, hl with | [_], _ => rfl) sc_p_is_deed rfl c_p_is_deed mo_p_is_deed len_p_is_deed hS_p_is_deed

/-! ### played -/
abbrev s_p_played_k01 : Stmt := top 10
abbrev N_p_played_k01 : List Str := ["values", "deed"]
theorem sc_p_played_k01 : FnScope N_p_played_k01 ["values", "deed"] (defScope s_p_played_k01) := ⟨rfl, rfl, rfl, by decide +kernel, rfl, by decide +kernel, by decide +kernel⟩
theorem c_p_played_k01 : m_p_played_k01.ok ⟨N_p_played_k01, defScope s_p_played_k01, ksL, fn_p_played_k01, glL, dtL.map (·.1), true, [], [], [], fun _ _ _ => false⟩ (defBody s_p_played_k01) = true := by decide +kernel
theorem cal_p_played_k01 {w : World} {K : PySem.W.Frag} {mg : Str → Option Value} {base : Heap} {k : Nat} (B : Bas ksL glL dtL w K mg) (C : Cals ksL P0 w K mg base k fn_p_played_k01 Ss_p_played_k01) {f : Addr} {fd : FuncData} (F : Fun K "played" "played" s_p_played_k01 f fd) (hm : mg "played" = some (.ref f)) : Cal ksL P0 w K mg base "played" S_p_played_k01 (k + 1) :=
  cal_of2 2 m_p_played_k01 glP dtP B C F hm (F.binds (ps := ["values", "deed"]) fun _ _ _ _ _ _ us hl => match us, hl with | [_, _], _ => rfl) sc_p_played_k01 rfl c_p_played_k01 mo_p_played_k01 len_p_played_k01 hS_p_played_k01

/-! ### _law_alike -/
abbrev s_alike : Stmt := top 14
abbrev N_alike : List Str := ["_law_found", "_law_due", "_law_rest", "_law_pair"]
theorem sc_alike : FnScope N_alike ["_law_found", "_law_due"] (defScope s_alike) := ⟨rfl, rfl, rfl, by decide +kernel, rfl, by decide +kernel, by decide +kernel⟩
theorem c_alike : m_alike.ok ⟨N_alike, defScope s_alike, ksL, fn_alike, glL, dtL.map (·.1), true, [], [], [], fun _ _ _ => false⟩ (defBody s_alike) = true := by decide +kernel
theorem cal_alike {w : World} {K : PySem.W.Frag} {mg : Str → Option Value} {base : Heap} {k : Nat} (B : Bas ksL glL dtL w K mg) (C : Cals ksL P0 w K mg base k fn_alike Ss_alike) {f : Addr} {fd : FuncData} (F : Fun K "_law_alike" "_law_alike" s_alike f fd) (hm : mg "_law_alike" = some (.ref f)) : Cal ksL P0 w K mg base "_law_alike" S_alike (k + 1) :=
  cal_of2 4 m_alike glP dtP B C F hm (F.binds (ps := ["_law_found", "_law_due"]) fun _ _ _ _ _ _ us hl => match us, hl with | [_, _], _ => rfl) sc_alike rfl c_alike mo_alike len_alike hS_alike

/-! ### _law_cell_at -/
abbrev s_cell_at : Stmt := top 13
abbrev N_cell_at : List Str := ["_law_script", "_law_k"]
theorem sc_cell_at : FnScope N_cell_at ["_law_script", "_law_k"] (defScope s_cell_at) := ⟨rfl, rfl, rfl, by decide +kernel, rfl, by decide +kernel, by decide +kernel⟩
theorem c_cell_at : m_cell_at.ok ⟨N_cell_at, defScope s_cell_at, ksL, fn_cell_at, glL, dtL.map (·.1), true, [], [], [], fun _ _ _ => false⟩ (defBody s_cell_at) = true := by decide +kernel
theorem cal_cell_at {w : World} {K : PySem.W.Frag} {mg : Str → Option Value} {base : Heap} {k : Nat} (B : Bas ksL glL dtL w K mg) (C : Cals ksL P0 w K mg base k fn_cell_at Ss_cell_at) {f : Addr} {fd : FuncData} (F : Fun K "_law_cell_at" "_law_cell_at" s_cell_at f fd) (hm : mg "_law_cell_at" = some (.ref f)) : Cal ksL P0 w K mg base "_law_cell_at" S_cell_at (k + 1) :=
  cal_of2 2 m_cell_at glP dtP B C F hm (F.binds (ps := ["_law_script", "_law_k"]) fun _ _ _ _ _ _ us hl => match us, hl with | [_, _], _ => rfl) sc_cell_at rfl c_cell_at mo_cell_at len_cell_at hS_cell_at

/-! ### _law_odd -/
abbrev s_odd_k01 : Stmt := top 20
abbrev N_odd_k01 : List Str := ["_law_cell", "_law_value", "_law_some"]
theorem sc_odd_k01 : FnScope N_odd_k01 ["_law_cell", "_law_value"] (defScope s_odd_k01) := ⟨rfl, rfl, rfl, by decide +kernel, rfl, by decide +kernel, by decide +kernel⟩
theorem c_odd_k01 : m_odd_k01.ok ⟨N_odd_k01, defScope s_odd_k01, ksL, fn_odd_k01, glL, dtL.map (·.1), true, [], [], [], fun _ _ _ => false⟩ (defBody s_odd_k01) = true := by decide +kernel
theorem cal_odd_k01 {w : World} {K : PySem.W.Frag} {mg : Str → Option Value} {base : Heap} {k : Nat} (B : Bas ksL glL dtL w K mg) (C : Cals ksL P0 w K mg base k fn_odd_k01 Ss_odd_k01) {f : Addr} {fd : FuncData} (F : Fun K "_law_odd" "_law_odd" s_odd_k01 f fd) (hm : mg "_law_odd" = some (.ref f)) : Cal ksL P0 w K mg base "_law_odd" S_odd_k01 (k + 1) :=
  cal_of2 3 m_odd_k01 glP dtP B C F hm (F.binds (ps := ["_law_cell", "_law_value"]) fun _ _ _ _ _ _ us hl => match us, hl with | [_, _], _ => rfl) sc_odd_k01 rfl c_odd_k01 mo_odd_k01 len_odd_k01 hS_odd_k01

/-! ### _law_played -/
abbrev s_played : Stmt := top 18
abbrev N_played : List Str := ["_law_values", "_law_deed", "_law_answer"]
theorem sc_played : FnScope N_played ["_law_values", "_law_deed"] (defScope s_played) := ⟨rfl, rfl, rfl, by decide +kernel, rfl, by decide +kernel, by decide +kernel⟩
theorem c_played : m_played.ok ⟨N_played, defScope s_played, ksL, fn_played, glL, dtL.map (·.1), true, [], [], [], fun _ _ _ => false⟩ (defBody s_played) = true := by decide +kernel
theorem cal_played {w : World} {K : PySem.W.Frag} {mg : Str → Option Value} {base : Heap} {k : Nat} (B : Bas ksL glL dtL w K mg) (C : Cals ksL P0 w K mg base k fn_played Ss_played) {f : Addr} {fd : FuncData} (F : Fun K "_law_played" "_law_played" s_played f fd) (hm : mg "_law_played" = some (.ref f)) : Cal ksL P0 w K mg base "_law_played" S_played (k + 1) :=
  cal_of2 3 m_played glP dtP B C F hm (F.binds (ps := ["_law_values", "_law_deed"]) fun _ _ _ _ _ _ us hl => match us, hl with | [_, _], _ => rfl) sc_played rfl c_played mo_played len_played hS_played

/-! ### x:played -/
abbrev s_x_p_played : Stmt := top 10
abbrev N_x_p_played : List Str := ["values", "deed"]
theorem sc_x_p_played : FnScope N_x_p_played ["values", "deed"] (defScope s_x_p_played) := ⟨rfl, rfl, rfl, by decide +kernel, rfl, by decide +kernel, by decide +kernel⟩
theorem c_x_p_played : m_x_p_played.ok ⟨N_x_p_played, defScope s_x_p_played, ksL, fn_x_p_played, glL, dtL.map (·.1), true, [], fx_x_p_played, xcL, fun _ _ _ => false⟩ (defBody s_x_p_played) = true := by decide +kernel
theorem cal_x_p_played {w : World} {K : PySem.W.Frag} {mg : Str → Option Value} {base : Heap} {k : Nat} {cv : Nat → Value} (B : Bas ksL glL dtL w K mg) (C : Cals ksL P0 w K mg base k fn_x_p_played Ss_x_p_played) (CX : CalsX ksL cv P0 w K mg base k fx_x_p_played Xs_x_p_played) (CL : ClsM cv K mg 0 xcL) {f : Addr} {fd : FuncData} (F : Fun K "played" "played" s_x_p_played f fd) (hm : mg "played" = some (.ref f)) : CalX ksL cv P0 w K mg base "played" S_x_p_played (k + 1) :=
  calX_of 2 m_x_p_played glP dtP B C CX CL F hm (F.binds (ps := ["values", "deed"]) fun _ _ _ _ _ _ us hl => match us, hl with | [_, _], _ => rfl) sc_x_p_played rfl c_x_p_played mo_x_p_played len_x_p_played hS_x_p_played

/-! ### _law_refused -/
abbrev s_refused_k01 : Stmt := top 21
abbrev N_refused_k01 : List Str := ["_law_values", "_law_deed", "_law_e"]
theorem sc_refused_k01 : FnScope N_refused_k01 ["_law_values", "_law_deed"] (defScope s_refused_k01) := ⟨rfl, rfl, rfl, by decide +kernel, rfl, by decide +kernel, by decide +kernel⟩
theorem c_refused_k01 : m_refused_k01.ok ⟨N_refused_k01, defScope s_refused_k01, ksL, fn_refused_k01, glL, dtL.map (·.1), true, [], fx_refused_k01, [], suF ⟨N_refused_k01, defScope s_refused_k01, 2, xcL, "_law_alone"⟩ "_law_e" ax_refused_k01⟩ (defBody s_refused_k01) = true := by decide +kernel
theorem cal_refused_k01 {w : World} {K : PySem.W.Frag} {mg : Str → Option Value} {base : Heap} {k : Nat} {cv : Nat → Value} (B : Bas ksL glL dtL w K mg) (C : Cals ksL P0 w K mg base k fn_refused_k01 Ss_refused_k01) (CX : CalsX ksL cv P0 w K mg base k fx_refused_k01 Xs_refused_k01) (E : XCs P0 w K mg base cv xcL "_law_alone" k cs_refused_k01) {f : Addr} {fd : FuncData} (F : Fun K "_law_refused" "_law_refused" s_refused_k01 f fd) (hm : mg "_law_refused" = some (.ref f)) : Cal ksL P0 w K mg base "_law_refused" S_refused_k01 (k + 1) :=
  cal_ofT2 (xcA := xcL) (an := "_law_alone") (y0 := "_law_e") (i0 := 2) (ax := ax_refused_k01) (cs := cs_refused_k01) 3 m_refused_k01 glP dtP B C CX E rfl F hm (F.binds (ps := ["_law_values", "_law_deed"]) fun _ _ _ _ _ _ us hl => match us, hl with | [_, _], _ => rfl) sc_refused_k01 rfl c_refused_k01 mo_refused_k01 len_refused_k01 hS_refused_k01

/-! ### law -/
abbrev s_law_k01 : Stmt := top 22
abbrev N_law_k01 : List Str := ["_law_script", "_law_values", "_law_deed", "_law_handed", "_law_odd_here", "_law_found"]
theorem sc_law_k01 : FnScope N_law_k01 ["_law_script"] (defScope s_law_k01) := ⟨rfl, rfl, rfl, by decide +kernel, rfl, by decide +kernel, by decide +kernel⟩
theorem c_law_k01 : m_law_k01.ok ⟨N_law_k01, defScope s_law_k01, ksL, fn_law_k01, glL, dtL.map (·.1), true, [], [], [], fun _ _ _ => false⟩ (defBody s_law_k01) = true := by decide +kernel
theorem law_ok {w : World} {K : PySem.W.Frag} {mg : Str → Option Value} {base : Heap} {k : Nat} (B : Bas ksL glL dtL w K mg) (C : Cals ksL P0 w K mg base k fn_law_k01 Ss_law_k01) {f : Addr} {fd : FuncData} (F : Fun K "law" "law" s_law_k01 f fd) : FnOk P0 w K mg base CX0 (k + 1) f fd ["_law_script"] (PSpD ⟨ksL, K⟩ lawS) :=
  fn_of_cals2 6 m_law_k01 glP dtP B C F sc_law_k01 rfl c_law_k01 (fun rs g Q ⟨ns, e, _, _⟩ => by rw [e]; rfl) hS_law_k01

abbrev s_alone : Stmt := top 19
theorem sc_alone : FnScope ["_law_e", "_law_many"] ["_law_e"] (defScope s_alone) := ⟨rfl, rfl, rfl, by decide +kernel, rfl, by decide +kernel, by decide +kernel⟩
abbrev a1 : SX := .add (.add (.intb (.isx 0)) (.intb (.isx 1))) (.intb (.isx 2))
abbrev a2 : SX := .and (.eqc (.add (.add (.var 1) (.intb (.isx 3))) (.intb (.isx 4))) 1) .isv
theorem al_ok {w : World} {K : PySem.W.Frag} {mg : Str → Option Value} {base : Heap} (bi : mg "isinstance" = none) (bv : mg "ValueError" = none) (bn : mg "int" = none) {f : Addr} {fd : FuncData} (F : Fun K "_law_alone" "_law_alone" s_alone f fd) (n : Int) {c : Nat} {D : Addr} (CF : ClsF K mg xcL c D) (v1 : a1.val c noV = some (.int n)) (v2 : a2.val c (fun j => if j = 1 then some n else none) = some (.bl true)) : AloneOk P0 w K mg base 1 f fd "_law_e" D :=
  alone_mini (k := 0) (an := "_law_alone") (i := 1) F sc_alone (by decide +kernel) rfl rfl bi bv bn CF v1 v2

theorem all_mk {w : World} {K : PySem.W.Frag} {h : Heap} {mg : Str → Option Value} {fa f1 f2 f3 f4 f5 f6 f7 f8 f9 f10 f11 f12 f13 f14 e0 e1 e2 e3 e4 e5 : Addr} (X : K.In h) (G : h.Ns mainGlobals mg) (hfa : mg "law" = some (.ref fa))
    {od1 an1 od2 an2 od3 an3 od4 an4 od5 an5 od6 an6 od7 an7 od8 an8 od9 an9 od10 an10 od11 an11 od12 an12 od13 an13 od14 an14 : Option Addr} {sl1 sl2 sl3 sl4 sl5 sl6 sl7 sl8 sl9 sl10 sl11 sl12 sl13 sl14 : Array (Option Value)} {oc1 kV1 dc1 pm1 cd1 ct1 oc2 kV2 dc2 pm2 cd2 ct2 oc3 kV3 dc3 pm3 cd3 ct3 oc4 kV4 dc4 pm4 cd4 ct4 oc5 kV5 dc5 pm5 cd5 ct5 oc6 kV6 dc6 pm6 cd6 ct6 oc7 kV7 dc7 pm7 cd7 ct7 oc8 kV8 dc8 pm8 cd8 ct8 oc9 kV9 dc9 pm9 cd9 ct9 oc10 kV10 dc10 pm10 cd10 ct10 oc11 kV11 dc11 pm11 cd11 ct11 oc12 kV12 dc12 pm12 cd12 ct12 oc13 kV13 dc13 pm13 cd13 ct13 oc14 kV14 dc14 pm14 cd14 ct14 : Value}
    (a1 : PySem.W.nsIn K mainGlobals "_law_value_by" = some (some (.ref f1)))
    (l1 : K.lookup f1 = some ⟨oc1, od1, .func (PySem.W.fnOf "_law_value_by" "_law_value_by" (defArgs s_value_by) (defBody s_value_by) (defScope s_value_by) .none kV1 dc1 pm1 an1 cd1 ct1), sl1⟩)
    (c1 : PySem.W.codeIn K cd1 "_law_value_by" = true)
    (k1 : PySem.W.keepIn K (.ref f1) = true)
    (a2 : PySem.W.nsIn K mainGlobals "_law_mixed" = some (some (.ref f2)))
    (l2 : K.lookup f2 = some ⟨oc2, od2, .func (PySem.W.fnOf "_law_mixed" "_law_mixed" (defArgs s_mixed) (defBody s_mixed) (defScope s_mixed) .none kV2 dc2 pm2 an2 cd2 ct2), sl2⟩)
    (c2 : PySem.W.codeIn K cd2 "_law_mixed" = true)
    (k2 : PySem.W.keepIn K (.ref f2) = true)
    (a3 : PySem.W.nsIn K mainGlobals "_law_start_by" = some (some (.ref f3)))
    (l3 : K.lookup f3 = some ⟨oc3, od3, .func (PySem.W.fnOf "_law_start_by" "_law_start_by" (defArgs s_start_by) (defBody s_start_by) (defScope s_start_by) .none kV3 dc3 pm3 an3 cd3 ct3), sl3⟩)
    (c3 : PySem.W.codeIn K cd3 "_law_start_by" = true)
    (k3 : PySem.W.keepIn K (.ref f3) = true)
    (a4 : PySem.W.nsIn K mainGlobals "_law_deed_by" = some (some (.ref f4)))
    (l4 : K.lookup f4 = some ⟨oc4, od4, .func (PySem.W.fnOf "_law_deed_by" "_law_deed_by" (defArgs s_deed_by) (defBody s_deed_by) (defScope s_deed_by) .none kV4 dc4 pm4 an4 cd4 ct4), sl4⟩)
    (c4 : PySem.W.codeIn K cd4 "_law_deed_by" = true)
    (k4 : PySem.W.keepIn K (.ref f4) = true)
    (a5 : PySem.W.nsIn K mainGlobals "is_value" = some (some (.ref f5)))
    (l5 : K.lookup f5 = some ⟨oc5, od5, .func (PySem.W.fnOf "is_value" "is_value" (defArgs s_p_is_value) (defBody s_p_is_value) (defScope s_p_is_value) .none kV5 dc5 pm5 an5 cd5 ct5), sl5⟩)
    (c5 : PySem.W.codeIn K cd5 "is_value" = true)
    (k5 : PySem.W.keepIn K (.ref f5) = true)
    (a6 : PySem.W.nsIn K mainGlobals "is_deed" = some (some (.ref f6)))
    (l6 : K.lookup f6 = some ⟨oc6, od6, .func (PySem.W.fnOf "is_deed" "is_deed" (defArgs s_p_is_deed) (defBody s_p_is_deed) (defScope s_p_is_deed) .none kV6 dc6 pm6 an6 cd6 ct6), sl6⟩)
    (c6 : PySem.W.codeIn K cd6 "is_deed" = true)
    (k6 : PySem.W.keepIn K (.ref f6) = true)
    (a7 : PySem.W.nsIn K mainGlobals "played" = some (some (.ref f7)))
    (l7 : K.lookup f7 = some ⟨oc7, od7, .func (PySem.W.fnOf "played" "played" (defArgs s_p_played_k01) (defBody s_p_played_k01) (defScope s_p_played_k01) .none kV7 dc7 pm7 an7 cd7 ct7), sl7⟩)
    (c7 : PySem.W.codeIn K cd7 "played" = true)
    (k7 : PySem.W.keepIn K (.ref f7) = true)
    (a8 : PySem.W.nsIn K mainGlobals "_law_alike" = some (some (.ref f8)))
    (l8 : K.lookup f8 = some ⟨oc8, od8, .func (PySem.W.fnOf "_law_alike" "_law_alike" (defArgs s_alike) (defBody s_alike) (defScope s_alike) .none kV8 dc8 pm8 an8 cd8 ct8), sl8⟩)
    (c8 : PySem.W.codeIn K cd8 "_law_alike" = true)
    (k8 : PySem.W.keepIn K (.ref f8) = true)
    (a9 : PySem.W.nsIn K mainGlobals "_law_cell_at" = some (some (.ref f9)))
    (l9 : K.lookup f9 = some ⟨oc9, od9, .func (PySem.W.fnOf "_law_cell_at" "_law_cell_at" (defArgs s_cell_at) (defBody s_cell_at) (defScope s_cell_at) .none kV9 dc9 pm9 an9 cd9 ct9), sl9⟩)
    (c9 : PySem.W.codeIn K cd9 "_law_cell_at" = true)
    (k9 : PySem.W.keepIn K (.ref f9) = true)
    (a10 : PySem.W.nsIn K mainGlobals "_law_odd" = some (some (.ref f10)))
    (l10 : K.lookup f10 = some ⟨oc10, od10, .func (PySem.W.fnOf "_law_odd" "_law_odd" (defArgs s_odd_k01) (defBody s_odd_k01) (defScope s_odd_k01) .none kV10 dc10 pm10 an10 cd10 ct10), sl10⟩)
    (c10 : PySem.W.codeIn K cd10 "_law_odd" = true)
    (k10 : PySem.W.keepIn K (.ref f10) = true)
    (a11 : PySem.W.nsIn K mainGlobals "_law_played" = some (some (.ref f11)))
    (l11 : K.lookup f11 = some ⟨oc11, od11, .func (PySem.W.fnOf "_law_played" "_law_played" (defArgs s_played) (defBody s_played) (defScope s_played) .none kV11 dc11 pm11 an11 cd11 ct11), sl11⟩)
    (c11 : PySem.W.codeIn K cd11 "_law_played" = true)
    (k11 : PySem.W.keepIn K (.ref f11) = true)
    (a12 : PySem.W.nsIn K mainGlobals "_law_refused" = some (some (.ref f12)))
    (l12 : K.lookup f12 = some ⟨oc12, od12, .func (PySem.W.fnOf "_law_refused" "_law_refused" (defArgs s_refused_k01) (defBody s_refused_k01) (defScope s_refused_k01) .none kV12 dc12 pm12 an12 cd12 ct12), sl12⟩)
    (c12 : PySem.W.codeIn K cd12 "_law_refused" = true)
    (k12 : PySem.W.keepIn K (.ref f12) = true)
    (a13 : PySem.W.nsIn K mainGlobals "law" = some (some (.ref f13)))
    (l13 : K.lookup f13 = some ⟨oc13, od13, .func (PySem.W.fnOf "law" "law" (defArgs s_law_k01) (defBody s_law_k01) (defScope s_law_k01) .none kV13 dc13 pm13 an13 cd13 ct13), sl13⟩)
    (c13 : PySem.W.codeIn K cd13 "law" = true)
    (k13 : PySem.W.keepIn K (.ref f13) = true)
    (a14 : PySem.W.nsIn K mainGlobals "_law_alone" = some (some (.ref f14)))
    (l14 : K.lookup f14 = some ⟨oc14, od14, .func (PySem.W.fnOf "_law_alone" "_law_alone" (defArgs s_alone) (defBody s_alone) (defScope s_alone) .none kV14 dc14 pm14 an14 cd14 ct14), sl14⟩)
    (c14 : PySem.W.codeIn K cd14 "_law_alone" = true)
    (k14 : PySem.W.keepIn K (.ref f14) = true)
    (z0 : PySem.W.nsIn K mainGlobals "len" = some none)
    (z1 : PySem.W.nsIn K mainGlobals "isinstance" = some none)
    (z2 : PySem.W.nsIn K mainGlobals "int" = some none)
    (z3 : PySem.W.nsIn K mainGlobals "bool" = some none)
    (z4 : PySem.W.nsIn K mainGlobals "str" = some none)
    (z5 : PySem.W.nsIn K mainGlobals "tuple" = some none)
    (z6 : PySem.W.nsIn K mainGlobals "list" = some none)
    (z7 : PySem.W.nsIn K mainGlobals "range" = some none)
    (z8 : PySem.W.nsIn K mainGlobals "min" = some none)
    (z9 : PySem.W.nsIn K mainGlobals "max" = some none)
    (z10 : PySem.W.nsIn K mainGlobals "any" = some none)
    (z11 : PySem.W.nsIn K mainGlobals "enumerate" = some none)
    (z12 : PySem.W.nsIn K mainGlobals "zip" = some none)
    (z13 : PySem.W.nsIn K mainGlobals "dict" = some none)
    (z14 : PySem.W.nsIn K mainGlobals "sorted" = some none)
    (xa0 : PySem.W.nsIn K mainGlobals "NoKind" = some (some (.ref e0)))
    (xe0 : PySem.W.excIn K e0 [.type "ValueError", .type "Exception", .type "BaseException", .type "object"] "ValueError.__new__" = true)
    (xk0 : PySem.W.keepIn K (.ref e0) = true)
    (xb0 : PySem.W.subIn K (.ref e0) (.type "BaseException") = some true)
    (xy0 : PySem.W.typeIn K (.ref e0) = some (.type "type"))
    (xa1 : PySem.W.nsIn K mainGlobals "NoValue" = some (some (.ref e1)))
    (xe1 : PySem.W.excIn K e1 [.type "ValueError", .type "Exception", .type "BaseException", .type "object"] "ValueError.__new__" = true)
    (xk1 : PySem.W.keepIn K (.ref e1) = true)
    (xb1 : PySem.W.subIn K (.ref e1) (.type "BaseException") = some true)
    (xy1 : PySem.W.typeIn K (.ref e1) = some (.type "type"))
    (xa2 : PySem.W.nsIn K mainGlobals "NoDeed" = some (some (.ref e2)))
    (xe2 : PySem.W.excIn K e2 [.type "ValueError", .type "Exception", .type "BaseException", .type "object"] "ValueError.__new__" = true)
    (xk2 : PySem.W.keepIn K (.ref e2) = true)
    (xb2 : PySem.W.subIn K (.ref e2) (.type "BaseException") = some true)
    (xy2 : PySem.W.typeIn K (.ref e2) = some (.type "type"))
    (xa3 : PySem.W.nsIn K mainGlobals "NoHand" = some (some (.ref e3)))
    (xe3 : PySem.W.excIn K e3 [.type "ValueError", .type "Exception", .type "BaseException", .type "object"] "ValueError.__new__" = true)
    (xk3 : PySem.W.keepIn K (.ref e3) = true)
    (xb3 : PySem.W.subIn K (.ref e3) (.type "BaseException") = some true)
    (xy3 : PySem.W.typeIn K (.ref e3) = some (.type "type"))
    (xa4 : PySem.W.nsIn K mainGlobals "TooMany" = some (some (.ref e4)))
    (xe4 : PySem.W.excIn K e4 [.type "ValueError", .type "Exception", .type "BaseException", .type "object"] "ValueError.__new__" = true)
    (xk4 : PySem.W.keepIn K (.ref e4) = true)
    (xb4 : PySem.W.subIn K (.ref e4) (.type "BaseException") = some true)
    (xy4 : PySem.W.typeIn K (.ref e4) = some (.type "type"))
    (xt : PySem.W.nsIn K mainGlobals "TowerError" = some (some (.ref e5)))
    (xv : PySem.W.nsIn K mainGlobals "ValueError" = some none)
    (xs : PySem.W.subIn K (.ref e5) (.type "BaseException") = some true)
    (xq : PySem.W.specialIn K (.builtin "object.__class__") "__get__" = some (some (.builtin "getset_descriptor.__get__")))
    (xp : PySem.W.takesIn K (.builtin "object.__class__") = some true)
    (xg2 : PySem.W.findIn K (.ref e2) "__getattribute__" = some (some (.builtin "BaseException.__getattribute__")))
    (xh2 : PySem.W.findIn K (.ref e2) "__getattr__" = some none)
    (xd2 : PySem.W.hasDictIn K e2 = true)
    (xc2 : PySem.W.findIn K (.ref e2) "__class__" = some (some (.builtin "object.__class__")))
    (xm2 : PySem.W.mroIn K e2 (.type "object") = some true)
    (xi2_0 : PySem.W.kitOne K (.ref e2) (.ref e0) = some false)
    (xi2_1 : PySem.W.kitOne K (.ref e2) (.ref e1) = some false)
    (xi2_2 : PySem.W.kitOne K (.ref e2) (.ref e2) = some true)
    (xi2_3 : PySem.W.kitOne K (.ref e2) (.ref e3) = some false)
    (xi2_4 : PySem.W.kitOne K (.ref e2) (.ref e4) = some false)
    (xw2 : PySem.W.kitOne K (.ref e2) (.type "ValueError") = some true)
    (xz2 : PySem.W.kitOne K (.ref e2) (.ref e5) = some true)
    (xn2 : e2 ≠ e5)
    : ∃ fd : FuncData, (∀ (s : Shared) (u : Value), BindsTo s fd ⟨[u], []⟩ [("_law_script", u)]) ∧ ∀ base : Heap, K.In base → base.Ns mainGlobals mg → FnOk P0 w K mg base CX0 5 fa fd ["_law_script"] (spLaw K) := by
  have e := hfa.symm.trans (PySem.W.mg_of X G a13)
  cases e
  have B : Bas ksL glL dtL w K mg := ⟨by decide +kernel, by decide +kernel, fun x hx => by
    have hx : x ∈ (["len", "isinstance", "int", "bool", "str", "tuple", "list", "range", "min", "max", "any", "enumerate", "zip", "dict", "sorted"] : List Str) := hx
    simp only [List.mem_cons, List.not_mem_nil, or_false] at hx
    rcases hx with rfl | rfl | rfl | rfl | rfl | rfl | rfl | rfl | rfl | rfl | rfl | rfl | rfl | rfl | rfl
    · exact PySem.W.mg_none_of X G z0
    · exact PySem.W.mg_none_of X G z1
    · exact PySem.W.mg_none_of X G z2
    · exact PySem.W.mg_none_of X G z3
    · exact PySem.W.mg_none_of X G z4
    · exact PySem.W.mg_none_of X G z5
    · exact PySem.W.mg_none_of X G z6
    · exact PySem.W.mg_none_of X G z7
    · exact PySem.W.mg_none_of X G z8
    · exact PySem.W.mg_none_of X G z9
    · exact PySem.W.mg_none_of X G z10
    · exact PySem.W.mg_none_of X G z11
    · exact PySem.W.mg_none_of X G z12
    · exact PySem.W.mg_none_of X G z13
    · exact PySem.W.mg_none_of X G z14, fun i x e => by simp at e, fun i x e => by simp at e⟩
  have F1 := fun_mk (st := s_value_by) l1 c1 k1
  have F2 := fun_mk (st := s_mixed) l2 c2 k2
  have F3 := fun_mk (st := s_start_by) l3 c3 k3
  have F4 := fun_mk (st := s_deed_by) l4 c4 k4
  have F5 := fun_mk (st := s_p_is_value) l5 c5 k5
  have F6 := fun_mk (st := s_p_is_deed) l6 c6 k6
  have F7 := fun_mk (st := s_p_played_k01) l7 c7 k7
  have F8 := fun_mk (st := s_alike) l8 c8 k8
  have F9 := fun_mk (st := s_cell_at) l9 c9 k9
  have F10 := fun_mk (st := s_odd_k01) l10 c10 k10
  have F11 := fun_mk (st := s_played) l11 c11 k11
  have F12 := fun_mk (st := s_refused_k01) l12 c12 k12
  have F13 := fun_mk (st := s_law_k01) l13 c13 k13
  have F14 := fun_mk (st := s_alone) l14 c14 k14
  refine ⟨PySem.W.fnOf "law" "law" (defArgs s_law_k01) (defBody s_law_k01) (defScope s_law_k01) .none kV13 dc13 pm13 an13 cd13 ct13, fun s u => .of_eq rfl, fun base hKb hNb => law_fn (ks := ksL) ?_⟩
  have CL : ClsM (cvOf [e0, e1, e2, e3, e4]) K mg 0 xcL := (.cons e0 rfl (PySem.W.mg_of X G xa0) xe0 xk0 xb0 xy0 (.cons e1 rfl (PySem.W.mg_of X G xa1) xe1 xk1 xb1 xy1 (.cons e2 rfl (PySem.W.mg_of X G xa2) xe2 xk2 xb2 xy2 (.cons e3 rfl (PySem.W.mg_of X G xa3) xe3 xk3 xb3 xy3 (.cons e4 rfl (PySem.W.mg_of X G xa4) xe4 xk4 xb4 xy4 .nil)))))
  have bi : mg "isinstance" = none := PySem.W.mg_none_of X G z1
  have bn : mg "int" = none := PySem.W.mg_none_of X G z2
  have bv : mg "ValueError" = none := PySem.W.mg_none_of X G xv
  have CF2 : ClsF K mg xcL 2 e2 := ⟨⟨xg2, xh2, xb2, xd2, xc2, xq, xp, xm2⟩, fun i x e => by
    match i, e with
    | 0, e => cases e; exact ⟨e0, PySem.W.mg_of X G xa0, xi2_0⟩
    | 1, e => cases e; exact ⟨e1, PySem.W.mg_of X G xa1, xi2_1⟩
    | 2, e => cases e; exact ⟨e2, PySem.W.mg_of X G xa2, xi2_2⟩
    | 3, e => cases e; exact ⟨e3, PySem.W.mg_of X G xa3, xi2_3⟩
    | 4, e => cases e; exact ⟨e4, PySem.W.mg_of X G xa4, xi2_4⟩
    | i + 5, e => simp at e, xw2⟩
  have AL2 : AloneOk P0 w K mg base 1 f14 _ "_law_e" e2 := al_ok bi bv bn F14 1 CF2 rfl rfl
  have XE : XCs P0 w K mg base (cvOf [e0, e1, e2, e3, e4]) xcL "_law_alone" 1 [2] := ⟨bi, bv, bn, .ref e5, f14, _, "_law_e", PySem.W.mg_of X G xt, PySem.W.mg_of X G a14, k14, F14.binds (ps := ["_law_e"]) (fun _ _ _ _ _ _ us hl => match us, hl with | [_], _ => rfl), fun c hc => by
    simp only [List.mem_cons, List.not_mem_nil, or_false] at hc
    rcases hc with rfl
    · exact ⟨e2, rfl, CF2, exm_of xs xn2 xz2, AL2⟩⟩
  have C_value_by : Cal ksL P0 w K mg base "_law_value_by" S_value_by 1 := cal_value_by (k := 0) B .nil F1 (PySem.W.mg_of X G a1)
  have C_mixed : Cal ksL P0 w K mg base "_law_mixed" S_mixed 1 := cal_mixed (k := 0) B .nil F2 (PySem.W.mg_of X G a2)
  have C_start_by : Cal ksL P0 w K mg base "_law_start_by" S_start_by 2 := cal_start_by (k := 1) B (.cons (C_value_by.up (by decide)) (.cons (C_mixed.up (by decide)) .nil)) F3 (PySem.W.mg_of X G a3)
  have C_deed_by : Cal ksL P0 w K mg base "_law_deed_by" S_deed_by 2 := cal_deed_by (k := 1) B (.cons (C_value_by.up (by decide)) .nil) F4 (PySem.W.mg_of X G a4)
  have C_p_is_value : Cal ksL P0 w K mg base "is_value" S_p_is_value 1 := cal_p_is_value (k := 0) B .nil F5 (PySem.W.mg_of X G a5)
  have C_p_is_deed : Cal ksL P0 w K mg base "is_deed" S_p_is_deed 2 := cal_p_is_deed (k := 1) B (.cons (C_p_is_value.up (by decide)) .nil) F6 (PySem.W.mg_of X G a6)
  have C_p_played : Cal ksL P0 w K mg base "played" S_p_played_k01 3 := cal_p_played_k01 (k := 2) B (.cons (C_p_is_deed.up (by decide)) .nil) F7 (PySem.W.mg_of X G a7)
  have C_alike : Cal ksL P0 w K mg base "_law_alike" S_alike 1 := cal_alike (k := 0) B .nil F8 (PySem.W.mg_of X G a8)
  have C_cell_at : Cal ksL P0 w K mg base "_law_cell_at" S_cell_at 2 := cal_cell_at (k := 1) B (.cons (C_mixed.up (by decide)) .nil) F9 (PySem.W.mg_of X G a9)
  have C_odd : Cal ksL P0 w K mg base "_law_odd" S_odd_k01 1 := cal_odd_k01 (k := 0) B .nil F10 (PySem.W.mg_of X G a10)
  have C_played : Cal ksL P0 w K mg base "_law_played" S_played 1 := cal_played (k := 0) B .nil F11 (PySem.W.mg_of X G a11)
  have C_x_p_played : CalX ksL (cvOf [e0, e1, e2, e3, e4]) P0 w K mg base "played" S_x_p_played 3 := cal_x_p_played (k := 2) B (.cons (C_p_is_deed.up (by decide)) .nil) .nil CL F7 (PySem.W.mg_of X G a7)
  have C_refused : Cal ksL P0 w K mg base "_law_refused" S_refused_k01 4 := cal_refused_k01 (k := 3) (cv := (cvOf [e0, e1, e2, e3, e4])) B .nil (.cons (C_x_p_played.up (by decide)) .nil) (XE.up (by decide) (by decide)) F12 (PySem.W.mg_of X G a12)
  exact law_ok (k := 4) B (.cons (C_start_by.up (by decide)) (.cons (C_deed_by.up (by decide)) (.cons (C_p_played.up (by decide)) (.cons (C_alike.up (by decide)) (.cons (C_cell_at.up (by decide)) (.cons (C_odd.up (by decide)) (.cons (C_played.up (by decide)) (.cons (C_value_by.up (by decide)) (.cons (C_refused.up (by decide)) .nil))))))))) F13
end DW
open PySem PySem.W PyProof.Rows in
set_option maxRecDepth 100000 in
set_option maxHeartbeats 0 in
theorem PySem.Challenge.cw_swaptower_k01_deeds_played_holds : PySem.Challenge.rw_swaptower_k01_deeds_played.Holds := by
  w_on; o_law; k_head; (case hw => w_witness2)
  k_fill
  refine DW.law_walk (l := PySem.Challenge.rw_swaptower_k01_deeds_played) (k := 5) ⟨rfl, by decide, by decide⟩ rfl rfl (fun w h Y => PySem.W.kIn_of Y) ?F
  case F =>
    intro w mg fa h KX G hmg
    refine' DW.all_mk KX G hmg ?a1 ?l1 ?c1 ?k1 ?a2 ?l2 ?c2 ?k2 ?a3 ?l3 ?c3 ?k3 ?a4 ?l4 ?c4 ?k4 ?a5 ?l5 ?c5 ?k5 ?a6 ?l6 ?c6 ?k6 ?a7 ?l7 ?c7 ?k7 ?a8 ?l8 ?c8 ?k8 ?a9 ?l9 ?c9 ?k9 ?a10 ?l10 ?c10 ?k10 ?a11 ?l11 ?c11 ?k11 ?a12 ?l12 ?c12 ?k12 ?a13 ?l13 ?c13 ?k13 ?a14 ?l14 ?c14 ?k14 ?z0 ?z1 ?z2 ?z3 ?z4 ?z5 ?z6 ?z7 ?z8 ?z9 ?z10 ?z11 ?z12 ?z13 ?z14 ?xa0 ?xe0 ?xk0 ?xb0 ?xy0 ?xa1 ?xe1 ?xk1 ?xb1 ?xy1 ?xa2 ?xe2 ?xk2 ?xb2 ?xy2 ?xa3 ?xe3 ?xk3 ?xb3 ?xy3 ?xa4 ?xe4 ?xk4 ?xb4 ?xy4 ?xt ?xv ?xs ?xq ?xp ?xg2 ?xh2 ?xd2 ?xc2 ?xm2 ?xi2_0 ?xi2_1 ?xi2_2 ?xi2_3 ?xi2_4 ?xw2 ?xz2 ?xn2
    (case a1 => k_is)
    (case l1 => k_is)
    (case c1 => k_is)
    (case k1 => k_is)
    (case a2 => k_is)
    (case l2 => k_is)
    (case c2 => k_is)
    (case k2 => k_is)
    (case a3 => k_is)
    (case l3 => k_is)
    (case c3 => k_is)
    (case k3 => k_is)
    (case a4 => k_is)
    (case l4 => k_is)
    (case c4 => k_is)
    (case k4 => k_is)
    (case a5 => k_is)
    (case l5 => k_is)
    (case c5 => k_is)
    (case k5 => k_is)
    (case a6 => k_is)
    (case l6 => k_is)
    (case c6 => k_is)
    (case k6 => k_is)
    (case a7 => k_is)
    (case l7 => k_is)
    (case c7 => k_is)
    (case k7 => k_is)
    (case a8 => k_is)
    (case l8 => k_is)
    (case c8 => k_is)
    (case k8 => k_is)
    (case a9 => k_is)
    (case l9 => k_is)
    (case c9 => k_is)
    (case k9 => k_is)
    (case a10 => k_is)
    (case l10 => k_is)
    (case c10 => k_is)
    (case k10 => k_is)
    (case a11 => k_is)
    (case l11 => k_is)
    (case c11 => k_is)
    (case k11 => k_is)
    (case a12 => k_is)
    (case l12 => k_is)
    (case c12 => k_is)
    (case k12 => k_is)
    (case a13 => k_is)
    (case l13 => k_is)
    (case c13 => k_is)
    (case k13 => k_is)
    (case a14 => k_is)
    (case l14 => k_is)
    (case c14 => k_is)
    (case k14 => k_is)
    (case z0 => k_is)
    (case z1 => k_is)
    (case z2 => k_is)
    (case z3 => k_is)
    (case z4 => k_is)
    (case z5 => k_is)
    (case z6 => k_is)
    (case z7 => k_is)
    (case z8 => k_is)
    (case z9 => k_is)
    (case z10 => k_is)
    (case z11 => k_is)
    (case z12 => k_is)
    (case z13 => k_is)
    (case z14 => k_is)
    (case xa0 => k_is)
    (case xe0 => k_exc)
    (case xk0 => k_is)
    (case xb0 => k_is)
    (case xy0 => k_is)
    (case xa1 => k_is)
    (case xe1 => k_exc)
    (case xk1 => k_is)
    (case xb1 => k_is)
    (case xy1 => k_is)
    (case xa2 => k_is)
    (case xe2 => k_exc)
    (case xk2 => k_is)
    (case xb2 => k_is)
    (case xy2 => k_is)
    (case xa3 => k_is)
    (case xe3 => k_exc)
    (case xk3 => k_is)
    (case xb3 => k_is)
    (case xy3 => k_is)
    (case xa4 => k_is)
    (case xe4 => k_exc)
    (case xk4 => k_is)
    (case xb4 => k_is)
    (case xy4 => k_is)
    (case xt => k_is)
    (case xv => k_is)
    (case xs => k_is)
    (case xq => k_is)
    (case xp => k_is)
    (case xg2 => k_is)
    (case xh2 => k_is)
    (case xd2 => k_is)
    (case xc2 => k_is)
    (case xm2 => k_is)
    (case xi2_0 => kit_is)
    (case xi2_1 => kit_is)
    (case xi2_2 => kit_is)
    (case xi2_3 => kit_is)
    (case xi2_4 => kit_is)
    (case xw2 => kit_is)
    (case xz2 => kit_is)
    (case xn2 => decide)
