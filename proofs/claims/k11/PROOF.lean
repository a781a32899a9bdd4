import PyProof.Rows.All
import Wide.All
import OpenK.AllK
import Wide.FinOn
import HandS.ForMost
import HandS.ForExc
import HandS.SetKeys
import HandS.Deep
import HandS.TupAny
import HandS.TupMul
import HandS.Conv
import HandS.IsInst
import HandS.Walk
import KE.SortData
import HandS.ListItems
import HandS.DictComp
import HandS.List
import PySem.Challenge.RW_notfound_k11_whole_layers
set_option Elab.async false
set_option linter.all false
set_option maxRecDepth 100000
namespace L2.Nf
open PySem PySem.Spec PyProof.Rows

/-! ## plain data -/
inductive D where
  | non | bl (b : Bool) | int (i : Int) | str (x : Str)
  | lst (xs : List D) | tup (xs : List D)
  | dK (kvs : List (Key × D)) | dT (kvs : List (List Key × D))
  | obj (xs : List D)

/-- an answer: a value, an exception of a class, or nothing that is told -/
inductive Ro (α : Type) where
  | ok (a : α) | xc (c : Str) | bad
namespace Ro
def bind {α β : Type} (r : Ro α) (k : α → Ro β) : Ro β := match r with
  | ok a => k a
  | xc c => xc c
  | bad => bad
@[simp] theorem bind_ok {α β : Type} (a : α) (k : α → Ro β) : (ok a).bind k = k a := rfl
@[simp] theorem bind_xc {α β : Type} (c : Str) (k : α → Ro β) : (xc c : Ro α).bind k = xc c := rfl
@[simp] theorem bind_bad {α β : Type} (k : α → Ro β) : (bad : Ro α).bind k = bad := rfl
/-- what is asked of an answer -/
def post {α : Type} (r : Ro α) (k : α → Prop) (x : Str → Prop) : Prop := match r with
  | ok a => k a
  | xc c => x c
  | bad => False
theorem post_ite {α : Type} {c : Prop} [Decidable c] {a : α} {k : α → Prop} {x : Str → Prop} (h : (if c then ok a else bad).post k x) : c ∧ k a := by
  by_cases hc : c
  · rw [if_pos hc] at h; exact ⟨hc, h⟩
  · rw [if_neg hc] at h; exact h.elim
end Ro

/-! ## how data lies in the abstract heap -/
structure Pt where
  C : Addr
  ca : Str → Addr
def strC (x : Str) : Bool := PyData.strOk x && decide (x.length ≤ sizeLine)
theorem strC_ok {x : Str} (h : strC x = true) : PyData.strOk x = true ∧ x.length ≤ sizeLine := by
  unfold strC at h
  rw [Bool.and_eq_true] at h
  exact ⟨h.1, of_decide_eq_true h.2⟩
theorem strC_of {x : Str} (h : PyData.strOk x = true) (hl : x.length ≤ sizeLine) : strC x = true := by
  unfold strC
  rw [h, decide_eq_true hl]
  rfl
def keyC : Key → Bool
  | .inl _ => true
  | .inr x => strC x
def keysC (ks : List Key) : Bool := ks.all keyC
def vdNames : List Str := ["filled", "story", "left", "words"]

inductive Rep (p : Pt) (F : Hp) : V → D → Prop where
  | non : Rep p F .non .non
  | bl (b : Bool) : Rep p F (.bl b) (.bl b)
  | int (i : Int) : Rep p F (.int i) (.int i)
  | str (x : Str) (h : PyData.strOk x = true) (hl : x.length ≤ sizeLine) : Rep p F (.str x) (.str x)
  | lst {a : Addr} {vs : List V} {ds : List D} (h : F a = some (.lst vs)) (hl : vs.length = ds.length) (hi : ∀ (i : Nat) (v : V) (d : D), vs[i]? = some v → ds[i]? = some d → Rep p F v d) : Rep p F (.ref a) (.lst ds)
  | tup {a : Addr} {vs : List V} {ds : List D} (h : F a = some (.tup vs)) (hl : vs.length = ds.length) (hi : ∀ (i : Nat) (v : V) (d : D), vs[i]? = some v → ds[i]? = some d → Rep p F v d) : Rep p F (.ref a) (.tup ds)
  | dK {a : Addr} {kvs : List (Key × V)} {es : List (Key × D)} (h : F a = some (.dK kvs)) (hk : kvs.map (·.1) = es.map (·.1)) (hs : ∀ e ∈ es, keyC e.1 = true) (hi : ∀ (i : Nat) (v : Key × V) (d : Key × D), kvs[i]? = some v → es[i]? = some d → Rep p F v.2 d.2) : Rep p F (.ref a) (.dK es)
  | dT {a : Addr} {kvs : List (List Key × V)} {es : List (List Key × D)} (h : F a = some (.dT kvs)) (hk : kvs.map (·.1) = es.map (·.1)) (hs : ∀ e ∈ es, keysC e.1 = true) (hi : ∀ (i : Nat) (v : List Key × V) (d : List Key × D), kvs[i]? = some v → es[i]? = some d → Rep p F v.2 d.2) : Rep p F (.ref a) (.dT es)
  | obj {a dx : Addr} {fs : List (Str × V)} {ds : List D} (h : F a = some (.ins p.C dx fs)) (hk : fs.map (·.1) = vdNames) (hl : fs.length = ds.length) (hi : ∀ (i : Nat) (v : Str × V) (d : D), fs[i]? = some v → ds[i]? = some d → Rep p F v.2 d) : Rep p F (.ref a) (.obj ds)

theorem Rep.same {p : Pt} {F F' : Hp} {v : V} {d : D} (r : Rep p F v d) (s : Same F F') : Rep p F' v d := by
  induction r with
  | non => exact .non
  | bl b => exact .bl b
  | int i => exact .int i
  | str x h hl => exact .str x h hl
  | lst h hl _ ih => exact .lst (s _ _ h) hl ih
  | tup h hl _ ih => exact .tup (s _ _ h) hl ih
  | dK h hk hs _ ih => exact .dK (s _ _ h) hk hs ih
  | dT h hk hs _ ih => exact .dT (s _ _ h) hk hs ih
  | obj h hk hl _ ih => exact .obj (s _ _ h) hk hl ih

/-- item by item -/
def Each {α β : Type} (R : α → β → Prop) (xs : List α) (ys : List β) : Prop := xs.length = ys.length ∧ ∀ (i : Nat) (x : α) (y : β), xs[i]? = some x → ys[i]? = some y → R x y
theorem Each.mono {α β : Type} {R S : α → β → Prop} {xs : List α} {ys : List β} (h : Each R xs ys) (k : ∀ x y, R x y → S x y) : Each S xs ys := ⟨h.1, fun i x y a b => k x y (h.2 i x y a b)⟩
theorem Each.nil {α β : Type} {R : α → β → Prop} : Each R [] [] := ⟨rfl, fun i x y a _ => by simp at a⟩
theorem Each.cons {α β : Type} {R : α → β → Prop} {x : α} {y : β} {xs : List α} {ys : List β} (r : R x y) (h : Each R xs ys) : Each R (x :: xs) (y :: ys) := by
  refine ⟨by simp [h.1], fun i a b ha hb => ?_⟩
  cases i with
  | zero => simp at ha hb; subst ha; subst hb; exact r
  | succ i => exact h.2 i a b (by simpa using ha) (by simpa using hb)
theorem Each.inv {α β : Type} {R : α → β → Prop} {x : α} {y : β} {xs : List α} {ys : List β} (h : Each R (x :: xs) (y :: ys)) : R x y ∧ Each R xs ys :=
  ⟨h.2 0 x y rfl rfl, by simpa using h.1, fun i a b ha hb => h.2 (i + 1) a b (by simpa using ha) (by simpa using hb)⟩
theorem Each.get {α β : Type} {R : α → β → Prop} {xs : List α} {ys : List β} (h : Each R xs ys) {i : Nat} {y : β} (hy : ys[i]? = some y) : ∃ x, xs[i]? = some x ∧ R x y := by
  have hi : i < xs.length := by rw [h.1]; exact (List.getElem?_eq_some_iff.mp hy).1
  exact ⟨xs[i], by simp [hi], h.2 i _ y (by simp [hi]) hy⟩
theorem Each.getL {α β : Type} {R : α → β → Prop} {xs : List α} {ys : List β} (h : Each R xs ys) {i : Nat} {x : α} (hx : xs[i]? = some x) : ∃ y, ys[i]? = some y ∧ R x y := by
  have hi : i < ys.length := by rw [← h.1]; exact (List.getElem?_eq_some_iff.mp hx).1
  exact ⟨ys[i], by simp [hi], h.2 i x _ hx (by simp [hi])⟩
theorem Each.append {α β : Type} {R : α → β → Prop} {xs xs' : List α} {ys ys' : List β} (h : Each R xs ys) (h' : Each R xs' ys') : Each R (xs ++ xs') (ys ++ ys') := by
  refine ⟨by simp [h.1, h'.1], fun i x y hx hy => ?_⟩
  by_cases hi : i < xs.length
  · rw [List.getElem?_append_left hi] at hx
    rw [List.getElem?_append_left (by rw [← h.1]; exact hi)] at hy
    exact h.2 i x y hx hy
  · rw [List.getElem?_append_right (by omega)] at hx
    rw [List.getElem?_append_right (by rw [← h.1]; omega), ← h.1] at hy
    exact h'.2 _ x y hx hy
theorem Each.drop {α β : Type} {R : α → β → Prop} {xs : List α} {ys : List β} (h : Each R xs ys) (n : Nat) : Each R (xs.drop n) (ys.drop n) :=
  ⟨by simp [h.1], fun i x y hx hy => h.2 (n + i) x y (by simpa using hx) (by simpa using hy)⟩
theorem Each.take {α β : Type} {R : α → β → Prop} {xs : List α} {ys : List β} (h : Each R xs ys) (n : Nat) : Each R (xs.take n) (ys.take n) := by
  refine ⟨by simp [h.1], fun i x y hx hy => ?_⟩
  rw [List.getElem?_take] at hx hy
  split at hx
  · rename_i hi; rw [if_pos hi] at hy; exact h.2 i x y hx hy
  · cases hx
theorem Each.set {α β : Type} {R : α → β → Prop} {xs : List α} {ys : List β} {x : α} {y : β} (h : Each R xs ys) (r : R x y) (n : Nat) : Each R (xs.set n x) (ys.set n y) := by
  refine ⟨by simp [h.1], fun i a b ha hb => ?_⟩
  rw [List.getElem?_set] at ha hb
  split at ha
  · rename_i hn
    rw [if_pos hn] at hb
    split at ha
    · split at hb
      · cases ha; cases hb; exact r
      · cases hb
    · cases ha
  · rename_i hn; rw [if_neg hn] at hb; exact h.2 i a b ha hb
theorem Each.map_left {α β γ : Type} {R : α → β → Prop} {f : γ → α} {xs : List γ} {ys : List β} : Each R (xs.map f) ys ↔ Each (fun x y => R (f x) y) xs ys := by
  constructor
  · intro h
    exact ⟨by simpa using h.1, fun i x y hx hy => h.2 i _ y (by simp [hx]) hy⟩
  · intro h
    refine ⟨by simpa using h.1, fun i x y hx hy => ?_⟩
    rw [List.getElem?_map] at hx
    cases e : xs[i]? with
    | none => rw [e] at hx; cases hx
    | some z => rw [e] at hx; cases hx; exact h.2 i z y e hy

/-- what a name owns: it may be changed -/
inductive Own (p : Pt) (F H : Hp) : Addr → D → Prop where
  | lst {a : Addr} {vs : List V} {ds : List D} (h : H a = some (.lst vs)) (e : Each (Rep p F) vs ds) : Own p F H a (.lst ds)
  | dK {a : Addr} {kvs : List (Key × V)} {es : List (Key × D)} (h : H a = some (.dK kvs)) (hk : kvs.map (·.1) = es.map (·.1)) (hs : ∀ e ∈ es, keyC e.1 = true) (hi : ∀ (i : Nat) (v : Key × V) (d : Key × D), kvs[i]? = some v → es[i]? = some d → Rep p F v.2 d.2) : Own p F H a (.dK es)
  | dT {a : Addr} {kvs : List (List Key × V)} {es : List (List Key × D)} (h : H a = some (.dT kvs)) (hk : kvs.map (·.1) = es.map (·.1)) (hs : ∀ e ∈ es, keysC e.1 = true) (hi : ∀ (i : Nat) (v : List Key × V) (d : List Key × D), kvs[i]? = some v → es[i]? = some d → Rep p F v.2 d.2) : Own p F H a (.dT es)
theorem Own.same {p : Pt} {F F' H H' : Hp} {a : Addr} {d : D} (o : Own p F H a d) (s : Same F F') (e : ∀ o, H a = some o → H' a = some o) : Own p F' H' a d := by
  cases o with
  | lst h x => exact .lst (e _ h) (x.mono fun _ _ r => r.same s)
  | dK h hk hs x => exact .dK (e _ h) hk hs fun i v d a b => (x i v d a b).same s
  | dT h hk hs x => exact .dT (e _ h) hk hs fun i v d a b => (x i v d a b).same s
theorem Own.obj {p : Pt} {F H : Hp} {a : Addr} {d : D} (o : Own p F H a d) : ∃ u, H a = some u ∧ ∀ vs, u ≠ .tup vs := by
  cases o with
  | lst h x => exact ⟨_, h, fun _ z => by cases z⟩
  | dK h hk hs x => exact ⟨_, h, fun _ z => by cases z⟩
  | dT h hk hs x => exact ⟨_, h, fun _ z => by cases z⟩
/-- what is owned, looked at as data that stay -/
theorem Own.rep {p : Pt} {F H F' : Hp} {a : Addr} {d : D} (o : Own p F H a d) (s : Same F F') (e : ∀ o, H a = some o → F' a = some o) : Rep p F' (.ref a) d := by
  cases o with
  | lst h x => exact .lst (e _ h) x.1 fun i v d a b => (x.2 i v d a b).same s
  | dK h hk hs x => exact .dK (e _ h) hk hs fun i v d a b => (x i v d a b).same s
  | dT h hk hs x => exact .dT (e _ h) hk hs fun i v d a b => (x i v d a b).same s
/-- the script -/
def Scr (K : PySem.W.Frag) (p : Pt) (F H : Hp) (v : V) (d : D) : Prop := ∃ a vs ds, v = .ref a ∧ d = .lst ds ∧ SqL K H a vs ∧ Each (Rep p F) vs ds
theorem Scr.same {K : PySem.W.Frag} {p : Pt} {F F' H H' : Hp} {v : V} {d : D} (o : Scr K p F H v d) (s : Same F F') (e : Same H H') : Scr K p F' H' v d :=
  let ⟨a, vs, ds, h1, h2, h3, h4⟩ := o
  ⟨a, vs, ds, h1, h2, e.seq h3, h4.mono fun _ _ r => r.same s⟩

/-- the frozen part and the heap grow -/
structure Ext (F H F' H' : Hp) : Prop where
  ff : Same F F'
  hh : Same H H'
  fh : Same F' H'
  nw : ∀ b o, F b = none → H b = some o → (∀ vs, o ≠ .tup vs) → F' b = none
theorem Ext.refl {F H : Hp} (h : Same F H) : Ext F H F H := ⟨.refl _, .refl _, h, fun _ _ a _ _ => a⟩
theorem Ext.trans {F H F1 H1 F2 H2 : Hp} (a : Ext F H F1 H1) (b : Ext F1 H1 F2 H2) : Ext F H F2 H2 :=
  ⟨a.ff.trans b.ff, a.hh.trans b.hh, b.fh, fun c o h1 h2 h3 => b.nw c o (a.nw c o h1 h2 h3) (a.hh _ _ h2) h3⟩
/-- a new object, not frozen -/
theorem Ext.new {F H F' H' : Hp} {q : Addr} {o : HO} (e : Ext F H F' H') (hq : H' q = none) : Ext F H F' (upd H' q o) :=
  ⟨e.ff, fun b u h => by rw [upd_ne (ne_of_none (e.hh _ _ h) hq)]; exact e.hh _ _ h, fun b u h => by rw [upd_ne (ne_of_none (e.fh _ _ h) hq)]; exact e.fh _ _ h, e.nw⟩
/-- an object that is new, or a tuple, frozen -/
theorem Ext.frz {F H F' H' : Hp} {q : Addr} {o : HO} (e : Ext F H F' H') (hq : H' q = some o) (hf : F' q = none ∨ F' q = some o) (hn : H q = none ∨ ∃ vs, o = .tup vs) : Ext F H (upd F' q o) H' := by
  have s : Same F' (upd F' q o) := fun b u h => by
    by_cases hb : b = q
    · subst hb
      rcases hf with z | z
      · rw [z] at h; cases h
      · rw [z] at h; cases h; exact upd_same
    · rw [upd_ne hb]; exact h
  refine ⟨e.ff.trans s, e.hh, fun b u h => ?_, fun b u h1 h2 h3 => ?_⟩
  · by_cases hb : b = q
    · subst hb; rw [upd_same] at h; cases h; exact hq
    · rw [upd_ne hb] at h; exact e.fh _ _ h
  · by_cases hb : b = q
    · subst hb
      rcases hn with z | ⟨vs, rfl⟩
      · rw [z] at h2; cases h2
      · have := e.hh _ _ h2
        rw [hq] at this; cases this
        exact absurd rfl (h3 vs)
    · rw [upd_ne hb]; exact e.nw b u h1 h2 h3
theorem same_frz {F : Hp} {q : Addr} {o : HO} (hf : F q = none ∨ F q = some o) : Same F (upd F q o) := fun b u h => by
  by_cases hb : b = q
  · subst hb
    rcases hf with z | z
    · rw [z] at h; cases h
    · rw [z] at h; cases h; exact upd_same
  · rw [upd_ne hb]; exact h

/-! ## the frame -/
inductive Md where
  | any | val | bor | own | scr | duo (c a b : Addr)
  deriving DecidableEq
abbrev Gm := List (Option D)
def SlotOk (K : PySem.W.Frag) (p : Pt) (F0 H0 F H : Hp) (m : Md) (g : Option D) (s : Option V) : Prop := match m with
  | .any => True
  | .val => ∃ v d, s = some v ∧ g = some d ∧ Rep p F v d
  | .bor => ∃ v d, s = some v ∧ g = some d ∧ (Rep p F v d ∨ ∃ a, v = .ref a ∧ Own p F0 H0 a d)
  | .own => ∃ a d, s = some (.ref a) ∧ g = some d ∧ F a = none ∧ H0 a = none ∧ Own p F H a d
  | .scr => ∃ v d, s = some v ∧ g = some d ∧ (Rep p F v d ∨ (∃ a, v = .ref a ∧ Own p F0 H0 a d) ∨ Scr K p F0 H0 v d)
  | .duo c a b => ∃ d1 d2, s = some (.ref c) ∧ g = some (.lst [d1, d2]) ∧ H0 c = some (.lst [.ref a, .ref b]) ∧ Own p F0 H0 a d1 ∧ Own p F0 H0 b d2
structure Env (K : PySem.W.Frag) (p : Pt) (F0 H0 : Hp) (M : List Md) (Γ : Gm) (F : Hp) (σ : St) (H : Hp) : Prop where
  ext : Ext F0 H0 F H
  lg : Γ.length = M.length
  ls : σ.length = M.length
  slot : ∀ (i : Nat) m g s, M[i]? = some m → Γ[i]? = some g → σ[i]? = some s → SlotOk K p F0 H0 F H m g s
  apart : ∀ (i j : Nat) a, M[i]? = some .own → M[j]? = some .own → σ[i]? = some (some (.ref a)) → σ[j]? = some (some (.ref a)) → i = j

section
variable {K : PySem.W.Frag} {p : Pt} {F0 H0 F H F' H' : Hp} {M : List Md} {Γ : Gm} {σ : St}
theorem Env.grow (E : Env K p F0 H0 M Γ F σ H) (e : Ext F H F' H') : Env K p F0 H0 M Γ F' σ H' := by
  refine ⟨E.ext.trans e, E.lg, E.ls, fun i m g s h1 h2 h3 => ?_, E.apart⟩
  have q := E.slot i m g s h1 h2 h3
  cases m with
  | any => trivial
  | val => obtain ⟨v, d, a, b, r⟩ := q; exact ⟨v, d, a, b, r.same e.ff⟩
  | bor => obtain ⟨v, d, a, b, r⟩ := q; exact ⟨v, d, a, b, r.imp (fun r => r.same e.ff) id⟩
  | own =>
    obtain ⟨a, d, x, y, f, h0, o⟩ := q
    obtain ⟨u, hu, nt⟩ := o.obj
    exact ⟨a, d, x, y, e.nw a u f hu nt, h0, o.same e.ff fun _ z => e.hh _ _ z⟩
  | scr => obtain ⟨v, d, a, b, r⟩ := q; exact ⟨v, d, a, b, r.imp (fun r => r.same e.ff) id⟩
  | duo c a b => exact q
theorem Env.getS (E : Env K p F0 H0 M Γ F σ H) {i : Nat} {m : Md} (h : M[i]? = some m) : ∃ g s, Γ[i]? = some g ∧ σ[i]? = some s ∧ SlotOk K p F0 H0 F H m g s := by
  have hi := (List.getElem?_eq_some_iff.mp h).1
  have h1 : i < Γ.length := by rw [E.lg]; exact hi
  have h2 : i < σ.length := by rw [E.ls]; exact hi
  exact ⟨Γ[i], σ[i], by simp [h1], by simp [h2], E.slot i m _ _ h (by simp [h1]) (by simp [h2])⟩
theorem Env.setVal (E : Env K p F0 H0 M Γ F σ H) {v : V} {d : D} (r : Rep p F v d) (i : Nat) : Env K p F0 H0 (M.set i .val) (Γ.set i (some d)) F (σ.set i (some v)) H := by
  refine ⟨E.ext, by simp [E.lg], by simp [E.ls], fun j m g s h1 h2 h3 => ?_, fun j k a h1 h2 h3 h4 => ?_⟩
  · rw [List.getElem?_set] at h1 h2 h3
    by_cases hj : i = j
    · rw [if_pos hj] at h1 h2 h3
      split at h1
      · split at h2
        · split at h3
          · cases h1; cases h2; cases h3
            exact ⟨v, d, rfl, rfl, r⟩
          · cases h3
        · cases h2
      · cases h1
    · rw [if_neg hj] at h1 h2 h3
      exact E.slot j m g s h1 h2 h3
  · have nj : i ≠ j := fun z => by
      subst z
      rw [List.getElem?_set] at h1
      rw [if_pos rfl] at h1
      split at h1 <;> cases h1
    have nk : i ≠ k := fun z => by
      subst z
      rw [List.getElem?_set] at h2
      rw [if_pos rfl] at h2
      split at h2 <;> cases h2
    rw [List.getElem?_set_ne nj] at h1 h3
    rw [List.getElem?_set_ne nk] at h2 h4
    exact E.apart j k a h1 h2 h3 h4
theorem Env.setOwn (E : Env K p F0 H0 M Γ F σ H) {a : Addr} {d : D} (f : F a = none) (h0 : H0 a = none) (o : Own p F H a d) (i : Nat)
    (nw : ∀ (j : Nat), i ≠ j → M[j]? = some .own → σ[j]? ≠ some (some (.ref a))) : Env K p F0 H0 (M.set i .own) (Γ.set i (some d)) F (σ.set i (some (.ref a))) H := by
  refine ⟨E.ext, by simp [E.lg], by simp [E.ls], fun j m g s h1 h2 h3 => ?_, fun j k b h1 h2 h3 h4 => ?_⟩
  · rw [List.getElem?_set] at h1 h2 h3
    by_cases hj : i = j
    · rw [if_pos hj] at h1 h2 h3
      split at h1
      · split at h2
        · split at h3
          · cases h1; cases h2; cases h3
            exact ⟨a, d, rfl, rfl, f, h0, o⟩
          · cases h3
        · cases h2
      · cases h1
    · rw [if_neg hj] at h1 h2 h3
      exact E.slot j m g s h1 h2 h3
  · have hs : ∀ (l : Nat), i = l → (σ.set i (some (V.ref a)))[l]? = some (some (.ref b)) → b = a := fun l e q => by
      subst e
      rw [List.getElem?_set, if_pos rfl] at q
      split at q
      · cases q; rfl
      · cases q
    by_cases hj : i = j <;> by_cases hk : i = k
    · rw [← hj, ← hk]
    · have e := hs j hj h3
      subst e
      rw [List.getElem?_set_ne hk] at h2 h4
      exact absurd h4 (nw k hk h2)
    · have e := hs k hk h4
      subst e
      rw [List.getElem?_set_ne hj] at h1 h3
      exact absurd h3 (nw j hj h1)
    · rw [List.getElem?_set_ne hj] at h1 h3
      rw [List.getElem?_set_ne hk] at h2 h4
      exact E.apart j k b h1 h2 h3 h4
/-- the object that a name owns is changed -/
theorem Env.chg (E : Env K p F0 H0 M Γ F σ H) {i : Nat} {a : Addr} {d : D} {u : HO} (hm : M[i]? = some .own) (hs : σ[i]? = some (some (.ref a))) (o : Own p F (upd H a u) a d) :
    Env K p F0 H0 M (Γ.set i (some d)) F σ (upd H a u) := by
  obtain ⟨g, s, hg, hs', q⟩ := E.getS hm
  obtain ⟨a', d', e1, e2, f, h0, o'⟩ := q
  rw [hs] at hs'; cases hs'; cases e1
  have fne : ∀ b x, F b = some x → b ≠ a := fun b x h z => by subst z; rw [f] at h; cases h
  have hne : ∀ b x, H0 b = some x → b ≠ a := fun b x h z => by subst z; rw [h0] at h; cases h
  refine ⟨⟨E.ext.ff, fun b x h => by rw [upd_ne (hne b x h)]; exact E.ext.hh _ _ h, fun b x h => by rw [upd_ne (fne b x h)]; exact E.ext.fh _ _ h, E.ext.nw⟩, by simp [E.lg], E.ls, fun j m g s h1 h2 h3 => ?_, E.apart⟩
  by_cases hj : i = j
  · subst hj
    rw [hm] at h1; cases h1
    rw [List.getElem?_set, if_pos rfl] at h2
    split at h2
    · cases h2
      rw [hs] at h3; cases h3
      exact ⟨a, d, rfl, rfl, f, h0, o⟩
    · cases h2
  · rw [List.getElem?_set_ne hj] at h2
    have q := E.slot j m g s h1 h2 h3
    cases m with
    | any => trivial
    | val => exact q
    | bor => exact q
    | own =>
      obtain ⟨b, d2, x1, x2, x3, x4, x5⟩ := q
      have hb : b ≠ a := fun z => by
        subst z; subst x1
        exact hj (E.apart i j b hm h1 hs h3)
      exact ⟨b, d2, x1, x2, x3, x4, x5.same (.refl _) fun z hz => by rw [upd_ne hb]; exact hz⟩
    | scr => exact q
    | duo c a b => exact q
/-- less is known -/
def Md.le : Md → Md → Bool
  | _, .any => true
  | .val, .val | .bor, .bor | .own, .own | .scr, .scr | .val, .bor => true
  | .duo c a b, .duo c2 a2 b2 => c == c2 && a == a2 && b == b2
  | _, _ => false
theorem Env.weak (E : Env K p F0 H0 M Γ F σ H) {M' : List Md} {Γ' : Gm} (hl : M'.length = M.length) (hg : Γ'.length = Γ.length) (h : ∀ (i : Nat) m', M'[i]? = some m' → m' = .any ∨ ∃ m, M[i]? = some m ∧ m.le m' = true ∧ Γ'[i]? = Γ[i]?) : Env K p F0 H0 M' Γ' F σ H := by
  refine ⟨E.ext, by rw [hg, hl, E.lg], by rw [hl, E.ls], fun i m g s h1 h2 h3 => ?_, fun i j a h1 h2 h3 h4 => ?_⟩
  · rcases h i m h1 with e | ⟨m0, e0, e1, e2⟩
    · subst e; trivial
    · rw [e2] at h2
      have q := E.slot i m0 g s e0 h2 h3
      cases m0 <;> cases m <;> first | trivial | exact q | (exact absurd e1 (by decide)) | (exact absurd e1 Bool.false_ne_true) | (simp only [Md.le, Bool.and_eq_true, beq_iff_eq] at e1; obtain ⟨⟨rfl, rfl⟩, rfl⟩ := e1; exact q) | (obtain ⟨v, d, a, b, r⟩ := q; exact ⟨v, d, a, b, .inl r⟩)
  · have ow : ∀ (l : Nat), M'[l]? = some .own → M[l]? = some .own := fun l hl => by
      rcases h l _ hl with e | ⟨m0, e0, e1, _⟩
      · cases e
      · cases m0 <;> first | exact e0 | exact absurd e1 (by decide) | exact absurd e1 Bool.false_ne_true
    exact E.apart i j a (ow i h1) (ow j h2) h3 h4
end
end L2.Nf

namespace L2.Nf
open PySem PySem.Spec PyProof.Rows

/-! ## kinds of a value in hand -/
inductive Kd where
  | rep | new | bst | top | sst | rd
  deriving DecidableEq
def RelK (K : PySem.W.Frag) (p : Pt) (k : Kd) (F0 H0 H F' H' : Hp) (v : V) (d : D) : Prop := match k with
  | .rep => Rep p F' v d
  | .new => ∃ a, v = .ref a ∧ F' a = none ∧ H a = none ∧ Own p F' H' a d
  | .bst => Rep p F' v d ∨ ∃ a, v = .ref a ∧ Own p F0 H0 a d
  | .top => Rep p F' v d ∨ ∃ a, v = .ref a ∧ Own p F' H' a d
  | .sst => Rep p F' v d ∨ (∃ a, v = .ref a ∧ Own p F0 H0 a d) ∨ Scr K p F0 H0 v d
  | .rd => Rep p F' v d ∨ (∃ a, v = .ref a ∧ Own p F' H' a d) ∨ Scr K p F' H' v d
def Kd.le : Kd → Kd → Bool
  | .new, _ => true
  | .rep, .new => false
  | .rep, _ => true
  | .bst, .bst | .bst, .top | .bst, .sst | .bst, .rd => true
  | .top, .top | .top, .rd => true
  | .sst, .sst | .sst, .rd => true
  | .rd, .rd => true
  | _, _ => false

abbrev EDen := Gm → Ro D
abbrev TDen := Gm → Ro Bool
abbrev ADen := Gm → Ro (List D)

/-- the reading of an expression against the plain function of the frame's data -/
def SE (X : Cx) (p : Pt) (W : WX) (M : List Md) (k : Kd) (t : TE) (f : EDen) : Prop :=
  ∀ (F0 H0 : Hp) (Γ : Gm) (F : Hp) (σ : St) (H : Hp) (Q : VK), Env X.K p F0 H0 M Γ F σ H →
    ((f Γ).post (fun d => ∀ v F' H', Ext F H F' H' → RelK X.K p k F0 H0 H F' H' v d → Q v H') (fun c => ∀ F' H', Ext F H F' H' → W (.ref (p.ca c)) none σ H')) → t σ H Q
def ST' (X : Cx) (p : Pt) (W : WX) (M : List Md) (t : TT) (f : TDen) : Prop :=
  ∀ (F0 H0 : Hp) (Γ : Gm) (F : Hp) (σ : St) (H : Hp) (Q : Bool → Hp → Prop), Env X.K p F0 H0 M Γ F σ H →
    ((f Γ).post (fun b => ∀ F' H', Ext F H F' H' → Q b H') (fun c => ∀ F' H', Ext F H F' H' → W (.ref (p.ca c)) none σ H')) → t σ H Q
/-- arguments, a kind each -/
def SA (X : Cx) (p : Pt) (W : WX) (M : List Md) (ks : List Kd) (t : TA) (f : ADen) : Prop :=
  ∀ (F0 H0 : Hp) (Γ : Gm) (F : Hp) (σ : St) (H : Hp) (Q : List V → Hp → Prop), Env X.K p F0 H0 M Γ F σ H →
    ((f Γ).post (fun ds => ∀ vs F' H', Ext F H F' H' → vs.length = ks.length → ds.length = ks.length → (∀ (i : Nat) k v d, ks[i]? = some k → vs[i]? = some v → ds[i]? = some d → RelK X.K p k F0 H0 H F' H' v d) → Q vs H') (fun c => ∀ F' H', Ext F H F' H' → W (.ref (p.ca c)) none σ H')) → t σ H Q
def PEk (X : Cx) (p : Pt) (W : WX) (M : List Md) (k : Kd) (e : Expr) (f : EDen) : Prop := ∃ t, PE X e t ∧ SE X p W M k t f
def PTk (X : Cx) (p : Pt) (W : WX) (M : List Md) (e : Expr) (f : TDen) : Prop := ∃ t, PT X e t ∧ ST' X p W M t f
def PAk (X : Cx) (p : Pt) (W : WX) (M : List Md) (ks : List Kd) (es : List Expr) (f : ADen) : Prop := ∃ t, PA X es t ∧ SA X p W M ks t f

section
variable {X : Cx} {p : Pt} {W : WX} {M : List Md} {F0 H0 H F F' H' F2 H2 : Hp} {v : V} {d : D}
/-- a kind goes on while things grow (a new thing is not new any more) -/
theorem RelK.grow {K : PySem.W.Frag} {k : Kd} (hk : k ≠ .new) (r : RelK K p k F0 H0 H F' H' v d) (e : Ext F' H' F2 H2) (Hz : Hp) : RelK K p k F0 H0 Hz F2 H2 v d := by
  cases k with
  | rep => exact (show Rep p F' v d from r).same e.ff
  | new => exact absurd rfl hk
  | bst => exact r.imp (fun r => r.same e.ff) id
  | top => exact r.imp (fun r => r.same e.ff) fun ⟨a, h, o⟩ => ⟨a, h, o.same e.ff fun _ z => e.hh _ _ z⟩
  | sst => exact r.imp (fun r => r.same e.ff) id
  | rd => exact r.imp (fun r => r.same e.ff) (Or.imp (fun ⟨a, h, o⟩ => ⟨a, h, o.same e.ff fun _ z => e.hh _ _ z⟩) fun s => s.same e.ff e.hh)
/-- a new thing frozen -/
theorem Own.freeze {a : Addr} (e : Ext F H F' H') (f : F' a = none) (h : H a = none) (o : Own p F' H' a d) : ∃ F2, Ext F H F2 H' ∧ Rep p F2 (.ref a) d := by
  obtain ⟨u, hu, _⟩ := o.obj
  exact ⟨upd F' a u, e.frz hu (.inl f) (.inl h), o.rep (same_frz (.inl f)) fun z hz => by rw [hu] at hz; cases hz; exact upd_same⟩
theorem RelK.cast {k k' : Kd} {K : PySem.W.Frag} (hk : k.le k' = true) (f0 : Ext F0 H0 F H) (e : Ext F H F' H') (r : RelK K p k F0 H0 H F' H' v d) : ∃ F2, Ext F H F2 H' ∧ RelK K p k' F0 H0 H F2 H' v d := by
  have e0 : Ext F0 H0 F' H' := f0.trans e
  have ro : ∀ {a}, Own p F0 H0 a d → Own p F' H' a d := fun o => o.same e0.ff fun _ z => e0.hh _ _ z
  cases k <;> cases k' <;> first
    | exact absurd hk (by decide)
    | exact ⟨F', e, r⟩
    | exact ⟨F', e, .inl r⟩
    | (obtain ⟨a, rfl, h1, h2, o⟩ := r
       obtain ⟨F2, e2, q⟩ := o.freeze e h1 h2
       first | exact ⟨F2, e2, q⟩ | exact ⟨F2, e2, .inl q⟩)
    | (refine ⟨F', e, ?_⟩
       rcases r with r | ⟨a, h, o⟩ | r
       · exact .inl r
       · exact .inr (.inl ⟨a, h, ro o⟩)
       · exact .inr (.inr (r.same e0.ff e0.hh)))
    | (refine ⟨F', e, ?_⟩
       rcases r with r | ⟨a, h, o⟩
       · exact .inl r
       · first | exact .inr ⟨a, h, ro o⟩ | exact .inr (.inl ⟨a, h, ro o⟩) | exact .inr (.inl ⟨a, h, o⟩))
theorem pk_cast {k k' : Kd} {e : Expr} {f : EDen} (h : PEk X p W M k e f) (hk : k.le k' = true := by decide) : PEk X p W M k' e f := by
  obtain ⟨t, ht, hs⟩ := h
  refine ⟨t, ht, fun F0 H0 Γ F σ H Q E q => hs F0 H0 Γ F σ H Q E ?_⟩
  cases hf : f Γ with
  | ok d =>
    rw [hf] at q
    intro v F' H' e r
    obtain ⟨F2, e2, r2⟩ := r.cast hk E.ext e
    exact q v F2 H' e2 r2
  | xc c => rw [hf] at q; exact q
  | bad => rw [hf] at q; exact q
/-- readings in a row -/
theorem SE.go {k : Kd} {t : TE} {f : EDen} {Γ : Gm} {σ : St} {Q : VK} (h : SE X p W M k t f) (E : Env X.K p F0 H0 M Γ F σ H)
    (q : (f Γ).post (fun d => ∀ v F' H', Ext F H F' H' → RelK X.K p k F0 H0 H F' H' v d → Q v H') (fun c => ∀ F' H', Ext F H F' H' → W (.ref (p.ca c)) none σ H')) : t σ H Q := h F0 H0 Γ F σ H Q E q
/-- the exception's wish, from further on -/
theorem wish_on {σ : St} {c : Str} {F1 H1 : Hp} (e : Ext F H F1 H1) (q : ∀ F' H', Ext F H F' H' → W (.ref (p.ca c)) none σ H') : ∀ F' H', Ext F1 H1 F' H' → W (.ref (p.ca c)) none σ H' := fun F' H' e' => q F' H' (e.trans e')

/-! ### one operand -/
def e1 (op : D → Ro D) (a : EDen) : EDen := fun Γ => (a Γ).bind op
def e2 (op : D → D → Ro D) (a b : EDen) : EDen := fun Γ => (a Γ).bind fun x => (b Γ).bind fun y => op x y
def e3 (op : D → D → D → Ro D) (a b c : EDen) : EDen := fun Γ => (a Γ).bind fun x => (b Γ).bind fun y => (c Γ).bind fun z => op x y z
/-- by values: an operation, its operands' kinds, its answer's kind -/
def Op1 (X : Cx) (p : Pt) (k1 k : Kd) (r : V → Hp → VK → Prop) (op : D → Ro D) : Prop :=
  ∀ (F0 H0 F H : Hp) (x : V) (dx : D) (Q : VK), Ext F0 H0 F H → RelK X.K p k1 F0 H0 H F H x dx →
    ((op dx).post (fun d => ∀ v F' H', Ext F H F' H' → RelK X.K p k F0 H0 H F' H' v d → Q v H') (fun _ => False)) → r x H Q
def Op2 (X : Cx) (p : Pt) (k1 k2 k : Kd) (r : R2) (op : D → D → Ro D) : Prop :=
  ∀ (F0 H0 F H : Hp) (x y : V) (dx dy : D) (Q : VK), Ext F0 H0 F H → RelK X.K p k1 F0 H0 H F H x dx → RelK X.K p k2 F0 H0 H F H y dy →
    ((op dx dy).post (fun d => ∀ v F' H', Ext F H F' H' → RelK X.K p k F0 H0 H F' H' v d → Q v H') (fun _ => False)) → r x y H Q
/-- an operation that raises nothing -/
def NoX {α : Type} (r : Ro α) : Prop := ∀ c, r ≠ .xc c
theorem RelK.back {K : PySem.W.Frag} {k : Kd} {Hz : Hp} {F H F' H' : Hp} (hn : ∀ b, Hz b = none → H b = none) (r : RelK K p k F0 H0 H F' H' v d) (hk : k = .new → ∀ b, H b = none → Hz b = none) : RelK K p k F0 H0 Hz F' H' v d := by
  cases k with
  | new => obtain ⟨a, h1, h2, h3, o⟩ := r; exact ⟨a, h1, h2, hk rfl a h3, o⟩
  | rep => exact r
  | bst => exact r
  | top => exact r
  | sst => exact r
  | rd => exact r
theorem same_none {H H' : Hp} (s : Same H H') {b : Addr} (h : H' b = none) : H b = none := s.free h
theorem RelK.from {K : PySem.W.Frag} {k : Kd} {Hz : Hp} (s : Same Hz H) (r : RelK K p k F0 H0 H F' H' v d) : RelK K p k F0 H0 Hz F' H' v d := by
  cases k with
  | new => obtain ⟨a, h1, h2, h3, o⟩ := r; exact ⟨a, h1, h2, s.free h3, o⟩
  | rep => exact r
  | bst => exact r
  | top => exact r
  | sst => exact r
  | rd => exact r
theorem se1 {k1 k : Kd} {r : V → Hp → VK → Prop} {op : D → Ro D} {ta : TE} {a : EDen} (h : Op1 X p k1 k r op) (hx : ∀ d, NoX (op d)) (ha : SE X p W M k1 ta a) (hn : k1 ≠ .new := by decide) :
    SE X p W M k (fun σ H Q => ta σ H fun x H1 => r x H1 Q) (e1 op a) := by
  intro F0 H0 Γ F σ H Q E q
  refine ha.go E ?_
  unfold e1 at q
  cases h1 : a Γ with
  | bad => rw [h1] at q; exact q
  | xc c => rw [h1] at q; exact q
  | ok dx =>
    rw [h1] at q
    intro x F1 H1 x1 rx
    have E1 := E.grow x1
    refine h F0 H0 F1 H1 x dx Q E1.ext (rx.grow hn (Ext.refl x1.fh) _) ?_
    simp only [Ro.bind_ok] at q
    cases h2 : op dx with
    | ok d =>
      rw [h2] at q
      exact fun v F2 H2 x2 rv => q v F2 H2 (x1.trans x2) (rv.from x1.hh)
    | xc c => exact absurd h2 (hx dx c)
    | bad => rw [h2] at q; exact q
theorem se2 {k1 k2 k : Kd} {r : R2} {op : D → D → Ro D} {ta tb : TE} {a b : EDen} (h : Op2 X p k1 k2 k r op) (hx : ∀ d e, NoX (op d e)) (ha : SE X p W M k1 ta a) (hb : SE X p W M k2 tb b)
    (hn : k1 ≠ .new := by decide) (hn2 : k2 ≠ .new := by decide) : SE X p W M k (tOp r ta tb) (e2 op a b) := by
  intro F0 H0 Γ F σ H Q E q
  refine ha.go E ?_
  unfold e2 at q
  cases h1 : a Γ with
  | bad => rw [h1] at q; exact q
  | xc c => rw [h1] at q; exact q
  | ok dx =>
    rw [h1] at q
    intro x F1 H1 x1 rx
    have E1 := E.grow x1
    refine hb.go E1 ?_
    simp only [Ro.bind_ok] at q
    cases h2 : b Γ with
    | bad => rw [h2] at q; exact q
    | xc c => rw [h2] at q; exact wish_on x1 q
    | ok dy =>
      rw [h2] at q
      intro y F2 H2 x2 ry
      have E2 := E1.grow x2
      refine h F0 H0 F2 H2 x y dx dy Q E2.ext (rx.grow hn x2 _) (ry.grow hn2 (Ext.refl x2.fh) _) ?_
      simp only [Ro.bind_ok] at q
      cases h3 : op dx dy with
      | ok d =>
        rw [h3] at q
        exact fun v F3 H3 x3 rv => q v F3 H3 (x1.trans (x2.trans x3)) (rv.from (x1.hh.trans x2.hh))
      | xc c => exact absurd h3 (hx dx dy c)
      | bad => rw [h3] at q; exact q
end

/-! ### names and constants -/
def eV (i : Nat) : EDen := fun Γ => match Γ[i]? with
  | some (some d) => .ok d
  | _ => .bad
def eC (d : D) : EDen := fun _ => .ok d
def Md.shut : Md → Bool
  | .any => true
  | .duo _ _ _ => true
  | _ => false
def Md.kd : Md → Kd
  | .val => .rep
  | .bor => .bst
  | .own => .top
  | .scr => .sst
  | .any => .rd
  | .duo _ _ _ => .rd
section
variable {X : Cx} {p : Pt} {W : WX} {M : List Md}
theorem pk_vm (i : Nat) {m : Md} {x : Str} {pos : Pos} (hm : M[i]? = some m := by rfl) (hq : m.shut = false := by rfl) (hN : X.N[i]? = some x := by rfl) (hv : Vis X.env.scope x := by first | exact Or.inl rfl | exact Or.inr (Or.inl rfl) | exact Or.inr (Or.inr rfl))
    (hd : (x == ("__debug__" : Str)) = false := by decide) (hcd : (x == ("__classdict__" : Str)) = false := by decide) : PEk X p W M m.kd (.Name x pos) (eV i) := by
  refine ⟨_, pe_var hN hv hd hcd, fun F0 H0 Γ F σ H Q E q => ?_⟩
  obtain ⟨g, s, h1, h2, sl⟩ := E.getS hm
  have e := E.ext
  unfold eV at q
  rw [h1] at q
  cases m with
  | any => cases hq
  | duo c a b => cases hq
  | val =>
    obtain ⟨v, d, rfl, rfl, r⟩ := sl
    exact ⟨v, h2, q v F H (Ext.refl e.fh) r⟩
  | bor =>
    obtain ⟨v, d, rfl, rfl, r⟩ := sl
    exact ⟨v, h2, q v F H (Ext.refl e.fh) r⟩
  | own =>
    obtain ⟨a, d, rfl, rfl, f, h0, o⟩ := sl
    exact ⟨_, h2, q _ F H (Ext.refl e.fh) (.inr ⟨a, rfl, o⟩)⟩
  | scr =>
    obtain ⟨v, d, rfl, rfl, r⟩ := sl
    exact ⟨v, h2, q v F H (Ext.refl e.fh) r⟩
theorem pk_v (i : Nat) {x : Str} {pos : Pos} (hm : M[i]? = some .val := by rfl) (hN : X.N[i]? = some x := by rfl) (hv : Vis X.env.scope x := by first | exact Or.inl rfl | exact Or.inr (Or.inl rfl) | exact Or.inr (Or.inr rfl)) (hd : (x == ("__debug__" : Str)) = false := by decide) (hcd : (x == ("__classdict__" : Str)) = false := by decide) : PEk X p W M .rep (.Name x pos) (eV i) := pk_vm i hm rfl hN hv hd hcd
theorem pk_b (i : Nat) {x : Str} {pos : Pos} (hm : M[i]? = some .bor := by rfl) (hN : X.N[i]? = some x := by rfl) (hv : Vis X.env.scope x := by first | exact Or.inl rfl | exact Or.inr (Or.inl rfl) | exact Or.inr (Or.inr rfl)) (hd : (x == ("__debug__" : Str)) = false := by decide) (hcd : (x == ("__classdict__" : Str)) = false := by decide) : PEk X p W M .bst (.Name x pos) (eV i) := pk_vm i hm rfl hN hv hd hcd
theorem pk_o (i : Nat) {x : Str} {pos : Pos} (hm : M[i]? = some .own := by rfl) (hN : X.N[i]? = some x := by rfl) (hv : Vis X.env.scope x := by first | exact Or.inl rfl | exact Or.inr (Or.inl rfl) | exact Or.inr (Or.inr rfl)) (hd : (x == ("__debug__" : Str)) = false := by decide) (hcd : (x == ("__classdict__" : Str)) = false := by decide) : PEk X p W M .top (.Name x pos) (eV i) := pk_vm i hm rfl hN hv hd hcd
theorem pk_s (i : Nat) {x : Str} {pos : Pos} (hm : M[i]? = some .scr := by rfl) (hN : X.N[i]? = some x := by rfl) (hv : Vis X.env.scope x := by first | exact Or.inl rfl | exact Or.inr (Or.inl rfl) | exact Or.inr (Or.inr rfl)) (hd : (x == ("__debug__" : Str)) = false := by decide) (hcd : (x == ("__classdict__" : Str)) = false := by decide) : PEk X p W M .sst (.Name x pos) (eV i) := pk_vm i hm rfl hN hv hd hcd
theorem sc {v : V} {d : D} (r : ∀ F, Rep p F v d) : SE X p W M .rep (tC v) (eC d) := fun F0 H0 Γ F σ H Q E q => q v F H (Ext.refl E.ext.fh) (r F)
theorem pk_int {i : Int} {j pos} : PEk X p W M .rep (.Constant (.int i) j pos) (eC (.int i)) := ⟨_, pe_int, sc fun _ => .int i⟩
theorem pk_bl {b : Bool} {j pos} : PEk X p W M .rep (.Constant (.bool b) j pos) (eC (.bl b)) := ⟨_, pe_bl, sc fun _ => .bl b⟩
theorem pk_non {j pos} : PEk X p W M .rep (.Constant .none j pos) (eC .non) := ⟨_, pe_non, sc fun _ => .non⟩
theorem pk_str {x : Str} {j pos} (h : strC x = true := by decide +kernel) : PEk X p W M .rep (.Constant (.str x) j pos) (eC (.str x)) := ⟨_, pe_str, sc fun _ => .str x (strC_ok h).1 (strC_ok h).2⟩
/-- a module's constant text or int -/
theorem pk_gstr {x : Str} {z : Str} {t : Tok} {pos : Pos} (hg : Gl X x) (hm : X.mg x = some (.str z t)) (h : strC z = true := by decide +kernel) (hd : (x == ("__debug__" : Str)) = false := by decide) : PEk X p W M .rep (.Name x pos) (eC (.str z)) :=
  ⟨_, pe_glob hg hm (v := .str z) ⟨t, rfl⟩ hd, sc fun _ => .str z (strC_ok h).1 (strC_ok h).2⟩
theorem pk_gint {x : Str} {z : Int} {t : Tok} {pos : Pos} (hg : Gl X x) (hm : X.mg x = some (.int z t)) (hd : (x == ("__debug__" : Str)) = false := by decide) : PEk X p W M .rep (.Name x pos) (eC (.int z)) :=
  ⟨_, pe_glob hg hm (v := .int z) ⟨t, rfl⟩ hd, sc fun _ => .int z⟩
end

/-! ### binary operators -/
section
variable {X : Cx} {p : Pt} {W : WX} {M : List Md} {a b : Expr} {fa fb : EDen} {pos : Pos}
theorem pk_bin {op : Operator} {k1 k2 k : Kd} {r : R2} {o : D → D → Ro D} (ho : OpR X (binaryOp op) r) (h : Op2 X p k1 k2 k r o) (hx : ∀ d e, NoX (o d e)) (ha : PEk X p W M k1 a fa) (hb : PEk X p W M k2 b fb)
    (hn : k1 ≠ .new := by decide) (hn2 : k2 ≠ .new := by decide) : PEk X p W M k (.BinOp a op b pos) (e2 o fa fb) := by
  obtain ⟨ta, pa, sa⟩ := ha
  obtain ⟨tb, pb, sb⟩ := hb
  exact ⟨_, pe_op ho pa pb, se2 h hx sa sb hn hn2⟩
theorem pk_cmp {op : CmpOp} {k1 k2 k : Kd} {r : R2} {o : D → D → Ro D} (ho : OpR X (compareOp op) r) (h : Op2 X p k1 k2 k r o) (hx : ∀ d e, NoX (o d e)) (ha : PEk X p W M k1 a fa) (hb : PEk X p W M k2 b fb)
    (hm : behindInMarks op b = false) (hn : k1 ≠ .new := by decide) (hn2 : k2 ≠ .new := by decide) : PEk X p W M k (.Compare a [op] [b] pos) (e2 o fa fb) := by
  obtain ⟨ta, pa, sa⟩ := ha
  obtain ⟨tb, pb, sb⟩ := hb
  exact ⟨_, pe_cmpR ho pa pb hm, se2 h hx sa sb hn hn2⟩
/-- a test: an expression whose value is True or False -/
def tE (f : EDen) : TDen := fun Γ => (f Γ).bind fun d => match d with
  | .bl b => .ok b
  | _ => .bad
theorem st_test {t : TE} {f : EDen} (h : SE X p W M .rep t f) : ST' X p W M (fun σ H Q => t σ H fun x H' => ∃ k, x = .bl k ∧ Q k H') (tE f) := by
  intro F0 H0 Γ F σ H Q E q
  refine h.go E ?_
  unfold tE at q
  cases h1 : f Γ with
  | bad => rw [h1] at q; exact q
  | xc c => rw [h1] at q; exact q
  | ok d =>
    rw [h1] at q
    intro v F' H' e r
    simp only [Ro.bind_ok] at q
    cases r <;> first | exact ⟨_, rfl, q F' H' e⟩ | exact (show False from q).elim
theorem pt_cmpk {op : CmpOp} {k1 k2 : Kd} {r : R2} {o : D → D → Ro D} (ho : OpR X (compareOp op) r) (h : Op2 X p k1 k2 .rep r o) (hx : ∀ d e, NoX (o d e)) (ha : PEk X p W M k1 a fa) (hb : PEk X p W M k2 b fb)
    (hm : behindInMarks op b = false) (hn : k1 ≠ .new := by decide) (hn2 : k2 ≠ .new := by decide) : PTk X p W M (.Compare a [op] [b] pos) (tE (e2 o fa fb)) := by
  obtain ⟨ta, pa, sa⟩ := ha
  obtain ⟨tb, pb, sb⟩ := hb
  exact ⟨_, pt_cmpR ho pa pb hm, st_test (se2 h hx sa sb hn hn2)⟩
/-- any expression whose value is a bool -/
theorem pt_e {e : Expr} {f : EDen} (h : PEk X p W M .rep e f) (he : ∀ whole, isTrue e X.env whole = (do let v ← whole; standAt e.pos; holding [v] (truthy v)) := by intro _; rfl) : PTk X p W M e (tE f) := by
  obtain ⟨t, pt, st⟩ := h
  exact ⟨_, pt_val pt he, st_test st⟩
end
end L2.Nf

namespace L2.Nf
open PySem PySem.Spec PyProof.Rows

section
variable {K : PySem.W.Frag} {p : Pt} {F0 H0 Hz F H : Hp} {v : V}
/-! ## what a value in hand is -/
theorem top_of {k : Kd} {d : D} (hk : k.le .top = true) (hn : k ≠ .new) (f0 : Ext F0 H0 F H) (r : RelK K p k F0 H0 Hz F H v d) : Rep p F v d ∨ ∃ a, v = .ref a ∧ Own p F H a d := by
  cases k <;> first
    | exact absurd rfl hn
    | exact absurd hk (by decide)
    | exact .inl r
    | exact r
    | exact r.imp id fun ⟨a, h, o⟩ => ⟨a, h, o.same f0.ff fun _ z => f0.hh _ _ z⟩
abbrev TopV (p : Pt) (F H : Hp) (v : V) (d : D) : Prop := Rep p F v d ∨ ∃ a, v = .ref a ∧ Own p F H a d
abbrev RdV (K : PySem.W.Frag) (p : Pt) (F H : Hp) (v : V) (d : D) : Prop := Rep p F v d ∨ (∃ a, v = .ref a ∧ Own p F H a d) ∨ Scr K p F H v d
theorem t_int {i : Int} (r : RdV K p F H v (.int i)) : v = .int i := by
  rcases r with r | ⟨a, h, o⟩ | ⟨_, _, _, _, h, _⟩
  · cases r; rfl
  · cases o
  · cases h
theorem t_bl {i : Bool} (r : RdV K p F H v (.bl i)) : v = .bl i := by
  rcases r with r | ⟨a, h, o⟩ | ⟨_, _, _, _, h, _⟩
  · cases r; rfl
  · cases o
  · cases h
theorem t_non (r : RdV K p F H v .non) : v = .non := by
  rcases r with r | ⟨a, h, o⟩ | ⟨_, _, _, _, h, _⟩
  · cases r; rfl
  · cases o
  · cases h
theorem t_str {x : Str} (r : RdV K p F H v (.str x)) : v = .str x ∧ PyData.strOk x = true ∧ x.length ≤ sizeLine := by
  rcases r with r | ⟨a, h, o⟩ | ⟨_, _, _, _, h, _⟩
  · cases r with | str x h hl => exact ⟨rfl, h, hl⟩
  · cases o
  · cases h
theorem t_tup {ds : List D} (r : RdV K p F H v (.tup ds)) : ∃ a vs, v = .ref a ∧ F a = some (.tup vs) ∧ Each (Rep p F) vs ds := by
  rcases r with r | ⟨a, h, o⟩ | ⟨_, _, _, _, h, _⟩
  · cases r with | tup h hl hi => exact ⟨_, _, rfl, h, hl, hi⟩
  · cases o
  · cases h
theorem t_obj {ds : List D} (r : RdV K p F H v (.obj ds)) : Rep p F v (.obj ds) := by
  rcases r with r | ⟨a, h, o⟩ | ⟨_, _, _, _, h, _⟩
  · exact r
  · cases o
  · cases h
theorem t_lst {ds : List D} (s : Same F H) (r : TopV p F H v (.lst ds)) : ∃ a vs, v = .ref a ∧ H a = some (.lst vs) ∧ Each (Rep p F) vs ds := by
  rcases r with r | ⟨a, h, o⟩
  · cases r with | lst h hl hi => exact ⟨_, _, rfl, s _ _ h, hl, hi⟩
  · cases o with | lst h1 e => exact ⟨_, _, h, h1, e⟩
theorem r_lst {ds : List D} (s : Same F H) (r : RdV K p F H v (.lst ds)) : ∃ a vs, v = .ref a ∧ SqL K H a vs ∧ Each (Rep p F) vs ds := by
  rcases r with r | r | ⟨a, vs, ds', h1, h2, h3, h4⟩
  · obtain ⟨a, vs, h1, h2, h3⟩ := t_lst s (.inl r); exact ⟨a, vs, h1, .of h2, h3⟩
  · obtain ⟨a, vs, h1, h2, h3⟩ := t_lst s (.inr r); exact ⟨a, vs, h1, .of h2, h3⟩
  · cases h2; exact ⟨a, vs, h1, h3, h4⟩
theorem t_dK {es : List (Key × D)} (s : Same F H) (r : RdV K p F H v (.dK es)) : ∃ a kvs, v = .ref a ∧ H a = some (.dK kvs) ∧ kvs.map (·.1) = es.map (·.1) ∧ (∀ e ∈ es, keyC e.1 = true) ∧ ∀ (i : Nat) (v : Key × V) (d : Key × D), kvs[i]? = some v → es[i]? = some d → Rep p F v.2 d.2 := by
  rcases r with r | ⟨a, h, o⟩ | ⟨_, _, _, _, h, _⟩
  · cases r with | dK h hk hs hi => exact ⟨_, _, rfl, s _ _ h, hk, hs, hi⟩
  · cases o with | dK h1 hk hs hi => exact ⟨_, _, h, h1, hk, hs, hi⟩
  · cases h
theorem t_dT {es : List (List Key × D)} (s : Same F H) (r : RdV K p F H v (.dT es)) : ∃ a kvs, v = .ref a ∧ H a = some (.dT kvs) ∧ kvs.map (·.1) = es.map (·.1) ∧ (∀ e ∈ es, keysC e.1 = true) ∧ ∀ (i : Nat) (v : List Key × V) (d : List Key × D), kvs[i]? = some v → es[i]? = some d → Rep p F v.2 d.2 := by
  rcases r with r | ⟨a, h, o⟩ | ⟨_, _, _, _, h, _⟩
  · cases r with | dT h hk hs hi => exact ⟨_, _, rfl, s _ _ h, hk, hs, hi⟩
  · cases o with | dT h1 hk hs hi => exact ⟨_, _, h, h1, hk, hs, hi⟩
  · cases h
theorem TopV.rd {d : D} (r : TopV p F H v d) : RdV K p F H v d := r.imp id .inl

/-! ## what is made -/
theorem mk_lst {vs : List V} {ds : List D} {q : Addr} (s : Same F H) (hq : H q = none) (e : Each (Rep p F) vs ds) : Ext F H F (upd H q (.lst vs)) ∧ RelK K p .new F0 H0 H F (upd H q (.lst vs)) (.ref q) (.lst ds) :=
  ⟨(Ext.refl s).new hq, q, rfl, s.free hq, hq, .lst upd_same e⟩
theorem mk_tup {vs : List V} {ds : List D} {q : Addr} (s : Same F H) (hq : H q = none) (e : Each (Rep p F) vs ds) : Ext F H (upd F q (.tup vs)) (upd H q (.tup vs)) ∧ Rep p (upd F q (.tup vs)) (.ref q) (.tup ds) := by
  have f := s.free hq
  refine ⟨((Ext.refl s).new hq).frz upd_same (.inl f) (.inl hq), ?_⟩
  exact .tup upd_same e.1 fun i v d a b => (e.2 i v d a b).same (same_frz (.inl f))
theorem mk_lstR {vs : List V} {ds : List D} {q : Addr} (s : Same F H) (hq : H q = none) (e : Each (Rep p F) vs ds) : ∃ F', Ext F H F' (upd H q (.lst vs)) ∧ Rep p F' (.ref q) (.lst ds) := by
  obtain ⟨x, _, _, f, h, o⟩ := mk_lst (K := []) (F0 := F) (H0 := H) s hq e
  cases (by assumption : V.ref q = V.ref _)
  exact o.freeze x f h
end
end L2.Nf

namespace L2.Nf
open PySem PySem.Spec PyProof.Rows

/-! ## data as the library's comparisons see them -/
def D.sh : Nat → D → Bool
  | _, .non => true
  | _, .bl _ => true
  | _, .int _ => true
  | _, .str _ => true
  | n + 1, .lst xs => xs.all (D.sh n)
  | n + 1, .tup xs => xs.all (D.sh n)
  | _, _ => false
def D.py : Nat → D → PyData
  | _, .non => .none
  | _, .bl b => .bool b
  | _, .int i => .int i
  | _, .str x => .str x
  | n + 1, .lst xs => .list (xs.map (D.py n))
  | n + 1, .tup xs => .tuple (xs.map (D.py n))
  | _, _ => .none

section
variable {K : PySem.W.Frag} {p : Pt} {F0 H0 Hz F H : Hp} {v : V}
theorem dpAll_of {f : D → PyData} : ∀ {vs : List V} {ds : List D}, Each (fun v d => Dp K H v (f d)) vs ds → DpAll K H vs (ds.map f)
  | [], [], _ => .nil
  | _ :: _, _ :: _, h => .cons h.inv.1 (dpAll_of h.inv.2)
  | [], _ :: _, h => absurd h.1 (by simp)
  | _ :: _, [], h => absurd h.1 (by simp)
theorem canAll {f : D → PyData} : ∀ {ds : List D}, (∀ d ∈ ds, (f d).canLay0 = true) → PyData.canLayAll0 (ds.map f) = true
  | [], _ => by simp [PyData.canLayAll0]
  | d :: ds, h => by
    simp only [List.map_cons, PyData.canLayAll0, Bool.and_eq_true]
    exact ⟨h d (by simp), canAll fun e he => h e (by simp [he])⟩
theorem depthAll_le {f : D → PyData} {n : Nat} : ∀ {ds : List D}, (∀ d ∈ ds, (f d).depth ≤ n) → PyData.depthAll (ds.map f) ≤ n
  | [], _ => by simp [PyData.depthAll]
  | d :: ds, h => by
    simp only [List.map_cons, PyData.depthAll]
    have h1 := h d (by simp)
    have h2 := depthAll_le (f := f) (n := n) (ds := ds) fun e he => h e (by simp [he])
    omega
theorem each_mem {R : V → D → Prop} {vs : List V} {ds : List D} (h : Each R vs ds) {d : D} (hd : d ∈ ds) : ∃ v, R v d := by
  obtain ⟨i, hi⟩ := List.mem_iff_getElem?.mp hd
  obtain ⟨v, _, r⟩ := h.get hi
  exact ⟨v, r⟩
theorem py_of : ∀ (n : Nat) {v : V} {d : D}, Same F H → Rep p F v d → d.sh n = true → Dp K H v (d.py n) ∧ (d.py n).canLay0 = true ∧ (d.py n).depth ≤ n := by
  intro n
  induction n with
  | zero =>
    intro v d s r h
    cases r with
    | non => exact ⟨.non, rfl, by simp [D.py, PyData.depth]⟩
    | bl b => exact ⟨.bl b, rfl, by simp [D.py, PyData.depth]⟩
    | int i => exact ⟨.int i, rfl, by simp [D.py, PyData.depth]⟩
    | str x hx hl => exact ⟨.str x, by simp only [D.py, PyData.canLay0]; exact hx, by simp [D.py, PyData.depth]⟩
    | lst _ _ _ => simp [D.sh] at h
    | tup _ _ _ => simp [D.sh] at h
    | dK _ _ _ _ => simp [D.sh] at h
    | dT _ _ _ _ => simp [D.sh] at h
    | obj _ _ _ _ => simp [D.sh] at h
  | succ n ih =>
    intro v d s r h
    cases r with
    | non => exact ⟨.non, rfl, by simp [D.py, PyData.depth]⟩
    | bl b => exact ⟨.bl b, rfl, by simp [D.py, PyData.depth]⟩
    | int i => exact ⟨.int i, rfl, by simp [D.py, PyData.depth]⟩
    | str x hx hl => exact ⟨.str x, by simp only [D.py, PyData.canLay0]; exact hx, by simp [D.py, PyData.depth]⟩
    | @lst a vs ds h1 hl hi =>
      have h' : ∀ d ∈ ds, d.sh n = true := by simpa [D.sh] using h
      have e : Each (fun v d => Rep p F v d ∧ d.sh n = true) vs ds := ⟨hl, fun i v d a b => ⟨hi i v d a b, h' d (List.mem_of_getElem? b)⟩⟩
      have q : ∀ d ∈ ds, (d.py n).canLay0 = true ∧ (d.py n).depth ≤ n := fun d hd => let ⟨v, r⟩ := each_mem e hd; (ih s r.1 r.2).2
      refine ⟨.lst (.of (s _ _ h1)) (dpAll_of (e.mono fun v d r => (ih s r.1 r.2).1)), ?_, ?_⟩
      · simp only [D.py, PyData.canLay0]; exact canAll fun d hd => (q d hd).1
      · have := depthAll_le fun d hd => (q d hd).2
        simp only [D.py, PyData.depth]; omega
    | @tup a vs ds h1 hl hi =>
      have h' : ∀ d ∈ ds, d.sh n = true := by simpa [D.sh] using h
      have e : Each (fun v d => Rep p F v d ∧ d.sh n = true) vs ds := ⟨hl, fun i v d a b => ⟨hi i v d a b, h' d (List.mem_of_getElem? b)⟩⟩
      have q : ∀ d ∈ ds, (d.py n).canLay0 = true ∧ (d.py n).depth ≤ n := fun d hd => let ⟨v, r⟩ := each_mem e hd; (ih s r.1 r.2).2
      refine ⟨.tup (.of (s _ _ h1)) (dpAll_of (e.mono fun v d r => (ih s r.1 r.2).1)), ?_, ?_⟩
      · simp only [D.py, PyData.canLay0]; exact canAll fun d hd => (q d hd).1
      · have := depthAll_le fun d hd => (q d hd).2
        simp only [D.py, PyData.depth]; omega
    | dK _ _ _ _ => simp [D.sh] at h
    | dT _ _ _ _ => simp [D.sh] at h
    | obj _ _ _ _ => simp [D.sh] at h
/-- what is read, at the level of one more -/
theorem py_rd {n : Nat} {v : V} {d : D} (s : Same F H) (r : RdV K p F H v d) (h : d.sh n = true) (hn : n ≤ 64) : Dp K H v (d.py n) ∧ SeqAt.shaped (d.py n) = true := by
  have fin : Dp K H v (d.py n) ∧ (d.py n).canLay0 = true ∧ (d.py n).depth ≤ n → Dp K H v (d.py n) ∧ SeqAt.shaped (d.py n) = true := fun ⟨a, b, c⟩ => ⟨a, by
    unfold SeqAt.shaped; rw [b, Bool.true_and]; exact decide_eq_true (by omega)⟩
  have li : ∀ {a vs ds}, SqL K H a vs → Each (Rep p F) vs ds → (D.lst ds).sh n = true → Dp K H (.ref a) ((D.lst ds).py n) ∧ ((D.lst ds).py n).canLay0 = true ∧ ((D.lst ds).py n).depth ≤ n := by
    intro a vs ds h1 e h
    cases n with
    | zero => simp [D.sh] at h
    | succ n =>
      have h' : ∀ d ∈ ds, d.sh n = true := by simpa [D.sh] using h
      have e : Each (fun v d => Rep p F v d ∧ d.sh n = true) vs ds := ⟨e.1, fun i v d a b => ⟨e.2 i v d a b, h' d (List.mem_of_getElem? b)⟩⟩
      have q : ∀ d ∈ ds, (d.py n).canLay0 = true ∧ (d.py n).depth ≤ n := fun d hd => let ⟨v, r⟩ := each_mem e hd; (py_of (K := K) n s r.1 r.2).2
      refine ⟨.lst h1 (dpAll_of (e.mono fun v d r => (py_of n s r.1 r.2).1)), ?_, ?_⟩
      · simp only [D.py, PyData.canLay0]; exact canAll fun d hd => (q d hd).1
      · have := depthAll_le fun d hd => (q d hd).2
        simp only [D.py, PyData.depth]; omega
  rcases r with r | ⟨a, rfl, o⟩ | ⟨a, vs, ds, rfl, rfl, h1, e⟩
  · exact fin (py_of n s r h)
  · cases o with
    | lst h1 e => exact fin (li (.of h1) e h)
    | dK _ _ _ _ => cases n <;> simp [D.sh] at h
    | dT _ _ _ _ => cases n <;> simp [D.sh] at h
  · exact fin (li h1 e h)
end

/-! ## operations on data -/
def D.eq (d e : D) : Bool := PyData.eqv (d.py 8) (e.py 8)
def oEq (d e : D) : Ro D := if (d.sh 8 && e.sh 8) = true then .ok (.bl (d.eq e)) else .bad
def oNe (d e : D) : Ro D := if (d.sh 8 && e.sh 8) = true then .ok (.bl (!d.eq e)) else .bad
def oInt2 (C : Int → Int → Bool) (g : Int → Int → Int) : D → D → Ro D
  | .int i, .int j => if C i j = true then .ok (.int (g i j)) else .bad
  | _, _ => .bad
def oSub : D → D → Ro D := oInt2 (fun _ _ => true) fun i j => i - j
def oDiv : D → D → Ro D := oInt2 (fun _ j => decide (j ≠ 0 ∧ j.natAbs < 1073741824)) Int.fdiv
def oMod : D → D → Ro D := oInt2 (fun _ j => decide (j ≠ 0)) Int.fmod
def oRel (g : Int → Int → Bool) : D → D → Ro D
  | .int i, .int j => .ok (.bl (g i j))
  | _, _ => .bad
def oLt : D → D → Ro D := oRel fun i j => decide (i < j)
def oLe : D → D → Ro D := oRel fun i j => decide (i ≤ j)
def oGt : D → D → Ro D := oRel fun i j => decide (j < i)
def oGe : D → D → Ro D := oRel fun i j => decide (j ≤ i)
def oAdd : D → D → Ro D
  | .int i, .int j => .ok (.int (i + j))
  | .str x, .str y => if x.length + y.length ≤ sizeLine then .ok (.str (x ++ y)) else .bad
  | .lst x, .lst y => if x.length + y.length ≤ sizeLine then .ok (.lst (x ++ y)) else .bad
  | .tup x, .tup y => if x.length + y.length ≤ sizeLine then .ok (.tup (x ++ y)) else .bad
  | _, _ => .bad
/-- of lists: a new list -/
def oCat : D → D → Ro D
  | .lst x, .lst y => if x.length + y.length ≤ sizeLine then .ok (.lst (x ++ y)) else .bad
  | _, _ => .bad
def repS (x : Str) (n : Nat) : Str := ⟨(List.replicate n x.cps).foldl (· ++ ·) #[]⟩
def oMul : D → D → Ro D
  | .int i, .int j => if (decide (-(2 ^ 64) < i ∧ i < 2 ^ 64) || decide (-(2 ^ 64) < j ∧ j < 2 ^ 64)) = true then .ok (.int (i * j)) else .bad
  | .str x, .int n => if 0 ≤ n ∧ n ≤ 1000 ∧ x.length ≤ 1000 then .ok (.str (repS x n.toNat)) else .bad
  | .lst x, .int n => if -(2 ^ 63) ≤ n ∧ n < 2 ^ 63 ∧ x.length * n.toNat ≤ sizeLine then .ok (.lst (List.replicate n.toNat x).flatten) else .bad
  | .tup x, .int n => if x ≠ [] ∧ 2 ≤ n ∧ n ≤ 1000 ∧ x.length ≤ 1000 then .ok (.tup (List.replicate n.toNat x).flatten) else .bad
  | _, _ => .bad
def oIsN : D → D → Ro D
  | .non, .non => .ok (.bl true)
  | _, .non => .ok (.bl false)
  | _, _ => .bad
def oNotN : D → D → Ro D
  | .non, .non => .ok (.bl false)
  | _, .non => .ok (.bl true)
  | _, _ => .bad
def oKey : D → Option Key
  | .int i => some (.inl i)
  | .str x => some (.inr x)
  | _ => none
def oKeys : D → Option (List Key)
  | .tup ds => ds.mapM oKey
  | _ => none
def look {κ : Type} [DecidableEq κ] (es : List (κ × D)) (k : κ) : Option D := (es.find? fun e => decide (e.1 = k)).map (·.2)
/-- what a dict holds at a key; none: no dict, or no key of it -/
def oLook : D → D → Option (Option D)
  | .dK es, k => (oKey k).map (look es)
  | .dT es, k => (oKeys k).map (look es)
  | _, _ => none
def oHas : D → D → Ro Bool
  | x, .lst ys => if (x.sh 8 && (D.lst ys).sh 9) = true then .ok (ys.any fun y => y.eq x) else .bad
  | .str x, .str y => match x.cps.toList with
    | [c] => .ok (decide (c ∈ y.cps.toList))
    | _ => .bad
  | x, y => match oLook y x with
    | some o => .ok o.isSome
    | none => .bad
def oIn (x y : D) : Ro D := (oHas x y).bind fun b => .ok (.bl b)
def oNotIn (x y : D) : Ro D := (oHas x y).bind fun b => .ok (.bl (!b))

theorem nx_ok {α : Type} (a : α) : NoX (.ok a) := fun _ h => by cases h
theorem nx_bad {α : Type} : NoX (.bad : Ro α) := fun _ h => by cases h
theorem nx_ite {α : Type} {c : Prop} [Decidable c] {x y : Ro α} (h1 : NoX x) (h2 : NoX y) : NoX (if c then x else y) := by
  split
  · exact h1
  · exact h2
end L2.Nf

namespace L2.Nf
open PySem PySem.Spec PyProof.Rows

theorem nx_eq (d e : D) : NoX (oEq d e) := nx_ite (nx_ok _) nx_bad
theorem nx_ne (d e : D) : NoX (oNe d e) := nx_ite (nx_ok _) nx_bad
theorem nx_int2 {C : Int → Int → Bool} {g : Int → Int → Int} (d e : D) : NoX (oInt2 C g d e) := by
  unfold oInt2
  split
  · exact nx_ite (nx_ok _) nx_bad
  · exact nx_bad
theorem nx_rel {g : Int → Int → Bool} (d e : D) : NoX (oRel g d e) := by
  unfold oRel
  split
  · exact nx_ok _
  · exact nx_bad
theorem nx_add (d e : D) : NoX (oAdd d e) := by
  unfold oAdd
  split <;> first | exact nx_ok _ | exact nx_bad | exact nx_ite (nx_ok _) nx_bad
theorem nx_cat (d e : D) : NoX (oCat d e) := by
  unfold oCat
  split <;> first | exact nx_ok _ | exact nx_bad | exact nx_ite (nx_ok _) nx_bad
theorem nx_mul (d e : D) : NoX (oMul d e) := by
  unfold oMul
  split <;> first | exact nx_ok _ | exact nx_bad | exact nx_ite (nx_ok _) nx_bad
theorem nx_isN (d e : D) : NoX (oIsN d e) := by
  unfold oIsN
  split <;> first | exact nx_ok _ | exact nx_bad
theorem nx_notN (d e : D) : NoX (oNotN d e) := by
  unfold oNotN
  split <;> first | exact nx_ok _ | exact nx_bad
theorem nx_has (d e : D) : NoX (oHas d e) := by
  unfold oHas
  split
  · exact nx_ite (nx_ok _) nx_bad
  · split <;> first | exact nx_ok _ | exact nx_bad
  · split <;> first | exact nx_ok _ | exact nx_bad
theorem nx_bind {α β : Type} {r : Ro α} {k : α → Ro β} (h : NoX r) (hk : ∀ a, NoX (k a)) : NoX (r.bind k) := by
  cases r with
  | ok a => exact hk a
  | xc c => exact absurd rfl (h c)
  | bad => exact nx_bad
theorem nx_in (d e : D) : NoX (oIn d e) := nx_bind (nx_has d e) fun _ => nx_ok _
theorem nx_notIn (d e : D) : NoX (oNotIn d e) := nx_bind (nx_has d e) fun _ => nx_ok _

section
variable {X : Cx} {p : Pt}
theorem rdv {K : PySem.W.Frag} {F0 H0 Hz F H : Hp} {v : V} {d : D} {k : Kd} (f0 : Ext F0 H0 F H) (hn : k ≠ .new) (r : RelK K p k F0 H0 Hz F H v d) : RdV K p F H v d := by
  have ro : ∀ {a}, Own p F0 H0 a d → Own p F H a d := fun o => o.same f0.ff fun _ z => f0.hh _ _ z
  cases k with
  | rep => exact .inl r
  | new => exact absurd rfl hn
  | bst => exact r.imp id fun ⟨a, h, o⟩ => .inl ⟨a, h, ro o⟩
  | top => exact r.imp id .inl
  | sst => exact r.imp id (Or.imp (fun ⟨a, h, o⟩ => ⟨a, h, ro o⟩) fun s => s.same f0.ff f0.hh)
  | rd => exact r
theorem o2_eq (hu : X.A.units + 64 < cLine) : Op2 X p .rd .rd .rep (rEqD X.K) oEq := by
  intro F0 H0 F H x y dx dy Q f0 rx ry q
  obtain ⟨h, q⟩ := Ro.post_ite (show (oEq dx dy).post _ _ from q)
  · rw [Bool.and_eq_true] at h
    have a := py_rd f0.fh (rdv f0 (by decide) rx) h.1 (by decide)
    have b := py_rd f0.fh (rdv f0 (by decide) ry) h.2 (by decide)
    exact ⟨_, _, a.1, b.1, a.2, b.2, q _ F H (Ext.refl f0.fh) (.bl _)⟩
theorem o2_ne (hu : X.A.units + 64 < cLine) : Op2 X p .rd .rd .rep (rNeD X.K) oNe := by
  intro F0 H0 F H x y dx dy Q f0 rx ry q
  obtain ⟨h, q⟩ := Ro.post_ite (show (oNe dx dy).post _ _ from q)
  · rw [Bool.and_eq_true] at h
    have a := py_rd f0.fh (rdv f0 (by decide) rx) h.1 (by decide)
    have b := py_rd f0.fh (rdv f0 (by decide) ry) h.2 (by decide)
    exact ⟨_, _, a.1, b.1, a.2, b.2, q _ F H (Ext.refl f0.fh) (.bl _)⟩
theorem o2_int {C : Int → Int → Bool} {g : Int → Int → Int} {P : Int → Int → Prop} (hP : ∀ i j, C i j = true → P i j) : Op2 X p .rep .rep .rep (rI P fun i j => .int (g i j)) (oInt2 C g) := by
  intro F0 H0 F H x y dx dy Q f0 rx ry q
  cases rx <;> try exact q.elim
  cases ry <;> try exact q.elim
  obtain ⟨h, q⟩ := Ro.post_ite q
  exact ⟨_, _, rfl, rfl, hP _ _ h, q _ F H (Ext.refl f0.fh) (.int _)⟩
theorem o2_sub : Op2 X p .rep .rep .rep (rI0 fun i j => .int (i - j)) oSub := by
  intro F0 H0 F H x y dx dy Q f0 rx ry q
  obtain ⟨i, j, h1, h2, _, h3⟩ := o2_int (X := X) (p := p) (C := fun _ _ => true) (g := fun i j => i - j) (P := fun _ _ => True) (fun _ _ _ => trivial) F0 H0 F H x y dx dy Q f0 rx ry q
  exact ⟨i, j, h1, h2, h3⟩
theorem o2_div : Op2 X p .rep .rep .rep (rI CDivN fun i j => .int (i.fdiv j)) oDiv := o2_int fun i j h => by simpa [CDivN] using h
theorem o2_mod : Op2 X p .rep .rep .rep (rI (fun _ j => j ≠ 0) fun i j => .int (i.fmod j)) oMod := o2_int fun i j h => by simpa using h
theorem o2_rel {g : Int → Int → Bool} : Op2 X p .rep .rep .rep (rI0 fun i j => .bl (g i j)) (oRel g) := by
  intro F0 H0 F H x y dx dy Q f0 rx ry q
  cases rx <;> try exact q.elim
  cases ry <;> try exact q.elim
  exact ⟨_, _, rfl, rfl, q _ F H (Ext.refl f0.fh) (.bl _)⟩
/-- + -/
def rStrA : R2 := fun x y H Q => ∃ i j, x = .str i ∧ y = .str j ∧ i.length + j.length ≤ sizeLine ∧ Q (.str (i ++ j)) H
def rAddU (K : PySem.W.Frag) : R2 := fun x y H Q => (rI0 (fun i j => .int (i + j)) x y H Q ∨ rStrA x y H Q) ∨ (rCat x y H Q ∨ rCatA K x y H Q)
theorem op_addU : OpR X (binaryOp .Add) (rAddU X.K) := (op_add.or op_add_str).or (op_cat.or op_catA)
theorem strOk_append {x y : Str} (h1 : PyData.strOk x = true) (h2 : PyData.strOk y = true) : PyData.strOk (x ++ y) = true := by
  unfold PyData.strOk at h1 h2 ⊢
  show (x.cps ++ y.cps).all _ = true
  rw [Array.all_append, h1, h2]
  rfl
theorem len_append (x y : Str) : (x ++ y).length = x.length + y.length := by
  show (x.cps ++ y.cps).size = x.cps.size + y.cps.size
  exact Array.size_append
theorem o2_cat : Op2 X p .top .top .new rCat oCat := by
  intro F0 H0 F H x y dx dy Q f0 rx ry q
  cases dx <;> try exact q.elim
  cases dy <;> try exact q.elim
  obtain ⟨a, vs, rfl, ha, ea⟩ := t_lst f0.fh rx
  obtain ⟨b, ws, rfl, hb, eb⟩ := t_lst f0.fh ry
  obtain ⟨hl, q⟩ := Ro.post_ite q
  refine ⟨a, b, vs, ws, rfl, rfl, ha, hb, by rw [ea.1, eb.1]; exact hl, fun u hu => ?_⟩
  obtain ⟨x, r⟩ := mk_lst (K := X.K) (F0 := F0) (H0 := H0) f0.fh hu (ea.append eb)
  exact q _ F _ x r
theorem o2_add : Op2 X p .top .top .rep (rAddU X.K) oAdd := by
  intro F0 H0 F H x y dx dy Q f0 rx ry q
  have rx' : RdV X.K p F H x dx := TopV.rd rx
  have ry' : RdV X.K p F H y dy := TopV.rd ry
  cases dx <;> try exact q.elim
  · cases dy <;> try exact q.elim
    rw [t_int rx', t_int ry']
    exact .inl (.inl ⟨_, _, rfl, rfl, q _ F H (Ext.refl f0.fh) (.int _)⟩)
  · cases dy <;> try exact q.elim
    obtain ⟨rfl, o1, l1⟩ := t_str rx'
    obtain ⟨rfl, o2, l2⟩ := t_str ry'
    obtain ⟨hl, q⟩ := Ro.post_ite q
    exact .inl (.inr ⟨_, _, rfl, rfl, hl, q _ F H (Ext.refl f0.fh) (.str _ (strOk_append o1 o2) (by rw [len_append]; exact hl))⟩)
  · cases dy <;> try exact q.elim
    rename_i xs ys
    refine .inr (.inl (o2_cat F0 H0 F H x y _ _ Q f0 rx ry ?_))
    obtain ⟨hl, q⟩ := Ro.post_ite q
    show (if _ then _ else _ : Ro D).post _ _
    rw [if_pos hl]
    intro v F' H' e r
    obtain ⟨F2, e2, r2⟩ := r.cast (k' := .rep) (by decide) f0 e
    exact q v F2 H' e2 r2
  · cases dy <;> try exact q.elim
    obtain ⟨a, vs, rfl, ha, ea⟩ := t_tup rx'
    obtain ⟨b, ws, rfl, hb, eb⟩ := t_tup ry'
    obtain ⟨hl, q⟩ := Ro.post_ite q
    · refine .inr (.inr ⟨a, b, vs, ws, rfl, rfl, .of (f0.fh _ _ ha), .of (f0.fh _ _ hb), by rw [ea.1, eb.1]; exact hl, fun hx => ?_, fun hx hy => ?_, fun hx hy u hu => ?_⟩)
      · subst hx
        have e0 : _ = [] := List.length_eq_zero_iff.mp ea.1.symm
        rw [e0, List.nil_append] at q
        exact q _ F H (Ext.refl f0.fh) (.tup hb eb.1 eb.2)
      · subst hy
        have e0 : _ = [] := List.length_eq_zero_iff.mp eb.1.symm
        rw [e0, List.append_nil] at q
        exact q _ F H (Ext.refl f0.fh) (.tup ha ea.1 ea.2)
      · obtain ⟨x, r⟩ := mk_tup f0.fh hu (ea.append eb)
        exact q _ _ _ x r
end
end L2.Nf

namespace L2.Nf
open PySem PySem.Spec PyProof.Rows
theorem fold_size (a : Array Nat) : ∀ (n : Nat) (acc : Array Nat), ((List.replicate n a).foldl (· ++ ·) acc).size = acc.size + n * a.size
  | 0, acc => by simp
  | n + 1, acc => by
    rw [List.replicate_succ, List.foldl_cons, fold_size a n, Array.size_append, Nat.add_mul]
    omega
theorem repS_len (z : Str) (n : Nat) : (repS z n).length = n * z.length := by
  show ((List.replicate n z.cps).foldl (· ++ ·) #[]).size = n * z.cps.size
  rw [fold_size]
  simp
theorem fold_all (f : Nat → Bool) (a : Array Nat) (h : a.all f = true) : ∀ (n : Nat) (acc : Array Nat), acc.all f = true → ((List.replicate n a).foldl (· ++ ·) acc).all f = true
  | 0, acc, k => by simpa using k
  | n + 1, acc, k => by
    rw [List.replicate_succ, List.foldl_cons]
    exact fold_all f a h n _ (by rw [Array.all_append, k, h]; rfl)
theorem repS_ok {z : Str} (h : PyData.strOk z = true) (n : Nat) : PyData.strOk (repS z n) = true := fold_all _ z.cps h n #[] (by simp)
section
variable {X : Cx} {p : Pt}
/-! ### times -/
def rStrM : R2 := fun x y H Q => ∃ (z : Str) (n : Int), x = .str z ∧ y = .int n ∧ 0 ≤ n ∧ n ≤ 1000 ∧ z.length ≤ 1000 ∧ Q (.str (repS z n.toNat)) H
theorem op_mulS : OpR X (binaryOp .Mult) rStrM := by
  intro pins s σ H x y v u Q I rx ry h
  obtain ⟨z, n, rfl, rfl, h0, h1, hl, q⟩ := h
  obtain ⟨t, rfl⟩ := rx
  obtain ⟨t', rfl⟩ := ry
  have hsl := sizeLine_eq
  have fin : ∀ (y : Str), y = repS z n.toNat → Q (.str y) H := fun y e => by rw [e]; exact q
  refine PySem.P.mul_str ?_ (fun a b => ?_) (fun a b => ?_) ?_
  · rw [decide_eq_false (by omega), decide_eq_false (by omega)]; rfl
  · have hn : (2 ^ 63 - 1) / n ≥ 1000 := by
      have : (1000 : Int) * n ≤ 2 ^ 63 - 1 := by omega
      exact Int.le_ediv_of_mul_le (by omega) this
    have : (z.length : Int) ≤ 1000 := by omega
    omega
  · have hm : z.length * n.toNat ≤ 1000 * 1000 := Nat.mul_le_mul hl (by omega)
    have e : PySem.Builtin.Str.tooLong (z.length * n.toNat) = decide (z.length * n.toNat > sizeLine) := by rfl
    exact e.trans (decide_eq_false (by omega))
  · split
    · rename_i hn
      have e : n.toNat = 0 := by omega
      exact ⟨by decide, .str Str.empty, H, I.tok _, ⟨_, rfl⟩, fin _ (by rw [e]; rfl)⟩
    · split
      · rename_i hn hc
        have e : z = repS z n.toNat := by
          simp only [Bool.or_eq_true, beq_iff_eq] at hc
          rcases hc with hc | hc
          · have : n.toNat = 1 := by omega
            rw [this]
            show z = ⟨#[] ++ z.cps⟩
            rw [Array.empty_append]
          · have ez : z.cps = #[] := Array.size_eq_zero_iff.mp hc
            have go : ∀ (m : Nat), (List.replicate m (#[] : Array Nat)).foldl (· ++ ·) #[] = #[] := fun m => by
              induction m with
              | zero => rfl
              | succ m ih => rw [List.replicate_succ, List.foldl_cons, Array.empty_append]; exact ih
            show z = ⟨(List.replicate n.toNat z.cps).foldl (· ++ ·) #[]⟩
            rw [ez, go]
            cases z; cases ez; rfl
        exact ⟨.str z, H, I, ⟨_, rfl⟩, fin _ e⟩
      · refine ⟨?_, .str _, H, I.tok _, ⟨_, rfl⟩, fin _ rfl⟩
        show (repS z n.toNat).length ≤ sizeLine
        have hm : n.toNat * z.length ≤ 1000 * 1000 := Nat.mul_le_mul (by omega) hl
        rw [repS_len]
        omega
def rMulU (K : PySem.W.Frag) : R2 := fun x y H Q => (rI CMul (fun i j => .int (i * j)) x y H Q ∨ rStrM x y H Q) ∨ (rRep x y H Q ∨ rRepT K x y H Q)
theorem op_mulU : OpR X (binaryOp .Mult) (rMulU X.K) := (op_mul.or op_mulS).or (op_rep.or op_repT)
theorem each_rep {R : V → D → Prop} {vs : List V} {ds : List D} (h : Each R vs ds) : ∀ n : Nat, Each R (List.replicate n vs).flatten (List.replicate n ds).flatten
  | 0 => .nil
  | n + 1 => by
    rw [List.replicate_succ, List.replicate_succ, List.flatten_cons, List.flatten_cons]
    exact h.append (each_rep h n)
theorem o2_mul : Op2 X p .top .top .rep (rMulU X.K) oMul := by
  intro F0 H0 F H x y dx dy Q f0 rx ry q
  have rx' : RdV X.K p F H x dx := TopV.rd rx
  have ry' : RdV X.K p F H y dy := TopV.rd ry
  cases dx <;> try exact q.elim
  · cases dy <;> try exact q.elim
    rw [t_int rx', t_int ry']
    obtain ⟨h, q⟩ := Ro.post_ite q
    refine .inl (.inl ⟨_, _, rfl, rfl, ?_, q _ F H (Ext.refl f0.fh) (.int _)⟩)
    rw [Bool.or_eq_true] at h
    exact h.imp of_decide_eq_true of_decide_eq_true
  · cases dy <;> try exact q.elim
    obtain ⟨rfl, o1, l1⟩ := t_str rx'
    rw [t_int ry']
    rename_i z n
    obtain ⟨⟨h0, h1, h2⟩, q⟩ := Ro.post_ite q
    refine .inl (.inr ⟨_, _, rfl, rfl, h0, h1, h2, q _ F H (Ext.refl f0.fh) (.str _ (repS_ok o1 _) ?_)⟩)
    rw [repS_len]
    have hm : n.toNat * z.length ≤ 1000 * 1000 := Nat.mul_le_mul (by omega) h2
    have hsl := sizeLine_eq
    omega
  · cases dy <;> try exact q.elim
    obtain ⟨a, vs, rfl, ha, ea⟩ := t_lst f0.fh rx
    rw [t_int ry']
    obtain ⟨⟨h0, h1, h2⟩, q⟩ := Ro.post_ite q
    refine .inr (.inl ⟨a, _, vs, rfl, rfl, ha, h0, h1, by rw [ea.1]; exact h2, fun u hu => ?_⟩)
    obtain ⟨F', x, r⟩ := mk_lstR f0.fh hu (each_rep ea _)
    exact q _ F' _ x r
  · cases dy <;> try exact q.elim
    obtain ⟨a, vs, rfl, ha, ea⟩ := t_tup rx'
    rw [t_int ry']
    obtain ⟨⟨h0, h1, h2, h3⟩, q⟩ := Ro.post_ite q
    refine .inr (.inr ⟨a, _, vs, rfl, rfl, .of (f0.fh _ _ ha), fun z => ?_, h1, h2, by rw [ea.1]; exact h3, fun u hu => ?_⟩)
    · subst z
      exact h0 (List.length_eq_zero_iff.mp ea.1.symm)
    · obtain ⟨x, r⟩ := mk_tup f0.fh hu (each_rep ea _)
      exact q _ _ _ x r
/-! ### is None -/
theorem rd_ne_non {K : PySem.W.Frag} {F H : Hp} {v : V} {d : D} (r : RdV K p F H v d) (h : d ≠ .non) : v ≠ .non := by
  rintro rfl
  rcases r with r | ⟨a, z, _⟩ | ⟨a, _, _, z, _⟩
  · cases r; exact h rfl
  · cases z
  · cases z
theorem oIsN_eq (dx dy : D) (k : D → Prop) (h : (oIsN dx dy).post k fun _ => False) : dy = .non ∧ ((dx = .non ∧ k (.bl true)) ∨ (dx ≠ .non ∧ k (.bl false))) := by
  cases dy <;> first
    | (cases dx <;> first | exact ⟨rfl, .inl ⟨rfl, h⟩⟩ | exact ⟨rfl, .inr ⟨(fun z => by cases z), h⟩⟩)
    | (cases dx <;> exact h.elim)
theorem oNotN_eq (dx dy : D) (k : D → Prop) (h : (oNotN dx dy).post k fun _ => False) : dy = .non ∧ ((dx = .non ∧ k (.bl false)) ∨ (dx ≠ .non ∧ k (.bl true))) := by
  cases dy <;> first
    | (cases dx <;> first | exact ⟨rfl, .inl ⟨rfl, h⟩⟩ | exact ⟨rfl, .inr ⟨(fun z => by cases z), h⟩⟩)
    | (cases dx <;> exact h.elim)
theorem o2_isN : Op2 X p .rd .rep .rep (fun x y H Q => y = .non ∧ Q (.bl (decide (x = .non))) H) oIsN := by
  intro F0 H0 F H x y dx dy Q f0 rx ry q
  obtain ⟨rfl, h⟩ := oIsN_eq _ _ _ q
  refine ⟨t_non (.inl ry : RdV X.K p F H y _), ?_⟩
  rcases h with ⟨rfl, q⟩ | ⟨h, q⟩
  · rw [t_non (rdv f0 (by decide) rx)]
    exact q _ F H (Ext.refl f0.fh) (.bl _)
  · rw [decide_eq_false (rd_ne_non (rdv f0 (by decide) rx) h)]
    exact q _ F H (Ext.refl f0.fh) (.bl _)
theorem o2_notN : Op2 X p .rd .rep .rep (fun x y H Q => y = .non ∧ Q (.bl (!decide (x = .non))) H) oNotN := by
  intro F0 H0 F H x y dx dy Q f0 rx ry q
  obtain ⟨rfl, h⟩ := oNotN_eq _ _ _ q
  refine ⟨t_non (.inl ry : RdV X.K p F H y _), ?_⟩
  rcases h with ⟨rfl, q⟩ | ⟨h, q⟩
  · rw [t_non (rdv f0 (by decide) rx)]
    exact q _ F H (Ext.refl f0.fh) (.bl _)
  · rw [decide_eq_false (rd_ne_non (rdv f0 (by decide) rx) h)]
    exact q _ F H (Ext.refl f0.fh) (.bl _)

/-! ### keys -/
theorem key_kV {K : PySem.W.Frag} {F H : Hp} {v : V} {d : D} {k : Key} (r : RdV K p F H v d) (h : oKey d = some k) : v = kV k := by
  cases d <;> try cases h
  · rw [t_int r]; rfl
  · rw [(t_str r).1]; rfl
theorem keys_kV {F : Hp} : ∀ {vs : List V} {ds : List D} {ks : List Key}, Each (Rep p F) vs ds → ds.mapM oKey = some ks → vs = ks.map kV
  | [], [], ks, _, h => by
    simp at h
    subst h; rfl
  | v :: vs, d :: ds, ks, e, h => by
    rw [List.mapM_cons] at h
    cases h1 : oKey d with
    | none => rw [h1] at h; cases h
    | some k =>
      rw [h1] at h
      cases h2 : ds.mapM oKey with
      | none => rw [h2] at h; cases h
      | some r =>
        rw [h2] at h
        cases h
        rw [key_kV (K := []) (H := F) (.inl e.inv.1) h1, keys_kV e.inv.2 h2]
        rfl
  | [], _ :: _, _, e, _ => absurd e.1 (by simp)
  | _ :: _, [], _, e, _ => absurd e.1 (by simp)
theorem look_val {κ : Type} [DecidableEq κ] : ∀ {kvs : List (κ × V)} {es : List (κ × D)} {k : κ}, kvs.map (·.1) = es.map (·.1) → ((look es k = none ∧ valV kvs k = none) ∨ ∃ (i : Nat) (e : κ × D) (kv : κ × V), es[i]? = some e ∧ kvs[i]? = some kv ∧ look es k = some e.2 ∧ valV kvs k = some kv.2)
  | [], [], _, _ => .inl ⟨rfl, rfl⟩
  | [], _ :: _, _, h => absurd h (by simp)
  | _ :: _, [], _, h => absurd h (by simp)
  | kv :: kvs, e :: es, k, h => by
    simp only [List.map_cons, List.cons.injEq] at h
    by_cases hk : e.1 = k
    · refine .inr ⟨0, e, kv, rfl, rfl, ?_, ?_⟩
      · simp [look, hk]
      · have : kv.1 = k := h.1.trans hk
        simp [valV, this]
    · have hk' : ¬ kv.1 = k := fun z => hk (h.1.symm.trans z)
      have a1 : look (e :: es) k = look es k := by simp [look, hk]
      have a2 : valV (kv :: kvs) k = valV kvs k := by simp [valV, hk']
      rw [a1, a2]
      rcases look_val (k := k) h.2 with q | ⟨i, e', kv', h1, h2, h3, h4⟩
      · exact .inl q
      · exact .inr ⟨i + 1, e', kv', h1, h2, h3, h4⟩
/-- a dict asked at a key -/
theorem dget_of {F H : Hp} {K : PySem.W.Frag} {x y : V} {dx dy : D} {o : Option D} (s : Same F H) (rx : TopV p F H x dx) (ry : Rep p F y dy) (h : oLook dx dy = some o) :
    ∃ a g, x = .ref a ∧ IsD H a ∧ DGet H a y g ∧ g.isSome = o.isSome ∧ ∀ v d, g = some v → o = some d → Rep p F v d := by
  cases dx <;> try (cases h; done)
  · rename_i es
    obtain ⟨a, kvs, rfl, ha, hk, _, hi⟩ := t_dK (K := []) s rx.rd
    cases h1 : oKey dy with
    | none => rw [show oLook (.dK es) dy = (oKey dy).map (look es) from rfl, h1] at h; cases h
    | some k =>
      rw [show oLook (.dK es) dy = (oKey dy).map (look es) from rfl, h1] at h
      cases h
      have e := key_kV (K := []) (H := F) (.inl ry) h1
      subst e
      refine ⟨a, valV kvs k, rfl, .inl ⟨kvs, .inl ha⟩, DGet.k ha, ?_⟩
      rcases look_val (k := k) hk with ⟨q1, q2⟩ | ⟨i, e, kv, h1, h2, h3, h4⟩
      · rw [q1, q2]; exact ⟨rfl, fun v d z => by cases z⟩
      · rw [h3, h4]; exact ⟨rfl, fun v d z1 z2 => by cases z1; cases z2; exact hi i kv e h2 h1⟩
  · rename_i es
    obtain ⟨a, kvs, rfl, ha, hk, _, hi⟩ := t_dT (K := []) s rx.rd
    cases h1 : oKeys dy with
    | none => rw [show oLook (.dT es) dy = (oKeys dy).map (look es) from rfl, h1] at h; cases h
    | some k =>
      rw [show oLook (.dT es) dy = (oKeys dy).map (look es) from rfl, h1] at h
      cases h
      cases dy <;> try (cases h1; done)
      obtain ⟨b, vs, rfl, hb, eb⟩ := t_tup (K := []) (H := F) (.inl ry)
      have e := keys_kV eb h1
      subst e
      refine ⟨a, valV kvs k, rfl, .inr ⟨kvs, .inl ha⟩, DGet.t ha (s _ _ hb), ?_⟩
      rcases look_val (k := k) hk with ⟨q1, q2⟩ | ⟨i, e, kv, h1, h2, h3, h4⟩
      · rw [q1, q2]; exact ⟨rfl, fun v d z => by cases z⟩
      · rw [h3, h4]; exact ⟨rfl, fun v d z1 z2 => by cases z1; cases z2; exact hi i kv e h2 h1⟩
/-! ### in -/
def rInDt (neg : Bool) : R2 := fun x y H Q => ∃ a o, y = .ref a ∧ DGet H a x o ∧ Q (.bl (if neg then !o.isSome else o.isSome)) H
theorem op_inDt (hu : X.A.units + 1 < cLine) : OpR X (compareOp .In) (rInDt false) := by
  intro pins s σ H x y v u Q I rx ry h
  obtain ⟨a, o, rfl, g, q⟩ := h
  cases ry
  exact d_in hu I g rx fun s' I' => ⟨.bl _, H, I', rfl, q⟩
theorem op_notInDt (hu : X.A.units + 1 < cLine) : OpR X (compareOp .NotIn) (rInDt true) := by
  intro pins s σ H x y v u Q I rx ry h
  obtain ⟨a, o, rfl, g, q⟩ := h
  cases ry
  exact d_notIn hu I g rx fun s' I' => ⟨.bl _, H, I', rfl, q⟩
def rSgn (neg : Bool) : R2 := fun x y H Q => ∃ (c : Nat) (z : Str), x = .str ⟨#[c]⟩ ∧ y = .str z ∧ Q (.bl (if neg then !decide (c ∈ z.cps.toList) else decide (c ∈ z.cps.toList))) H
def rInU (K : PySem.W.Frag) : R2 := fun x y H Q => rInD K x y H Q ∨ (rSgn false x y H Q ∨ rInDt false x y H Q)
def rNotInU (K : PySem.W.Frag) : R2 := fun x y H Q => rNotInD K x y H Q ∨ (rSgn true x y H Q ∨ rInDt true x y H Q)
theorem op_inU (hu : X.A.units + 65 < cLine) : OpR X (compareOp .In) (rInU X.K) := (op_inD hu).or ((show OpR X (compareOp .In) (rSgn false) from op_in_sign).or (op_inDt (by omega)))
theorem op_notInU (hu : X.A.units + 65 < cLine) : OpR X (compareOp .NotIn) (rNotInU X.K) := (op_notInD hu).or ((show OpR X (compareOp .NotIn) (rSgn true) from op_notIn_sign).or (op_notInDt (by omega)))
theorem any_py {n : Nat} (ds : List D) (d : D) : ((ds.map (D.py n)).any fun z => PyData.eqv z (d.py n)) = ds.any fun y => PyData.eqv (y.py n) (d.py n) := by
  rw [List.any_map]; rfl
theorem post_bl {r : Ro Bool} {g : Bool → Bool} {k : D → Prop} (h : (r.bind fun b => .ok (D.bl (g b))).post k fun _ => False) : ∃ b, r = .ok b ∧ k (.bl (g b)) := by
  cases r with
  | ok b => exact ⟨b, rfl, h⟩
  | xc c => exact h.elim
  | bad => exact h.elim
theorem has_cases {dx dy : D} {b : Bool} (h : oHas dx dy = .ok b) : (∃ ys, dy = .lst ys ∧ dx.sh 8 = true ∧ (D.lst ys).sh 9 = true ∧ b = ys.any fun y => y.eq dx) ∨ (∃ x z c, dx = .str x ∧ dy = .str z ∧ x.cps.toList = [c] ∧ b = decide (c ∈ z.cps.toList)) ∨ ∃ o, oLook dy dx = some o ∧ b = o.isSome := by
  have ll : ∀ ys, oHas dx (.lst ys) = .ok b → dx.sh 8 = true ∧ (D.lst ys).sh 9 = true ∧ b = ys.any fun y => y.eq dx := fun ys h => by
    have h' : (if (dx.sh 8 && (D.lst ys).sh 9) = true then Ro.ok (ys.any fun y => y.eq dx) else .bad) = .ok b := by
      cases dx <;> exact h
    split at h'
    · rename_i hc
      rw [Bool.and_eq_true] at hc
      cases h'
      exact ⟨hc.1, hc.2, rfl⟩
    · cases h'
  have lk : (match oLook dy dx with | some o => Ro.ok o.isSome | none => .bad) = .ok b → ∃ o, oLook dy dx = some o ∧ b = o.isSome := fun h => by
    split at h
    · cases h; exact ⟨_, by assumption, rfl⟩
    · cases h
  cases dy with
  | lst ys =>
    obtain ⟨h1, h2, h3⟩ := ll ys h
    exact .inl ⟨ys, rfl, h1, h2, h3⟩
  | str z =>
    cases dx <;> first
      | (cases h; done)
      | (rename_i x
         have h' : (match x.cps.toList with | [c] => Ro.ok (decide (c ∈ z.cps.toList)) | _ => .bad) = .ok b := h
         split at h'
         · rename_i c hc
           cases h'
           exact .inr (.inl ⟨x, z, c, rfl, rfl, hc, rfl⟩)
         · cases h')
  | _ =>
    refine .inr (.inr (lk ?_))
    cases dx <;> exact h
theorem str_one {x : Str} {c : Nat} (h : x.cps.toList = [c]) : x = ⟨#[c]⟩ := by
  cases x
  rename_i a
  have : a = #[c] := Array.toList_inj.mp h
  rw [this]
theorem has_rd {K : PySem.W.Frag} {neg : Bool} {F H : Hp} {x y : V} {dx dy : D} {Q : VK} {b : Bool} (s : Same F H) (rx : RdV K p F H x dx) (ry : TopV p F H y dy) (rk : (oLook dy dx).isSome → Rep p F x dx) (h : oHas dx dy = .ok b) (q : Q (.bl (if neg then !b else b)) H) :
    (∃ d ds, Dp K H x d ∧ Dp K H y (.list ds) ∧ SeqAt.shaped d = true ∧ SeqAt.shaped (.list ds) = true ∧ Q (.bl (if neg then !ds.any fun z => PyData.eqv z d else ds.any fun z => PyData.eqv z d)) H) ∨ (rSgn neg x y H Q ∨ rInDt neg x y H Q) := by
  rcases has_cases h with ⟨ys, rfl, h1, h2, h3⟩ | ⟨z, w, c, rfl, rfl, hc, h3⟩ | ⟨o, h1, h3⟩
  · have a := py_rd s rx h1 (by decide)
    have b := py_rd s ry.rd (K := K) h2 (by decide)
    refine .inl ⟨_, ys.map (D.py 8), a.1, b.1, a.2, b.2, ?_⟩
    rw [any_py]
    rw [h3] at q
    exact q
  · obtain ⟨rfl, _⟩ := t_str rx
    obtain ⟨rfl, _⟩ := t_str (ry.rd (K := K))
    refine .inr (.inl ⟨c, w, by rw [str_one hc], rfl, ?_⟩)
    rw [h3] at q
    exact q
  · obtain ⟨a, g, rfl, _, hg, hs, _⟩ := dget_of (K := K) s ry (rk (by rw [h1]; rfl)) h1
    refine .inr (.inr ⟨a, g, rfl, hg, ?_⟩)
    rw [h3] at q
    rw [hs]
    exact q
theorem key_rep {K : PySem.W.Frag} {F H : Hp} {x : V} {dx dy : D} (r : RdV K p F H x dx) (h : (oLook dy dx).isSome) : Rep p F x dx := by
  rcases r with r | ⟨a, rfl, o⟩ | ⟨a, vs, ds, rfl, rfl, _⟩
  · exact r
  · cases o <;> (cases dy <;> exact absurd h (by simp [oLook, oKey, oKeys]))
  · cases dy <;> exact absurd h (by simp [oLook, oKey, oKeys])
theorem o2_in : Op2 X p .rd .top .rep (rInU X.K) oIn := by
  intro F0 H0 F H x y dx dy Q f0 rx ry q
  obtain ⟨b, h, q⟩ := post_bl (g := fun b => b) q
  have rx' := rdv f0 (by decide) rx
  exact has_rd (neg := false) f0.fh rx' ry (key_rep rx') h (q _ F H (Ext.refl f0.fh) (.bl b))
theorem o2_notIn : Op2 X p .rd .top .rep (rNotInU X.K) oNotIn := by
  intro F0 H0 F H x y dx dy Q f0 rx ry q
  obtain ⟨b, h, q⟩ := post_bl (g := fun b => !b) q
  have rx' := rdv f0 (by decide) rx
  exact has_rd (neg := true) f0.fh rx' ry (key_rep rx') h (q _ F H (Ext.refl f0.fh) (.bl _))
end
end L2.Nf

namespace L2.Nf
open PySem PySem.Spec PyProof.Rows

theorem pe_or {X : Cx} {e : Expr} {t u : TE} (h : PE X e t) (h' : PE X e u) : PE X e (fun σ H Q => t σ H Q ∨ u σ H Q) :=
  ⟨fun pins s σ H Q I q => q.elim (h.run pins s σ H Q I) (h'.run pins s σ H Q I)⟩

/-! ### subscripts -/
def oIxS : D → D → Ro D
  | .lst xs, .int i => match atI xs i with
    | some d => .ok d
    | none => .bad
  | .tup xs, .int i => match atI xs i with
    | some d => .ok d
    | none => .bad
  | .str z, .int i => match atI z.cps.toList i with
    | some c => .ok (.str ⟨#[c]⟩)
    | none => .bad
  | _, _ => .bad
def oIxD (d k : D) : Ro D := match oLook d k with
  | some (some v) => .ok v
  | _ => .bad
def isDict : D → Bool
  | .dK _ => true
  | .dT _ => true
  | _ => false
def oIx (d k : D) : Ro D := if isDict d = true then oIxD d k else oIxS d k
theorem nx_ixS (d k : D) : NoX (oIxS d k) := by
  unfold oIxS
  split <;> first | exact nx_bad | (split <;> first | exact nx_ok _ | exact nx_bad)
theorem nx_ixD (d k : D) : NoX (oIxD d k) := by
  unfold oIxD
  split <;> first | exact nx_ok _ | exact nx_bad
theorem each_at {R : V → D → Prop} {vs : List V} {ds : List D} (h : Each R vs ds) {i : Int} {d : D} (hd : atI ds i = some d) : ∃ v, atI vs i = some v ∧ R v d := by
  unfold atI at hd ⊢
  rw [h.1]
  cases hj : ixN ds.length i with
  | none => rw [hj] at hd; cases hd
  | some j =>
    rw [hj] at hd
    exact h.get hd
theorem strOk_one {z : Str} {i : Int} {c : Nat} (h : PyData.strOk z = true) (hc : atI z.cps.toList i = some c) : PyData.strOk ⟨#[c]⟩ = true := by
  unfold atI at hc
  cases hj : ixN z.cps.toList.length i with
  | none => rw [hj] at hc; cases hc
  | some j =>
    rw [hj] at hc
    have hm : c ∈ z.cps.toList := List.mem_of_getElem? hc
    unfold PyData.strOk at h ⊢
    rw [← Array.all_toList] at h
    have := List.all_eq_true.mp h c hm
    simpa using this
section
variable {X : Cx} {p : Pt} {W : WX} {M : List Md}
theorem o2_ixS : Op2 X p .rd .rep .rep (rIx X.K) oIxS := by
  intro F0 H0 F H x y dx dy Q f0 rx ry q
  have rx' : RdV X.K p F H x dx := rx
  cases dx <;> try exact q.elim
  · cases dy <;> try exact q.elim
    rename_i z i
    obtain ⟨rfl, o1, l1⟩ := t_str rx'
    rw [t_int (.inl ry : RdV X.K p F H y _)]
    cases hc : atI z.cps.toList i with
    | none => rw [show oIxS (.str z) (.int i) = (match atI z.cps.toList i with | some c => .ok (.str ⟨#[c]⟩) | none => .bad) from rfl, hc] at q; exact q.elim
    | some c =>
      rw [show oIxS (.str z) (.int i) = (match atI z.cps.toList i with | some c => .ok (.str ⟨#[c]⟩) | none => .bad) from rfl, hc] at q
      refine .inr (.inr ⟨z, i, c, rfl, rfl, l1, hc, q _ F H (Ext.refl f0.fh) (.str _ (strOk_one o1 hc) ?_)⟩)
      show 1 ≤ sizeLine
      decide
  · cases dy <;> try exact q.elim
    rename_i ds i
    obtain ⟨a, vs, rfl, ha, ea⟩ := r_lst f0.fh rx'
    rw [t_int (.inl ry : RdV X.K p F H y _)]
    cases hc : atI ds i with
    | none => rw [show oIxS (.lst ds) (.int i) = (match atI ds i with | some c => .ok c | none => .bad) from rfl, hc] at q; exact q.elim
    | some c =>
      rw [show oIxS (.lst ds) (.int i) = (match atI ds i with | some c => .ok c | none => .bad) from rfl, hc] at q
      obtain ⟨v, hv, r⟩ := each_at ea hc
      exact .inl ⟨a, vs, i, v, rfl, rfl, ha, hv, q _ F H (Ext.refl f0.fh) r⟩
  · cases dy <;> try exact q.elim
    rename_i ds i
    obtain ⟨a, vs, rfl, ha, ea⟩ := t_tup rx'
    rw [t_int (.inl ry : RdV X.K p F H y _)]
    cases hc : atI ds i with
    | none => rw [show oIxS (.tup ds) (.int i) = (match atI ds i with | some c => .ok c | none => .bad) from rfl, hc] at q; exact q.elim
    | some c =>
      rw [show oIxS (.tup ds) (.int i) = (match atI ds i with | some c => .ok c | none => .bad) from rfl, hc] at q
      obtain ⟨v, hv, r⟩ := each_at ea hc
      exact .inr (.inl ⟨a, vs, i, v, rfl, rfl, .of (f0.fh _ _ ha), hv, q _ F H (Ext.refl f0.fh) r⟩)
def rDGet : R2 := fun x y H Q => ∃ a v, x = .ref a ∧ DGet H a y (some v) ∧ Q v H
theorem look_post {d k : D} {K' : D → Prop} (h : (oIxD d k).post K' fun _ => False) : ∃ v, oLook d k = some (some v) ∧ K' v := by
  unfold oIxD at h
  split at h
  · exact ⟨_, by assumption, h⟩
  · exact h.elim
theorem rd_dict {K : PySem.W.Frag} {F H : Hp} {v : V} {d : D} (h : isDict d = true) (r : RdV K p F H v d) : TopV p F H v d := by
  rcases r with r | r | ⟨_, _, _, _, rfl, _⟩
  · exact .inl r
  · exact .inr r
  · cases h
theorem o2_ixD : Op2 X p .top .rep .rep rDGet oIxD := by
  intro F0 H0 F H x y dx dy Q f0 rx ry q
  obtain ⟨d, h, q⟩ := look_post q
  obtain ⟨a, g, rfl, _, hg, hs, hr⟩ := dget_of (K := X.K) f0.fh rx ry h
  cases g with
  | none => cases hs
  | some v => exact ⟨a, v, rfl, hg, q v F H (Ext.refl f0.fh) (hr v d rfl rfl)⟩
theorem pk_ix {k : Kd} {a b : Expr} {fa fb : EDen} {pos : Pos} (hu : X.A.units + 1 < cLine) (ha : PEk X p W M k a fa) (hb : PEk X p W M .rep b fb) (hk : k.le .rd = true := by decide) (hs : ∀ o i, subscripted b false o i = operate [o, i] (getItem o i) := by intro _ _; rfl) : PEk X p W M .rep (.Subscript a b pos) (e2 oIx fa fb) := by
  obtain ⟨ta, pa, sa⟩ := pk_cast (k' := .rd) ha hk
  obtain ⟨tb, pb, sb⟩ := hb
  refine ⟨_, pe_or (pe_ix ix_seq pa pb hs) (pe_dget hu pa pb hs), fun F0 H0 Γ F σ H Q E q => ?_⟩
  by_cases hd : ∃ d, fa Γ = .ok d ∧ isDict d = true
  · obtain ⟨d, h1, h2⟩ := hd
    refine .inr (sa.go E ?_)
    unfold e2 at q
    rw [h1] at q ⊢
    intro x F1 H1 x1 rx
    refine sb.go (E.grow x1) ?_
    simp only [Ro.bind_ok] at q
    cases h3 : fb Γ with
    | bad => rw [h3] at q; exact q
    | xc c => rw [h3] at q; exact wish_on x1 q
    | ok k =>
      rw [h3] at q
      intro y F2 H2 x2 ry
      have e : oIx d k = oIxD d k := by unfold oIx; rw [if_pos h2]
      rw [Ro.bind_ok, e] at q
      cases h4 : oIxD d k with
      | bad => rw [h4] at q; exact q.elim
      | xc c => exact absurd h4 (nx_ixD d k c)
      | ok r =>
        rw [h4] at q
        obtain ⟨v, hl, e'⟩ := look_post (d := d) (k := k) (K' := fun v => v = r) (by rw [h4]; rfl)
        subst e'
        have rx2 : RdV X.K p F2 H2 x d := rx.grow (by decide) x2 H2 (k := .rd)
        obtain ⟨a, g, rfl, _, hg, hs, hr⟩ := dget_of (K := X.K) ((E.grow x1).grow x2).ext.fh (rd_dict h2 rx2) ry hl
        cases g with
        | none => cases hs
        | some w => exact ⟨a, w, rfl, hg, q w F2 H2 (x1.trans x2) (hr w v rfl rfl)⟩
  · refine .inl (se2 (X := X) (p := p) (W := W) (M := M) o2_ixS nx_ixS sa sb (by decide) (by decide) F0 H0 Γ F σ H Q E ?_)
    have e : e2 oIxS fa fb Γ = e2 oIx fa fb Γ := by
      unfold e2
      cases h1 : fa Γ with
      | bad => rfl
      | xc c => rfl
      | ok d =>
        have : ¬ isDict d = true := fun z => hd ⟨d, h1, z⟩
        simp only [Ro.bind_ok, oIx, if_neg this]
    rw [e]
    exact q

/-! ### slices -/
def cut {α : Type} (xs : List α) (lo hi : Option Int) : List α := (xs.drop (HT.sIx xs.length 0 lo)).take (HT.sIx xs.length xs.length hi - HT.sIx xs.length 0 lo)
def oCut (d : D) (lo hi : Option Int) : Ro D := match d with
  | .lst xs => .ok (.lst (cut xs lo hi))
  | .tup xs => .ok (.tup (cut xs lo hi))
  | .str z => .ok (.str (cutS z lo hi))
  | _ => .bad
def oCutL (d : D) (lo hi : Option Int) : Ro D := match d with
  | .lst xs => .ok (.lst (cut xs lo hi))
  | _ => .bad
/-- a part of a slice -/
def pInt (o : Option EDen) (Γ : Gm) : Ro (Option Int) := match o with
  | none => .ok none
  | some f => (f Γ).bind fun d => match d with
    | .int i => .ok (some i)
    | _ => .bad
def eSl (op : D → Option Int → Option Int → Ro D) (a : EDen) (lo hi : Option EDen) : EDen := fun Γ => (a Γ).bind fun d => (pInt lo Γ).bind fun l => (pInt hi Γ).bind fun h => op d l h
def SO (X : Cx) (p : Pt) (W : WX) (M : List Md) (t : TO) (f : Option EDen) : Prop :=
  ∀ (F0 H0 : Hp) (Γ : Gm) (F : Hp) (σ : St) (H : Hp) (Q : Option Int → Hp → Prop), Env X.K p F0 H0 M Γ F σ H →
    (pInt f Γ).post (fun o => ∀ F' H', Ext F H F' H' → Q o H') (fun c => ∀ F' H', Ext F H F' H' → W (.ref (p.ca c)) none σ H') → t σ H Q
def POk (X : Cx) (p : Pt) (W : WX) (M : List Md) (e : Option Expr) (f : Option EDen) : Prop := ∃ t, PO X e t ∧ SO X p W M t f
theorem po_n : POk X p W M none none := ⟨_, po_none, fun F0 H0 Γ F σ H Q E q => q F H (Ext.refl E.ext.fh)⟩
theorem po_s {e : Expr} {f : EDen} (h : PEk X p W M .rep e f) : POk X p W M (some e) (some f) := by
  obtain ⟨t, pt, st⟩ := h
  refine ⟨_, po_some pt, fun F0 H0 Γ F σ H Q E q => st.go E ?_⟩
  have q : ((f Γ).bind fun d => match d with | .int i => .ok (some i) | _ => .bad).post _ _ := q
  cases h : f Γ with
  | bad => rw [h] at q; exact q
  | xc c => rw [h] at q; exact q
  | ok d =>
    rw [h] at q
    intro v F' H' e r
    cases r <;> first | exact ⟨_, rfl, q F' H' e⟩ | exact (show False from q).elim
theorem each_cut {R : V → D → Prop} {vs : List V} {ds : List D} (h : Each R vs ds) (lo hi : Option Int) : Each R (cutV vs lo hi) (cut ds lo hi) := by
  unfold cutV cut
  rw [h.1]
  exact (h.drop _).take _
theorem cut_ok {z : Str} (h : PyData.strOk z = true) (lo hi : Option Int) : PyData.strOk (cutS z lo hi) = true := by
  unfold PyData.strOk at h ⊢
  rw [← Array.all_toList] at h ⊢
  rw [List.all_eq_true] at h ⊢
  intro c hc
  refine h c ?_
  have hc : c ∈ ((z.cps.toList.drop (HT.sIx z.length 0 lo)).take (HT.sIx z.length z.length hi - HT.sIx z.length 0 lo)) := by simpa [cutS] using hc
  exact List.mem_of_mem_drop (List.mem_of_mem_take hc)
theorem cut_len (z : Str) (lo hi : Option Int) : (cutS z lo hi).length ≤ z.length := by
  show ((z.cps.toList.drop _).take _).toArray.size ≤ z.cps.size
  simp
  omega
def OpS (X : Cx) (p : Pt) (k1 k : Kd) (r : V → Option Int → Option Int → Hp → VK → Prop) (op : D → Option Int → Option Int → Ro D) : Prop :=
  ∀ (F0 H0 F H : Hp) (x : V) (lo hi : Option Int) (dx : D) (Q : VK), Ext F0 H0 F H → RelK X.K p k1 F0 H0 H F H x dx →
    (op dx lo hi).post (fun d => ∀ v F' H', Ext F H F' H' → RelK X.K p k F0 H0 H F' H' v d → Q v H') (fun _ => False) → r x lo hi H Q
def rSlU (K : PySem.W.Frag) : V → Option Int → Option Int → Hp → VK → Prop := fun x lo hi H Q => rSlL K x lo hi H Q ∨ (rSlA K x lo hi H Q ∨ rSlS x lo hi H Q)
theorem sl_U : SlR X (rSlU X.K) := sl_list.or (sl_tupA.or sl_str)
theorem os_cutL : OpS X p .rd .new (rSlL X.K) oCutL := by
  intro F0 H0 F H x lo hi dx Q f0 rx q
  have rx' : RdV X.K p F H x dx := rx
  cases dx <;> try exact q.elim
  obtain ⟨a, vs, rfl, ha, ea⟩ := r_lst f0.fh rx'
  refine ⟨a, vs, rfl, ha, fun u hu => ?_⟩
  obtain ⟨x, r⟩ := mk_lst (K := X.K) (F0 := F0) (H0 := H0) f0.fh hu (each_cut ea lo hi)
  exact q _ F _ x r
theorem whole_cut {α : Type} {xs : List α} {lo hi : Option Int} (h : HT.sIx xs.length 0 lo = 0 ∧ HT.sIx xs.length xs.length hi = xs.length) : cut xs lo hi = xs := by
  unfold cut
  rw [h.1, h.2]
  simp
theorem os_cut : OpS X p .rd .rep (rSlU X.K) oCut := by
  intro F0 H0 F H x lo hi dx Q f0 rx q
  have rx' : RdV X.K p F H x dx := rx
  cases dx <;> try exact q.elim
  · obtain ⟨rfl, o1, l1⟩ := t_str rx'
    exact .inr (.inr ⟨_, rfl, l1, q _ F H (Ext.refl f0.fh) (.str _ (cut_ok o1 lo hi) (Nat.le_trans (cut_len _ lo hi) l1))⟩)
  · refine .inl (os_cutL F0 H0 F H x lo hi _ Q f0 rx ?_)
    intro v F' H' e r
    obtain ⟨F2, e2, r2⟩ := r.cast (k' := .rep) (by decide) f0 e
    exact q v F2 H' e2 r2
  · obtain ⟨a, vs, rfl, ha, ea⟩ := t_tup rx'
    refine .inr (.inl ⟨a, vs, rfl, .of (f0.fh _ _ ha), fun hw => ?_, fun hw u hu => ?_⟩)
    · rw [ea.1] at hw
      have q' : ∀ v F' H', Ext F H F' H' → Rep p F' v (.tup (cut _ lo hi)) → Q v H' := q
      rw [whole_cut hw] at q'
      exact q' _ F H (Ext.refl f0.fh) (.tup ha ea.1 ea.2)
    · obtain ⟨x, r⟩ := mk_tup f0.fh hu (each_cut ea lo hi)
      exact q _ _ _ x r
theorem pk_sl {k1 k : Kd} {r : V → Option Int → Option Int → Hp → VK → Prop} {op : D → Option Int → Option Int → Ro D} {e : Expr} {lo hi : Option Expr} {f : EDen} {fl fh : Option EDen} {pos p2 : Pos}
    (hr : SlR X r) (ho : OpS X p .rd k r op) (hx : ∀ d l h, NoX (op d l h)) (he : PEk X p W M k1 e f) (hl : POk X p W M lo fl) (hh : POk X p W M hi fh) (hk : k1.le .rd = true := by decide) :
    PEk X p W M k (.Subscript e (.Slice lo hi none p2) pos) (eSl op f fl fh) := by
  obtain ⟨ta, pa, sa⟩ := pk_cast (k' := .rd) he hk
  obtain ⟨tl, pl, sl⟩ := hl
  obtain ⟨th, ph, sh⟩ := hh
  refine ⟨_, pe_slice hr pa pl ph, fun F0 H0 Γ F σ H Q E q => sa.go E ?_⟩
  unfold eSl at q
  cases h1 : f Γ with
  | bad => rw [h1] at q; exact q
  | xc c => rw [h1] at q; exact q
  | ok d =>
    rw [h1] at q
    intro x F1 H1 x1 rx
    have E1 := E.grow x1
    refine sl F0 H0 Γ F1 σ H1 _ E1 ?_
    simp only [Ro.bind_ok] at q
    cases h2 : pInt fl Γ with
    | bad => rw [h2] at q; exact q
    | xc c => rw [h2] at q; exact wish_on x1 q
    | ok l =>
      rw [h2] at q
      intro F2 H2 x2
      have E2 := E1.grow x2
      refine sh F0 H0 Γ F2 σ H2 _ E2 ?_
      simp only [Ro.bind_ok] at q
      cases h3 : pInt fh Γ with
      | bad => rw [h3] at q; exact q
      | xc c => rw [h3] at q; exact wish_on (x1.trans x2) q
      | ok h =>
        rw [h3] at q
        intro F3 H3 x3
        have E3 := E2.grow x3
        refine ho F0 H0 F3 H3 x l h d Q E3.ext (rx.grow (k := .rd) (by decide) (x2.trans x3) _) ?_
        simp only [Ro.bind_ok] at q
        cases h4 : op d l h with
        | bad => rw [h4] at q; exact q
        | xc c => exact absurd h4 (hx d l h c)
        | ok r =>
          rw [h4] at q
          exact fun v F4 H4 x4 rv => q v F4 H4 (x1.trans (x2.trans (x3.trans x4))) (rv.from (x1.hh.trans (x2.hh.trans x3.hh)))
theorem nx_cut (d : D) (l h : Option Int) : NoX (oCut d l h) := by
  unfold oCut
  split <;> first | exact nx_ok _ | exact nx_bad
theorem nx_cutL (d : D) (l h : Option Int) : NoX (oCutL d l h) := by
  unfold oCutL
  split <;> first | exact nx_ok _ | exact nx_bad
end
end L2.Nf

namespace L2.Nf
open PySem PySem.Spec PyProof.Rows

/-! ### arguments and displays -/
def aN : ADen := fun _ => .ok []
def aC (f : EDen) (r : ADen) : ADen := fun Γ => (f Γ).bind fun d => (r Γ).bind fun ds => .ok (d :: ds)
def eN (op : List D → Ro D) (as : ADen) : EDen := fun Γ => (as Γ).bind op
def oTup (ds : List D) : Ro D := .ok (.tup ds)
def oLst (ds : List D) : Ro D := .ok (.lst ds)
section
variable {X : Cx} {p : Pt} {W : WX} {M : List Md}
theorem pk_an : PAk X p W M [] [] aN := ⟨_, pa_nil, fun F0 H0 Γ F σ H Q E q => q [] F H (Ext.refl E.ext.fh) rfl rfl fun i k v d h => by simp at h⟩
theorem pk_ac {k : Kd} {ks : List Kd} {e : Expr} {es : List Expr} {f : EDen} {r : ADen} (h : PEk X p W M k e f) (hr : PAk X p W M ks es r) (hn : k ≠ .new := by decide) (hs : starEach (e :: es) X.env = (false, eval e X.env) :: starEach es X.env := by rfl) : PAk X p W M (k :: ks) (e :: es) (aC f r) := by
  obtain ⟨t, pt, st⟩ := h
  obtain ⟨u, pu, su⟩ := hr
  refine ⟨_, pa_cons pt pu hs, fun F0 H0 Γ F σ H Q E q => st.go E ?_⟩
  unfold aC at q
  cases h1 : f Γ with
  | bad => rw [h1] at q; exact q
  | xc c => rw [h1] at q; exact q
  | ok d =>
    rw [h1] at q
    intro x F1 H1 x1 rx
    have E1 := E.grow x1
    refine su F0 H0 Γ F1 σ H1 _ E1 ?_
    simp only [Ro.bind_ok] at q
    cases h2 : r Γ with
    | bad => rw [h2] at q; exact q
    | xc c => rw [h2] at q; exact wish_on x1 q
    | ok ds =>
      rw [h2] at q
      intro vs F2 H2 x2 l1 l2 hh
      refine q (x :: vs) F2 H2 (x1.trans x2) (by simp [l1]) (by simp [l2]) fun i k' v d' a b c => ?_
      cases i with
      | zero => simp at a b c; subst a; subst b; subst c; exact rx.grow hn x2 _
      | succ i => exact (hh i k' v d' (by simpa using a) (by simpa using b) (by simpa using c)).from x1.hh
theorem each_of_ks {K : PySem.W.Frag} {ks : List Kd} {F0 H0 H F' H' : Hp} {vs : List V} {ds : List D} (hk : ks.all (· == .rep) = true) (l1 : vs.length = ks.length) (l2 : ds.length = ks.length)
    (h : ∀ (i : Nat) k v d, ks[i]? = some k → vs[i]? = some v → ds[i]? = some d → RelK K p k F0 H0 H F' H' v d) : Each (Rep p F') vs ds := by
  refine ⟨l1.trans l2.symm, fun i v d a b => ?_⟩
  have hi : i < ks.length := by rw [← l1]; exact (List.getElem?_eq_some_iff.mp a).1
  have e : ks[i]? = some ks[i] := by simp [hi]
  have z := List.all_eq_true.mp hk _ (List.mem_of_getElem? e)
  have z' : ks[i] = .rep := by simpa using z
  have q := h i _ v d e a b
  rw [z'] at q
  exact q
theorem ks_size {ks : List Kd} (h : decide (ks.length ≤ 1000) = true) : ks.length ≤ sizeLine := Nat.le_trans (of_decide_eq_true h) (by decide)
theorem pk_tup {ks : List Kd} {es : List Expr} {x1 pos} {r : ADen} (h : PAk X p W M ks es r) (hk : ks.all (· == .rep) = true := by rfl) (hl : decide (ks.length ≤ 1000) = true := by rfl) : PEk X p W M .rep (.Tuple es x1 pos) (eN oTup r) := by
  obtain ⟨t, pt, st⟩ := h
  refine ⟨_, pe_tup pt, fun F0 H0 Γ F σ H Q E q => st F0 H0 Γ F σ H _ E ?_⟩
  unfold eN at q
  cases h1 : r Γ with
  | bad => rw [h1] at q; exact q
  | xc c => rw [h1] at q; exact q
  | ok ds =>
    rw [h1] at q
    intro vs F1 H1 x1 l1 l2 hh
    refine ⟨by rw [l1]; exact ks_size hl, fun u hu => ?_⟩
    obtain ⟨x, r⟩ := mk_tup x1.fh hu (each_of_ks hk l1 l2 hh)
    exact q _ _ _ (x1.trans x) r
theorem pk_lst {ks : List Kd} {es : List Expr} {pos} {r : ADen} (h : PAk X p W M ks es r) (hk : ks.all (· == .rep) = true := by rfl) (hl : decide (ks.length ≤ 1000) = true := by rfl) : PEk X p W M .new (.List es pos) (eN oLst r) := by
  obtain ⟨t, pt, st⟩ := h
  refine ⟨_, pe_lst pt, fun F0 H0 Γ F σ H Q E q => st F0 H0 Γ F σ H _ E ?_⟩
  unfold eN at q
  cases h1 : r Γ with
  | bad => rw [h1] at q; exact q
  | xc c => rw [h1] at q; exact q
  | ok ds =>
    rw [h1] at q
    intro vs F1 H1 x1 l1 l2 hh
    refine ⟨by rw [l1]; exact ks_size hl, fun u hu => ?_⟩
    obtain ⟨x, r⟩ := mk_lst (K := X.K) (F0 := F0) (H0 := H0) x1.fh hu (each_of_ks hk l1 l2 hh)
    exact q _ _ _ (x1.trans x) (r.from x1.hh)
theorem pk_dK {pos} : PEk X p W M .new (.Dict [] [] pos) (eC (.dK [])) := ⟨_, pe_dnewK, fun F0 H0 Γ F σ H Q E q u hu =>
  q _ F _ ((Ext.refl E.ext.fh).new hu) ⟨u, rfl, E.ext.fh.free hu, hu, .dK upd_same rfl (fun e h => by cases h) fun i v d a => by simp at a⟩⟩
theorem pk_dT {pos} : PEk X p W M .new (.Dict [] [] pos) (eC (.dT [])) := ⟨_, pe_dnewT, fun F0 H0 Γ F σ H Q E q u hu =>
  q _ F _ ((Ext.refl E.ext.fh).new hu) ⟨u, rfl, E.ext.fh.free hu, hu, .dT upd_same rfl (fun e h => by cases h) fun i v d a => by simp at a⟩⟩

/-! ### built-in calls, by values -/
def OpN (X : Cx) (p : Pt) (ks : List Kd) (k : Kd) (r : List V → Hp → VK → Prop) (op : List D → Ro D) : Prop :=
  ∀ (F0 H0 F H : Hp) (vs : List V) (ds : List D) (Q : VK), Ext F0 H0 F H → vs.length = ks.length → ds.length = ks.length → (∀ (i : Nat) k v d, ks[i]? = some k → vs[i]? = some v → ds[i]? = some d → RelK X.K p k F0 H0 H F H v d) →
    (op ds).post (fun d => ∀ v F' H', Ext F H F' H' → RelK X.K p k F0 H0 H F' H' v d → Q v H') (fun _ => False) → r vs H Q
theorem seN {ks : List Kd} {k : Kd} {r : List V → Hp → VK → Prop} {op : List D → Ro D} {ta : TA} {a : ADen} (h : OpN X p ks k r op) (hx : ∀ ds, NoX (op ds)) (ha : SA X p W M ks ta a) (hn : ks.all (· != .new) = true) : SE X p W M k (tCB r ta) (eN op a) := by
  intro F0 H0 Γ F σ H Q E q
  refine ha F0 H0 Γ F σ H _ E ?_
  unfold eN at q
  cases h1 : a Γ with
  | bad => rw [h1] at q; exact q
  | xc c => rw [h1] at q; exact q
  | ok ds =>
    rw [h1] at q
    intro vs F1 H1 x1 l1 l2 hh
    refine h F0 H0 F1 H1 vs ds Q (E.grow x1).ext l1 l2 (fun i k v d a b c => ?_) ?_
    · refine (hh i k v d a b c).grow ?_ (Ext.refl x1.fh) _
      have z := List.all_eq_true.mp hn _ (List.mem_of_getElem? a)
      simpa using z
    · simp only [Ro.bind_ok] at q
      cases h2 : op ds with
      | bad => rw [h2] at q; exact q
      | xc c => exact absurd h2 (hx ds c)
      | ok d =>
        rw [h2] at q
        exact fun v F2 H2 x2 rv => q v F2 H2 (x1.trans x2) (rv.from x1.hh)
theorem pk_callB {ks : List Kd} {k : Kd} {r : List V → Hp → VK → Prop} {op : List D → Ro D} {x : Str} {pp pos : Pos} {e : Expr} {es : List Expr} {a : ADen} {id : String} (hc : CallR X (.builtin id) r) (h : OpN X p ks k r op) (hx : ∀ ds, NoX (op ds)) (ha : PAk X p W M ks (e :: es) a)
    (hm : X.mg x = none) (hg : Gl X x := by rfl) (hv : bootBuiltins x = some (.builtin id) := by decide +kernel) (hn : x ≠ "__name__" := by decide) (hdb : (x == ("__debug__" : Str)) = false := by decide)
    (he : starEach (e :: es) X.env = (false, eval e X.env) :: starEach es X.env := by rfl) (hpl : (backTo pos (starEach es X.env)).any (·.1) = false := by rfl) (hk : ks.all (· != .new) = true := by rfl) : PEk X p W M k (.Call (.Name x pp) (e :: es) [] pos) (eN op a) := by
  obtain ⟨t, pt, st⟩ := ha
  exact ⟨_, pe_callB hc hg hm hv pt hn hdb he hpl, seN h hx st hk⟩
theorem pk_callT {ks : List Kd} {k : Kd} {r : List V → Hp → VK → Prop} {op : List D → Ro D} {x : Str} {pp pos : Pos} {e : Expr} {es : List Expr} {a : ADen} {T : String} (hc : CallR X (.type T) r) (h : OpN X p ks k r op) (hx : ∀ ds, NoX (op ds)) (ha : PAk X p W M ks (e :: es) a)
    (hm : X.mg x = none) (hg : Gl X x := by rfl) (hv : bootBuiltins x = some (.type T) := by decide +kernel) (hn : x ≠ "__name__" := by decide) (hdb : (x == ("__debug__" : Str)) = false := by decide)
    (he : starEach (e :: es) X.env = (false, eval e X.env) :: starEach es X.env := by rfl) (hpl : (backTo pos (starEach es X.env)).any (·.1) = false := by rfl) (hk : ks.all (· != .new) = true := by rfl) : PEk X p W M k (.Call (.Name x pp) (e :: es) [] pos) (eN op a) := by
  obtain ⟨t, pt, st⟩ := ha
  exact ⟨_, pe_callTy hc hg hm hv pt hn hdb he hpl, seN h hx st hk⟩
theorem one_arg {ks : List Kd} {k : Kd} {vs : List V} (hks : ks = [k]) (l : vs.length = ks.length) : ∃ v, vs = [v] := by
  subst hks
  match vs, l with
  | [v], _ => exact ⟨v, rfl⟩

def oLen : List D → Ro D
  | [.str z] => .ok (.int z.length)
  | [.lst xs] => .ok (.int xs.length)
  | [.tup xs] => .ok (.int xs.length)
  | [.dK xs] => .ok (.int xs.length)
  | _ => .bad
theorem nx_len (ds : List D) : NoX (oLen ds) := by
  unfold oLen
  split <;> first | exact nx_ok _ | exact nx_bad
def rLenU (K : PySem.W.Frag) : List V → Hp → VK → Prop := fun xs H Q => (∃ x n, xs = [x] ∧ LenV K x H n ∧ Q (.int n) H) ∨ ∃ a kvs, xs = [V.ref a] ∧ H a = some (.dK kvs) ∧ Q (.int kvs.length) H
theorem call_lenU : CallR X (.builtin "len") (rLenU X.K) := call_len.or call_lenD
theorem on_len : OpN X p [.rd] .rep (rLenU X.K) oLen := by
  intro F0 H0 F H vs ds Q f0 l1 l2 hh q
  obtain ⟨v, rfl⟩ := one_arg rfl l1
  match ds, l2 with
  | [d], hlen =>
    clear hlen
    have r : RdV X.K p F H v d := hh 0 .rd v d rfl rfl rfl
    cases d <;> try exact q.elim
    · obtain ⟨rfl, o1, l1⟩ := t_str r
      exact .inl ⟨_, _, rfl, ⟨l1, rfl⟩, q _ F H (Ext.refl f0.fh) (.int _)⟩
    · obtain ⟨a, vs, rfl, ha, ea⟩ := r_lst f0.fh r
      refine .inl ⟨_, _, rfl, .inl ⟨vs, ha, rfl⟩, ?_⟩
      rw [ea.1]
      exact q _ F H (Ext.refl f0.fh) (.int _)
    · obtain ⟨a, vs, rfl, ha, ea⟩ := t_tup r
      refine .inl ⟨_, _, rfl, .inr ⟨vs, .of (f0.fh _ _ ha), rfl⟩, ?_⟩
      rw [ea.1]
      exact q _ F H (Ext.refl f0.fh) (.int _)
    · rename_i es
      obtain ⟨a, kvs, rfl, ha, hk, _, _⟩ := t_dK f0.fh r
      refine .inr ⟨a, kvs, rfl, ha, ?_⟩
      have e : kvs.length = es.length := by simpa using congrArg List.length hk
      rw [e]
      exact q _ F H (Ext.refl f0.fh) (.int _)
/-! list(..) -/
def dKey : Key → D
  | .inl i => .int i
  | .inr x => .str x
def oList : List D → Ro D
  | [.lst xs] => .ok (.lst xs)
  | [.tup xs] => .ok (.lst xs)
  | [.dK es] => .ok (.lst (es.map fun e => dKey e.1))
  | [.dT es] => .ok (.lst (es.map fun e => .tup (e.1.map dKey)))
  | _ => .bad
theorem nx_list (ds : List D) : NoX (oList ds) := by
  unfold oList
  split <;> first | exact nx_ok _ | exact nx_bad
def rListOf (K : PySem.W.Frag) : List V → Hp → VK → Prop := fun xs H Q => ∃ p ys, xs = [.ref p] ∧ (SqL K H p ys ∨ SqT K H p ys) ∧ ∀ l, H l = none → Q (.ref l) (upd H l (.lst ys))
def rListT : List V → Hp → VK → Prop := fun xs H Q => ∃ d kvs, xs = [V.ref d] ∧ Rd H d (.dT kvs) ∧ ∀ p bs, H p = none → IsKeys H kvs bs → Q (.ref p) (upd H p (.lst (bs.map V.ref)))
def rListU (K : PySem.W.Frag) : List V → Hp → VK → Prop := fun xs H Q => rListOf K xs H Q ∨ (rListD xs H Q ∨ rListT xs H Q)
theorem call_listU (hc : X.calm = true) : CallR X (.type "list") (rListU X.K) := (show CallR X (.type "list") (rListOf X.K) from call_list_of).or ((call_list_dK hc).or (show CallR X (.type "list") rListT from call_list_dT hc))
theorem key_repd {F : Hp} {k : Key} (h : keyC k = true) : Rep p F (kV k) (dKey k) := by
  cases k with
  | inl i => exact .int i
  | inr x => exact .str x (strC_ok h).1 (strC_ok h).2
/-- tuples of the heap, frozen -/
def frzAll (F H : Hp) (bs : List Addr) : Hp := fun b => if b ∈ bs then H b else F b
theorem Ext.frzAll {F H : Hp} {bs : List Addr} (s : Same F H) (h : ∀ b ∈ bs, ∃ vs, H b = some (.tup vs)) : Ext F H (frzAll F H bs) H := by
  refine ⟨fun b o e => ?_, .refl _, fun b o e => ?_, fun b o h1 h2 h3 => ?_⟩
  · unfold Nf.frzAll; split
    · exact s b o e
    · exact e
  · unfold Nf.frzAll at e; split at e
    · exact e
    · exact s b o e
  · unfold Nf.frzAll; split
    · rename_i hb
      obtain ⟨vs, e⟩ := h b hb
      rw [h2] at e; cases e
      exact absurd rfl (h3 vs)
    · exact h1
theorem keys_each : ∀ {kvs : List (List Key × V)} {bs : List Addr} {H : Hp}, IsKeys H kvs bs → kvs.length = bs.length ∧ ∀ (i : Nat) kv b, kvs[i]? = some kv → bs[i]? = some b → H b = some (.tup (kv.1.map kV))
  | [], [], _, _ => ⟨rfl, fun i kv b h => by simp at h⟩
  | kv :: kvs, b :: bs, H, .cons r t => by
    obtain ⟨h1, h2⟩ := keys_each t
    refine ⟨by simp [h1], fun i kv' b' a c => ?_⟩
    cases i with
    | zero => simp at a c; subst a; subst c; exact r
    | succ i => exact h2 i kv' b' (by simpa using a) (by simpa using c)
theorem keys_repT {F : Hp} {b : Addr} {ks : List Key} (h : F b = some (.tup (ks.map kV))) (hk : keysC ks = true) : Rep p F (.ref b) (.tup (ks.map dKey)) := by
  refine .tup h (by simp) fun i v d a c => ?_
  rw [List.getElem?_map] at a c
  cases e : ks[i]? with
  | none => rw [e] at a; cases a
  | some k =>
    rw [e] at a c
    cases a; cases c
    exact key_repd (List.all_eq_true.mp hk k (List.mem_of_getElem? e))
theorem on_list : OpN X p [.rd] .new (rListU X.K) oList := by
  intro F0 H0 F H vs ds Q f0 l1 l2 hh q
  obtain ⟨v, rfl⟩ := one_arg rfl l1
  match ds, l2 with
  | [d], hlen =>
    clear hlen
    have r : RdV X.K p F H v d := hh 0 .rd v d rfl rfl rfl
    cases d <;> try exact q.elim
    · obtain ⟨a, vs, rfl, ha, ea⟩ := r_lst f0.fh r
      refine .inl ⟨a, vs, rfl, .inl ha, fun u hu => ?_⟩
      obtain ⟨x, r⟩ := mk_lst (K := X.K) (F0 := F0) (H0 := H0) f0.fh hu ea
      exact q _ F _ x r
    · obtain ⟨a, vs, rfl, ha, ea⟩ := t_tup r
      refine .inl ⟨a, vs, rfl, .inr (.of (f0.fh _ _ ha)), fun u hu => ?_⟩
      obtain ⟨x, r⟩ := mk_lst (K := X.K) (F0 := F0) (H0 := H0) f0.fh hu ea
      exact q _ F _ x r
    · rename_i es
      obtain ⟨a, kvs, rfl, ha, hk, hs, _⟩ := t_dK f0.fh r
      refine .inr (.inl ⟨a, kvs, rfl, ha, fun u hu => ?_⟩)
      have ea : Each (Rep p F) (kvs.map fun kv => kV kv.1) (es.map fun e => dKey e.1) := by
        have e1 : (kvs.map fun kv => kV kv.1) = (es.map (·.1)).map kV := by rw [← hk, List.map_map]; rfl
        rw [e1]
        refine ⟨by simp, fun i v d a b => ?_⟩
        rw [List.map_map, List.getElem?_map] at a
        rw [List.getElem?_map] at b
        cases e : es[i]? with
        | none => rw [e] at a; cases a
        | some k =>
          rw [e] at a b
          cases a; cases b
          exact key_repd (hs k (List.mem_of_getElem? e))
      obtain ⟨x, r⟩ := mk_lst (K := X.K) (F0 := F0) (H0 := H0) f0.fh hu ea
      exact q _ F _ x r
    · rename_i es
      obtain ⟨a, kvs, rfl, ha, hk, hs, _⟩ := t_dT f0.fh r
      refine .inr (.inr ⟨a, kvs, rfl, .of ha, fun u bs hu hb => ?_⟩)
      obtain ⟨k1, k2⟩ := keys_each hb
      have le : kvs.length = es.length := by simpa using congrArg List.length hk
      have tups : ∀ b ∈ bs, ∃ vs, H b = some (.tup vs) := fun b hm => by
        obtain ⟨i, hi⟩ := List.mem_iff_getElem?.mp hm
        have hl : i < kvs.length := by rw [k1]; exact (List.getElem?_eq_some_iff.mp hi).1
        exact ⟨_, k2 i kvs[i] b (by simp [hl]) hi⟩
      have x0 := Ext.frzAll f0.fh tups
      have ea : Each (Rep p (frzAll F H bs)) (bs.map V.ref) (es.map fun e => .tup (e.1.map dKey)) := by
        refine ⟨by simp; omega, fun i v d a b => ?_⟩
        rw [List.getElem?_map] at a b
        cases e : es[i]? with
        | none => rw [e] at b; cases b
        | some k =>
          cases e2 : bs[i]? with
          | none => rw [e2] at a; cases a
          | some c =>
            rw [e2] at a; rw [e] at b
            cases a; cases b
            have hl : i < kvs.length := by rw [le]; exact (List.getElem?_eq_some_iff.mp e).1
            have e3 := k2 i kvs[i] c (by simp [hl]) e2
            have e4 : kvs[i].1 = k.1 := by
              have := congrArg (fun l => l[i]?) hk
              simp only [List.getElem?_map, e] at this
              simpa [hl] using this
            rw [e4] at e3
            refine keys_repT ?_ (hs k (List.mem_of_getElem? e))
            show (if c ∈ bs then H c else F c) = _
            rw [if_pos (List.mem_of_getElem? e2)]
            exact e3
      obtain ⟨x, r⟩ := mk_lst (K := X.K) (F0 := F0) (H0 := H0) x0.fh hu ea
      exact q _ _ _ (x0.trans x) r
/-! tuple(..) -/
def oTuple : List D → Ro D
  | [.lst xs] => .ok (.tup xs)
  | [.tup xs] => .ok (.tup xs)
  | _ => .bad
theorem nx_tuple (ds : List D) : NoX (oTuple ds) := by
  unfold oTuple
  split <;> first | exact nx_ok _ | exact nx_bad
theorem on_tuple : OpN X p [.rd] .rep (fun xs H Q => ∃ p ys, xs = [.ref p] ∧ ((SqL X.K H p ys ∧ ∀ l, H l = none → Q (.ref l) (upd H l (.tup ys))) ∨ (SqT X.K H p ys ∧ Q (.ref p) H))) oTuple := by
  intro F0 H0 F H vs ds Q f0 l1 l2 hh q
  obtain ⟨v, rfl⟩ := one_arg rfl l1
  match ds, l2 with
  | [d], hlen =>
    clear hlen
    have r : RdV X.K p F H v d := hh 0 .rd v d rfl rfl rfl
    cases d <;> try exact q.elim
    · obtain ⟨a, vs, rfl, ha, ea⟩ := r_lst f0.fh r
      refine ⟨a, vs, rfl, .inl ⟨ha, fun u hu => ?_⟩⟩
      obtain ⟨x, r⟩ := mk_tup f0.fh hu ea
      exact q _ _ _ x r
    · obtain ⟨a, vs, rfl, ha, ea⟩ := t_tup r
      exact ⟨a, vs, rfl, .inr ⟨.of (f0.fh _ _ ha), q _ F H (Ext.refl f0.fh) (.tup ha ea.1 ea.2)⟩⟩
/-! min, max of two; int of a bool -/
def oMax : List D → Ro D
  | [.int i, .int j] => .ok (.int (if j > i then j else i))
  | _ => .bad
def oMin : List D → Ro D
  | [.int i, .int j] => .ok (.int (if j < i then j else i))
  | _ => .bad
def oInt : List D → Ro D
  | [.int i] => .ok (.int i)
  | [.bl b] => .ok (.int (if b then 1 else 0))
  | _ => .bad
theorem nx_max (ds : List D) : NoX (oMax ds) := by
  unfold oMax
  split <;> first | exact nx_ok _ | exact nx_bad
theorem nx_min (ds : List D) : NoX (oMin ds) := by
  unfold oMin
  split <;> first | exact nx_ok _ | exact nx_bad
theorem nx_int (ds : List D) : NoX (oInt ds) := by
  unfold oInt
  split <;> first | exact nx_ok _ | exact nx_bad
theorem two_reps {F0 H0 F H : Hp} {vs : List V} {i j : Int} (l1 : vs.length = 2) (hh : ∀ (n : Nat) k v d, [Kd.rep, Kd.rep][n]? = some k → vs[n]? = some v → [D.int i, D.int j][n]? = some d → RelK X.K p k F0 H0 H F H v d) : vs = [.int i, .int j] := by
  match vs, l1 with
  | [a, b], _ =>
    have r1 : Rep p F a (.int i) := hh 0 .rep a _ rfl rfl rfl
    have r2 : Rep p F b (.int j) := hh 1 .rep b _ rfl rfl rfl
    cases r1; cases r2; rfl
theorem on_max : OpN X p [.rep, .rep] .rep (fun xs H Q => ∃ i j, xs = [.int i, .int j] ∧ Q (.int (if j > i then j else i)) H) oMax := by
  intro F0 H0 F H vs ds Q f0 l1 l2 hh q
  unfold oMax at q
  split at q
  · exact ⟨_, _, two_reps l1 hh, q _ F H (Ext.refl f0.fh) (.int _)⟩
  · exact q.elim
theorem on_min : OpN X p [.rep, .rep] .rep (fun xs H Q => ∃ i j, xs = [.int i, .int j] ∧ Q (.int (if j < i then j else i)) H) oMin := by
  intro F0 H0 F H vs ds Q f0 l1 l2 hh q
  unfold oMin at q
  split at q
  · exact ⟨_, _, two_reps l1 hh, q _ F H (Ext.refl f0.fh) (.int _)⟩
  · exact q.elim
theorem on_int : OpN X p [.rep] .rep (fun xs H Q => (∃ i, xs = [.int i] ∧ Q (.int i) H) ∨ ∃ k, xs = [.bl k] ∧ Q (.int (if k then 1 else 0)) H) oInt := by
  intro F0 H0 F H vs ds Q f0 l1 l2 hh q
  obtain ⟨v, rfl⟩ := one_arg rfl l1
  unfold oInt at q
  split at q
  · have r : Rep p F v _ := hh 0 .rep v _ rfl rfl rfl
    cases r
    exact .inl ⟨_, rfl, q _ F H (Ext.refl f0.fh) (.int _)⟩
  · have r : Rep p F v _ := hh 0 .rep v _ rfl rfl rfl
    cases r
    exact .inr ⟨_, rfl, q _ F H (Ext.refl f0.fh) (.int _)⟩
  · exact q.elim
end
end L2.Nf

namespace L2.Nf
open PySem PySem.Spec PyProof.Rows

/-! ### sorted -/
def isS : D → Bool
  | .str _ => true
  | _ => false
def isTS : D → Bool
  | .tup (x :: r) => (x :: r).all isS
  | _ => false
def sortable (ds : List D) : Bool := ds.all isS || ds.all isTS
def dLe : D → D → Bool := PySem.W.dataLe false (D.py 2)
def oSorted : List D → Ro D
  | [.lst ds] => if sortable ds = true then .ok (.lst (ds.mergeSort dLe)) else .bad
  | _ => .bad
theorem nx_sorted (ds : List D) : NoX (oSorted ds) := by
  unfold oSorted
  split
  · exact nx_ite (nx_ok _) nx_bad
  · exact nx_bad
theorem isS_cases {d : D} (h : isS d = true) : ∃ x, d = .str x := by
  cases d <;> first | exact ⟨_, rfl⟩ | cases h
theorem isTS_cases {d : D} (h : isTS d = true) : ∃ x r, d = .tup (x :: r) ∧ ∀ e ∈ x :: r, ∃ z, e = .str z := by
  cases d with
  | tup xs =>
    cases xs with
    | nil => cases h
    | cons x r => exact ⟨x, r, rfl, fun e he => isS_cases (List.all_eq_true.mp h e he)⟩
  | _ => cases h
theorem alike_strs : ∀ {xs ys : List D}, (∀ e ∈ xs, ∃ z, e = .str z) → (∀ e ∈ ys, ∃ z, e = .str z) → PySem.W.alikeAll (xs.map (D.py 1)) (ys.map (D.py 1)) = true
  | [], _, _, _ => by simp [PySem.W.alikeAll]
  | _ :: _, [], _, _ => by simp [PySem.W.alikeAll]
  | x :: xs, y :: ys, h1, h2 => by
    obtain ⟨a, rfl⟩ := h1 x (by simp)
    obtain ⟨b, rfl⟩ := h2 y (by simp)
    simp only [List.map_cons, PySem.W.alikeAll, D.py, PySem.W.alike, Bool.true_and]
    exact alike_strs (fun e he => h1 e (by simp [he])) (fun e he => h2 e (by simp [he]))
theorem sortable_ok {ds : List D} (h : sortable ds = true) : PySem.W.AllAlike (ds.map (D.py 2)) ∧ PySem.W.Sortable (ds.map (D.py 2)) ∧ ∀ d ∈ ds, d.sh 2 = true := by
  unfold sortable at h
  rw [Bool.or_eq_true] at h
  rcases h with h | h
  · have hs : ∀ d ∈ ds, ∃ x, d = .str x := fun d hd => isS_cases (List.all_eq_true.mp h d hd)
    refine ⟨fun d hd e he => ?_, .inr fun d hd => ?_, fun d hd => ?_⟩
    · obtain ⟨a, ha, rfl⟩ := List.mem_map.mp hd
      obtain ⟨b, hb, rfl⟩ := List.mem_map.mp he
      obtain ⟨x, rfl⟩ := hs a ha
      obtain ⟨y, rfl⟩ := hs b hb
      simp [D.py, PySem.W.alike]
    · obtain ⟨a, ha, rfl⟩ := List.mem_map.mp hd
      obtain ⟨x, rfl⟩ := hs a ha
      exact ⟨fun z => by simp [D.py] at z, fun xs z => by simp [D.py] at z⟩
    · obtain ⟨x, rfl⟩ := hs d hd
      rfl
  · have hs : ∀ d ∈ ds, ∃ x r, d = .tup (x :: r) ∧ ∀ e ∈ x :: r, ∃ z, e = .str z := fun d hd => isTS_cases (List.all_eq_true.mp h d hd)
    refine ⟨fun d hd e he => ?_, .inl fun d hd => ?_, fun d hd => ?_⟩
    · obtain ⟨a, ha, rfl⟩ := List.mem_map.mp hd
      obtain ⟨b, hb, rfl⟩ := List.mem_map.mp he
      obtain ⟨x, r, rfl, h1⟩ := hs a ha
      obtain ⟨y, t, rfl, h2⟩ := hs b hb
      simp only [D.py, PySem.W.alike]
      exact alike_strs h1 h2
    · obtain ⟨a, ha, rfl⟩ := List.mem_map.mp hd
      obtain ⟨x, r, rfl, h1⟩ := hs a ha
      exact ⟨D.py 1 x, r.map (D.py 1), by simp only [D.py, List.map_cons]⟩
    · obtain ⟨x, r, rfl, h1⟩ := hs d hd
      show (x :: r).all (D.sh 1) = true
      refine List.all_eq_true.mpr fun e he => ?_
      obtain ⟨z, rfl⟩ := h1 e he
      rfl
def rSortV (K : PySem.W.Frag) : List V → Hp → VK → Prop := fun vs H Q => ∃ (a : Addr) (xs : List V) (ds : List D) (R : V → D → Prop), vs = [.ref a] ∧ SqL K H a xs ∧ Each R xs ds ∧ Each (fun v d => Dp K H v (d.py 2)) xs ds ∧
  PySem.W.AllAlike (ds.map (D.py 2)) ∧ PySem.W.Sortable (ds.map (D.py 2)) ∧ (∀ d ∈ ds, (d.py 2).depth ≤ 2) ∧ ∀ ys p, H p = none → Each R ys (ds.mergeSort dLe) → Q (.ref p) (upd H p (.lst ys))
theorem eachIs_of {R : V → D → Prop} : ∀ {xs : List V} {its : List Value} {ds : List D}, Vals xs its → Each R xs ds → PySem.W.EachIs (fun u d => ∃ v, RelV v u ∧ R v d) its ds
  | [], [], [], _, _ => .nil
  | x :: xs, u :: us, d :: ds, .cons r t, e => .cons ⟨x, r, e.inv.1⟩ (eachIs_of t e.inv.2)
  | [], _, _ :: _, _, e => absurd e.1 (by simp)
  | _ :: _, _, [], _, e => absurd e.1 (by simp)
theorem vals_of_each {R : V → D → Prop} : ∀ {us : List Value} {ds : List D}, PySem.W.EachIs (fun u d => ∃ v, RelV v u ∧ R v d) us ds → ∃ ys, Vals ys us ∧ Each R ys ds
  | _, _, .nil => ⟨[], .nil, .nil⟩
  | _, _, .cons ⟨v, r, q⟩ t => let ⟨ys, h1, h2⟩ := vals_of_each t; ⟨v :: ys, .cons r h1, .cons q h2⟩
theorem call_sortV {X : Cx} (hu : X.A.units + 10 < cLine) : CallR X (.builtin "sorted") (rSortV X.K) := by
  intro pins s σ H vs us Q I r h
  obtain ⟨a, xs, ds, R, rfl, hs, hr, hd, ha, hk, hp, q⟩ := h
  obtain ⟨u, rfl, ru⟩ := vals1 r
  cases ru
  obtain ⟨its, rv, hl, hz⟩ := I.list hs
  have e1 := eachIs_of rv hr
  have e2 : PySem.W.EachIs (fun v b => ∃ as, Reads s.heap v (D.py 2 b) as) its ds := (eachIs_of rv hd).mono fun u d ⟨v, r, q⟩ => Dp.reads I _ _ _ q r
  refine PySem.W.sorted_data (enc := D.py 2) hl.isList e1 e2 ha hk (by rw [← hr.1]; exact hz) (fun b hb => by have := hp b hb; omega) fun out ho eo => ?_
  obtain ⟨ys, h1, h2⟩ := vals_of_each eo
  obtain ⟨ep, he'⟩ := PyProof.Rows.sortedAll_at s.heap its out.toArray
  have hlen : ys.length ≤ sizeLine := by rw [h1.length, ho, ← hr.1]; exact hz
  exact ⟨.ref _, upd H (s.heap.objs.size + 1) (.lst ys), I.laid (t' := s.toks) (fun _ _ => PyProof.Rows.sortedAll_old) (Nat.le_succ _) ⟨hlen, out, ep, h1, he'⟩, rfl, q _ _ (I.hok.fresh (Nat.le_succ _)) h2⟩
section
variable {X : Cx} {p : Pt} {W : WX} {M : List Md}
theorem on_sorted : OpN X p [.rd] .new (rSortV X.K) oSorted := by
  intro F0 H0 F H vs ds Q f0 l1 l2 hh q
  obtain ⟨v, rfl⟩ := one_arg rfl l1
  match ds, l2 with
  | [d], hlen =>
    clear hlen
    have r : RdV X.K p F H v d := hh 0 .rd v d rfl rfl rfl
    cases d <;> try exact q.elim
    rename_i ds
    obtain ⟨hs, q⟩ := Ro.post_ite (show (if sortable ds = true then Ro.ok (.lst (ds.mergeSort dLe)) else .bad : Ro D).post (fun d => ∀ v F' H', Ext F H F' H' → RelK X.K p .new F0 H0 H F' H' v d → Q v H') (fun _ => False) from q)
    obtain ⟨a, vs, rfl, ha, ea⟩ := r_lst f0.fh r
    obtain ⟨s1, s2, s3⟩ := sortable_ok hs
    have e3 : Each (fun v d => Rep p F v d ∧ d.sh 2 = true) vs ds := ⟨ea.1, fun i v d a b => ⟨ea.2 i v d a b, s3 d (List.mem_of_getElem? b)⟩⟩
    refine ⟨a, vs, ds, Rep p F, rfl, ha, ea, e3.mono fun v d r => (py_of 2 f0.fh r.1 r.2).1, s1, s2, fun d hd => ?_, fun ys u hu ey => ?_⟩
    · obtain ⟨v, r⟩ := each_mem e3 hd
      exact (py_of (K := X.K) 2 f0.fh r.1 r.2).2.2
    · obtain ⟨x, r⟩ := mk_lst (K := X.K) (F0 := F0) (H0 := H0) f0.fh hu ey
      exact q _ F _ x r

/-! ### isinstance(e, T), T a built-in type -/
def dTy : D → String
  | .non => "NoneType"
  | .bl _ => "bool"
  | .int _ => "int"
  | .str _ => "str"
  | .lst _ => "list"
  | .tup _ => "tuple"
  | .dK _ => "dict"
  | .dT _ => "dict"
  | .obj _ => "?"
def oIsi (T : String) (d : D) : Ro D := match kitB (dTy d) T with
  | some b => .ok (.bl b)
  | none => .bad
theorem nx_isi (T : String) (d : D) : NoX (oIsi T d) := by
  unfold oIsi
  split <;> first | exact nx_ok _ | exact nx_bad
theorem tyx_of {K : PySem.W.Frag} {F H : Hp} {v : V} {d : D} (s : Same F H) (r : RdV K p F H v d) (hd : ∀ xs, d ≠ .obj xs) : TyX K H v (.type (dTy d)) := by
  cases d with
  | non => rw [t_non r]; exact .base .non
  | bl b => rw [t_bl r]; exact .base (.bl b)
  | int i => rw [t_int r]; exact .base (.int i)
  | str x => rw [(t_str r).1]; exact .base (.str x)
  | lst ds =>
    obtain ⟨a, vs, rfl, ha, _⟩ := r_lst s r
    rcases ha with (ha | ⟨o, ha⟩) | ⟨o, its, n, h1, h2, _⟩
    · exact .base (.lst ha)
    · exact .base (.frz ha)
    · exact .kList h1 h2
  | tup ds =>
    obtain ⟨a, vs, rfl, ha, _⟩ := t_tup r
    exact .base (.tup (s _ _ ha))
  | dK es =>
    obtain ⟨a, kvs, rfl, ha, _⟩ := t_dK s r
    exact .base (.dK ha)
  | dT es =>
    obtain ⟨a, kvs, rfl, ha, _⟩ := t_dT s r
    exact .base (.dT ha)
  | obj xs => exact absurd rfl (hd xs)
theorem isi_post {T : String} {d : D} {k : D → Prop} (h : (oIsi T d).post k fun _ => False) : ∃ b, kitB (dTy d) T = some b ∧ k (.bl b) := by
  unfold oIsi at h
  split at h
  · exact ⟨_, by assumption, h⟩
  · exact h.elim
theorem kitB_obj {T : String} (h : T ≠ "?" := by decide) : kitB "?" T = none := by
  unfold kitB
  rw [if_neg (by intro z; simp at z; exact h z.symm)]
  have : PySem.fastBuiltinMro "?" = none := by decide +kernel
  rw [this]
  split <;> rfl
theorem pk_isi {k : Kd} {T : String} {TT : Str} {a : Expr} {f : EDen} {pp p2 pos : Pos} (ha : PEk X p W M k a f) (hm : X.mg "isinstance" = none) (hm2 : X.mg TT = none) (hv2 : bootBuiltins TT = some (.type T) := by decide +kernel) (hT : T ≠ "?" := by decide)
    (hk : k.le .rd = true := by decide) (hg : Gl X "isinstance" := by rfl) (hg2 : Gl X TT := by rfl) (hn2 : TT ≠ "__name__" := by decide) (hdb : (TT == ("__debug__" : Str)) = false := by decide)
    (hs1 : starEach (a :: [Expr.Name TT p2]) X.env = (false, eval a X.env) :: starEach [Expr.Name TT p2] X.env := by rfl) (hs2 : starEach (Expr.Name TT p2 :: []) X.env = (false, eval (Expr.Name TT p2) X.env) :: starEach [] X.env := by rfl)
    (hpl : (backTo pos (starEach [Expr.Name TT p2] X.env)).any (·.1) = false := by rfl) : PEk X p W M .rep (.Call (.Name "isinstance" pp) [a, .Name TT p2] [] pos) (e1 (oIsi T) f) := by
  obtain ⟨t, pt, st⟩ := pk_cast (k' := .rd) ha hk
  refine ⟨_, pe_callB call_isi hg hm (by decide +kernel) (pa_cons pt (pa_cons (pe_bltn hg2 hm2 hv2 (v := .ty T) rfl hn2 hdb) pa_nil hs2) hs1) (by decide) (by decide) hs1 hpl, fun F0 H0 Γ F σ H Q E q => st.go E ?_⟩
  unfold e1 at q
  cases h1 : f Γ with
  | bad => rw [h1] at q; exact q
  | xc c => rw [h1] at q; exact q
  | ok d =>
    rw [h1] at q
    intro v F1 H1 x1 r
    rw [Ro.bind_ok] at q
    cases h2 : oIsi T d with
    | bad => rw [h2] at q; exact q.elim
    | xc c => exact absurd h2 (nx_isi T d c)
    | ok b =>
      rw [h2] at q
      obtain ⟨b', hb, e⟩ := isi_post (T := T) (d := d) (k := fun z => z = b) (by rw [h2]; rfl)
      subst e
      have hd : ∀ xs, d ≠ .obj xs := fun xs z => by
        subst z
        rw [show dTy (.obj xs) = "?" from rfl, kitB_obj hT] at hb
        cases hb
      exact ⟨v, .ty T, _, _, b', rfl, .ty T, tyx_of x1.fh r hd, kit_ty hb, q _ F1 H1 x1 (.bl _)⟩
/-! ### d.get(k), d.get(k, x) -/
def oGet1 (d k : D) : Ro D := match oLook d k with
  | some o => .ok (o.getD .non)
  | none => .bad
def oGet2 (d k x : D) : Ro D := match oLook d k with
  | some o => .ok (o.getD x)
  | none => .bad
theorem get1_ok {d k r : D} (h : oGet1 d k = .ok r) : ∃ o, oLook d k = some o ∧ r = o.getD .non := by
  unfold oGet1 at h
  split at h
  · cases h; exact ⟨_, by assumption, rfl⟩
  · cases h
theorem get2_ok {d k x r : D} (h : oGet2 d k x = .ok r) : ∃ o, oLook d k = some o ∧ r = o.getD x := by
  unfold oGet2 at h
  split at h
  · cases h; exact ⟨_, by assumption, rfl⟩
  · cases h
theorem nx_get1 (d k : D) : NoX (oGet1 d k) := by
  unfold oGet1
  split <;> first | exact nx_ok _ | exact nx_bad
theorem nx_get2 (d k x : D) : NoX (oGet2 d k x) := by
  unfold oGet2
  split <;> first | exact nx_ok _ | exact nx_bad
/-- a dict in hand is one ahead of its key's reading -/
theorem isD_of {F H : Hp} {x : V} {d : D} (s : Same F H) (r : TopV p F H x d) (h : isDict d = true) : ∃ a, x = .ref a ∧ IsD H a := by
  cases d <;> try cases h
  · obtain ⟨a, kvs, rfl, ha, _⟩ := t_dK (K := []) s r.rd; exact ⟨a, rfl, .inl ⟨kvs, .inl ha⟩⟩
  · obtain ⟨a, kvs, rfl, ha, _⟩ := t_dT (K := []) s r.rd; exact ⟨a, rfl, .inr ⟨kvs, .inl ha⟩⟩
theorem look_dict {d k : D} {o : Option D} (h : oLook d k = some o) : isDict d = true := by
  cases d <;> first | rfl | cases h
def eG1 (a b : EDen) : EDen := fun Γ => (a Γ).bind fun d => if isDict d = true then (b Γ).bind fun k => oGet1 d k else .bad
def eG2 (a b c : EDen) : EDen := fun Γ => (a Γ).bind fun d => if isDict d = true then (b Γ).bind fun k => (c Γ).bind fun x => oGet2 d k x else .bad
theorem pk_get1 {kd : Kd} {o e : Expr} {apos cpos : Pos} {a b : EDen} (hu : X.A.units + 1 < cLine) (ha : PEk X p W M kd o a) (hb : PEk X p W M .rep e b) (m : M1 X o "get" apos e cpos) (hk : kd.le .top = true := by decide) : PEk X p W M .rep (.Call (.Attribute o "get" apos) [e] [] cpos) (eG1 a b) := by
  obtain ⟨ta, pa, sa⟩ := pk_cast (k' := .top) ha hk
  obtain ⟨tb, pb, sb⟩ := hb
  refine ⟨_, pe_dget1 hu pa pb m, fun F0 H0 Γ F σ H Q E q => sa.go E ?_⟩
  unfold eG1 at q
  cases h1 : a Γ with
  | bad => rw [h1] at q; exact q
  | xc c => rw [h1] at q; exact q
  | ok d =>
    rw [h1] at q
    intro x F1 H1 x1 rx
    rw [Ro.bind_ok] at q
    by_cases hd : isDict d = true
    · rw [if_pos hd] at q
      have E1 := E.grow x1
      obtain ⟨u, rfl, hD⟩ := isD_of E1.ext.fh rx hd
      refine ⟨u, rfl, hD, sb.go E1 ?_⟩
      cases h2 : b Γ with
      | bad => rw [h2] at q; exact q
      | xc c => rw [h2] at q; exact wish_on x1 q
      | ok k =>
        rw [h2] at q
        intro y F2 H2 x2 ry
        rw [Ro.bind_ok] at q
        cases h3 : oGet1 d k with
        | bad => rw [h3] at q; exact q.elim
        | xc c => exact absurd h3 (nx_get1 d k c)
        | ok r =>
          rw [h3] at q
          obtain ⟨o', hl, rfl⟩ := get1_ok h3
          have rx2 : TopV p F2 H2 (.ref u) d := rx.grow (k := .top) (by decide) x2 H2 (K := X.K)
          obtain ⟨a', g, e, _, hg, hs, hr⟩ := dget_of (K := X.K) (E1.grow x2).ext.fh rx2 ry hl
          cases e
          refine ⟨g, hg, q _ F2 H2 (x1.trans x2) ?_⟩
          cases g with
          | none => cases o' with
            | none => exact .non
            | some z => cases hs
          | some w => cases o' with
            | none => cases hs
            | some z => exact hr w z rfl rfl
    · rw [if_neg hd] at q; exact q.elim
theorem pk_get2 {kd : Kd} {o e f : Expr} {apos cpos : Pos} {a b c : EDen} (hu : X.A.units + 1 < cLine) (ha : PEk X p W M kd o a) (hb : PEk X p W M .rep e b) (hc : PEk X p W M .rep f c) (m : M2 X o "get" apos e f cpos) (hk : kd.le .top = true := by decide) : PEk X p W M .rep (.Call (.Attribute o "get" apos) [e, f] [] cpos) (eG2 a b c) := by
  obtain ⟨ta, pa, sa⟩ := pk_cast (k' := .top) ha hk
  obtain ⟨tb, pb, sb⟩ := hb
  obtain ⟨tc, pc, sc⟩ := hc
  refine ⟨_, pe_dget2 hu pa pb pc m, fun F0 H0 Γ F σ H Q E q => sa.go E ?_⟩
  unfold eG2 at q
  cases h1 : a Γ with
  | bad => rw [h1] at q; exact q
  | xc c => rw [h1] at q; exact q
  | ok d =>
    rw [h1] at q
    intro x F1 H1 x1 rx
    rw [Ro.bind_ok] at q
    by_cases hd : isDict d = true
    · rw [if_pos hd] at q
      have E1 := E.grow x1
      obtain ⟨u, rfl, hD⟩ := isD_of E1.ext.fh rx hd
      refine ⟨u, rfl, hD, sb.go E1 ?_⟩
      cases h2 : b Γ with
      | bad => rw [h2] at q; exact q
      | xc c => rw [h2] at q; exact wish_on x1 q
      | ok k =>
        rw [h2] at q
        intro y F2 H2 x2 ry
        have E2 := E1.grow x2
        refine sc.go E2 ?_
        rw [Ro.bind_ok] at q
        cases h3 : c Γ with
        | bad => rw [h3] at q; exact q
        | xc c => rw [h3] at q; exact wish_on (x1.trans x2) q
        | ok z =>
          rw [h3] at q
          intro w F3 H3 x3 rw'
          rw [Ro.bind_ok] at q
          cases h4 : oGet2 d k z with
          | bad => rw [h4] at q; exact q.elim
          | xc c => exact absurd h4 (nx_get2 d k z c)
          | ok r =>
            rw [h4] at q
            obtain ⟨o', hl, rfl⟩ := get2_ok h4
            have rx2 : TopV p F3 H3 (.ref u) d := rx.grow (k := .top) (by decide) (x2.trans x3) H3 (K := X.K)
            have ry2 : Rep p F3 y k := Rep.same ry x3.ff
            obtain ⟨a', g, e, _, hg, hs, hr⟩ := dget_of (K := X.K) (E2.grow x3).ext.fh rx2 ry2 hl
            cases e
            refine ⟨g, hg, q _ F3 H3 (x1.trans (x2.trans x3)) ?_⟩
            cases g with
            | none => cases o' with
              | none => exact rw'
              | some z => cases hs
            | some w => cases o' with
              | none => cases hs
              | some z => exact hr w z rfl rfl
    · rw [if_neg hd] at q; exact q.elim
end
end L2.Nf

namespace L2.Nf
open PySem PySem.Spec PyProof.Rows

/-! ### sep.join(texts), xs.index(x) -/
def strsOf : List D → Option (List Str)
  | [] => some []
  | .str x :: r => (strsOf r).map (x :: ·)
  | _ => none
def oJoin : D → D → Ro D
  | .str z, .lst ds => match strsOf ds with
    | some ys => if (ys.map (·.length)).sum + ys.length * z.length ≤ 16777216 then .ok (.str (Str.join z ys)) else .bad
    | none => .bad
  | _, _ => .bad
theorem nx_join (d e : D) : NoX (oJoin d e) := by
  unfold oJoin
  split
  · split
    · exact nx_ite (nx_ok _) nx_bad
    · exact nx_bad
  · exact nx_bad
theorem strs_vals {p : Pt} {F : Hp} : ∀ {vs : List V} {ds : List D} {ys : List Str}, Each (Rep p F) vs ds → strsOf ds = some ys → vs = ys.map V.str ∧ ∀ y ∈ ys, strC y = true
  | [], [], ys, _, h => by
    cases h; exact ⟨rfl, fun y h => by cases h⟩
  | v :: vs, d :: ds, ys, e, h => by
    cases d <;> try (cases h; done)
    rename_i x
    cases h2 : strsOf ds with
    | none => rw [show strsOf (.str x :: ds) = (strsOf ds).map (x :: ·) from rfl, h2] at h; cases h
    | some r =>
      rw [show strsOf (.str x :: ds) = (strsOf ds).map (x :: ·) from rfl, h2] at h
      cases h
      obtain ⟨h3, h4⟩ := strs_vals e.inv.2 h2
      obtain ⟨h5, h6, h7⟩ := t_str (K := []) (H := F) (.inl e.inv.1)
      subst h3; subst h5
      refine ⟨rfl, fun y hy => ?_⟩
      rcases List.mem_cons.mp hy with rfl | hy
      · exact strC_of h6 h7
      · exact h4 y hy
  | [], _ :: _, _, e, _ => absurd e.1 (by simp)
  | _ :: _, [], _, e, _ => absurd e.1 (by simp)
theorem join_ok {z : Str} (hz : PyData.strOk z = true) : ∀ {ys : List Str}, (∀ y ∈ ys, strC y = true) → PyData.strOk (Str.join z ys) = true ∧ (Str.join z ys).length ≤ (ys.map (·.length)).sum + ys.length * z.length
  | [], _ => ⟨(by decide +kernel : PyData.strOk Str.empty = true), by simp [Str.join, Str.empty, Str.length]⟩
  | [x], h => ⟨(strC_ok (h x (by simp))).1, by simp [Str.join]⟩
  | x :: y :: r, h => by
    obtain ⟨h1, h2⟩ := join_ok hz (ys := y :: r) fun w hw => h w (by simp [hw])
    have hx := (strC_ok (h x (by simp))).1
    refine ⟨?_, ?_⟩
    · show PyData.strOk (x ++ z ++ Str.join z (y :: r)) = true
      exact strOk_append (strOk_append hx hz) h1
    · show (x ++ z ++ Str.join z (y :: r)).length ≤ _
      rw [len_append, len_append]
      simp only [List.map_cons, List.sum_cons, List.length_cons, Nat.add_mul] at h2 ⊢
      omega
def dIdx (x : D) (ys : List D) : Option Nat := ys.findIdx? fun y => y.eq x
def oIndex : D → D → Ro D
  | .lst ys, x => if (ys.all isS && isS x) = true then (match dIdx x ys with
    | some j => .ok (.int j)
    | none => .bad) else .bad
  | _, _ => .bad
theorem nx_index (d e : D) : NoX (oIndex d e) := by
  unfold oIndex
  split
  · refine nx_ite ?_ nx_bad
    split <;> first | exact nx_ok _ | exact nx_bad
  · exact nx_bad
section
variable {X : Cx} {p : Pt} {W : WX} {M : List Md}
def eJoin (a b : EDen) : EDen := fun Γ => (a Γ).bind fun d => if isS d = true then (b Γ).bind fun e => oJoin d e else .bad
theorem pk_join {kd : Kd} {o e : Expr} {apos pos : Pos} {a b : EDen} (ha : PEk X p W M .rep o a) (hb : PEk X p W M kd e b) (hk : kd.le .rd = true := by decide) (hs : starEach [e] X.env = [(false, eval e X.env)] := by rfl) (hbase : attributeBase o "join" X.env (eval o X.env) = eval o X.env := by rfl) (hline : (apos.endLine == pos.line) = true := by rfl) :
    PEk X p W M .rep (.Call (.Attribute o "join" apos) [e] [] pos) (eJoin a b) := by
  obtain ⟨ta, pa, sa⟩ := ha
  obtain ⟨tb, pb, sb⟩ := pk_cast (k' := .rd) hb hk
  refine ⟨_, pe_join pa pb hs hbase hline, fun F0 H0 Γ F σ H Q E q => sa.go E ?_⟩
  unfold eJoin at q
  cases h1 : a Γ with
  | bad => rw [h1] at q; exact q
  | xc c => rw [h1] at q; exact q
  | ok d =>
    rw [h1] at q
    intro x F1 H1 x1 rx
    rw [Ro.bind_ok] at q
    by_cases hd : isS d = true
    · rw [if_pos hd] at q
      obtain ⟨z, rfl⟩ := isS_cases hd
      obtain ⟨rfl, o1, l1⟩ := t_str (K := X.K) (H := H1) (.inl rx)
      have E1 := E.grow x1
      refine ⟨⟨z, rfl⟩, sb.go E1 ?_⟩
      cases h2 : b Γ with
      | bad => rw [h2] at q; exact q
      | xc c => rw [h2] at q; exact wish_on x1 q
      | ok k =>
        rw [h2] at q
        intro y F2 H2 x2 ry0
        have ry : RdV X.K p F2 H2 y k := ry0
        clear ry0
        rw [Ro.bind_ok] at q
        cases k <;> try exact q.elim
        rename_i ds
        cases h3 : strsOf ds with
        | none =>
          rw [show oJoin (.str z) (.lst ds) = (match strsOf ds with | some ys => if (ys.map (·.length)).sum + ys.length * z.length ≤ 16777216 then .ok (.str (Str.join z ys)) else .bad | none => .bad) from rfl, h3] at q
          exact q.elim
        | some ys =>
          rw [show oJoin (.str z) (.lst ds) = (match strsOf ds with | some ys => if (ys.map (·.length)).sum + ys.length * z.length ≤ 16777216 then .ok (.str (Str.join z ys)) else .bad | none => .bad) from rfl, h3] at q
          have q : (if (ys.map (·.length)).sum + ys.length * z.length ≤ 16777216 then Ro.ok (D.str (Str.join z ys)) else .bad).post (fun d => ∀ v F' H', Ext F H F' H' → RelK X.K p .rep F0 H0 H F' H' v d → Q v H') (fun c => ∀ F' H', Ext F H F' H' → W (.ref (p.ca c)) none σ H') := q
          by_cases hl : (ys.map (·.length)).sum + ys.length * z.length ≤ 16777216
          · rw [if_pos hl] at q
            obtain ⟨u, vs, rfl, hu, ea⟩ := r_lst (E1.grow x2).ext.fh ry
            obtain ⟨e1, e2⟩ := strs_vals ea h3
            subst e1
            obtain ⟨j1, j2⟩ := join_ok o1 e2
            refine ⟨z, u, ys, rfl, rfl, .inl hu, hl, ?_⟩
            rw [TL.join_eq]
            exact q _ F2 H2 (x1.trans x2) (.str _ j1 (Nat.le_trans j2 (by rw [sizeLine_eq]; exact hl)))
          · rw [if_neg hl] at q; exact q.elim
    · rw [if_neg hd] at q; exact q.elim
theorem idx_some {x : D} : ∀ {ys : List D} {j : Nat}, dIdx x ys = some j → ∃ y, ys[j]? = some y ∧ y.eq x = true ∧ ∀ (m : Nat) z, m < j → ys[m]? = some z → z.eq x = false := by
  intro ys j h
  unfold dIdx at h
  rw [List.findIdx?_eq_some_iff_getElem] at h
  obtain ⟨h1, h2, h3⟩ := h
  refine ⟨ys[j], by simp [h1], h2, fun m z hm hz => ?_⟩
  have hl : m < ys.length := by omega
  have := h3 m hm
  have e : ys[m] = z := by simpa [hl] using hz
  rw [e] at this
  simpa using this
theorem eqv_str {a b : Str} : (D.str a).eq (.str b) = eqV (.str a) (.str b) := by
  show PyData.eqv (.str a) (.str b) = _
  simp [PyData.eqv, eqV]
def eIndex (a b : EDen) : EDen := fun Γ => (a Γ).bind fun d => (match d with
  | .lst _ => (b Γ).bind fun e => oIndex d e
  | _ => .bad)
theorem pk_index {kd : Kd} {o e : Expr} {apos cpos : Pos} {a b : EDen} (ha : PEk X p W M kd o a) (hb : PEk X p W M .rep e b) (hk : kd.le .rd = true := by decide)
    (hbase : attributeBase o "index" X.env (eval o X.env) = eval o X.env := by rfl)
    (hfew : ((backTo cpos (starEach (e :: []) X.env)).all (fun x => !x.1) && (backToKw cpos (keywordEach [] X.env)).all (fun x => x.1.isSome)
      && decide ((e :: ([] : List Expr)).length + ([] : List Keyword).length + (if ([] : List Keyword).isEmpty then 0 else 1) < 30)) = true := by rfl)
    (hline : (apos.endLine == cpos.line) = true := by rfl) (hs : starEach (e :: []) X.env = (false, eval e X.env) :: starEach [] X.env := by rfl) (hplain : (backTo cpos (starEach [] X.env)).any (·.1) = false := by rfl) :
    PEk X p W M .rep (.Call (.Attribute o "index" apos) [e] [] cpos) (eIndex a b) := by
  obtain ⟨ta, pa, sa⟩ := pk_cast (k' := .rd) ha hk
  obtain ⟨tb, pb, sb⟩ := hb
  refine ⟨_, pe_bm PySem.F.plainAttrs_list PySem.F.slot_list_index PySem.F.type_list_index mt_index pa (pa_cons pb pa_nil hs) hbase hfew hline hs hplain, fun F0 H0 Γ F σ H Q E q => sa.go E ?_⟩
  unfold eIndex at q
  cases h1 : a Γ with
  | bad => rw [h1] at q; exact q
  | xc c => rw [h1] at q; exact q
  | ok d =>
    rw [h1] at q
    intro x F1 H1 x1 rx
    have E1 := E.grow x1
    rw [Ro.bind_ok] at q
    cases d <;> try exact q.elim
    rename_i ys
    obtain ⟨u, vs, rfl, hu, ea⟩ := r_lst E1.ext.fh (show RdV X.K p F1 H1 x (.lst ys) from rx)
    refine ⟨.inl ⟨rfl, vs, hu⟩, sb.go E1 ?_⟩
    cases h2 : b Γ with
    | bad => rw [h2] at q; exact q
    | xc c => rw [h2] at q; exact wish_on x1 q
    | ok k =>
      rw [h2] at q
      intro y F2 H2 x2 ry
      rw [Ro.bind_ok] at q
      by_cases hs : (ys.all isS && isS k) = true
      · rw [show oIndex (.lst ys) k = (if (ys.all isS && isS k) = true then (match dIdx k ys with | some j => .ok (.int j) | none => .bad) else .bad) from rfl, if_pos hs] at q
        cases h3 : dIdx k ys with
        | none => rw [h3] at q; exact q.elim
        | some j =>
          rw [h3] at q
          rw [Bool.and_eq_true] at hs
          obtain ⟨k', rfl⟩ := isS_cases hs.2
          have eB : Each (Rep p F2) vs ys := ea.mono fun _ _ r => r.same x2.ff
          have flat : vs.all flatV = true := List.all_eq_true.mpr fun v hv => by
            obtain ⟨i, hi⟩ := List.mem_iff_getElem?.mp hv
            obtain ⟨d, hd, r⟩ := eB.getL hi
            obtain ⟨z, rfl⟩ := isS_cases (List.all_eq_true.mp hs.1 d (List.mem_of_getElem? hd))
            rw [(t_str (K := []) (H := F2) (.inl r)).1]
            rfl
          have str_at : ∀ (m : Nat) v, vs[m]? = some v → ∃ z, v = .str z ∧ ys[m]? = some (.str z) := fun m v hv => by
            obtain ⟨d, hd, r⟩ := eB.getL hv
            obtain ⟨z, rfl⟩ := isS_cases (List.all_eq_true.mp hs.1 d (List.mem_of_getElem? hd))
            exact ⟨z, (t_str (K := []) (H := F2) (.inl r)).1, hd⟩
          obtain ⟨y0, hy0, hq, hno⟩ := idx_some h3
          obtain ⟨v0, hv0, r0⟩ := eB.get hy0
          obtain ⟨z0, rfl, hz0⟩ := str_at j v0 hv0
          rw [hz0] at hy0; cases hy0
          obtain ⟨rfl, _⟩ := t_str (K := []) (H := F2) (.inl ry)
          refine ⟨u, vs, .str k', j, .str z0, rfl, rfl, x2.hh.seq hu, rfl, flat, hv0, by rw [← eqv_str]; exact hq, fun m z' hm hz' => ?_, q _ F2 H2 (x1.trans x2) (.int _)⟩
          obtain ⟨w, rfl, hw⟩ := str_at m z' hz'
          rw [← eqv_str]
          exact hno m _ hm hw
      · rw [show oIndex (.lst ys) k = (if (ys.all isS && isS k) = true then (match dIdx k ys with | some j => .ok (.int j) | none => .bad) else .bad) from rfl, if_neg hs] at q
        exact q.elim

/-! ### and, or, not, if .. else -/
def asB : D → Ro Bool
  | .bl b => .ok b
  | _ => .bad
def eAnd (a b : EDen) : EDen := fun Γ => (a Γ).bind fun d => match d with
  | .bl true => b Γ
  | .bl false => .ok (.bl false)
  | _ => .bad
def eOr (a b : EDen) : EDen := fun Γ => (a Γ).bind fun d => match d with
  | .bl true => .ok (.bl true)
  | .bl false => b Γ
  | _ => .bad
def eNot (a : EDen) : EDen := fun Γ => (a Γ).bind fun d => match d with
  | .bl b => .ok (.bl (!b))
  | _ => .bad
def eIf (c : TDen) (a b : EDen) : EDen := fun Γ => (c Γ).bind fun x => if x = true then a Γ else b Γ
def tAnd' (a b : TDen) : TDen := fun Γ => (a Γ).bind fun x => if x = true then b Γ else .ok false
def tOr' (a b : TDen) : TDen := fun Γ => (a Γ).bind fun x => if x = true then .ok true else b Γ
def tNot' (a : TDen) : TDen := fun Γ => (a Γ).bind fun x => .ok (!x)
theorem pk_one {op} {k : Kd} {a : Expr} {pos : Pos} {f : EDen} (h : PEk X p W M k a f) : PEk X p W M k (.BoolOp op [a] pos) f := by
  obtain ⟨t, pt, st⟩ := h
  exact ⟨t, pe_one pt, st⟩
theorem pk_and {a b : Expr} {rest : List Expr} {pos : Pos} {f g : EDen} (ha : PEk X p W M .rep a f) (hb : PEk X p W M .rep (.BoolOp .And (b :: rest) pos) g) : PEk X p W M .rep (.BoolOp .And (a :: b :: rest) pos) (eAnd f g) := by
  obtain ⟨ta, pa, sa⟩ := ha
  obtain ⟨tb, pb, sb⟩ := hb
  refine ⟨_, pe_and pa pb, fun F0 H0 Γ F σ H Q E q => sa.go E ?_⟩
  unfold eAnd at q
  cases h1 : f Γ with
  | bad => rw [h1] at q; exact q
  | xc c => rw [h1] at q; exact q
  | ok d =>
    rw [h1] at q
    intro x F1 H1 x1 rx
    rw [Ro.bind_ok] at q
    cases rx <;> try exact q.elim
    rename_i b
    refine ⟨b, rfl, ?_⟩
    cases b with
    | true =>
      rw [if_pos rfl]
      refine sb.go (E.grow x1) ?_
      have q : (g Γ).post _ _ := q
      cases h2 : g Γ with
      | bad => rw [h2] at q; exact q
      | xc c => rw [h2] at q; exact wish_on x1 q
      | ok e => rw [h2] at q; exact fun v F2 H2 x2 r => q v F2 H2 (x1.trans x2) r
    | false =>
      rw [if_neg Bool.false_ne_true]
      exact q _ F1 H1 x1 (.bl false)
theorem pk_or {a b : Expr} {rest : List Expr} {pos : Pos} {f g : EDen} (ha : PEk X p W M .rep a f) (hb : PEk X p W M .rep (.BoolOp .Or (b :: rest) pos) g) : PEk X p W M .rep (.BoolOp .Or (a :: b :: rest) pos) (eOr f g) := by
  obtain ⟨ta, pa, sa⟩ := ha
  obtain ⟨tb, pb, sb⟩ := hb
  refine ⟨_, L2.pe_or pa pb, fun F0 H0 Γ F σ H Q E q => sa.go E ?_⟩
  unfold eOr at q
  cases h1 : f Γ with
  | bad => rw [h1] at q; exact q
  | xc c => rw [h1] at q; exact q
  | ok d =>
    rw [h1] at q
    intro x F1 H1 x1 rx
    rw [Ro.bind_ok] at q
    cases rx <;> try exact q.elim
    rename_i b
    refine ⟨b, rfl, ?_⟩
    cases b with
    | false =>
      rw [if_neg Bool.false_ne_true]
      refine sb.go (E.grow x1) ?_
      have q : (g Γ).post _ _ := q
      cases h2 : g Γ with
      | bad => rw [h2] at q; exact q
      | xc c => rw [h2] at q; exact wish_on x1 q
      | ok e => rw [h2] at q; exact fun v F2 H2 x2 r => q v F2 H2 (x1.trans x2) r
    | true =>
      rw [if_pos rfl]
      exact q _ F1 H1 x1 (.bl true)
theorem pk_not {a : Expr} {pos : Pos} {f : EDen} (ha : PEk X p W M .rep a f) : PEk X p W M .rep (.UnaryOp .Not a pos) (eNot f) := by
  obtain ⟨ta, pa, sa⟩ := ha
  refine ⟨_, pe_not pa, fun F0 H0 Γ F σ H Q E q => sa.go E ?_⟩
  unfold eNot at q
  cases h1 : f Γ with
  | bad => rw [h1] at q; exact q
  | xc c => rw [h1] at q; exact q
  | ok d =>
    rw [h1] at q
    intro x F1 H1 x1 rx
    rw [Ro.bind_ok] at q
    cases rx <;> try exact q.elim
    exact ⟨_, rfl, q _ F1 H1 x1 (.bl _)⟩
theorem pk_if {k : Kd} {c a b : Expr} {pos : Pos} {h : TDen} {f g : EDen} (hc : PTk X p W M c h) (ha : PEk X p W M k a f) (hb : PEk X p W M k b g) : PEk X p W M k (.IfExp c a b pos) (eIf h f g) := by
  obtain ⟨tc, pc, sc⟩ := hc
  obtain ⟨ta, pa, sa⟩ := ha
  obtain ⟨tb, pb, sb⟩ := hb
  refine ⟨_, pe_ifExp pc pa pb, fun F0 H0 Γ F σ H Q E q => sc F0 H0 Γ F σ H _ E ?_⟩
  unfold eIf at q
  cases h1 : h Γ with
  | bad => rw [h1] at q; exact q
  | xc c => rw [h1] at q; exact q
  | ok d =>
    rw [h1] at q
    intro F1 H1 x1
    rw [Ro.bind_ok] at q
    cases d with
    | true =>
      rw [if_pos rfl] at q ⊢
      refine sa.go (E.grow x1) ?_
      cases h2 : f Γ with
      | bad => rw [h2] at q; exact q
      | xc c => rw [h2] at q; exact wish_on x1 q
      | ok e => rw [h2] at q; exact fun v F2 H2 x2 r => q v F2 H2 (x1.trans x2) (r.from x1.hh)
    | false =>
      rw [if_neg Bool.false_ne_true] at q ⊢
      refine sb.go (E.grow x1) ?_
      cases h2 : g Γ with
      | bad => rw [h2] at q; exact q
      | xc c => rw [h2] at q; exact wish_on x1 q
      | ok e => rw [h2] at q; exact fun v F2 H2 x2 r => q v F2 H2 (x1.trans x2) (r.from x1.hh)
/-- tests -/
def PWk (X : Cx) (p : Pt) (W : WX) (M : List Md) (e : Expr) (f : TDen) : Prop := ∃ t, PW X e t ∧ ST' X p W M t f
theorem ST'.go {t : TT} {f : TDen} {F0 H0 F H : Hp} {Γ : Gm} {σ : St} {Q : Bool → Hp → Prop} (h : ST' X p W M t f) (E : Env X.K p F0 H0 M Γ F σ H)
    (q : (f Γ).post (fun b => ∀ F' H', Ext F H F' H' → Q b H') (fun c => ∀ F' H', Ext F H F' H' → W (.ref (p.ca c)) none σ H')) : t σ H Q := h F0 H0 Γ F σ H Q E q
theorem pt_w {e : Expr} {f : TDen} (h : PWk X p W M e f) : PTk X p W M e f := let ⟨t, a, b⟩ := h; ⟨t, a.pt, b⟩
theorem pw_a1 {a : Expr} {pos : Pos} {f : TDen} (h : PTk X p W M a f) : PWk X p W M (.BoolOp .And [a] pos) f := let ⟨t, a, b⟩ := h; ⟨t, pw_and1 a, b⟩
theorem pw_o1 {a : Expr} {pos : Pos} {f : TDen} (h : PTk X p W M a f) : PWk X p W M (.BoolOp .Or [a] pos) f := let ⟨t, a, b⟩ := h; ⟨t, pw_or1 a, b⟩
theorem pw_a {a b : Expr} {rest : List Expr} {pos : Pos} {f g : TDen} (ha : PTk X p W M a f) (hb : PWk X p W M (.BoolOp .And (b :: rest) pos) g) : PWk X p W M (.BoolOp .And (a :: b :: rest) pos) (tAnd' f g) := by
  obtain ⟨ta, pa, sa⟩ := ha
  obtain ⟨tb, pb, sb⟩ := hb
  refine ⟨_, pw_and pa pb, fun F0 H0 Γ F σ H Q E q => sa.go E ?_⟩
  unfold tAnd' at q
  cases h1 : f Γ with
  | bad => rw [h1] at q; exact q
  | xc c => rw [h1] at q; exact q
  | ok d =>
    rw [h1] at q
    intro F1 H1 x1
    rw [Ro.bind_ok] at q
    cases d with
    | true =>
      rw [if_pos rfl] at q ⊢
      refine sb.go (E.grow x1) ?_
      cases h2 : g Γ with
      | bad => rw [h2] at q; exact q
      | xc c => rw [h2] at q; exact wish_on x1 q
      | ok e => rw [h2] at q; exact fun F2 H2 x2 => q F2 H2 (x1.trans x2)
    | false =>
      rw [if_neg Bool.false_ne_true] at q ⊢
      exact q F1 H1 x1
theorem pw_o {a b : Expr} {rest : List Expr} {pos : Pos} {f g : TDen} (ha : PTk X p W M a f) (hb : PWk X p W M (.BoolOp .Or (b :: rest) pos) g) : PWk X p W M (.BoolOp .Or (a :: b :: rest) pos) (tOr' f g) := by
  obtain ⟨ta, pa, sa⟩ := ha
  obtain ⟨tb, pb, sb⟩ := hb
  refine ⟨_, pw_or pa pb, fun F0 H0 Γ F σ H Q E q => sa.go E ?_⟩
  unfold tOr' at q
  cases h1 : f Γ with
  | bad => rw [h1] at q; exact q
  | xc c => rw [h1] at q; exact q
  | ok d =>
    rw [h1] at q
    intro F1 H1 x1
    rw [Ro.bind_ok] at q
    cases d with
    | false =>
      rw [if_neg Bool.false_ne_true] at q ⊢
      refine sb.go (E.grow x1) ?_
      cases h2 : g Γ with
      | bad => rw [h2] at q; exact q
      | xc c => rw [h2] at q; exact wish_on x1 q
      | ok e => rw [h2] at q; exact fun F2 H2 x2 => q F2 H2 (x1.trans x2)
    | true =>
      rw [if_pos rfl] at q ⊢
      exact q F1 H1 x1
theorem pt_n {a : Expr} {pos : Pos} {f : TDen} (ha : PTk X p W M a f) : PTk X p W M (.UnaryOp .Not a pos) (tNot' f) := by
  obtain ⟨ta, pa, sa⟩ := ha
  refine ⟨_, pt_not pa, fun F0 H0 Γ F σ H Q E q => sa.go E ?_⟩
  unfold tNot' at q
  cases h1 : f Γ with
  | bad => rw [h1] at q; exact q
  | xc c => rw [h1] at q; exact q
  | ok d => rw [h1] at q; exact fun F1 H1 x1 => q F1 H1 x1
/-- -i -/
def oNeg : D → Ro D
  | .int i => .ok (.int (-i))
  | _ => .bad
theorem pk_neg {a : Expr} {pos : Pos} {f : EDen} (ha : PEk X p W M .rep a f) : PEk X p W M .rep (.UnaryOp .USub a pos) (e1 oNeg f) := by
  obtain ⟨ta, pa, sa⟩ := ha
  refine ⟨_, pe_un un_neg pa, se1 (op := oNeg) (k1 := .rep) (r := fun x H Q => rU (fun i => .int (-i)) x H Q) ?_ (fun d => ?_) sa⟩
  · intro F0 H0 F H x dx Q f0 rx q
    cases rx <;> try exact q.elim
    exact ⟨_, rfl, q _ F H (Ext.refl f0.fh) (.int _)⟩
  · unfold oNeg
    split <;> first | exact nx_ok _ | exact nx_bad
/-- a < b < c -/
def eChain (o o' : D → D → Ro D) (a b c : EDen) : EDen := fun Γ => (a Γ).bind fun x => (b Γ).bind fun y => (o x y).bind fun r => match r with
  | .bl true => (c Γ).bind fun z => o' y z
  | .bl false => .ok (.bl false)
  | _ => .bad
theorem se_chain {k1 k2 k3 : Kd} {r r' : R2} {o o' : D → D → Ro D} {ta tb tc : TE} {a b c : EDen} (h : Op2 X p k1 k2 .rep r o) (h' : Op2 X p k2 k3 .rep r' o') (hx : ∀ d e, NoX (o d e)) (hx' : ∀ d e, NoX (o' d e))
    (ha : SE X p W M k1 ta a) (hb : SE X p W M k2 tb b) (hc : SE X p W M k3 tc c) (hn : k1 ≠ .new := by decide) (hn2 : k2 ≠ .new := by decide) (hn3 : k3 ≠ .new := by decide) : SE X p W M .rep (tChain r r' ta tb tc) (eChain o o' a b c) := by
  intro F0 H0 Γ F σ H Q E q
  refine ha.go E ?_
  unfold eChain at q
  cases h1 : a Γ with
  | bad => rw [h1] at q; exact q
  | xc c => rw [h1] at q; exact q
  | ok dx =>
    rw [h1] at q
    intro x F1 H1 x1 rx
    have E1 := E.grow x1
    refine hb.go E1 ?_
    rw [Ro.bind_ok] at q
    cases h2 : b Γ with
    | bad => rw [h2] at q; exact q
    | xc c => rw [h2] at q; exact wish_on x1 q
    | ok dy =>
      rw [h2] at q
      intro y F2 H2 x2 ry
      have E2 := E1.grow x2
      rw [Ro.bind_ok] at q
      refine h F0 H0 F2 H2 x y dx dy _ E2.ext (rx.grow hn x2 _) (ry.grow hn2 (Ext.refl x2.fh) _) ?_
      cases h3 : o dx dy with
      | bad => rw [h3] at q; exact q.elim
      | xc c => exact absurd h3 (hx dx dy c)
      | ok d =>
        rw [h3, Ro.bind_ok] at q
        intro z F3 H3 x3 rz
        cases rz <;> try exact q.elim
        rename_i k
        refine ⟨k, rfl, ?_⟩
        cases k with
        | false => exact q _ F3 H3 (x1.trans (x2.trans x3)) (.bl false)
        | true =>
          have E3 := E2.grow x3
          refine hc.go E3 ?_
          have q : ((c Γ).bind fun z => o' dy z).post _ _ := q
          cases h4 : c Γ with
          | bad => rw [h4] at q; exact q
          | xc c => rw [h4] at q; exact wish_on (x1.trans (x2.trans x3)) q
          | ok dz =>
            rw [h4, Ro.bind_ok] at q
            intro w F4 H4 x4 rw'
            have E4 := E3.grow x4
            refine h' F0 H0 F4 H4 y w dy dz Q E4.ext (ry.grow hn2 (x3.trans x4) _) (rw'.grow hn3 (Ext.refl x4.fh) _) ?_
            cases h5 : o' dy dz with
            | bad => rw [h5] at q; exact q.elim
            | xc c => exact absurd h5 (hx' dy dz c)
            | ok d => rw [h5] at q; exact fun v F5 H5 x5 r => q v F5 H5 (x1.trans (x2.trans (x3.trans (x4.trans x5)))) r
theorem pk_chain {op op' : CmpOp} {k1 k2 k3 : Kd} {r r' : R2} {o o' : D → D → Ro D} {a b c : Expr} {pos : Pos} {fa fb fc : EDen} (ho : OpR X (compareOp op) r) (ho' : OpR X (compareOp op') r') (h : Op2 X p k1 k2 .rep r o) (h' : Op2 X p k2 k3 .rep r' o') (hx : ∀ d e, NoX (o d e)) (hx' : ∀ d e, NoX (o' d e))
    (ha : PEk X p W M k1 a fa) (hb : PEk X p W M k2 b fb) (hc : PEk X p W M k3 c fc) (hm : lastMarks [op, op'] [b, c] = false := by with_unfolding_all rfl) (hn : k1 ≠ .new := by decide) (hn2 : k2 ≠ .new := by decide) (hn3 : k3 ≠ .new := by decide) : PEk X p W M .rep (.Compare a [op, op'] [b, c] pos) (eChain o o' fa fb fc) := by
  obtain ⟨ta, pa, sa⟩ := ha
  obtain ⟨tb, pb, sb⟩ := hb
  obtain ⟨tc, pc, sc⟩ := hc
  exact ⟨_, pe_chain ho ho' pa pb pc hm, se_chain h h' hx hx' sa sb sc hn hn2 hn3⟩
theorem pt_chainK {op op' : CmpOp} {k1 k2 k3 : Kd} {r r' : R2} {o o' : D → D → Ro D} {a b c : Expr} {pos : Pos} {fa fb fc : EDen} (ho : OpR X (compareOp op) r) (ho' : OpR X (compareOp op') r') (h : Op2 X p k1 k2 .rep r o) (h' : Op2 X p k2 k3 .rep r' o') (hx : ∀ d e, NoX (o d e)) (hx' : ∀ d e, NoX (o' d e))
    (ha : PEk X p W M k1 a fa) (hb : PEk X p W M k2 b fb) (hc : PEk X p W M k3 c fc) (hm : lastMarks [op, op'] [b, c] = false := by with_unfolding_all rfl) (hn : k1 ≠ .new := by decide) (hn2 : k2 ≠ .new := by decide) (hn3 : k3 ≠ .new := by decide) : PTk X p W M (.Compare a [op, op'] [b, c] pos) (tE (eChain o o' fa fb fc)) := by
  obtain ⟨ta, pa, sa⟩ := ha
  obtain ⟨tb, pb, sb⟩ := hb
  obtain ⟨tc, pc, sc⟩ := hc
  exact ⟨_, pt_chain ho ho' pa pb pc hm, st_test (se_chain h h' hx hx' sa sb sc hn hn2 hn3)⟩
end
end L2.Nf

namespace L2.Nf
open PySem PySem.Spec PyProof.Rows

/-! ### what is walked -/
abbrev LDen := Gm → Ro (List D)
def dItems : D → Ro (List D)
  | .lst xs => .ok xs
  | .tup xs => .ok xs
  | .str z => .ok (z.cps.toList.map fun c => .str ⟨#[c]⟩)
  | _ => .bad
/-- an iterator that gives such data: n turns while things stand -/
structure Gives (p : Pt) (F0 H0 F' H' : Hp) (ds : List D) (J : It) : Prop where
  len : ds.length ≤ sizeLine
  ex : ∃ G Y, Walk J ds.length G Y ∧ (∀ F2 H2, Same F' F2 → Ext F0 H0 F2 H2 → G H2) ∧ ∀ (i : Nat) H1 x H2, Y i H1 x H2 → H2 = H1 ∧ ∃ d, ds[i]? = some d ∧ Rep p F' x d
def SI (X : Cx) (p : Pt) (W : WX) (M : List Md) (wi : TI) (f : LDen) : Prop :=
  ∀ (F0 H0 : Hp) (Γ : Gm) (F : Hp) (σ : St) (H : Hp) (R : It → Hp → Prop), Env X.K p F0 H0 M Γ F σ H →
    (f Γ).post (fun ds => ∀ J F' H', Ext F H F' H' → Gives p F0 H0 F' H' ds J → R J H') (fun c => ∀ F' H', Ext F H F' H' → W (.ref (p.ca c)) none σ H') → wi σ H R
def PIk (X : Cx) (p : Pt) (W : WX) (M : List Md) (tg iter : Expr) (f : LDen) : Prop := ∃ wi, PI X tg iter wi ∧ SI X p W M wi f
theorem pi_or {X : Cx} {tg e : Expr} {t u : TI} (h : PI X tg e t) (h' : PI X tg e u) : PI X tg e (fun σ H R => t σ H R ∨ u σ H R) :=
  ⟨fun pins s σ H R I q => q.elim (h.run pins s σ H R I) (h'.run pins s σ H R I)⟩
/-- lists and tuples are never longer than the line -/
def HL (K : PySem.W.Frag) (H : Hp) : Prop := (∀ a xs, SqL K H a xs → xs.length ≤ sizeLine) ∧ ∀ a xs, SqT K H a xs → xs.length ≤ sizeLine
theorem pe_hl {X : Cx} {e : Expr} {t : TE} (h : PE X e t) : PE X e (fun σ H Q => t σ H fun v H1 => HL X.K H1 → Q v H1) := by
  refine ⟨fun pins s σ H Q I q => thn (h.run pins s σ H _ I q) fun u s1 ⟨x, H1, I1, r1, q1⟩ => ⟨x, H1, I1, r1, q1 ⟨fun a xs hs => ?_, fun a xs hs => ?_⟩⟩⟩
  · obtain ⟨_, _, _, hz⟩ := I1.list hs; exact hz
  · obtain ⟨_, _, _, hz⟩ := I1.tuple hs; exact hz
section
variable {X : Cx} {p : Pt} {W : WX} {M : List Md}
def lE (f : EDen) : LDen := fun Γ => (f Γ).bind dItems
theorem gives_list {K : PySem.W.Frag} {F0 H0 F' H' : Hp} {a : Addr} {vs : List V} {ds : List D} (hl : vs.length ≤ sizeLine) (st : ∀ F2 H2, Same F' F2 → Ext F0 H0 F2 H2 → SqL K H2 a vs) (e : Each (Rep p F') vs ds) : Gives p F0 H0 F' H' ds (Itl K a) := by
  refine ⟨e.1 ▸ hl, _, _, e.1 ▸ walk_list (K := K) (a := a) (xs := vs), fun F2 H2 s x => st F2 H2 s x, fun i H1 x H2 y => ?_⟩
  obtain ⟨h1, h2⟩ := y
  obtain ⟨d, hd, r⟩ := e.getL h2
  exact ⟨h1, d, hd, r⟩
theorem pi_e {k : Kd} {tg e : Expr} {f : EDen} (he : PEk X p W M k e f) (hk : k.le .sst = true := by decide) : PIk X p W M tg e (lE f) := by
  obtain ⟨t, pt, st⟩ := pk_cast (k' := .sst) he hk
  refine ⟨_, pi_or (pi_list (pe_hl pt)) (pi_or (pi_tup (pe_hl pt)) (pi_str pt)), fun F0 H0 Γ F σ H R E q => ?_⟩
  unfold lE at q
  -- which kind of thing it is
  cases h1 : f Γ with
  | bad => rw [h1] at q; exact q.elim
  | xc c =>
    rw [h1] at q
    refine .inl (st.go E ?_)
    rw [h1]; exact q
  | ok d =>
    rw [h1, Ro.bind_ok] at q
    cases d <;> try exact q.elim
    · refine .inr (.inr (st.go E ?_))
      rw [h1]
      intro v F' H' x r
      rename_i z
      have E1 := E.grow x
      obtain ⟨rfl, o1, hzl⟩ := t_str (rdv E1.ext (k := .sst) (by decide) (show RelK X.K p .sst F0 H0 H F' H' v (.str z) from r))
      refine ⟨z, rfl, q _ F' H' x ⟨by rw [List.length_map]; exact hzl, fun _ => True, fun i H v H' => H' = H ∧ ∃ c, z.cps[i]? = some c ∧ v = .str ⟨#[c]⟩, ?_, fun _ _ _ _ => trivial, fun i H1 x H2 y => ?_⟩⟩
      · have e : (z.cps.toList.map fun c => D.str ⟨#[c]⟩).length = z.cps.size := by simp
        rw [e]
        exact walk_str
      · obtain ⟨h1, c, hc, rfl⟩ := y
        refine ⟨h1, .str ⟨#[c]⟩, ?_, .str _ ?_ ?_⟩
        · rw [List.getElem?_map, Array.getElem?_toList, hc]; rfl
        · have hm : c ∈ z.cps.toList := by
            rw [← Array.getElem?_toList] at hc
            exact List.mem_of_getElem? hc
          unfold PyData.strOk at o1 ⊢
          rw [← Array.all_toList] at o1
          simpa using List.all_eq_true.mp o1 c hm
        · show 1 ≤ sizeLine
          decide
    · refine .inl (st.go E ?_)
      rw [h1]
      intro v F' H' x r
      have E1 := E.grow x
      rename_i ds
      have go : ∃ a vs, v = .ref a ∧ (∀ F2 H2, Same F' F2 → Ext F0 H0 F2 H2 → SqL X.K H2 a vs) ∧ Each (Rep p F') vs ds := by
        rcases r with r | ⟨a, rfl, o⟩ | ⟨a, vs, ds', rfl, h2, h3, h4⟩
        · cases r with | lst h hl hi => exact ⟨_, _, rfl, fun F2 H2 s x => .of (x.fh _ _ (s _ _ h)), hl, hi⟩
        · cases o with | lst h e => exact ⟨_, _, rfl, fun F2 H2 s x => .of (x.hh _ _ h), e.mono fun _ _ r => r.same E1.ext.ff⟩
        · cases h2
          exact ⟨a, vs, rfl, fun F2 H2 s x => x.hh.seq h3, h4.mono fun _ _ r => r.same E1.ext.ff⟩
      obtain ⟨a, vs, rfl, h5, h6⟩ := go
      exact fun hl => ⟨a, rfl, ⟨vs, h5 F' H' (.refl _) E1.ext⟩, q _ F' H' x (gives_list (hl.1 a vs (h5 F' H' (.refl _) E1.ext)) h5 h6)⟩
    · refine .inr (.inl (st.go E ?_))
      rw [h1]
      intro v F' H' x r
      have E1 := E.grow x
      rename_i ds
      obtain ⟨a, vs, rfl, ha, ea⟩ := t_tup (rdv E1.ext (k := .sst) (by decide) (show RelK X.K p .sst F0 H0 H F' H' v (.tup ds) from r))
      refine fun hl => ⟨a, rfl, ⟨vs, .of (x.fh _ _ ha)⟩, q _ F' H' x ⟨ea.1 ▸ hl.2 a vs (.of (x.fh _ _ ha)), _, _, ea.1 ▸ walk_tup (K := X.K) (a := a) (xs := vs), fun F2 H2 s x => .of (x.fh _ _ (s _ _ ha)), fun i H1 x H2 y => ?_⟩⟩
      obtain ⟨h1, h2⟩ := y
      obtain ⟨d, hd, r⟩ := ea.getL h2
      exact ⟨h1, d, hd, r⟩
def rngD (lo : Int) (n : Nat) : List D := (List.range n).map fun (i : Nat) => .int (lo + (i : Int))
def lRng1 (a : EDen) : LDen := fun Γ => (a Γ).bind fun d => match d with
  | .int j => if -(2 ^ 62) ≤ j ∧ j ≤ 16777216 then .ok (rngD 0 j.toNat) else .bad
  | _ => .bad
def lRng2 (a b : EDen) : LDen := fun Γ => (a Γ).bind fun d => (b Γ).bind fun e => match d, e with
  | .int i, .int j => if 0 ≤ i ∧ i ≤ 16777216 ∧ -(2 ^ 62) ≤ j ∧ j ≤ 16777216 then .ok (rngD i (j - i).toNat) else .bad
  | _, _ => .bad
theorem gives_rng {F0 H0 F' H' : Hp} {lo : Int} {n : Nat} (hn : n ≤ sizeLine) : Gives p F0 H0 F' H' (rngD lo n) (Itr lo n) := by
  have e : (rngD lo n).length = n := by simp [rngD]
  refine ⟨by rw [e]; exact hn, fun _ => True, fun i H x H' => i < n ∧ H' = H ∧ x = .int (lo + i), ?_, fun _ _ _ _ => trivial, fun i H1 x H2 y => ?_⟩
  · rw [e]
    exact walk_range.mono (fun _ h => h) fun i H x H' hi _ y => ⟨hi, y⟩
  · obtain ⟨hi, h1, rfl⟩ := y
    exact ⟨h1, .int (lo + i), by simp [rngD, hi], .int _⟩
theorem pi_rng1 {tg a : Expr} {pp pos : Pos} {f : EDen} (ha : PEk X p W M .rep a f) (hm : X.mg "range" = none) (hg : Gl X "range" := by rfl) (hs : starEach [a] X.env = [(false, eval a X.env)] := by rfl) (hs' : starEach (a :: []) X.env = (false, eval a X.env) :: starEach [] X.env := by rfl) : PIk X p W M tg (.Call (.Name "range" pp) [a] [] pos) (lRng1 f) := by
  obtain ⟨t, pt, st⟩ := ha
  refine ⟨_, pi_range1 hg hm (pa_cons pt pa_nil hs') hs, fun F0 H0 Γ F σ H R E q => st.go E ?_⟩
  unfold lRng1 at q
  cases h1 : f Γ with
  | bad => rw [h1] at q; exact q
  | xc c => rw [h1] at q; exact q
  | ok d =>
    rw [h1, Ro.bind_ok] at q
    intro v F' H' x r
    cases r <;> try exact q.elim
    rename_i j
    have q : (if -(2 ^ 62) ≤ j ∧ j ≤ 16777216 then Ro.ok (rngD 0 j.toNat) else .bad).post _ _ := q
    by_cases hj : -(2 ^ 62) ≤ j ∧ j ≤ 16777216
    · rw [if_pos hj] at q
      exact ⟨j, rfl, hj.1, by omega, q _ F' H' x (gives_rng (by rw [sizeLine_eq]; omega))⟩
    · rw [if_neg hj] at q; exact q.elim
theorem pi_rng2 {tg a b : Expr} {pp pos : Pos} {f g : EDen} (ha : PEk X p W M .rep a f) (hb : PEk X p W M .rep b g) (hm : X.mg "range" = none) (hg : Gl X "range" := by rfl)
    (hs : starEach [a, b] X.env = [(false, eval a X.env), (false, eval b X.env)] := by rfl) (hs2 : starEach [b] X.env = [(false, eval b X.env)] := by rfl) (hs3 : starEach (a :: [b]) X.env = (false, eval a X.env) :: starEach [b] X.env := by rfl) (hs4 : starEach (b :: []) X.env = (false, eval b X.env) :: starEach [] X.env := by rfl) : PIk X p W M tg (.Call (.Name "range" pp) [a, b] [] pos) (lRng2 f g) := by
  obtain ⟨t, pt, st⟩ := ha
  obtain ⟨u, pu, su⟩ := hb
  refine ⟨_, pi_range2 hg hm (pa_cons pt (pa_cons pu pa_nil hs4) hs3) hs hs2, fun F0 H0 Γ F σ H R E q => st.go E ?_⟩
  unfold lRng2 at q
  cases h1 : f Γ with
  | bad => rw [h1] at q; exact q
  | xc c => rw [h1] at q; exact q
  | ok d =>
    rw [h1, Ro.bind_ok] at q
    intro v F1 H1 x1 r
    refine su.go (E.grow x1) ?_
    cases h2 : g Γ with
    | bad => rw [h2] at q; exact q
    | xc c => rw [h2] at q; exact wish_on x1 q
    | ok e =>
      rw [h2, Ro.bind_ok] at q
      intro v2 F2 H2 x2 r2
      cases r <;> try exact q.elim
      cases r2 <;> try exact q.elim
      rename_i i j
      have q : (if 0 ≤ i ∧ i ≤ 16777216 ∧ -(2 ^ 62) ≤ j ∧ j ≤ 16777216 then Ro.ok (rngD i (j - i).toNat) else .bad).post _ _ := q
      by_cases hj : 0 ≤ i ∧ i ≤ 16777216 ∧ -(2 ^ 62) ≤ j ∧ j ≤ 16777216
      · rw [if_pos hj] at q
        exact ⟨i, j, rfl, ⟨by omega, by omega, by omega, by omega⟩, q _ F2 H2 (x1.trans x2) (gives_rng (by rw [sizeLine_eq]; omega))⟩
      · rw [if_neg hj] at q; exact q.elim
/-- reversed(list) -/
def lRev (f : EDen) : LDen := fun Γ => (f Γ).bind fun d => match d with
  | .lst xs => .ok xs.reverse
  | _ => .bad
theorem pi_rev {k : Kd} {tg e : Expr} {pp pos : Pos} {f : EDen} (he : PEk X p W M k e f) (hm : X.mg "reversed" = none) (hk : k.le .sst = true := by decide) (hg : Gl X "reversed" := by rfl) (hs : starEach [e] X.env = [(false, eval e X.env)] := by rfl) (hs' : starEach (e :: []) X.env = (false, eval e X.env) :: starEach [] X.env := by rfl) :
    PIk X p W M tg (.Call (.Name "reversed" pp) [e] [] pos) (lRev f) := by
  obtain ⟨t, pt, st⟩ := pk_cast (k' := .sst) he hk
  refine ⟨_, pi_reversed hg hm (pa_cons (pe_hl pt) pa_nil hs') hs, fun F0 H0 Γ F σ H R E q => st.go E ?_⟩
  unfold lRev at q
  cases h1 : f Γ with
  | bad => rw [h1] at q; exact q
  | xc c => rw [h1] at q; exact q
  | ok d =>
    rw [h1, Ro.bind_ok] at q
    intro v F' H' x r
    have E1 := E.grow x
    cases d <;> try exact q.elim
    rename_i ds
    have go : ∃ a vs, v = .ref a ∧ (∀ F2 H2, Same F' F2 → Ext F0 H0 F2 H2 → SqL X.K H2 a vs) ∧ Each (Rep p F') vs ds := by
      rcases r with r | ⟨a, rfl, o⟩ | ⟨a, vs, ds', rfl, h2, h3, h4⟩
      · cases r with | lst h hl hi => exact ⟨_, _, rfl, fun F2 H2 s x => .of (x.fh _ _ (s _ _ h)), hl, hi⟩
      · cases o with | lst h e => exact ⟨_, _, rfl, fun F2 H2 s x => .of (x.hh _ _ h), e.mono fun _ _ r => r.same E1.ext.ff⟩
      · cases h2
        exact ⟨a, vs, rfl, fun F2 H2 s x => x.hh.seq h3, h4.mono fun _ _ r => r.same E1.ext.ff⟩
    obtain ⟨a, vs, rfl, h5, h6⟩ := go
    refine fun hl => ⟨a, vs, rfl, h5 F' H' (.refl _) E1.ext, q _ F' H' x ⟨by rw [List.length_reverse, ← h6.1]; exact hl.1 a vs (h5 F' H' (.refl _) E1.ext), _, fun i H x H' => i < vs.length ∧ H' = H ∧ vs[vs.length - 1 - i]? = some x, ?_, fun F2 H2 s x => h5 F2 H2 s x, fun i H1 x H2 y => ?_⟩⟩
    · rw [List.length_reverse, ← h6.1]
      exact (walk_rev (K := X.K) (a := a) (xs := vs)).mono (fun _ h => h) fun i H x H' hi _ y => ⟨hi, y⟩
    · obtain ⟨hi, h1, h2⟩ := y
      obtain ⟨d, hd, r⟩ := h6.getL h2
      refine ⟨h1, d, ?_, r⟩
      rw [List.getElem?_reverse (by rw [← h6.1]; exact hi), ← h6.1]
      exact hd

/-! ### comprehensions -/
def compD (i : Nat) (t : TDen) (e : EDen) (Γ : Gm) : List D → Ro (List D)
  | [] => .ok []
  | d :: ds => (t (Γ.set i (some d))).bind fun b => if b = true then (e (Γ.set i (some d))).bind fun x => (compD i t e Γ ds).bind fun r => .ok (x :: r) else compD i t e Γ ds
/-- what a comprehension may not raise -/
def noX {α : Type} (r : Ro α) : Ro α := match r with
  | .xc _ => .bad
  | o => o
def eLc (i : Nat) (l : LDen) (t : TDen) (e : EDen) : EDen := fun Γ => (l Γ).bind fun ds => (noX (compD i t e Γ ds)).bind fun r => .ok (.lst r)
def tYes' : TDen := fun _ => .ok true
abbrev W0 : WX := fun _ _ _ _ => False
def PTsk (X : Cx) (p : Pt) (W : WX) (M : List Md) (ifs : List Expr) (f : TDen) : Prop := ∃ t, PTs X ifs t ∧ ST' X p W M t f
theorem pts_n : PTsk X p W M [] tYes' := ⟨_, pts_nil, fun F0 H0 Γ F σ H Q E q => q F H (Ext.refl E.ext.fh)⟩
theorem pts_o {c : Expr} {f : TDen} (h : PTk X p W M c f) : PTsk X p W M [c] f := let ⟨t, a, b⟩ := h; ⟨t, pts_one a, b⟩
/-- the weakest readings -/
def tOf (K : PySem.W.Frag) (p : Pt) (W : WX) (M : List Md) (k : Kd) (f : EDen) : TE := fun σ H Q => ∃ F0 H0 Γ F, Env K p F0 H0 M Γ F σ H ∧
  (f Γ).post (fun d => ∀ v F' H', Ext F H F' H' → RelK K p k F0 H0 H F' H' v d → Q v H') (fun c => ∀ F' H', Ext F H F' H' → W (.ref (p.ca c)) none σ H')
def ttOf (K : PySem.W.Frag) (p : Pt) (W : WX) (M : List Md) (f : TDen) : TT := fun σ H Q => ∃ F0 H0 Γ F, Env K p F0 H0 M Γ F σ H ∧
  (f Γ).post (fun b => ∀ F' H', Ext F H F' H' → Q b H') (fun c => ∀ F' H', Ext F H F' H' → W (.ref (p.ca c)) none σ H')
theorem PEk.can {k : Kd} {e : Expr} {f : EDen} (h : PEk X p W M k e f) : PE X e (tOf X.K p W M k f) := by
  obtain ⟨t, pt, st⟩ := h
  exact ⟨fun pins s σ H Q I ⟨F0, H0, Γ, F, E, q⟩ => pt.run pins s σ H Q I (st F0 H0 Γ F σ H Q E q)⟩
theorem PTsk.can {es : List Expr} {f : TDen} (h : PTsk X p W M es f) : PTs X es (ttOf X.K p W M f) := by
  obtain ⟨t, pt, st⟩ := h
  exact ⟨fun pins s σ H Q I ⟨F0, H0, Γ, F, E, q⟩ => pt.run pins s σ H Q I (st F0 H0 Γ F σ H Q E q)⟩
theorem wipe_one (σ : St) (i : Nat) : wipe σ [i] = σ.set i none := rfl
theorem se_lc {i : Nat} {wi : TI} {l : LDen} {t : TDen} {e : EDen} (hm : M[i]? = some .any) (hl : SI X p W M wi l) :
    SE X p W M .new (tLc wi (gName i) (ttOf X.K p W0 (M.set i .val) t) (tOf X.K p W0 (M.set i .val) .rep e) [i]) (eLc i l t e) := by
  intro F0 H0 Γ F σ H Q E q
  refine hl F0 H0 Γ F σ H _ E ?_
  unfold eLc at q
  cases h1 : l Γ with
  | bad => rw [h1] at q; exact q
  | xc c => rw [h1] at q; exact q
  | ok ds =>
    rw [h1, Ro.bind_ok] at q
    intro J F1 H1 x1 gv
    obtain ⟨hlen, G, Y, w, st, yl⟩ := gv
    intro D hD
    have hDH : H D = none := x1.hh.free hD
    have hDF : F1 D = none := x1.fh.free hD
    cases h2 : compD i t e Γ ds with
    | bad => rw [h2] at q; exact q.elim
    | xc c => rw [h2] at q; exact q.elim
    | ok r =>
      rw [h2] at q
      have q : ∀ v F' H', Ext F H F' H' → RelK X.K p .new F0 H0 H F' H' v (.lst r) → Q v H' := q
      have E1 := E.grow x1
      refine lc_it w (fun k H2 => ∃ F2 acc dacc r2, Same F1 F2 ∧ Ext F H F2 H2 ∧ Env X.K p F0 H0 M Γ F2 σ H2 ∧ F2 D = none ∧ H2 D = some (.lst acc) ∧ Each (Rep p F2) acc dacc ∧ dacc.length ≤ k ∧ compD i t e Γ (ds.drop k) = .ok r2 ∧ r = dacc ++ r2) ?_ ?_ ?_ ?_
      · exact ⟨F1, [], [], r, .refl _, x1.new hD, E1.grow ((Ext.refl x1.fh).new hD), hDF, upd_same, .nil, Nat.le_refl _, h2, rfl⟩
      · rintro k H2 hk ⟨F2, acc, dacc, r2, s1, x2, E2, _⟩
        exact st F2 H2 s1 E2.ext
      · rintro k x H2 H2' hk ⟨F2, acc, dacc, r2, s1, x2, E2, f2, hacc, ea, hdl, hc, hr⟩ y
        obtain ⟨rfl, d, hd, rx⟩ := yl k H2 x H2' y
        have edrop : ds.drop k = d :: ds.drop (k + 1) := by
          rw [List.drop_eq_getElem_cons (by exact hk)]
          have : ds[k] = d := by
            have hk' : k < ds.length := hk
            simpa [hk'] using hd
          rw [this]
        have E3 := E2.setVal (rx.same s1) i
        have es : ((wipe σ [i]).set i (some x)) = σ.set i (some x) := by rw [wipe_one, List.set_set]
        show wipe ((wipe σ [i]).set i (some x)) [i] = wipe σ [i] ∧ _
        rw [es]
        refine ⟨by rw [wipe_one, wipe_one, List.set_set], F0, H0, _, F2, E3, ?_⟩
        rw [edrop] at hc
        unfold compD at hc
        cases h3 : t (Γ.set i (some d)) with
        | bad => rw [h3] at hc; cases hc
        | xc c => rw [h3] at hc; cases hc
        | ok b =>
          rw [h3, Ro.bind_ok] at hc
          intro F3 H3 x3
          cases b with
          | false =>
            rw [if_neg Bool.false_ne_true] at hc ⊢
            exact ⟨F3, acc, dacc, r2, s1.trans x3.ff, x2.trans x3, E2.grow x3, x3.nw D _ f2 hacc (fun _ z => by cases z), x3.hh _ _ hacc, ea.mono fun _ _ r => r.same x3.ff, Nat.le_succ_of_le hdl, hc, hr⟩
          | true =>
            rw [if_pos rfl] at hc ⊢
            refine ⟨F0, H0, _, F3, E3.grow x3, ?_⟩
            cases h4 : e (Γ.set i (some d)) with
            | bad => rw [h4] at hc; cases hc
            | xc c => rw [h4] at hc; cases hc
            | ok z =>
              rw [h4, Ro.bind_ok] at hc
              cases h5 : compD i t e Γ (ds.drop (k + 1)) with
              | bad => rw [h5] at hc; cases hc
              | xc c => rw [h5] at hc; cases hc
              | ok r3 =>
                rw [h5, Ro.bind_ok] at hc
                cases hc
                intro v F4 H4 x4 rv
                have x34 := x3.trans x4
                have hacc4 : H4 D = some (.lst acc) := x34.hh _ _ hacc
                have f4 : F4 D = none := x34.nw D _ f2 hacc (fun _ z => by cases z)
                have E4 := E2.grow x34
                have le : acc.length < sizeLine := by
                  rw [ea.1]
                  have hk' : k < ds.length := hk
                  omega
                have nD : ∀ b o, F4 b = some o → b ≠ D := fun b o h z => by subst z; rw [f4] at h; cases h
                have nE : ∀ b o, H0 b = some o → b ≠ D := fun b o h z => by
                  subst z
                  have := E.ext.hh _ _ h
                  rw [hDH] at this; cases this
                have own_ne : ∀ (j : Nat) a, M[j]? = some .own → σ[j]? = some (some (.ref a)) → a ≠ D := fun j a hj hs z => by
                  subst z
                  obtain ⟨g, s, _, h6, a', d', e1, e2, e3, e4, e5⟩ := E.getS hj
                  rw [hs] at h6; cases h6; cases e1
                  obtain ⟨u, hu, _⟩ := e5.obj
                  rw [hDH] at hu; cases hu
                have x5 : Ext F H F4 (upd H4 D (.lst (acc ++ [v]))) := by
                  have x24 := x2.trans x34
                  refine ⟨x24.ff, fun b o h => ?_, fun b o h => by rw [upd_ne (nD b o h)]; exact x24.fh _ _ h, x24.nw⟩
                  have nb : b ≠ D := fun z => by subst z; rw [hDH] at h; cases h
                  rw [upd_ne nb]; exact x24.hh _ _ h
                refine ⟨acc, hacc4, le, F4, acc ++ [v], dacc ++ [z], r3, s1.trans x34.ff, x5, ⟨?_, E4.lg, E4.ls, fun j m g s a b c => ?_, E4.apart⟩, f4, upd_same, (ea.mono fun _ _ r => r.same x34.ff).append (.cons rv .nil), by simp; omega, rfl, by simp [hr]⟩
                · exact E.ext.trans x5
                · have sl := E4.slot j m g s a b c
                  cases m with
                  | any => trivial
                  | val => exact sl
                  | bor => exact sl
                  | own =>
                    obtain ⟨a', d', e1, e2, e3, e4, e5⟩ := sl
                    subst e1
                    exact ⟨a', d', rfl, e2, e3, e4, e5.same (.refl _) fun u hu => by rw [upd_ne (own_ne j a' a c)]; exact hu⟩
                  | scr => exact sl
                  | duo c a b => exact sl
      · rintro H2 ⟨F2, acc, dacc, r2, s1, x2, E2, f2, hacc, ea, hdl, hc, hr⟩
        rw [List.drop_length] at hc
        cases hc
        rw [List.append_nil] at hr
        subst hr
        exact q _ F2 H2 x2 ⟨D, rfl, f2, hDH, .lst hacc ea⟩
/-- [elt for x in .. if ..] -/
theorem pk_lc (i : Nat) {x : Str} {elt iter : Expr} {ifs : List Expr} {scope : Scope} {pos px : Pos} {l : LDen} {t : TDen} {e : EDen} (hc : X.calm = true) (hN : X.N.Nodup) (hm : M[i]? = some .any) (ok : BlkOk X.N X.env.scope scope [(x, i)]) (hi : PIk X p W M (.Name x px) iter l)
    (hg : ∀ (s : Shared) (H : Hp) (C : Addr) (cl : List (Str × Addr)) (fp : List Addr), PG (X.blk s H scope (compEnvC scope cl C X.env) fp) (.Name x px) (gName i))
    (ht : ∀ (s : Shared) (H : Hp) (C : Addr) (cl : List (Str × Addr)) (fp : List Addr), PTsk (X.blk s H scope (compEnvC scope cl C X.env) fp) p W0 (M.set i .val) ifs t)
    (he : ∀ (s : Shared) (H : Hp) (C : Addr) (cl : List (Str × Addr)) (fp : List Addr), PEk (X.blk s H scope (compEnvC scope cl C X.env) fp) p W0 (M.set i .val) .rep elt e)
    (hs : ∀ x, foldedSetIterable iter X.env x = pure x := by intro _; rfl) : PEk X p W M .new (.ListComp elt [⟨.Name x px, iter, ifs, 0⟩] scope pos) (eLc i l t e) := by
  obtain ⟨wi, pi, si⟩ := hi
  exact ⟨_, pe_lc (own := [(x, i)]) hc hN pi ok hg (fun s H C cl fp => (ht s H C cl fp).can) (fun s H C cl fp => (he s H C cl fp).can) hs, se_lc hm si⟩
end
end L2.Nf

namespace L2.Nf
open PySem PySem.Spec PyProof.Rows

/-! ### a def as a function of data -/
def Md.ak : Md → Kd
  | .val => .rep
  | .bor => .top
  | .scr => .rd
  | _ => .rep
/-- the promise: data in, data out -/
def spD (K : PySem.W.Frag) (p : Pt) (ms : List Md) (rk : Kd) (f : List D → Ro D) : Sp := fun vs H Q E => ∃ F ds, Same F H ∧ vs.length = ms.length ∧ ds.length = ms.length ∧
  (∀ (i : Nat) m v d, ms[i]? = some m → vs[i]? = some v → ds[i]? = some d → RelK K p m.ak F H H F H v d) ∧
  (f ds).post (fun d => ∀ v F' H', Ext F H F' H' → RelK K p rk F H H F' H' v d → Q v H') (fun c => ∀ F' H', Ext F H F' H' → E (.ref (p.ca c)) none H')
def retK (rk : Kd) : Bool := rk == .rep || rk == .new
structure FnD (P : Program) (w : World) (K : PySem.W.Frag) (mg : Str → Option Value) (base : Heap) (p : Pt) (name : Str) (k : Nat) (ms : List Md) (rk : Kd) (f : List D → Ro D) : Prop where
  rt : retK rk = true
  ex : ∃ fa fd ps, mg name = some (.ref fa) ∧ PySem.W.keepIn K (.ref fa) = true ∧ Binds K fd ps [] ∧ FnOk P w K mg base (L2.CX P w) k fa fd ps (spD K p ms rk f)
theorem retK_cases {rk : Kd} (h : retK rk = true) : rk = .rep ∨ rk = .new := by
  cases rk <;> first | exact .inl rfl | exact .inr rfl | exact absurd h (by decide)
section
variable {X : Cx} {p : Pt} {W : WX} {M : List Md}
theorem se_call {ms : List Md} {rk : Kd} {f : List D → Ro D} {ta : TA} {a : ADen} (hrk : retK rk = true) (ha : SA X p W M (ms.map Md.ak) ta a) : SE X p W M rk (tCallS (spD X.K p ms rk f) (WE W) ta) (eN f a) := by
  intro F0 H0 Γ F σ H Q E q
  refine ha F0 H0 Γ F σ H _ E ?_
  unfold eN at q
  cases h1 : a Γ with
  | bad => rw [h1] at q; exact q
  | xc c => rw [h1] at q; exact q
  | ok ds =>
    rw [h1, Ro.bind_ok] at q
    intro vs F1 H1 x1 l1 l2 hh
    rw [List.length_map] at l1 l2
    refine ⟨F1, ds, x1.fh, l1, l2, fun i m v d a b c => ?_, ?_⟩
    · have r := hh i m.ak v d (by rw [List.getElem?_map, a]; rfl) b c
      cases m <;> exact r
    · cases h2 : f ds with
      | bad => rw [h2] at q; exact q
      | xc c => rw [h2] at q; exact wish_on x1 q
      | ok d =>
        rw [h2] at q
        intro v F2 H2 x2 r
        refine q v F2 H2 (x1.trans x2) ?_
        rcases retK_cases hrk with rfl | rfl
        · exact r
        · exact RelK.from (K := X.K) (k := .new) (F0 := F0) (H0 := H0) x1.hh r
theorem pk_call {ms : List Md} {rk : Kd} {f : List D → Ro D} {k : Nat} {name : Str} {pp pos : Pos} {e : Expr} {es : List Expr} {a : ADen} (F : FnD X.prog X.w X.K X.mg X.base p name k ms rk f) (hr : Room k X.A) (tk : Takes X W) (ha : PAk X p W M (ms.map Md.ak) (e :: es) a)
    (hg : Gl X name := by rfl) (hdb : (name == ("__debug__" : Str)) = false := by decide)
    (he : starEach (e :: es) X.env = (false, eval e X.env) :: starEach es X.env := by rfl) (hpl : (backTo pos (starEach es X.env)).any (·.1) = false := by rfl) : PEk X p W M rk (.Call (.Name name pp) (e :: es) [] pos) (eN f a) := by
  obtain ⟨fa, fd, ps, hm, hk, hb, ok⟩ := F.ex
  obtain ⟨t, pt, st⟩ := ha
  exact ⟨_, pe_callS ok hr hg hm hk hb (fun σ => passAt tk σ) pt hdb he hpl, se_call F.rt st⟩
end

/-! ### statements -/
inductive Out where
  | nx (Γ : Gm) | rt (d : D) | xc (c : Str) | bad
def Out.post (o : Out) (n : Gm → Prop) (r : D → Prop) (x : Str → Prop) : Prop := match o with
  | nx Γ => n Γ
  | rt d => r d
  | xc c => x c
  | bad => False
/-- go on with a value -/
def Ro.go {α : Type} (r : Ro α) (k : α → Out) : Out := match r with
  | ok a => k a
  | xc c => .xc c
  | bad => .bad
@[simp] theorem Ro.go_ok {α : Type} (a : α) (k : α → Out) : (Ro.ok a).go k = k a := rfl
@[simp] theorem Ro.go_xc {α : Type} (c : Str) (k : α → Out) : (Ro.xc c : Ro α).go k = .xc c := rfl
@[simp] theorem Ro.go_bad {α : Type} (k : α → Out) : (Ro.bad : Ro α).go k = .bad := rfl
abbrev SDen := Gm → Out
def SS (X : Cx) (p : Pt) (W : WX) (rk : Kd) (M M' : List Md) (t : TS) (f : SDen) : Prop :=
  ∀ (F0 H0 : Hp) (Γ : Gm) (F : Hp) (σ : St) (H : Hp) (De : Ends), Env X.K p F0 H0 M Γ F σ H →
    (f Γ).post (fun Γ' => ∀ F' σ' H', Same F F' → Env X.K p F0 H0 M' Γ' F' σ' H' → De.nx σ' H') (fun d => ∀ v F' H', Ext F0 H0 F' H' → RelK X.K p rk F0 H0 H0 F' H' v d → De.rt v H')
      (fun c => ∀ σ' F' H', Ext F0 H0 F' H' → W (.ref (p.ca c)) none σ' H') → t De σ H
def PSk (X : Cx) (p : Pt) (W : WX) (rk : Kd) (M M' : List Md) (st : Stmt) (f : SDen) : Prop := ∃ t, PS X st t ∧ SS X p W rk M M' t f
def PSsk (X : Cx) (p : Pt) (W : WX) (rk : Kd) (M M' : List Md) (sts : List Stmt) (f : SDen) : Prop := ∃ t, PSs X sts t ∧ SS X p W rk M M' t f
section
variable {X : Cx} {p : Pt} {W : WX} {rk : Kd} {M M1 M2 : List Md} {F0 H0 F H : Hp} {Γ : Gm} {σ : St}
def sNil : SDen := fun Γ => .nx Γ
def sSeq (f g : SDen) : SDen := fun Γ => match f Γ with
  | .nx Γ' => g Γ'
  | o => o
/-- an exception's wish at a statement gives that of its expressions -/
theorem wish_st {c : Str} (E : Env X.K p F0 H0 M Γ F σ H) (q : ∀ σ' F' H', Ext F0 H0 F' H' → W (.ref (p.ca c)) none σ' H') : ∀ F' H', Ext F H F' H' → W (.ref (p.ca c)) none σ H' := fun F' H' e => q σ F' H' (E.ext.trans e)
theorem sk_nil : PSsk X p W rk M M [] sNil := ⟨_, pss_nil, fun F0 H0 Γ F σ H De E q => q F σ H (.refl _) E⟩
theorem ss_seq {t u : TS} {f g : SDen} (h : SS X p W rk M M1 t f) (h' : SS X p W rk M1 M2 u g) : SS X p W rk M M2 (tSeq t u) (sSeq f g) := by
  intro F0 H0 Γ F σ H De E q
  refine h F0 H0 Γ F σ H _ E ?_
  unfold sSeq at q
  cases h1 : f Γ with
  | bad => rw [h1] at q; exact q
  | xc c => rw [h1] at q; exact q
  | rt d => rw [h1] at q; exact q
  | nx Γ1 =>
    rw [h1] at q
    intro F1 σ1 H1 s1 E1
    refine h' F0 H0 Γ1 F1 σ1 H1 De E1 ?_
    have q : (g Γ1).post _ _ _ := q
    cases h2 : g Γ1 with
    | bad => rw [h2] at q; exact q
    | xc c => rw [h2] at q; exact q
    | rt d => rw [h2] at q; exact q
    | nx Γ2 => rw [h2] at q; exact fun F2 σ2 H2 s2 E2 => q F2 σ2 H2 (s1.trans s2) E2
theorem sk_cons {st : Stmt} {rest : List Stmt} {f g : SDen} (h : PSk X p W rk M M1 st f) (h' : PSsk X p W rk M1 M2 rest g) : PSsk X p W rk M M2 (st :: rest) (sSeq f g) := by
  obtain ⟨t, pt, st⟩ := h
  obtain ⟨u, pu, su⟩ := h'
  exact ⟨_, pss_cons pt pu, ss_seq st su⟩
theorem sk_one {st : Stmt} {f : SDen} (h : PSk X p W rk M M1 st f) : PSsk X p W rk M M1 [st] f := let ⟨t, a, b⟩ := h; ⟨t, pss_one a, b⟩
/-- less is told of the names behind -/
def weakB : List Md → List Md → Bool
  | [], [] => true
  | m :: ms, m' :: ms' => m.le m' && weakB ms ms'
  | _, _ => false
theorem weakB_at : ∀ {M M' : List Md}, weakB M M' = true → M'.length = M.length ∧ ∀ (i : Nat) m', M'[i]? = some m' → ∃ m, M[i]? = some m ∧ m.le m' = true
  | [], [], _ => ⟨rfl, fun i m' h => by simp at h⟩
  | m :: ms, m' :: ms', h => by
    unfold weakB at h
    rw [Bool.and_eq_true] at h
    obtain ⟨h1, h2⟩ := weakB_at h.2
    refine ⟨by simp [h1], fun i x hx => ?_⟩
    cases i with
    | zero => simp at hx; subst hx; exact ⟨m, rfl, h.1⟩
    | succ i => exact h2 i x (by simpa using hx)
  | [], _ :: _, h => by cases h
  | _ :: _, [], h => by cases h
theorem env_weakB (E : Env X.K p F0 H0 M Γ F σ H) (h : weakB M M1 = true) : Env X.K p F0 H0 M1 Γ F σ H := by
  obtain ⟨h1, h2⟩ := weakB_at h
  exact E.weak h1 rfl fun i m' hm => let ⟨m, a, b⟩ := h2 i m' hm; .inr ⟨m, a, b, rfl⟩
theorem ss_weak {t : TS} {f : SDen} (h : SS X p W rk M M1 t f) (hw : weakB M1 M2 = true) : SS X p W rk M M2 t f := by
  intro F0 H0 Γ F σ H De E q
  refine h F0 H0 Γ F σ H De E ?_
  cases h1 : f Γ with
  | nx Γ1 => rw [h1] at q; exact fun F1 σ1 H1 s1 E1 => q F1 σ1 H1 s1 (env_weakB E1 hw)
  | bad => rw [h1] at q; exact q
  | xc c => rw [h1] at q; exact q
  | rt d => rw [h1] at q; exact q
theorem sk_weak {sts : List Stmt} {f : SDen} (h : PSsk X p W rk M M1 sts f) (hw : weakB M1 M2 = true := by rfl) : PSsk X p W rk M M2 sts f := let ⟨t, a, b⟩ := h; ⟨t, a, ss_weak b hw⟩
theorem sk_weak1 {st : Stmt} {f : SDen} (h : PSk X p W rk M M1 st f) (hw : weakB M1 M2 = true := by rfl) : PSk X p W rk M M2 st f := let ⟨t, a, b⟩ := h; ⟨t, a, ss_weak b hw⟩
/-- a name's thing stays from here on -/
theorem Env.freeze (E : Env X.K p F0 H0 M Γ F σ H) {i : Nat} (hm : M[i]? = some .own) : ∃ F', Same F F' ∧ Env X.K p F0 H0 (M.set i .val) Γ F' σ H := by
  obtain ⟨g, s, hg, hs, a, d, rfl, rfl, f, h0, o⟩ := E.getS hm
  obtain ⟨u, hu, hnt⟩ := o.obj
  have hi : i < M.length := (List.getElem?_eq_some_iff.mp hm).1
  refine ⟨upd F a u, same_frz (.inl f), E.ext.frz hu (.inl f) (.inl h0), by simp [E.lg], by simp [E.ls], fun j m g s h1 h2 h3 => ?_, fun j k b h1 h2 h3 h4 => ?_⟩
  · rw [List.getElem?_set] at h1
    by_cases hj : i = j
    · subst hj
      rw [if_pos rfl, if_pos hi] at h1
      cases h1
      rw [hg] at h2; rw [hs] at h3
      cases h2; cases h3
      exact ⟨_, d, rfl, rfl, o.rep (same_frz (.inl f)) fun z hz => by rw [hu] at hz; cases hz; exact upd_same⟩
    · rw [if_neg hj] at h1
      have q := E.slot j m g s h1 h2 h3
      cases m with
      | any => trivial
      | val => obtain ⟨v, d', x, y, r⟩ := q; exact ⟨v, d', x, y, r.same (same_frz (.inl f))⟩
      | bor => obtain ⟨v, d', x, y, r⟩ := q; exact ⟨v, d', x, y, r.imp (fun r => r.same (same_frz (.inl f))) id⟩
      | own =>
        obtain ⟨b, d', x, y, f', h0', o'⟩ := q
        subst x
        have hb : b ≠ a := fun z => by subst z; exact hj (E.apart i j b hm h1 hs h3)
        exact ⟨b, d', rfl, y, by rw [upd_ne hb]; exact f', h0', o'.same (same_frz (.inl f)) fun _ z => z⟩
      | scr => obtain ⟨v, d', x, y, r⟩ := q; exact ⟨v, d', x, y, r.imp (fun r => r.same (same_frz (.inl f))) id⟩
      | duo c a b => exact q
  · have ow : ∀ (l : Nat), (M.set i .val)[l]? = some .own → M[l]? = some .own := fun l hl => by
      rw [List.getElem?_set] at hl
      by_cases e : i = l
      · rw [if_pos e] at hl
        split at hl <;> cases hl
      · rw [if_neg e] at hl; exact hl
    exact E.apart j k b (ow j h1) (ow k h2) h3 h4
theorem sk_frz (i : Nat) {sts : List Stmt} {f : SDen} (h : PSsk X p W rk (M.set i .val) M1 sts f) (hm : M[i]? = some .own := by rfl) : PSsk X p W rk M M1 sts f := by
  obtain ⟨t, pt, st⟩ := h
  refine ⟨t, pt, fun F0 H0 Γ F σ H De E q => ?_⟩
  obtain ⟨F', s, E'⟩ := E.freeze hm
  refine st F0 H0 Γ F' σ H De E' ?_
  cases h1 : f Γ with
  | nx Γ1 => rw [h1] at q; exact fun F1 σ1 H1 s1 E1 => q F1 σ1 H1 (s.trans s1) E1
  | bad => rw [h1] at q; exact q
  | xc c => rw [h1] at q; exact q
  | rt d => rw [h1] at q; exact q
/-! if -/
def sIf (c : TDen) (f g : SDen) : SDen := fun Γ => (c Γ).go fun b => if b = true then f Γ else g Γ
theorem sk_if {c : Expr} {a b : List Stmt} {pos : Pos} {h : TDen} {f g : SDen} (hc : PTk X p W M c h) (ha : PSsk X p W rk M M1 a f) (hb : PSsk X p W rk M M1 b g) : PSk X p W rk M M1 (.If c a b pos) (sIf h f g) := by
  obtain ⟨tc, pc, sc⟩ := hc
  obtain ⟨ta, pa, sa⟩ := ha
  obtain ⟨tb, pb, sb⟩ := hb
  refine ⟨_, ps_if pc pa pb, fun F0 H0 Γ F σ H De E q => sc.go E ?_⟩
  unfold sIf at q
  cases h1 : h Γ with
  | bad => rw [h1] at q; exact q
  | xc c => rw [h1] at q; exact wish_st E q
  | ok d =>
    rw [h1, Ro.go_ok] at q
    intro F1 H1 x1
    have E1 := E.grow x1
    have goes : ∀ (f : SDen), (f Γ).post (fun Γ' => ∀ F' σ' H', Same F F' → Env X.K p F0 H0 M1 Γ' F' σ' H' → De.nx σ' H') (fun d => ∀ v F' H', Ext F0 H0 F' H' → RelK X.K p rk F0 H0 H0 F' H' v d → De.rt v H')
      (fun c => ∀ σ' F' H', Ext F0 H0 F' H' → W (.ref (p.ca c)) none σ' H') → (f Γ).post (fun Γ' => ∀ F' σ' H', Same F1 F' → Env X.K p F0 H0 M1 Γ' F' σ' H' → De.nx σ' H') (fun d => ∀ v F' H', Ext F0 H0 F' H' → RelK X.K p rk F0 H0 H0 F' H' v d → De.rt v H')
      (fun c => ∀ σ' F' H', Ext F0 H0 F' H' → W (.ref (p.ca c)) none σ' H') := fun f q => by
      cases h2 : f Γ with
      | nx Γ1 => rw [h2] at q; exact fun F2 σ2 H2 s2 E2 => q F2 σ2 H2 (x1.ff.trans s2) E2
      | bad => rw [h2] at q; exact q
      | xc c => rw [h2] at q; exact q
      | rt d => rw [h2] at q; exact q
    cases d with
    | true => rw [if_pos rfl] at q ⊢; exact sa F0 H0 Γ F1 σ H1 De E1 (goes f q)
    | false => rw [if_neg Bool.false_ne_true] at q ⊢; exact sb F0 H0 Γ F1 σ H1 De E1 (goes g q)
/-! x = e -/
def sSet (i : Nat) (e : EDen) : SDen := fun Γ => (e Γ).go fun d => .nx (Γ.set i (some d))
theorem ss_set {i : Nat} {te : TE} {e : EDen} (h : SE X p W M .rep te e) : SS X p W rk M (M.set i .val) (tAsg te (gName i)) (sSet i e) := by
  intro F0 H0 Γ F σ H De E q
  refine h.go E ?_
  unfold sSet at q
  cases h1 : e Γ with
  | bad => rw [h1] at q; exact q
  | xc c => rw [h1] at q; exact wish_st E q
  | ok d =>
    rw [h1] at q
    exact fun v F1 H1 x1 r => q F1 _ H1 x1.ff ((E.grow x1).setVal r i)
theorem ss_setO {i : Nat} {te : TE} {e : EDen} (h : SE X p W M .new te e) : SS X p W rk M (M.set i .own) (tAsg te (gName i)) (sSet i e) := by
  intro F0 H0 Γ F σ H De E q
  refine h.go E ?_
  unfold sSet at q
  cases h1 : e Γ with
  | bad => rw [h1] at q; exact q
  | xc c => rw [h1] at q; exact wish_st E q
  | ok d =>
    rw [h1] at q
    rintro v F1 H1 x1 ⟨a, rfl, f, h, o⟩
    refine q F1 _ H1 x1.ff ((E.grow x1).setOwn f (E.ext.hh.free h) o i fun j hj hm hs => ?_)
    obtain ⟨g, s, _, h6, a', d', e1, _, _, _, e5⟩ := E.getS hm
    rw [hs] at h6; cases h6; cases e1
    obtain ⟨u, hu, _⟩ := e5.obj
    rw [h] at hu; cases hu
theorem sk_set (i : Nat) {x : Str} {e : Expr} {f : EDen} {pos pos' : Pos} (h : PEk X p W M .rep e f) (hN : X.N.Nodup) (hi : X.N[i]? = some x := by rfl) (hx : Loc X.env.scope x := by first | exact Or.inl rfl | exact Or.inr rfl) (hs : swapsWith e (some (.Name x pos')) pos.line X.env = pure false := by rfl)
    (hf : X.fn x = true ∨ X.env.scope.names.lookup x = some .local := by first | exact .inl rfl | exact .inr rfl) : PSk X p W rk M (M.set i .val) (.Assign [.Name x pos'] e pos) (sSet i f) := by
  obtain ⟨t, pt, st⟩ := h
  exact ⟨_, ps_set hN hi hx pt hs hf, ss_set st⟩
theorem sk_setO (i : Nat) {x : Str} {e : Expr} {f : EDen} {pos pos' : Pos} (h : PEk X p W M .new e f) (hN : X.N.Nodup) (hi : X.N[i]? = some x := by rfl) (hx : Loc X.env.scope x := by first | exact Or.inl rfl | exact Or.inr rfl) (hs : swapsWith e (some (.Name x pos')) pos.line X.env = pure false := by rfl)
    (hf : X.fn x = true ∨ X.env.scope.names.lookup x = some .local := by first | exact .inl rfl | exact .inr rfl) : PSk X p W rk M (M.set i .own) (.Assign [.Name x pos'] e pos) (sSet i f) := by
  obtain ⟨t, pt, st⟩ := h
  exact ⟨_, ps_set hN hi hx pt hs hf, ss_setO st⟩
/-- y = [e for x in ..], on one line -/
theorem se_lcs {y : Nat} {i : Nat} {x z : Str} {elt iter : Expr} {ifs : List Expr} {scope : Scope} {pos px py spos : Pos} {l : LDen} {t : TDen} {e : EDen} (hc : X.calm = true) (hN : X.N.Nodup) (hm : M[i]? = some .any) (hy : X.N[y]? = some z) (hyl : X.env.scope.names.lookup z = some .local)
    (hsw : swapsWith (.ListComp elt [⟨.Name x px, iter, ifs, 0⟩] scope pos) (some (.Name z py)) spos.line X.env = pure true) (ok : BlkOk X.N X.env.scope scope [(x, i)]) (hi : PIk X p W M (.Name x px) iter l)
    (hg : ∀ (s : Shared) (H : Hp) (C : Addr) (cl : List (Str × Addr)) (fp : List Addr), PG (X.blk s H scope (compEnvC scope cl C X.env) fp) (.Name x px) (gName i))
    (ht : ∀ (s : Shared) (H : Hp) (C : Addr) (cl : List (Str × Addr)) (fp : List Addr), PTsk (X.blk s H scope (compEnvC scope cl C X.env) fp) p W0 (M.set i .val) ifs t)
    (he : ∀ (s : Shared) (H : Hp) (C : Addr) (cl : List (Str × Addr)) (fp : List Addr), PEk (X.blk s H scope (compEnvC scope cl C X.env) fp) p W0 (M.set i .val) .rep elt e)
    (hs : ∀ x, foldedSetIterable iter X.env x = pure x) : ∃ te, PS X (.Assign [.Name z py] (.ListComp elt [⟨.Name x px, iter, ifs, 0⟩] scope pos) spos) (tAsg te (gName y)) ∧ SE X p W M .new te (eLc i l t e) := by
  obtain ⟨wi, pi, si⟩ := hi
  exact ⟨_, ps_setLc (own := [(x, i)]) hc hN hy hyl hsw pi ok hg (fun s H C cl fp => (ht s H C cl fp).can) (fun s H C cl fp => (he s H C cl fp).can) hs, se_lc hm si⟩
theorem ss_cast {k k' : Kd} {t : TE} {f : EDen} (h : SE X p W M k t f) (hk : k.le k' = true) : SE X p W M k' t f := by
  intro F0 H0 Γ F σ H Q E q
  refine h.go E ?_
  cases hf : f Γ with
  | ok d =>
    rw [hf] at q
    intro v F' H' e r
    obtain ⟨F2, e2, r2⟩ := r.cast hk E.ext e
    exact q v F2 H' e2 r2
  | xc c => rw [hf] at q; exact q
  | bad => rw [hf] at q; exact q
theorem sk_lc (y i : Nat) {x z : Str} {elt iter : Expr} {ifs : List Expr} {scope : Scope} {pos px py spos : Pos} {l : LDen} {t : TDen} {e : EDen} (hc : X.calm = true) (hN : X.N.Nodup) (hm : M[i]? = some .any) (ok : BlkOk X.N X.env.scope scope [(x, i)]) (hi : PIk X p W M (.Name x px) iter l)
    (hg : ∀ (s : Shared) (H : Hp) (C : Addr) (cl : List (Str × Addr)) (fp : List Addr), PG (X.blk s H scope (compEnvC scope cl C X.env) fp) (.Name x px) (gName i))
    (ht : ∀ (s : Shared) (H : Hp) (C : Addr) (cl : List (Str × Addr)) (fp : List Addr), PTsk (X.blk s H scope (compEnvC scope cl C X.env) fp) p W0 (M.set i .val) ifs t)
    (he : ∀ (s : Shared) (H : Hp) (C : Addr) (cl : List (Str × Addr)) (fp : List Addr), PEk (X.blk s H scope (compEnvC scope cl C X.env) fp) p W0 (M.set i .val) .rep elt e)
    (hsw : swapsWith (.ListComp elt [⟨.Name x px, iter, ifs, 0⟩] scope pos) (some (.Name z py)) spos.line X.env = pure true) (hs : ∀ x, foldedSetIterable iter X.env x = pure x := by intro _; rfl) (hy : X.N[y]? = some z := by rfl) (hyl : X.env.scope.names.lookup z = some .local := by rfl) :
    PSk X p W rk M (M.set y .val) (.Assign [.Name z py] (.ListComp elt [⟨.Name x px, iter, ifs, 0⟩] scope pos) spos) (sSet y (eLc i l t e)) := by
  obtain ⟨te, a, b⟩ := se_lcs hc hN hm hy hyl hsw ok hi hg ht he hs
  exact ⟨_, a, ss_set (ss_cast b (by decide))⟩
theorem sk_lcO (y i : Nat) {x z : Str} {elt iter : Expr} {ifs : List Expr} {scope : Scope} {pos px py spos : Pos} {l : LDen} {t : TDen} {e : EDen} (hc : X.calm = true) (hN : X.N.Nodup) (hm : M[i]? = some .any) (ok : BlkOk X.N X.env.scope scope [(x, i)]) (hi : PIk X p W M (.Name x px) iter l)
    (hg : ∀ (s : Shared) (H : Hp) (C : Addr) (cl : List (Str × Addr)) (fp : List Addr), PG (X.blk s H scope (compEnvC scope cl C X.env) fp) (.Name x px) (gName i))
    (ht : ∀ (s : Shared) (H : Hp) (C : Addr) (cl : List (Str × Addr)) (fp : List Addr), PTsk (X.blk s H scope (compEnvC scope cl C X.env) fp) p W0 (M.set i .val) ifs t)
    (he : ∀ (s : Shared) (H : Hp) (C : Addr) (cl : List (Str × Addr)) (fp : List Addr), PEk (X.blk s H scope (compEnvC scope cl C X.env) fp) p W0 (M.set i .val) .rep elt e)
    (hsw : swapsWith (.ListComp elt [⟨.Name x px, iter, ifs, 0⟩] scope pos) (some (.Name z py)) spos.line X.env = pure true) (hs : ∀ x, foldedSetIterable iter X.env x = pure x := by intro _; rfl) (hy : X.N[y]? = some z := by rfl) (hyl : X.env.scope.names.lookup z = some .local := by rfl) :
    PSk X p W rk M (M.set y .own) (.Assign [.Name z py] (.ListComp elt [⟨.Name x px, iter, ifs, 0⟩] scope pos) spos) (sSet y (eLc i l t e)) := by
  obtain ⟨te, a, b⟩ := se_lcs hc hN hm hy hyl hsw ok hi hg ht he hs
  exact ⟨_, a, ss_setO b⟩
/-! return, a dropped expression, pass, continue -/
def sRet (e : EDen) : SDen := fun Γ => (e Γ).go fun d => .rt d
def sRetN : SDen := fun _ => .rt .non
def sDrop (e : EDen) : SDen := fun Γ => (e Γ).go fun _ => .nx Γ
theorem ext_of {a : Hp} (E : Env X.K p F0 H0 M Γ F σ H) {F1 H1 : Hp} (x : Ext F H F1 H1) : Ext F0 H0 F1 H1 := E.ext.trans x
theorem sk_ret {e : Expr} {f : EDen} {pos : Pos} (h : PEk X p W M rk e f) (hrk : retK rk = true := by rfl) : PSk X p W rk M M1 (.Return (some e) pos) (sRet f) := by
  obtain ⟨t, pt, st⟩ := h
  refine ⟨_, ps_ret pt, fun F0 H0 Γ F σ H De E q => st.go E ?_⟩
  unfold sRet at q
  cases h1 : f Γ with
  | bad => rw [h1] at q; exact q
  | xc c => rw [h1] at q; exact wish_st E q
  | ok d =>
    rw [h1] at q
    intro v F1 H1 x1 r
    refine q v F1 H1 (E.ext.trans x1) ?_
    rcases retK_cases hrk with rfl | rfl
    · exact r
    · exact RelK.from (K := X.K) (k := .new) E.ext.hh r
/-- a name that owns its thing is handed back -/
theorem sk_retO (i : Nat) {x : Str} {pos p2 : Pos} (hm : M[i]? = some .own := by rfl) (hrk : retK rk = true := by rfl) (hN : X.N[i]? = some x := by rfl) (hv : Vis X.env.scope x := by first | exact Or.inl rfl | exact Or.inr (Or.inl rfl) | exact Or.inr (Or.inr rfl))
    (hd : (x == ("__debug__" : Str)) = false := by decide) (hcd : (x == ("__classdict__" : Str)) = false := by decide) : PSk X p W rk M M1 (.Return (some (.Name x p2)) pos) (sRet (eV i)) := by
  refine ⟨_, ps_ret (pe_var hN hv hd hcd), fun F0 H0 Γ F σ H De E q => ?_⟩
  obtain ⟨g, s, h1, h2, a, d, rfl, rfl, f, h0, o⟩ := E.getS hm
  unfold sRet eV at q
  rw [h1] at q
  refine ⟨_, h2, ?_⟩
  rcases retK_cases hrk with rfl | rfl
  · obtain ⟨u, hu, _⟩ := o.obj
    exact q _ (upd F a u) H (E.ext.frz hu (.inl f) (.inl h0)) (o.rep (same_frz (.inl f)) fun z hz => by rw [hu] at hz; cases hz; exact upd_same)
  · exact q _ F H E.ext ⟨a, rfl, f, h0, o⟩
theorem sk_retN {pos : Pos} (hrk : rk = .rep := by rfl) : PSk X p W rk M M1 (.Return none pos) sRetN := by
  subst hrk
  exact ⟨_, ps_retN, fun F0 H0 Γ F σ H De E q => q _ F H E.ext .non⟩
theorem sk_drop {k : Kd} {e : Expr} {f : EDen} {pos : Pos} (h : PEk X p W M k e f) (hs : swapsWith e none pos.line X.env = pure false := by rfl) : PSk X p W rk M M (.Expr e pos) (sDrop f) := by
  obtain ⟨t, pt, st⟩ := h
  refine ⟨_, ps_expr pt hs, fun F0 H0 Γ F σ H De E q => st.go E ?_⟩
  unfold sDrop at q
  cases h1 : f Γ with
  | bad => rw [h1] at q; exact q
  | xc c => rw [h1] at q; exact wish_st E q
  | ok d => rw [h1] at q; exact fun v F1 H1 x1 r => q F1 σ H1 x1.ff (E.grow x1)
theorem sk_pass {pos : Pos} : PSk X p W rk M M (.Pass pos) sNil := ⟨_, ps_pass, fun F0 H0 Γ F σ H De E q => q F σ H (.refl _) E⟩
/-- what is never come to -/
def sBad : SDen := fun _ => .bad
theorem sk_never {st : Stmt} : PSk X p W rk M M1 st sBad := ⟨_, ps_never, fun F0 H0 Γ F σ H De E q => q⟩
end
end L2.Nf

namespace L2.Nf
open PySem PySem.Spec PyProof.Rows

section
variable {X : Cx} {p : Pt} {W : WX} {rk : Kd} {M M1 M2 : List Md} {F0 H0 F H : Hp} {Γ : Gm} {σ : St}
/-! ### x.append(e) -/
def sApp (i : Nat) (e : EDen) : SDen := fun Γ => match Γ[i]? with
  | some (some (.lst xs)) => (e Γ).go fun d => if xs.length < sizeLine then .nx (Γ.set i (some (.lst (xs ++ [d])))) else .bad
  | _ => .bad
theorem own_lst {a : Addr} {ds : List D} (o : Own p F H a (.lst ds)) : ∃ vs, H a = some (.lst vs) ∧ Each (Rep p F) vs ds := by
  cases o with | lst h e => exact ⟨_, h, e⟩
theorem sk_app (i : Nat) {x : Str} {e : Expr} {f : EDen} {apos cpos pos p2 : Pos} (h : PEk X p W M .rep e f) (hm : M[i]? = some .own := by rfl) (hN : X.N[i]? = some x := by rfl) (hv : Vis X.env.scope x := by first | exact Or.inl rfl | exact Or.inr (Or.inl rfl) | exact Or.inr (Or.inr rfl))
    (hd : (x == ("__debug__" : Str)) = false := by decide) (hcd : (x == ("__classdict__" : Str)) = false := by decide)
    (hs0 : swapsWith (.Call (.Attribute (.Name x p2) "append" apos) [e] [] cpos) none pos.line X.env = pure false := by rfl) (hbase : attributeBase (.Name x p2) "append" X.env (eval (.Name x p2) X.env) = eval (.Name x p2) X.env := by rfl)
    (hfew : ((backTo cpos (starEach (e :: []) X.env)).all (fun x => !x.1) && (backToKw cpos (keywordEach [] X.env)).all (fun x => x.1.isSome)
      && decide ((e :: ([] : List Expr)).length + ([] : List Keyword).length + (if ([] : List Keyword).isEmpty then 0 else 1) < 30)) = true := by rfl)
    (hline : (apos.endLine == cpos.line) = true := by rfl) (hs : starEach (e :: []) X.env = (false, eval e X.env) :: starEach [] X.env := by rfl) (hplain : (backTo cpos (starEach [] X.env)).any (·.1) = false := by rfl) :
    PSk X p W rk M M (.Expr (.Call (.Attribute (.Name x p2) "append" apos) [e] [] cpos) pos) (sApp i f) := by
  obtain ⟨t, pt, st⟩ := h
  refine ⟨_, ps_expr (pe_bm PySem.F.plainAttrs_list PySem.F.slot_list_append PySem.F.type_list_append mt_append (pe_var hN hv hd hcd) (pa_cons pt pa_nil hs) hbase hfew hline hs hplain) hs0, fun F0 H0 Γ F σ H De E q => ?_⟩
  obtain ⟨g, s, h1, h2, a, d, rfl, rfl, fz, h0, o⟩ := E.getS hm
  unfold sApp at q
  rw [h1] at q
  cases d <;> try exact q.elim
  rename_i ds
  obtain ⟨vs, hvs, ev⟩ := own_lst o
  refine ⟨.ref a, h2, .inl ⟨rfl, vs, .of hvs⟩, st.go E ?_⟩
  have q : ((f Γ).go fun d => if ds.length < sizeLine then .nx (Γ.set i (some (.lst (ds ++ [d])))) else .bad).post _ _ _ := q
  cases h3 : f Γ with
  | bad => rw [h3] at q; exact q
  | xc c => rw [h3] at q; exact wish_st E q
  | ok d =>
    rw [h3, Ro.go_ok] at q
    intro v F1 H1 x1 r
    by_cases hl : ds.length < sizeLine
    · rw [if_pos hl] at q
      have E1 := E.grow x1
      exact ⟨a, vs, v, rfl, rfl, x1.hh _ _ hvs, by rw [ev.1]; exact hl, q F1 σ _ x1.ff (E1.chg hm h2 (.lst upd_same ((ev.mono fun _ _ r => r.same x1.ff).append (.cons r .nil))))⟩
    · rw [if_neg hl] at q; exact q.elim
/-! ### x[k] = e, a list -/
def sPutL (i : Nat) (k e : EDen) : SDen := fun Γ => (e Γ).go fun d => match Γ[i]? with
  | some (some (.lst xs)) => (k Γ).go fun n => match n with
    | .int n => (match ixN xs.length n with
      | some j => .nx (Γ.set i (some (.lst (xs.set j d))))
      | none => .bad)
    | _ => .bad
  | _ => .bad
theorem sk_putL (i : Nat) {x : Str} {k e : Expr} {fk fe : EDen} {tpos pos p2 : Pos} (hk : PEk X p W M .rep k fk) (he : PEk X p W M .rep e fe) (hm : M[i]? = some .own := by rfl) (hN : X.N[i]? = some x := by rfl) (hv : Vis X.env.scope x := by first | exact Or.inl rfl | exact Or.inr (Or.inl rfl) | exact Or.inr (Or.inr rfl))
    (hd : (x == ("__debug__" : Str)) = false := by decide) (hcd : (x == ("__classdict__" : Str)) = false := by decide)
    (hs : swapsWithSole [.Subscript (.Name x p2) k tpos] e pos.line X.env = pure false := by rfl) (hw : swappedStores [.Subscript (.Name x p2) k tpos] e X.env = pure none := by rfl) (h1 : (assignEach [.Subscript (.Name x p2) k tpos] X.env).map (·.2) = [assign (.Subscript (.Name x p2) k tpos) X.env] := by rfl)
    (ha : ∀ v, assign (.Subscript (.Name x p2) k tpos) X.env v = (do
      let ov ← holding [v] (eval (.Name x p2) X.env)
      let iv ← holding [v, ov] (eval k X.env)
      standAt tpos
      holding [v, ov, iv] (setItem ov iv v)
      release [v, ov, iv] []) := by intro _; rfl) : PSk X p W rk M M (.Assign [.Subscript (.Name x p2) k tpos] e pos) (sPutL i fk fe) := by
  obtain ⟨te, pe, se⟩ := he
  obtain ⟨tk, pk, sk⟩ := hk
  refine ⟨_, ps_asg pe (pg_sub (pe_var hN hv hd hcd) pk set_list ha) hs hw h1, fun F0 H0 Γ F σ H De E q => se.go E ?_⟩
  unfold sPutL at q
  cases h3 : fe Γ with
  | bad => rw [h3] at q; exact q
  | xc c => rw [h3] at q; exact wish_st E q
  | ok d =>
    rw [h3, Ro.go_ok] at q
    intro v F1 H1 x1 r
    have E1 := E.grow x1
    obtain ⟨g, s, g1, g2, a, dl, rfl, rfl, fz, h0, o⟩ := E1.getS hm
    rw [g1] at q
    cases dl <;> try exact q.elim
    rename_i ds
    obtain ⟨vs, hvs, ev⟩ := own_lst o
    refine ⟨.ref a, g2, sk.go E1 ?_⟩
    have q : ((fk Γ).go fun n => match n with | .int n => (match ixN ds.length n with | some j => .nx (Γ.set i (some (.lst (ds.set j d)))) | none => .bad) | _ => .bad).post _ _ _ := q
    cases h4 : fk Γ with
    | bad => rw [h4] at q; exact q
    | xc c => rw [h4] at q; exact wish_st E1 q
    | ok n =>
      rw [h4, Ro.go_ok] at q
      intro v2 F2 H2 x2 r2
      cases r2 <;> try exact q.elim
      rename_i n
      have q : (match ixN ds.length n with | some j => Out.nx (Γ.set i (some (.lst (ds.set j d)))) | none => .bad).post _ _ _ := q
      cases h5 : ixN ds.length n with
      | none => rw [h5] at q; exact q.elim
      | some j =>
        rw [h5] at q
        have E2 := E1.grow x2
        exact ⟨a, vs, n, j, rfl, rfl, x2.hh _ _ hvs, by rw [ev.1]; exact h5, q F2 σ _ (x1.ff.trans x2.ff) (E2.chg hm g2 (.lst upd_same ((ev.mono fun _ _ r => r.same x2.ff).set (r.same x2.ff) j)))⟩
/-! ### x[k] = e, a dict -/
def putD {κ : Type} [DecidableEq κ] (es : List (κ × D)) (k : κ) (d : D) : List (κ × D) := if (es.any fun e => decide (e.1 = k)) = true then es.map (fun e => if e.1 = k then (e.1, d) else e) else es ++ [(k, d)]
def oPut (c k d : D) : Ro D := match c with
  | .dK es => match oKey k with
    | some q => if es.length < sizeLine then .ok (.dK (putD es q d)) else .bad
    | none => .bad
  | .dT es => match oKeys k with
    | some q => if es.length < sizeLine then .ok (.dT (putD es q d)) else .bad
    | none => .bad
  | _ => .bad
def sPutD (i : Nat) (k e : EDen) : SDen := fun Γ => (e Γ).go fun d => match Γ[i]? with
  | some (some c) => if isDict c = true then (k Γ).go fun n => (oPut c n d).go fun c' => .nx (Γ.set i (some c')) else .bad
  | _ => .bad
theorem keys_any {κ : Type} [DecidableEq κ] {α β : Type} : ∀ {kvs : List (κ × α)} {es : List (κ × β)} {k : κ}, kvs.map (·.1) = es.map (·.1) → (kvs.any fun e => decide (e.1 = k)) = es.any fun e => decide (e.1 = k)
  | [], [], _, _ => rfl
  | kv :: kvs, e :: es, k, h => by
    simp only [List.map_cons, List.cons.injEq] at h
    simp only [List.any_cons, h.1, keys_any h.2]
  | [], _ :: _, _, h => absurd h (by simp)
  | _ :: _, [], _, h => absurd h (by simp)
theorem put_rel {κ : Type} [DecidableEq κ] {kvs : List (κ × V)} {es : List (κ × D)} {k : κ} {v : V} {d : D} {R : V → D → Prop} (hk : kvs.map (·.1) = es.map (·.1)) (hi : ∀ (i : Nat) (v : κ × V) (d : κ × D), kvs[i]? = some v → es[i]? = some d → R v.2 d.2) (r : R v d) :
    (putK kvs k v).map (·.1) = (putD es k d).map (·.1) ∧ ∀ (i : Nat) (v' : κ × V) (d' : κ × D), (putK kvs k v)[i]? = some v' → (putD es k d)[i]? = some d' → R v'.2 d'.2 := by
  have hl : kvs.length = es.length := by simpa using congrArg List.length hk
  unfold putK putD
  rw [keys_any hk]
  split
  · refine ⟨?_, fun i v' d' a b => ?_⟩
    · have e1 : (kvs.map fun kv => if kv.1 = k then (kv.1, v) else kv).map (·.1) = kvs.map (·.1) := by
        rw [List.map_map]; refine List.map_congr_left fun x _ => ?_
        show (if x.1 = k then (x.1, v) else x).1 = x.1
        split <;> rfl
      have e2 : (es.map fun kv => if kv.1 = k then (kv.1, d) else kv).map (·.1) = es.map (·.1) := by
        rw [List.map_map]; refine List.map_congr_left fun x _ => ?_
        show (if x.1 = k then (x.1, d) else x).1 = x.1
        split <;> rfl
      rw [e1, e2, hk]
    · rw [List.getElem?_map] at a b
      cases ha : kvs[i]? with
      | none => rw [ha] at a; cases a
      | some x =>
        cases hb : es[i]? with
        | none => rw [hb] at b; cases b
        | some y =>
          rw [ha] at a; rw [hb] at b
          have e : x.1 = y.1 := by
            have := congrArg (fun l => l[i]?) hk
            simpa [ha, hb] using this
          simp only [Option.map_some, Option.some.injEq] at a b
          subst a; subst b
          rw [e]
          split
          · exact r
          · exact hi i x y ha hb
  · refine ⟨by simp [hk], fun i v' d' a b => ?_⟩
    by_cases h : i < kvs.length
    · rw [List.getElem?_append_left h] at a
      rw [List.getElem?_append_left (by omega)] at b
      exact hi i v' d' a b
    · rw [List.getElem?_append_right (by omega)] at a
      rw [List.getElem?_append_right (by omega), ← hl] at b
      cases hj : i - kvs.length with
      | zero => rw [hj] at a b; simp at a b; subst a; subst b; exact r
      | succ j => rw [hj] at a; simp at a
theorem put_keys {κ : Type} [DecidableEq κ] {es : List (κ × D)} {k : κ} {d : D} {P : κ → Prop} (h : ∀ e ∈ es, P e.1) (hk : P k) : ∀ e ∈ putD es k d, P e.1 := by
  unfold putD
  split
  · intro e he
    obtain ⟨x, hx, rfl⟩ := List.mem_map.mp he
    have := h x hx
    split
    · exact this
    · exact this
  · intro e he
    rcases List.mem_append.mp he with he | he
    · exact h e he
    · rw [List.mem_singleton.mp he]; exact hk
theorem keyC_of {v : V} {d : D} {k : Key} (r : Rep p F v d) (h : oKey d = some k) : keyC k = true := by
  cases r <;> try cases h
  · rfl
  · rename_i x hx hl
    exact strC_of hx hl
theorem keysC_of : ∀ {vs : List V} {ds : List D} {ks : List Key}, Each (Rep p F) vs ds → ds.mapM oKey = some ks → keysC ks = true
  | [], [], ks, _, h => by
    simp at h
    subst h; rfl
  | v :: vs, d :: ds, ks, e, h => by
    rw [List.mapM_cons] at h
    cases h1 : oKey d with
    | none => rw [h1] at h; cases h
    | some k =>
      rw [h1] at h
      cases h2 : ds.mapM oKey with
      | none => rw [h2] at h; cases h
      | some r =>
        rw [h2] at h
        cases h
        show (keyC k && keysC r) = true
        rw [keyC_of e.inv.1 h1, keysC_of e.inv.2 h2]
        rfl
  | [], _ :: _, _, e, _ => absurd e.1 (by simp)
  | _ :: _, [], _, e, _ => absurd e.1 (by simp)
theorem put_own {a : Addr} {c k d c' : D} {vk vd : V} (s : Same F H) (o : Own p F H a c) (rk : Rep p F vk k) (rd : Rep p F vd d) (h : oPut c k d = .ok c') : ∃ u, DPut H a vk vd (upd H a u) ∧ Own p F (upd H a u) a c' := by
  cases o with
  | lst _ _ => cases h
  | dK h1 hk hs hi =>
    rename_i kvs es
    cases h2 : oKey k with
    | none => rw [show oPut (.dK es) k d = (match oKey k with | some q => if es.length < sizeLine then .ok (.dK (putD es q d)) else .bad | none => .bad) from rfl, h2] at h; cases h
    | some q =>
      rw [show oPut (.dK es) k d = (match oKey k with | some q => if es.length < sizeLine then .ok (.dK (putD es q d)) else .bad | none => .bad) from rfl, h2] at h
      have hl : kvs.length = es.length := by simpa using congrArg List.length hk
      have h : (if es.length < sizeLine then Ro.ok (D.dK (putD es q d)) else .bad) = .ok c' := h
      by_cases hz : es.length < sizeLine
      · rw [if_pos hz] at h
        cases h
        have e := key_kV (K := []) (H := F) (.inl rk) h2
        subst e
        obtain ⟨p1, p2⟩ := put_rel (R := Rep p F) (k := q) hk hi rd
        exact ⟨_, DPut.k h1 (by omega), .dK upd_same p1 (put_keys (P := fun k => keyC k = true) hs (keyC_of rk h2)) p2⟩
      · rw [if_neg hz] at h; cases h
  | dT h1 hk hs hi =>
    rename_i kvs es
    cases h2 : oKeys k with
    | none => rw [show oPut (.dT es) k d = (match oKeys k with | some q => if es.length < sizeLine then .ok (.dT (putD es q d)) else .bad | none => .bad) from rfl, h2] at h; cases h
    | some q =>
      rw [show oPut (.dT es) k d = (match oKeys k with | some q => if es.length < sizeLine then .ok (.dT (putD es q d)) else .bad | none => .bad) from rfl, h2] at h
      have hl : kvs.length = es.length := by simpa using congrArg List.length hk
      have h : (if es.length < sizeLine then Ro.ok (D.dT (putD es q d)) else .bad) = .ok c' := h
      by_cases hz : es.length < sizeLine
      · rw [if_pos hz] at h
        cases h
        cases k <;> try cases h2
        rename_i ds
        obtain ⟨b, vs, rfl, hb, eb⟩ := t_tup (K := []) (H := F) (.inl rk)
        have e := keys_kV eb h2
        obtain ⟨p1, p2⟩ := put_rel (R := Rep p F) (k := q) hk hi rd
        have kc : keysC q = true := keysC_of eb h2
        exact ⟨_, DPut.t h1 (by rw [← e]; exact s _ _ hb) (by omega), .dT upd_same p1 (put_keys (P := fun k => keysC k = true) hs kc) p2⟩
      · rw [if_neg hz] at h; cases h
theorem nx_put (c k d : D) : NoX (oPut c k d) := by
  unfold oPut
  split
  · split
    · exact nx_ite (nx_ok _) nx_bad
    · exact nx_bad
  · split
    · exact nx_ite (nx_ok _) nx_bad
    · exact nx_bad
  · exact nx_bad
theorem sk_putD (i : Nat) {x : Str} {k e : Expr} {fk fe : EDen} {tpos pos p2 : Pos} (hu : X.A.units + 1 < cLine) (hk : PEk X p W M .rep k fk) (he : PEk X p W M .rep e fe) (hm : M[i]? = some .own := by rfl) (hN : X.N[i]? = some x := by rfl) (hv : Vis X.env.scope x := by first | exact Or.inl rfl | exact Or.inr (Or.inl rfl) | exact Or.inr (Or.inr rfl))
    (hd : (x == ("__debug__" : Str)) = false := by decide) (hcd : (x == ("__classdict__" : Str)) = false := by decide) (hs : swapsWith e (some (.Subscript (.Name x p2) k tpos)) pos.line X.env = pure false := by rfl) : PSk X p W rk M M (.Assign [.Subscript (.Name x p2) k tpos] e pos) (sPutD i fk fe) := by
  obtain ⟨te, pe, se⟩ := he
  obtain ⟨tk, pk, sk⟩ := hk
  refine ⟨_, ps_dput hu (pe_var hN hv hd hcd) pk pe hs, fun F0 H0 Γ F σ H De E q => se.go E ?_⟩
  unfold sPutD at q
  cases h3 : fe Γ with
  | bad => rw [h3] at q; exact q
  | xc c => rw [h3] at q; exact wish_st E q
  | ok d =>
    rw [h3, Ro.go_ok] at q
    intro v F1 H1 x1 r
    have E1 := E.grow x1
    obtain ⟨g, s, g1, g2, a, c, rfl, rfl, fz, h0, o⟩ := E1.getS hm
    rw [g1] at q
    refine ⟨.ref a, g2, sk.go E1 ?_⟩
    have q : (if isDict c = true then (fk Γ).go fun n => (oPut c n d).go fun c' => .nx (Γ.set i (some c')) else .bad).post _ _ _ := q
    by_cases hc : isDict c = true
    · rw [if_pos hc] at q
      cases h4 : fk Γ with
      | bad => rw [h4] at q; exact q
      | xc c => rw [h4] at q; exact wish_st E1 q
      | ok n =>
        rw [h4, Ro.go_ok] at q
        intro v2 F2 H2 x2 r2
        cases h5 : oPut c n d with
        | bad => rw [h5] at q; exact q.elim
        | xc z => exact absurd h5 (nx_put c n d z)
        | ok c' =>
          rw [h5, Ro.go_ok] at q
          have E2 := E1.grow x2
          obtain ⟨u, hp, ho⟩ := put_own (E2.ext.fh) (o.same x2.ff fun _ z => x2.hh _ _ z) r2 (r.same x2.ff) h5
          exact ⟨a, _, rfl, hp, q F2 σ _ (x1.ff.trans x2.ff) (E2.chg hm g2 ho)⟩
    · rw [if_neg hc] at q; exact q.elim
end
end L2.Nf

namespace L2.Nf
open PySem PySem.Spec PyProof.Rows

/-! ### loops -/
/-- only the names that a loop keeps -/
def clr : List Md → Gm → Gm
  | m :: ms, g :: gs => (if m = .any then none else g) :: clr ms gs
  | _, _ => []
def forD (L : List Md) (i : Nat) (b : SDen) : List D → Gm → Out
  | [], Γ => .nx Γ
  | d :: ds, Γ => match b (Γ.set i (some d)) with
    | .nx Γ' => forD L i b ds (clr L Γ')
    | o => o
def sFor (L : List Md) (i : Nat) (l : LDen) (b : SDen) : SDen := fun Γ => (l Γ).go fun ds => forD L i b ds (clr L Γ)
def whileN (L : List Md) (c : TDen) (b : SDen) : Nat → Gm → Out
  | 0, _ => .bad
  | n + 1, Γ => (c Γ).go fun x => if x = true then (match b Γ with
    | .nx Γ' => whileN L c b n (clr L Γ')
    | o => o) else .nx Γ
open Classical in
noncomputable def whileD (L : List Md) (c : TDen) (b : SDen) (Γ : Gm) : Out := if h : ∃ n, whileN L c b n Γ ≠ .bad then whileN L c b (Classical.choose h) Γ else .bad
noncomputable def sWhile (L : List Md) (c : TDen) (b : SDen) : SDen := fun Γ => whileD L c b (clr L Γ)
section
variable {X : Cx} {p : Pt} {W : WX} {rk : Kd} {M M1 M2 L : List Md} {F0 H0 F H : Hp} {Γ : Gm} {σ : St}
theorem clr_len : ∀ {L : List Md} {Γ : Gm}, L.length = Γ.length → (clr L Γ).length = Γ.length
  | [], [], _ => rfl
  | m :: ms, g :: gs, h => by
    show (clr ms gs).length + 1 = gs.length + 1
    rw [clr_len (by simpa using h)]
  | [], _ :: _, h => by simp at h
  | _ :: _, [], h => by simp at h
theorem clr_at : ∀ {L : List Md} {Γ : Gm} {i : Nat} {m : Md}, L[i]? = some m → m ≠ .any → (clr L Γ)[i]? = Γ[i]?
  | m :: ms, g :: gs, 0, x, h, hx => by
    simp at h
    subst h
    show some (if m = .any then none else g) = some g
    rw [if_neg hx]
  | m :: ms, g :: gs, i + 1, x, h, hx => by
    show (clr ms gs)[i]? = gs[i]?
    exact clr_at (by simpa using h) hx
  | m :: ms, [], i, x, h, hx => by simp [clr]
  | [], Γ, i, x, h, hx => by simp at h
theorem env_clr (E : Env X.K p F0 H0 M Γ F σ H) (hw : weakB M L = true) : Env X.K p F0 H0 L (clr L Γ) F σ H := by
  obtain ⟨h1, h2⟩ := weakB_at hw
  refine E.weak h1 (clr_len (by rw [h1, E.lg])) fun i m' hm => ?_
  by_cases hx : m' = .any
  · exact .inl hx
  · obtain ⟨m, a, b⟩ := h2 i m' hm
    exact .inr ⟨m, a, b, clr_at hm hx⟩
theorem sk_for (L : List Md) (i : Nat) {x : Str} {iter : Expr} {body : List Stmt} {l : LDen} {f : SDen} {pos px : Pos} (hc : X.calm = true) (hN : X.N.Nodup) (hp : PassesOwn (model X.prog X.w) X.A X.env X.xe) (hi : PIk X p W M (.Name x px) iter l) (hb : PSsk X p W rk (L.set i .val) M1 body f)
    (hw : weakB M L = true := by rfl) (hw1 : weakB M1 L = true := by rfl) (hx : X.N[i]? = some x := by rfl) (hl : Loc X.env.scope x := by first | exact Or.inl rfl | exact Or.inr rfl) (hs : ∀ x, foldedSetIterable iter X.env x = pure x := by intro _; rfl)
    (hf : X.fn x = true ∨ X.env.scope.names.lookup x = some .local := by first | exact .inl rfl | exact .inr rfl) : PSk X p W rk M L (.For (.Name x px) iter body [] pos) (sFor L i l f) := by
  obtain ⟨wi, pi, si⟩ := hi
  obtain ⟨tb, pb, sb⟩ := hb
  refine ⟨_, ps_for hp hc pi (pg_name hN hx hl hf) pb hs, fun F0 H0 Γ F σ H De E q => si F0 H0 Γ F σ H _ E ?_⟩
  unfold sFor at q
  cases h1 : l Γ with
  | bad => rw [h1] at q; exact q
  | xc c => rw [h1] at q; exact wish_st E q
  | ok ds =>
    rw [h1, Ro.go_ok] at q
    intro J F1 H1 x1 gv
    obtain ⟨hlen, G, Y, w, st, yl⟩ := gv
    have E1 := env_clr (E.grow x1) hw
    refine for_it w (fun k σ2 H2 => ∃ Γ2 F2, Same F1 F2 ∧ Env X.K p F0 H0 L Γ2 F2 σ2 H2 ∧ (forD L i f (ds.drop k) Γ2).post (fun Γ' => ∀ F' σ' H', Same F F' → Env X.K p F0 H0 L Γ' F' σ' H' → De.nx σ' H') (fun d => ∀ v F' H', Ext F0 H0 F' H' → RelK X.K p rk F0 H0 H0 F' H' v d → De.rt v H')
      (fun c => ∀ σ' F' H', Ext F0 H0 F' H' → W (.ref (p.ca c)) none σ' H')) ⟨_, F1, .refl _, E1, q⟩ ?_ ?_ ?_
    · rintro k σ2 H2 hk ⟨Γ2, F2, s2, E2, _⟩
      exact st F2 H2 s2 E2.ext
    · rintro k x σ2 H2 H2' hk ⟨Γ2, F2, s2, E2, q2⟩ y
      obtain ⟨rfl, d, hd, rx⟩ := yl k H2 x H2' y
      have edrop : ds.drop k = d :: ds.drop (k + 1) := by
        rw [List.drop_eq_getElem_cons hk]
        have : ds[k] = d := by simpa [hk] using hd
        rw [this]
      rw [edrop] at q2
      unfold forD at q2
      refine sb F0 H0 _ F2 _ H2' _ (E2.setVal (rx.same s2) i) ?_
      cases h2 : f (Γ2.set i (some d)) with
      | bad => rw [h2] at q2; exact q2
      | xc c => rw [h2] at q2; exact q2
      | rt d => rw [h2] at q2; exact q2
      | nx Γ3 =>
        rw [h2] at q2
        exact fun F3 σ3 H3 s3 E3 => ⟨_, F3, s2.trans s3, env_clr E3 hw1, q2⟩
    · rintro σ2 H2 ⟨Γ2, F2, s2, E2, q2⟩
      rw [List.drop_length] at q2
      exact q2 F2 σ2 H2 (x1.ff.trans s2) E2
theorem sk_while (L : List Md) {c : Expr} {body : List Stmt} {t : TDen} {f : SDen} {pos : Pos} (hp : PassesOwn (model X.prog X.w) X.A X.env X.xe) (hc : PTk X p W L c t) (hb : PSsk X p W rk L M1 body f) (hw : weakB M L = true := by rfl) (hw1 : weakB M1 L = true := by rfl) : PSk X p W rk M L (.While c body [] pos) (sWhile L t f) := by
  obtain ⟨tc, pc, sc⟩ := hc
  obtain ⟨tb, pb, sb⟩ := hb
  refine ⟨_, ps_while hp pc pb, fun F0 H0 Γ F σ H De E q => ?_⟩
  unfold sWhile whileD at q
  split at q
  · rename_i hex
    revert q
    generalize Classical.choose hex = n
    intro q
    refine ⟨fun m σ2 H2 => ∃ Γ2 F2, Same F F2 ∧ Env X.K p F0 H0 L Γ2 F2 σ2 H2 ∧ (whileN L t f m Γ2).post (fun Γ' => ∀ F' σ' H', Same F F' → Env X.K p F0 H0 L Γ' F' σ' H' → De.nx σ' H') (fun d => ∀ v F' H', Ext F0 H0 F' H' → RelK X.K p rk F0 H0 H0 F' H' v d → De.rt v H')
      (fun c => ∀ σ' F' H', Ext F0 H0 F' H' → W (.ref (p.ca c)) none σ' H'), ⟨n, _, F, .refl _, env_clr E hw, q⟩, ?_⟩
    rintro m σ2 H2 ⟨Γ2, F2, s2, E2, q2⟩
    cases m with
    | zero => exact q2.elim
    | succ m =>
      refine sc.go E2 ?_
      unfold whileN at q2
      cases h1 : t Γ2 with
      | bad => rw [h1] at q2; exact q2
      | xc c => rw [h1] at q2; exact wish_st E2 q2
      | ok b =>
        rw [h1, Ro.go_ok] at q2
        intro F3 H3 x3
        have E3 := E2.grow x3
        cases b with
        | false =>
          rw [if_neg Bool.false_ne_true] at q2 ⊢
          exact q2 F3 σ2 H3 (s2.trans x3.ff) E3
        | true =>
          rw [if_pos rfl] at q2 ⊢
          refine ⟨_, fun σ' H' h => ⟨m, Nat.lt_succ_self _, h⟩, sb F0 H0 Γ2 F3 σ2 H3 _ E3 ?_⟩
          cases h2 : f Γ2 with
          | bad => rw [h2] at q2; exact q2
          | xc c => rw [h2] at q2; exact q2
          | rt d => rw [h2] at q2; exact q2
          | nx Γ3 =>
            rw [h2] at q2
            exact fun F4 σ4 H4 s4 E4 => ⟨_, F4, s2.trans (x3.ff.trans s4), env_clr E4 hw1, q2⟩
  · exact q.elim
/-! the loop's equation -/
theorem whileN_up {L : List Md} {c : TDen} {b : SDen} : ∀ {n : Nat} {Γ : Gm}, whileN L c b n Γ ≠ .bad → ∀ m, n ≤ m → whileN L c b m Γ = whileN L c b n Γ
  | 0, Γ, h, m, hm => absurd rfl h
  | n + 1, Γ, h, m, hm => by
    obtain ⟨m, rfl⟩ : ∃ k, m = k + 1 := ⟨m - 1, by omega⟩
    unfold whileN at h ⊢
    cases h1 : c Γ with
    | bad => rfl
    | xc c => rfl
    | ok x =>
      rw [h1, Ro.go_ok] at h
      rw [Ro.go_ok, Ro.go_ok]
      split
      · rename_i hx
        rw [if_pos hx] at h
        cases h2 : b Γ with
        | nx Γ' =>
          rw [h2] at h
          exact whileN_up (n := n) h m (by omega)
        | _ => rfl
      · rfl
theorem whileD_eq (L : List Md) (c : TDen) (b : SDen) (Γ : Gm) : whileD L c b Γ = (c Γ).go fun x => if x = true then (match b Γ with
    | .nx Γ' => whileD L c b (clr L Γ')
    | o => o) else .nx Γ := by
  have up : ∀ (n : Nat) Γ, whileN L c b n Γ ≠ .bad → whileD L c b Γ = whileN L c b n Γ := fun n Γ h => by
    unfold whileD
    rw [dif_pos ⟨n, h⟩]
    have h2 := Classical.choose_spec (⟨n, h⟩ : ∃ n, whileN L c b n Γ ≠ .bad)
    rcases Nat.le_total n (Classical.choose (⟨n, h⟩ : ∃ n, whileN L c b n Γ ≠ .bad)) with h3 | h3
    · exact whileN_up h _ h3
    · exact (whileN_up h2 _ h3).symm
  cases h1 : c Γ with
  | bad =>
    have : ∀ n, whileN L c b n Γ = .bad := fun n => by cases n <;> simp [whileN, h1]
    unfold whileD
    rw [dif_neg (fun ⟨n, h⟩ => h (this n))]
    rfl
  | xc z =>
    rw [up 1 Γ (by simp [whileN, h1])]
    simp [whileN, h1]
  | ok x =>
    rw [Ro.go_ok]
    cases x with
    | false =>
      rw [if_neg Bool.false_ne_true, up 1 Γ (by simp [whileN, h1])]
      simp [whileN, h1]
    | true =>
      rw [if_pos rfl]
      cases h2 : b Γ with
      | bad =>
        have : ∀ n, whileN L c b n Γ = .bad := fun n => by cases n <;> simp [whileN, h1, h2]
        unfold whileD
        rw [dif_neg (fun ⟨n, h⟩ => h (this n))]
      | xc z =>
        rw [up 1 Γ (by simp [whileN, h1, h2])]
        simp [whileN, h1, h2]
      | rt z =>
        rw [up 1 Γ (by simp [whileN, h1, h2])]
        simp [whileN, h1, h2]
      | nx Γ' =>
        show _ = whileD L c b (clr L Γ')
        have e : ∀ n, whileN L c b (n + 1) Γ = whileN L c b n (clr L Γ') := fun n => by simp [whileN, h1, h2]
        by_cases hex : ∃ n, whileN L c b n (clr L Γ') ≠ .bad
        · obtain ⟨n, h⟩ := hex
          rw [up n _ h, up (n + 1) Γ (by rw [e]; exact h), e]
        · unfold whileD
          rw [dif_neg hex, dif_neg (fun ⟨n, h⟩ => hex (by cases n with
            | zero => exact absurd rfl h
            | succ n => exact ⟨n, by rw [← e]; exact h⟩))]
/-! ### raise -/
def sRaise (c : Str) : SDen := fun _ => .xc c
theorem sk_raise {c m : Str} {j : Nat} {pp p2 pos pos2 : Pos} (hc : X.calm = true) (tk : Takes X W) (gC : X.mg c = some (.ref (p.ca c))) (q : PySem.W.excIn X.K (p.ca c) [.type "ValueError", .type "Exception", .type "BaseException", .type "object"] "ValueError.__new__" = true) (kC : PySem.W.keepIn X.K (.ref (p.ca c)) = true)
    (h1 : PySem.W.subIn X.K (.ref (p.ca c)) (.type "BaseException") = some true) (h2 : PySem.W.typeIn X.K (.ref (p.ca c)) = some (.type "type")) (hg : Gl X c := by rfl) (hdb : (c == ("__debug__" : Str)) = false := by decide) :
    PSk X p W rk M M1 (.Raise (some (.Call (.Name c pp) [.Constant (.str m) j p2] [] pos)) none pos2) (sRaise c) :=
  ⟨_, ps_raise hc tk (pmk_own PySem.F.excBase_ValueError q gC kC (raises_own h1 h2) hg hdb), fun F0 H0 Γ F σ H De E q => q σ F H E.ext⟩

/-! ### a def by its body -/
def Gm0 (n : Nat) (ds : List D) : Gm := ds.map some ++ List.replicate (n - ds.length) none
def runD (n : Nat) (rk : Kd) (g : SDen) (ds : List D) : Ro D := match g (Gm0 n ds) with
  | .nx _ => if rk = .rep then .ok .non else .bad
  | .rt d => .ok d
  | .xc c => .xc c
  | .bad => .bad
def Md.arg : Md → Bool
  | .val | .bor | .scr => true
  | _ => false
theorem env0 {K : PySem.W.Frag} {F H : Hp} {n : Nat} {ms : List Md} {vs : List V} {ds : List D} {N : List Str} (hN : N.length = n) (s : Same F H) (l1 : vs.length = ms.length) (l2 : ds.length = ms.length) (hn : ms.length ≤ n) (ha : ms.all Md.arg = true)
    (hh : ∀ (i : Nat) m v d, ms[i]? = some m → vs[i]? = some v → ds[i]? = some d → RelK K p m.ak F H H F H v d) : Env K p F H (ms ++ List.replicate (n - ms.length) .any) (Gm0 n ds) F (start N vs) H := by
  have arg : ∀ (i : Nat) m, ms[i]? = some m → m.arg = true := fun i m h => List.all_eq_true.mp ha m (List.mem_of_getElem? h)
  refine ⟨Ext.refl s, by simp [Gm0, l2], by simp [start, l1, hN], fun i m g s h1 h2 h3 => ?_, fun i j a h1 h2 h3 h4 => ?_⟩
  · by_cases hi : i < ms.length
    · rw [List.getElem?_append_left hi] at h1
      unfold Gm0 at h2
      rw [List.getElem?_append_left (by simp; omega), List.getElem?_map] at h2
      unfold start at h3
      rw [List.getElem?_append_left (by simp; omega), List.getElem?_map] at h3
      cases e1 : ds[i]? with
      | none => rw [e1] at h2; cases h2
      | some d =>
        cases e2 : vs[i]? with
        | none => rw [e2] at h3; cases h3
        | some v =>
          rw [e1] at h2; rw [e2] at h3
          cases h2; cases h3
          have r := hh i m v d h1 e2 e1
          have q := arg i m h1
          cases m <;> first
            | exact absurd q (by decide)
            | exact absurd q Bool.false_ne_true
            | exact ⟨v, d, rfl, rfl, r⟩
    · rw [List.getElem?_append_right (by omega), List.getElem?_replicate] at h1
      split at h1
      · cases h1; trivial
      · cases h1
  · have : ∀ (l : Nat), (ms ++ List.replicate (n - ms.length) Md.any)[l]? ≠ some .own := fun l h => by
      by_cases hi : l < ms.length
      · rw [List.getElem?_append_left hi] at h
        exact absurd (arg l _ h) (by decide)
      · rw [List.getElem?_append_right (by omega), List.getElem?_replicate] at h
        split at h <;> cases h
    exact absurd h1 (this i)
end
/-- a def's wish -/
abbrev WE' (E : XK) : WX := fun c d _ H => E c d H
theorem okD {P : Program} {w : World} {K : PySem.W.Frag} {mg : Str → Option Value} {base : Heap} {p : Pt} {name qual : Str} {st : Stmt} {fa : Addr} {fd : FuncData} {N ps : List Str} {k : Nat} {ms M1 : List Md} {rk : Kd} {g : SDen} (F : Fun K name qual st fa fd) (S : FnScope N ps (defScope st))
    (hbody : ∀ (cdv : Value) (A : Around) (outer : List PySem.Env) (s : Shared) (H : Hp) (E : XK), Room k (A.deeper (envOfC qual (defScope st) s.heap.objs.size fa cdv)) → PSsk (cxOf (L2.CX P w) P w K mg base N qual (defScope st) fa cdv A outer s H E) p (WE' E) rk (ms ++ List.replicate (N.length - ms.length) .any) M1 (defBody st) g)
    (hl : ms.length = ps.length := by rfl) (ha : ms.all Md.arg = true := by rfl) : FnOk P w K mg base (L2.CX P w) (k + 1) fa fd ps (spD K p ms rk (runD N.length rk g)) := by
  have hpl : ps.length ≤ N.length := by have := congrArg List.length S.pre; rw [List.length_take] at this; omega
  refine F.okX S (fun vs H Q E h => ?_) fun cdv A outer s H vs Q E hr h => ?_
  · obtain ⟨_, _, _, l1, _⟩ := h
    exact l1.trans hl
  · obtain ⟨F', ds, hs, l1, l2, hh, q⟩ := h
    obtain ⟨t, pt, st'⟩ := hbody cdv A outer s H E hr
    refine ⟨t, pt, st' F' H (Gm0 N.length ds) F' (start N vs) H _ (env0 rfl hs l1 l2 (by omega) ha hh) ?_⟩
    unfold runD at q
    cases h1 : g (Gm0 N.length ds) with
    | bad => rw [h1] at q; exact q
    | xc c => rw [h1] at q; exact fun σ' F2 H2 x => q F2 H2 x
    | rt d => rw [h1] at q; exact q
    | nx Γ =>
      rw [h1] at q
      intro F2 σ2 H2 s2 E2
      have q : (if rk = .rep then Ro.ok D.non else .bad).post _ _ := q
      by_cases e : rk = .rep
      · rw [if_pos e] at q
        subst e
        exact q .non F2 H2 E2.ext .non
      · rw [if_neg e] at q; exact q.elim
theorem FnD.of {P : Program} {w : World} {K : PySem.W.Frag} {mg : Str → Option Value} {base : Heap} {p : Pt} {name : Str} {fa : Addr} {fd : FuncData} {ps : List Str} {k : Nat} {ms : List Md} {rk : Kd} {f : List D → Ro D} (hm : mg name = some (.ref fa)) (hk : PySem.W.keepIn K (.ref fa) = true) (hb : Binds K fd ps [])
    (ok : FnOk P w K mg base (L2.CX P w) k fa fd ps (spD K p ms rk f)) (hrk : retK rk = true := by rfl) : FnD P w K mg base p name k ms rk f := ⟨hrk, fa, fd, ps, hm, hk, hb, ok⟩
end L2.Nf

namespace L2.Nf
open PySem PySem.Spec PyProof.Rows

/-! ### the top -/
/-- a def of the top, as it stands -/
structure DefAt (K : PySem.W.Frag) (mg : Str → Option Value) (name : Str) (st : Stmt) : Prop where
  ex : ∃ fa fd, mg name = some (.ref fa) ∧ Fun K name name st fa fd
theorem defAt_mk {K : PySem.W.Frag} {h : Heap} {mg : Str → Option Value} {name : Str} {st : Stmt} {f : Addr} {oc : Value} {od an : Option Addr} {osl : Array (Option Value)} {kV doc pm cdv ct : Value} (X : K.In h) (G : h.Ns mainGlobals mg)
    (a : PySem.W.nsIn K mainGlobals name = some (some (.ref f))) (l : K.lookup f = some ⟨oc, od, .func (PySem.W.fnOf name name (defArgs st) (defBody st) (defScope st) .none kV doc pm an cdv ct), osl⟩)
    (c : PySem.W.codeIn K cdv name = true) (k : PySem.W.keepIn K (.ref f) = true) : DefAt K mg name st := ⟨f, _, PySem.W.mg_of X G a, fun_mk l c k⟩
/-- an own exception class -/
structure XAt (K : PySem.W.Frag) (mg : Str → Option Value) (p : Pt) (c : Str) : Prop where
  gC : mg c = some (.ref (p.ca c))
  q : PySem.W.excIn K (p.ca c) [.type "ValueError", .type "Exception", .type "BaseException", .type "object"] "ValueError.__new__" = true
  kC : PySem.W.keepIn K (.ref (p.ca c)) = true
  h1 : PySem.W.subIn K (.ref (p.ca c)) (.type "BaseException") = some true
  h2 : PySem.W.typeIn K (.ref (p.ca c)) = some (.type "type")
/-- the law's own promise: True at every script of at most so many ints -/
def spLaw (K : PySem.W.Frag) : Sp := fun vs H Q _ => ∃ (a : Addr) (ns : List Int), vs = [.ref a] ∧ SqL K H a (ns.map V.int) ∧ ns.length ≤ 63 ∧ ∀ H', Q (.bl true) H'
def encI (ns : List Int) : D := .lst (ns.map D.int)
/-- from the function of data -/
theorem law_fin {P : Program} {w : World} {K : PySem.W.Frag} {mg : Str → Option Value} {base : Heap} {p : Pt} {k : Nat} {f : List D → Ro D} {fa : Addr} {fd : FuncData} {ps : List Str} (ok : FnOk P w K mg base (L2.CX P w) k fa fd ps (spD K p [.scr] .rep f))
    (h : ∀ ns : List Int, ns.length ≤ 63 → f [encI ns] = .ok (.bl true)) : FnOk P w K mg base (L2.CX P w) k fa fd ps (spLaw K) := by
  refine ok.imp fun vs H Q E q => ?_
  obtain ⟨a, ns, rfl, hs, hl, hq⟩ := q
  refine ⟨fun _ => none, [encI ns], (show Same (fun _ => none) H from fun b o z => nomatch z), rfl, rfl, fun i m v d h1 h2 h3 => ?_, ?_⟩
  · match i with
    | 0 =>
      simp at h1 h2 h3
      subst h1; subst h2; subst h3
      refine .inr (.inr ⟨a, ns.map V.int, ns.map D.int, rfl, rfl, hs, by simp, fun j v d a b => ?_⟩)
      rw [List.getElem?_map] at a b
      cases e : ns[j]? with
      | none => rw [e] at a; cases a
      | some n => rw [e] at a b; cases a; cases b; exact .int n
    | i + 1 => simp at h1
  · rw [h ns hl]
    intro v F' H' x r
    cases r
    exact hq H'
theorem law_walk {l : PySem.W.OpenLaw} {q : Program} {loose : List Str} {XP : (Str → Option Value) → Heap → Prop} {YP : World → Heap → Prop} {d : DefRec} {K : Params → PySem.W.Frag} {k : Nat} {x : Str} (hn : l.most = some 63) (hdf : d.params.defaults = []) (hr : Room k callerA)
    (hY : ∀ (w : World) (h : Heap), YP w h → (K w.params).In h)
    (F : ∀ (w : World) (mg : Str → Option Value) (fa : Addr) (h : Heap), (K w.params).In h → h.Ns mainGlobals mg → mg d.name = some (.ref fa) →
      ∃ fd : FuncData, (∀ (s : Shared) (u : Value), BindsTo s fd ⟨[u], []⟩ [(x, u)]) ∧ ∀ base : Heap, (K w.params).In base → base.Ns mainGlobals mg → FnOk l.prog w (K w.params) mg base (L2.CX l.prog w) k fa fd [x] (spLaw (K w.params))) :
    PySem.W.WalkO q loose XP YP l.row.toRowW d [] (fun f vs => PySem.call f vs) :=
  L2.walk_of (n := 63) (k := k) (x := x) (CX := fun w => L2.CX l.prog w) (sp := fun w => spLaw (K w.params)) hn (by decide) hdf hr hY F (fun _ _ a ns hl _ hS => ⟨a, ns, rfl, hS, hl, fun _ => rfl⟩) fun _ _ _ _ _ h => by
    obtain ⟨_, _, _, _, _, _, _, _, _, _, _, _, z⟩ := h
    exact z.elim
end L2.Nf

namespace L2.Nf
open PySem PySem.Spec PyProof.Rows

/-! ### list(d.items()) -/
def oItems : D → Ro D
  | .dK es => .ok (.lst (es.map fun e => .tup [dKey e.1, e.2]))
  | _ => .bad
section
variable {X : Cx} {p : Pt} {W : WX} {M : List Md}
theorem pk_items {kd : Kd} {e : Expr} {f : EDen} {p' apos cpos pos : Pos} (hc : X.calm = true) (he : PEk X p W M kd e f) (hm : X.mg "list" = none) (hg : Gl X "list") (hk : kd.le .rd = true := by decide) (hv : bootBuiltins "list" = some (.type "list") := by rfl) (hbase : attributeBase e "items" X.env (eval e X.env) = eval e X.env := by rfl) (hline : (apos.endLine == cpos.line) = true := by rfl)
    (hs : starEach [.Call (.Attribute e "items" apos) [] [] cpos] X.env = (false, eval (.Call (.Attribute e "items" apos) [] [] cpos) X.env) :: starEach [] X.env := by rfl) :
    PEk X p W M .new (.Call (.Name "list" p') [.Call (.Attribute e "items" apos) [] [] cpos] [] pos) (e1 oItems f) := by
  obtain ⟨te, pe, se⟩ := pk_cast (k' := .rd) he hk
  refine ⟨_, LiI.pe_listItems hc pe hg hm hv hbase hline hs, fun F0 H0 Γ F σ H Q E q => se.go E ?_⟩
  unfold e1 at q
  cases h1 : f Γ with
  | bad => rw [h1] at q; exact q
  | xc c => rw [h1] at q; exact q
  | ok d =>
    rw [h1, Ro.bind_ok] at q
    intro x F1 H1 x1 rx
    have E1 := E.grow x1
    cases d <;> try exact q.elim
    rename_i es
    obtain ⟨a, kvs, rfl, ha, hkk, hs', hi⟩ := t_dK E1.ext.fh (show RdV X.K p F1 H1 x (.dK es) from rx)
    refine ⟨a, kvs, rfl, ha, fun H2 l ts k1 k2 k3 k4 k5 k6 => ?_⟩
    have s1 := E1.ext.fh
    have fnew : ∀ b, H1 b = none → F1 b = none := fun b hb => by
      cases e : F1 b with
      | none => rfl
      | some o => rw [s1 _ _ e] at hb; cases hb
    have sF : Same F1 (frzAll F1 H2 ts) := fun b o e => by
      unfold frzAll
      split
      · exact k1 _ _ (s1 _ _ e)
      · exact e
    have x2 : Ext F1 H1 (frzAll F1 H2 ts) H2 := by
      refine ⟨sF, k1, fun b o e => ?_, fun b o e1 e2 e3 => ?_⟩
      · unfold frzAll at e
        split at e
        · exact e
        · exact k1 _ _ (s1 _ _ e)
      · unfold frzAll
        split
        · rename_i hb; rw [k3 b hb] at e2; cases e2
        · exact e1
    have le : kvs.length = es.length := by simpa using congrArg List.length hkk
    have lt : ts.length = kvs.length := Paired.length k6
    have ea : Each (Rep p (frzAll F1 H2 ts)) (ts.map V.ref) (es.map fun e => .tup [dKey e.1, e.2]) := by
      refine ⟨by simp; omega, fun i v d a1 b1 => ?_⟩
      rw [List.getElem?_map] at a1 b1
      cases e2 : ts[i]? with
      | none => rw [e2] at a1; cases a1
      | some t =>
        obtain ⟨kv, e3, e4⟩ := LiI.paired_get k6 e2
        have hl : i < es.length := by rw [← le]; exact (List.getElem?_eq_some_iff.mp e3).1
        have e5 : es[i]? = some es[i] := by simp [hl]
        rw [e2] at a1; rw [e5] at b1
        cases a1; cases b1
        have e6 : kv.1 = es[i].1 := by
          have := congrArg (fun l => l[i]?) hkk
          simp only [List.getElem?_map, e3, e5, Option.map_some, Option.some.injEq] at this
          exact this
        refine .tup (vs := [kV kv.1, kv.2]) ?_ (by simp) fun j v d a2 b2 => ?_
        · show (if t ∈ ts then H2 t else F1 t) = _
          rw [if_pos (List.mem_of_getElem? e2)]
          exact e4
        · match j with
          | 0 =>
            simp at a2 b2
            subst a2; subst b2
            rw [e6]
            exact key_repd (hs' _ (List.mem_of_getElem? e5))
          | 1 =>
            simp at a2 b2
            subst a2; subst b2
            exact (hi i kv es[i] e3 e5).same sF
          | j + 2 => simp at a2
    refine q _ _ _ (x1.trans x2) ⟨l, rfl, ?_, ?_, .lst k5 ea⟩
    · show (if l ∈ ts then H2 l else F1 l) = none
      rw [if_neg k4]
      exact fnew l k2
    · cases e : H l with
      | none => rfl
      | some o => rw [x1.hh _ _ e] at k2; cases k2
end
end L2.Nf

namespace L2.Nf
open PySem PySem.Spec PyProof.Rows

/-! ### x = d.setdefault(k, e) -/
def sSetd (i o : Nat) (k e : EDen) : SDen := fun Γ => match Γ[o]? with
  | some (some (.dK es)) => (k Γ).go fun n => (e Γ).go fun d => match oKey n with
    | some q => if es.length < sizeLine then (match look es q with
      | some v => .nx (Γ.set i (some v))
      | none => .nx ((Γ.set o (some (.dK (putD es q d)))).set i (some d))) else .bad
    | none => .bad
  | _ => .bad
section
variable {X : Cx} {p : Pt} {W : WX} {rk : Kd} {M : List Md}
theorem sk_setd (i o : Nat) {x z : Str} {k e : Expr} {fk fe : EDen} {pz p2 apos cpos pos : Pos} (hk : PEk X p W M .rep k fk) (he : PEk X p W M .rep e fe) (hN : X.N.Nodup) (m : M2 X (.Name x p2) "setdefault" apos k e cpos) (hm : M[o]? = some .own := by rfl) (hNo : X.N[o]? = some x := by rfl) (hi : X.N[i]? = some z := by rfl) (hz : Loc X.env.scope z := by first | exact Or.inl rfl | exact Or.inr rfl) (hv : Vis X.env.scope x := by first | exact Or.inl rfl | exact Or.inr (Or.inl rfl) | exact Or.inr (Or.inr rfl))
    (hd : (x == ("__debug__" : Str)) = false := by decide) (hcd : (x == ("__classdict__" : Str)) = false := by decide) (hs : swapsWith (.Call (.Attribute (.Name x p2) "setdefault" apos) [k, e] [] cpos) (some (.Name z pz)) pos.line X.env = pure false := by rfl)
    (hf : X.fn z = true ∨ X.env.scope.names.lookup z = some .local := by first | exact .inl rfl | exact .inr rfl) : PSk X p W rk M (M.set i .val) (.Assign [.Name z pz] (.Call (.Attribute (.Name x p2) "setdefault" apos) [k, e] [] cpos) pos) (sSetd i o fk fe) := by
  obtain ⟨tk, pk, sk⟩ := hk
  obtain ⟨te, pe, se⟩ := he
  refine ⟨_, ps_set hN hi hz (pe_dsetd (pe_var hNo hv hd hcd) pk pe m) hs hf, fun F0 H0 Γ F σ H De E q => ?_⟩
  obtain ⟨g, s, g1, g2, a, c, rfl, rfl, fz, h0, ow⟩ := E.getS hm
  unfold sSetd at q
  rw [g1] at q
  cases ow with
  | lst _ _ => exact q.elim
  | dT _ _ _ _ => exact q.elim
  | @dK kvs es h1 hk hs1 hi1 =>
    have q : ((fk Γ).go fun n => (fe Γ).go fun d => match oKey n with
      | some q => if es.length < sizeLine then (match look es q with
        | some v => .nx (Γ.set i (some v))
        | none => .nx ((Γ.set o (some (.dK (putD es q d)))).set i (some d))) else .bad
      | none => .bad : Out).post _ _ _ := q
    refine ⟨.ref a, g2, a, rfl, .inl ⟨kvs, .inl h1⟩, sk.go E ?_⟩
    cases h3 : fk Γ with
    | bad => rw [h3] at q; exact q
    | xc c => rw [h3] at q; exact wish_st E q
    | ok n =>
      rw [h3, Ro.go_ok] at q
      intro y F1 H1 x1 ry
      have E1 := E.grow x1
      refine se.go E1 ?_
      cases h4 : fe Γ with
      | bad => rw [h4] at q; exact q
      | xc c => rw [h4] at q; exact wish_st E1 q
      | ok d =>
        rw [h4, Ro.go_ok] at q
        intro w F2 H2 x2 rw'
        have E2 := E1.grow x2
        cases h5 : oKey n with
        | none => rw [h5] at q; exact q.elim
        | some key =>
          rw [h5] at q
          have q : (if es.length < sizeLine then (match look es key with
            | some v => .nx (Γ.set i (some v))
            | none => .nx ((Γ.set o (some (.dK (putD es key d)))).set i (some d))) else .bad : Out).post _ _ _ := q
          by_cases hz : es.length < sizeLine
          · rw [if_pos hz] at q
            have hl : kvs.length = es.length := by simpa using congrArg List.length hk
            have h12 := x2.hh _ _ (x1.hh _ _ h1)
            have s2 : Same F F2 := x1.ff.trans x2.ff
            have hi2 : ∀ (i : Nat) (v : Key × V) (d : Key × D), kvs[i]? = some v → es[i]? = some d → Rep p F2 v.2 d.2 := fun i v d a b => (hi1 i v d a b).same s2
            refine ⟨kvs, key, h12, key_kV (K := []) (H := F) (.inl ry) h5, by omega, fun v hv => ?_, fun hn => ?_⟩
            · rcases look_val (k := key) hk with ⟨_, l2⟩ | ⟨j, e', kv, l1, l2, l3, l4⟩
              · rw [hv] at l2; cases l2
              · rw [l3] at q
                rw [hv] at l4; cases l4
                exact q F2 _ H2 s2 (E2.setVal (hi2 j kv e' l2 l1) i)
            · rcases look_val (k := key) hk with ⟨l1, l2⟩ | ⟨j, e', kv, l1, l2, l3, l4⟩
              · rw [l1] at q
                obtain ⟨p1, p2⟩ := put_rel (R := Rep p F2) (k := key) hk hi2 rw'
                have ho : Own p F2 (upd H2 a (.dK (putK kvs key w))) a (.dK (putD es key d)) := .dK upd_same p1 (put_keys (P := fun k => keyC k = true) hs1 (keyC_of ry h5)) p2
                exact q F2 _ _ s2 ((E2.chg hm g2 ho).setVal rw' i)
              · rw [hn] at l4; cases l4
          · rw [if_neg hz] at q; exact q.elim
end
end L2.Nf

namespace L2.Nf
open PySem PySem.Spec PyProof.Rows

/-! ### one dict is another: texts at texts -/
def eqKC (es es' : List (Key × D)) : Prop := es = es' ∧ (es.map (·.1)).Nodup ∧ ∀ e ∈ es, isS e.2 = true
noncomputable instance (es es' : List (Key × D)) : Decidable (eqKC es es') := Classical.propDecidable _
noncomputable def oEqK : D → D → Ro D
  | .dK es, .dK es' => if eqKC es es' then .ok (.bl true) else .bad
  | _, _ => .bad
theorem nx_eqK (d e : D) : NoX (oEqK d e) := by
  unfold oEqK
  split
  · exact nx_ite (nx_ok _) nx_bad
  · exact nx_bad
theorem valV_at {kvs : List (Key × V)} : (kvs.map (·.1)).Nodup → ∀ (i : Nat) kv, kvs[i]? = some kv → valV kvs kv.1 = some kv.2 := by
  induction kvs with
  | nil => intro _ i kv h; simp at h
  | cons a r ih =>
    intro hn i kv h
    rw [List.map_cons, List.nodup_cons] at hn
    cases i with
    | zero => simp at h; subst h; simp [valV]
    | succ i =>
      have h' : r[i]? = some kv := by simpa using h
      have hne : ¬ a.1 = kv.1 := fun z => hn.1 (z ▸ List.mem_map.mpr ⟨kv, List.mem_of_getElem? h', rfl⟩)
      have := ih hn.2 i kv h'
      unfold valV at this ⊢
      simp [hne, this]
section
variable {X : Cx} {p : Pt}
theorem o2_eqK : Op2 X p .rd .rd .rep rEqDA oEqK := by
  intro F0 H0 F H x y dx dy Q f0 rx ry q
  cases dx <;> try exact q.elim
  cases dy <;> try exact q.elim
  rename_i es es'
  obtain ⟨⟨rfl, hn, hs⟩, q2⟩ := Ro.post_ite (show (oEqK (.dK es) (.dK es')).post _ _ from q)
  obtain ⟨a, ks, rfl, ha, hk, _, hi⟩ := t_dK f0.fh (show RdV X.K p F H x (.dK es) from rx)
  obtain ⟨b, ls, rfl, hb, hk', _, hi'⟩ := t_dK f0.fh (show RdV X.K p F H y (.dK es) from ry)
  have l1 : ks.length = es.length := by simpa using congrArg List.length hk
  have l2 : ls.length = es.length := by simpa using congrArg List.length hk'
  refine ⟨a, b, ks, ls, rfl, rfl, ha, hb, by omega, fun kv hkv => ?_, q2 _ F H (Ext.refl f0.fh) (.bl _)⟩
  obtain ⟨i, hi0⟩ := List.mem_iff_getElem?.mp hkv
  have hlt : i < es.length := by rw [← l1]; exact (List.getElem?_eq_some_iff.mp hi0).1
  have e0 : es[i]? = some es[i] := by simp [hlt]
  have e1 : ls[i]? = some ls[i] := by simp [l2, hlt]
  obtain ⟨z, hz⟩ := isS_cases (hs _ (List.mem_of_getElem? e0))
  have r1 := hi i kv es[i] hi0 e0
  have r2 := hi' i ls[i] es[i] e1 e0
  rw [hz] at r1 r2
  have v1 := (t_str (K := []) (H := F) (.inl r1)).1
  have v2 := (t_str (K := []) (H := F) (.inl r2)).1
  have k1 : kv.1 = es[i].1 := by
    have := congrArg (fun l => l[i]?) hk
    simp only [List.getElem?_map, hi0, e0, Option.map_some, Option.some.injEq] at this
    exact this
  have k2 : ls[i].1 = es[i].1 := by
    have := congrArg (fun l => l[i]?) hk'
    simp only [List.getElem?_map, e1, e0, Option.map_some, Option.some.injEq] at this
    exact this
  have := valV_at (hk'.symm ▸ hn) i ls[i] e1
  refine ⟨?_, by rw [v1]; rfl⟩
  rw [k1, ← k2, this, v1, v2]
end
/-! ### a text or a number at the top -/
def gstr (v : Value) (x : Str) : Bool := match v with
  | .str y _ => decide (y = x)
  | _ => false
def gint (v : Value) (i : Int) : Bool := match v with
  | .int j _ => decide (j = i)
  | _ => false
theorem gstr_mk {K : PySem.W.Frag} {h : Heap} {mg : Str → Option Value} {n : Str} {v : Value} {x : Str} (X : K.In h) (G : h.Ns mainGlobals mg) (a : PySem.W.nsIn K mainGlobals n = some (some v)) (e : gstr v x = true) : ∃ t, mg n = some (.str x t) := by
  have := PySem.W.mg_of X G a
  cases v <;> try cases e
  rename_i y t
  have e2 : y = x := of_decide_eq_true e
  exact ⟨t, e2 ▸ this⟩
theorem gint_mk {K : PySem.W.Frag} {h : Heap} {mg : Str → Option Value} {n : Str} {v : Value} {i : Int} (X : K.In h) (G : h.Ns mainGlobals mg) (a : PySem.W.nsIn K mainGlobals n = some (some v)) (e : gint v i = true) : ∃ t, mg n = some (.int i t) := by
  have := PySem.W.mg_of X G a
  cases v <;> try cases e
  rename_i y t
  have e2 : y = i := of_decide_eq_true e
  exact ⟨t, e2 ▸ this⟩
end L2.Nf

namespace L2.Nf
open PySem PySem.Spec PyProof.Rows

/-! ### the one class whose instances are data: fields read, a method called -/
/-- what must be known of the class at p.C -/
structure VdC (K : PySem.W.Frag) (p : Pt) : Prop where
  cls : Cls K p.C
  n0 : NoAttr K p.C "filled"
  n1 : NoAttr K p.C "story"
  n2 : NoAttr K p.C "left"
  n3 : NoAttr K p.C "words"
def oFld (i : Nat) : D → Ro D
  | .obj ds => match ds[i]? with
    | some d => .ok d
    | none => .bad
  | _ => .bad
theorem lookup_at {fs : List (Str × V)} (hk : fs.map (·.1) = vdNames) {i : Nat} {f : Str} (hf : vdNames[i]? = some f) : ∃ v, fs[i]? = some (f, v) ∧ fs.lookup f = some v := by
  match fs, hk with
  | [(a, x), (b, y), (c, z), (d, u)], hk =>
    simp only [List.map_cons, List.map_nil, vdNames, List.cons.injEq, and_true] at hk
    obtain ⟨rfl, rfl, rfl, rfl⟩ := hk
    match i with
    | 0 => cases hf; exact ⟨x, rfl, rfl⟩
    | 1 => cases hf; exact ⟨y, rfl, rfl⟩
    | 2 => cases hf; exact ⟨z, rfl, rfl⟩
    | 3 => cases hf; exact ⟨u, rfl, rfl⟩
    | i + 4 => simp [vdNames] at hf
section
variable {X : Cx} {p : Pt} {W : WX} {M : List Md}
theorem pk_fld (i : Nat) {f : Str} {e : Expr} {a : EDen} {pos : Pos} (c : Cls X.K p.C) (n : NoAttr X.K p.C f) (ha : PEk X p W M .rep e a) (hf : vdNames[i]? = some f := by rfl) (hb : attributeBase e f X.env (eval e X.env) = eval e X.env := by rfl) : PEk X p W M .rep (.Attribute e f pos) (e1 (oFld i) a) := by
  obtain ⟨te, pe, se⟩ := ha
  refine ⟨_, pe_fld pe hb, fun F0 H0 Γ F σ H Q E q => se.go E ?_⟩
  unfold e1 at q
  cases h1 : a Γ with
  | bad => rw [h1] at q; exact q
  | xc c => rw [h1] at q; exact q
  | ok d =>
    rw [h1, Ro.bind_ok] at q
    intro x F1 H1 x1 rx
    have E1 := E.grow x1
    have rx : Rep p F1 x d := rx
    cases rx <;> try exact q.elim
    rename_i b dx fs ds h hk hl hi
    obtain ⟨v, l1, l2⟩ := lookup_at hk hf
    have hlt : i < ds.length := by rw [← hl]; exact (List.getElem?_eq_some_iff.mp l1).1
    have e0 : ds[i]? = some ds[i] := by simp [hlt]
    have q : (match ds[i]? with | some d => Ro.ok d | none => .bad : Ro D).post _ _ := q
    rw [e0] at q
    exact ⟨b, p.C, dx, fs, v, rfl, E1.ext.fh _ _ h, c, n, l2, q v F1 H1 x1 (hi i (f, v) _ l1 e0)⟩
def isObj : D → Bool
  | .obj _ => true
  | _ => false
def eM (op : List D → Ro D) (a : EDen) (as : ADen) : EDen := fun Γ => (a Γ).bind fun d => if isObj d = true then (as Γ).bind fun ds => noX (op (d :: ds)) else .bad
theorem lookup_no {m : Str} : ∀ {fs : List (Str × V)}, m ∉ fs.map (·.1) → fs.lookup m = none
  | [], _ => rfl
  | (k, v) :: fs, h => by
    simp only [List.map_cons, List.mem_cons, not_or] at h
    rw [List.lookup_cons]
    have : (m == k) = false := by
      rw [beq_eq_false_iff_ne]; exact h.1
    rw [this]
    exact lookup_no h.2
theorem pass_none : Passes (L2.CX X.prog X.w) X (fun _ _ _ => False) := by
  intro pins σ H s e s' I h
  obtain ⟨_, _, _, _, _, _, _, _, _, _, _, _, z⟩ := h
  exact z.elim
/-- o.m(..) of an instance of the class -/
theorem pk_meth {ms : List Md} {rk : Kd} {f : List D → Ro D} {k : Nat} {m : Str} {fa : Addr} {fd : FuncData} {ps : List Str} {o e : Expr} {es : List Expr} {a : EDen} {as : ADen} {pos apos : Pos} {pl : Sem Bool} (c : Cls X.K p.C) (hm : Meth X.K p.C m fa) (hrk : retK rk = true)
    (F : FnOk X.prog X.w X.K X.mg X.base (L2.CX X.prog X.w) k fa fd ps (spD X.K p (.val :: ms) rk f)) (hr : Room k X.A) (hb : Binds X.K fd ps []) (ho : PEk X p W M .rep o a) (ha : PAk X p W M (ms.map Md.ak) (e :: es) as) (hmn : m ∉ vdNames)
    (hst : starEach (e :: es) X.env = (false, eval e X.env) :: starEach es X.env := by rfl) (hpl : (backTo pos (starEach es X.env)).any (·.1) = false := by rfl)
    (ht : eval (.Call (.Attribute o m apos) (e :: es) [] pos) X.env = (do
      let ov ← eval o X.env
      standAt apos.atName
      let (f, first) ← holding [ov] (getMethod ov m pl)
      callWith pos f first (backTo pos (starEach (e :: es) X.env)) (backToKw pos (keywordEach [] X.env))) := by rfl) :
    PEk X p W M rk (.Call (.Attribute o m apos) (e :: es) [] pos) (eM f a as) := by
  obtain ⟨te, pe, se⟩ := ho
  obtain ⟨ta, pa, sa⟩ := ha
  refine ⟨_, pe_meth (pl := pl) pe c hm F hr hb (.nil) pass_none pa hst hpl ht, fun F0 H0 Γ F' σ H Q E q => se.go E ?_⟩
  unfold eM at q
  cases h1 : a Γ with
  | bad => rw [h1] at q; exact q
  | xc c => rw [h1] at q; exact q
  | ok d =>
    rw [h1, Ro.bind_ok] at q
    intro x F1 H1 x1 rx
    have E1 := E.grow x1
    have rx : Rep p F1 x d := rx
    by_cases hob : isObj d = true
    case neg => rw [if_neg hob] at q; exact q.elim
    rw [if_pos hob] at q
    cases rx <;> try (cases hob; done)
    rename_i b dx fs ds h hk hl hi
    refine ⟨b, dx, fs, rfl, E1.ext.fh _ _ h, lookup_no (by rw [hk]; exact hmn), sa F0 H0 Γ F1 σ H1 _ E1 ?_⟩
    cases h2 : as Γ with
    | bad => rw [h2] at q; exact q
    | xc c => rw [h2] at q; exact wish_on x1 q
    | ok es' =>
      rw [h2, Ro.bind_ok] at q
      intro vs F2 H2 x2 l1 l2 hh
      rw [List.length_map] at l1 l2
      refine ⟨F2, .obj ds :: es', x2.fh, by simp [l1], by simp [l2], fun i m' v d' a1 b1 c1 => ?_, ?_⟩
      · match i with
        | 0 =>
          simp at a1 b1 c1
          subst a1; subst b1; subst c1
          exact (Rep.obj h hk hl hi).same x2.ff
        | i + 1 =>
          have r := hh i m'.ak v d' (by rw [List.getElem?_map]; simp at a1; rw [a1]; rfl) (by simpa using b1) (by simpa using c1)
          have a1' : ms[i]? = some m' := by simpa using a1
          cases m' <;> exact r
      · simp only [List.append_nil]
        cases h3 : f (.obj ds :: es') with
        | bad => rw [h3] at q; exact q.elim
        | xc c => rw [h3] at q; exact q.elim
        | ok d' =>
          rw [h3] at q
          intro v F3 H3 x3 r
          refine q v F3 H3 ((x1.trans x2).trans x3) ?_
          rcases retK_cases hrk with rfl | rfl
          · exact r
          · exact RelK.from (K := X.K) (k := .new) (F0 := F0) (H0 := H0) (x1.trans x2).hh r
end
end L2.Nf

namespace L2.Nf
open PySem PySem.Spec PyProof.Rows

/-! ### the class's __init__ -/
def foldR (f : D → D → Ro D) : D → List D → Ro D
  | e, [] => .ok e
  | e, d :: ds => (f e d).bind fun e' => foldR f e' ds
def stepY (es d : D) : Ro D := (oIx d (.int 0)).bind fun x => (oEq x (.str "yes")).bind fun b => match b with
  | .bl true => (oIx d (.int 1)).bind fun k => oPut es k (.str "yes")
  | .bl false => .ok es
  | _ => .bad
def stepO (es d : D) : Ro D := oPut es d (.str "open")
def oVer : List D → Ro D
  | [f, s, l] => noX ((dItems s).bind fun ss => (foldR stepY (.dT []) ss).bind fun e1 => (dItems l).bind fun ls => (foldR stepO e1 ls).bind fun e2 => .ok (.obj [f, s, l, e2]))
  | _ => .bad
section
variable {K : PySem.W.Frag} {p : Pt} {M : List Md} {Γ : Gm} {F0 H0 F H : Hp} {σ : St}
/-- an object that no name owns is changed -/
theorem Env.off (E : Env K p F0 H0 M Γ F σ H) {a : Addr} {u : HO} (h0 : H0 a = none) (f : F a = none) (no : ∀ i : Nat, M[i]? ≠ some .own) : Env K p F0 H0 M Γ F σ (upd H a u) := by
  have fne : ∀ b x, F b = some x → b ≠ a := fun b x h z => by subst z; rw [f] at h; cases h
  have hne : ∀ b x, H0 b = some x → b ≠ a := fun b x h z => by subst z; rw [h0] at h; cases h
  refine ⟨⟨E.ext.ff, fun b x h => by rw [upd_ne (hne b x h)]; exact E.ext.hh _ _ h, fun b x h => by rw [upd_ne (fne b x h)]; exact E.ext.fh _ _ h, E.ext.nw⟩, E.lg, E.ls, fun i m g s h1 h2 h3 => ?_, E.apart⟩
  have q := E.slot i m g s h1 h2 h3
  cases m with
  | own => exact absurd h1 (no i)
  | any => trivial
  | val => exact q
  | bor => exact q
  | scr => exact q
  | duo c a b => exact q
end
/-- the promise: a new instance gets its fields -/
def spInit (K : PySem.W.Frag) (p : Pt) : Sp := fun vs H Q E => ∃ F H1 x dx v1 v2 v3 d1 d2 d3, Same F H1 ∧ vs = [.ref x, v1, v2, v3] ∧ H = upd (upd H1 dx (.own x)) x (.ins p.C dx []) ∧ H1 x = none ∧ H1 dx = none ∧ dx ≠ x ∧ Rep p F v1 d1 ∧ Rep p F v2 d2 ∧ Rep p F v3 d3 ∧
  (oVer [d1, d2, d3]).post (fun d => ∀ F' H', Ext F H1 F' H' → Rep p F' (.ref x) d → Q .non H') (fun _ => False)
abbrev MI : List Md := [.any, .val, .val, .val, .any, .any]
/-- how things stand in the loops -/
structure InitSt (K : PySem.W.Frag) (p : Pt) (F H1 : Hp) (x dx : Addr) (d1 d2 d3 es : D) (F' : Hp) (σ : St) (H : Hp) : Prop where
  env : Env K p F H1 MI [none, some d1, some d2, some d3, none, none] F' σ H
  self : σ[0]? = some (some (.ref x))
  st : ∃ v1 v2 v3 aw, H x = some (.ins p.C dx [("filled", v1), ("story", v2), ("left", v3), ("words", .ref aw)]) ∧ Rep p F' v1 d1 ∧ Rep p F' v2 d2 ∧ Rep p F' v3 d3 ∧ F' x = none ∧ F' aw = none ∧ H1 aw = none ∧ aw ≠ x ∧ Own p F' H aw es
theorem no_own : ∀ i : Nat, MI[i]? ≠ some .own := by
  intro i
  match i with
  | 0 | 1 | 2 | 3 | 4 | 5 => simp [MI]
  | i + 6 => simp [MI]
theorem no_tup {C dx : Addr} {fs : List (Str × V)} : ∀ vs, HO.ins C dx fs ≠ .tup vs := fun _ z => by cases z
section
variable {K : PySem.W.Frag} {p : Pt} {F H1 : Hp} {x dx : Addr} {d1 d2 d3 es : D} {F' H F2 H2 : Hp} {σ : St}
theorem InitSt.grow (S : InitSt K p F H1 x dx d1 d2 d3 es F' σ H) (e : Ext F' H F2 H2) : InitSt K p F H1 x dx d1 d2 d3 es F2 σ H2 := by
  obtain ⟨v1, v2, v3, aw, h1, r1, r2, r3, fx, fa, ha, ne, o⟩ := S.st
  obtain ⟨u, hu, nt⟩ := o.obj
  exact ⟨S.env.grow e, S.self, v1, v2, v3, aw, e.hh _ _ h1, r1.same e.ff, r2.same e.ff, r3.same e.ff, e.nw x _ fx h1 no_tup, e.nw aw u fa hu nt, ha, ne, o.same e.ff fun _ z => e.hh _ _ z⟩
theorem InitSt.put (S : InitSt K p F H1 x dx d1 d2 d3 es F' σ H) (hx : H1 x = none) {vk vd : V} {k d es' : D} (rk : Rep p F' vk k) (rd : Rep p F' vd d) (h : oPut es k d = .ok es') :
    ∃ a fs u, H x = some (.ins p.C dx fs) ∧ fs.lookup ("words" : Str) = some (V.ref a) ∧ DPut H a vk vd (upd H a u) ∧ InitSt K p F H1 x dx d1 d2 d3 es' F' σ (upd H a u) := by
  obtain ⟨v1, v2, v3, aw, h1, r1, r2, r3, fx, fa, ha, ne, o⟩ := S.st
  obtain ⟨u, hp, ho⟩ := put_own S.env.ext.fh o rk rd h
  exact ⟨aw, _, u, h1, rfl, hp, S.env.off ha fa no_own, S.self, v1, v2, v3, aw, by rw [upd_ne (Ne.symm ne)]; exact h1, r1, r2, r3, fx, fa, ha, ne, ho⟩
/-- at the end: the instance and its dict are frozen -/
theorem InitSt.fin (S : InitSt K p F H1 x dx d1 d2 d3 es F' σ H) (hx : H1 x = none) : ∃ F2, Ext F H1 F2 H ∧ Rep p F2 (.ref x) (.obj [d1, d2, d3, es]) := by
  obtain ⟨v1, v2, v3, aw, h1, r1, r2, r3, fx, fa, ha, ne, o⟩ := S.st
  obtain ⟨u, hu, nt⟩ := o.obj
  have e1 := S.env.ext.frz hu (.inl fa) (.inl ha)
  have fx1 : upd F' aw u x = none := by rw [upd_ne (Ne.symm ne)]; exact fx
  have e2 := e1.frz h1 (.inl fx1) (.inl hx)
  have s1 : Same F' (upd F' aw u) := same_frz (.inl fa)
  have s2 : Same (upd F' aw u) (upd (upd F' aw u) x (.ins p.C dx [("filled", v1), ("story", v2), ("left", v3), ("words", .ref aw)])) := same_frz (.inl fx1)
  refine ⟨_, e2, .obj (dx := dx) upd_same rfl rfl fun i v d a b => ?_⟩
  have s12 := s1.trans s2
  match i with
  | 0 => simp at a b; subst a; subst b; exact r1.same s12
  | 1 => simp at a b; subst a; subst b; exact r2.same s12
  | 2 => simp at a b; subst a; subst b; exact r3.same s12
  | 3 =>
    simp at a b; subst a; subst b
    refine (o.rep (F' := upd F' aw u) s1 fun z hz => ?_).same s2
    rw [hu] at hz; cases hz
    exact upd_same
  | i + 4 => simp at a
end
end L2.Nf

namespace L2.Nf
open PySem PySem.Spec PyProof.Rows

section
variable {X : Cx} {p : Pt} {W : WX} {M : List Md} {F0 H0 F H : Hp} {Γ : Gm} {σ : St}
theorem SE.okD {k : Kd} {t : TE} {f : EDen} {d : D} {Q : VK} (h : SE X p W M k t f) (E : Env X.K p F0 H0 M Γ F σ H) (hf : f Γ = .ok d) (q : ∀ v F' H', Ext F H F' H' → RelK X.K p k F0 H0 H F' H' v d → Q v H') : t σ H Q :=
  h.go E (by rw [hf]; exact q)
theorem ok_bind {α β : Type} {r : Ro α} {f : α → Ro β} {b : β} (h : r.bind f = .ok b) : ∃ a, r = .ok a ∧ f a = .ok b := by
  cases r with
  | ok a => exact ⟨a, rfl, h⟩
  | xc c => cases h
  | bad => cases h
theorem putF_len (f : Str) (v : V) : ∀ fs : List (Str × V), (putF f v fs).length ≤ fs.length + 1
  | [] => Nat.le_refl _
  | (g, x) :: r => by
    unfold putF
    split
    · simp
    · have := putF_len f v r
      simp; omega
/-- self.f = e -/
theorem fld_go {f : Str} {x dx : Addr} {fs : List (Str × V)} {te : TE} {e : EDen} {d : D} {De : Ends} (c : Cls X.K p.C) (n : NoAttr X.K p.C f) (se : SE X p W MI .rep te e) (E : Env X.K p F0 H0 MI Γ F σ H) (he : e Γ = .ok d) (hx0 : H0 x = none) (hs : σ[0]? = some (some (.ref x)))
    (hx : H x = some (.ins p.C dx fs)) (fx : F x = none) (hl : fs.length < 1000)
    (h : ∀ v F' H', Same F F' → Env X.K p F0 H0 MI Γ F' σ H' → H' x = some (.ins p.C dx (putF f v fs)) → F' x = none → Rep p F' v d → De.nx σ H') : sFld X.K (tVar 0) te f De σ H := by
  refine se.okD E he fun v F1 H1 x1 r => ⟨.ref x, hs, x, p.C, dx, fs, rfl, x1.hh _ _ hx, c, n, hl, ?_⟩
  have fx1 := x1.nw x _ fx hx no_tup
  exact h v F1 _ x1.ff ((E.grow x1).off hx0 fx1 no_own) upd_same fx1 r
theorem init_go {wi1 wi2 : TI} {te1 te2 te3 ted tk1 tv1 tk2 tv2 : TE} {tc : TT} {x dx : Addr} {d1 d2 d3 dd : D} {De : Ends} (c : VdC X.K p) (s1 : SE X p W MI .rep te1 (eV 1)) (s2 : SE X p W MI .rep te2 (eV 2)) (s3 : SE X p W MI .rep te3 (eV 3)) (sd : SE X p W MI .new ted (eC (.dT [])))
    (i1 : SI X p W MI wi1 (lE (eV 2))) (i2 : SI X p W MI wi2 (lE (eV 3))) (st : ST' X p W (MI.set 4 .val) tc (tE (e2 oEq (e2 oIx (eV 4) (eC (.int 0))) (eC (.str "yes"))))) (k1 : SE X p W (MI.set 4 .val) .rep tk1 (e2 oIx (eV 4) (eC (.int 1)))) (v1 : SE X p W (MI.set 4 .val) .rep tv1 (eC (.str "yes")))
    (k2 : SE X p W (MI.set 5 .val) .rep tk2 (eV 5)) (v2 : SE X p W (MI.set 5 .val) .rep tv2 (eC (.str "open"))) (E : Env X.K p F0 H0 MI [none, some d1, some d2, some d3, none, none] F σ H) (hx0 : H0 x = none) (hs : σ[0]? = some (some (.ref x))) (hx : H x = some (.ins p.C dx [])) (fx : F x = none)
    (hv : oVer [d1, d2, d3] = .ok dd) (h : ∀ σ' F' H', Ext F0 H0 F' H' → Rep p F' (.ref x) dd → De.nx σ' H') :
    tSeq (sFld X.K (tVar 0) te1 "filled") (tSeq (sFld X.K (tVar 0) te2 "story") (tSeq (sFld X.K (tVar 0) te3 "left") (tSeq (sFld X.K (tVar 0) ted "words") (tSeq (tFor wi1 (gName 4) (tIfS tc (sDPut (tFld X.K (tVar 0) "words") tk1 tv1) tNext)) (tFor wi2 (gName 5) (sDPut (tFld X.K (tVar 0) "words") tk2 tv2)))))) De σ H := by
  have hv : noX ((dItems d2).bind fun ss => (foldR stepY (.dT []) ss).bind fun e1 => (dItems d3).bind fun ls => (foldR stepO e1 ls).bind fun e2 => .ok (.obj [d1, d2, d3, e2])) = .ok dd := hv
  have hv : ((dItems d2).bind fun ss => (foldR stepY (.dT []) ss).bind fun e1 => (dItems d3).bind fun ls => (foldR stepO e1 ls).bind fun e2 => .ok (.obj [d1, d2, d3, e2])) = .ok dd := by
    revert hv
    cases ((dItems d2).bind fun ss => (foldR stepY (.dT []) ss).bind fun e1 => (dItems d3).bind fun ls => (foldR stepO e1 ls).bind fun e2 => .ok (D.obj [d1, d2, d3, e2])) with
    | ok a => exact id
    | xc c => intro z; cases z
    | bad => exact id
  obtain ⟨ss, hss, hv⟩ := ok_bind hv
  obtain ⟨e1, he1, hv⟩ := ok_bind hv
  obtain ⟨ls, hls, hv⟩ := ok_bind hv
  obtain ⟨eW, he2, hv⟩ := ok_bind hv
  cases hv
  refine fld_go c.cls c.n0 s1 E rfl hx0 hs hx fx (by decide) fun w1 Fa Ha sa Ea xa fa ra => ?_
  refine fld_go c.cls c.n1 s2 Ea rfl hx0 hs xa fa (by have := putF_len "filled" w1 []; simp at this; omega) fun w2 Fb Hb sb Eb xb fb rb => ?_
  refine fld_go c.cls c.n2 s3 Eb rfl hx0 hs xb fb (by have := putF_len "story" w2 (putF "filled" w1 []); have := putF_len "filled" w1 []; simp at this; omega) fun w3 Fc Hc sc Ec xc fc rc => ?_
  refine sd.okD Ec rfl fun w4 Fd Hd xd rd => ?_
  obtain ⟨aw, rfl, fw, hw, ow⟩ := rd
  have Ed := Ec.grow xd
  have xx := xd.hh _ _ xc
  have fx2 := xd.nw x _ fc xc no_tup
  have ne : aw ≠ x := fun z => by subst z; rw [xc] at hw; cases hw
  have h0w : H0 aw = none := by
    cases e : H0 aw with
    | none => rfl
    | some o => rw [Ec.ext.hh _ _ e] at hw; cases hw
  refine ⟨.ref x, hs, x, p.C, dx, _, rfl, xx, c.cls, c.n3, by have := putF_len "left" w3 (putF "story" w2 (putF "filled" w1 [])); have := putF_len "story" w2 (putF "filled" w1 []); have := putF_len "filled" w1 []; simp at this; omega, ?_⟩
  have S0 : InitSt X.K p F0 H0 x dx d1 d2 d3 (.dT []) Fd σ (upd Hd x (.ins p.C dx [("filled", w1), ("story", w2), ("left", w3), ("words", .ref aw)])) :=
    ⟨Ed.off hx0 fx2 no_own, hs, w1, w2, w3, aw, upd_same, ((ra.same sb).same sc).same xd.ff, (rb.same sc).same xd.ff, rc.same xd.ff, fx2, fw, h0w, ne, by
      cases ow with
      | dT h1 hk hs hi => exact .dT (by rw [upd_ne ne]; exact h1) hk hs hi⟩
  have S0 : InitSt X.K p F0 H0 x dx d1 d2 d3 (.dT []) Fd σ (upd Hd x (.ins p.C dx (putF "words" (.ref aw) (putF "left" w3 (putF "story" w2 (putF "filled" w1 [])))))) := S0
  generalize upd Hd x (.ins p.C dx (putF "words" (.ref aw) (putF "left" w3 (putF "story" w2 (putF "filled" w1 []))))) = He at S0
  clear Ea Eb Ec Ed E ow
  -- the story
  refine i1 F0 H0 _ Fd σ He _ S0.env ?_
  rw [show lE (eV 2) [none, some d1, some d2, some d3, none, none] = .ok ss from hss]
  intro J F1 H1' x1 gv
  obtain ⟨hlen, G, Y, w, sg, yl⟩ := gv
  have S1 := S0.grow x1
  refine for_it w (fun k σ2 H2 => ∃ F2 es, Same F1 F2 ∧ InitSt X.K p F0 H0 x dx d1 d2 d3 es F2 σ2 H2 ∧ foldR stepY es (ss.drop k) = .ok e1) ⟨F1, _, .refl _, S1, he1⟩ ?_ ?_ ?_
  · rintro k σ2 H2 hk ⟨F2, es, s2', S2, _⟩
    exact sg F2 H2 s2' S2.env.ext
  · rintro k y σ2 H2 H2' hk ⟨F2, es, s2', S2, q2⟩ hy
    obtain ⟨rfl, d, hd, rx⟩ := yl k H2 y H2' hy
    have edrop : ss.drop k = d :: ss.drop (k + 1) := by
      rw [List.drop_eq_getElem_cons hk]
      have : ss[k] = d := by simpa [hk] using hd
      rw [this]
    rw [edrop] at q2
    obtain ⟨es', hes, q3⟩ := ok_bind (show (stepY es d).bind (fun e' => foldR stepY e' (ss.drop (k + 1))) = .ok e1 from q2)
    obtain ⟨z, hz, hes⟩ := ok_bind hes
    obtain ⟨b, hb, hes⟩ := ok_bind hes
    have Ev := S2.env.setVal (rx.same s2') 4
    have back : ∀ {F3 H3 es3}, InitSt X.K p F0 H0 x dx d1 d2 d3 es3 F3 (σ2.set 4 (some y)) H3 → InitSt X.K p F0 H0 x dx d1 d2 d3 es3 F3 (σ2.set 4 (some y)) H3 := id
    have Sv : InitSt X.K p F0 H0 x dx d1 d2 d3 es F2 (σ2.set 4 (some y)) H2' := ⟨env_clr (M := MI.set 4 .val) (L := MI) Ev rfl, by
      have := S2.self
      rw [List.getElem?_set_ne (by decide)]; exact this, S2.st⟩
    have keep : ∀ (F3 : Hp) (H3 : Hp), Ext F2 H2' F3 H3 → Same F1 F3 := fun F3 H3 e => s2'.trans e.ff
    cases b with
    | bl b =>
      have ht : tE (e2 oEq (e2 oIx (eV 4) (eC (.int 0))) (eC (.str "yes"))) ([none, some d1, some d2, some d3, none, none].set 4 (some d)) = .ok b := by
        show ((((Ro.ok d : Ro D).bind fun x => (Ro.ok (D.int 0)).bind fun y => oIx x y).bind fun x => (Ro.ok (D.str "yes")).bind fun y => oEq x y).bind _) = _
        simp only [Ro.bind_ok, hz, hb]
      refine st F0 H0 _ F2 _ H2' _ Ev ?_
      rw [ht]
      intro F3 H3 x3
      have Ev3 := Ev.grow x3
      have Sv3 := Sv.grow x3
      cases b with
      | false =>
        cases hes
        exact ⟨F3, es, keep F3 H3 x3, Sv3, q3⟩
      | true =>
        obtain ⟨key, hkey, hput⟩ := ok_bind hes
        show sDPut (tFld X.K (tVar 0) "words") tk1 tv1 _ _ H3
        refine v1.okD Ev3 rfl fun vv F4 H4 x4 rv => ?_
        have Ev4 := Ev3.grow x4
        have Sv4 := Sv3.grow x4
        obtain ⟨u1, u2, u3, aw', g1, _⟩ := Sv4.st
        refine ⟨.ref x, Sv4.self, x, p.C, dx, _, .ref aw', rfl, g1, c.cls, c.n3, rfl, ?_⟩
        have hk' : e2 oIx (eV 4) (eC (.int 1)) ([none, some d1, some d2, some d3, none, none].set 4 (some d)) = .ok key := hkey
        refine k1.okD Ev4 hk' fun vk F5 H5 x5 rk => ?_
        have Sv5 := Sv4.grow x5
        obtain ⟨aw2, fs2, u, g2, g3, g4, S6⟩ := Sv5.put hx0 (show Rep p F5 vk key from rk) ((show Rep p F4 vv _ from rv).same x5.ff) hput
        have g1' := x5.hh _ _ g1
        rw [g1'] at g2
        cases g2
        cases g3
        exact ⟨aw', _, rfl, g4, F5, es', (keep F3 H3 x3).trans (x4.ff.trans x5.ff), S6, q3⟩
    | non => cases hes
    | int i => cases hes
    | str i => cases hes
    | lst i => cases hes
    | tup i => cases hes
    | dK i => cases hes
    | dT i => cases hes
    | obj i => cases hes
  · rintro σ2 H2 ⟨F2, es, s2', S2, q2⟩
    rw [List.drop_length] at q2
    cases q2
    -- what is left
    refine i2 F0 H0 _ F2 σ2 H2 _ S2.env ?_
    rw [show lE (eV 3) [none, some d1, some d2, some d3, none, none] = .ok ls from hls]
    intro J' F3 H3 x3 gv'
    obtain ⟨hlen', G', Y', w', sg', yl'⟩ := gv'
    have S3 := S2.grow x3
    refine for_it w' (fun k σ2 H2 => ∃ F2 es, Same F3 F2 ∧ InitSt X.K p F0 H0 x dx d1 d2 d3 es F2 σ2 H2 ∧ foldR stepO es (ls.drop k) = .ok eW) ⟨F3, _, .refl _, S3, he2⟩ ?_ ?_ ?_
    · rintro k σ2 H2 hk ⟨F2, es, s2', S2, _⟩
      exact sg' F2 H2 s2' S2.env.ext
    · rintro k y σ2 H2 H2' hk ⟨F2, es, s2', S2, q2⟩ hy
      obtain ⟨rfl, d, hd, rx⟩ := yl' k H2 y H2' hy
      have edrop : ls.drop k = d :: ls.drop (k + 1) := by
        rw [List.drop_eq_getElem_cons hk]
        have : ls[k] = d := by simpa [hk] using hd
        rw [this]
      rw [edrop] at q2
      obtain ⟨es', hput, q3⟩ := ok_bind (show (stepO es d).bind (fun e' => foldR stepO e' (ls.drop (k + 1))) = .ok eW from q2)
      have Ev := S2.env.setVal (rx.same s2') 5
      have Sv : InitSt X.K p F0 H0 x dx d1 d2 d3 es F2 (σ2.set 5 (some y)) H2' := ⟨env_clr (M := MI.set 5 .val) (L := MI) Ev rfl, by
        have := S2.self
        rw [List.getElem?_set_ne (by decide)]; exact this, S2.st⟩
      refine v2.okD Ev rfl fun vv F4 H4 x4 rv => ?_
      have Ev4 := Ev.grow x4
      have Sv4 := Sv.grow x4
      obtain ⟨u1, u2, u3, aw', g1, _⟩ := Sv4.st
      refine ⟨.ref x, Sv4.self, x, p.C, dx, _, .ref aw', rfl, g1, c.cls, c.n3, rfl, ?_⟩
      refine k2.okD Ev4 rfl fun vk F5 H5 x5 rk => ?_
      have Sv5 := Sv4.grow x5
      obtain ⟨aw2, fs2, u, g2, g3, g4, S6⟩ := Sv5.put hx0 (show Rep p F5 vk d from rk) ((show Rep p F4 vv _ from rv).same x5.ff) hput
      have g1' := x5.hh _ _ g1
      rw [g1'] at g2
      cases g2
      cases g3
      exact ⟨aw', _, rfl, g4, F5, es', s2'.trans (x4.ff.trans x5.ff), S6, q3⟩
    · rintro σ2 H2 ⟨F2, es, s2', S2, q2⟩
      rw [List.drop_length] at q2
      cases q2
      obtain ⟨F9, x9, r9⟩ := S2.fin hx0
      exact h σ2 F9 H2 x9 r9
end
end L2.Nf

namespace L2.Nf
open PySem PySem.Spec PyProof.Rows

/-- the body of __init__, as it is read -/
def InitBody (X : Cx) (p : Pt) (body : List Stmt) : Prop := ∃ (wi1 wi2 : TI) (te1 te2 te3 ted tk1 tv1 tk2 tv2 : TE) (tc : TT),
  PSs X body (tSeq (sFld X.K (tVar 0) te1 "filled") (tSeq (sFld X.K (tVar 0) te2 "story") (tSeq (sFld X.K (tVar 0) te3 "left") (tSeq (sFld X.K (tVar 0) ted "words") (tSeq (tFor wi1 (gName 4) (tIfS tc (sDPut (tFld X.K (tVar 0) "words") tk1 tv1) tNext)) (tFor wi2 (gName 5) (sDPut (tFld X.K (tVar 0) "words") tk2 tv2))))))) ∧
  SE X p W0 MI .rep te1 (eV 1) ∧ SE X p W0 MI .rep te2 (eV 2) ∧ SE X p W0 MI .rep te3 (eV 3) ∧ SE X p W0 MI .new ted (eC (.dT [])) ∧ SI X p W0 MI wi1 (lE (eV 2)) ∧ SI X p W0 MI wi2 (lE (eV 3)) ∧
  ST' X p W0 (MI.set 4 .val) tc (tE (e2 oEq (e2 oIx (eV 4) (eC (.int 0))) (eC (.str "yes")))) ∧ SE X p W0 (MI.set 4 .val) .rep tk1 (e2 oIx (eV 4) (eC (.int 1))) ∧ SE X p W0 (MI.set 4 .val) .rep tv1 (eC (.str "yes")) ∧ SE X p W0 (MI.set 5 .val) .rep tk2 (eV 5) ∧ SE X p W0 (MI.set 5 .val) .rep tv2 (eC (.str "open"))
section
variable {X : Cx} {p : Pt}
theorem init_body {e1 e2' e3 ed it1 it2 ck k1 v1 k2 v2 : Expr} {a0 a1 a2 a3 a4 a5 b0 b1 b2 b3 b4 b5 q0 q1 q2 q3 q4 q5 q6 q7 pi u1 u2 : Pos} {n1 n2 : Str} (hu : X.A.units + 1 < cLine) (hc : X.calm = true) (hN : X.N.Nodup) (hp : PassesOwn (model X.prog X.w) X.A X.env X.xe)
    (self : ∀ a : Pos, PE X (.Name "self" a) (tVar 0)) (h1 : PEk X p W0 MI .rep e1 (eV 1)) (h2 : PEk X p W0 MI .rep e2' (eV 2)) (h3 : PEk X p W0 MI .rep e3 (eV 3)) (hd : PEk X p W0 MI .new ed (eC (.dT [])))
    (i1 : PIk X p W0 MI (.Name n1 u1) it1 (lE (eV 2))) (i2 : PIk X p W0 MI (.Name n2 u2) it2 (lE (eV 3))) (ht : PTk X p W0 (MI.set 4 .val) ck (tE (e2 oEq (e2 oIx (eV 4) (eC (.int 0))) (eC (.str "yes"))))) (hk1 : PEk X p W0 (MI.set 4 .val) .rep k1 (e2 oIx (eV 4) (eC (.int 1)))) (hv1 : PEk X p W0 (MI.set 4 .val) .rep v1 (eC (.str "yes")))
    (hk2 : PEk X p W0 (MI.set 5 .val) .rep k2 (eV 5)) (hv2 : PEk X p W0 (MI.set 5 .val) .rep v2 (eC (.str "open")))
    (g1 : PG X (.Name n1 u1) (gName 4)) (g2 : PG X (.Name n2 u2) (gName 5))
    (hb : attributeBase (.Name "self" a4) "words" X.env (eval (.Name "self" a4) X.env) = eval (.Name "self" a4) X.env) (hb' : attributeBase (.Name "self" a5) "words" X.env (eval (.Name "self" a5) X.env) = eval (.Name "self" a5) X.env)
    (s0 : swapsWith e1 (some (.Attribute (.Name "self" a0) "filled" b0)) q0.line X.env = pure false) (s1 : swapsWith e2' (some (.Attribute (.Name "self" a1) "story" b1)) q1.line X.env = pure false) (s2 : swapsWith e3 (some (.Attribute (.Name "self" a2) "left" b2)) q2.line X.env = pure false) (s3 : swapsWith ed (some (.Attribute (.Name "self" a3) "words" b3)) q3.line X.env = pure false)
    (s4 : swapsWith v1 (some (.Subscript (.Attribute (.Name "self" a4) "words" b4) k1 q6)) q4.line X.env = pure false) (s5 : swapsWith v2 (some (.Subscript (.Attribute (.Name "self" a5) "words" b5) k2 q7)) q5.line X.env = pure false) (f1 : ∀ x, foldedSetIterable it1 X.env x = pure x) (f2 : ∀ x, foldedSetIterable it2 X.env x = pure x) {r1 r2 : Pos} :
    InitBody X p [.Assign [.Attribute (.Name "self" a0) "filled" b0] e1 q0, .Assign [.Attribute (.Name "self" a1) "story" b1] e2' q1, .Assign [.Attribute (.Name "self" a2) "left" b2] e3 q2, .Assign [.Attribute (.Name "self" a3) "words" b3] ed q3,
      .For (.Name n1 u1) it1 [.If ck [.Assign [.Subscript (.Attribute (.Name "self" a4) "words" b4) k1 q6] v1 q4] [] pi] [] r1, .For (.Name n2 u2) it2 [.Assign [.Subscript (.Attribute (.Name "self" a5) "words" b5) k2 q7] v2 q5] [] r2] := by
  obtain ⟨te1, p1, t1⟩ := h1
  obtain ⟨te2, p2, t2⟩ := h2
  obtain ⟨te3, p3, t3⟩ := h3
  obtain ⟨ted, pd, td⟩ := hd
  obtain ⟨wi1, pi1, ti1⟩ := i1
  obtain ⟨wi2, pi2, ti2⟩ := i2
  obtain ⟨tc, pc, ttc⟩ := ht
  obtain ⟨tk1, pk1, tk1'⟩ := hk1
  obtain ⟨tv1, pv1, tv1'⟩ := hv1
  obtain ⟨tk2, pk2, tk2'⟩ := hk2
  obtain ⟨tv2, pv2, tv2'⟩ := hv2
  exact ⟨wi1, wi2, te1, te2, te3, ted, tk1, tv1, tk2, tv2, tc,
    pss_cons (ps_fld (self _) p1 s0) (pss_cons (ps_fld (self _) p2 s1) (pss_cons (ps_fld (self _) p3 s2) (pss_cons (ps_fld (self _) pd s3)
      (pss_cons (ps_for hp hc pi1 g1 (pss_one (ps_if pc (pss_one (ps_dput hu (pe_fld (self _) hb) pk1 pv1 s4)) pss_nil)) f1)
        (pss_one (ps_for hp hc pi2 g2 (pss_one (ps_dput hu (pe_fld (self _) hb') pk2 pv2 s5)) f2)))))),
    t1, t2, t3, td, ti1, ti2, ttc, tk1', tv1', tk2', tv2'⟩
end
theorem init_ok {P : Program} {w : World} {K : PySem.W.Frag} {mg : Str → Option Value} {base : Heap} {p : Pt} {name qual : Str} {st : Stmt} {fa : Addr} {fd : FuncData} {N : List Str} {ps : List Str} {k : Nat} (c : VdC K p) (F : Fun K name qual st fa fd) (S : FnScope N ps (defScope st))
    (hbody : ∀ (cdv : Value) (A : Around) (outer : List PySem.Env) (s : Shared) (H : Hp) (E : XK), Room k (A.deeper (envOfC qual (defScope st) s.heap.objs.size fa cdv)) → InitBody (cxOf (L2.CX P w) P w K mg base N qual (defScope st) fa cdv A outer s H E) p (defBody st))
    (hl : ps.length = 4 := by rfl) (hn : N.length = 6 := by rfl) : FnOk P w K mg base (L2.CX P w) (k + 1) fa fd ps (spInit K p) := by
  refine F.okX S (fun vs H Q E h => ?_) fun cdv A outer s H vs Q E hr h => ?_
  · obtain ⟨_, _, _, _, _, _, _, _, _, _, _, rfl, _⟩ := h
    exact hl.symm
  · obtain ⟨F', H1, x, dx, v1, v2, v3, d1, d2, d3, hs, rfl, rfl, hx, hdx, hne, r1, r2, r3, q⟩ := h
    obtain ⟨wi1, wi2, te1, te2, te3, ted, tk1, tv1, tk2, tv2, tc, ph, t1, t2, t3, td, ti1, ti2, ttc, tk1', tv1', tk2', tv2'⟩ := hbody cdv A outer s _ E hr
    refine ⟨_, ph, ?_⟩
    have e0 : start N [.ref x, v1, v2, v3] = [some (.ref x), some v1, some v2, some v3, none, none] := by
      match N, hn with
      | [_, _, _, _, _, _], _ => rfl
    rw [e0]
    have hk : (cxOf (L2.CX P w) P w K mg base N qual (defScope st) fa cdv A outer s (upd (upd H1 dx (.own x)) x (.ins p.C dx [])) E).K = K := rfl
    have fx : F' x = none := by
      cases e : F' x with
      | none => rfl
      | some o => rw [hs _ _ e] at hx; cases hx
    have hh : Same H1 (upd (upd H1 dx (.own x)) x (.ins p.C dx [])) := fun b u e => by
      rw [upd_ne (ne_of_none e hx), upd_ne (ne_of_none e hdx)]; exact e
    have En : Env K p F' H1 MI [none, some d1, some d2, some d3, none, none] F' [some (.ref x), some v1, some v2, some v3, none, none] (upd (upd H1 dx (.own x)) x (.ins p.C dx [])) := by
      refine ⟨⟨.refl _, hh, hs.trans hh, fun b o a _ _ => a⟩, rfl, rfl, fun i m g s h1 h2 h3 => ?_, fun i j a h1 => absurd h1 (no_own i)⟩
      match i with
      | 0 => simp [MI] at h1; subst h1; trivial
      | 1 => simp [MI] at h1 h2 h3; subst h1; subst h2; subst h3; exact ⟨v1, d1, rfl, rfl, r1⟩
      | 2 => simp [MI] at h1 h2 h3; subst h1; subst h2; subst h3; exact ⟨v2, d2, rfl, rfl, r2⟩
      | 3 => simp [MI] at h1 h2 h3; subst h1; subst h2; subst h3; exact ⟨v3, d3, rfl, rfl, r3⟩
      | 4 => simp [MI] at h1; subst h1; trivial
      | 5 => simp [MI] at h1; subst h1; trivial
      | i + 6 => simp [MI] at h1
    cases ho : oVer [d1, d2, d3] with
    | bad => rw [ho] at q; exact q.elim
    | xc z => rw [ho] at q; exact q.elim
    | ok d =>
      rw [ho] at q
      exact init_go c t1 t2 t3 td ti1 ti2 ttc tk1' tv1' tk2' tv2' En hx rfl upd_same fx ho fun σ' F2 H2 x2 r => q F2 H2 x2 r
section
variable {X : Cx} {p : Pt} {W : WX} {M : List Md}
theorem pk_make {k : Nat} {fi : Addr} {fd : FuncData} {ps : List Str} {x : Str} {e : Expr} {es : List Expr} {a : ADen} {pp pos : Pos} (Mk' : Mk X.K p.C fi) (F : FnOk X.prog X.w X.K X.mg X.base (L2.CX X.prog X.w) k fi fd ps (spInit X.K p)) (hr : Room (k + 1) X.A) (hm : X.mg x = some (.ref p.C)) (hb : Binds X.K fd ps [])
    (ha : PAk X p W M [.rep, .rep, .rep] (e :: es) a) (hg : Gl X x := by rfl) (hdb : (x == ("__debug__" : Str)) = false := by decide) (he : starEach (e :: es) X.env = (false, eval e X.env) :: starEach es X.env := by rfl) (hpl : (backTo pos (starEach es X.env)).any (·.1) = false := by rfl) :
    PEk X p W M .rep (.Call (.Name x pp) (e :: es) [] pos) (eN oVer a) := by
  obtain ⟨ta, pa, sa⟩ := ha
  refine ⟨_, pe_make Mk' F hr hg hm hb .nil pass_none pa hdb he hpl, fun F0 H0 Γ F' σ H Q E q => sa F0 H0 Γ F' σ H _ E ?_⟩
  unfold eN at q
  cases h1 : a Γ with
  | bad => rw [h1] at q; exact q
  | xc c => rw [h1] at q; exact q
  | ok ds =>
    rw [h1, Ro.bind_ok] at q
    intro vs F1 H1 x1 l1 l2 hh y dx hy hdx hne
    match vs, ds, l1, l2 with
    | [v1, v2, v3], [d1, d2, d3], _, _ =>
      have r1 : Rep p F1 v1 d1 := hh 0 .rep v1 d1 rfl rfl rfl
      have r2 : Rep p F1 v2 d2 := hh 1 .rep v2 d2 rfl rfl rfl
      have r3 : Rep p F1 v3 d3 := hh 2 .rep v3 d3 rfl rfl rfl
      refine ⟨F1, H1, y, dx, v1, v2, v3, d1, d2, d3, x1.fh, rfl, rfl, hy, hdx, hne, r1, r2, r3, ?_⟩
      cases ho : oVer [d1, d2, d3] with
      | bad => rw [ho] at q; exact q.elim
      | xc z =>
        have : ∀ z, oVer [d1, d2, d3] ≠ .xc z := fun z hz => by
          have hz : noX _ = .xc z := hz
          revert hz
          unfold noX
          split <;> intro hz <;> simp_all
        exact absurd ho (this z)
      | ok d =>
        rw [ho] at q
        exact fun F2 H2 x2 r => ⟨rfl, q _ F2 H2 (x1.trans x2) r⟩
end
end L2.Nf

namespace L2.Nf
open PySem PySem.Spec PyProof.Rows

/-! ### the class and its methods, as they stand -/
def clsBody : Stmt → List Stmt
  | .ClassDef _ _ _ body _ _ _ _ _ _ _ => body
  | _ => []
def mth (s : Stmt) (i : Nat) : Stmt := (clsBody s).getD i (.Pass ⟨0, 0, 0, 0⟩)
structure ClsAt (K : PySem.W.Frag) (mg : Str → Option Value) (p : Pt) (cls : Stmt) : Prop where
  gC : mg "Verdict" = some (.ref p.C)
  vd : VdC K p
  ini : ∃ fa fd, Mk K p.C fa ∧ Fun K "__init__" "Verdict.__init__" (mth cls 0) fa fd
  sd : ∃ fa fd, Meth K p.C "said" fa ∧ Fun K "said" "Verdict.said" (mth cls 1) fa fd
/-- a method as a function of data -/
def MtD (P : Program) (w : World) (K : PySem.W.Frag) (mg : Str → Option Value) (base : Heap) (p : Pt) (m : Str) (k : Nat) (ms : List Md) (f : List D → Ro D) : Prop :=
  ∃ fa fd ps, Meth K p.C m fa ∧ Binds K fd ps [] ∧ FnOk P w K mg base (L2.CX P w) k fa fd ps (spD K p ms .rep f)
/-- the class as a function of data -/
def MkD (P : Program) (w : World) (K : PySem.W.Frag) (mg : Str → Option Value) (base : Heap) (p : Pt) (k : Nat) : Prop :=
  mg "Verdict" = some (.ref p.C) ∧ ∃ fa fd ps, Mk K p.C fa ∧ Binds K fd ps [] ∧ FnOk P w K mg base (L2.CX P w) k fa fd ps (spInit K p)
section
variable {X : Cx} {p : Pt} {W : WX} {M : List Md}
theorem pk_mt {ms : List Md} {f : List D → Ro D} {k : Nat} {m : Str} {o e : Expr} {es : List Expr} {a : EDen} {as : ADen} {pos apos : Pos} {pl : Sem Bool} (F : MtD X.prog X.w X.K X.mg X.base p m k (.val :: ms) f) (c : Cls X.K p.C) (hr : Room k X.A) (ho : PEk X p W M .rep o a) (ha : PAk X p W M (ms.map Md.ak) (e :: es) as) (hmn : m ∉ vdNames := by decide)
    (hst : starEach (e :: es) X.env = (false, eval e X.env) :: starEach es X.env := by rfl) (hpl : (backTo pos (starEach es X.env)).any (·.1) = false := by rfl)
    (ht : eval (.Call (.Attribute o m apos) (e :: es) [] pos) X.env = (do
      let ov ← eval o X.env
      standAt apos.atName
      let (f, first) ← holding [ov] (getMethod ov m pl)
      callWith pos f first (backTo pos (starEach (e :: es) X.env)) (backToKw pos (keywordEach [] X.env))) := by rfl) : PEk X p W M .rep (.Call (.Attribute o m apos) (e :: es) [] pos) (eM f a as) := by
  obtain ⟨fa, fd, ps, hm, hb, ok⟩ := F
  exact pk_meth c hm rfl ok hr hb ho ha hmn hst hpl ht
theorem pk_mk {k : Nat} {e : Expr} {es : List Expr} {a : ADen} {pp pos : Pos} (F : MkD X.prog X.w X.K X.mg X.base p k) (hr : Room (k + 1) X.A) (ha : PAk X p W M [.rep, .rep, .rep] (e :: es) a) (hg : Gl X "Verdict" := by rfl)
    (he : starEach (e :: es) X.env = (false, eval e X.env) :: starEach es X.env := by rfl) (hpl : (backTo pos (starEach es X.env)).any (·.1) = false := by rfl) : PEk X p W M .rep (.Call (.Name "Verdict" pp) (e :: es) [] pos) (eN oVer a) := by
  obtain ⟨hm, fa, fd, ps, mk, hb, ok⟩ := F
  exact pk_make mk ok hr hm hb ha hg (by decide) he hpl
end
/-- from the facts of the written part -/
theorem clsAt_mk {K : PySem.W.Frag} {h : Heap} {mg : Str → Option Value} {C fi fs : Addr} {cls : Stmt} {oc oc' : Value} {od an od' an' : Option Addr} {osl osl' : Array (Option Value)} {kV doc pm cdv ct kV' doc' pm' cdv' ct' : Value} {ca : Str → Addr} (X : K.In h) (G : h.Ns mainGlobals mg)
    (a : PySem.W.nsIn K mainGlobals "Verdict" = some (some (.ref C))) (pg : PySem.W.plainGet K C Str.empty = true) (hd : PySem.W.hasDictIn K C = true) (po : PySem.W.plainOver K C = true) (sa : PySem.W.findIn K (.ref C) "__setattr__" = some (some (.builtin "object.__setattr__")))
    (n0 : PySem.W.findIn K (.ref C) "filled" = some none) (n1 : PySem.W.findIn K (.ref C) "story" = some none) (n2 : PySem.W.findIn K (.ref C) "left" = some none) (n3 : PySem.W.findIn K (.ref C) "words" = some none)
    (mk : PySem.W.makesIn K C = true) (fini : PySem.W.findIn K (.ref C) "__init__" = some (some (.ref fi))) (isf : PySem.W.isFn K (.ref fi) = true) (kC : PySem.W.keepIn K (.ref C) = true)
    (l : K.lookup fi = some ⟨oc, od, .func (PySem.W.fnOf "__init__" "Verdict.__init__" (defArgs (mth cls 0)) (defBody (mth cls 0)) (defScope (mth cls 0)) .none kV doc pm an cdv ct), osl⟩) (c : PySem.W.codeIn K cdv "Verdict.__init__" = true) (k : PySem.W.keepIn K (.ref fi) = true)
    (fsd : PySem.W.findIn K (.ref C) "said" = some (some (.ref fs))) (isf' : PySem.W.isFn K (.ref fs) = true)
    (l' : K.lookup fs = some ⟨oc', od', .func (PySem.W.fnOf "said" "Verdict.said" (defArgs (mth cls 1)) (defBody (mth cls 1)) (defScope (mth cls 1)) .none kV' doc' pm' an' cdv' ct'), osl'⟩) (c' : PySem.W.codeIn K cdv' "Verdict.said" = true) (k' : PySem.W.keepIn K (.ref fs) = true) : ClsAt K mg ⟨C, ca⟩ cls :=
  ⟨PySem.W.mg_of X G a, ⟨⟨pg, hd, po, sa⟩, n0, n1, n2, n3⟩, ⟨fi, _, ⟨mk, fini, isf, kC⟩, fun_mk l c k⟩, ⟨fs, _, ⟨fsd, isf', k'⟩, fun_mk l' c' k'⟩⟩
end L2.Nf

namespace L2.Nf
open PySem PySem.Spec PyProof.Rows

/-! ### a name that owns a list of two lists, which are changed later -/
section
variable {X : Cx} {p : Pt} {W : WX} {rk : Kd} {M M1 M2 : List Md} {F0 H0 F H : Hp} {Γ : Gm} {σ : St}
theorem pk_duo0 (i : Nat) {c a b : Addr} {x : Str} {j : Nat} {p1 p2 pos : Pos} (hm : M[i]? = some (.duo c a b) := by rfl) (hN : X.N[i]? = some x := by rfl) (hv : Vis X.env.scope x := by first | exact Or.inl rfl | exact Or.inr (Or.inl rfl) | exact Or.inr (Or.inr rfl))
    (hd : (x == ("__debug__" : Str)) = false := by decide) (hcd : (x == ("__classdict__" : Str)) = false := by decide) :
    PEk X p W M .bst (.Subscript (.Name x p1) (.Constant (.int 0) j p2) pos) (e2 oIx (eV i) (eC (.int 0))) := by
  refine ⟨_, pe_ix ix_seq (pe_var hN hv hd hcd) pe_int (by intro _ _; rfl), fun F0 H0 Γ F σ H Q E q => ?_⟩
  obtain ⟨g, s, h1, h2, d1, d2, rfl, rfl, hc, oa, ob⟩ := E.getS hm
  unfold e2 eV eC at q
  rw [h1] at q
  exact ⟨_, h2, .inl ⟨c, _, 0, .ref a, rfl, rfl, .of (E.ext.hh _ _ hc), rfl, q _ F H (Ext.refl E.ext.fh) (.inr ⟨a, rfl, oa⟩)⟩⟩
theorem pk_duo1 (i : Nat) {c a b : Addr} {x : Str} {j : Nat} {p1 p2 pos : Pos} (hm : M[i]? = some (.duo c a b) := by rfl) (hN : X.N[i]? = some x := by rfl) (hv : Vis X.env.scope x := by first | exact Or.inl rfl | exact Or.inr (Or.inl rfl) | exact Or.inr (Or.inr rfl))
    (hd : (x == ("__debug__" : Str)) = false := by decide) (hcd : (x == ("__classdict__" : Str)) = false := by decide) :
    PEk X p W M .bst (.Subscript (.Name x p1) (.Constant (.int 1) j p2) pos) (e2 oIx (eV i) (eC (.int 1))) := by
  refine ⟨_, pe_ix ix_seq (pe_var hN hv hd hcd) pe_int (by intro _ _; rfl), fun F0 H0 Γ F σ H Q E q => ?_⟩
  obtain ⟨g, s, h1, h2, d1, d2, rfl, rfl, hc, oa, ob⟩ := E.getS hm
  unfold e2 eV eC at q
  rw [h1] at q
  exact ⟨_, h2, .inl ⟨c, _, 1, .ref b, rfl, rfl, .of (E.ext.hh _ _ hc), rfl, q _ F H (Ext.refl E.ext.fh) (.inr ⟨b, rfl, ob⟩)⟩⟩

/-- the lists that the name holds, and nobody else -/
structure Duo (F0 H0 F H : Hp) (σ : St) (i : Nat) (c a b : Addr) : Prop where
  at_ : σ[i]? = some (some (.ref c))
  out : H c = some (.lst [.ref a, .ref b])
  la : ∃ vs, H a = some (.lst vs)
  lb : ∃ vs, H b = some (.lst vs)
  ab : a ≠ b
  ca : c ≠ a
  cb : c ≠ b
  fa : F a = none
  fb : F b = none
  ha : H0 a = none
  hb : H0 b = none
def plainM (M : List Md) : Bool := M.all fun m => m == .any || m == .val
theorem plainM_at (h : plainM M = true) {i : Nat} {m : Md} (hm : M[i]? = some m) : m = .any ∨ m = .val := by
  have := List.all_eq_true.mp h m (List.mem_of_getElem? hm)
  rw [Bool.or_eq_true] at this
  exact this.imp (fun h => by simpa using h) fun h => by simpa using h
theorem plainM_own (h : plainM M = true) (i : Nat) : M[i]? ≠ some .own := fun z => by
  rcases plainM_at h z with e | e <;> cases e
/-- statements with the two lists at hand -/
def PMsk (X : Cx) (p : Pt) (W : WX) (rk : Kd) (i : Nat) (M M' : List Md) (sts : List Stmt) (f : SDen) : Prop := plainM M = true ∧ ∃ t, PSs X sts t ∧
  ∀ (F0 H0 : Hp) (Γ : Gm) (F : Hp) (σ : St) (H : Hp) (De : Ends) (c a b : Addr) (d1 d2 : D), Env X.K p F0 H0 M Γ F σ H → Duo F0 H0 F H σ i c a b → Γ[i]? = some (some (.lst [d1, d2])) → Own p F H a d1 → Own p F H b d2 →
    (f Γ).post (fun Γ' => ∀ F' σ' H', Same F F' → Env X.K p F0 H0 M' Γ' F' σ' H' → De.nx σ' H') (fun d => ∀ v F' H', Ext F0 H0 F' H' → RelK X.K p rk F0 H0 H0 F' H' v d → De.rt v H')
      (fun c => ∀ σ' F' H', Ext F0 H0 F' H' → W (.ref (p.ca c)) none σ' H') → t De σ H
/-- statements with the two lists, of which nothing is told -/
def PJsk (X : Cx) (p : Pt) (W : WX) (rk : Kd) (i : Nat) (M M' : List Md) (sts : List Stmt) (f : SDen) : Prop := plainM M = true ∧ ∃ t, PSs X sts t ∧
  ∀ (F0 H0 : Hp) (Γ : Gm) (F : Hp) (σ : St) (H : Hp) (De : Ends) (c a b : Addr), Env X.K p F0 H0 M Γ F σ H → Duo F0 H0 F H σ i c a b →
    (f Γ).post (fun Γ' => ∀ F' σ' H', Same F F' → Env X.K p F0 H0 M' Γ' F' σ' H' → De.nx σ' H') (fun d => ∀ v F' H', Ext F0 H0 F' H' → RelK X.K p rk F0 H0 H0 F' H' v d → De.rt v H')
      (fun c => ∀ σ' F' H', Ext F0 H0 F' H' → W (.ref (p.ca c)) none σ' H') → t De σ H
theorem sm_junk {i : Nat} {sts : List Stmt} {f : SDen} (h : PJsk X p W rk i M M1 sts f) : PMsk X p W rk i M M1 sts f := by
  obtain ⟨hp, t, pt, st⟩ := h
  exact ⟨hp, t, pt, fun F0 H0 Γ F σ H De c a b d1 d2 E U _ _ _ q => st F0 H0 Γ F σ H De c a b E U q⟩
theorem sj_end {i : Nat} {sts : List Stmt} {f : SDen} (h : PSsk X p W rk M M1 sts f) (hp : plainM M = true := by rfl) : PJsk X p W rk i M M1 sts f := by
  obtain ⟨t, pt, st⟩ := h
  exact ⟨hp, t, pt, fun F0 H0 Γ F σ H De c a b E U q => st F0 H0 Γ F σ H De E q⟩
theorem Duo.chgA {i : Nat} {c a b : Addr} (U : Duo F0 H0 F H σ i c a b) (ws : List V) : Duo F0 H0 F (upd H a (.lst ws)) σ i c a b :=
  ⟨U.at_, by rw [upd_ne U.ca]; exact U.out, ⟨ws, upd_same⟩, let ⟨vs, h⟩ := U.lb; ⟨vs, by rw [upd_ne (Ne.symm U.ab)]; exact h⟩, U.ab, U.ca, U.cb, U.fa, U.fb, U.ha, U.hb⟩
theorem Duo.chgB {i : Nat} {c a b : Addr} (U : Duo F0 H0 F H σ i c a b) (ws : List V) : Duo F0 H0 F (upd H b (.lst ws)) σ i c a b :=
  ⟨U.at_, by rw [upd_ne U.cb]; exact U.out, let ⟨vs, h⟩ := U.la; ⟨vs, by rw [upd_ne U.ab]; exact h⟩, ⟨ws, upd_same⟩, U.ab, U.ca, U.cb, U.fa, U.fb, U.ha, U.hb⟩
theorem Duo.grow {i : Nat} {c a b : Addr} (U : Duo F0 H0 F H σ i c a b) {F1 H1 : Hp} (e : Ext F H F1 H1) : Duo F0 H0 F1 H1 σ i c a b := by
  obtain ⟨va, ha⟩ := U.la
  obtain ⟨vb, hb⟩ := U.lb
  exact ⟨U.at_, e.hh _ _ U.out, ⟨va, e.hh _ _ ha⟩, ⟨vb, e.hh _ _ hb⟩, U.ab, U.ca, U.cb, e.nw a _ U.fa ha (fun _ z => by cases z), e.nw b _ U.fb hb (fun _ z => by cases z), U.ha, U.hb⟩
theorem sj_clr0 (i : Nat) {x : Str} {rest : List Stmt} {g : SDen} {j : Nat} {p1 p2 p3 apos cpos pos : Pos} (h : PJsk X p W rk i M M1 rest g) (hN : X.N[i]? = some x := by rfl) (hv : Vis X.env.scope x := by first | exact Or.inl rfl | exact Or.inr (Or.inl rfl) | exact Or.inr (Or.inr rfl))
    (hd : (x == ("__debug__" : Str)) = false := by decide) (hcd : (x == ("__classdict__" : Str)) = false := by decide)
    (hs0 : swapsWith (.Call (.Attribute (.Subscript (.Name x p1) (.Constant (.int 0) j p2) p3) "clear" apos) [] [] cpos) none pos.line X.env = pure false := by rfl)
    (hbase : attributeBase (.Subscript (.Name x p1) (.Constant (.int 0) j p2) p3) "clear" X.env (eval (.Subscript (.Name x p1) (.Constant (.int 0) j p2) p3) X.env) = eval (.Subscript (.Name x p1) (.Constant (.int 0) j p2) p3) X.env := by rfl)
    (hline : (apos.endLine == cpos.line) = true := by rfl) :
    PJsk X p W rk i M M1 (.Expr (.Call (.Attribute (.Subscript (.Name x p1) (.Constant (.int 0) j p2) p3) "clear" apos) [] [] cpos) pos :: rest) g := by
  obtain ⟨hp, t, pt, st⟩ := h
  refine ⟨hp, _, pss_cons (ps_expr (pe_bm0 PySem.F.plainAttrs_list PySem.F.slot_list_clear PySem.F.type_list_clear mt_clear (pe_ix ix_seq (pe_var hN hv hd hcd) pe_int (by intro _ _; rfl)) hbase hline) hs0) pt, fun F0 H0 Γ F σ H De c a b E U q => ?_⟩
  obtain ⟨vs, hvs⟩ := U.la
  refine ⟨_, U.at_, .inl ⟨c, _, 0, .ref a, rfl, rfl, .of U.out, rfl, .inl ⟨rfl, vs, .of hvs⟩, a, vs, rfl, rfl, hvs, ?_⟩⟩
  exact st F0 H0 Γ F σ _ De c a b (E.off U.ha U.fa (plainM_own hp)) (U.chgA []) q
theorem sj_clr1 (i : Nat) {x : Str} {rest : List Stmt} {g : SDen} {j : Nat} {p1 p2 p3 apos cpos pos : Pos} (h : PJsk X p W rk i M M1 rest g) (hN : X.N[i]? = some x := by rfl) (hv : Vis X.env.scope x := by first | exact Or.inl rfl | exact Or.inr (Or.inl rfl) | exact Or.inr (Or.inr rfl))
    (hd : (x == ("__debug__" : Str)) = false := by decide) (hcd : (x == ("__classdict__" : Str)) = false := by decide)
    (hs0 : swapsWith (.Call (.Attribute (.Subscript (.Name x p1) (.Constant (.int 1) j p2) p3) "clear" apos) [] [] cpos) none pos.line X.env = pure false := by rfl)
    (hbase : attributeBase (.Subscript (.Name x p1) (.Constant (.int 1) j p2) p3) "clear" X.env (eval (.Subscript (.Name x p1) (.Constant (.int 1) j p2) p3) X.env) = eval (.Subscript (.Name x p1) (.Constant (.int 1) j p2) p3) X.env := by rfl)
    (hline : (apos.endLine == cpos.line) = true := by rfl) :
    PJsk X p W rk i M M1 (.Expr (.Call (.Attribute (.Subscript (.Name x p1) (.Constant (.int 1) j p2) p3) "clear" apos) [] [] cpos) pos :: rest) g := by
  obtain ⟨hp, t, pt, st⟩ := h
  refine ⟨hp, _, pss_cons (ps_expr (pe_bm0 PySem.F.plainAttrs_list PySem.F.slot_list_clear PySem.F.type_list_clear mt_clear (pe_ix ix_seq (pe_var hN hv hd hcd) pe_int (by intro _ _; rfl)) hbase hline) hs0) pt, fun F0 H0 Γ F σ H De c a b E U q => ?_⟩
  obtain ⟨vs, hvs⟩ := U.lb
  refine ⟨_, U.at_, .inl ⟨c, _, 1, .ref b, rfl, rfl, .of U.out, rfl, .inl ⟨rfl, vs, .of hvs⟩, b, vs, rfl, rfl, hvs, ?_⟩⟩
  exact st F0 H0 Γ F σ _ De c a b (E.off U.hb U.fb (plainM_own hp)) (U.chgB []) q
theorem sj_cap0 (i : Nat) {x : Str} {rest : List Stmt} {e : Expr} {fe : EDen} {g : SDen} {j j' : Nat} {p1 p2 p3 apos cpos pos p1' p2' p3' apos' cpos' pos' : Pos} (he : PEk X p W M .rep e fe) (h : PJsk X p W rk i M M1 rest g) (hN : X.N[i]? = some x := by rfl) (hv : Vis X.env.scope x := by first | exact Or.inl rfl | exact Or.inr (Or.inl rfl) | exact Or.inr (Or.inr rfl))
    (hd : (x == ("__debug__" : Str)) = false := by decide) (hcd : (x == ("__classdict__" : Str)) = false := by decide)
    (hs0 : swapsWith (.Call (.Attribute (.Subscript (.Name x p1) (.Constant (.int 0) j p2) p3) "clear" apos) [] [] cpos) none pos.line X.env = pure false := by rfl)
    (hbase : attributeBase (.Subscript (.Name x p1) (.Constant (.int 0) j p2) p3) "clear" X.env (eval (.Subscript (.Name x p1) (.Constant (.int 0) j p2) p3) X.env) = eval (.Subscript (.Name x p1) (.Constant (.int 0) j p2) p3) X.env := by rfl)
    (hline : (apos.endLine == cpos.line) = true := by rfl)
    (hs1 : swapsWith (.Call (.Attribute (.Subscript (.Name x p1') (.Constant (.int 0) j' p2') p3') "append" apos') [e] [] cpos') none pos'.line X.env = pure false := by rfl)
    (hbase' : attributeBase (.Subscript (.Name x p1') (.Constant (.int 0) j' p2') p3') "append" X.env (eval (.Subscript (.Name x p1') (.Constant (.int 0) j' p2') p3') X.env) = eval (.Subscript (.Name x p1') (.Constant (.int 0) j' p2') p3') X.env := by rfl)
    (hfew : ((backTo cpos' (starEach (e :: []) X.env)).all (fun x => !x.1) && (backToKw cpos' (keywordEach [] X.env)).all (fun x => x.1.isSome)
      && decide ((e :: ([] : List Expr)).length + ([] : List Keyword).length + (if ([] : List Keyword).isEmpty then 0 else 1) < 30)) = true := by rfl)
    (hline' : (apos'.endLine == cpos'.line) = true := by rfl) (hs : starEach (e :: []) X.env = (false, eval e X.env) :: starEach [] X.env := by rfl) (hplain : (backTo cpos' (starEach [] X.env)).any (·.1) = false := by rfl) :
    PJsk X p W rk i M M1 (.Expr (.Call (.Attribute (.Subscript (.Name x p1) (.Constant (.int 0) j p2) p3) "clear" apos) [] [] cpos) pos ::
      .Expr (.Call (.Attribute (.Subscript (.Name x p1') (.Constant (.int 0) j' p2') p3') "append" apos') [e] [] cpos') pos' :: rest) (sSeq (sDrop fe) g) := by
  obtain ⟨hp, t, pt, st⟩ := h
  obtain ⟨te, pe, se⟩ := he
  refine ⟨hp, _, pss_cons (ps_expr (pe_bm0 PySem.F.plainAttrs_list PySem.F.slot_list_clear PySem.F.type_list_clear mt_clear (pe_ix ix_seq (pe_var hN hv hd hcd) pe_int (by intro _ _; rfl)) hbase hline) hs0)
    (pss_cons (ps_expr (pe_bm PySem.F.plainAttrs_list PySem.F.slot_list_append PySem.F.type_list_append mt_append (pe_ix ix_seq (pe_var hN hv hd hcd) pe_int (by intro _ _; rfl)) (pa_cons pe pa_nil hs) hbase' hfew hline' hs hplain) hs1) pt), fun F0 H0 Γ F σ H De c a b E U q => ?_⟩
  obtain ⟨vs, hvs⟩ := U.la
  refine ⟨_, U.at_, .inl ⟨c, _, 0, .ref a, rfl, rfl, .of U.out, rfl, .inl ⟨rfl, vs, .of hvs⟩, a, vs, rfl, rfl, hvs, ?_⟩⟩
  have E1 := E.off (u := .lst []) U.ha U.fa (plainM_own hp)
  have U1 := U.chgA []
  refine ⟨_, U1.at_, .inl ⟨c, _, 0, .ref a, rfl, rfl, .of U1.out, rfl, .inl ⟨rfl, [], .of upd_same⟩, se.go E1 ?_⟩⟩
  have q : (match (fe Γ).go fun _ => Out.nx Γ with | .nx Γ' => g Γ' | o => o).post _ _ _ := q
  cases h3 : fe Γ with
  | bad => rw [h3] at q; exact q
  | xc c => rw [h3] at q; exact wish_st E1 q
  | ok d =>
    rw [h3] at q
    have q : (g Γ).post _ _ _ := q
    intro v F1 H1 x1 r
    have E2 := E1.grow x1
    have U2 := U1.grow x1
    have hk : H1 a = some (.lst []) := x1.hh _ _ upd_same
    refine ⟨a, [], v, rfl, rfl, hk, by decide, ?_⟩
    refine st F0 H0 Γ F1 σ _ De c a b (E2.off U2.ha U2.fa (plainM_own hp)) (U2.chgA [v]) ?_
    cases h4 : g Γ with
    | nx Γ1 => rw [h4] at q; exact fun F2 σ2 H2 s2 E2 => q F2 σ2 H2 (x1.ff.trans s2) E2
    | bad => rw [h4] at q; exact q
    | xc c => rw [h4] at q; exact q
    | rt d => rw [h4] at q; exact q
theorem sj_cap1 (i : Nat) {x : Str} {rest : List Stmt} {e : Expr} {fe : EDen} {g : SDen} {j j' : Nat} {p1 p2 p3 apos cpos pos p1' p2' p3' apos' cpos' pos' : Pos} (he : PEk X p W M .rep e fe) (h : PJsk X p W rk i M M1 rest g) (hN : X.N[i]? = some x := by rfl) (hv : Vis X.env.scope x := by first | exact Or.inl rfl | exact Or.inr (Or.inl rfl) | exact Or.inr (Or.inr rfl))
    (hd : (x == ("__debug__" : Str)) = false := by decide) (hcd : (x == ("__classdict__" : Str)) = false := by decide)
    (hs0 : swapsWith (.Call (.Attribute (.Subscript (.Name x p1) (.Constant (.int 1) j p2) p3) "clear" apos) [] [] cpos) none pos.line X.env = pure false := by rfl)
    (hbase : attributeBase (.Subscript (.Name x p1) (.Constant (.int 1) j p2) p3) "clear" X.env (eval (.Subscript (.Name x p1) (.Constant (.int 1) j p2) p3) X.env) = eval (.Subscript (.Name x p1) (.Constant (.int 1) j p2) p3) X.env := by rfl)
    (hline : (apos.endLine == cpos.line) = true := by rfl)
    (hs1 : swapsWith (.Call (.Attribute (.Subscript (.Name x p1') (.Constant (.int 1) j' p2') p3') "append" apos') [e] [] cpos') none pos'.line X.env = pure false := by rfl)
    (hbase' : attributeBase (.Subscript (.Name x p1') (.Constant (.int 1) j' p2') p3') "append" X.env (eval (.Subscript (.Name x p1') (.Constant (.int 1) j' p2') p3') X.env) = eval (.Subscript (.Name x p1') (.Constant (.int 1) j' p2') p3') X.env := by rfl)
    (hfew : ((backTo cpos' (starEach (e :: []) X.env)).all (fun x => !x.1) && (backToKw cpos' (keywordEach [] X.env)).all (fun x => x.1.isSome)
      && decide ((e :: ([] : List Expr)).length + ([] : List Keyword).length + (if ([] : List Keyword).isEmpty then 0 else 1) < 30)) = true := by rfl)
    (hline' : (apos'.endLine == cpos'.line) = true := by rfl) (hs : starEach (e :: []) X.env = (false, eval e X.env) :: starEach [] X.env := by rfl) (hplain : (backTo cpos' (starEach [] X.env)).any (·.1) = false := by rfl) :
    PJsk X p W rk i M M1 (.Expr (.Call (.Attribute (.Subscript (.Name x p1) (.Constant (.int 1) j p2) p3) "clear" apos) [] [] cpos) pos ::
      .Expr (.Call (.Attribute (.Subscript (.Name x p1') (.Constant (.int 1) j' p2') p3') "append" apos') [e] [] cpos') pos' :: rest) (sSeq (sDrop fe) g) := by
  obtain ⟨hp, t, pt, st⟩ := h
  obtain ⟨te, pe, se⟩ := he
  refine ⟨hp, _, pss_cons (ps_expr (pe_bm0 PySem.F.plainAttrs_list PySem.F.slot_list_clear PySem.F.type_list_clear mt_clear (pe_ix ix_seq (pe_var hN hv hd hcd) pe_int (by intro _ _; rfl)) hbase hline) hs0)
    (pss_cons (ps_expr (pe_bm PySem.F.plainAttrs_list PySem.F.slot_list_append PySem.F.type_list_append mt_append (pe_ix ix_seq (pe_var hN hv hd hcd) pe_int (by intro _ _; rfl)) (pa_cons pe pa_nil hs) hbase' hfew hline' hs hplain) hs1) pt), fun F0 H0 Γ F σ H De c a b E U q => ?_⟩
  obtain ⟨vs, hvs⟩ := U.lb
  refine ⟨_, U.at_, .inl ⟨c, _, 1, .ref b, rfl, rfl, .of U.out, rfl, .inl ⟨rfl, vs, .of hvs⟩, b, vs, rfl, rfl, hvs, ?_⟩⟩
  have E1 := E.off (u := .lst []) U.hb U.fb (plainM_own hp)
  have U1 := U.chgB []
  refine ⟨_, U1.at_, .inl ⟨c, _, 1, .ref b, rfl, rfl, .of U1.out, rfl, .inl ⟨rfl, [], .of upd_same⟩, se.go E1 ?_⟩⟩
  have q : (match (fe Γ).go fun _ => Out.nx Γ with | .nx Γ' => g Γ' | o => o).post _ _ _ := q
  cases h3 : fe Γ with
  | bad => rw [h3] at q; exact q
  | xc c => rw [h3] at q; exact wish_st E1 q
  | ok d =>
    rw [h3] at q
    have q : (g Γ).post _ _ _ := q
    intro v F1 H1 x1 r
    have E2 := E1.grow x1
    have U2 := U1.grow x1
    have hk : H1 b = some (.lst []) := x1.hh _ _ upd_same
    refine ⟨b, [], v, rfl, rfl, hk, by decide, ?_⟩
    refine st F0 H0 Γ F1 σ _ De c a b (E2.off U2.hb U2.fb (plainM_own hp)) (U2.chgB [v]) ?_
    cases h4 : g Γ with
    | nx Γ1 => rw [h4] at q; exact fun F2 σ2 H2 s2 E2 => q F2 σ2 H2 (x1.ff.trans s2) E2
    | bad => rw [h4] at q; exact q
    | xc c => rw [h4] at q; exact q
    | rt d => rw [h4] at q; exact q
/-! the first list grows, while its things are known -/
def sAppX (i : Nat) (fe : EDen) : SDen := fun Γ => match Γ[i]? with
  | some (some (.lst [.lst xs, _])) => (fe Γ).go fun _ => if xs.length < sizeLine then .nx Γ else .bad
  | _ => .bad
theorem sm_app0 (i : Nat) {x : Str} {rest : List Stmt} {e : Expr} {fe : EDen} {g : SDen} {j' : Nat} {p1' p2' p3' apos' cpos' pos' : Pos} (he : PEk X p W M .rep e fe) (h : PJsk X p W rk i M M1 rest g) (hN : X.N[i]? = some x := by rfl) (hv : Vis X.env.scope x := by first | exact Or.inl rfl | exact Or.inr (Or.inl rfl) | exact Or.inr (Or.inr rfl))
    (hd : (x == ("__debug__" : Str)) = false := by decide) (hcd : (x == ("__classdict__" : Str)) = false := by decide)
    (hs1 : swapsWith (.Call (.Attribute (.Subscript (.Name x p1') (.Constant (.int 0) j' p2') p3') "append" apos') [e] [] cpos') none pos'.line X.env = pure false := by rfl)
    (hbase' : attributeBase (.Subscript (.Name x p1') (.Constant (.int 0) j' p2') p3') "append" X.env (eval (.Subscript (.Name x p1') (.Constant (.int 0) j' p2') p3') X.env) = eval (.Subscript (.Name x p1') (.Constant (.int 0) j' p2') p3') X.env := by rfl)
    (hfew : ((backTo cpos' (starEach (e :: []) X.env)).all (fun x => !x.1) && (backToKw cpos' (keywordEach [] X.env)).all (fun x => x.1.isSome)
      && decide ((e :: ([] : List Expr)).length + ([] : List Keyword).length + (if ([] : List Keyword).isEmpty then 0 else 1) < 30)) = true := by rfl)
    (hline' : (apos'.endLine == cpos'.line) = true := by rfl) (hs : starEach (e :: []) X.env = (false, eval e X.env) :: starEach [] X.env := by rfl) (hplain : (backTo cpos' (starEach [] X.env)).any (·.1) = false := by rfl) :
    PMsk X p W rk i M M1 (.Expr (.Call (.Attribute (.Subscript (.Name x p1') (.Constant (.int 0) j' p2') p3') "append" apos') [e] [] cpos') pos' :: rest) (sSeq (sAppX i fe) g) := by
  obtain ⟨hp, t, pt, st⟩ := h
  obtain ⟨te, pe, se⟩ := he
  refine ⟨hp, _, pss_cons (ps_expr (pe_bm PySem.F.plainAttrs_list PySem.F.slot_list_append PySem.F.type_list_append mt_append (pe_ix ix_seq (pe_var hN hv hd hcd) pe_int (by intro _ _; rfl)) (pa_cons pe pa_nil hs) hbase' hfew hline' hs hplain) hs1) pt, fun F0 H0 Γ F σ H De c a b d1 d2 E U hg oa ob q => ?_⟩
  have q : (match sAppX i fe Γ with | .nx Γ' => g Γ' | o => o).post _ _ _ := q
  unfold sAppX at q
  rw [hg] at q
  cases d1 <;> try exact q.elim
  rename_i xs
  obtain ⟨vs, hvs, ev⟩ := own_lst oa
  refine ⟨_, U.at_, .inl ⟨c, _, 0, .ref a, rfl, rfl, .of U.out, rfl, .inl ⟨rfl, vs, .of hvs⟩, se.go E ?_⟩⟩
  have q : (match (fe Γ).go fun _ => if xs.length < sizeLine then Out.nx Γ else .bad with | .nx Γ' => g Γ' | o => o).post _ _ _ := q
  cases h3 : fe Γ with
  | bad => rw [h3] at q; exact q
  | xc c => rw [h3] at q; exact wish_st E q
  | ok d =>
    rw [h3, Ro.go_ok] at q
    intro v F1 H1 x1 r
    by_cases hl : xs.length < sizeLine
    · rw [if_pos hl] at q
      have q : (g Γ).post _ _ _ := q
      have E2 := E.grow x1
      have U2 := U.grow x1
      refine ⟨a, vs, v, rfl, rfl, x1.hh _ _ hvs, by rw [ev.1]; exact hl, ?_⟩
      refine st F0 H0 Γ F1 σ _ De c a b (E2.off U2.ha U2.fa (plainM_own hp)) (U2.chgA (vs ++ [v])) ?_
      cases h4 : g Γ with
      | nx Γ1 => rw [h4] at q; exact fun F2 σ2 H2 s2 E2 => q F2 σ2 H2 (x1.ff.trans s2) E2
      | bad => rw [h4] at q; exact q
      | xc c => rw [h4] at q; exact q
      | rt d => rw [h4] at q; exact q
    · rw [if_neg hl] at q; exact q.elim
/-! what goes on between -/
theorem sm_mid {i : Nat} {st : Stmt} {rest : List Stmt} {f g : SDen} (h : ∀ c a b : Addr, PSk X p W rk (M.set i (.duo c a b)) (M2.set i (.duo c a b)) st f) (hr : PMsk X p W rk i M2 M1 rest g) (hp : plainM M = true := by rfl) (hM : M[i]? = some .any := by rfl) (hM2 : M2[i]? = some .any := by rfl) (hrk : retK rk = true := by rfl) :
    PMsk X p W rk i M M1 (st :: rest) (sSeq f g) := by
  obtain ⟨hp2, t, pt, hst⟩ := hr
  have ps : PS X st (fun De σ H => ∃ c a b, (h c a b).choose De σ H) := ⟨fun pins s σ H D I q => by
    obtain ⟨c, a, b, q⟩ := q
    exact (h c a b).choose_spec.1.run pins s σ H D I q⟩
  refine ⟨hp, _, pss_cons ps pt, fun F0 H0 Γ F σ H De c a b d1 d2 E U hg oa ob q => ⟨c, a, b, ?_⟩⟩
  have hi : i < M.length := (List.getElem?_eq_some_iff.mp hM).1
  have nown : ∀ (M : List Md), plainM M = true → ∀ j : Nat, (M.set i (.duo c a b))[j]? ≠ some .own := fun M hp j z => by
    rw [List.getElem?_set] at z
    split at z
    · split at z <;> cases z
    · exact plainM_own hp j z
  have E' : Env X.K p F H (M.set i (.duo c a b)) Γ F σ H := by
    refine ⟨Ext.refl E.ext.fh, by simp [E.lg], by simp [E.ls], fun j m g s h1 h2 h3 => ?_, fun j k a' h1 => absurd h1 (nown M hp j)⟩
    rw [List.getElem?_set] at h1
    by_cases hj : i = j
    · subst hj
      rw [if_pos rfl, if_pos hi] at h1
      cases h1
      rw [hg] at h2; cases h2
      rw [U.at_] at h3; cases h3
      exact ⟨d1, d2, rfl, rfl, U.out, oa, ob⟩
    · rw [if_neg hj] at h1
      have q := E.slot j m g s h1 h2 h3
      rcases plainM_at hp h1 with e | e
      · subst e; trivial
      · subst e; exact q
  refine (h c a b).choose_spec.2 F H Γ F σ H _ E' ?_
  unfold sSeq at q
  cases h1 : f Γ with
  | bad => rw [h1] at q; exact q
  | xc c => rw [h1] at q; exact fun σ' F' H' e => q σ' F' H' (E.ext.trans e)
  | rt d =>
    rw [h1] at q
    intro v F' H' e r
    refine q v F' H' (E.ext.trans e) ?_
    rcases retK_cases hrk with rfl | rfl
    · exact r
    · exact RelK.from (K := X.K) (k := .new) E.ext.hh r
  | nx Γ1 =>
    rw [h1] at q
    have q : (g Γ1).post _ _ _ := q
    intro F1 σ1 H1 s1 E1
    have hi2 : i < M2.length := (List.getElem?_eq_some_iff.mp hM2).1
    obtain ⟨g1, s1', hg1, hs1, d1', d2', rfl, rfl, hc, oa1, ob1⟩ := E1.getS (i := i) (m := .duo c a b) (by rw [List.getElem?_set, if_pos rfl, if_pos hi2])
    have x1 := E1.ext
    have E2 : Env X.K p F0 H0 M2 Γ1 F1 σ1 H1 := by
      refine ⟨E.ext.trans x1, by have := E1.lg; simpa using this, by have := E1.ls; simpa using this, fun j m g s h1 h2 h3 => ?_, fun j k a' h1 => absurd h1 (plainM_own hp2 j)⟩
      by_cases hj : i = j
      · subst hj
        rw [hM2] at h1; cases h1; trivial
      · have q := E1.slot j m g s (by rw [List.getElem?_set_ne hj]; exact h1) h2 h3
        rcases plainM_at hp2 h1 with e | e
        · subst e; trivial
        · subst e; exact q
    have U1 := U.grow x1
    refine hst F0 H0 Γ1 F1 σ1 H1 De c a b d1' d2' E2 ⟨hs1, U1.out, U1.la, U1.lb, U1.ab, U1.ca, U1.cb, U1.fa, U1.fb, U1.ha, U1.hb⟩ hg1 (oa1.same x1.ff fun _ z => x1.hh _ _ z) (ob1.same x1.ff fun _ z => x1.hh _ _ z) ?_
    cases h2 : g Γ1 with
    | bad => rw [h2] at q; exact q
    | xc c => rw [h2] at q; exact q
    | rt d => rw [h2] at q; exact q
    | nx Γ2 => rw [h2] at q; exact fun F2 σ2 H2 s2 E2 => q F2 σ2 H2 (s1.trans s2) E2
theorem Env.setAny {K : PySem.W.Frag} (E : Env K p F0 H0 M Γ F σ H) (i : Nat) (g : Option D) (s : Option V) : Env K p F0 H0 (M.set i .any) (Γ.set i g) F (σ.set i s) H := by
  refine ⟨E.ext, by simp [E.lg], by simp [E.ls], fun j m g s h1 h2 h3 => ?_, fun j k a h1 h2 h3 h4 => ?_⟩
  · rw [List.getElem?_set] at h1 h2 h3
    by_cases hj : i = j
    · rw [if_pos hj] at h1
      split at h1
      · cases h1; trivial
      · cases h1
    · rw [if_neg hj] at h1 h2 h3
      exact E.slot j m g s h1 h2 h3
  · have nj : i ≠ j := fun z => by
      subst z
      rw [List.getElem?_set] at h1
      rw [if_pos rfl] at h1
      split at h1 <;> cases h1
    have nk : i ≠ k := fun z => by
      subst z
      rw [List.getElem?_set] at h2
      rw [if_pos rfl] at h2
      split at h2 <;> cases h2
    rw [List.getElem?_set_ne nj] at h1 h3
    rw [List.getElem?_set_ne nk] at h2 h4
    exact E.apart j k a h1 h2 h3 h4
def oLst2 : List D → Ro D
  | [.lst xs, .lst ys] => .ok (.lst [.lst xs, .lst ys])
  | _ => .bad
/-- x = [e1, e2], two new lists -/
theorem sk_duo (i : Nat) {M' : List Md} {x : Str} {e1 e2 : Expr} {rest : List Stmt} {f1 f2 : EDen} {g : SDen} {lpos pos pos' : Pos} (h1 : PEk X p W M .new e1 f1) (h2 : PEk X p W M .new e2 f2) (hN : X.N.Nodup) (hr : PMsk X p W rk i M' M1 rest g) (hw : weakB (M.set i .any) M' = true := by rfl) (hi : X.N[i]? = some x := by rfl) (hiM : (M[i]?).isSome = true := by rfl)
    (hx : Loc X.env.scope x := by first | exact Or.inl rfl | exact Or.inr rfl) (hs : swapsWith (.List [e1, e2] lpos) (some (.Name x pos')) pos.line X.env = pure false := by rfl)
    (hf : X.fn x = true ∨ X.env.scope.names.lookup x = some .local := by first | exact .inl rfl | exact .inr rfl)
    (hs1 : starEach (e1 :: [e2]) X.env = (false, eval e1 X.env) :: starEach [e2] X.env := by rfl) (hs2 : starEach (e2 :: []) X.env = (false, eval e2 X.env) :: starEach [] X.env := by rfl) :
    PSsk X p W rk M M1 (.Assign [.Name x pos'] (.List [e1, e2] lpos) pos :: rest) (sSeq (sSet i (eN oLst2 (aC f1 (aC f2 aN)))) g) := by
  obtain ⟨t1, p1, s1⟩ := h1
  obtain ⟨t2, p2, s2⟩ := h2
  obtain ⟨hp, t, pt, st⟩ := hr
  refine ⟨_, pss_cons (ps_set hN hi hx (pe_lst (pa_cons p1 (pa_cons p2 pa_nil hs2) hs1)) hs hf) pt, fun F0 H0 Γ F σ H De E q => s1.go E ?_⟩
  unfold sSeq sSet eN aC aN at q
  cases g1 : f1 Γ with
  | bad => rw [g1] at q; exact q
  | xc c => rw [g1] at q; exact wish_st E q
  | ok d1 =>
    rw [g1] at q
    rintro v F1 H1 x1 ⟨a, rfl, fa, ha, oa⟩
    have E1 := E.grow x1
    refine s2.go E1 ?_
    cases g2 : f2 Γ with
    | bad => rw [g2] at q; exact q
    | xc c => rw [g2] at q; exact wish_st E1 q
    | ok d2 =>
      rw [g2] at q
      rintro v F2 H2 x2 ⟨b, rfl, fb, hb, ob⟩
      have E2 := E1.grow x2
      obtain ⟨ua, hua, nta⟩ := oa.obj
      obtain ⟨ub, hub, ntb⟩ := ob.obj
      cases d1 <;> try exact q.elim
      rename_i xs
      cases d2 <;> try exact q.elim
      rename_i ys
      refine ⟨show 2 ≤ sizeLine from by decide, fun c hc => ?_⟩
      have q : (g (Γ.set i (some (.lst [.lst xs, .lst ys])))).post _ _ _ := q
      obtain ⟨va, hva, eva⟩ := own_lst oa
      obtain ⟨vb, hvb, evb⟩ := own_lst ob
      have hab : a ≠ b := fun z => by subst z; rw [hb] at hua; cases hua
      have hua2 := x2.hh _ _ hua
      have hca : c ≠ a := fun z => by subst z; rw [hc] at hua2; cases hua2
      have hcb : c ≠ b := fun z => by subst z; rw [hc] at hub; cases hub
      have x3 : Ext F2 H2 F2 (upd H2 c (.lst [.ref a, .ref b])) := (Ext.refl x2.fh).new hc
      have E3 := env_weakB ((E2.grow x3).setAny i (some (.lst [.lst xs, .lst ys])) (some (.ref c))) hw
      have fa2 := x2.nw a ua fa hua nta
      have oa2 : Own p F2 (upd H2 c (.lst [.ref a, .ref b])) a (.lst xs) := oa.same x2.ff fun o z => by rw [upd_ne (Ne.symm hca)]; exact x2.hh _ _ z
      have ob2 : Own p F2 (upd H2 c (.lst [.ref a, .ref b])) b (.lst ys) := ob.same (.refl _) fun o z => by rw [upd_ne (Ne.symm hcb)]; exact z
      have im : i < M.length := Classical.byContradiction fun h => by rw [List.getElem?_eq_none (by omega)] at hiM; cases hiM
      have il : i < σ.length := by rw [E.ls]; exact im
      have ig : i < Γ.length := by rw [E.lg]; exact im
      refine st F0 H0 _ F2 _ _ De c a b (.lst xs) (.lst ys) E3 ⟨by simp [il], upd_same, ⟨va, by rw [upd_ne (Ne.symm hca)]; exact x2.hh _ _ hva⟩, ⟨vb, by rw [upd_ne (Ne.symm hcb)]; exact hvb⟩, hab, hca, hcb, fa2, fb, E.ext.hh.free ha, E.ext.hh.free (x1.hh.free hb)⟩ (by simp [ig]) oa2 ob2 ?_
      cases h4 : g (Γ.set i (some (.lst [.lst xs, .lst ys]))) with
      | bad => rw [h4] at q; exact q
      | xc c => rw [h4] at q; exact q
      | rt d => rw [h4] at q; exact q
      | nx Γ2 => rw [h4] at q; exact fun F2 σ2 H2 s2 E2 => q F2 σ2 H2 ((x1.ff.trans x2.ff).trans s2) E2
end
end L2.Nf

namespace L2.Nf
open PySem PySem.Spec PyProof.Rows
/- made_of: 0=part 1=signs 2=sign -/
noncomputable def g_made_of : SDen :=
    (sSeq (sIf (tOr' (tE (e2 oLt (eN oLen (aC (eV 0) aN)) (eC (.int 1)))) (tE (e2 oGt (eN oLen (aC (eV 0) aN)) (eC (.int 8)))))
      (sRet (eC (.bl false)))
      sNil)
    (sSeq (sFor [.any, .bor, .any] 2 (lE (eV 0))
      (sIf (tE (e2 oNotIn (eV 2) (eV 1)))
        (sRet (eC (.bl false)))
        sNil))
    (sRet (eC (.bl true)))))
noncomputable def f_made_of : List D → Ro D := runD 3 .rep g_made_of

/- is_word: 0=part -/
noncomputable def g_is_word : SDen :=
    (sRet (eN f_made_of (aC (eV 0) (aC (eC (.str (PySem.Str.ofString "abcdefghijklmnopqrstuvwxyz"))) aN))))
noncomputable def f_is_word : List D → Ro D := runD 1 .rep g_is_word

/- is_slot: 0=part -/
noncomputable def g_is_slot : SDen :=
    (sRet (eAnd (e2 oEq (eSl oCut (eV 0) none (some (eC (.int 1)))) (eC (.str (PySem.Str.ofString "?")))) (eN f_is_word (aC (eSl oCut (eV 0) (some (eC (.int 1))) none) aN))))
noncomputable def f_is_slot : List D → Ro D := runD 1 .rep g_is_slot

/- slots_of: 0=patterns 1=found 2=pattern 3=part -/
noncomputable def g_slots_of : SDen :=
    (sSeq (sSet 1 (eN oLst aN))
    (sSeq (sFor [.any, .own, .any, .any] 2 (lE (eV 0))
      (sFor [.any, .own, .any, .any] 3 (lE (eSl oCut (eV 2) (some (eC (.int 1))) none))
        (sIf (tAnd' (tE (eN f_is_slot (aC (eV 3) aN))) (tE (e2 oNotIn (eV 3) (eV 1))))
          (sApp 1 (eV 3))
          sNil)))
    (sRet (eV 1))))
noncomputable def f_slots_of : List D → Ro D := runD 4 .rep g_slots_of

/- put_in: 0=pattern 1=filling 2=part -/
noncomputable def g_put_in : SDen :=
    (sRet (e2 oAdd (eN oTup (aC (e2 oIx (eV 0) (eC (.int 0))) aN)) (eN oTuple (aC (eLc 2 (lE (eSl oCut (eV 0) (some (eC (.int 1))) none)) tYes' (eG2 (eV 1) (eV 2) (eV 2))) aN))))
noncomputable def f_put_in : List D → Ro D := runD 3 .rep g_put_in

/- _law_cell_at: 0=_law_script 1=_law_k -/
noncomputable def g__law_cell_at : SDen :=
    (sSeq (sIf (tE (e2 oLt (eV 1) (eN oLen (aC (eV 0) aN))))
      (sRet (e2 oIx (eV 0) (eV 1)))
      sNil)
    (sRet (eC (.int 0))))
noncomputable def f__law_cell_at : List D → Ro D := runD 2 .rep g__law_cell_at

/- _law_word_by: 0=_law_cell 1=_law_k 2=_law_letters 3=_law_j 4=_law_base 5=_law_at 6=_law_tail 7=_law_found -/
noncomputable def g__law_word_by : SDen :=
    (sSeq (sSet 2 (eC (.str (PySem.Str.ofString "abcdefghijklmnopqrstuvwxyz"))))
    (sSeq (sSet 4 (eJoin (eC (.str (PySem.Str.ofString ""))) (eLc 3 (lRng1 (eC (.int 8))) tYes' (e2 oIx (eV 2) (e2 oMod (e2 oAdd (e2 oDiv (eV 0) (eC (.int 208))) (e2 oMul (eC (.int 5)) (eV 3))) (eC (.int 26)))))))
    (sSeq (sSet 5 (e2 oMod (e2 oDiv (eV 0) (eC (.int 26))) (eC (.int 8))))
    (sSeq (sIf (tE (e2 oEq (e2 oMod (eV 0) (eC (.int 4))) (eC (.int 1))))
      (sSeq (sSet 6 (eSl oCut (eV 4) (some (eV 5)) (some (e2 oAdd (eV 5) (e2 oMod (e2 oDiv (eV 0) (eC (.int 5))) (e2 oSub (eC (.int 8)) (eV 5)))))))
      (sRet (e2 oAdd (e2 oAdd (eSl oCut (eV 4) none (some (eV 5))) (e2 oIx (eV 2) (e2 oMod (e2 oAdd (eV 0) (eV 1)) (eC (.int 26))))) (eV 6))))
      sNil)
    (sSeq (sIf (tE (e2 oEq (e2 oMod (eV 0) (eC (.int 4))) (eC (.int 2))))
      (sRet (eSl oCut (eV 4) none (some (e2 oAdd (eC (.int 1)) (eV 1)))))
      sNil)
    (sSeq (sSet 7 (e2 oIx (eV 2) (e2 oMod (e2 oAdd (eV 0) (eV 1)) (eC (.int 26)))))
    (sSeq (sFor [.val, .bor, .val, .any, .any, .any, .any, .val] 3 (lRng1 (e2 oMod (e2 oAdd (e2 oDiv (eV 0) (eC (.int 26))) (e2 oMul (eC (.int 3)) (eV 1))) (eC (.int 8))))
      (sSet 7 (e2 oAdd (eV 7) (e2 oIx (eV 2) (e2 oMod (e2 oAdd (e2 oAdd (e2 oDiv (eV 0) (eC (.int 208))) (e2 oMul (eC (.int 5)) (eV 3))) (eV 1)) (eC (.int 26)))))))
    (sRet (eV 7)))))))))
noncomputable def f__law_word_by : List D → Ro D := runD 8 .rep g__law_word_by

/- _law_thing_by: 0=_law_cell 1=_law_k 2=_law_signs 3=_law_j 4=_law_base 5=_law_at 6=_law_tail 7=_law_found -/
noncomputable def g__law_thing_by : SDen :=
    (sSeq (sSet 2 (eC (.str (PySem.Str.ofString "0123456789abcdefghijklmnopqrstuvwxyz"))))
    (sSeq (sSet 4 (eJoin (eC (.str (PySem.Str.ofString ""))) (eLc 3 (lRng1 (eC (.int 8))) tYes' (e2 oIx (eV 2) (e2 oMod (e2 oAdd (e2 oDiv (eV 0) (eC (.int 288))) (e2 oMul (eC (.int 7)) (eV 3))) (eC (.int 36)))))))
    (sSeq (sSet 5 (e2 oMod (e2 oDiv (eV 0) (eC (.int 36))) (eC (.int 8))))
    (sSeq (sIf (tE (e2 oEq (e2 oMod (eV 0) (eC (.int 4))) (eC (.int 1))))
      (sSeq (sSet 6 (eSl oCut (eV 4) (some (eV 5)) (some (e2 oAdd (eV 5) (e2 oMod (e2 oDiv (eV 0) (eC (.int 5))) (e2 oSub (eC (.int 8)) (eV 5)))))))
      (sRet (e2 oAdd (e2 oAdd (eSl oCut (eV 4) none (some (eV 5))) (e2 oIx (eV 2) (e2 oMod (e2 oAdd (eV 0) (eV 1)) (eC (.int 36))))) (eV 6))))
      sNil)
    (sSeq (sIf (tE (e2 oEq (e2 oMod (eV 0) (eC (.int 4))) (eC (.int 2))))
      (sRet (eSl oCut (eV 4) none (some (e2 oAdd (eC (.int 1)) (eV 1)))))
      sNil)
    (sSeq (sSet 7 (e2 oIx (eV 2) (e2 oMod (e2 oAdd (eV 0) (eV 1)) (eC (.int 36)))))
    (sSeq (sFor [.val, .bor, .val, .any, .any, .any, .any, .val] 3 (lRng1 (e2 oMod (e2 oAdd (e2 oDiv (eV 0) (eC (.int 36))) (e2 oMul (eC (.int 3)) (eV 1))) (eC (.int 8))))
      (sSet 7 (e2 oAdd (eV 7) (e2 oIx (eV 2) (e2 oMod (e2 oAdd (e2 oAdd (e2 oDiv (eV 0) (eC (.int 288))) (e2 oMul (eC (.int 7)) (eV 3))) (eV 1)) (eC (.int 36)))))))
    (sRet (eV 7)))))))))
noncomputable def f__law_thing_by : List D → Ro D := runD 8 .rep g__law_thing_by

/- _law_pattern: 0=_law_cell 1=_law_words 2=_law_parts 3=_law_one 4=_law_found 5=_law_k -/
noncomputable def g__law_pattern : SDen :=
    (sSeq (sSet 3 (e2 oMod (e2 oMul (eV 0) (eC (.int 48271))) (eC (.int 2147483647))))
    (sSeq (sSet 4 (eN oLst (aC (e2 oIx (eV 1) (e2 oMod (eV 0) (eC (.int 4)))) aN)))
    (sSeq (sFor [.any, .any, .bor, .val, .own, .any] 5 (lRng1 (e2 oMod (e2 oDiv (eV 0) (eC (.int 4))) (eC (.int 4))))
      (sSeq (sApp 4 (e2 oIx (eV 2) (e2 oMod (eV 3) (eN oLen (aC (eV 2) aN)))))
      (sSet 3 (e2 oDiv (eV 3) (eN oLen (aC (eV 2) aN))))))
    (sRet (eN oTuple (aC (eV 4) aN))))))
noncomputable def f__law_pattern : List D → Ro D := runD 6 .rep g__law_pattern

/- _law_slots: 0=_law_patterns 1=_law_found 2=_law_pattern_here 3=_law_part -/
noncomputable def g__law_slots : SDen :=
    (sSeq (sSet 1 (eN oLst aN))
    (sSeq (sFor [.any, .own, .any, .any] 2 (lE (eV 0))
      (sFor [.any, .own, .any, .any] 3 (lE (eSl oCut (eV 2) (some (eC (.int 1))) none))
        (sIf (tAnd' (tE (e2 oEq (e2 oIx (eV 3) (eC (.int 0))) (eC (.str (PySem.Str.ofString "?"))))) (tE (e2 oNotIn (eV 3) (eV 1))))
          (sApp 1 (eV 3))
          sNil)))
    (sRet (eV 1))))
noncomputable def f__law_slots : List D → Ro D := runD 4 .rep g__law_slots

/- _law_put: 0=_law_pattern_here 1=_law_filling 2=_law_found 3=_law_part -/
noncomputable def g__law_put : SDen :=
    (sSeq (sSet 2 (eN oLst (aC (e2 oIx (eV 0) (eC (.int 0))) aN)))
    (sSeq (sFor [.any, .bor, .own, .any] 3 (lE (eSl oCut (eV 0) (some (eC (.int 1))) none))
      (sIf (tE (e2 oIn (eV 3) (eV 1)))
        (sApp 2 (e2 oIx (eV 1) (eV 3)))
        (sApp 2 (eV 3))))
    (sRet (eN oTuple (aC (eV 2) aN)))))
noncomputable def f__law_put : List D → Ro D := runD 4 .rep g__law_put

/- law_k01: 0=_law_script 1=_law_k 2=_law_words 3=_law_things 4=_law_slots_here 5=_law_told 6=_law_filling 7=_law_patterns 8=_law_handed 9=_law_found 10=_law_kept 11=_law_pattern_here 12=_law_made 13=_law_cell -/
noncomputable def g_law_k01 : SDen :=
    (sSeq (sSet 2 (eLc 1 (lRng1 (eC (.int 4))) tYes' (eN f__law_word_by (aC (eN f__law_cell_at (aC (eV 0) (aC (eC (.int 0)) aN))) (aC (eV 1) aN)))))
    (sSeq (sSet 3 (eLc 1 (lRng1 (eC (.int 3))) tYes' (eN f__law_thing_by (aC (eN f__law_cell_at (aC (eV 0) (aC (eC (.int 1)) aN))) (aC (eV 1) aN)))))
    (sSeq (sSet 4 (eLc 1 (lRng1 (eC (.int 3))) tYes' (e2 oAdd (eC (.str (PySem.Str.ofString "?"))) (eN f__law_word_by (aC (eN f__law_cell_at (aC (eV 0) (aC (eC (.int 2)) aN))) (aC (eV 1) aN))))))
    (sSeq (sSet 5 (eN f__law_cell_at (aC (eV 0) (aC (eC (.int 3)) aN))))
    (sSeq (sSet 6 (eC (.dK [])))
    (sSeq (sFor [.scr, .any, .val, .val, .val, .val, .own, .any, .any, .any, .any, .any, .any, .any] 1 (lRng1 (eC (.int 3)))
      (sIf (tE (e2 oEq (e2 oMod (e2 oDiv (eV 5) (e2 oIx (eN oLst (aC (eC (.int 1)) (aC (eC (.int 2)) (aC (eC (.int 4)) aN)))) (eV 1))) (eC (.int 2))) (eC (.int 1))))
        (sPutD 6 (e2 oIx (eV 4) (eV 1)) (e2 oIx (eV 3) (e2 oMod (e2 oAdd (e2 oDiv (eV 5) (eC (.int 8))) (eV 1)) (eC (.int 3)))))
        sNil))
    (sSeq (sSet 7 (eLc 13 (lE (eSl oCut (eV 0) (some (eC (.int 4))) (some (eC (.int 8))))) tYes' (eN f__law_pattern (aC (eV 13) (aC (eV 2) (aC (e2 oAdd (eSl oCut (eV 3) none (some (eC (.int 2)))) (eV 4)) aN))))))
    (sSeq (sSet 8 (eN oList (aC (eV 7) aN)))
    (sSeq (sSet 9 (eN f_slots_of (aC (eV 8) aN)))
    (sSeq (sIf (tOr' (tNot' (tE (e1 (oIsi "list") (eV 9)))) (tOr' (tE (e2 oNe (eV 9) (eN f__law_slots (aC (eV 7) aN)))) (tE (e2 oNe (eN f_slots_of (aC (eN oTuple (aC (eV 7) aN)) aN)) (eV 9)))))
      (sRet (eC (.bl false)))
      sNil)
    (sSeq (sSet 10 (e1 oItems (eV 6)))
    (sSeq (sFor [.any, .any, .any, .any, .any, .any, .own, .val, .val, .any, .val, .any, .any, .any] 11 (lE (eV 7))
      (sSeq (sSet 12 (eN f_put_in (aC (eV 11) (aC (eV 6) aN))))
      (sIf (tOr' (tNot' (tE (e1 (oIsi "tuple") (eV 12)))) (tE (e2 oNe (eV 12) (eN f__law_put (aC (eV 11) (aC (eV 6) aN))))))
        (sRet (eC (.bl false)))
        sNil)))
    (sRet (eAnd (e2 oEq (eV 8) (eV 7)) (e2 oEq (e1 oItems (eV 6)) (eV 10))))))))))))))))
noncomputable def f_law_k01 : List D → Ro D := runD 14 .rep g_law_k01

/- fitted: 0=pattern 1=fact 2=filling 3=k 4=part -/
noncomputable def g_fitted : SDen :=
    (sSeq (sIf (tOr' (tE (e2 oNe (eN oLen (aC (eV 0) aN)) (eN oLen (aC (eV 1) aN)))) (tE (e2 oNe (e2 oIx (eV 0) (eC (.int 0))) (e2 oIx (eV 1) (eC (.int 0))))))
      (sRet (eC .non))
      sNil)
    (sSeq (sSet 2 (eC (.dK [])))
    (sSeq (sFor [.bor, .bor, .own, .any, .any] 3 (lRng2 (eC (.int 1)) (eN oLen (aC (eV 0) aN)))
      (sSeq (sSet 4 (e2 oIx (eV 0) (eV 3)))
      (sSeq (sIf (tE (eN f_is_slot (aC (eV 4) aN)))
        (sSetd 4 2 (eV 4) (e2 oIx (eV 1) (eV 3)))
        sNil)
      (sIf (tE (e2 oNe (eV 4) (e2 oIx (eV 1) (eV 3))))
        (sRet (eC .non))
        sNil))))
    (sRet (eV 2)))))
noncomputable def f_fitted : List D → Ro D := runD 5 .rep g_fitted

/- _law_word_by_k02: 0=_law_cell 1=_law_k 2=_law_letters 3=_law_j 4=_law_base 5=_law_found -/
noncomputable def g__law_word_by_k02 : SDen :=
    (sSeq (sSet 2 (eC (.str (PySem.Str.ofString "abcdefghijklmnopqrstuvwxyz"))))
    (sSeq (sSet 4 (eJoin (eC (.str (PySem.Str.ofString ""))) (eLc 3 (lRng1 (eC (.int 8))) tYes' (e2 oIx (eV 2) (e2 oMod (e2 oAdd (e2 oDiv (eV 0) (eC (.int 208))) (e2 oMul (eC (.int 5)) (eV 3))) (eC (.int 26)))))))
    (sSeq (sIf (tE (e2 oEq (e2 oMod (eV 0) (eC (.int 4))) (eC (.int 1))))
      (sRet (e2 oAdd (eSl oCut (eV 4) none (some (e2 oMod (e2 oDiv (eV 0) (eC (.int 26))) (eC (.int 8))))) (e2 oIx (eV 2) (e2 oMod (e2 oAdd (eV 0) (eV 1)) (eC (.int 26))))))
      sNil)
    (sSeq (sIf (tE (e2 oEq (e2 oMod (eV 0) (eC (.int 4))) (eC (.int 2))))
      (sRet (eSl oCut (eV 4) none (some (e2 oAdd (eC (.int 1)) (eV 1)))))
      sNil)
    (sSeq (sSet 5 (e2 oIx (eV 2) (e2 oMod (e2 oAdd (eV 0) (eV 1)) (eC (.int 26)))))
    (sSeq (sFor [.val, .bor, .val, .any, .any, .val] 3 (lRng1 (e2 oMod (e2 oAdd (e2 oDiv (eV 0) (eC (.int 26))) (e2 oMul (eC (.int 3)) (eV 1))) (eC (.int 8))))
      (sSet 5 (e2 oAdd (eV 5) (e2 oIx (eV 2) (e2 oMod (e2 oAdd (e2 oAdd (e2 oDiv (eV 0) (eC (.int 208))) (e2 oMul (eC (.int 5)) (eV 3))) (eV 1)) (eC (.int 26)))))))
    (sRet (eV 5))))))))
noncomputable def f__law_word_by_k02 : List D → Ro D := runD 6 .rep g__law_word_by_k02

/- _law_thing_by_k02: 0=_law_cell 1=_law_k 2=_law_signs 3=_law_j 4=_law_base 5=_law_found -/
noncomputable def g__law_thing_by_k02 : SDen :=
    (sSeq (sSet 2 (eC (.str (PySem.Str.ofString "0123456789abcdefghijklmnopqrstuvwxyz"))))
    (sSeq (sSet 4 (eJoin (eC (.str (PySem.Str.ofString ""))) (eLc 3 (lRng1 (eC (.int 8))) tYes' (e2 oIx (eV 2) (e2 oMod (e2 oAdd (e2 oDiv (eV 0) (eC (.int 288))) (e2 oMul (eC (.int 7)) (eV 3))) (eC (.int 36)))))))
    (sSeq (sIf (tE (e2 oEq (e2 oMod (eV 0) (eC (.int 4))) (eC (.int 1))))
      (sRet (e2 oAdd (eSl oCut (eV 4) none (some (e2 oMod (e2 oDiv (eV 0) (eC (.int 36))) (eC (.int 8))))) (e2 oIx (eV 2) (e2 oMod (e2 oAdd (eV 0) (eV 1)) (eC (.int 36))))))
      sNil)
    (sSeq (sIf (tE (e2 oEq (e2 oMod (eV 0) (eC (.int 4))) (eC (.int 2))))
      (sRet (eSl oCut (eV 4) none (some (e2 oAdd (eC (.int 1)) (eV 1)))))
      sNil)
    (sSeq (sSet 5 (e2 oIx (eV 2) (e2 oMod (e2 oAdd (eV 0) (eV 1)) (eC (.int 36)))))
    (sSeq (sFor [.val, .bor, .val, .any, .any, .val] 3 (lRng1 (e2 oMod (e2 oAdd (e2 oDiv (eV 0) (eC (.int 36))) (e2 oMul (eC (.int 3)) (eV 1))) (eC (.int 8))))
      (sSet 5 (e2 oAdd (eV 5) (e2 oIx (eV 2) (e2 oMod (e2 oAdd (e2 oAdd (e2 oDiv (eV 0) (eC (.int 288))) (e2 oMul (eC (.int 7)) (eV 3))) (eV 1)) (eC (.int 36)))))))
    (sRet (eV 5))))))))
noncomputable def f__law_thing_by_k02 : List D → Ro D := runD 6 .rep g__law_thing_by_k02

/- _law_fact: 0=_law_pattern_here 1=_law_slots 2=_law_things 3=_law_pick 4=_law_words 5=_law_found 6=_law_part -/
noncomputable def g__law_fact : SDen :=
    (sSeq (sSet 5 (eN oLst (aC (e2 oIx (eV 0) (eC (.int 0))) aN)))
    (sSeq (sFor [.any, .bor, .bor, .val, .bor, .own, .any] 6 (lE (eSl oCut (eV 0) (some (eC (.int 1))) none))
      (sIf (tE (e2 oIn (eV 6) (eV 1)))
        (sApp 5 (e2 oIx (eV 2) (eIndex (eV 1) (eV 6))))
        (sApp 5 (eV 6))))
    (sSeq (sIf (tAnd' (tE (e2 oEq (e2 oMod (eV 3) (eC (.int 6))) (eC (.int 1)))) (tE (e2 oGt (eN oLen (aC (eV 5) aN)) (eC (.int 1)))))
      (sPutL 5 (e2 oAdd (eC (.int 1)) (e2 oMod (e2 oDiv (eV 3) (eC (.int 6))) (e2 oSub (eN oLen (aC (eV 5) aN)) (eC (.int 1))))) (e2 oIx (eV 2) (eC (.int 3))))
      sNil)
    (sSeq (sIf (tE (e2 oEq (e2 oMod (eV 3) (eC (.int 6))) (eC (.int 3))))
      (sPutL 5 (eC (.int 0)) (e2 oIx (eV 4) (e2 oMod (e2 oDiv (eV 3) (eC (.int 6))) (eC (.int 4)))))
      sNil)
    (sSeq (sIf (tAnd' (tE (e2 oEq (e2 oMod (eV 3) (eC (.int 6))) (eC (.int 5)))) (tE (e2 oLt (eN oLen (aC (eV 5) aN)) (eC (.int 4)))))
      (sSet 5 (e2 oCat (eV 5) (eN oLst (aC (e2 oIx (eV 2) (e2 oMod (e2 oDiv (eV 3) (eC (.int 6))) (eC (.int 3)))) aN))))
      sNil)
    (sSeq (sIf (tAnd' (tE (e2 oEq (e2 oMod (eV 3) (eC (.int 6))) (eC (.int 4)))) (tE (e2 oGt (eN oLen (aC (eV 5) aN)) (eC (.int 1)))))
      (sSet 5 (eSl oCutL (eV 5) none (some (e1 oNeg (eC (.int 1))))))
      sNil)
    (sRet (eN oTuple (aC (eV 5) aN)))))))))
noncomputable def f__law_fact : List D → Ro D := runD 7 .rep g__law_fact

/- _law_due: 0=_law_pattern_here 1=_law_fact_here 2=_law_filling 3=_law_k -/
noncomputable def g__law_due : SDen :=
    (sSeq (sIf (tOr' (tE (e2 oNe (eN oLen (aC (eV 0) aN)) (eN oLen (aC (eV 1) aN)))) (tE (e2 oNe (e2 oIx (eV 0) (eC (.int 0))) (e2 oIx (eV 1) (eC (.int 0))))))
      (sRet (eC .non))
      sNil)
    (sSeq (sSet 2 (eC (.dK [])))
    (sSeq (sFor [.bor, .bor, .own, .any] 3 (lRng2 (eC (.int 1)) (eN oLen (aC (eV 1) aN)))
      (sIf (tE (e2 oNe (e2 oIx (e2 oIx (eV 0) (eV 3)) (eC (.int 0))) (eC (.str (PySem.Str.ofString "?")))))
        (sIf (tE (e2 oNe (e2 oIx (eV 0) (eV 3)) (e2 oIx (eV 1) (eV 3))))
          (sRet (eC .non))
          sNil)
        (sIf (tE (e2 oNotIn (e2 oIx (eV 0) (eV 3)) (eV 2)))
          (sPutD 2 (e2 oIx (eV 0) (eV 3)) (e2 oIx (eV 1) (eV 3)))
          (sIf (tE (e2 oNe (e2 oIx (eV 2) (e2 oIx (eV 0) (eV 3))) (e2 oIx (eV 1) (eV 3))))
            (sRet (eC .non))
            sNil))))
    (sRet (eV 2)))))
noncomputable def f__law_due : List D → Ro D := runD 4 .rep g__law_due

/- law_k02: 0=_law_script 1=_law_words 2=_law_things 3=_law_slots 4=_law_same 5=_law_filled 6=_law_pattern_here 7=_law_fact_here 8=_law_due_here 9=_law_found 10=_law_k -/
noncomputable def g_law_k02 : SDen :=
    (sSeq (sSet 1 (eLc 10 (lRng1 (eC (.int 4))) tYes' (eN f__law_word_by_k02 (aC (eN f__law_cell_at (aC (eV 0) (aC (eC (.int 0)) aN))) (aC (eV 10) aN)))))
    (sSeq (sSet 2 (eLc 10 (lRng1 (eC (.int 4))) tYes' (eN f__law_thing_by_k02 (aC (eN f__law_cell_at (aC (eV 0) (aC (eC (.int 1)) aN))) (aC (eV 10) aN)))))
    (sSeq (sSet 3 (eLc 10 (lRng1 (eC (.int 3))) tYes' (e2 oAdd (eC (.str (PySem.Str.ofString "?"))) (eN f__law_word_by_k02 (aC (eN f__law_cell_at (aC (eV 0) (aC (eC (.int 2)) aN))) (aC (eV 10) aN))))))
    (sSeq (sSet 4 (eN f__law_cell_at (aC (eV 0) (aC (eC (.int 5)) aN))))
    (sSeq (sSet 5 (eN oLst (aC (e2 oIx (eV 2) (e2 oMod (eV 4) (eC (.int 3)))) (aC (e2 oIx (eV 2) (e2 oMod (e2 oDiv (eV 4) (eC (.int 3))) (eC (.int 3)))) (aC (e2 oIx (eV 2) (e2 oMod (e2 oDiv (eV 4) (eC (.int 9))) (eC (.int 3)))) (aC (e2 oIx (eV 2) (eC (.int 3))) aN))))))
    (sSeq (sSet 6 (eN f__law_pattern (aC (eN f__law_cell_at (aC (eV 0) (aC (eC (.int 3)) aN))) (aC (eV 1) (aC (e2 oAdd (e2 oAdd (eSl oCut (eV 2) none (some (eC (.int 1)))) (eV 3)) (eSl oCut (eV 3) none (some (eC (.int 1))))) aN)))))
    (sSeq (sSet 7 (eN f__law_fact (aC (eV 6) (aC (eV 3) (aC (eV 5) (aC (eN f__law_cell_at (aC (eV 0) (aC (eC (.int 4)) aN))) (aC (eV 1) aN)))))))
    (sSeq (sSet 8 (eN f__law_due (aC (eV 6) (aC (eV 7) aN))))
    (sSeq (sSet 9 (eN f_fitted (aC (eV 6) (aC (eV 7) aN))))
    (sSeq (sIf (tE (e2 oIsN (eV 8) (eC .non)))
      (sRet (e2 oIsN (eV 9) (eC .non)))
      sNil)
    (sRet (eAnd (e1 (oIsi "dict") (eV 9)) (e2 oEqK (eV 9) (eV 8))))))))))))))
noncomputable def f_law_k02 : List D → Ro D := runD 11 .rep g_law_k02

/- things_of: 0=given 1=rules 2=found 3=fact 4=part 5=rule 6=pattern -/
noncomputable def g_things_of : SDen :=
    (sSeq (sSet 2 (eC (.dK [])))
    (sSeq (sFor [.any, .bor, .own, .any, .any, .any, .any] 3 (lE (eV 0))
      (sFor [.any, .bor, .own, .any, .any, .any, .any] 4 (lE (eSl oCut (eV 3) (some (eC (.int 1))) none))
        (sPutD 2 (eV 4) (eC (.bl true)))))
    (sSeq (sFor [.any, .any, .own, .any, .any, .any, .any] 5 (lE (eV 1))
      (sFor [.any, .any, .own, .any, .any, .any, .any] 6 (lE (e2 oAdd (e2 oAdd (eN oTup (aC (e2 oIx (eV 5) (eC (.int 0))) aN)) (e2 oIx (eV 5) (eC (.int 1)))) (e2 oIx (eV 5) (eC (.int 2)))))
        (sFor [.any, .any, .own, .any, .any, .any, .any] 4 (lE (eSl oCut (eV 6) (some (eC (.int 1))) none))
          (sIf (tNot' (tE (eN f_is_slot (aC (eV 4) aN))))
            (sPutD 2 (eV 4) (eC (.bl true)))
            sNil))))
    (sRet (eN oSorted (aC (eN oList (aC (eV 2) aN)) aN))))))
noncomputable def f_things_of : List D → Ro D := runD 7 .rep g_things_of

/- rows_of: 0=things 1=size 2=rows 3=k 4=longer 5=row 6=thing -/
noncomputable def g_rows_of : SDen :=
    (sSeq (sSet 2 (eN oLst (aC (eN oTup aN) aN)))
    (sSeq (sFor [.bor, .any, .val, .any, .any, .any, .any] 3 (lRng1 (eV 1))
      (sSeq (sSet 4 (eN oLst aN))
      (sSeq (sFor [.bor, .any, .any, .any, .own, .any, .any] 5 (lE (eV 2))
        (sFor [.bor, .any, .any, .any, .own, .val, .any] 6 (lE (eV 0))
          (sApp 4 (e2 oAdd (eV 5) (eN oTup (aC (eV 6) aN))))))
      (sSet 2 (eV 4)))))
    (sRet (eV 2))))
noncomputable def f_rows_of : List D → Ro D := runD 7 .rep g_rows_of

/- filled_by: 0=at 1=rule 2=names 3=row 4=filling 5=k 6=yeses 7=nots 8=pattern -/
noncomputable def g_filled_by : SDen :=
    (sSeq (sSet 4 (eC (.dK [])))
    (sSeq (sFor [.val, .bor, .bor, .bor, .own, .any, .any, .any, .any] 5 (lRng1 (eN oLen (aC (eV 2) aN)))
      (sPutD 4 (e2 oIx (eV 2) (eV 5)) (e2 oIx (eV 3) (eV 5))))
    (sSeq (sSet 6 (eN oTuple (aC (eLc 8 (lE (e2 oIx (eV 1) (eC (.int 1)))) tYes' (eN f_put_in (aC (eV 8) (aC (eV 4) aN)))) aN)))
    (sSeq (sSet 7 (eN oTuple (aC (eLc 8 (lE (e2 oIx (eV 1) (eC (.int 2)))) tYes' (eN f_put_in (aC (eV 8) (aC (eV 4) aN)))) aN)))
    (sRet (eN oTup (aC (eV 0) (aC (eN f_put_in (aC (e2 oIx (eV 1) (eC (.int 0))) (aC (eV 4) aN))) (aC (eV 6) (aC (eV 7) aN))))))))))
noncomputable def f_filled_by : List D → Ro D := runD 9 .rep g_filled_by

/- filled_rules: 0=given 1=rules 2=things 3=found 4=at 5=names 6=row -/
noncomputable def g_filled_rules : SDen :=
    (sSeq (sSet 2 (eN f_things_of (aC (eV 0) (aC (eV 1) aN))))
    (sSeq (sSet 3 (eN oLst aN))
    (sSeq (sFor [.any, .bor, .val, .own, .any, .any, .any] 4 (lRng1 (eN oLen (aC (eV 1) aN)))
      (sSeq (sSet 5 (eN f_slots_of (aC (e2 oIx (e2 oIx (eV 1) (eV 4)) (eC (.int 1))) aN)))
      (sFor [.any, .bor, .val, .own, .val, .val, .any] 6 (lE (eN f_rows_of (aC (eV 2) (aC (eN oLen (aC (eV 5) aN)) aN))))
        (sApp 3 (eN f_filled_by (aC (eV 4) (aC (e2 oIx (eV 1) (eV 4)) (aC (eV 5) (aC (eV 6) aN)))))))))
    (sRet (eV 3)))))
noncomputable def f_filled_rules : List D → Ro D := runD 7 .rep g_filled_rules

/- _law_whole: 0=_law_found -/
noncomputable def g__law_whole : SDen :=
    (sRet (eAnd (e1 (oIsi "int") (eV 0)) (eNot (e1 (oIsi "bool") (eV 0)))))
noncomputable def f__law_whole : List D → Ro D := runD 1 .rep g__law_whole

/- _law_atom: 0=_law_number 1=_law_words 2=_law_parts 3=_law_kind 4=_law_one 5=_law_other -/
noncomputable def g__law_atom : SDen :=
    (sSeq (sSet 3 (e2 oMod (eV 0) (eC (.int 5))))
    (sSeq (sSet 4 (e2 oIx (eV 2) (e2 oMod (e2 oDiv (eV 0) (eC (.int 5))) (eN oLen (aC (eV 2) aN)))))
    (sSeq (sSet 5 (e2 oIx (eV 2) (e2 oMod (e2 oDiv (e2 oDiv (eV 0) (eC (.int 5))) (eN oLen (aC (eV 2) aN))) (eN oLen (aC (eV 2) aN)))))
    (sSeq (sIf (tE (e2 oLt (eV 3) (eC (.int 2))))
      (sRet (eN oTup (aC (e2 oIx (eV 1) (eV 3)) (aC (eV 4) aN))))
      sNil)
    (sSeq (sIf (tE (e2 oEq (eV 3) (eC (.int 2))))
      (sRet (eN oTup (aC (e2 oIx (eV 1) (eC (.int 2))) (aC (eV 4) (aC (eV 5) aN)))))
      sNil)
    (sSeq (sIf (tE (e2 oEq (eV 3) (eC (.int 3))))
      (sRet (eN oTup (aC (e2 oIx (eV 1) (eC (.int 3))) aN)))
      sNil)
    (sRet (eN oTup (aC (e2 oIx (eV 1) (eC (.int 0))) (aC (eV 4) (aC (eV 5) (aC (eV 4) aN))))))))))))
noncomputable def f__law_atom : List D → Ro D := runD 6 .rep g__law_atom

/- _law_rule: 0=_law_cell 1=_law_words 2=_law_things_here 3=_law_names 4=_law_one 5=_law_two 6=_law_three 7=_law_slots_here 8=_law_parts 9=_law_yeses 10=_law_nots 11=_law_k 12=_law_more 13=_law_at -/
noncomputable def g__law_rule : SDen :=
    (sSeq (sSet 4 (e2 oMod (e2 oMul (eV 0) (eC (.int 48271))) (eC (.int 2147483647))))
    (sSeq (sSet 5 (e2 oMod (e2 oMul (eV 0) (eC (.int 69621))) (eC (.int 998244353))))
    (sSeq (sSet 6 (e2 oMod (e2 oMul (eV 0) (eC (.int 16807))) (eC (.int 1000000007))))
    (sSeq (sSet 7 (eSl oCut (eV 3) none (some (e2 oIx (eN oLst (aC (eC (.int 0)) (aC (eC (.int 0)) (aC (eC (.int 1)) (aC (eC (.int 2)) (aC (eC (.int 0)) (aC (eC (.int 1)) (aC (eC (.int 2)) (aC (eC (.int 3)) aN))))))))) (e2 oMod (eV 0) (eC (.int 8)))))))
    (sSeq (sSet 8 (e2 oAdd (eV 2) (eV 7)))
    (sSeq (sSet 9 (eN oLst aN))
    (sSeq (sIf (tE (e2 oEq (eN oLen (aC (eV 7) aN)) (eC (.int 1))))
      (sApp 9 (eN oTup (aC (e2 oIx (eV 1) (e2 oMod (e2 oDiv (eV 5) (eC (.int 2))) (eC (.int 2)))) (aC (e2 oIx (eV 7) (eC (.int 0))) aN))))
      sNil)
    (sSeq (sIf (tE (e2 oEq (eN oLen (aC (eV 7) aN)) (eC (.int 2))))
      (sSeq (sSet 9 (eN oLst (aC (eN oTup (aC (e2 oIx (eV 1) (eC (.int 2))) (aC (e2 oIx (eV 7) (e2 oMod (eV 4) (eC (.int 2)))) (aC (e2 oIx (eV 7) (e2 oSub (eC (.int 1)) (e2 oMod (eV 4) (eC (.int 2))))) aN)))) aN)))
      (sIf (tE (e2 oEq (e2 oMod (e2 oDiv (eV 5) (eC (.int 3))) (eC (.int 2))) (eC (.int 1))))
        (sSet 9 (eN oLst (aC (eN oTup (aC (e2 oIx (eV 1) (eC (.int 1))) (aC (e2 oIx (eV 7) (eC (.int 0))) aN))) (aC (eN oTup (aC (e2 oIx (eV 1) (eC (.int 0))) (aC (e2 oIx (eV 7) (eC (.int 1))) aN))) aN))))
        sNil))
      sNil)
    (sSeq (sIf (tE (e2 oEq (eN oLen (aC (eV 7) aN)) (eC (.int 3))))
      (sSeq (sSet 9 (eN oLst (aC (eN oTup (aC (e2 oIx (eV 1) (eC (.int 0))) (aC (e2 oIx (eV 7) (e2 oMod (eV 4) (eC (.int 3)))) (aC (e2 oIx (eV 7) (e2 oMod (e2 oAdd (eV 4) (eC (.int 1))) (eC (.int 3)))) (aC (e2 oIx (eV 7) (e2 oMod (e2 oAdd (eV 4) (eC (.int 2))) (eC (.int 3)))) aN))))) aN)))
      (sIf (tE (e2 oGt (e2 oMod (e2 oDiv (eV 5) (eC (.int 3))) (eC (.int 3))) (eC (.int 0))))
        (sSet 9 (eN oLst (aC (eN oTup (aC (e2 oIx (eV 1) (eC (.int 1))) (aC (e2 oIx (eV 7) (e2 oMod (eV 4) (eC (.int 3)))) aN))) (aC (eN oTup (aC (e2 oIx (eV 1) (eC (.int 2))) (aC (e2 oIx (eV 7) (e2 oMod (e2 oAdd (eV 4) (eC (.int 1))) (eC (.int 3)))) (aC (e2 oIx (eV 7) (e2 oMod (e2 oAdd (eV 4) (eC (.int 2))) (eC (.int 3)))) aN)))) aN))))
        sNil))
      sNil)
    (sSeq (sIf (tE (e2 oEq (e2 oMod (eV 5) (eC (.int 2))) (eC (.int 1))))
      (sApp 9 (eN f__law_atom (aC (e2 oDiv (eV 5) (eC (.int 4))) (aC (eV 1) (aC (eV 8) aN)))))
      sNil)
    (sSeq (sSet 10 (eN oLst aN))
    (sSeq (sFor [.any, .bor, .any, .any, .val, .val, .val, .any, .val, .own, .own, .any, .any, .any] 11 (lRng1 (e2 oIx (eN oLst (aC (eC (.int 0)) (aC (eC (.int 1)) (aC (eC (.int 1)) (aC (eC (.int 2)) aN))))) (e2 oMod (eV 6) (eC (.int 4)))))
      (sApp 10 (eN f__law_atom (aC (e2 oDiv (e2 oDiv (eV 6) (eC (.int 4))) (e2 oAdd (eC (.int 1)) (e2 oMul (eC (.int 96)) (eV 11)))) (aC (eV 1) (aC (eV 8) aN))))))
    (sSeq (sSet 12 (eLc 11 (lRng1 (e2 oIx (eN oLst (aC (eC (.int 0)) (aC (eC (.int 0)) (aC (eC (.int 0)) (aC (eC (.int 0)) (aC (eC (.int 0)) (aC (eC (.int 2)) (aC (eC (.int 2)) (aC (eC (.int 4)) aN))))))))) (e2 oMod (e2 oDiv (eV 5) (eC (.int 7))) (eC (.int 8))))) tYes' (eN f__law_atom (aC (e2 oDiv (e2 oDiv (eV 4) (eC (.int 11))) (e2 oAdd (eC (.int 1)) (e2 oMul (eC (.int 50)) (eV 11)))) (aC (eV 1) (aC (eV 8) aN))))))
    (sSeq (sSet 12 (eSl oCut (eV 12) none (some (e2 oSub (e2 oSub (eC (.int 6)) (eN oLen (aC (eV 9) aN))) (eN oLen (aC (eV 10) aN))))))
    (sSeq (sIf (tE (e2 oEq (e2 oMod (e2 oDiv (eV 5) (eC (.int 56))) (eC (.int 2))) (eC (.int 1))))
      (sRet (eN oTup (aC (eN f__law_atom (aC (e2 oDiv (eV 4) (eC (.int 2))) (aC (eV 1) (aC (eV 8) aN)))) (aC (eN oTuple (aC (eV 9) aN)) (aC (eN oTuple (aC (e2 oAdd (eV 10) (eV 12)) aN)) aN)))))
      sNil)
    (sSeq (sSet 9 (e2 oCat (eV 9) (eV 12)))
    (sSeq (sSet 13 (e2 oMod (e2 oDiv (eV 4) (eC (.int 77))) (e2 oAdd (eC (.int 1)) (eN oLen (aC (eV 9) aN)))))
    (sRet (eN oTup (aC (eN f__law_atom (aC (e2 oDiv (eV 4) (eC (.int 2))) (aC (eV 1) (aC (eV 8) aN)))) (aC (eN oTuple (aC (e2 oAdd (eSl oCut (eV 9) (some (eV 13)) none) (eSl oCut (eV 9) none (some (eV 13)))) aN)) (aC (eN oTuple (aC (eV 10) aN)) aN))))))))))))))))))))))
noncomputable def f__law_rule : List D → Ro D := runD 14 .rep g__law_rule

/- _law_program: 0=_law_script 1=_law_words 2=_law_size 3=_law_things_here 4=_law_sign 5=_law_names 6=_law_many 7=_law_given 8=_law_rules 9=_law_k 10=_law_cell -/
noncomputable def g__law_program : SDen :=
    (sSeq (sSet 1 (eLc 9 (lRng1 (eC (.int 4))) tYes' (eN f__law_word_by (aC (eN f__law_cell_at (aC (eV 0) (aC (eC (.int 0)) aN))) (aC (eV 9) aN)))))
    (sSeq (sSet 2 (e2 oAdd (eC (.int 1)) (e2 oMod (eN f__law_cell_at (aC (eV 0) (aC (eC (.int 1)) aN))) (eC (.int 3)))))
    (sSeq (sSet 3 (eLc 9 (lRng1 (eV 2)) tYes' (eN f__law_thing_by (aC (e2 oDiv (eN f__law_cell_at (aC (eV 0) (aC (eC (.int 1)) aN))) (eC (.int 3))) (aC (eV 9) aN)))))
    (sSeq (sIf (tE (e2 oEq (e2 oMod (e2 oDiv (eN f__law_cell_at (aC (eV 0) (aC (eC (.int 0)) aN))) (eC (.int 7))) (eC (.int 4))) (eC (.int 1))))
      (sSeq (sSet 4 (eSl oCut (e2 oIx (eV 1) (eC (.int 1))) none (some (eC (.int 1)))))
      (sSeq (sSet 1 (eLc 9 (lRng1 (eC (.int 4))) tYes' (e2 oAdd (eSl oCut (e2 oIx (eV 1) (eC (.int 0))) none (some (eC (.int 5)))) (e2 oMul (eV 4) (eV 9)))))
      (sSet 3 (eLc 9 (lRng1 (eN oMax (aC (eC (.int 2)) (aC (eV 2) aN)))) tYes' (e2 oAdd (e2 oMul (eV 4) (eV 9)) (eSl oCut (e2 oIx (eV 3) (eC (.int 0))) none (some (eC (.int 5)))))))))
      sNil)
    (sSeq (sSet 5 (eLc 9 (lRng1 (eC (.int 3))) tYes' (e2 oAdd (eC (.str (PySem.Str.ofString "?"))) (eN f__law_word_by (aC (eN f__law_cell_at (aC (eV 0) (aC (eC (.int 2)) aN))) (aC (eV 9) aN))))))
    (sSeq (sSet 6 (e2 oMod (eN f__law_cell_at (aC (eV 0) (aC (eC (.int 3)) aN))) (eC (.int 4))))
    (sSeq (sSet 7 (eLc 10 (lE (eSl oCut (eV 0) (some (eC (.int 4))) (some (e2 oAdd (eC (.int 4)) (eV 6))))) tYes' (eN f__law_atom (aC (e2 oMod (e2 oMul (eV 10) (eC (.int 48271))) (eC (.int 2147483647))) (aC (eV 1) (aC (eV 3) aN))))))
    (sSeq (sSet 8 (eLc 10 (lE (eSl oCut (eV 0) (some (e2 oAdd (eC (.int 4)) (eV 6))) (some (e2 oAdd (eC (.int 10)) (eV 6))))) tYes' (eN f__law_rule (aC (eV 10) (aC (eV 1) (aC (eV 3) (aC (eV 5) aN)))))))
    (sRet (eN oTup (aC (eV 7) (aC (eV 8) aN))))))))))))
noncomputable def f__law_program : List D → Ro D := runD 11 .rep g__law_program

/- _law_things: 0=_law_given 1=_law_rules 2=_law_patterns 3=_law_rule_here 4=_law_found 5=_law_pattern 6=_law_part -/
noncomputable def g__law_things : SDen :=
    (sSeq (sSet 2 (eN oList (aC (eV 0) aN)))
    (sSeq (sFor [.any, .any, .val, .any, .any, .any, .any] 3 (lE (eV 1))
      (sSet 2 (e2 oAdd (e2 oAdd (e2 oAdd (eV 2) (eN oLst (aC (e2 oIx (eV 3) (eC (.int 0))) aN))) (eN oList (aC (e2 oIx (eV 3) (eC (.int 1))) aN))) (eN oList (aC (e2 oIx (eV 3) (eC (.int 2))) aN)))))
    (sSeq (sSet 4 (eN oLst aN))
    (sSeq (sFor [.any, .any, .any, .any, .own, .any, .any] 5 (lE (eV 2))
      (sFor [.any, .any, .any, .any, .own, .any, .any] 6 (lE (eSl oCut (eV 5) (some (eC (.int 1))) none))
        (sIf (tAnd' (tE (e2 oNe (e2 oIx (eV 6) (eC (.int 0))) (eC (.str (PySem.Str.ofString "?"))))) (tE (e2 oNotIn (eV 6) (eV 4))))
          (sApp 4 (eV 6))
          sNil)))
    (sRet (eN oSorted (aC (eV 4) aN)))))))
noncomputable def f__law_things : List D → Ro D := runD 7 .rep g__law_things

/- _law_put_k03: 0=_law_pattern 1=_law_slots_here 2=_law_row_here 3=_law_found 4=_law_part -/
noncomputable def g__law_put_k03 : SDen :=
    (sSeq (sSet 3 (eN oLst (aC (e2 oIx (eV 0) (eC (.int 0))) aN)))
    (sSeq (sFor [.any, .bor, .bor, .own, .any] 4 (lE (eSl oCut (eV 0) (some (eC (.int 1))) none))
      (sIf (tE (e2 oIn (eV 4) (eV 1)))
        (sApp 3 (e2 oIx (eV 2) (eIndex (eV 1) (eV 4))))
        (sApp 3 (eV 4))))
    (sRet (eN oTuple (aC (eV 3) aN)))))
noncomputable def f__law_put_k03 : List D → Ro D := runD 5 .rep g__law_put_k03

/- _law_row: 0=_law_turn 1=_law_things_here 2=_law_size 3=_law_row_here 4=_law_k -/
noncomputable def g__law_row : SDen :=
    (sSeq (sSet 3 (eN oLst aN))
    (sSeq (sFor [.val, .bor, .any, .val, .any] 4 (lRng1 (eV 2))
      (sSeq (sSet 3 (e2 oAdd (eN oLst (aC (e2 oIx (eV 1) (e2 oMod (eV 0) (eN oLen (aC (eV 1) aN)))) aN)) (eV 3)))
      (sSet 0 (e2 oDiv (eV 0) (eN oLen (aC (eV 1) aN))))))
    (sRet (eV 3))))
noncomputable def f__law_row : List D → Ro D := runD 5 .rep g__law_row

/- _law_filled: 0=_law_given 1=_law_rules 2=_law_things_here 3=_law_found 4=_law_at 5=_law_slots_here 6=_law_many 7=_law_slot 8=_law_turn 9=_law_row_here 10=_law_parts 11=_law_nots 12=_law_pattern -/
noncomputable def g__law_filled : SDen :=
    (sSeq (sSet 2 (eN f__law_things (aC (eV 0) (aC (eV 1) aN))))
    (sSeq (sSet 3 (eN oLst aN))
    (sSeq (sFor [.any, .bor, .val, .own, .any, .any, .any, .any, .any, .any, .any, .any, .any] 4 (lRng1 (eN oLen (aC (eV 1) aN)))
      (sSeq (sSet 5 (eN f__law_slots (aC (e2 oIx (e2 oIx (eV 1) (eV 4)) (eC (.int 1))) aN)))
      (sSeq (sSet 6 (eC (.int 1)))
      (sSeq (sFor [.any, .bor, .val, .own, .val, .val, .val, .any, .any, .any, .any, .any, .any] 7 (lE (eV 5))
        (sSet 6 (e2 oMul (eV 6) (eN oLen (aC (eV 2) aN)))))
      (sFor [.any, .bor, .val, .own, .val, .val, .any, .any, .any, .any, .any, .any, .any] 8 (lRng1 (eV 6))
        (sSeq (sSet 9 (eN f__law_row (aC (eV 8) (aC (eV 2) (aC (eN oLen (aC (eV 5) aN)) aN)))))
        (sSeq (sSet 10 (eLc 12 (lE (e2 oIx (e2 oIx (eV 1) (eV 4)) (eC (.int 1)))) tYes' (eN f__law_put_k03 (aC (eV 12) (aC (eV 5) (aC (eV 9) aN))))))
        (sSeq (sSet 11 (eLc 12 (lE (e2 oIx (e2 oIx (eV 1) (eV 4)) (eC (.int 2)))) tYes' (eN f__law_put_k03 (aC (eV 12) (aC (eV 5) (aC (eV 9) aN))))))
        (sApp 3 (eN oTup (aC (eV 4) (aC (eN f__law_put_k03 (aC (e2 oIx (e2 oIx (eV 1) (eV 4)) (eC (.int 0))) (aC (eV 5) (aC (eV 9) aN)))) (aC (eN oTuple (aC (eV 10) aN)) (aC (eN oTuple (aC (eV 11) aN)) aN))))))))))))))
    (sRet (eV 3)))))
noncomputable def f__law_filled : List D → Ro D := runD 13 .rep g__law_filled

/- _law_alike: 0=_law_found 1=_law_due -/
noncomputable def g__law_alike : SDen :=
    (sSeq (sIf (tOr' (tNot' (tE (e1 (oIsi "tuple") (eV 0)))) (tOr' (tE (e2 oNe (eN oLen (aC (eV 0) aN)) (eC (.int 4)))) (tNot' (tE (eN f__law_whole (aC (e2 oIx (eV 0) (eC (.int 0))) aN))))))
      (sRet (eC (.bl false)))
      sNil)
    (sSeq (sIf (tOr' (tNot' (tE (e1 (oIsi "tuple") (e2 oIx (eV 0) (eC (.int 1)))))) (tOr' (tNot' (tE (e1 (oIsi "tuple") (e2 oIx (eV 0) (eC (.int 2)))))) (tNot' (tE (e1 (oIsi "tuple") (e2 oIx (eV 0) (eC (.int 3))))))))
      (sRet (eC (.bl false)))
      sNil)
    (sRet (e2 oEq (eV 0) (eV 1)))))
noncomputable def f__law_alike : List D → Ro D := runD 2 .rep g__law_alike

/- law_k03: 0=_law_script 1=_law_program_here 2=_law_handed 3=_law_things_here 4=_law_found 5=_law_due 6=_law_k -/
noncomputable def g_law_k03 : SDen :=
    (sSeq (sSet 1 (eN f__law_program (aC (eV 0) aN)))
    (sSeq (sSet 2 (eN oLst (aC (eN oList (aC (e2 oIx (eV 1) (eC (.int 0))) aN)) (aC (eN oList (aC (e2 oIx (eV 1) (eC (.int 1))) aN)) aN))))
    (sSeq (sSet 3 (eN f_things_of (aC (e2 oIx (eV 2) (eC (.int 0))) (aC (e2 oIx (eV 2) (eC (.int 1))) aN))))
    (sSeq (sIf (tOr' (tNot' (tE (e1 (oIsi "list") (eV 3)))) (tE (e2 oNe (eV 3) (eN f__law_things (aC (e2 oIx (eV 1) (eC (.int 0))) (aC (e2 oIx (eV 1) (eC (.int 1))) aN))))))
      (sRet (eC (.bl false)))
      sNil)
    (sSeq (sSet 4 (eN f_filled_rules (aC (e2 oIx (eV 2) (eC (.int 0))) (aC (e2 oIx (eV 2) (eC (.int 1))) aN))))
    (sSeq (sSet 5 (eN f__law_filled (aC (e2 oIx (eV 1) (eC (.int 0))) (aC (e2 oIx (eV 1) (eC (.int 1))) aN))))
    (sSeq (sIf (tOr' (tNot' (tE (e1 (oIsi "list") (eV 4)))) (tE (e2 oNe (eN oLen (aC (eV 4) aN)) (eN oLen (aC (eV 5) aN)))))
      (sRet (eC (.bl false)))
      sNil)
    (sSeq (sFor [.any, .val, .val, .any, .val, .val, .any] 6 (lRng1 (eN oLen (aC (eV 5) aN)))
      (sIf (tNot' (tE (eN f__law_alike (aC (e2 oIx (eV 4) (eV 6)) (aC (e2 oIx (eV 5) (eV 6)) aN)))))
        (sRet (eC (.bl false)))
        sNil))
    (sRet (eAnd (e2 oEq (e2 oIx (eV 2) (eC (.int 0))) (e2 oIx (eV 1) (eC (.int 0)))) (e2 oEq (e2 oIx (eV 2) (eC (.int 1))) (e2 oIx (eV 1) (eC (.int 1))))))))))))))
noncomputable def f_law_k03 : List D → Ro D := runD 7 .rep g_law_k03

/- as_keys: 0=facts 1=found 2=fact -/
noncomputable def g_as_keys : SDen :=
    (sSeq (sSet 1 (eC (.dT [])))
    (sSeq (sFor [.any, .own, .any] 2 (lE (eV 0))
      (sPutD 1 (eV 2) (eC (.bl true))))
    (sRet (eV 1))))
noncomputable def f_as_keys : List D → Ro D := runD 3 .new g_as_keys

/- holds: 0=rule 1=yes 2=no 3=fact -/
noncomputable def g_holds : SDen :=
    (sSeq (sFor [.bor, .bor, .bor, .any] 3 (lE (e2 oIx (eV 0) (eC (.int 2))))
      (sIf (tE (e2 oNotIn (eV 3) (eV 1)))
        (sRet (eC (.bl false)))
        sNil))
    (sSeq (sFor [.any, .any, .bor, .any] 3 (lE (e2 oIx (eV 0) (eC (.int 3))))
      (sIf (tE (e2 oNotIn (eV 3) (eV 2)))
        (sRet (eC (.bl false)))
        sNil))
    (sRet (eC (.bl true)))))
noncomputable def f_holds : List D → Ro D := runD 4 .rep g_holds

/- entered: 0=filled 1=told 2=refuted 3=yes 4=no 5=rows 6=more 7=at 8=rule -/
noncomputable def g_entered : SDen :=
    (sSeq (sSet 3 (eN f_as_keys (aC (eV 1) aN)))
    (sSeq (sSet 4 (eN f_as_keys (aC (eV 2) aN)))
    (sSeq (sSet 5 (eN oLst aN))
    (sSeq (sSet 6 (eC (.bl true)))
    (sSeq (sWhile [.bor, .any, .any, .own, .val, .own, .val, .any, .any] (tE (eV 6))
      (sSeq (sSet 6 (eC (.bl false)))
      (sFor [.bor, .any, .any, .own, .val, .own, .val, .any, .any] 7 (lRng1 (eN oLen (aC (eV 0) aN)))
        (sSeq (sSet 8 (e2 oIx (eV 0) (eV 7)))
        (sIf (tAnd' (tE (e2 oNotIn (e2 oIx (eV 8) (eC (.int 1))) (eV 3))) (tAnd' (tE (e2 oNotIn (e2 oIx (eV 8) (eC (.int 1))) (eV 4))) (tE (eN f_holds (aC (eV 8) (aC (eV 3) (aC (eV 4) aN)))))))
          (sSeq (sPutD 3 (e2 oIx (eV 8) (eC (.int 1))) (eC (.bl true)))
          (sSeq (sApp 5 (eN oTup (aC (e2 oIx (eV 8) (eC (.int 1))) (aC (eV 7) aN))))
          (sSet 6 (eC (.bl true)))))
          sNil)))))
    (sRet (eV 5)))))))
noncomputable def f_entered : List D → Ro D := runD 9 .rep g_entered

/- _law_atoms: 0=_law_script 1=_law_many 2=_law_k 3=_law_words 4=_law_things 5=_law_found -/
noncomputable def g__law_atoms : SDen :=
    (sSeq (sSet 3 (eLc 2 (lRng1 (eC (.int 3))) tYes' (eN f__law_word_by (aC (eN f__law_cell_at (aC (eV 0) (aC (eC (.int 0)) aN))) (aC (eV 2) aN)))))
    (sSeq (sSet 4 (eLc 2 (lRng1 (eC (.int 3))) tYes' (eN f__law_thing_by (aC (eN f__law_cell_at (aC (eV 0) (aC (eC (.int 1)) aN))) (aC (eV 2) aN)))))
    (sSeq (sSet 5 (eLc 2 (lRng1 (eN oMin (aC (eV 1) (aC (eC (.int 3)) aN)))) tYes' (eN oTup (aC (e2 oIx (eV 3) (eV 2)) aN))))
    (sSeq (sFor [.any, .any, .any, .val, .val, .own] 2 (lRng2 (eC (.int 3)) (eV 1))
      (sApp 5 (eN oTup (aC (e2 oIx (eV 3) (e2 oMod (eV 2) (eC (.int 3)))) (aC (e2 oIx (eV 4) (e2 oMod (e2 oDiv (eV 2) (eC (.int 3))) (eC (.int 3)))) aN)))))
    (sRet (eV 5))))))
noncomputable def f__law_atoms : List D → Ro D := runD 6 .rep g__law_atoms

/- _law_ground: 0=_law_cell 1=_law_atoms_here 2=_law_one 3=_law_two 4=_law_three 5=_law_many 6=_law_yeses 7=_law_k 8=_law_nots -/
noncomputable def g__law_ground : SDen :=
    (sSeq (sSet 2 (e2 oMod (e2 oMul (eV 0) (eC (.int 48271))) (eC (.int 2147483647))))
    (sSeq (sSet 3 (e2 oMod (e2 oMul (eV 0) (eC (.int 69621))) (eC (.int 998244353))))
    (sSeq (sSet 4 (e2 oMod (e2 oMul (eV 0) (eC (.int 16807))) (eC (.int 1000000007))))
    (sSeq (sSet 5 (e2 oIx (eN oLst (aC (eN oTup (aC (eC (.int 0)) (aC (eC (.int 0)) aN))) (aC (eN oTup (aC (eC (.int 0)) (aC (eC (.int 1)) aN))) (aC (eN oTup (aC (eC (.int 1)) (aC (eC (.int 0)) aN))) (aC (eN oTup (aC (eC (.int 1)) (aC (eC (.int 1)) aN))) (aC (eN oTup (aC (eC (.int 1)) (aC (eC (.int 2)) aN))) (aC (eN oTup (aC (eC (.int 2)) (aC (eC (.int 1)) aN))) (aC (eN oTup (aC (eC (.int 2)) (aC (eC (.int 0)) aN))) (aC (eN oTup (aC (eC (.int 0)) (aC (eC (.int 2)) aN))) (aC (eN oTup (aC (eC (.int 4)) (aC (eC (.int 2)) aN))) (aC (eN oTup (aC (eC (.int 3)) (aC (eC (.int 3)) aN))) (aC (eN oTup (aC (eC (.int 2)) (aC (eC (.int 4)) aN))) (aC (eN oTup (aC (eC (.int 6)) (aC (eC (.int 0)) aN))) aN))))))))))))) (e2 oMod (eV 3) (eC (.int 12)))))
    (sSeq (sSet 6 (eN oLst aN))
    (sSeq (sFor [.any, .bor, .val, .val, .val, .val, .own, .any, .any] 7 (lRng1 (e2 oIx (eV 5) (eC (.int 0))))
      (sApp 6 (e2 oIx (eV 1) (e2 oMod (e2 oDiv (e2 oDiv (eV 3) (eC (.int 12))) (e2 oAdd (eC (.int 1)) (e2 oMul (eC (.int 40)) (eV 7)))) (eN oLen (aC (eV 1) aN))))))
    (sSeq (sSet 8 (eN oLst aN))
    (sSeq (sFor [.any, .bor, .val, .any, .val, .any, .own, .any, .own] 7 (lRng1 (e2 oIx (eV 5) (eC (.int 1))))
      (sApp 8 (e2 oIx (eV 1) (e2 oMod (e2 oDiv (eV 4) (e2 oAdd (eC (.int 1)) (e2 oMul (eC (.int 40)) (eV 7)))) (eN oLen (aC (eV 1) aN))))))
    (sRet (eN oTup (aC (e2 oMod (e2 oDiv (eV 2) (eC (.int 16))) (eC (.int 20))) (aC (e2 oIx (eV 1) (e2 oMod (eV 2) (eN oLen (aC (eV 1) aN)))) (aC (eN oTuple (aC (eV 6) aN)) (aC (eN oTuple (aC (eV 8) aN)) aN))))))))))))))
noncomputable def f__law_ground : List D → Ro D := runD 9 .rep g__law_ground

/- _law_holds: 0=_law_rule 1=_law_yes 2=_law_no 3=_law_fact -/
noncomputable def g__law_holds : SDen :=
    (sSeq (sFor [.bor, .bor, .bor, .any] 3 (lE (e2 oIx (eV 0) (eC (.int 2))))
      (sIf (tE (e2 oNotIn (eV 3) (eV 1)))
        (sRet (eC (.bl false)))
        sNil))
    (sSeq (sFor [.any, .any, .bor, .any] 3 (lE (e2 oIx (eV 0) (eC (.int 3))))
      (sIf (tE (e2 oNotIn (eV 3) (eV 2)))
        (sRet (eC (.bl false)))
        sNil))
    (sRet (eC (.bl true)))))
noncomputable def f__law_holds : List D → Ro D := runD 4 .rep g__law_holds

/- law_k05: 0=_law_script 1=_law_atoms_here 2=_law_states 3=_law_told 4=_law_refuted 5=_law_filled 6=_law_handed 7=_law_found 8=_law_yes 9=_law_row 10=_law_rule 11=_law_k 12=_law_cell -/
noncomputable def g_law_k05 : SDen :=
    (sSeq (sSet 1 (eN f__law_atoms (aC (eV 0) (aC (e2 oAdd (eC (.int 2)) (e2 oMod (eN f__law_cell_at (aC (eV 0) (aC (eC (.int 2)) aN))) (eC (.int 8)))) aN))))
    (sSeq (sSet 2 (eLc 11 (lRng1 (eN oLen (aC (eV 1) aN))) tYes' (e2 oMod (e2 oDiv (eN f__law_cell_at (aC (eV 0) (aC (e2 oAdd (eC (.int 3)) (e2 oMod (eV 11) (eC (.int 3)))) aN))) (e2 oIx (eN oLst (aC (eC (.int 1)) (aC (eC (.int 4)) (aC (eC (.int 16)) aN)))) (e2 oMod (e2 oDiv (eV 11) (eC (.int 3))) (eC (.int 3))))) (eC (.int 4)))))
    (sSeq (sSet 3 (eLc 11 (lRng1 (eN oLen (aC (eV 1) aN))) (tE (e2 oEq (e2 oIx (eV 2) (eV 11)) (eC (.int 1)))) (e2 oIx (eV 1) (eV 11))))
    (sSeq (sSet 4 (eLc 11 (lRng1 (eN oLen (aC (eV 1) aN))) (tE (e2 oEq (e2 oIx (eV 2) (eV 11)) (eC (.int 2)))) (e2 oIx (eV 1) (eV 11))))
    (sSeq (sSet 5 (eLc 12 (lE (eSl oCut (eV 0) (some (eC (.int 6))) (some (eC (.int 18))))) tYes' (eN f__law_ground (aC (eV 12) (aC (eV 1) aN)))))
    (sSeq (sSet 6 (eN oLst (aC (eN oList (aC (eV 5) aN)) (aC (eN oList (aC (eV 3) aN)) (aC (eN oList (aC (eV 4) aN)) aN)))))
    (sSeq (sSet 7 (eN f_entered (aC (e2 oIx (eV 6) (eC (.int 0))) (aC (e2 oIx (eV 6) (eC (.int 1))) (aC (e2 oIx (eV 6) (eC (.int 2))) aN)))))
    (sSeq (sIf (tOr' (tNot' (tE (e1 (oIsi "list") (eV 7)))) (tE (e2 oNe (eV 6) (eN oLst (aC (eV 5) (aC (eV 3) (aC (eV 4) aN)))))))
      (sRet (eC (.bl false)))
      sNil)
    (sSeq (sSet 8 (eN oList (aC (eV 3) aN)))
    (sSeq (sFor [.any, .any, .any, .any, .val, .val, .any, .any, .own, .any, .any, .any, .any] 9 (lE (eV 7))
      (sSeq (sIf (tOr' (tNot' (tE (e1 (oIsi "tuple") (eV 9)))) (tOr' (tE (e2 oNe (eN oLen (aC (eV 9) aN)) (eC (.int 2)))) (tNot' (tE (eN f__law_whole (aC (e2 oIx (eV 9) (eC (.int 1))) aN))))))
        (sRet (eC (.bl false)))
        sNil)
      (sSeq (sIf (tOr' (tNot' (tE (eChain oLe oLt (eC (.int 0)) (e2 oIx (eV 9) (eC (.int 1))) (eN oLen (aC (eV 5) aN))))) (tOr' (tE (e2 oNe (e2 oIx (e2 oIx (eV 5) (e2 oIx (eV 9) (eC (.int 1)))) (eC (.int 1))) (e2 oIx (eV 9) (eC (.int 0))))) (tNot' (tE (e1 (oIsi "tuple") (e2 oIx (eV 9) (eC (.int 0))))))))
        (sRet (eC (.bl false)))
        sNil)
      (sSeq (sIf (tOr' (tE (e2 oIn (e2 oIx (eV 9) (eC (.int 0))) (eV 8))) (tOr' (tE (e2 oIn (e2 oIx (eV 9) (eC (.int 0))) (eV 4))) (tNot' (tE (eN f__law_holds (aC (e2 oIx (eV 5) (e2 oIx (eV 9) (eC (.int 1)))) (aC (eV 8) (aC (eV 4) aN))))))))
        (sRet (eC (.bl false)))
        sNil)
      (sApp 8 (e2 oIx (eV 9) (eC (.int 0))))))))
    (sSeq (sFor [.any, .any, .any, .any, .val, .any, .any, .any, .own, .any, .any, .any, .any] 10 (lE (eV 5))
      (sIf (tAnd' (tE (e2 oNotIn (e2 oIx (eV 10) (eC (.int 1))) (eV 8))) (tAnd' (tE (e2 oNotIn (e2 oIx (eV 10) (eC (.int 1))) (eV 4))) (tE (eN f__law_holds (aC (eV 10) (aC (eV 8) (aC (eV 4) aN)))))))
        (sRet (eC (.bl false)))
        sNil))
    (sRet (eC (.bl true))))))))))))))
noncomputable def f_law_k05 : List D → Ro D := runD 13 .rep g_law_k05

/- standing: 0=filled 1=found 2=rule 3=fact -/
noncomputable def g_standing : SDen :=
    (sSeq (sSet 1 (eC (.dT [])))
    (sSeq (sFor [.any, .own, .any, .any] 2 (lE (eV 0))
      (sFor [.any, .own, .any, .any] 3 (lE (e2 oAdd (e2 oAdd (eN oTup (aC (e2 oIx (eV 2) (eC (.int 1))) aN)) (e2 oIx (eV 2) (eC (.int 2)))) (e2 oIx (eV 2) (eC (.int 3)))))
        (sPutD 1 (eV 3) (eC (.bl true)))))
    (sRet (eN oSorted (aC (eN oList (aC (eV 1) aN)) aN)))))
noncomputable def f_standing : List D → Ro D := runD 4 .rep g_standing

/- may_hold: 0=rule 1=yes 2=no 3=able 4=fact -/
noncomputable def g_may_hold : SDen :=
    (sSeq (sFor [.bor, .bor, .bor, .bor, .any] 4 (lE (e2 oIx (eV 0) (eC (.int 3))))
      (sIf (tE (e2 oIn (eV 4) (eV 1)))
        (sRet (eC (.bl false)))
        sNil))
    (sSeq (sFor [.any, .bor, .bor, .bor, .any] 4 (lE (e2 oIx (eV 0) (eC (.int 2))))
      (sIf (tOr' (tE (e2 oIn (eV 4) (eV 2))) (tAnd' (tE (e2 oNotIn (eV 4) (eV 1))) (tE (e2 oNotIn (eV 4) (eV 3)))))
        (sRet (eC (.bl false)))
        sNil))
    (sRet (eC (.bl true)))))
noncomputable def f_may_hold : List D → Ro D := runD 5 .rep g_may_hold

/- kept_out: 0=filled 1=told 2=refuted 3=yes 4=no 5=able 6=more 7=rule 8=fact -/
noncomputable def g_kept_out : SDen :=
    (sSeq (sSet 3 (eN f_as_keys (aC (eV 1) aN)))
    (sSeq (sSet 4 (eN f_as_keys (aC (eV 2) aN)))
    (sSeq (sSet 5 (eC (.dT [])))
    (sSeq (sSet 6 (eC (.bl true)))
    (sSeq (sWhile [.bor, .any, .any, .val, .val, .own, .val, .any, .any] (tE (eV 6))
      (sSeq (sSet 6 (eC (.bl false)))
      (sFor [.bor, .any, .any, .val, .val, .own, .val, .any, .any] 7 (lE (eV 0))
        (sIf (tAnd' (tE (e2 oNotIn (e2 oIx (eV 7) (eC (.int 1))) (eV 5))) (tE (eN f_may_hold (aC (eV 7) (aC (eV 3) (aC (eV 4) (aC (eV 5) aN)))))))
          (sSeq (sPutD 5 (e2 oIx (eV 7) (eC (.int 1))) (eC (.bl true)))
          (sSet 6 (eC (.bl true))))
          sNil))))
    (sRet (eLc 8 (lE (eN f_standing (aC (eV 0) aN))) (tAnd' (tE (e2 oNotIn (eV 8) (eV 3))) (tAnd' (tE (e2 oNotIn (eV 8) (eV 4))) (tE (e2 oNotIn (eV 8) (eV 5))))) (eV 8))))))))
noncomputable def f_kept_out : List D → Ro D := runD 9 .rep g_kept_out

/- _law_blocked: 0=_law_rule 1=_law_told 2=_law_refuted 3=_law_left_here 4=_law_fact -/
noncomputable def g__law_blocked : SDen :=
    (sSeq (sFor [.bor, .bor, .bor, .bor, .any] 4 (lE (e2 oIx (eV 0) (eC (.int 2))))
      (sIf (tOr' (tE (e2 oIn (eV 4) (eV 2))) (tE (e2 oIn (eV 4) (eV 3))))
        (sRet (eC (.bl true)))
        sNil))
    (sSeq (sFor [.any, .bor, .any, .any, .any] 4 (lE (e2 oIx (eV 0) (eC (.int 3))))
      (sIf (tE (e2 oIn (eV 4) (eV 1)))
        (sRet (eC (.bl true)))
        sNil))
    (sRet (eC (.bl false)))))
noncomputable def f__law_blocked : List D → Ro D := runD 5 .rep g__law_blocked

/- _law_left: 0=_law_filled 1=_law_told 2=_law_refuted 3=_law_left_here 4=_law_rule 5=_law_fact 6=_law_turn -/
noncomputable def g__law_left : SDen :=
    (sSeq (sSet 3 (eN oLst aN))
    (sSeq (sFor [.bor, .bor, .bor, .own, .any, .any, .any] 4 (lE (eV 0))
      (sFor [.bor, .bor, .bor, .own, .any, .any, .any] 5 (lE (e2 oAdd (e2 oAdd (eN oLst (aC (e2 oIx (eV 4) (eC (.int 1))) aN)) (eN oList (aC (e2 oIx (eV 4) (eC (.int 2))) aN))) (eN oList (aC (e2 oIx (eV 4) (eC (.int 3))) aN))))
        (sIf (tAnd' (tE (e2 oNotIn (eV 5) (eV 1))) (tAnd' (tE (e2 oNotIn (eV 5) (eV 2))) (tE (e2 oNotIn (eV 5) (eV 3)))))
          (sApp 3 (eV 5))
          sNil)))
    (sSeq (sFor [.bor, .bor, .bor, .own, .any, .any, .any] 6 (lRng1 (eN oLen (aC (eV 3) aN)))
      (sFor [.bor, .bor, .bor, .own, .any, .any, .any] 4 (lE (eV 0))
        (sIf (tAnd' (tE (e2 oIn (e2 oIx (eV 4) (eC (.int 1))) (eV 3))) (tNot' (tE (eN f__law_blocked (aC (eV 4) (aC (eV 1) (aC (eV 2) (aC (eV 3) aN))))))))
          (sSet 3 (eLc 5 (lE (eV 3)) (tE (e2 oNe (eV 5) (e2 oIx (eV 4) (eC (.int 1))))) (eV 5)))
          sNil)))
    (sRet (eN oSorted (aC (eV 3) aN))))))
noncomputable def f__law_left : List D → Ro D := runD 7 .rep g__law_left

/- law_k06: 0=_law_script 1=_law_atoms_here 2=_law_states 3=_law_told 4=_law_refuted 5=_law_filled 6=_law_handed 7=_law_found 8=_law_k 9=_law_cell 10=_law_fact -/
noncomputable def g_law_k06 : SDen :=
    (sSeq (sSet 1 (eN f__law_atoms (aC (eV 0) (aC (e2 oAdd (eC (.int 2)) (e2 oMod (eN f__law_cell_at (aC (eV 0) (aC (eC (.int 2)) aN))) (eC (.int 8)))) aN))))
    (sSeq (sSet 2 (eLc 8 (lRng1 (eN oLen (aC (eV 1) aN))) tYes' (e2 oMod (e2 oDiv (eN f__law_cell_at (aC (eV 0) (aC (e2 oAdd (eC (.int 3)) (e2 oMod (eV 8) (eC (.int 3)))) aN))) (e2 oIx (eN oLst (aC (eC (.int 1)) (aC (eC (.int 4)) (aC (eC (.int 16)) aN)))) (e2 oMod (e2 oDiv (eV 8) (eC (.int 3))) (eC (.int 3))))) (eC (.int 4)))))
    (sSeq (sSet 3 (eLc 8 (lRng1 (eN oLen (aC (eV 1) aN))) (tE (e2 oEq (e2 oIx (eV 2) (eV 8)) (eC (.int 1)))) (e2 oIx (eV 1) (eV 8))))
    (sSeq (sSet 4 (eLc 8 (lRng1 (eN oLen (aC (eV 1) aN))) (tE (e2 oEq (e2 oIx (eV 2) (eV 8)) (eC (.int 2)))) (e2 oIx (eV 1) (eV 8))))
    (sSeq (sSet 5 (eLc 9 (lE (eSl oCut (eV 0) (some (eC (.int 6))) (some (eC (.int 18))))) tYes' (eN f__law_ground (aC (eV 9) (aC (eV 1) aN)))))
    (sSeq (sSet 6 (eN oLst (aC (eN oList (aC (eV 5) aN)) (aC (eN oList (aC (eV 3) aN)) (aC (eN oList (aC (eV 4) aN)) aN)))))
    (sSeq (sSet 7 (eN f_kept_out (aC (e2 oIx (eV 6) (eC (.int 0))) (aC (e2 oIx (eV 6) (eC (.int 1))) (aC (e2 oIx (eV 6) (eC (.int 2))) aN)))))
    (sSeq (sIf (tOr' (tNot' (tE (e1 (oIsi "list") (eV 7)))) (tE (e2 oNe (eLc 10 (lE (eV 7)) (tNot' (tE (e1 (oIsi "tuple") (eV 10)))) (eV 10)) (eN oLst aN))))
      (sRet (eC (.bl false)))
      sNil)
    (sRet (eAnd (e2 oEq (eV 7) (eN f__law_left (aC (eV 5) (aC (eV 3) (aC (eV 4) aN))))) (e2 oEq (eV 6) (eN oLst (aC (eV 5) (aC (eV 3) (aC (eV 4) aN)))))))))))))))
noncomputable def f_law_k06 : List D → Ro D := runD 11 .rep g_law_k06

/- is_thing: 0=part -/
noncomputable def g_is_thing : SDen :=
    (sRet (eN f_made_of (aC (eV 0) (aC (e2 oAdd (eC (.str (PySem.Str.ofString "abcdefghijklmnopqrstuvwxyz"))) (eC (.str (PySem.Str.ofString "0123456789")))) aN))))
noncomputable def f_is_thing : List D → Ro D := runD 1 .rep g_is_thing

/- check_fact: 0=fact 1=part -/
noncomputable def g_check_fact : SDen :=
    (sSeq (sIf (tOr' (tE (e2 oLt (eN oLen (aC (eV 0) aN)) (eC (.int 1)))) (tOr' (tE (e2 oGt (eN oLen (aC (eV 0) aN)) (e2 oAdd (eC (.int 3)) (eC (.int 1))))) (tNot' (tE (eN f_is_word (aC (e2 oIx (eV 0) (eC (.int 0))) aN))))))
      sBad
      sNil)
    (sFor [.any, .any] 1 (lE (eSl oCut (eV 0) (some (eC (.int 1))) none))
      (sIf (tNot' (tE (eN f_is_thing (aC (eV 1) aN))))
        sBad
        sNil)))
noncomputable def f_check_fact : List D → Ro D := runD 2 .rep g_check_fact

/- check_pattern: 0=pattern 1=part -/
noncomputable def g_check_pattern : SDen :=
    (sSeq (sIf (tOr' (tE (e2 oLt (eN oLen (aC (eV 0) aN)) (eC (.int 1)))) (tOr' (tE (e2 oGt (eN oLen (aC (eV 0) aN)) (e2 oAdd (eC (.int 3)) (eC (.int 1))))) (tNot' (tE (eN f_is_word (aC (e2 oIx (eV 0) (eC (.int 0))) aN))))))
      sBad
      sNil)
    (sFor [.any, .any] 1 (lE (eSl oCut (eV 0) (some (eC (.int 1))) none))
      (sIf (tAnd' (tNot' (tE (eN f_is_thing (aC (eV 1) aN)))) (tNot' (tE (eN f_is_slot (aC (eV 1) aN)))))
        sBad
        sNil)))
noncomputable def f_check_pattern : List D → Ro D := runD 2 .rep g_check_pattern

/- check_rule: 0=rule 1=pattern 2=bound 3=slot -/
noncomputable def g_check_rule : SDen :=
    (sSeq (sFor [.bor, .any, .any, .any] 1 (lE (e2 oAdd (e2 oAdd (eN oTup (aC (e2 oIx (eV 0) (eC (.int 0))) aN)) (e2 oIx (eV 0) (eC (.int 1)))) (e2 oIx (eV 0) (eC (.int 2)))))
      (sDrop (eN f_check_pattern (aC (eV 1) aN))))
    (sSeq (sIf (tE (e2 oGt (e2 oAdd (eN oLen (aC (e2 oIx (eV 0) (eC (.int 1))) aN)) (eN oLen (aC (e2 oIx (eV 0) (eC (.int 2))) aN))) (eC (.int 6))))
      sBad
      sNil)
    (sSeq (sSet 2 (eN f_slots_of (aC (e2 oIx (eV 0) (eC (.int 1))) aN)))
    (sSeq (sFor [.any, .any, .val, .any] 3 (lE (eN f_slots_of (aC (e2 oAdd (eN oTup (aC (e2 oIx (eV 0) (eC (.int 0))) aN)) (e2 oIx (eV 0) (eC (.int 2)))) aN)))
      (sIf (tE (e2 oNotIn (eV 3) (eV 2)))
        sBad
        sNil))
    (sIf (tE (e2 oGt (eN oLen (aC (eV 2) aN)) (eC (.int 3))))
      sBad
      sNil)))))
noncomputable def f_check_rule : List D → Ro D := runD 4 .rep g_check_rule

/- count_filled: 0=given 1=rules 2=things 3=total 4=rule 5=many 6=slot -/
noncomputable def g_count_filled : SDen :=
    (sSeq (sSet 2 (eN oLen (aC (eN f_things_of (aC (eV 0) (aC (eV 1) aN))) aN)))
    (sSeq (sSet 3 (eC (.int 0)))
    (sSeq (sFor [.any, .any, .val, .val, .any, .any, .any] 4 (lE (eV 1))
      (sSeq (sSet 5 (eC (.int 1)))
      (sSeq (sFor [.any, .any, .val, .val, .any, .val, .any] 6 (lE (eN f_slots_of (aC (e2 oIx (eV 4) (eC (.int 1))) aN)))
        (sSet 5 (e2 oMul (eV 5) (eV 2))))
      (sSet 3 (e2 oAdd (eV 3) (eV 5))))))
    (sRet (eV 3)))))
noncomputable def f_count_filled : List D → Ro D := runD 7 .rep g_count_filled

/- check: 0=given 1=rules 2=fact 3=rule -/
noncomputable def g_check : SDen :=
    (sSeq (sIf (tOr' (tE (e2 oGt (eN oLen (aC (eV 0) aN)) (eC (.int 60)))) (tE (e2 oGt (eN oLen (aC (eV 1) aN)) (eC (.int 20)))))
      sBad
      sNil)
    (sSeq (sFor [.bor, .bor, .any, .any] 2 (lE (eV 0))
      (sDrop (eN f_check_fact (aC (eV 2) aN))))
    (sSeq (sFor [.bor, .bor, .any, .any] 3 (lE (eV 1))
      (sDrop (eN f_check_rule (aC (eV 3) aN))))
    (sSeq (sIf (tE (e2 oGt (eN oLen (aC (eN f_things_of (aC (eV 0) (aC (eV 1) aN))) aN)) (eC (.int 8))))
      sBad
      sNil)
    (sIf (tE (e2 oGt (eN f_count_filled (aC (eV 0) (aC (eV 1) aN))) (eC (.int 2000))))
      sBad
      sNil)))))
noncomputable def f_check : List D → Ro D := runD 4 .rep g_check

/- said: 0=self 1=fact -/
noncomputable def g_said : SDen :=
    (sRet (eG2 (e1 (oFld 3) (eV 0)) (eV 1) (eC (.str (PySem.Str.ofString "no")))))
noncomputable def f_said : List D → Ro D := runD 2 .rep g_said

/- decided: 0=given 1=rules 2=filled 3=yes 4=no 5=story 6=fact 7=more 8=row 9=out 10=left -/
noncomputable def g_decided : SDen :=
    (sSeq (sDrop (eN f_check (aC (eV 0) (aC (eV 1) aN))))
    (sSeq (sSet 2 (eN f_filled_rules (aC (eV 0) (aC (eV 1) aN))))
    (sSeq (sSet 3 (eN oLst aN))
    (sSeq (sSet 4 (eN oLst aN))
    (sSeq (sSet 5 (eN oLst aN))
    (sSeq (sFor [.any, .any, .val, .own, .val, .own, .any, .any, .any, .any, .any] 6 (lE (eV 0))
      (sIf (tE (e2 oNotIn (eV 6) (eV 3)))
        (sSeq (sApp 3 (eV 6))
        (sApp 5 (eN oTup (aC (eC (.str (PySem.Str.ofString "yes"))) (aC (eV 6) (aC (e1 oNeg (eC (.int 1))) aN))))))
        sNil))
    (sSeq (sSet 7 (eC (.bl true)))
    (sSeq (sWhile [.any, .any, .val, .own, .val, .own, .any, .val, .any, .any, .any] (tE (eV 7))
      (sSeq (sFor [.any, .any, .val, .own, .val, .own, .any, .any, .any, .any, .any] 8 (lE (eN f_entered (aC (eV 2) (aC (eV 3) (aC (eV 4) aN)))))
        (sSeq (sApp 3 (e2 oIx (eV 8) (eC (.int 0))))
        (sApp 5 (eN oTup (aC (eC (.str (PySem.Str.ofString "yes"))) (aC (e2 oIx (eV 8) (eC (.int 0))) (aC (e2 oIx (eV 8) (eC (.int 1))) aN)))))))
      (sSeq (sSet 9 (eN f_kept_out (aC (eV 2) (aC (eV 3) (aC (eV 4) aN)))))
      (sSeq (sIf (tE (e2 oGt (eN oLen (aC (eV 9) aN)) (eC (.int 0))))
        (sApp 5 (eN oTup (aC (eC (.str (PySem.Str.ofString "no"))) (aC (eN oList (aC (eV 9) aN)) aN))))
        sNil)
      (sSeq (sSet 4 (e2 oAdd (eV 4) (eV 9)))
      (sSet 7 (e2 oGt (eN oLen (aC (eV 9) aN)) (eC (.int 0)))))))))
    (sSeq (sSet 10 (eLc 6 (lE (eN f_standing (aC (eV 2) aN))) (tAnd' (tE (e2 oNotIn (eV 6) (eV 3))) (tE (e2 oNotIn (eV 6) (eV 4)))) (eV 6)))
    (sRet (eN oVer (aC (eV 2) (aC (eV 5) (aC (eV 10) aN))))))))))))))
noncomputable def f_decided : List D → Ro D := runD 11 .rep g_decided

/- _law_told: 0=_law_places 1=_law_moves 2=_law_won 3=_law_lost 4=_law_turn 5=_law_place 6=_law_goals 7=_law_move 8=_law_goal -/
noncomputable def g__law_told : SDen :=
    (sSeq (sSet 2 (eN oLst aN))
    (sSeq (sSet 3 (eN oLst aN))
    (sSeq (sFor [.bor, .bor, .own, .own, .any, .any, .any, .any, .any] 4 (lRng1 (e2 oAdd (eN oLen (aC (eV 0) aN)) (eC (.int 1))))
      (sFor [.bor, .bor, .own, .own, .any, .any, .any, .any, .any] 5 (lE (eV 0))
        (sSeq (sSet 6 (eLc 7 (lE (eV 1)) (tE (e2 oEq (e2 oIx (eV 7) (eC (.int 0))) (eV 5))) (e2 oIx (eV 7) (eC (.int 1)))))
        (sSeq (sIf (tAnd' (tE (e2 oNe (eLc 8 (lE (eV 6)) (tE (e2 oIn (eV 8) (eV 3))) (eV 8)) (eN oLst aN))) (tE (e2 oNotIn (eV 5) (eV 2))))
          (sApp 2 (eV 5))
          sNil)
        (sIf (tAnd' (tE (e2 oEq (eLc 8 (lE (eV 6)) (tE (e2 oNotIn (eV 8) (eV 2))) (eV 8)) (eN oLst aN))) (tE (e2 oNotIn (eV 5) (eV 3))))
          (sApp 3 (eV 5))
          sNil)))))
    (sRet (eN oTup (aC (eV 2) (aC (eV 3) aN)))))))
noncomputable def f__law_told : List D → Ro D := runD 9 .rep g__law_told

/- law_k14: 0=_law_script 1=_law_words 2=_law_names 3=_law_places 4=_law_moves 5=_law_cell 6=_law_given 7=_law_won 8=_law_rule 9=_law_verdict 10=_law_told_here 11=_law_place 12=_law_due 13=_law_k 14=_law_move -/
noncomputable def g_law_k14 : SDen :=
    (sSeq (sSet 1 (eLc 13 (lRng1 (eC (.int 2))) tYes' (eN f__law_word_by (aC (eN f__law_cell_at (aC (eV 0) (aC (eC (.int 0)) aN))) (aC (eV 13) aN)))))
    (sSeq (sSet 2 (eLc 13 (lRng1 (eC (.int 2))) tYes' (e2 oAdd (eC (.str (PySem.Str.ofString "?"))) (eN f__law_word_by (aC (eN f__law_cell_at (aC (eV 0) (aC (eC (.int 2)) aN))) (aC (eV 13) aN))))))
    (sSeq (sSet 3 (eLc 13 (lRng1 (e2 oAdd (eC (.int 2)) (e2 oMod (eN f__law_cell_at (aC (eV 0) (aC (eC (.int 1)) aN))) (eC (.int 6))))) tYes' (eN f__law_thing_by (aC (e2 oDiv (eN f__law_cell_at (aC (eV 0) (aC (eC (.int 1)) aN))) (eC (.int 6))) (aC (eV 13) aN)))))
    (sSeq (sSet 4 (eN oLst aN))
    (sSeq (sFor [.any, .val, .val, .val, .own, .any, .any, .any, .any, .any, .any, .any, .any, .any, .any] 5 (lE (eSl oCut (eV 0) (some (eC (.int 3))) (some (eC (.int 17)))))
      (sSeq (sApp 4 (eN oTup (aC (e2 oIx (eV 3) (e2 oMod (eV 5) (eN oLen (aC (eV 3) aN)))) (aC (e2 oIx (eV 3) (e2 oMod (e2 oDiv (eV 5) (eN oLen (aC (eV 3) aN))) (eN oLen (aC (eV 3) aN)))) aN))))
      (sIf (tE (e2 oEq (e2 oMod (e2 oDiv (eV 5) (eC (.int 49))) (eC (.int 2))) (eC (.int 1))))
        (sApp 4 (eN oTup (aC (e2 oIx (eV 3) (e2 oMod (e2 oDiv (eV 5) (eC (.int 98))) (eN oLen (aC (eV 3) aN)))) (aC (e2 oIx (eV 3) (e2 oMod (e2 oDiv (eV 5) (eC (.int 686))) (eN oLen (aC (eV 3) aN)))) aN))))
        sNil)))
    (sSeq (sSet 6 (eLc 14 (lE (eV 4)) tYes' (eN oTup (aC (e2 oIx (eV 1) (eC (.int 0))) (aC (e2 oIx (eV 14) (eC (.int 0))) (aC (e2 oIx (eV 14) (eC (.int 1))) aN))))))
    (sSeq (sSet 7 (eN oTup (aC (e2 oIx (eV 1) (eC (.int 1))) (aC (e2 oIx (eV 2) (eC (.int 0))) aN))))
    (sSeq (sSet 8 (eN oTup (aC (eV 7) (aC (eN oTup (aC (eN oTup (aC (e2 oIx (eV 1) (eC (.int 0))) (aC (e2 oIx (eV 2) (eC (.int 0))) (aC (e2 oIx (eV 2) (eC (.int 1))) aN)))) aN)) (aC (eN oTup (aC (eN oTup (aC (e2 oIx (eV 1) (eC (.int 1))) (aC (e2 oIx (eV 2) (eC (.int 1))) aN))) aN)) aN)))))
    (sSeq (sSet 9 (eN f_decided (aC (eV 6) (aC (eN oLst (aC (eV 8) aN)) aN))))
    (sSeq (sSet 10 (eN f__law_told (aC (eV 3) (aC (eV 4) aN))))
    (sSeq (sFor [.any, .val, .any, .any, .any, .any, .any, .any, .any, .val, .val, .any, .any, .any, .any] 11 (lE (eV 3))
      (sSeq (sSet 12 (eC (.str (PySem.Str.ofString "open"))))
      (sSeq (sIf (tE (e2 oIn (eV 11) (e2 oIx (eV 10) (eC (.int 0)))))
        (sSet 12 (eC (.str (PySem.Str.ofString "yes"))))
        sNil)
      (sSeq (sIf (tE (e2 oIn (eV 11) (e2 oIx (eV 10) (eC (.int 1)))))
        (sSet 12 (eC (.str (PySem.Str.ofString "no"))))
        sNil)
      (sIf (tE (e2 oNe (eM f_said (eV 9) (aC (eN oTup (aC (e2 oIx (eV 1) (eC (.int 1))) (aC (eV 11) aN))) aN)) (eV 12)))
        (sRet (eC (.bl false)))
        sNil)))))
    (sRet (eC (.bl true))))))))))))))
noncomputable def f_law_k14 : List D → Ro D := runD 15 .rep g_law_k14

/- _law_words: 0=_law_verdict 1=_law_rule_here 2=_law_fact -/
noncomputable def g__law_words : SDen :=
    (sRet (eN oTup (aC (eLc 2 (lE (e2 oIx (eV 1) (eC (.int 2)))) tYes' (eM f_said (eV 0) (aC (eV 2) aN))) (aC (eLc 2 (lE (e2 oIx (eV 1) (eC (.int 3)))) tYes' (eM f_said (eV 0) (aC (eV 2) aN))) aN))))
noncomputable def f__law_words : List D → Ro D := runD 3 .rep g__law_words

/- _law_come_to: 0=_law_verdict 1=_law_filled_here 2=_law_came 3=_law_turn 4=_law_rule_here 5=_law_words_here 6=_law_able 7=_law_fact -/
noncomputable def g__law_come_to : SDen :=
    (sSeq (sSet 2 (eN oLst aN))
    (sSeq (sFor [.val, .bor, .own, .any, .any, .any, .any, .any] 3 (lRng1 (eN oLen (aC (e1 (oFld 2) (eV 0)) aN)))
      (sFor [.val, .bor, .own, .any, .any, .any, .any, .any] 4 (lE (eV 1))
        (sSeq (sSet 5 (eN f__law_words (aC (eV 0) (aC (eV 4) aN))))
        (sSeq (sSet 6 (eAnd (e2 oNotIn (eC (.str (PySem.Str.ofString "no"))) (e2 oIx (eV 5) (eC (.int 0)))) (e2 oNotIn (eC (.str (PySem.Str.ofString "yes"))) (e2 oIx (eV 5) (eC (.int 1))))))
        (sSeq (sFor [.val, .bor, .own, .any, .val, .any, .val, .any] 7 (lE (e2 oIx (eV 4) (eC (.int 2))))
          (sIf (tAnd' (tE (e2 oEq (eM f_said (eV 0) (aC (eV 7) aN)) (eC (.str (PySem.Str.ofString "open"))))) (tE (e2 oNotIn (eV 7) (eV 2))))
            (sSet 6 (eC (.bl false)))
            sNil))
        (sIf (tAnd' (tE (eV 6)) (tE (e2 oNotIn (e2 oIx (eV 4) (eC (.int 1))) (eV 2))))
          (sApp 2 (e2 oIx (eV 4) (eC (.int 1))))
          sNil))))))
    (sRet (eV 2))))
noncomputable def f__law_come_to : List D → Ro D := runD 8 .rep g__law_come_to

/- law_k08: 0=_law_script 1=_law_program_here 2=_law_handed 3=_law_verdict 4=_law_filled_here 5=_law_rule_here 6=_law_words_here 7=_law_said 8=_law_came 9=_law_fact -/
noncomputable def g_law_k08 : SDen :=
    (sSeq (sSet 1 (eN f__law_program (aC (eV 0) aN)))
    (sSeq (sSet 2 (eN oLst2 (aC (eN oList (aC (e2 oIx (eV 1) (eC (.int 0))) aN)) (aC (eN oList (aC (e2 oIx (eV 1) (eC (.int 1))) aN)) aN))))
    (sSeq (sSet 3 (eN f_decided (aC (e2 oIx (eV 2) (eC (.int 0))) (aC (e2 oIx (eV 2) (eC (.int 1))) aN))))
    (sSeq (sSet 4 (eN f__law_filled (aC (e2 oIx (eV 1) (eC (.int 0))) (aC (e2 oIx (eV 1) (eC (.int 1))) aN))))
    (sSeq (sFor [.any, .val, .any, .val, .val, .any, .any, .any, .any, .any] 5 (lE (eV 4))
      (sSeq (sSet 6 (eN f__law_words (aC (eV 3) (aC (eV 5) aN))))
      (sSeq (sSet 7 (eM f_said (eV 3) (aC (e2 oIx (eV 5) (eC (.int 1))) aN)))
      (sSeq (sIf (tOr' (tNot' (tE (e1 (oIsi "str") (eV 7)))) (tE (e2 oNotIn (eV 7) (eN oLst (aC (eC (.str (PySem.Str.ofString "yes"))) (aC (eC (.str (PySem.Str.ofString "no"))) (aC (eC (.str (PySem.Str.ofString "open"))) aN)))))))
        (sRet (eC (.bl false)))
        sNil)
      (sSeq (sIf (tAnd' (tE (e2 oNe (eV 7) (eC (.str (PySem.Str.ofString "yes"))))) (tAnd' (tE (e2 oEq (e2 oIx (eV 6) (eC (.int 0))) (e2 oMul (eN oLst (aC (eC (.str (PySem.Str.ofString "yes"))) aN)) (eN oLen (aC (e2 oIx (eV 5) (eC (.int 2))) aN))))) (tE (e2 oEq (e2 oIx (eV 6) (eC (.int 1))) (e2 oMul (eN oLst (aC (eC (.str (PySem.Str.ofString "no"))) aN)) (eN oLen (aC (e2 oIx (eV 5) (eC (.int 3))) aN)))))))
        (sRet (eC (.bl false)))
        sNil)
      (sIf (tE (e2 oNe (e2 oEq (eV 7) (eC (.str (PySem.Str.ofString "open")))) (e2 oIn (e2 oIx (eV 5) (eC (.int 1))) (e1 (oFld 2) (eV 3)))))
        (sRet (eC (.bl false)))
        sNil))))))
    (sSeq (sSet 8 (eN f__law_come_to (aC (eV 3) (aC (eV 4) aN))))
    (sSeq (sFor [.any, .any, .any, .val, .any, .any, .any, .any, .val, .any] 9 (lE (e2 oIx (eV 1) (eC (.int 0))))
      (sIf (tE (e2 oNe (eM f_said (eV 3) (aC (eV 9) aN)) (eC (.str (PySem.Str.ofString "yes")))))
        (sRet (eC (.bl false)))
        sNil))
    (sRet (e2 oEq (eLc 9 (lE (e1 (oFld 2) (eV 3))) (tOr' (tE (e2 oNotIn (eV 9) (eV 8))) (tE (e2 oNe (eM f_said (eV 3) (aC (eV 9) aN)) (eC (.str (PySem.Str.ofString "open")))))) (eV 9)) (eN oLst aN))))))))))
noncomputable def f_law_k08 : List D → Ro D := runD 10 .rep g_law_k08

/- _law_follows: 0=_law_given 1=_law_filled_here 2=_law_held 3=_law_told 4=_law_more 5=_law_rule_here 6=_law_lacks 7=_law_against 8=_law_fact -/
noncomputable def g__law_follows : SDen :=
    (sSeq (sSet 3 (eN oList (aC (eV 0) aN)))
    (sSeq (sSet 4 (eC (.bl true)))
    (sSeq (sWhile [.any, .bor, .bor, .own, .val, .any, .any, .any, .any] (tE (eV 4))
      (sSeq (sSet 4 (eC (.bl false)))
      (sFor [.any, .bor, .bor, .own, .val, .any, .any, .any, .any] 5 (lE (eV 1))
        (sSeq (sSet 6 (eLc 8 (lE (e2 oIx (eV 5) (eC (.int 2)))) (tE (e2 oNotIn (eV 8) (eV 3))) (eV 8)))
        (sSeq (sSet 7 (eLc 8 (lE (e2 oIx (eV 5) (eC (.int 3)))) (tE (e2 oIn (eV 8) (eV 2))) (eV 8)))
        (sIf (tAnd' (tE (e2 oNotIn (e2 oIx (eV 5) (eC (.int 1))) (eV 3))) (tAnd' (tE (e2 oEq (eV 6) (eN oLst aN))) (tE (e2 oEq (eV 7) (eN oLst aN)))))
          (sSeq (sApp 3 (e2 oIx (eV 5) (eC (.int 1))))
          (sSet 4 (eC (.bl true))))
          sNil))))))
    (sRet (eV 3)))))
noncomputable def f__law_follows : List D → Ro D := runD 9 .rep g__law_follows

/- _law_sets: 0=_law_given 1=_law_filled_here 2=_law_sure 3=_law_wide 4=_law_more -/
noncomputable def g__law_sets : SDen :=
    (sSeq (sSet 2 (eN oLst aN))
    (sWhile [.bor, .bor, .val, .any, .any] (tE (eC (.bl true)))
      (sSeq (sSet 3 (eN f__law_follows (aC (eV 0) (aC (eV 1) (aC (eV 2) aN)))))
      (sSeq (sSet 4 (eN f__law_follows (aC (eV 0) (aC (eV 1) (aC (eV 3) aN)))))
      (sSeq (sIf (tE (e2 oEq (eN oLen (aC (eV 4) aN)) (eN oLen (aC (eV 2) aN))))
        (sRet (eN oTup (aC (eV 2) (aC (eV 3) aN))))
        sNil)
      (sSet 2 (eV 4)))))))
noncomputable def f__law_sets : List D → Ro D := runD 5 .rep g__law_sets

/- law_k12: 0=_law_script 1=_law_program_here 2=_law_handed 3=_law_verdict 4=_law_odd 5=_law_filled_here 6=_law_sets_here 7=_law_stood 8=_law_rule_here 9=_law_fact 10=_law_due 11=_law_found -/
noncomputable def g_law_k12 : SDen :=
    (sSeq (sSet 1 (eN f__law_program (aC (eV 0) aN)))
    (sSeq (sSet 2 (eN oLst2 (aC (eN oList (aC (e2 oIx (eV 1) (eC (.int 0))) aN)) (aC (eN oList (aC (e2 oIx (eV 1) (eC (.int 1))) aN)) aN))))
    (sSeq (sSet 3 (eN f_decided (aC (e2 oIx (eV 2) (eC (.int 0))) (aC (e2 oIx (eV 2) (eC (.int 1))) aN))))
    (sSeq (sSet 4 (eN oTup (aC (eC (.str (PySem.Str.ofString "odd"))) (aC (eC (.str (PySem.Str.ofString "0"))) aN))))
    (sSeq (sDrop (eV 4))
    (sSeq (sDrop (eN oTup (aC (eV 4) (aC (eN oTup aN) (aC (eN oTup aN) aN)))))
    (sSeq (sSet 5 (eN f__law_filled (aC (e2 oIx (eV 1) (eC (.int 0))) (aC (e2 oIx (eV 1) (eC (.int 1))) aN))))
    (sSeq (sSet 6 (eN f__law_sets (aC (e2 oIx (eV 1) (eC (.int 0))) (aC (eV 5) aN))))
    (sSeq (sSet 7 (eN oList (aC (e2 oIx (eV 1) (eC (.int 0))) aN)))
    (sSeq (sFor [.any, .any, .any, .val, .val, .any, .val, .val, .any, .any, .any, .any] 8 (lE (eV 5))
      (sSet 7 (e2 oAdd (e2 oAdd (e2 oAdd (eV 7) (eN oLst (aC (e2 oIx (eV 8) (eC (.int 1))) aN))) (eN oList (aC (e2 oIx (eV 8) (eC (.int 2))) aN))) (eN oList (aC (e2 oIx (eV 8) (eC (.int 3))) aN)))))
    (sSeq (sFor [.any, .any, .any, .val, .val, .any, .val, .val, .any, .any, .any, .any] 9 (lE (eV 7))
      (sSeq (sSet 10 (eC (.str (PySem.Str.ofString "no"))))
      (sSeq (sIf (tE (e2 oIn (eV 9) (e2 oIx (eV 6) (eC (.int 1)))))
        (sSet 10 (eC (.str (PySem.Str.ofString "open"))))
        sNil)
      (sSeq (sIf (tE (e2 oIn (eV 9) (e2 oIx (eV 6) (eC (.int 0)))))
        (sSet 10 (eC (.str (PySem.Str.ofString "yes"))))
        sNil)
      (sSeq (sSet 11 (eM f_said (eV 3) (aC (eV 9) aN)))
      (sIf (tOr' (tNot' (tE (e1 (oIsi "str") (eV 11)))) (tE (e2 oNe (eV 11) (eV 10))))
        (sRet (eC (.bl false)))
        sNil))))))
    (sRet (eOr (e2 oIn (eV 4) (eV 7)) (e2 oEq (eM f_said (eV 3) (aC (eV 4) aN)) (eC (.str (PySem.Str.ofString "no")))))))))))))))))
noncomputable def f_law_k12 : List D → Ro D := runD 12 .rep g_law_k12

/- _law_atom_of: 0=_law_number 1=_law_kind 2=_law_words 3=_law_parts 4=_law_one 5=_law_other -/
noncomputable def g__law_atom_of : SDen :=
    (sSeq (sSet 4 (e2 oIx (eV 3) (e2 oMod (eV 0) (eN oLen (aC (eV 3) aN)))))
    (sSeq (sSet 5 (e2 oIx (eV 3) (e2 oMod (e2 oDiv (eV 0) (eN oLen (aC (eV 3) aN))) (eN oLen (aC (eV 3) aN)))))
    (sRet (e2 oIx (eN oLst (aC (eN oTup (aC (e2 oIx (eV 2) (eC (.int 0))) (aC (eV 4) aN))) (aC (eN oTup (aC (e2 oIx (eV 2) (eC (.int 1))) (aC (eV 4) (aC (eV 5) aN)))) (aC (eN oTup (aC (e2 oIx (eV 2) (eC (.int 2))) (aC (eV 4) aN))) (aC (eN oTup (aC (e2 oIx (eV 2) (eC (.int 3))) (aC (eV 5) (aC (eV 4) aN)))) aN))))) (eV 1)))))
noncomputable def f__law_atom_of : List D → Ro D := runD 6 .rep g__law_atom_of

/- _law_layered_rule: 0=_law_cell 1=_law_words 2=_law_things_here 3=_law_names 4=_law_one 5=_law_two 6=_law_three 7=_law_slots_here 8=_law_parts 9=_law_kind 10=_law_yeses 11=_law_nots 12=_law_k 13=_law_slot -/
noncomputable def g__law_layered_rule : SDen :=
    (sSeq (sSet 4 (e2 oMod (e2 oMul (eV 0) (eC (.int 48271))) (eC (.int 2147483647))))
    (sSeq (sSet 5 (e2 oMod (e2 oMul (eV 0) (eC (.int 69621))) (eC (.int 998244353))))
    (sSeq (sSet 6 (e2 oMod (e2 oMul (eV 0) (eC (.int 16807))) (eC (.int 1000000007))))
    (sSeq (sSet 7 (eSl oCut (eV 3) none (some (e2 oIx (eN oLst (aC (eC (.int 0)) (aC (eC (.int 1)) (aC (eC (.int 2)) (aC (eC (.int 1)) aN))))) (e2 oMod (eV 0) (eC (.int 4)))))))
    (sSeq (sSet 8 (e2 oAdd (eV 2) (eV 7)))
    (sSeq (sSet 9 (e2 oMod (eV 4) (eC (.int 4))))
    (sSeq (sSet 10 (eLc 13 (lE (eV 7)) tYes' (eN oTup (aC (e2 oIx (eV 1) (eC (.int 0))) (aC (eV 13) aN)))))
    (sSeq (sIf (tAnd' (tE (e2 oEq (eN oLen (aC (eV 7) aN)) (eC (.int 2)))) (tAnd' (tE (e2 oGt (eV 9) (eC (.int 0)))) (tE (e2 oEq (e2 oMod (eV 5) (eC (.int 2))) (eC (.int 1))))))
      (sSet 10 (eN oLst (aC (eN oTup (aC (e2 oIx (eV 1) (eC (.int 1))) (aC (e2 oIx (eV 7) (eC (.int 1))) (aC (e2 oIx (eV 7) (eC (.int 0))) aN)))) aN)))
      sNil)
    (sSeq (sIf (tE (e2 oEq (e2 oMod (eV 6) (eC (.int 2))) (eC (.int 1))))
      (sApp 10 (eN f__law_atom_of (aC (e2 oDiv (eV 6) (eC (.int 2))) (aC (e2 oMod (e2 oDiv (eV 5) (eC (.int 2))) (e2 oAdd (eV 9) (eC (.int 1)))) (aC (eV 1) (aC (eV 8) aN))))))
      sNil)
    (sSeq (sSet 11 (eN oLst aN))
    (sSeq (sFor [.any, .bor, .any, .any, .val, .val, .any, .any, .val, .val, .own, .own, .any, .any] 12 (lRng1 (e2 oIx (eN oLst (aC (eC (.int 0)) (aC (eC (.int 1)) (aC (eC (.int 1)) (aC (eC (.int 2)) aN))))) (e2 oMod (e2 oDiv (eV 6) (eC (.int 50))) (eC (.int 4)))))
      (sIf (tE (e2 oGt (eV 9) (eC (.int 0))))
        (sApp 11 (eN f__law_atom_of (aC (e2 oDiv (e2 oDiv (eV 5) (eC (.int 97))) (e2 oAdd (eC (.int 1)) (e2 oMul (eC (.int 9)) (eV 12)))) (aC (e2 oMod (e2 oDiv (eV 4) (eC (.int 4))) (eV 9)) (aC (eV 1) (aC (eV 8) aN))))))
        sNil))
    (sRet (eN oTup (aC (eN f__law_atom_of (aC (e2 oDiv (eV 4) (eC (.int 16))) (aC (eV 9) (aC (eV 1) (aC (eV 8) aN))))) (aC (eN oTuple (aC (eV 10) aN)) (aC (eN oTuple (aC (eV 11) aN)) aN))))))))))))))))
noncomputable def f__law_layered_rule : List D → Ro D := runD 14 .rep g__law_layered_rule

/- _law_told_k11: 0=_law_given 1=_law_filled_here 2=_law_words 3=_law_told_here 4=_law_word 5=_law_rule 6=_law_own 7=_law_turn 8=_law_lacks 9=_law_against 10=_law_fact -/
noncomputable def g__law_told_k11 : SDen :=
    (sSeq (sSet 3 (eN oList (aC (eV 0) aN)))
    (sSeq (sFor [.any, .bor, .any, .own, .any, .any, .any, .any, .any, .any, .any] 4 (lE (eV 2))
      (sSeq (sSet 6 (eLc 5 (lE (eV 1)) (tE (e2 oEq (e2 oIx (e2 oIx (eV 5) (eC (.int 1))) (eC (.int 0))) (eV 4))) (eV 5)))
      (sFor [.any, .bor, .any, .own, .any, .any, .val, .any, .any, .any, .any] 7 (lRng1 (eN oLen (aC (eV 6) aN)))
        (sFor [.any, .bor, .any, .own, .any, .any, .val, .any, .any, .any, .any] 5 (lE (eV 6))
          (sSeq (sSet 8 (eLc 10 (lE (e2 oIx (eV 5) (eC (.int 2)))) (tE (e2 oNotIn (eV 10) (eV 3))) (eV 10)))
          (sSeq (sSet 9 (eLc 10 (lE (e2 oIx (eV 5) (eC (.int 3)))) (tE (e2 oIn (eV 10) (eV 3))) (eV 10)))
          (sIf (tAnd' (tE (e2 oEq (eV 8) (eN oLst aN))) (tAnd' (tE (e2 oEq (eV 9) (eN oLst aN))) (tE (e2 oNotIn (e2 oIx (eV 5) (eC (.int 1))) (eV 3)))))
            (sApp 3 (e2 oIx (eV 5) (eC (.int 1))))
            sNil)))))))
    (sRet (eV 3))))
noncomputable def f__law_told_k11 : List D → Ro D := runD 11 .rep g__law_told_k11

/- law_k11: 0=_law_script 1=_law_words 2=_law_things_here 3=_law_names 4=_law_many 5=_law_given 6=_law_rules 7=_law_verdict 8=_law_filled_here 9=_law_told_here 10=_law_rule 11=_law_fact 12=_law_k 13=_law_cell -/
noncomputable def g_law_k11 : SDen :=
    (sSeq (sSet 1 (eLc 12 (lRng1 (eC (.int 4))) tYes' (eN f__law_word_by (aC (eN f__law_cell_at (aC (eV 0) (aC (eC (.int 0)) aN))) (aC (eV 12) aN)))))
    (sSeq (sSet 2 (eLc 12 (lRng1 (e2 oAdd (eC (.int 1)) (e2 oMod (eN f__law_cell_at (aC (eV 0) (aC (eC (.int 1)) aN))) (eC (.int 3))))) tYes' (eN f__law_thing_by (aC (e2 oDiv (eN f__law_cell_at (aC (eV 0) (aC (eC (.int 1)) aN))) (eC (.int 3))) (aC (eV 12) aN)))))
    (sSeq (sSet 3 (eLc 12 (lRng1 (eC (.int 2))) tYes' (e2 oAdd (eC (.str (PySem.Str.ofString "?"))) (eN f__law_word_by (aC (eN f__law_cell_at (aC (eV 0) (aC (eC (.int 2)) aN))) (aC (eV 12) aN))))))
    (sSeq (sSet 4 (e2 oMod (eN f__law_cell_at (aC (eV 0) (aC (eC (.int 3)) aN))) (eC (.int 4))))
    (sSeq (sSet 5 (eLc 13 (lE (eSl oCut (eV 0) (some (eC (.int 4))) (some (e2 oAdd (eC (.int 4)) (eV 4))))) tYes' (eN f__law_atom_of (aC (e2 oDiv (e2 oMod (e2 oMul (eV 13) (eC (.int 48271))) (eC (.int 2147483647))) (eC (.int 4))) (aC (e2 oMod (eV 13) (eC (.int 4))) (aC (eV 1) (aC (eV 2) aN)))))))
    (sSeq (sSet 6 (eLc 13 (lE (eSl oCut (eV 0) (some (e2 oAdd (eC (.int 4)) (eV 4))) (some (e2 oAdd (eC (.int 12)) (eV 4))))) tYes' (eN f__law_layered_rule (aC (eV 13) (aC (eV 1) (aC (eV 2) (aC (eV 3) aN)))))))
    (sSeq (sSet 7 (eN f_decided (aC (eN oList (aC (eV 5) aN)) (aC (eN oList (aC (eV 6) aN)) aN))))
    (sSeq (sIf (tOr' (tNot' (tE (e1 (oIsi "list") (e1 (oFld 2) (eV 7))))) (tE (e2 oNe (e1 (oFld 2) (eV 7)) (eN oLst aN))))
      (sRet (eC (.bl false)))
      sNil)
    (sSeq (sSet 8 (eN f__law_filled (aC (eV 5) (aC (eV 6) aN))))
    (sSeq (sSet 9 (eN f__law_told_k11 (aC (eV 5) (aC (eV 8) (aC (eV 1) aN)))))
    (sSeq (sFor [.any, .any, .any, .any, .any, .val, .any, .val, .any, .val, .any, .any, .any, .any] 10 (lE (eV 8))
      (sFor [.any, .any, .any, .any, .any, .val, .any, .val, .any, .val, .any, .any, .any, .any] 11 (lE (e2 oAdd (e2 oAdd (eN oLst (aC (e2 oIx (eV 10) (eC (.int 1))) aN)) (eN oList (aC (e2 oIx (eV 10) (eC (.int 2))) aN))) (eN oList (aC (e2 oIx (eV 10) (eC (.int 3))) aN))))
        (sIf (tE (e2 oNe (eM f_said (eV 7) (aC (eV 11) aN)) (e2 oIx (eN oLst (aC (eC (.str (PySem.Str.ofString "no"))) (aC (eC (.str (PySem.Str.ofString "yes"))) aN))) (eN oInt (aC (e2 oIn (eV 11) (eV 9)) aN)))))
          (sRet (eC (.bl false)))
          sNil)))
    (sRet (e2 oEq (eLc 11 (lE (eV 5)) (tE (e2 oNe (eM f_said (eV 7) (aC (eV 11) aN)) (eC (.str (PySem.Str.ofString "yes"))))) (eV 11)) (eN oLst aN))))))))))))))
noncomputable def f_law_k11 : List D → Ro D := runD 14 .rep g_law_k11

end L2.Nf

namespace L2.Nf.k11
open PySem PySem.Spec PyProof.Rows
set_option maxHeartbeats 4000000
def top (i : Nat) : Stmt := PySem.Challenge.pw_notfound_k11_whole_layers.main.body.getD i (.Pass ⟨0, 0, 0, 0⟩)
abbrev s_made_of : Stmt := top 10
abbrev s_is_word : Stmt := top 11
abbrev s_is_thing : Stmt := top 12
abbrev s_is_slot : Stmt := top 13
abbrev s_slots_of : Stmt := top 14
abbrev s_put_in : Stmt := top 15
abbrev s_things_of : Stmt := top 17
abbrev s_rows_of : Stmt := top 18
abbrev s_filled_by : Stmt := top 19
abbrev s_filled_rules : Stmt := top 20
abbrev s_check_fact : Stmt := top 29
abbrev s_check_pattern : Stmt := top 30
abbrev s_check_rule : Stmt := top 31
abbrev s_count_filled : Stmt := top 32
abbrev s_check : Stmt := top 33
abbrev s_as_keys : Stmt := top 35
abbrev s_holds : Stmt := top 36
abbrev s_entered : Stmt := top 37
abbrev s_standing : Stmt := top 38
abbrev s_may_hold : Stmt := top 39
abbrev s_kept_out : Stmt := top 40
abbrev s_said : Stmt := mth (top 41) 1
abbrev s_decided : Stmt := top 42
abbrev s__law_cell_at : Stmt := top 44
abbrev s__law_word_by : Stmt := top 45
abbrev s__law_thing_by : Stmt := top 46
abbrev s__law_things : Stmt := top 47
abbrev s__law_slots : Stmt := top 48
abbrev s__law_put : Stmt := top 49
abbrev s__law_row : Stmt := top 50
abbrev s__law_filled : Stmt := top 51
abbrev s__law_atom_of : Stmt := top 52
abbrev s__law_layered_rule : Stmt := top 53
abbrev s__law_told : Stmt := top 54
abbrev s_law : Stmt := top 55
abbrev s_Verdict : Stmt := top 41
abbrev N_made_of : List Str := ["part", "signs", "sign"]
abbrev N_is_word : List Str := ["part"]
abbrev N_is_thing : List Str := ["part"]
abbrev N_is_slot : List Str := ["part"]
abbrev N_slots_of : List Str := ["patterns", "found", "pattern", "part"]
abbrev N_put_in : List Str := ["pattern", "filling", "part"]
abbrev N_things_of : List Str := ["given", "rules", "found", "fact", "part", "rule", "pattern"]
abbrev N_rows_of : List Str := ["things", "size", "rows", "k", "longer", "row", "thing"]
abbrev N_filled_by : List Str := ["at", "rule", "names", "row", "filling", "k", "yeses", "nots", "pattern"]
abbrev N_filled_rules : List Str := ["given", "rules", "things", "found", "at", "names", "row"]
abbrev N_check_fact : List Str := ["fact", "part"]
abbrev N_check_pattern : List Str := ["pattern", "part"]
abbrev N_check_rule : List Str := ["rule", "pattern", "bound", "slot"]
abbrev N_count_filled : List Str := ["given", "rules", "things", "total", "rule", "many", "slot"]
abbrev N_check : List Str := ["given", "rules", "fact", "rule"]
abbrev N_as_keys : List Str := ["facts", "found", "fact"]
abbrev N_holds : List Str := ["rule", "yes", "no", "fact"]
abbrev N_entered : List Str := ["filled", "told", "refuted", "yes", "no", "rows", "more", "at", "rule"]
abbrev N_standing : List Str := ["filled", "found", "rule", "fact"]
abbrev N_may_hold : List Str := ["rule", "yes", "no", "able", "fact"]
abbrev N_kept_out : List Str := ["filled", "told", "refuted", "yes", "no", "able", "more", "rule", "fact"]
abbrev N_said : List Str := ["self", "fact"]
abbrev N_decided : List Str := ["given", "rules", "filled", "yes", "no", "story", "fact", "more", "row", "out", "left"]
abbrev N__law_cell_at : List Str := ["_law_script", "_law_k"]
abbrev N__law_word_by : List Str := ["_law_cell", "_law_k", "_law_letters", "_law_j", "_law_base", "_law_at", "_law_tail", "_law_found"]
abbrev N__law_thing_by : List Str := ["_law_cell", "_law_k", "_law_signs", "_law_j", "_law_base", "_law_at", "_law_tail", "_law_found"]
abbrev N__law_things : List Str := ["_law_given", "_law_rules", "_law_patterns", "_law_rule", "_law_found", "_law_pattern", "_law_part"]
abbrev N__law_slots : List Str := ["_law_patterns", "_law_found", "_law_pattern", "_law_part"]
abbrev N__law_put : List Str := ["_law_pattern", "_law_slots_here", "_law_row_here", "_law_found", "_law_part"]
abbrev N__law_row : List Str := ["_law_turn", "_law_things_here", "_law_size", "_law_row_here", "_law_k"]
abbrev N__law_filled : List Str := ["_law_given", "_law_rules", "_law_things_here", "_law_found", "_law_at", "_law_slots_here", "_law_many", "_law_slot", "_law_turn", "_law_row_here", "_law_parts", "_law_nots", "_law_pattern"]
abbrev N__law_atom_of : List Str := ["_law_number", "_law_kind", "_law_words", "_law_parts", "_law_one", "_law_other"]
abbrev N__law_layered_rule : List Str := ["_law_cell", "_law_words", "_law_things_here", "_law_names", "_law_one", "_law_two", "_law_three", "_law_slots_here", "_law_parts", "_law_kind", "_law_yeses", "_law_nots", "_law_k", "_law_slot"]
abbrev N__law_told : List Str := ["_law_given", "_law_filled_here", "_law_words", "_law_told_here", "_law_word", "_law_rule", "_law_own", "_law_turn", "_law_lacks", "_law_against", "_law_fact"]
abbrev N_law : List Str := ["_law_script", "_law_words", "_law_things_here", "_law_names", "_law_many", "_law_given", "_law_rules", "_law_verdict", "_law_filled_here", "_law_told_here", "_law_rule", "_law_fact", "_law_k", "_law_cell"]
/-- what stands at the top besides the defs -/
structure Txt (K : PySem.W.Frag) (mg : Str → Option Value) (p : Pt) : Prop where
  b_int : mg "int" = none
  b_isinstance : mg "isinstance" = none
  b_len : mg "len" = none
  b_list : mg "list" = none
  b_range : mg "range" = none
  b_sorted : mg "sorted" = none
  b_tuple : mg "tuple" = none
  g_FIGURES : ∃ t, mg "FIGURES" = some (.str (PySem.Str.ofString "0123456789") t)
  g_LETTERS : ∃ t, mg "LETTERS" = some (.str (PySem.Str.ofString "abcdefghijklmnopqrstuvwxyz") t)
  g_LONGEST : ∃ t, mg "LONGEST" = some (.int 8 t)
  g_MOST_BODY : ∃ t, mg "MOST_BODY" = some (.int 6 t)
  g_MOST_FILLED : ∃ t, mg "MOST_FILLED" = some (.int 2000 t)
  g_MOST_GIVEN : ∃ t, mg "MOST_GIVEN" = some (.int 60 t)
  g_MOST_PARTS : ∃ t, mg "MOST_PARTS" = some (.int 3 t)
  g_MOST_RULES : ∃ t, mg "MOST_RULES" = some (.int 20 t)
  g_MOST_SLOTS : ∃ t, mg "MOST_SLOTS" = some (.int 3 t)
  g_MOST_THINGS : ∃ t, mg "MOST_THINGS" = some (.int 8 t)
  vd : ClsAt K mg p s_Verdict
structure Defs (K : PySem.W.Frag) (mg : Str → Option Value) : Prop where
  d_made_of : DefAt K mg "made_of" s_made_of
  d_is_word : DefAt K mg "is_word" s_is_word
  d_is_thing : DefAt K mg "is_thing" s_is_thing
  d_is_slot : DefAt K mg "is_slot" s_is_slot
  d_slots_of : DefAt K mg "slots_of" s_slots_of
  d_put_in : DefAt K mg "put_in" s_put_in
  d_things_of : DefAt K mg "things_of" s_things_of
  d_rows_of : DefAt K mg "rows_of" s_rows_of
  d_filled_by : DefAt K mg "filled_by" s_filled_by
  d_filled_rules : DefAt K mg "filled_rules" s_filled_rules
  d_check_fact : DefAt K mg "check_fact" s_check_fact
  d_check_pattern : DefAt K mg "check_pattern" s_check_pattern
  d_check_rule : DefAt K mg "check_rule" s_check_rule
  d_count_filled : DefAt K mg "count_filled" s_count_filled
  d_check : DefAt K mg "check" s_check
  d_as_keys : DefAt K mg "as_keys" s_as_keys
  d_holds : DefAt K mg "holds" s_holds
  d_entered : DefAt K mg "entered" s_entered
  d_standing : DefAt K mg "standing" s_standing
  d_may_hold : DefAt K mg "may_hold" s_may_hold
  d_kept_out : DefAt K mg "kept_out" s_kept_out
  d_decided : DefAt K mg "decided" s_decided
  d__law_cell_at : DefAt K mg "_law_cell_at" s__law_cell_at
  d__law_word_by : DefAt K mg "_law_word_by" s__law_word_by
  d__law_thing_by : DefAt K mg "_law_thing_by" s__law_thing_by
  d__law_things : DefAt K mg "_law_things" s__law_things
  d__law_slots : DefAt K mg "_law_slots" s__law_slots
  d__law_put : DefAt K mg "_law_put" s__law_put
  d__law_row : DefAt K mg "_law_row" s__law_row
  d__law_filled : DefAt K mg "_law_filled" s__law_filled
  d__law_atom_of : DefAt K mg "_law_atom_of" s__law_atom_of
  d__law_layered_rule : DefAt K mg "_law_layered_rule" s__law_layered_rule
  d__law_told : DefAt K mg "_law_told" s__law_told
  d_law : DefAt K mg "law" s_law
section
variable {P : Program} {w : World} {K : PySem.W.Frag} {mg : Str → Option Value} {base : Heap}
abbrev s_init : Stmt := mth s_Verdict 0
abbrev N_init : List Str := ["self", "filled", "story", "left", "step", "fact"]
theorem sc_init : FnScope N_init ["self", "filled", "story", "left"] (defScope s_init) := ⟨rfl, rfl, rfl, by decide +kernel, rfl, by decide +kernel, by decide +kernel⟩
theorem I_init (p : Pt) (T : Txt K mg p) {fa : Addr} {fd : FuncData} (F : Fun K "__init__" "Verdict.__init__" s_init fa fd) : FnOk P w K mg base (L2.CX P w) 2 fa fd ["self", "filled", "story", "left"] (spInit K p) := by
  refine init_ok (k := 1) T.vd.vd F sc_init fun cdv A outer s H E hr => ?_
  have nd := sc_init.nd
  have hun := hr.un
  have hu1 := hu_of hr
  have hu64 : (A.deeper (envOfC "Verdict.__init__" (defScope s_init) s.heap.objs.size fa cdv)).units + 64 < cLine := by omega
  have hp : PassesOwn (model P w) (A.deeper (envOfC "Verdict.__init__" (defScope s_init) s.heap.objs.size fa cdv)) (envOfC "Verdict.__init__" (defScope s_init) s.heap.objs.size fa cdv) (cxOf (L2.CX P w) P w K mg base N_init "Verdict.__init__" (defScope s_init) fa cdv A outer s H E).xe := passes_of rfl
  show InitBody _ p (defBody s_init)
  exact init_body hu1 rfl nd hp (fun _ => pe_var rfl (by first | exact Or.inl rfl | exact Or.inr (Or.inl rfl) | exact Or.inr (Or.inr rfl))) (pk_v 1) (pk_v 2) (pk_v 3) pk_dT (pi_e (pk_v 2)) (pi_e (pk_v 3)) (pt_cmpk (op_eqD hu64) (o2_eq hu64) nx_eq (pk_cast (k' := .rd) (pk_ix hu1 (pk_v 4) pk_int)) (pk_cast (k' := .rd) pk_str) (nomark _)) (pk_ix hu1 (pk_v 4) pk_int) pk_str (pk_v 5) pk_str (pg_name nd rfl (by first | exact Or.inl rfl | exact Or.inr rfl)) (pg_name nd rfl (by first | exact Or.inl rfl | exact Or.inr rfl)) rfl rfl rfl rfl rfl rfl rfl rfl (fun _ => rfl) (fun _ => rfl)
theorem K_Verdict (p : Pt) (T : Txt K mg p) (D : Defs K mg) : MkD P w K mg base p 2 := by
  obtain ⟨fa, fd, hm, F⟩ := T.vd.ini
  exact ⟨T.vd.gC, fa, fd, _, hm, F.binds (ps := ["self", "filled", "story", "left"]) fun _ _ _ _ _ _ us hl => match us, hl with | [_, _, _, _], _ => rfl, I_init p T F⟩
theorem sc_made_of : FnScope N_made_of ["part", "signs"] (defScope s_made_of) := ⟨rfl, rfl, rfl, by decide +kernel, rfl, by decide +kernel, by decide +kernel⟩
theorem O_made_of (p : Pt) (T : Txt K mg p) (D : Defs K mg) {fa : Addr} {fd : FuncData} (F : Fun K "made_of" "made_of" s_made_of fa fd) : FnOk P w K mg base (L2.CX P w) 2 fa fd ["part", "signs"] (spD K p [.bor, .bor] .rep f_made_of) := by
  refine okD (k := 1) F sc_made_of (M1 := [.bor, .bor, .any]) fun cdv A outer s H E hr => ?_
  have nd := sc_made_of.nd
  have hun := hr.un
  have hu1 := hu_of hr
  have hu10 : (A.deeper (envOfC "made_of" (defScope s_made_of) s.heap.objs.size fa cdv)).units + 10 < cLine := by omega
  have hu64 : (A.deeper (envOfC "made_of" (defScope s_made_of) s.heap.objs.size fa cdv)).units + 64 < cLine := by omega
  have hu65 : (A.deeper (envOfC "made_of" (defScope s_made_of) s.heap.objs.size fa cdv)).units + 65 < cLine := by omega
  have hp : PassesOwn (model P w) (A.deeper (envOfC "made_of" (defScope s_made_of) s.heap.objs.size fa cdv)) (envOfC "made_of" (defScope s_made_of) s.heap.objs.size fa cdv) (cxOf (L2.CX P w) P w K mg base N_made_of "made_of" (defScope s_made_of) fa cdv A outer s H E).xe := passes_of rfl
  obtain ⟨t_FIGURES, g_FIGURES⟩ := T.g_FIGURES
  obtain ⟨t_LETTERS, g_LETTERS⟩ := T.g_LETTERS
  obtain ⟨t_LONGEST, g_LONGEST⟩ := T.g_LONGEST
  obtain ⟨t_MOST_BODY, g_MOST_BODY⟩ := T.g_MOST_BODY
  obtain ⟨t_MOST_FILLED, g_MOST_FILLED⟩ := T.g_MOST_FILLED
  obtain ⟨t_MOST_GIVEN, g_MOST_GIVEN⟩ := T.g_MOST_GIVEN
  obtain ⟨t_MOST_PARTS, g_MOST_PARTS⟩ := T.g_MOST_PARTS
  obtain ⟨t_MOST_RULES, g_MOST_RULES⟩ := T.g_MOST_RULES
  obtain ⟨t_MOST_SLOTS, g_MOST_SLOTS⟩ := T.g_MOST_SLOTS
  obtain ⟨t_MOST_THINGS, g_MOST_THINGS⟩ := T.g_MOST_THINGS
  show PSsk _ p _ _ _ _ (defBody s_made_of) g_made_of
  exact
    (sk_cons (sk_if (pt_w (pw_o (pt_cmpk op_lt o2_rel nx_rel (pk_callB call_lenU on_len nx_len (pk_ac (pk_cast (k' := .rd) (pk_b 0)) pk_an) T.b_len) pk_int (nomark _)) (pw_o1 (pt_cmpk op_gt o2_rel nx_rel (pk_callB call_lenU on_len nx_len (pk_ac (pk_cast (k' := .rd) (pk_b 0)) pk_an) T.b_len) (pk_gint (z := 8) rfl g_LONGEST) (nomark _)))))
      (sk_one (sk_ret pk_bl))
      sk_nil)
    (sk_cons (sk_for [.any, .bor, .any] 2 rfl nd hp (pi_e (pk_b 0))
      (sk_one (sk_if (pt_cmpk (op_notInU hu65) o2_notIn nx_notIn (pk_cast (k' := .rd) (pk_v 2)) (pk_cast (k' := .top) (pk_b 1)) (by rfl))
        (sk_one (sk_ret pk_bl))
        sk_nil)))
    (sk_one (sk_ret pk_bl))))
theorem F_made_of (p : Pt) (T : Txt K mg p) (D : Defs K mg) : FnD P w K mg base p "made_of" 2 [.bor, .bor] .rep f_made_of := by
  obtain ⟨fa, fd, hm, F⟩ := D.d_made_of.ex
  exact .of hm F.kp (F.binds (ps := ["part", "signs"]) fun _ _ _ _ _ _ us hl => match us, hl with | [_, _], _ => rfl) (O_made_of p T D F)
theorem sc_is_word : FnScope N_is_word ["part"] (defScope s_is_word) := ⟨rfl, rfl, rfl, by decide +kernel, rfl, by decide +kernel, by decide +kernel⟩
theorem O_is_word (p : Pt) (T : Txt K mg p) (D : Defs K mg) {fa : Addr} {fd : FuncData} (F : Fun K "is_word" "is_word" s_is_word fa fd) : FnOk P w K mg base (L2.CX P w) 3 fa fd ["part"] (spD K p [.bor] .rep f_is_word) := by
  refine okD (k := 2) F sc_is_word (M1 := [.bor]) fun cdv A outer s H E hr => ?_
  have nd := sc_is_word.nd
  have hun := hr.un
  have hu1 := hu_of hr
  have hu10 : (A.deeper (envOfC "is_word" (defScope s_is_word) s.heap.objs.size fa cdv)).units + 10 < cLine := by omega
  have hu64 : (A.deeper (envOfC "is_word" (defScope s_is_word) s.heap.objs.size fa cdv)).units + 64 < cLine := by omega
  have hu65 : (A.deeper (envOfC "is_word" (defScope s_is_word) s.heap.objs.size fa cdv)).units + 65 < cLine := by omega
  have hp : PassesOwn (model P w) (A.deeper (envOfC "is_word" (defScope s_is_word) s.heap.objs.size fa cdv)) (envOfC "is_word" (defScope s_is_word) s.heap.objs.size fa cdv) (cxOf (L2.CX P w) P w K mg base N_is_word "is_word" (defScope s_is_word) fa cdv A outer s H E).xe := passes_of rfl
  obtain ⟨t_FIGURES, g_FIGURES⟩ := T.g_FIGURES
  obtain ⟨t_LETTERS, g_LETTERS⟩ := T.g_LETTERS
  obtain ⟨t_LONGEST, g_LONGEST⟩ := T.g_LONGEST
  obtain ⟨t_MOST_BODY, g_MOST_BODY⟩ := T.g_MOST_BODY
  obtain ⟨t_MOST_FILLED, g_MOST_FILLED⟩ := T.g_MOST_FILLED
  obtain ⟨t_MOST_GIVEN, g_MOST_GIVEN⟩ := T.g_MOST_GIVEN
  obtain ⟨t_MOST_PARTS, g_MOST_PARTS⟩ := T.g_MOST_PARTS
  obtain ⟨t_MOST_RULES, g_MOST_RULES⟩ := T.g_MOST_RULES
  obtain ⟨t_MOST_SLOTS, g_MOST_SLOTS⟩ := T.g_MOST_SLOTS
  obtain ⟨t_MOST_THINGS, g_MOST_THINGS⟩ := T.g_MOST_THINGS
  show PSsk _ p _ _ _ _ (defBody s_is_word) g_is_word
  exact
    (sk_one (sk_ret (pk_call (ms := [.bor, .bor]) (F_made_of p T D) (hr.mono (by decide)) (takes_of rfl rfl rfl rfl) (pk_ac (pk_cast (k' := .top) (pk_b 0)) (pk_ac (pk_cast (k' := .top) (pk_gstr (z := (PySem.Str.ofString "abcdefghijklmnopqrstuvwxyz")) rfl g_LETTERS)) pk_an)))))
theorem F_is_word (p : Pt) (T : Txt K mg p) (D : Defs K mg) : FnD P w K mg base p "is_word" 3 [.bor] .rep f_is_word := by
  obtain ⟨fa, fd, hm, F⟩ := D.d_is_word.ex
  exact .of hm F.kp (F.binds (ps := ["part"]) fun _ _ _ _ _ _ us hl => match us, hl with | [_], _ => rfl) (O_is_word p T D F)
theorem sc_is_thing : FnScope N_is_thing ["part"] (defScope s_is_thing) := ⟨rfl, rfl, rfl, by decide +kernel, rfl, by decide +kernel, by decide +kernel⟩
theorem O_is_thing (p : Pt) (T : Txt K mg p) (D : Defs K mg) {fa : Addr} {fd : FuncData} (F : Fun K "is_thing" "is_thing" s_is_thing fa fd) : FnOk P w K mg base (L2.CX P w) 3 fa fd ["part"] (spD K p [.bor] .rep f_is_thing) := by
  refine okD (k := 2) F sc_is_thing (M1 := [.bor]) fun cdv A outer s H E hr => ?_
  have nd := sc_is_thing.nd
  have hun := hr.un
  have hu1 := hu_of hr
  have hu10 : (A.deeper (envOfC "is_thing" (defScope s_is_thing) s.heap.objs.size fa cdv)).units + 10 < cLine := by omega
  have hu64 : (A.deeper (envOfC "is_thing" (defScope s_is_thing) s.heap.objs.size fa cdv)).units + 64 < cLine := by omega
  have hu65 : (A.deeper (envOfC "is_thing" (defScope s_is_thing) s.heap.objs.size fa cdv)).units + 65 < cLine := by omega
  have hp : PassesOwn (model P w) (A.deeper (envOfC "is_thing" (defScope s_is_thing) s.heap.objs.size fa cdv)) (envOfC "is_thing" (defScope s_is_thing) s.heap.objs.size fa cdv) (cxOf (L2.CX P w) P w K mg base N_is_thing "is_thing" (defScope s_is_thing) fa cdv A outer s H E).xe := passes_of rfl
  obtain ⟨t_FIGURES, g_FIGURES⟩ := T.g_FIGURES
  obtain ⟨t_LETTERS, g_LETTERS⟩ := T.g_LETTERS
  obtain ⟨t_LONGEST, g_LONGEST⟩ := T.g_LONGEST
  obtain ⟨t_MOST_BODY, g_MOST_BODY⟩ := T.g_MOST_BODY
  obtain ⟨t_MOST_FILLED, g_MOST_FILLED⟩ := T.g_MOST_FILLED
  obtain ⟨t_MOST_GIVEN, g_MOST_GIVEN⟩ := T.g_MOST_GIVEN
  obtain ⟨t_MOST_PARTS, g_MOST_PARTS⟩ := T.g_MOST_PARTS
  obtain ⟨t_MOST_RULES, g_MOST_RULES⟩ := T.g_MOST_RULES
  obtain ⟨t_MOST_SLOTS, g_MOST_SLOTS⟩ := T.g_MOST_SLOTS
  obtain ⟨t_MOST_THINGS, g_MOST_THINGS⟩ := T.g_MOST_THINGS
  show PSsk _ p _ _ _ _ (defBody s_is_thing) g_is_thing
  exact
    (sk_one (sk_ret (pk_call (ms := [.bor, .bor]) (F_made_of p T D) (hr.mono (by decide)) (takes_of rfl rfl rfl rfl) (pk_ac (pk_cast (k' := .top) (pk_b 0)) (pk_ac (pk_cast (k' := .top) (pk_bin op_addU o2_add nx_add (pk_cast (k' := .top) (pk_gstr (z := (PySem.Str.ofString "abcdefghijklmnopqrstuvwxyz")) rfl g_LETTERS)) (pk_cast (k' := .top) (pk_gstr (z := (PySem.Str.ofString "0123456789")) rfl g_FIGURES)))) pk_an)))))
theorem F_is_thing (p : Pt) (T : Txt K mg p) (D : Defs K mg) : FnD P w K mg base p "is_thing" 3 [.bor] .rep f_is_thing := by
  obtain ⟨fa, fd, hm, F⟩ := D.d_is_thing.ex
  exact .of hm F.kp (F.binds (ps := ["part"]) fun _ _ _ _ _ _ us hl => match us, hl with | [_], _ => rfl) (O_is_thing p T D F)
theorem sc_is_slot : FnScope N_is_slot ["part"] (defScope s_is_slot) := ⟨rfl, rfl, rfl, by decide +kernel, rfl, by decide +kernel, by decide +kernel⟩
theorem O_is_slot (p : Pt) (T : Txt K mg p) (D : Defs K mg) {fa : Addr} {fd : FuncData} (F : Fun K "is_slot" "is_slot" s_is_slot fa fd) : FnOk P w K mg base (L2.CX P w) 4 fa fd ["part"] (spD K p [.bor] .rep f_is_slot) := by
  refine okD (k := 3) F sc_is_slot (M1 := [.bor]) fun cdv A outer s H E hr => ?_
  have nd := sc_is_slot.nd
  have hun := hr.un
  have hu1 := hu_of hr
  have hu10 : (A.deeper (envOfC "is_slot" (defScope s_is_slot) s.heap.objs.size fa cdv)).units + 10 < cLine := by omega
  have hu64 : (A.deeper (envOfC "is_slot" (defScope s_is_slot) s.heap.objs.size fa cdv)).units + 64 < cLine := by omega
  have hu65 : (A.deeper (envOfC "is_slot" (defScope s_is_slot) s.heap.objs.size fa cdv)).units + 65 < cLine := by omega
  have hp : PassesOwn (model P w) (A.deeper (envOfC "is_slot" (defScope s_is_slot) s.heap.objs.size fa cdv)) (envOfC "is_slot" (defScope s_is_slot) s.heap.objs.size fa cdv) (cxOf (L2.CX P w) P w K mg base N_is_slot "is_slot" (defScope s_is_slot) fa cdv A outer s H E).xe := passes_of rfl
  obtain ⟨t_FIGURES, g_FIGURES⟩ := T.g_FIGURES
  obtain ⟨t_LETTERS, g_LETTERS⟩ := T.g_LETTERS
  obtain ⟨t_LONGEST, g_LONGEST⟩ := T.g_LONGEST
  obtain ⟨t_MOST_BODY, g_MOST_BODY⟩ := T.g_MOST_BODY
  obtain ⟨t_MOST_FILLED, g_MOST_FILLED⟩ := T.g_MOST_FILLED
  obtain ⟨t_MOST_GIVEN, g_MOST_GIVEN⟩ := T.g_MOST_GIVEN
  obtain ⟨t_MOST_PARTS, g_MOST_PARTS⟩ := T.g_MOST_PARTS
  obtain ⟨t_MOST_RULES, g_MOST_RULES⟩ := T.g_MOST_RULES
  obtain ⟨t_MOST_SLOTS, g_MOST_SLOTS⟩ := T.g_MOST_SLOTS
  obtain ⟨t_MOST_THINGS, g_MOST_THINGS⟩ := T.g_MOST_THINGS
  show PSsk _ p _ _ _ _ (defBody s_is_slot) g_is_slot
  exact
    (sk_one (sk_ret (pk_and (pk_cmp (op_eqD hu64) (o2_eq hu64) nx_eq (pk_cast (k' := .rd) (pk_sl sl_U os_cut nx_cut (pk_b 0) po_n (po_s pk_int))) (pk_cast (k' := .rd) pk_str) (nomark _)) (pk_one (pk_call (ms := [.bor]) (F_is_word p T D) (hr.mono (by decide)) (takes_of rfl rfl rfl rfl) (pk_ac (pk_cast (k' := .top) (pk_sl sl_U os_cut nx_cut (pk_b 0) (po_s pk_int) po_n)) pk_an))))))
theorem F_is_slot (p : Pt) (T : Txt K mg p) (D : Defs K mg) : FnD P w K mg base p "is_slot" 4 [.bor] .rep f_is_slot := by
  obtain ⟨fa, fd, hm, F⟩ := D.d_is_slot.ex
  exact .of hm F.kp (F.binds (ps := ["part"]) fun _ _ _ _ _ _ us hl => match us, hl with | [_], _ => rfl) (O_is_slot p T D F)
theorem sc_slots_of : FnScope N_slots_of ["patterns"] (defScope s_slots_of) := ⟨rfl, rfl, rfl, by decide +kernel, rfl, by decide +kernel, by decide +kernel⟩
theorem O_slots_of (p : Pt) (T : Txt K mg p) (D : Defs K mg) {fa : Addr} {fd : FuncData} (F : Fun K "slots_of" "slots_of" s_slots_of fa fd) : FnOk P w K mg base (L2.CX P w) 5 fa fd ["patterns"] (spD K p [.bor] .rep f_slots_of) := by
  refine okD (k := 4) F sc_slots_of (M1 := [.bor, .any, .any, .any]) fun cdv A outer s H E hr => ?_
  have nd := sc_slots_of.nd
  have hun := hr.un
  have hu1 := hu_of hr
  have hu10 : (A.deeper (envOfC "slots_of" (defScope s_slots_of) s.heap.objs.size fa cdv)).units + 10 < cLine := by omega
  have hu64 : (A.deeper (envOfC "slots_of" (defScope s_slots_of) s.heap.objs.size fa cdv)).units + 64 < cLine := by omega
  have hu65 : (A.deeper (envOfC "slots_of" (defScope s_slots_of) s.heap.objs.size fa cdv)).units + 65 < cLine := by omega
  have hp : PassesOwn (model P w) (A.deeper (envOfC "slots_of" (defScope s_slots_of) s.heap.objs.size fa cdv)) (envOfC "slots_of" (defScope s_slots_of) s.heap.objs.size fa cdv) (cxOf (L2.CX P w) P w K mg base N_slots_of "slots_of" (defScope s_slots_of) fa cdv A outer s H E).xe := passes_of rfl
  obtain ⟨t_FIGURES, g_FIGURES⟩ := T.g_FIGURES
  obtain ⟨t_LETTERS, g_LETTERS⟩ := T.g_LETTERS
  obtain ⟨t_LONGEST, g_LONGEST⟩ := T.g_LONGEST
  obtain ⟨t_MOST_BODY, g_MOST_BODY⟩ := T.g_MOST_BODY
  obtain ⟨t_MOST_FILLED, g_MOST_FILLED⟩ := T.g_MOST_FILLED
  obtain ⟨t_MOST_GIVEN, g_MOST_GIVEN⟩ := T.g_MOST_GIVEN
  obtain ⟨t_MOST_PARTS, g_MOST_PARTS⟩ := T.g_MOST_PARTS
  obtain ⟨t_MOST_RULES, g_MOST_RULES⟩ := T.g_MOST_RULES
  obtain ⟨t_MOST_SLOTS, g_MOST_SLOTS⟩ := T.g_MOST_SLOTS
  obtain ⟨t_MOST_THINGS, g_MOST_THINGS⟩ := T.g_MOST_THINGS
  show PSsk _ p _ _ _ _ (defBody s_slots_of) g_slots_of
  exact
    (sk_cons (sk_setO 1 (pk_lst pk_an) nd)
    (sk_cons (sk_for [.any, .own, .any, .any] 2 rfl nd hp (pi_e (pk_b 0))
      (sk_one (sk_for [.any, .own, .any, .any] 3 rfl nd hp (pi_e (pk_sl sl_U os_cut nx_cut (pk_v 2) (po_s pk_int) po_n))
        (sk_one (sk_if (pt_w (pw_a (pt_e (pk_call (ms := [.bor]) (F_is_slot p T D) (hr.mono (by decide)) (takes_of rfl rfl rfl rfl) (pk_ac (pk_cast (k' := .top) (pk_v 3)) pk_an))) (pw_a1 (pt_cmpk (op_notInU hu65) o2_notIn nx_notIn (pk_cast (k' := .rd) (pk_v 3)) (pk_o 1) (by rfl)))))
          (sk_one (sk_app 1 (pk_v 3)))
          sk_nil)))))
    (sk_one (sk_retO 1))))
theorem F_slots_of (p : Pt) (T : Txt K mg p) (D : Defs K mg) : FnD P w K mg base p "slots_of" 5 [.bor] .rep f_slots_of := by
  obtain ⟨fa, fd, hm, F⟩ := D.d_slots_of.ex
  exact .of hm F.kp (F.binds (ps := ["patterns"]) fun _ _ _ _ _ _ us hl => match us, hl with | [_], _ => rfl) (O_slots_of p T D F)
theorem sc_put_in : FnScope N_put_in ["pattern", "filling"] (defScope s_put_in) := ⟨rfl, rfl, rfl, by decide +kernel, rfl, by decide +kernel, by decide +kernel⟩
theorem O_put_in (p : Pt) (T : Txt K mg p) (D : Defs K mg) {fa : Addr} {fd : FuncData} (F : Fun K "put_in" "put_in" s_put_in fa fd) : FnOk P w K mg base (L2.CX P w) 2 fa fd ["pattern", "filling"] (spD K p [.bor, .bor] .rep f_put_in) := by
  refine okD (k := 1) F sc_put_in (M1 := [.bor, .bor, .any]) fun cdv A outer s H E hr => ?_
  have nd := sc_put_in.nd
  have hun := hr.un
  have hu1 := hu_of hr
  have hu10 : (A.deeper (envOfC "put_in" (defScope s_put_in) s.heap.objs.size fa cdv)).units + 10 < cLine := by omega
  have hu64 : (A.deeper (envOfC "put_in" (defScope s_put_in) s.heap.objs.size fa cdv)).units + 64 < cLine := by omega
  have hu65 : (A.deeper (envOfC "put_in" (defScope s_put_in) s.heap.objs.size fa cdv)).units + 65 < cLine := by omega
  have hp : PassesOwn (model P w) (A.deeper (envOfC "put_in" (defScope s_put_in) s.heap.objs.size fa cdv)) (envOfC "put_in" (defScope s_put_in) s.heap.objs.size fa cdv) (cxOf (L2.CX P w) P w K mg base N_put_in "put_in" (defScope s_put_in) fa cdv A outer s H E).xe := passes_of rfl
  obtain ⟨t_FIGURES, g_FIGURES⟩ := T.g_FIGURES
  obtain ⟨t_LETTERS, g_LETTERS⟩ := T.g_LETTERS
  obtain ⟨t_LONGEST, g_LONGEST⟩ := T.g_LONGEST
  obtain ⟨t_MOST_BODY, g_MOST_BODY⟩ := T.g_MOST_BODY
  obtain ⟨t_MOST_FILLED, g_MOST_FILLED⟩ := T.g_MOST_FILLED
  obtain ⟨t_MOST_GIVEN, g_MOST_GIVEN⟩ := T.g_MOST_GIVEN
  obtain ⟨t_MOST_PARTS, g_MOST_PARTS⟩ := T.g_MOST_PARTS
  obtain ⟨t_MOST_RULES, g_MOST_RULES⟩ := T.g_MOST_RULES
  obtain ⟨t_MOST_SLOTS, g_MOST_SLOTS⟩ := T.g_MOST_SLOTS
  obtain ⟨t_MOST_THINGS, g_MOST_THINGS⟩ := T.g_MOST_THINGS
  show PSsk _ p _ _ _ _ (defBody s_put_in) g_put_in
  exact
    (sk_one (sk_ret (pk_bin op_addU o2_add nx_add (pk_cast (k' := .top) (pk_tup (pk_ac (pk_ix hu1 (pk_b 0) pk_int) pk_an))) (pk_cast (k' := .top) (pk_callT call_tuple_of on_tuple nx_tuple (pk_ac (pk_cast (k' := .rd) (pk_lc 2 rfl nd rfl (blkOk_by (N := N_put_in) (sc := defScope s_put_in) (own := [("part", 2)]) (by decide +kernel)) (pi_e (pk_sl sl_U os_cut nx_cut (pk_b 0) (po_s pk_int) po_n)) (fun _ _ _ _ _ => pg_name (i := 2) nd rfl (by first | exact Or.inl rfl | exact Or.inr rfl)) (fun _ _ _ _ _ => pts_n) (fun _ _ _ _ _ => (pk_get2 hu1 (pk_b 1) (pk_v 2) (pk_v 2) ⟨rfl, rfl, rfl, rfl⟩)))) pk_an) T.b_tuple)))))
theorem F_put_in (p : Pt) (T : Txt K mg p) (D : Defs K mg) : FnD P w K mg base p "put_in" 2 [.bor, .bor] .rep f_put_in := by
  obtain ⟨fa, fd, hm, F⟩ := D.d_put_in.ex
  exact .of hm F.kp (F.binds (ps := ["pattern", "filling"]) fun _ _ _ _ _ _ us hl => match us, hl with | [_, _], _ => rfl) (O_put_in p T D F)
theorem sc_things_of : FnScope N_things_of ["given", "rules"] (defScope s_things_of) := ⟨rfl, rfl, rfl, by decide +kernel, rfl, by decide +kernel, by decide +kernel⟩
theorem O_things_of (p : Pt) (T : Txt K mg p) (D : Defs K mg) {fa : Addr} {fd : FuncData} (F : Fun K "things_of" "things_of" s_things_of fa fd) : FnOk P w K mg base (L2.CX P w) 5 fa fd ["given", "rules"] (spD K p [.bor, .bor] .rep f_things_of) := by
  refine okD (k := 4) F sc_things_of (M1 := [.bor, .bor, .any, .any, .any, .any, .any]) fun cdv A outer s H E hr => ?_
  have nd := sc_things_of.nd
  have hun := hr.un
  have hu1 := hu_of hr
  have hu10 : (A.deeper (envOfC "things_of" (defScope s_things_of) s.heap.objs.size fa cdv)).units + 10 < cLine := by omega
  have hu64 : (A.deeper (envOfC "things_of" (defScope s_things_of) s.heap.objs.size fa cdv)).units + 64 < cLine := by omega
  have hu65 : (A.deeper (envOfC "things_of" (defScope s_things_of) s.heap.objs.size fa cdv)).units + 65 < cLine := by omega
  have hp : PassesOwn (model P w) (A.deeper (envOfC "things_of" (defScope s_things_of) s.heap.objs.size fa cdv)) (envOfC "things_of" (defScope s_things_of) s.heap.objs.size fa cdv) (cxOf (L2.CX P w) P w K mg base N_things_of "things_of" (defScope s_things_of) fa cdv A outer s H E).xe := passes_of rfl
  obtain ⟨t_FIGURES, g_FIGURES⟩ := T.g_FIGURES
  obtain ⟨t_LETTERS, g_LETTERS⟩ := T.g_LETTERS
  obtain ⟨t_LONGEST, g_LONGEST⟩ := T.g_LONGEST
  obtain ⟨t_MOST_BODY, g_MOST_BODY⟩ := T.g_MOST_BODY
  obtain ⟨t_MOST_FILLED, g_MOST_FILLED⟩ := T.g_MOST_FILLED
  obtain ⟨t_MOST_GIVEN, g_MOST_GIVEN⟩ := T.g_MOST_GIVEN
  obtain ⟨t_MOST_PARTS, g_MOST_PARTS⟩ := T.g_MOST_PARTS
  obtain ⟨t_MOST_RULES, g_MOST_RULES⟩ := T.g_MOST_RULES
  obtain ⟨t_MOST_SLOTS, g_MOST_SLOTS⟩ := T.g_MOST_SLOTS
  obtain ⟨t_MOST_THINGS, g_MOST_THINGS⟩ := T.g_MOST_THINGS
  show PSsk _ p _ _ _ _ (defBody s_things_of) g_things_of
  exact
    (sk_cons (sk_setO 2 pk_dK nd)
    (sk_cons (sk_for [.any, .bor, .own, .any, .any, .any, .any] 3 rfl nd hp (pi_e (pk_b 0))
      (sk_one (sk_for [.any, .bor, .own, .any, .any, .any, .any] 4 rfl nd hp (pi_e (pk_sl sl_U os_cut nx_cut (pk_v 3) (po_s pk_int) po_n))
        (sk_one (sk_putD 2 hu1 (pk_v 4) pk_bl)))))
    (sk_cons (sk_for [.any, .any, .own, .any, .any, .any, .any] 5 rfl nd hp (pi_e (pk_b 1))
      (sk_one (sk_for [.any, .any, .own, .any, .any, .any, .any] 6 rfl nd hp (pi_e (pk_bin op_addU o2_add nx_add (pk_cast (k' := .top) (pk_bin op_addU o2_add nx_add (pk_cast (k' := .top) (pk_tup (pk_ac (pk_ix hu1 (pk_v 5) pk_int) pk_an))) (pk_cast (k' := .top) (pk_ix hu1 (pk_v 5) pk_int)))) (pk_cast (k' := .top) (pk_ix hu1 (pk_v 5) pk_int))))
        (sk_one (sk_for [.any, .any, .own, .any, .any, .any, .any] 4 rfl nd hp (pi_e (pk_sl sl_U os_cut nx_cut (pk_v 6) (po_s pk_int) po_n))
          (sk_one (sk_if (pt_n (pt_e (pk_call (ms := [.bor]) (F_is_slot p T D) (hr.mono (by decide)) (takes_of rfl rfl rfl rfl) (pk_ac (pk_cast (k' := .top) (pk_v 4)) pk_an))))
            (sk_one (sk_putD 2 hu1 (pk_v 4) pk_bl))
            sk_nil)))))))
    (sk_one (sk_ret (pk_cast (k' := .rep) (pk_callB (call_sortV hu10) on_sorted nx_sorted (pk_ac (pk_cast (k' := .rd) (pk_callT (call_listU rfl) on_list nx_list (pk_ac (pk_cast (k' := .rd) (pk_o 2)) pk_an) T.b_list)) pk_an) T.b_sorted)))))))
theorem F_things_of (p : Pt) (T : Txt K mg p) (D : Defs K mg) : FnD P w K mg base p "things_of" 5 [.bor, .bor] .rep f_things_of := by
  obtain ⟨fa, fd, hm, F⟩ := D.d_things_of.ex
  exact .of hm F.kp (F.binds (ps := ["given", "rules"]) fun _ _ _ _ _ _ us hl => match us, hl with | [_, _], _ => rfl) (O_things_of p T D F)
theorem sc_rows_of : FnScope N_rows_of ["things", "size"] (defScope s_rows_of) := ⟨rfl, rfl, rfl, by decide +kernel, rfl, by decide +kernel, by decide +kernel⟩
theorem O_rows_of (p : Pt) (T : Txt K mg p) (D : Defs K mg) {fa : Addr} {fd : FuncData} (F : Fun K "rows_of" "rows_of" s_rows_of fa fd) : FnOk P w K mg base (L2.CX P w) 2 fa fd ["things", "size"] (spD K p [.bor, .val] .rep f_rows_of) := by
  refine okD (k := 1) F sc_rows_of (M1 := [.bor, .val, .any, .any, .any, .any, .any]) fun cdv A outer s H E hr => ?_
  have nd := sc_rows_of.nd
  have hun := hr.un
  have hu1 := hu_of hr
  have hu10 : (A.deeper (envOfC "rows_of" (defScope s_rows_of) s.heap.objs.size fa cdv)).units + 10 < cLine := by omega
  have hu64 : (A.deeper (envOfC "rows_of" (defScope s_rows_of) s.heap.objs.size fa cdv)).units + 64 < cLine := by omega
  have hu65 : (A.deeper (envOfC "rows_of" (defScope s_rows_of) s.heap.objs.size fa cdv)).units + 65 < cLine := by omega
  have hp : PassesOwn (model P w) (A.deeper (envOfC "rows_of" (defScope s_rows_of) s.heap.objs.size fa cdv)) (envOfC "rows_of" (defScope s_rows_of) s.heap.objs.size fa cdv) (cxOf (L2.CX P w) P w K mg base N_rows_of "rows_of" (defScope s_rows_of) fa cdv A outer s H E).xe := passes_of rfl
  obtain ⟨t_FIGURES, g_FIGURES⟩ := T.g_FIGURES
  obtain ⟨t_LETTERS, g_LETTERS⟩ := T.g_LETTERS
  obtain ⟨t_LONGEST, g_LONGEST⟩ := T.g_LONGEST
  obtain ⟨t_MOST_BODY, g_MOST_BODY⟩ := T.g_MOST_BODY
  obtain ⟨t_MOST_FILLED, g_MOST_FILLED⟩ := T.g_MOST_FILLED
  obtain ⟨t_MOST_GIVEN, g_MOST_GIVEN⟩ := T.g_MOST_GIVEN
  obtain ⟨t_MOST_PARTS, g_MOST_PARTS⟩ := T.g_MOST_PARTS
  obtain ⟨t_MOST_RULES, g_MOST_RULES⟩ := T.g_MOST_RULES
  obtain ⟨t_MOST_SLOTS, g_MOST_SLOTS⟩ := T.g_MOST_SLOTS
  obtain ⟨t_MOST_THINGS, g_MOST_THINGS⟩ := T.g_MOST_THINGS
  show PSsk _ p _ _ _ _ (defBody s_rows_of) g_rows_of
  exact
    (sk_cons (sk_set 2 (pk_cast (k' := .rep) (pk_lst (pk_ac (pk_tup pk_an) pk_an))) nd)
    (sk_cons (sk_for [.bor, .any, .val, .any, .any, .any, .any] 3 rfl nd hp (pi_rng1 (pk_v 1) T.b_range)
      (sk_cons (sk_setO 4 (pk_lst pk_an) nd)
      (sk_cons (sk_for [.bor, .any, .any, .any, .own, .any, .any] 5 rfl nd hp (pi_e (pk_v 2))
        (sk_one (sk_for [.bor, .any, .any, .any, .own, .val, .any] 6 rfl nd hp (pi_e (pk_b 0))
          (sk_one (sk_app 4 (pk_bin op_addU o2_add nx_add (pk_cast (k' := .top) (pk_v 5)) (pk_cast (k' := .top) (pk_tup (pk_ac (pk_v 6) pk_an)))))))))
      (sk_frz 4
      (sk_one (sk_set 2 (pk_v 4) nd))))))
    (sk_one (sk_ret (pk_v 2)))))
theorem F_rows_of (p : Pt) (T : Txt K mg p) (D : Defs K mg) : FnD P w K mg base p "rows_of" 2 [.bor, .val] .rep f_rows_of := by
  obtain ⟨fa, fd, hm, F⟩ := D.d_rows_of.ex
  exact .of hm F.kp (F.binds (ps := ["things", "size"]) fun _ _ _ _ _ _ us hl => match us, hl with | [_, _], _ => rfl) (O_rows_of p T D F)
theorem sc_filled_by : FnScope N_filled_by ["at", "rule", "names", "row"] (defScope s_filled_by) := ⟨rfl, rfl, rfl, by decide +kernel, rfl, by decide +kernel, by decide +kernel⟩
theorem O_filled_by (p : Pt) (T : Txt K mg p) (D : Defs K mg) {fa : Addr} {fd : FuncData} (F : Fun K "filled_by" "filled_by" s_filled_by fa fd) : FnOk P w K mg base (L2.CX P w) 3 fa fd ["at", "rule", "names", "row"] (spD K p [.val, .bor, .bor, .bor] .rep f_filled_by) := by
  refine okD (k := 2) F sc_filled_by (M1 := [.val, .bor, .bor, .bor, .any, .any, .any, .any, .any]) fun cdv A outer s H E hr => ?_
  have nd := sc_filled_by.nd
  have hun := hr.un
  have hu1 := hu_of hr
  have hu10 : (A.deeper (envOfC "filled_by" (defScope s_filled_by) s.heap.objs.size fa cdv)).units + 10 < cLine := by omega
  have hu64 : (A.deeper (envOfC "filled_by" (defScope s_filled_by) s.heap.objs.size fa cdv)).units + 64 < cLine := by omega
  have hu65 : (A.deeper (envOfC "filled_by" (defScope s_filled_by) s.heap.objs.size fa cdv)).units + 65 < cLine := by omega
  have hp : PassesOwn (model P w) (A.deeper (envOfC "filled_by" (defScope s_filled_by) s.heap.objs.size fa cdv)) (envOfC "filled_by" (defScope s_filled_by) s.heap.objs.size fa cdv) (cxOf (L2.CX P w) P w K mg base N_filled_by "filled_by" (defScope s_filled_by) fa cdv A outer s H E).xe := passes_of rfl
  obtain ⟨t_FIGURES, g_FIGURES⟩ := T.g_FIGURES
  obtain ⟨t_LETTERS, g_LETTERS⟩ := T.g_LETTERS
  obtain ⟨t_LONGEST, g_LONGEST⟩ := T.g_LONGEST
  obtain ⟨t_MOST_BODY, g_MOST_BODY⟩ := T.g_MOST_BODY
  obtain ⟨t_MOST_FILLED, g_MOST_FILLED⟩ := T.g_MOST_FILLED
  obtain ⟨t_MOST_GIVEN, g_MOST_GIVEN⟩ := T.g_MOST_GIVEN
  obtain ⟨t_MOST_PARTS, g_MOST_PARTS⟩ := T.g_MOST_PARTS
  obtain ⟨t_MOST_RULES, g_MOST_RULES⟩ := T.g_MOST_RULES
  obtain ⟨t_MOST_SLOTS, g_MOST_SLOTS⟩ := T.g_MOST_SLOTS
  obtain ⟨t_MOST_THINGS, g_MOST_THINGS⟩ := T.g_MOST_THINGS
  show PSsk _ p _ _ _ _ (defBody s_filled_by) g_filled_by
  exact
    (sk_cons (sk_setO 4 pk_dK nd)
    (sk_cons (sk_for [.val, .bor, .bor, .bor, .own, .any, .any, .any, .any] 5 rfl nd hp (pi_rng1 (pk_callB call_lenU on_len nx_len (pk_ac (pk_cast (k' := .rd) (pk_b 2)) pk_an) T.b_len) T.b_range)
      (sk_one (sk_putD 4 hu1 (pk_ix hu1 (pk_b 2) (pk_v 5)) (pk_ix hu1 (pk_b 3) (pk_v 5)))))
    (sk_cons (sk_set 6 (pk_callT call_tuple_of on_tuple nx_tuple (pk_ac (pk_cast (k' := .rd) (pk_lc 8 rfl nd rfl (blkOk_by (N := N_filled_by) (sc := defScope s_filled_by) (own := [("pattern", 8)]) (by decide +kernel)) (pi_e (pk_ix hu1 (pk_b 1) pk_int)) (fun _ _ _ _ _ => pg_name (i := 8) nd rfl (by first | exact Or.inl rfl | exact Or.inr rfl)) (fun _ _ _ _ _ => pts_n) (fun _ _ _ _ _ => (pk_call (ms := [.bor, .bor]) (F_put_in p T D) (hr.mono (by decide)) takes0 (pk_ac (pk_cast (k' := .top) (pk_v 8)) (pk_ac (pk_o 4) pk_an)))))) pk_an) T.b_tuple) nd)
    (sk_cons (sk_set 7 (pk_callT call_tuple_of on_tuple nx_tuple (pk_ac (pk_cast (k' := .rd) (pk_lc 8 rfl nd rfl (blkOk_by (N := N_filled_by) (sc := defScope s_filled_by) (own := [("pattern", 8)]) (by decide +kernel)) (pi_e (pk_ix hu1 (pk_b 1) pk_int)) (fun _ _ _ _ _ => pg_name (i := 8) nd rfl (by first | exact Or.inl rfl | exact Or.inr rfl)) (fun _ _ _ _ _ => pts_n) (fun _ _ _ _ _ => (pk_call (ms := [.bor, .bor]) (F_put_in p T D) (hr.mono (by decide)) takes0 (pk_ac (pk_cast (k' := .top) (pk_v 8)) (pk_ac (pk_o 4) pk_an)))))) pk_an) T.b_tuple) nd)
    (sk_one (sk_ret (pk_tup (pk_ac (pk_v 0) (pk_ac (pk_call (ms := [.bor, .bor]) (F_put_in p T D) (hr.mono (by decide)) (takes_of rfl rfl rfl rfl) (pk_ac (pk_cast (k' := .top) (pk_ix hu1 (pk_b 1) pk_int)) (pk_ac (pk_o 4) pk_an))) (pk_ac (pk_v 6) (pk_ac (pk_v 7) pk_an)))))))))))
theorem F_filled_by (p : Pt) (T : Txt K mg p) (D : Defs K mg) : FnD P w K mg base p "filled_by" 3 [.val, .bor, .bor, .bor] .rep f_filled_by := by
  obtain ⟨fa, fd, hm, F⟩ := D.d_filled_by.ex
  exact .of hm F.kp (F.binds (ps := ["at", "rule", "names", "row"]) fun _ _ _ _ _ _ us hl => match us, hl with | [_, _, _, _], _ => rfl) (O_filled_by p T D F)
theorem sc_filled_rules : FnScope N_filled_rules ["given", "rules"] (defScope s_filled_rules) := ⟨rfl, rfl, rfl, by decide +kernel, rfl, by decide +kernel, by decide +kernel⟩
theorem O_filled_rules (p : Pt) (T : Txt K mg p) (D : Defs K mg) {fa : Addr} {fd : FuncData} (F : Fun K "filled_rules" "filled_rules" s_filled_rules fa fd) : FnOk P w K mg base (L2.CX P w) 6 fa fd ["given", "rules"] (spD K p [.bor, .bor] .rep f_filled_rules) := by
  refine okD (k := 5) F sc_filled_rules (M1 := [.bor, .bor, .any, .any, .any, .any, .any]) fun cdv A outer s H E hr => ?_
  have nd := sc_filled_rules.nd
  have hun := hr.un
  have hu1 := hu_of hr
  have hu10 : (A.deeper (envOfC "filled_rules" (defScope s_filled_rules) s.heap.objs.size fa cdv)).units + 10 < cLine := by omega
  have hu64 : (A.deeper (envOfC "filled_rules" (defScope s_filled_rules) s.heap.objs.size fa cdv)).units + 64 < cLine := by omega
  have hu65 : (A.deeper (envOfC "filled_rules" (defScope s_filled_rules) s.heap.objs.size fa cdv)).units + 65 < cLine := by omega
  have hp : PassesOwn (model P w) (A.deeper (envOfC "filled_rules" (defScope s_filled_rules) s.heap.objs.size fa cdv)) (envOfC "filled_rules" (defScope s_filled_rules) s.heap.objs.size fa cdv) (cxOf (L2.CX P w) P w K mg base N_filled_rules "filled_rules" (defScope s_filled_rules) fa cdv A outer s H E).xe := passes_of rfl
  obtain ⟨t_FIGURES, g_FIGURES⟩ := T.g_FIGURES
  obtain ⟨t_LETTERS, g_LETTERS⟩ := T.g_LETTERS
  obtain ⟨t_LONGEST, g_LONGEST⟩ := T.g_LONGEST
  obtain ⟨t_MOST_BODY, g_MOST_BODY⟩ := T.g_MOST_BODY
  obtain ⟨t_MOST_FILLED, g_MOST_FILLED⟩ := T.g_MOST_FILLED
  obtain ⟨t_MOST_GIVEN, g_MOST_GIVEN⟩ := T.g_MOST_GIVEN
  obtain ⟨t_MOST_PARTS, g_MOST_PARTS⟩ := T.g_MOST_PARTS
  obtain ⟨t_MOST_RULES, g_MOST_RULES⟩ := T.g_MOST_RULES
  obtain ⟨t_MOST_SLOTS, g_MOST_SLOTS⟩ := T.g_MOST_SLOTS
  obtain ⟨t_MOST_THINGS, g_MOST_THINGS⟩ := T.g_MOST_THINGS
  show PSsk _ p _ _ _ _ (defBody s_filled_rules) g_filled_rules
  exact
    (sk_cons (sk_set 2 (pk_call (ms := [.bor, .bor]) (F_things_of p T D) (hr.mono (by decide)) (takes_of rfl rfl rfl rfl) (pk_ac (pk_cast (k' := .top) (pk_b 0)) (pk_ac (pk_cast (k' := .top) (pk_b 1)) pk_an))) nd)
    (sk_cons (sk_setO 3 (pk_lst pk_an) nd)
    (sk_cons (sk_for [.any, .bor, .val, .own, .any, .any, .any] 4 rfl nd hp (pi_rng1 (pk_callB call_lenU on_len nx_len (pk_ac (pk_cast (k' := .rd) (pk_b 1)) pk_an) T.b_len) T.b_range)
      (sk_cons (sk_set 5 (pk_call (ms := [.bor]) (F_slots_of p T D) (hr.mono (by decide)) (takes_of rfl rfl rfl rfl) (pk_ac (pk_cast (k' := .top) (pk_ix hu1 (pk_ix hu1 (pk_b 1) (pk_v 4)) pk_int)) pk_an)) nd)
      (sk_one (sk_for [.any, .bor, .val, .own, .val, .val, .any] 6 rfl nd hp (pi_e (pk_call (ms := [.bor, .val]) (F_rows_of p T D) (hr.mono (by decide)) (takes_of rfl rfl rfl rfl) (pk_ac (pk_cast (k' := .top) (pk_v 2)) (pk_ac (pk_callB call_lenU on_len nx_len (pk_ac (pk_cast (k' := .rd) (pk_v 5)) pk_an) T.b_len) pk_an))))
        (sk_one (sk_app 3 (pk_call (ms := [.val, .bor, .bor, .bor]) (F_filled_by p T D) (hr.mono (by decide)) (takes_of rfl rfl rfl rfl) (pk_ac (pk_v 4) (pk_ac (pk_cast (k' := .top) (pk_ix hu1 (pk_b 1) (pk_v 4))) (pk_ac (pk_cast (k' := .top) (pk_v 5)) (pk_ac (pk_cast (k' := .top) (pk_v 6)) pk_an)))))))))))
    (sk_one (sk_retO 3)))))
theorem F_filled_rules (p : Pt) (T : Txt K mg p) (D : Defs K mg) : FnD P w K mg base p "filled_rules" 6 [.bor, .bor] .rep f_filled_rules := by
  obtain ⟨fa, fd, hm, F⟩ := D.d_filled_rules.ex
  exact .of hm F.kp (F.binds (ps := ["given", "rules"]) fun _ _ _ _ _ _ us hl => match us, hl with | [_, _], _ => rfl) (O_filled_rules p T D F)
theorem sc_check_fact : FnScope N_check_fact ["fact"] (defScope s_check_fact) := ⟨rfl, rfl, rfl, by decide +kernel, rfl, by decide +kernel, by decide +kernel⟩
theorem O_check_fact (p : Pt) (T : Txt K mg p) (D : Defs K mg) {fa : Addr} {fd : FuncData} (F : Fun K "check_fact" "check_fact" s_check_fact fa fd) : FnOk P w K mg base (L2.CX P w) 4 fa fd ["fact"] (spD K p [.bor] .rep f_check_fact) := by
  refine okD (k := 3) F sc_check_fact (M1 := [.any, .any]) fun cdv A outer s H E hr => ?_
  have nd := sc_check_fact.nd
  have hun := hr.un
  have hu1 := hu_of hr
  have hu10 : (A.deeper (envOfC "check_fact" (defScope s_check_fact) s.heap.objs.size fa cdv)).units + 10 < cLine := by omega
  have hu64 : (A.deeper (envOfC "check_fact" (defScope s_check_fact) s.heap.objs.size fa cdv)).units + 64 < cLine := by omega
  have hu65 : (A.deeper (envOfC "check_fact" (defScope s_check_fact) s.heap.objs.size fa cdv)).units + 65 < cLine := by omega
  have hp : PassesOwn (model P w) (A.deeper (envOfC "check_fact" (defScope s_check_fact) s.heap.objs.size fa cdv)) (envOfC "check_fact" (defScope s_check_fact) s.heap.objs.size fa cdv) (cxOf (L2.CX P w) P w K mg base N_check_fact "check_fact" (defScope s_check_fact) fa cdv A outer s H E).xe := passes_of rfl
  obtain ⟨t_FIGURES, g_FIGURES⟩ := T.g_FIGURES
  obtain ⟨t_LETTERS, g_LETTERS⟩ := T.g_LETTERS
  obtain ⟨t_LONGEST, g_LONGEST⟩ := T.g_LONGEST
  obtain ⟨t_MOST_BODY, g_MOST_BODY⟩ := T.g_MOST_BODY
  obtain ⟨t_MOST_FILLED, g_MOST_FILLED⟩ := T.g_MOST_FILLED
  obtain ⟨t_MOST_GIVEN, g_MOST_GIVEN⟩ := T.g_MOST_GIVEN
  obtain ⟨t_MOST_PARTS, g_MOST_PARTS⟩ := T.g_MOST_PARTS
  obtain ⟨t_MOST_RULES, g_MOST_RULES⟩ := T.g_MOST_RULES
  obtain ⟨t_MOST_SLOTS, g_MOST_SLOTS⟩ := T.g_MOST_SLOTS
  obtain ⟨t_MOST_THINGS, g_MOST_THINGS⟩ := T.g_MOST_THINGS
  show PSsk _ p _ _ _ _ (defBody s_check_fact) g_check_fact
  exact
    (sk_cons (sk_if (pt_w (pw_o (pt_cmpk op_lt o2_rel nx_rel (pk_callB call_lenU on_len nx_len (pk_ac (pk_cast (k' := .rd) (pk_b 0)) pk_an) T.b_len) pk_int (nomark _)) (pw_o (pt_cmpk op_gt o2_rel nx_rel (pk_callB call_lenU on_len nx_len (pk_ac (pk_cast (k' := .rd) (pk_b 0)) pk_an) T.b_len) (pk_bin op_addU o2_add nx_add (pk_cast (k' := .top) (pk_gint (z := 3) rfl g_MOST_PARTS)) (pk_cast (k' := .top) pk_int)) (nomark _)) (pw_o1 (pt_n (pt_e (pk_call (ms := [.bor]) (F_is_word p T D) (hr.mono (by decide)) (takes_of rfl rfl rfl rfl) (pk_ac (pk_cast (k' := .top) (pk_ix hu1 (pk_b 0) pk_int)) pk_an))))))))
      (sk_one sk_never)
      sk_nil)
    (sk_one (sk_for [.any, .any] 1 rfl nd hp (pi_e (pk_sl sl_U os_cut nx_cut (pk_b 0) (po_s pk_int) po_n))
      (sk_one (sk_if (pt_n (pt_e (pk_call (ms := [.bor]) (F_is_thing p T D) (hr.mono (by decide)) (takes_of rfl rfl rfl rfl) (pk_ac (pk_cast (k' := .top) (pk_v 1)) pk_an))))
        (sk_one sk_never)
        sk_nil)))))
theorem F_check_fact (p : Pt) (T : Txt K mg p) (D : Defs K mg) : FnD P w K mg base p "check_fact" 4 [.bor] .rep f_check_fact := by
  obtain ⟨fa, fd, hm, F⟩ := D.d_check_fact.ex
  exact .of hm F.kp (F.binds (ps := ["fact"]) fun _ _ _ _ _ _ us hl => match us, hl with | [_], _ => rfl) (O_check_fact p T D F)
theorem sc_check_pattern : FnScope N_check_pattern ["pattern"] (defScope s_check_pattern) := ⟨rfl, rfl, rfl, by decide +kernel, rfl, by decide +kernel, by decide +kernel⟩
theorem O_check_pattern (p : Pt) (T : Txt K mg p) (D : Defs K mg) {fa : Addr} {fd : FuncData} (F : Fun K "check_pattern" "check_pattern" s_check_pattern fa fd) : FnOk P w K mg base (L2.CX P w) 5 fa fd ["pattern"] (spD K p [.bor] .rep f_check_pattern) := by
  refine okD (k := 4) F sc_check_pattern (M1 := [.any, .any]) fun cdv A outer s H E hr => ?_
  have nd := sc_check_pattern.nd
  have hun := hr.un
  have hu1 := hu_of hr
  have hu10 : (A.deeper (envOfC "check_pattern" (defScope s_check_pattern) s.heap.objs.size fa cdv)).units + 10 < cLine := by omega
  have hu64 : (A.deeper (envOfC "check_pattern" (defScope s_check_pattern) s.heap.objs.size fa cdv)).units + 64 < cLine := by omega
  have hu65 : (A.deeper (envOfC "check_pattern" (defScope s_check_pattern) s.heap.objs.size fa cdv)).units + 65 < cLine := by omega
  have hp : PassesOwn (model P w) (A.deeper (envOfC "check_pattern" (defScope s_check_pattern) s.heap.objs.size fa cdv)) (envOfC "check_pattern" (defScope s_check_pattern) s.heap.objs.size fa cdv) (cxOf (L2.CX P w) P w K mg base N_check_pattern "check_pattern" (defScope s_check_pattern) fa cdv A outer s H E).xe := passes_of rfl
  obtain ⟨t_FIGURES, g_FIGURES⟩ := T.g_FIGURES
  obtain ⟨t_LETTERS, g_LETTERS⟩ := T.g_LETTERS
  obtain ⟨t_LONGEST, g_LONGEST⟩ := T.g_LONGEST
  obtain ⟨t_MOST_BODY, g_MOST_BODY⟩ := T.g_MOST_BODY
  obtain ⟨t_MOST_FILLED, g_MOST_FILLED⟩ := T.g_MOST_FILLED
  obtain ⟨t_MOST_GIVEN, g_MOST_GIVEN⟩ := T.g_MOST_GIVEN
  obtain ⟨t_MOST_PARTS, g_MOST_PARTS⟩ := T.g_MOST_PARTS
  obtain ⟨t_MOST_RULES, g_MOST_RULES⟩ := T.g_MOST_RULES
  obtain ⟨t_MOST_SLOTS, g_MOST_SLOTS⟩ := T.g_MOST_SLOTS
  obtain ⟨t_MOST_THINGS, g_MOST_THINGS⟩ := T.g_MOST_THINGS
  show PSsk _ p _ _ _ _ (defBody s_check_pattern) g_check_pattern
  exact
    (sk_cons (sk_if (pt_w (pw_o (pt_cmpk op_lt o2_rel nx_rel (pk_callB call_lenU on_len nx_len (pk_ac (pk_cast (k' := .rd) (pk_b 0)) pk_an) T.b_len) pk_int (nomark _)) (pw_o (pt_cmpk op_gt o2_rel nx_rel (pk_callB call_lenU on_len nx_len (pk_ac (pk_cast (k' := .rd) (pk_b 0)) pk_an) T.b_len) (pk_bin op_addU o2_add nx_add (pk_cast (k' := .top) (pk_gint (z := 3) rfl g_MOST_PARTS)) (pk_cast (k' := .top) pk_int)) (nomark _)) (pw_o1 (pt_n (pt_e (pk_call (ms := [.bor]) (F_is_word p T D) (hr.mono (by decide)) (takes_of rfl rfl rfl rfl) (pk_ac (pk_cast (k' := .top) (pk_ix hu1 (pk_b 0) pk_int)) pk_an))))))))
      (sk_one sk_never)
      sk_nil)
    (sk_one (sk_for [.any, .any] 1 rfl nd hp (pi_e (pk_sl sl_U os_cut nx_cut (pk_b 0) (po_s pk_int) po_n))
      (sk_one (sk_if (pt_w (pw_a (pt_n (pt_e (pk_call (ms := [.bor]) (F_is_thing p T D) (hr.mono (by decide)) (takes_of rfl rfl rfl rfl) (pk_ac (pk_cast (k' := .top) (pk_v 1)) pk_an)))) (pw_a1 (pt_n (pt_e (pk_call (ms := [.bor]) (F_is_slot p T D) (hr.mono (by decide)) (takes_of rfl rfl rfl rfl) (pk_ac (pk_cast (k' := .top) (pk_v 1)) pk_an)))))))
        (sk_one sk_never)
        sk_nil)))))
theorem F_check_pattern (p : Pt) (T : Txt K mg p) (D : Defs K mg) : FnD P w K mg base p "check_pattern" 5 [.bor] .rep f_check_pattern := by
  obtain ⟨fa, fd, hm, F⟩ := D.d_check_pattern.ex
  exact .of hm F.kp (F.binds (ps := ["pattern"]) fun _ _ _ _ _ _ us hl => match us, hl with | [_], _ => rfl) (O_check_pattern p T D F)
theorem sc_check_rule : FnScope N_check_rule ["rule"] (defScope s_check_rule) := ⟨rfl, rfl, rfl, by decide +kernel, rfl, by decide +kernel, by decide +kernel⟩
theorem O_check_rule (p : Pt) (T : Txt K mg p) (D : Defs K mg) {fa : Addr} {fd : FuncData} (F : Fun K "check_rule" "check_rule" s_check_rule fa fd) : FnOk P w K mg base (L2.CX P w) 6 fa fd ["rule"] (spD K p [.bor] .rep f_check_rule) := by
  refine okD (k := 5) F sc_check_rule (M1 := [.any, .any, .val, .any]) fun cdv A outer s H E hr => ?_
  have nd := sc_check_rule.nd
  have hun := hr.un
  have hu1 := hu_of hr
  have hu10 : (A.deeper (envOfC "check_rule" (defScope s_check_rule) s.heap.objs.size fa cdv)).units + 10 < cLine := by omega
  have hu64 : (A.deeper (envOfC "check_rule" (defScope s_check_rule) s.heap.objs.size fa cdv)).units + 64 < cLine := by omega
  have hu65 : (A.deeper (envOfC "check_rule" (defScope s_check_rule) s.heap.objs.size fa cdv)).units + 65 < cLine := by omega
  have hp : PassesOwn (model P w) (A.deeper (envOfC "check_rule" (defScope s_check_rule) s.heap.objs.size fa cdv)) (envOfC "check_rule" (defScope s_check_rule) s.heap.objs.size fa cdv) (cxOf (L2.CX P w) P w K mg base N_check_rule "check_rule" (defScope s_check_rule) fa cdv A outer s H E).xe := passes_of rfl
  obtain ⟨t_FIGURES, g_FIGURES⟩ := T.g_FIGURES
  obtain ⟨t_LETTERS, g_LETTERS⟩ := T.g_LETTERS
  obtain ⟨t_LONGEST, g_LONGEST⟩ := T.g_LONGEST
  obtain ⟨t_MOST_BODY, g_MOST_BODY⟩ := T.g_MOST_BODY
  obtain ⟨t_MOST_FILLED, g_MOST_FILLED⟩ := T.g_MOST_FILLED
  obtain ⟨t_MOST_GIVEN, g_MOST_GIVEN⟩ := T.g_MOST_GIVEN
  obtain ⟨t_MOST_PARTS, g_MOST_PARTS⟩ := T.g_MOST_PARTS
  obtain ⟨t_MOST_RULES, g_MOST_RULES⟩ := T.g_MOST_RULES
  obtain ⟨t_MOST_SLOTS, g_MOST_SLOTS⟩ := T.g_MOST_SLOTS
  obtain ⟨t_MOST_THINGS, g_MOST_THINGS⟩ := T.g_MOST_THINGS
  show PSsk _ p _ _ _ _ (defBody s_check_rule) g_check_rule
  exact
    (sk_cons (sk_for [.bor, .any, .any, .any] 1 rfl nd hp (pi_e (pk_bin op_addU o2_add nx_add (pk_cast (k' := .top) (pk_bin op_addU o2_add nx_add (pk_cast (k' := .top) (pk_tup (pk_ac (pk_ix hu1 (pk_b 0) pk_int) pk_an))) (pk_cast (k' := .top) (pk_ix hu1 (pk_b 0) pk_int)))) (pk_cast (k' := .top) (pk_ix hu1 (pk_b 0) pk_int))))
      (sk_one (sk_drop (pk_call (ms := [.bor]) (F_check_pattern p T D) (hr.mono (by decide)) (takes_of rfl rfl rfl rfl) (pk_ac (pk_cast (k' := .top) (pk_v 1)) pk_an)))))
    (sk_cons (sk_if (pt_cmpk op_gt o2_rel nx_rel (pk_bin op_addU o2_add nx_add (pk_cast (k' := .top) (pk_callB call_lenU on_len nx_len (pk_ac (pk_cast (k' := .rd) (pk_ix hu1 (pk_b 0) pk_int)) pk_an) T.b_len)) (pk_cast (k' := .top) (pk_callB call_lenU on_len nx_len (pk_ac (pk_cast (k' := .rd) (pk_ix hu1 (pk_b 0) pk_int)) pk_an) T.b_len))) (pk_gint (z := 6) rfl g_MOST_BODY) (nomark _))
      (sk_one sk_never)
      sk_nil)
    (sk_cons (sk_set 2 (pk_call (ms := [.bor]) (F_slots_of p T D) (hr.mono (by decide)) (takes_of rfl rfl rfl rfl) (pk_ac (pk_cast (k' := .top) (pk_ix hu1 (pk_b 0) pk_int)) pk_an)) nd)
    (sk_cons (sk_for [.any, .any, .val, .any] 3 rfl nd hp (pi_e (pk_call (ms := [.bor]) (F_slots_of p T D) (hr.mono (by decide)) (takes_of rfl rfl rfl rfl) (pk_ac (pk_cast (k' := .top) (pk_bin op_addU o2_add nx_add (pk_cast (k' := .top) (pk_tup (pk_ac (pk_ix hu1 (pk_b 0) pk_int) pk_an))) (pk_cast (k' := .top) (pk_ix hu1 (pk_b 0) pk_int)))) pk_an)))
      (sk_one (sk_if (pt_cmpk (op_notInU hu65) o2_notIn nx_notIn (pk_cast (k' := .rd) (pk_v 3)) (pk_cast (k' := .top) (pk_v 2)) (by rfl))
        (sk_one sk_never)
        sk_nil)))
    (sk_one (sk_if (pt_cmpk op_gt o2_rel nx_rel (pk_callB call_lenU on_len nx_len (pk_ac (pk_cast (k' := .rd) (pk_v 2)) pk_an) T.b_len) (pk_gint (z := 3) rfl g_MOST_SLOTS) (nomark _))
      (sk_one sk_never)
      sk_nil))))))
theorem F_check_rule (p : Pt) (T : Txt K mg p) (D : Defs K mg) : FnD P w K mg base p "check_rule" 6 [.bor] .rep f_check_rule := by
  obtain ⟨fa, fd, hm, F⟩ := D.d_check_rule.ex
  exact .of hm F.kp (F.binds (ps := ["rule"]) fun _ _ _ _ _ _ us hl => match us, hl with | [_], _ => rfl) (O_check_rule p T D F)
theorem sc_count_filled : FnScope N_count_filled ["given", "rules"] (defScope s_count_filled) := ⟨rfl, rfl, rfl, by decide +kernel, rfl, by decide +kernel, by decide +kernel⟩
theorem O_count_filled (p : Pt) (T : Txt K mg p) (D : Defs K mg) {fa : Addr} {fd : FuncData} (F : Fun K "count_filled" "count_filled" s_count_filled fa fd) : FnOk P w K mg base (L2.CX P w) 6 fa fd ["given", "rules"] (spD K p [.bor, .bor] .rep f_count_filled) := by
  refine okD (k := 5) F sc_count_filled (M1 := [.bor, .bor, .any, .any, .any, .any, .any]) fun cdv A outer s H E hr => ?_
  have nd := sc_count_filled.nd
  have hun := hr.un
  have hu1 := hu_of hr
  have hu10 : (A.deeper (envOfC "count_filled" (defScope s_count_filled) s.heap.objs.size fa cdv)).units + 10 < cLine := by omega
  have hu64 : (A.deeper (envOfC "count_filled" (defScope s_count_filled) s.heap.objs.size fa cdv)).units + 64 < cLine := by omega
  have hu65 : (A.deeper (envOfC "count_filled" (defScope s_count_filled) s.heap.objs.size fa cdv)).units + 65 < cLine := by omega
  have hp : PassesOwn (model P w) (A.deeper (envOfC "count_filled" (defScope s_count_filled) s.heap.objs.size fa cdv)) (envOfC "count_filled" (defScope s_count_filled) s.heap.objs.size fa cdv) (cxOf (L2.CX P w) P w K mg base N_count_filled "count_filled" (defScope s_count_filled) fa cdv A outer s H E).xe := passes_of rfl
  obtain ⟨t_FIGURES, g_FIGURES⟩ := T.g_FIGURES
  obtain ⟨t_LETTERS, g_LETTERS⟩ := T.g_LETTERS
  obtain ⟨t_LONGEST, g_LONGEST⟩ := T.g_LONGEST
  obtain ⟨t_MOST_BODY, g_MOST_BODY⟩ := T.g_MOST_BODY
  obtain ⟨t_MOST_FILLED, g_MOST_FILLED⟩ := T.g_MOST_FILLED
  obtain ⟨t_MOST_GIVEN, g_MOST_GIVEN⟩ := T.g_MOST_GIVEN
  obtain ⟨t_MOST_PARTS, g_MOST_PARTS⟩ := T.g_MOST_PARTS
  obtain ⟨t_MOST_RULES, g_MOST_RULES⟩ := T.g_MOST_RULES
  obtain ⟨t_MOST_SLOTS, g_MOST_SLOTS⟩ := T.g_MOST_SLOTS
  obtain ⟨t_MOST_THINGS, g_MOST_THINGS⟩ := T.g_MOST_THINGS
  show PSsk _ p _ _ _ _ (defBody s_count_filled) g_count_filled
  exact
    (sk_cons (sk_set 2 (pk_callB call_lenU on_len nx_len (pk_ac (pk_cast (k' := .rd) (pk_call (ms := [.bor, .bor]) (F_things_of p T D) (hr.mono (by decide)) (takes_of rfl rfl rfl rfl) (pk_ac (pk_cast (k' := .top) (pk_b 0)) (pk_ac (pk_cast (k' := .top) (pk_b 1)) pk_an)))) pk_an) T.b_len) nd)
    (sk_cons (sk_set 3 pk_int nd)
    (sk_cons (sk_for [.any, .any, .val, .val, .any, .any, .any] 4 rfl nd hp (pi_e (pk_b 1))
      (sk_cons (sk_set 5 pk_int nd)
      (sk_cons (sk_for [.any, .any, .val, .val, .any, .val, .any] 6 rfl nd hp (pi_e (pk_call (ms := [.bor]) (F_slots_of p T D) (hr.mono (by decide)) (takes_of rfl rfl rfl rfl) (pk_ac (pk_cast (k' := .top) (pk_ix hu1 (pk_v 4) pk_int)) pk_an)))
        (sk_one (sk_set 5 (pk_bin op_mulU o2_mul nx_mul (pk_cast (k' := .top) (pk_v 5)) (pk_cast (k' := .top) (pk_v 2))) nd)))
      (sk_one (sk_set 3 (pk_bin op_addU o2_add nx_add (pk_cast (k' := .top) (pk_v 3)) (pk_cast (k' := .top) (pk_v 5))) nd)))))
    (sk_one (sk_ret (pk_v 3))))))
theorem F_count_filled (p : Pt) (T : Txt K mg p) (D : Defs K mg) : FnD P w K mg base p "count_filled" 6 [.bor, .bor] .rep f_count_filled := by
  obtain ⟨fa, fd, hm, F⟩ := D.d_count_filled.ex
  exact .of hm F.kp (F.binds (ps := ["given", "rules"]) fun _ _ _ _ _ _ us hl => match us, hl with | [_, _], _ => rfl) (O_count_filled p T D F)
theorem sc_check : FnScope N_check ["given", "rules"] (defScope s_check) := ⟨rfl, rfl, rfl, by decide +kernel, rfl, by decide +kernel, by decide +kernel⟩
theorem O_check (p : Pt) (T : Txt K mg p) (D : Defs K mg) {fa : Addr} {fd : FuncData} (F : Fun K "check" "check" s_check fa fd) : FnOk P w K mg base (L2.CX P w) 7 fa fd ["given", "rules"] (spD K p [.bor, .bor] .rep f_check) := by
  refine okD (k := 6) F sc_check (M1 := [.bor, .bor, .any, .any]) fun cdv A outer s H E hr => ?_
  have nd := sc_check.nd
  have hun := hr.un
  have hu1 := hu_of hr
  have hu10 : (A.deeper (envOfC "check" (defScope s_check) s.heap.objs.size fa cdv)).units + 10 < cLine := by omega
  have hu64 : (A.deeper (envOfC "check" (defScope s_check) s.heap.objs.size fa cdv)).units + 64 < cLine := by omega
  have hu65 : (A.deeper (envOfC "check" (defScope s_check) s.heap.objs.size fa cdv)).units + 65 < cLine := by omega
  have hp : PassesOwn (model P w) (A.deeper (envOfC "check" (defScope s_check) s.heap.objs.size fa cdv)) (envOfC "check" (defScope s_check) s.heap.objs.size fa cdv) (cxOf (L2.CX P w) P w K mg base N_check "check" (defScope s_check) fa cdv A outer s H E).xe := passes_of rfl
  obtain ⟨t_FIGURES, g_FIGURES⟩ := T.g_FIGURES
  obtain ⟨t_LETTERS, g_LETTERS⟩ := T.g_LETTERS
  obtain ⟨t_LONGEST, g_LONGEST⟩ := T.g_LONGEST
  obtain ⟨t_MOST_BODY, g_MOST_BODY⟩ := T.g_MOST_BODY
  obtain ⟨t_MOST_FILLED, g_MOST_FILLED⟩ := T.g_MOST_FILLED
  obtain ⟨t_MOST_GIVEN, g_MOST_GIVEN⟩ := T.g_MOST_GIVEN
  obtain ⟨t_MOST_PARTS, g_MOST_PARTS⟩ := T.g_MOST_PARTS
  obtain ⟨t_MOST_RULES, g_MOST_RULES⟩ := T.g_MOST_RULES
  obtain ⟨t_MOST_SLOTS, g_MOST_SLOTS⟩ := T.g_MOST_SLOTS
  obtain ⟨t_MOST_THINGS, g_MOST_THINGS⟩ := T.g_MOST_THINGS
  show PSsk _ p _ _ _ _ (defBody s_check) g_check
  exact
    (sk_cons (sk_if (pt_w (pw_o (pt_cmpk op_gt o2_rel nx_rel (pk_callB call_lenU on_len nx_len (pk_ac (pk_cast (k' := .rd) (pk_b 0)) pk_an) T.b_len) (pk_gint (z := 60) rfl g_MOST_GIVEN) (nomark _)) (pw_o1 (pt_cmpk op_gt o2_rel nx_rel (pk_callB call_lenU on_len nx_len (pk_ac (pk_cast (k' := .rd) (pk_b 1)) pk_an) T.b_len) (pk_gint (z := 20) rfl g_MOST_RULES) (nomark _)))))
      (sk_one sk_never)
      sk_nil)
    (sk_cons (sk_for [.bor, .bor, .any, .any] 2 rfl nd hp (pi_e (pk_b 0))
      (sk_one (sk_drop (pk_call (ms := [.bor]) (F_check_fact p T D) (hr.mono (by decide)) (takes_of rfl rfl rfl rfl) (pk_ac (pk_cast (k' := .top) (pk_v 2)) pk_an)))))
    (sk_cons (sk_for [.bor, .bor, .any, .any] 3 rfl nd hp (pi_e (pk_b 1))
      (sk_one (sk_drop (pk_call (ms := [.bor]) (F_check_rule p T D) (hr.mono (by decide)) (takes_of rfl rfl rfl rfl) (pk_ac (pk_cast (k' := .top) (pk_v 3)) pk_an)))))
    (sk_cons (sk_if (pt_cmpk op_gt o2_rel nx_rel (pk_callB call_lenU on_len nx_len (pk_ac (pk_cast (k' := .rd) (pk_call (ms := [.bor, .bor]) (F_things_of p T D) (hr.mono (by decide)) (takes_of rfl rfl rfl rfl) (pk_ac (pk_cast (k' := .top) (pk_b 0)) (pk_ac (pk_cast (k' := .top) (pk_b 1)) pk_an)))) pk_an) T.b_len) (pk_gint (z := 8) rfl g_MOST_THINGS) (nomark _))
      (sk_one sk_never)
      sk_nil)
    (sk_one (sk_if (pt_cmpk op_gt o2_rel nx_rel (pk_call (ms := [.bor, .bor]) (F_count_filled p T D) (hr.mono (by decide)) (takes_of rfl rfl rfl rfl) (pk_ac (pk_cast (k' := .top) (pk_b 0)) (pk_ac (pk_cast (k' := .top) (pk_b 1)) pk_an))) (pk_gint (z := 2000) rfl g_MOST_FILLED) (nomark _))
      (sk_one sk_never)
      sk_nil))))))
theorem F_check (p : Pt) (T : Txt K mg p) (D : Defs K mg) : FnD P w K mg base p "check" 7 [.bor, .bor] .rep f_check := by
  obtain ⟨fa, fd, hm, F⟩ := D.d_check.ex
  exact .of hm F.kp (F.binds (ps := ["given", "rules"]) fun _ _ _ _ _ _ us hl => match us, hl with | [_, _], _ => rfl) (O_check p T D F)
theorem sc_as_keys : FnScope N_as_keys ["facts"] (defScope s_as_keys) := ⟨rfl, rfl, rfl, by decide +kernel, rfl, by decide +kernel, by decide +kernel⟩
theorem O_as_keys (p : Pt) (T : Txt K mg p) (D : Defs K mg) {fa : Addr} {fd : FuncData} (F : Fun K "as_keys" "as_keys" s_as_keys fa fd) : FnOk P w K mg base (L2.CX P w) 2 fa fd ["facts"] (spD K p [.bor] .new f_as_keys) := by
  refine okD (k := 1) F sc_as_keys (M1 := [.bor, .any, .any]) fun cdv A outer s H E hr => ?_
  have nd := sc_as_keys.nd
  have hun := hr.un
  have hu1 := hu_of hr
  have hu10 : (A.deeper (envOfC "as_keys" (defScope s_as_keys) s.heap.objs.size fa cdv)).units + 10 < cLine := by omega
  have hu64 : (A.deeper (envOfC "as_keys" (defScope s_as_keys) s.heap.objs.size fa cdv)).units + 64 < cLine := by omega
  have hu65 : (A.deeper (envOfC "as_keys" (defScope s_as_keys) s.heap.objs.size fa cdv)).units + 65 < cLine := by omega
  have hp : PassesOwn (model P w) (A.deeper (envOfC "as_keys" (defScope s_as_keys) s.heap.objs.size fa cdv)) (envOfC "as_keys" (defScope s_as_keys) s.heap.objs.size fa cdv) (cxOf (L2.CX P w) P w K mg base N_as_keys "as_keys" (defScope s_as_keys) fa cdv A outer s H E).xe := passes_of rfl
  obtain ⟨t_FIGURES, g_FIGURES⟩ := T.g_FIGURES
  obtain ⟨t_LETTERS, g_LETTERS⟩ := T.g_LETTERS
  obtain ⟨t_LONGEST, g_LONGEST⟩ := T.g_LONGEST
  obtain ⟨t_MOST_BODY, g_MOST_BODY⟩ := T.g_MOST_BODY
  obtain ⟨t_MOST_FILLED, g_MOST_FILLED⟩ := T.g_MOST_FILLED
  obtain ⟨t_MOST_GIVEN, g_MOST_GIVEN⟩ := T.g_MOST_GIVEN
  obtain ⟨t_MOST_PARTS, g_MOST_PARTS⟩ := T.g_MOST_PARTS
  obtain ⟨t_MOST_RULES, g_MOST_RULES⟩ := T.g_MOST_RULES
  obtain ⟨t_MOST_SLOTS, g_MOST_SLOTS⟩ := T.g_MOST_SLOTS
  obtain ⟨t_MOST_THINGS, g_MOST_THINGS⟩ := T.g_MOST_THINGS
  show PSsk _ p _ _ _ _ (defBody s_as_keys) g_as_keys
  exact
    (sk_cons (sk_setO 1 pk_dT nd)
    (sk_cons (sk_for [.any, .own, .any] 2 rfl nd hp (pi_e (pk_b 0))
      (sk_one (sk_putD 1 hu1 (pk_v 2) pk_bl)))
    (sk_one (sk_retO 1))))
theorem F_as_keys (p : Pt) (T : Txt K mg p) (D : Defs K mg) : FnD P w K mg base p "as_keys" 2 [.bor] .new f_as_keys := by
  obtain ⟨fa, fd, hm, F⟩ := D.d_as_keys.ex
  exact .of hm F.kp (F.binds (ps := ["facts"]) fun _ _ _ _ _ _ us hl => match us, hl with | [_], _ => rfl) (O_as_keys p T D F)
theorem sc_holds : FnScope N_holds ["rule", "yes", "no"] (defScope s_holds) := ⟨rfl, rfl, rfl, by decide +kernel, rfl, by decide +kernel, by decide +kernel⟩
theorem O_holds (p : Pt) (T : Txt K mg p) (D : Defs K mg) {fa : Addr} {fd : FuncData} (F : Fun K "holds" "holds" s_holds fa fd) : FnOk P w K mg base (L2.CX P w) 2 fa fd ["rule", "yes", "no"] (spD K p [.bor, .bor, .bor] .rep f_holds) := by
  refine okD (k := 1) F sc_holds (M1 := [.bor, .bor, .bor, .any]) fun cdv A outer s H E hr => ?_
  have nd := sc_holds.nd
  have hun := hr.un
  have hu1 := hu_of hr
  have hu10 : (A.deeper (envOfC "holds" (defScope s_holds) s.heap.objs.size fa cdv)).units + 10 < cLine := by omega
  have hu64 : (A.deeper (envOfC "holds" (defScope s_holds) s.heap.objs.size fa cdv)).units + 64 < cLine := by omega
  have hu65 : (A.deeper (envOfC "holds" (defScope s_holds) s.heap.objs.size fa cdv)).units + 65 < cLine := by omega
  have hp : PassesOwn (model P w) (A.deeper (envOfC "holds" (defScope s_holds) s.heap.objs.size fa cdv)) (envOfC "holds" (defScope s_holds) s.heap.objs.size fa cdv) (cxOf (L2.CX P w) P w K mg base N_holds "holds" (defScope s_holds) fa cdv A outer s H E).xe := passes_of rfl
  obtain ⟨t_FIGURES, g_FIGURES⟩ := T.g_FIGURES
  obtain ⟨t_LETTERS, g_LETTERS⟩ := T.g_LETTERS
  obtain ⟨t_LONGEST, g_LONGEST⟩ := T.g_LONGEST
  obtain ⟨t_MOST_BODY, g_MOST_BODY⟩ := T.g_MOST_BODY
  obtain ⟨t_MOST_FILLED, g_MOST_FILLED⟩ := T.g_MOST_FILLED
  obtain ⟨t_MOST_GIVEN, g_MOST_GIVEN⟩ := T.g_MOST_GIVEN
  obtain ⟨t_MOST_PARTS, g_MOST_PARTS⟩ := T.g_MOST_PARTS
  obtain ⟨t_MOST_RULES, g_MOST_RULES⟩ := T.g_MOST_RULES
  obtain ⟨t_MOST_SLOTS, g_MOST_SLOTS⟩ := T.g_MOST_SLOTS
  obtain ⟨t_MOST_THINGS, g_MOST_THINGS⟩ := T.g_MOST_THINGS
  show PSsk _ p _ _ _ _ (defBody s_holds) g_holds
  exact
    (sk_cons (sk_for [.bor, .bor, .bor, .any] 3 rfl nd hp (pi_e (pk_ix hu1 (pk_b 0) pk_int))
      (sk_one (sk_if (pt_cmpk (op_notInU hu65) o2_notIn nx_notIn (pk_cast (k' := .rd) (pk_v 3)) (pk_cast (k' := .top) (pk_b 1)) (by rfl))
        (sk_one (sk_ret pk_bl))
        sk_nil)))
    (sk_cons (sk_for [.any, .any, .bor, .any] 3 rfl nd hp (pi_e (pk_ix hu1 (pk_b 0) pk_int))
      (sk_one (sk_if (pt_cmpk (op_notInU hu65) o2_notIn nx_notIn (pk_cast (k' := .rd) (pk_v 3)) (pk_cast (k' := .top) (pk_b 2)) (by rfl))
        (sk_one (sk_ret pk_bl))
        sk_nil)))
    (sk_one (sk_ret pk_bl))))
theorem F_holds (p : Pt) (T : Txt K mg p) (D : Defs K mg) : FnD P w K mg base p "holds" 2 [.bor, .bor, .bor] .rep f_holds := by
  obtain ⟨fa, fd, hm, F⟩ := D.d_holds.ex
  exact .of hm F.kp (F.binds (ps := ["rule", "yes", "no"]) fun _ _ _ _ _ _ us hl => match us, hl with | [_, _, _], _ => rfl) (O_holds p T D F)
theorem sc_entered : FnScope N_entered ["filled", "told", "refuted"] (defScope s_entered) := ⟨rfl, rfl, rfl, by decide +kernel, rfl, by decide +kernel, by decide +kernel⟩
theorem O_entered (p : Pt) (T : Txt K mg p) (D : Defs K mg) {fa : Addr} {fd : FuncData} (F : Fun K "entered" "entered" s_entered fa fd) : FnOk P w K mg base (L2.CX P w) 3 fa fd ["filled", "told", "refuted"] (spD K p [.bor, .bor, .bor] .rep f_entered) := by
  refine okD (k := 2) F sc_entered (M1 := [.bor, .bor, .bor, .any, .any, .any, .any, .any, .any]) fun cdv A outer s H E hr => ?_
  have nd := sc_entered.nd
  have hun := hr.un
  have hu1 := hu_of hr
  have hu10 : (A.deeper (envOfC "entered" (defScope s_entered) s.heap.objs.size fa cdv)).units + 10 < cLine := by omega
  have hu64 : (A.deeper (envOfC "entered" (defScope s_entered) s.heap.objs.size fa cdv)).units + 64 < cLine := by omega
  have hu65 : (A.deeper (envOfC "entered" (defScope s_entered) s.heap.objs.size fa cdv)).units + 65 < cLine := by omega
  have hp : PassesOwn (model P w) (A.deeper (envOfC "entered" (defScope s_entered) s.heap.objs.size fa cdv)) (envOfC "entered" (defScope s_entered) s.heap.objs.size fa cdv) (cxOf (L2.CX P w) P w K mg base N_entered "entered" (defScope s_entered) fa cdv A outer s H E).xe := passes_of rfl
  obtain ⟨t_FIGURES, g_FIGURES⟩ := T.g_FIGURES
  obtain ⟨t_LETTERS, g_LETTERS⟩ := T.g_LETTERS
  obtain ⟨t_LONGEST, g_LONGEST⟩ := T.g_LONGEST
  obtain ⟨t_MOST_BODY, g_MOST_BODY⟩ := T.g_MOST_BODY
  obtain ⟨t_MOST_FILLED, g_MOST_FILLED⟩ := T.g_MOST_FILLED
  obtain ⟨t_MOST_GIVEN, g_MOST_GIVEN⟩ := T.g_MOST_GIVEN
  obtain ⟨t_MOST_PARTS, g_MOST_PARTS⟩ := T.g_MOST_PARTS
  obtain ⟨t_MOST_RULES, g_MOST_RULES⟩ := T.g_MOST_RULES
  obtain ⟨t_MOST_SLOTS, g_MOST_SLOTS⟩ := T.g_MOST_SLOTS
  obtain ⟨t_MOST_THINGS, g_MOST_THINGS⟩ := T.g_MOST_THINGS
  show PSsk _ p _ _ _ _ (defBody s_entered) g_entered
  exact
    (sk_cons (sk_setO 3 (pk_call (ms := [.bor]) (F_as_keys p T D) (hr.mono (by decide)) (takes_of rfl rfl rfl rfl) (pk_ac (pk_cast (k' := .top) (pk_b 1)) pk_an)) nd)
    (sk_cons (sk_set 4 (pk_cast (k' := .rep) (pk_call (ms := [.bor]) (F_as_keys p T D) (hr.mono (by decide)) (takes_of rfl rfl rfl rfl) (pk_ac (pk_cast (k' := .top) (pk_b 2)) pk_an))) nd)
    (sk_cons (sk_setO 5 (pk_lst pk_an) nd)
    (sk_cons (sk_set 6 pk_bl nd)
    (sk_cons (sk_while [.bor, .any, .any, .own, .val, .own, .val, .any, .any] hp (pt_e (pk_v 6))
      (sk_cons (sk_set 6 pk_bl nd)
      (sk_one (sk_for [.bor, .any, .any, .own, .val, .own, .val, .any, .any] 7 rfl nd hp (pi_rng1 (pk_callB call_lenU on_len nx_len (pk_ac (pk_cast (k' := .rd) (pk_b 0)) pk_an) T.b_len) T.b_range)
        (sk_cons (sk_set 8 (pk_ix hu1 (pk_b 0) (pk_v 7)) nd)
        (sk_one (sk_if (pt_w (pw_a (pt_cmpk (op_notInU hu65) o2_notIn nx_notIn (pk_cast (k' := .rd) (pk_ix hu1 (pk_v 8) pk_int)) (pk_o 3) (by rfl)) (pw_a (pt_cmpk (op_notInU hu65) o2_notIn nx_notIn (pk_cast (k' := .rd) (pk_ix hu1 (pk_v 8) pk_int)) (pk_cast (k' := .top) (pk_v 4)) (by rfl)) (pw_a1 (pt_e (pk_call (ms := [.bor, .bor, .bor]) (F_holds p T D) (hr.mono (by decide)) (takes_of rfl rfl rfl rfl) (pk_ac (pk_cast (k' := .top) (pk_v 8)) (pk_ac (pk_o 3) (pk_ac (pk_cast (k' := .top) (pk_v 4)) pk_an)))))))))
          (sk_cons (sk_putD 3 hu1 (pk_ix hu1 (pk_v 8) pk_int) pk_bl)
          (sk_cons (sk_app 5 (pk_tup (pk_ac (pk_ix hu1 (pk_v 8) pk_int) (pk_ac (pk_v 7) pk_an))))
          (sk_one (sk_set 6 pk_bl nd))))
          sk_nil)))))))
    (sk_one (sk_retO 5)))))))
theorem F_entered (p : Pt) (T : Txt K mg p) (D : Defs K mg) : FnD P w K mg base p "entered" 3 [.bor, .bor, .bor] .rep f_entered := by
  obtain ⟨fa, fd, hm, F⟩ := D.d_entered.ex
  exact .of hm F.kp (F.binds (ps := ["filled", "told", "refuted"]) fun _ _ _ _ _ _ us hl => match us, hl with | [_, _, _], _ => rfl) (O_entered p T D F)
theorem sc_standing : FnScope N_standing ["filled"] (defScope s_standing) := ⟨rfl, rfl, rfl, by decide +kernel, rfl, by decide +kernel, by decide +kernel⟩
theorem O_standing (p : Pt) (T : Txt K mg p) (D : Defs K mg) {fa : Addr} {fd : FuncData} (F : Fun K "standing" "standing" s_standing fa fd) : FnOk P w K mg base (L2.CX P w) 2 fa fd ["filled"] (spD K p [.bor] .rep f_standing) := by
  refine okD (k := 1) F sc_standing (M1 := [.bor, .any, .any, .any]) fun cdv A outer s H E hr => ?_
  have nd := sc_standing.nd
  have hun := hr.un
  have hu1 := hu_of hr
  have hu10 : (A.deeper (envOfC "standing" (defScope s_standing) s.heap.objs.size fa cdv)).units + 10 < cLine := by omega
  have hu64 : (A.deeper (envOfC "standing" (defScope s_standing) s.heap.objs.size fa cdv)).units + 64 < cLine := by omega
  have hu65 : (A.deeper (envOfC "standing" (defScope s_standing) s.heap.objs.size fa cdv)).units + 65 < cLine := by omega
  have hp : PassesOwn (model P w) (A.deeper (envOfC "standing" (defScope s_standing) s.heap.objs.size fa cdv)) (envOfC "standing" (defScope s_standing) s.heap.objs.size fa cdv) (cxOf (L2.CX P w) P w K mg base N_standing "standing" (defScope s_standing) fa cdv A outer s H E).xe := passes_of rfl
  obtain ⟨t_FIGURES, g_FIGURES⟩ := T.g_FIGURES
  obtain ⟨t_LETTERS, g_LETTERS⟩ := T.g_LETTERS
  obtain ⟨t_LONGEST, g_LONGEST⟩ := T.g_LONGEST
  obtain ⟨t_MOST_BODY, g_MOST_BODY⟩ := T.g_MOST_BODY
  obtain ⟨t_MOST_FILLED, g_MOST_FILLED⟩ := T.g_MOST_FILLED
  obtain ⟨t_MOST_GIVEN, g_MOST_GIVEN⟩ := T.g_MOST_GIVEN
  obtain ⟨t_MOST_PARTS, g_MOST_PARTS⟩ := T.g_MOST_PARTS
  obtain ⟨t_MOST_RULES, g_MOST_RULES⟩ := T.g_MOST_RULES
  obtain ⟨t_MOST_SLOTS, g_MOST_SLOTS⟩ := T.g_MOST_SLOTS
  obtain ⟨t_MOST_THINGS, g_MOST_THINGS⟩ := T.g_MOST_THINGS
  show PSsk _ p _ _ _ _ (defBody s_standing) g_standing
  exact
    (sk_cons (sk_setO 1 pk_dT nd)
    (sk_cons (sk_for [.any, .own, .any, .any] 2 rfl nd hp (pi_e (pk_b 0))
      (sk_one (sk_for [.any, .own, .any, .any] 3 rfl nd hp (pi_e (pk_bin op_addU o2_add nx_add (pk_cast (k' := .top) (pk_bin op_addU o2_add nx_add (pk_cast (k' := .top) (pk_tup (pk_ac (pk_ix hu1 (pk_v 2) pk_int) pk_an))) (pk_cast (k' := .top) (pk_ix hu1 (pk_v 2) pk_int)))) (pk_cast (k' := .top) (pk_ix hu1 (pk_v 2) pk_int))))
        (sk_one (sk_putD 1 hu1 (pk_v 3) pk_bl)))))
    (sk_one (sk_ret (pk_cast (k' := .rep) (pk_callB (call_sortV hu10) on_sorted nx_sorted (pk_ac (pk_cast (k' := .rd) (pk_callT (call_listU rfl) on_list nx_list (pk_ac (pk_cast (k' := .rd) (pk_o 1)) pk_an) T.b_list)) pk_an) T.b_sorted))))))
theorem F_standing (p : Pt) (T : Txt K mg p) (D : Defs K mg) : FnD P w K mg base p "standing" 2 [.bor] .rep f_standing := by
  obtain ⟨fa, fd, hm, F⟩ := D.d_standing.ex
  exact .of hm F.kp (F.binds (ps := ["filled"]) fun _ _ _ _ _ _ us hl => match us, hl with | [_], _ => rfl) (O_standing p T D F)
theorem sc_may_hold : FnScope N_may_hold ["rule", "yes", "no", "able"] (defScope s_may_hold) := ⟨rfl, rfl, rfl, by decide +kernel, rfl, by decide +kernel, by decide +kernel⟩
theorem O_may_hold (p : Pt) (T : Txt K mg p) (D : Defs K mg) {fa : Addr} {fd : FuncData} (F : Fun K "may_hold" "may_hold" s_may_hold fa fd) : FnOk P w K mg base (L2.CX P w) 2 fa fd ["rule", "yes", "no", "able"] (spD K p [.bor, .bor, .bor, .bor] .rep f_may_hold) := by
  refine okD (k := 1) F sc_may_hold (M1 := [.bor, .bor, .bor, .bor, .any]) fun cdv A outer s H E hr => ?_
  have nd := sc_may_hold.nd
  have hun := hr.un
  have hu1 := hu_of hr
  have hu10 : (A.deeper (envOfC "may_hold" (defScope s_may_hold) s.heap.objs.size fa cdv)).units + 10 < cLine := by omega
  have hu64 : (A.deeper (envOfC "may_hold" (defScope s_may_hold) s.heap.objs.size fa cdv)).units + 64 < cLine := by omega
  have hu65 : (A.deeper (envOfC "may_hold" (defScope s_may_hold) s.heap.objs.size fa cdv)).units + 65 < cLine := by omega
  have hp : PassesOwn (model P w) (A.deeper (envOfC "may_hold" (defScope s_may_hold) s.heap.objs.size fa cdv)) (envOfC "may_hold" (defScope s_may_hold) s.heap.objs.size fa cdv) (cxOf (L2.CX P w) P w K mg base N_may_hold "may_hold" (defScope s_may_hold) fa cdv A outer s H E).xe := passes_of rfl
  obtain ⟨t_FIGURES, g_FIGURES⟩ := T.g_FIGURES
  obtain ⟨t_LETTERS, g_LETTERS⟩ := T.g_LETTERS
  obtain ⟨t_LONGEST, g_LONGEST⟩ := T.g_LONGEST
  obtain ⟨t_MOST_BODY, g_MOST_BODY⟩ := T.g_MOST_BODY
  obtain ⟨t_MOST_FILLED, g_MOST_FILLED⟩ := T.g_MOST_FILLED
  obtain ⟨t_MOST_GIVEN, g_MOST_GIVEN⟩ := T.g_MOST_GIVEN
  obtain ⟨t_MOST_PARTS, g_MOST_PARTS⟩ := T.g_MOST_PARTS
  obtain ⟨t_MOST_RULES, g_MOST_RULES⟩ := T.g_MOST_RULES
  obtain ⟨t_MOST_SLOTS, g_MOST_SLOTS⟩ := T.g_MOST_SLOTS
  obtain ⟨t_MOST_THINGS, g_MOST_THINGS⟩ := T.g_MOST_THINGS
  show PSsk _ p _ _ _ _ (defBody s_may_hold) g_may_hold
  exact
    (sk_cons (sk_for [.bor, .bor, .bor, .bor, .any] 4 rfl nd hp (pi_e (pk_ix hu1 (pk_b 0) pk_int))
      (sk_one (sk_if (pt_cmpk (op_inU hu65) o2_in nx_in (pk_cast (k' := .rd) (pk_v 4)) (pk_cast (k' := .top) (pk_b 1)) (by rfl))
        (sk_one (sk_ret pk_bl))
        sk_nil)))
    (sk_cons (sk_for [.any, .bor, .bor, .bor, .any] 4 rfl nd hp (pi_e (pk_ix hu1 (pk_b 0) pk_int))
      (sk_one (sk_if (pt_w (pw_o (pt_cmpk (op_inU hu65) o2_in nx_in (pk_cast (k' := .rd) (pk_v 4)) (pk_cast (k' := .top) (pk_b 2)) (by rfl)) (pw_o1 (pt_w (pw_a (pt_cmpk (op_notInU hu65) o2_notIn nx_notIn (pk_cast (k' := .rd) (pk_v 4)) (pk_cast (k' := .top) (pk_b 1)) (by rfl)) (pw_a1 (pt_cmpk (op_notInU hu65) o2_notIn nx_notIn (pk_cast (k' := .rd) (pk_v 4)) (pk_cast (k' := .top) (pk_b 3)) (by rfl))))))))
        (sk_one (sk_ret pk_bl))
        sk_nil)))
    (sk_one (sk_ret pk_bl))))
theorem F_may_hold (p : Pt) (T : Txt K mg p) (D : Defs K mg) : FnD P w K mg base p "may_hold" 2 [.bor, .bor, .bor, .bor] .rep f_may_hold := by
  obtain ⟨fa, fd, hm, F⟩ := D.d_may_hold.ex
  exact .of hm F.kp (F.binds (ps := ["rule", "yes", "no", "able"]) fun _ _ _ _ _ _ us hl => match us, hl with | [_, _, _, _], _ => rfl) (O_may_hold p T D F)
theorem sc_kept_out : FnScope N_kept_out ["filled", "told", "refuted"] (defScope s_kept_out) := ⟨rfl, rfl, rfl, by decide +kernel, rfl, by decide +kernel, by decide +kernel⟩
theorem O_kept_out (p : Pt) (T : Txt K mg p) (D : Defs K mg) {fa : Addr} {fd : FuncData} (F : Fun K "kept_out" "kept_out" s_kept_out fa fd) : FnOk P w K mg base (L2.CX P w) 3 fa fd ["filled", "told", "refuted"] (spD K p [.bor, .bor, .bor] .rep f_kept_out) := by
  refine okD (k := 2) F sc_kept_out (M1 := [.bor, .bor, .bor, .any, .any, .any, .any, .any, .any]) fun cdv A outer s H E hr => ?_
  have nd := sc_kept_out.nd
  have hun := hr.un
  have hu1 := hu_of hr
  have hu10 : (A.deeper (envOfC "kept_out" (defScope s_kept_out) s.heap.objs.size fa cdv)).units + 10 < cLine := by omega
  have hu64 : (A.deeper (envOfC "kept_out" (defScope s_kept_out) s.heap.objs.size fa cdv)).units + 64 < cLine := by omega
  have hu65 : (A.deeper (envOfC "kept_out" (defScope s_kept_out) s.heap.objs.size fa cdv)).units + 65 < cLine := by omega
  have hp : PassesOwn (model P w) (A.deeper (envOfC "kept_out" (defScope s_kept_out) s.heap.objs.size fa cdv)) (envOfC "kept_out" (defScope s_kept_out) s.heap.objs.size fa cdv) (cxOf (L2.CX P w) P w K mg base N_kept_out "kept_out" (defScope s_kept_out) fa cdv A outer s H E).xe := passes_of rfl
  obtain ⟨t_FIGURES, g_FIGURES⟩ := T.g_FIGURES
  obtain ⟨t_LETTERS, g_LETTERS⟩ := T.g_LETTERS
  obtain ⟨t_LONGEST, g_LONGEST⟩ := T.g_LONGEST
  obtain ⟨t_MOST_BODY, g_MOST_BODY⟩ := T.g_MOST_BODY
  obtain ⟨t_MOST_FILLED, g_MOST_FILLED⟩ := T.g_MOST_FILLED
  obtain ⟨t_MOST_GIVEN, g_MOST_GIVEN⟩ := T.g_MOST_GIVEN
  obtain ⟨t_MOST_PARTS, g_MOST_PARTS⟩ := T.g_MOST_PARTS
  obtain ⟨t_MOST_RULES, g_MOST_RULES⟩ := T.g_MOST_RULES
  obtain ⟨t_MOST_SLOTS, g_MOST_SLOTS⟩ := T.g_MOST_SLOTS
  obtain ⟨t_MOST_THINGS, g_MOST_THINGS⟩ := T.g_MOST_THINGS
  show PSsk _ p _ _ _ _ (defBody s_kept_out) g_kept_out
  exact
    (sk_cons (sk_set 3 (pk_cast (k' := .rep) (pk_call (ms := [.bor]) (F_as_keys p T D) (hr.mono (by decide)) (takes_of rfl rfl rfl rfl) (pk_ac (pk_cast (k' := .top) (pk_b 1)) pk_an))) nd)
    (sk_cons (sk_set 4 (pk_cast (k' := .rep) (pk_call (ms := [.bor]) (F_as_keys p T D) (hr.mono (by decide)) (takes_of rfl rfl rfl rfl) (pk_ac (pk_cast (k' := .top) (pk_b 2)) pk_an))) nd)
    (sk_cons (sk_setO 5 pk_dT nd)
    (sk_cons (sk_set 6 pk_bl nd)
    (sk_cons (sk_while [.bor, .any, .any, .val, .val, .own, .val, .any, .any] hp (pt_e (pk_v 6))
      (sk_cons (sk_set 6 pk_bl nd)
      (sk_one (sk_for [.bor, .any, .any, .val, .val, .own, .val, .any, .any] 7 rfl nd hp (pi_e (pk_b 0))
        (sk_one (sk_if (pt_w (pw_a (pt_cmpk (op_notInU hu65) o2_notIn nx_notIn (pk_cast (k' := .rd) (pk_ix hu1 (pk_v 7) pk_int)) (pk_o 5) (by rfl)) (pw_a1 (pt_e (pk_call (ms := [.bor, .bor, .bor, .bor]) (F_may_hold p T D) (hr.mono (by decide)) (takes_of rfl rfl rfl rfl) (pk_ac (pk_cast (k' := .top) (pk_v 7)) (pk_ac (pk_cast (k' := .top) (pk_v 3)) (pk_ac (pk_cast (k' := .top) (pk_v 4)) (pk_ac (pk_o 5) pk_an)))))))))
          (sk_cons (sk_putD 5 hu1 (pk_ix hu1 (pk_v 7) pk_int) pk_bl)
          (sk_one (sk_set 6 pk_bl nd)))
          sk_nil))))))
    (sk_one (sk_ret (pk_cast (k' := .rep) (pk_lc 8 rfl nd rfl (blkOk_by (N := N_kept_out) (sc := defScope s_kept_out) (own := [("fact", 8)]) (by decide +kernel)) (pi_e (pk_call (ms := [.bor]) (F_standing p T D) (hr.mono (by decide)) (takes_of rfl rfl rfl rfl) (pk_ac (pk_cast (k' := .top) (pk_b 0)) pk_an))) (fun _ _ _ _ _ => pg_name (i := 8) nd rfl (by first | exact Or.inl rfl | exact Or.inr rfl)) (fun _ _ _ _ _ => (pts_o (pt_w (pw_a (pt_cmpk (op_notInU hu65) o2_notIn nx_notIn (pk_cast (k' := .rd) (pk_v 8)) (pk_cast (k' := .top) (pk_v 3)) (by rfl)) (pw_a (pt_cmpk (op_notInU hu65) o2_notIn nx_notIn (pk_cast (k' := .rd) (pk_v 8)) (pk_cast (k' := .top) (pk_v 4)) (by rfl)) (pw_a1 (pt_cmpk (op_notInU hu65) o2_notIn nx_notIn (pk_cast (k' := .rd) (pk_v 8)) (pk_o 5) (by rfl)))))))) (fun _ _ _ _ _ => (pk_v 8)))))))))))
theorem F_kept_out (p : Pt) (T : Txt K mg p) (D : Defs K mg) : FnD P w K mg base p "kept_out" 3 [.bor, .bor, .bor] .rep f_kept_out := by
  obtain ⟨fa, fd, hm, F⟩ := D.d_kept_out.ex
  exact .of hm F.kp (F.binds (ps := ["filled", "told", "refuted"]) fun _ _ _ _ _ _ us hl => match us, hl with | [_, _, _], _ => rfl) (O_kept_out p T D F)
theorem sc_said : FnScope N_said ["self", "fact"] (defScope s_said) := ⟨rfl, rfl, rfl, by decide +kernel, rfl, by decide +kernel, by decide +kernel⟩
theorem O_said (p : Pt) (T : Txt K mg p) (D : Defs K mg) {fa : Addr} {fd : FuncData} (F : Fun K "said" "Verdict.said" s_said fa fd) : FnOk P w K mg base (L2.CX P w) 2 fa fd ["self", "fact"] (spD K p [.val, .val] .rep f_said) := by
  refine okD (k := 1) F sc_said (M1 := [.val, .val]) fun cdv A outer s H E hr => ?_
  have nd := sc_said.nd
  have hun := hr.un
  have hu1 := hu_of hr
  have hu10 : (A.deeper (envOfC "Verdict.said" (defScope s_said) s.heap.objs.size fa cdv)).units + 10 < cLine := by omega
  have hu64 : (A.deeper (envOfC "Verdict.said" (defScope s_said) s.heap.objs.size fa cdv)).units + 64 < cLine := by omega
  have hu65 : (A.deeper (envOfC "Verdict.said" (defScope s_said) s.heap.objs.size fa cdv)).units + 65 < cLine := by omega
  have hp : PassesOwn (model P w) (A.deeper (envOfC "Verdict.said" (defScope s_said) s.heap.objs.size fa cdv)) (envOfC "Verdict.said" (defScope s_said) s.heap.objs.size fa cdv) (cxOf (L2.CX P w) P w K mg base N_said "Verdict.said" (defScope s_said) fa cdv A outer s H E).xe := passes_of rfl
  obtain ⟨t_FIGURES, g_FIGURES⟩ := T.g_FIGURES
  obtain ⟨t_LETTERS, g_LETTERS⟩ := T.g_LETTERS
  obtain ⟨t_LONGEST, g_LONGEST⟩ := T.g_LONGEST
  obtain ⟨t_MOST_BODY, g_MOST_BODY⟩ := T.g_MOST_BODY
  obtain ⟨t_MOST_FILLED, g_MOST_FILLED⟩ := T.g_MOST_FILLED
  obtain ⟨t_MOST_GIVEN, g_MOST_GIVEN⟩ := T.g_MOST_GIVEN
  obtain ⟨t_MOST_PARTS, g_MOST_PARTS⟩ := T.g_MOST_PARTS
  obtain ⟨t_MOST_RULES, g_MOST_RULES⟩ := T.g_MOST_RULES
  obtain ⟨t_MOST_SLOTS, g_MOST_SLOTS⟩ := T.g_MOST_SLOTS
  obtain ⟨t_MOST_THINGS, g_MOST_THINGS⟩ := T.g_MOST_THINGS
  show PSsk _ p _ _ _ _ (defBody s_said) g_said
  exact
    (sk_one (sk_ret (pk_get2 hu1 (pk_fld 3 T.vd.vd.cls T.vd.vd.n3 (pk_v 0) rfl rfl) (pk_v 1) pk_str ⟨rfl, rfl, rfl, rfl⟩)))
theorem K_said (p : Pt) (T : Txt K mg p) (D : Defs K mg) : MtD P w K mg base p "said" 2 [.val, .val] f_said := by
  obtain ⟨fa, fd, hm, F⟩ := T.vd.sd
  exact ⟨fa, fd, _, hm, F.binds (ps := ["self", "fact"]) fun _ _ _ _ _ _ us hl => match us, hl with | [_, _], _ => rfl, O_said p T D F⟩
theorem sc_decided : FnScope N_decided ["given", "rules"] (defScope s_decided) := ⟨rfl, rfl, rfl, by decide +kernel, rfl, by decide +kernel, by decide +kernel⟩
theorem O_decided (p : Pt) (T : Txt K mg p) (D : Defs K mg) {fa : Addr} {fd : FuncData} (F : Fun K "decided" "decided" s_decided fa fd) : FnOk P w K mg base (L2.CX P w) 8 fa fd ["given", "rules"] (spD K p [.bor, .bor] .rep f_decided) := by
  refine okD (k := 7) F sc_decided (M1 := [.bor, .bor, .any, .any, .any, .any, .any, .any, .any, .any, .any]) fun cdv A outer s H E hr => ?_
  have nd := sc_decided.nd
  have hun := hr.un
  have hu1 := hu_of hr
  have hu10 : (A.deeper (envOfC "decided" (defScope s_decided) s.heap.objs.size fa cdv)).units + 10 < cLine := by omega
  have hu64 : (A.deeper (envOfC "decided" (defScope s_decided) s.heap.objs.size fa cdv)).units + 64 < cLine := by omega
  have hu65 : (A.deeper (envOfC "decided" (defScope s_decided) s.heap.objs.size fa cdv)).units + 65 < cLine := by omega
  have hp : PassesOwn (model P w) (A.deeper (envOfC "decided" (defScope s_decided) s.heap.objs.size fa cdv)) (envOfC "decided" (defScope s_decided) s.heap.objs.size fa cdv) (cxOf (L2.CX P w) P w K mg base N_decided "decided" (defScope s_decided) fa cdv A outer s H E).xe := passes_of rfl
  obtain ⟨t_FIGURES, g_FIGURES⟩ := T.g_FIGURES
  obtain ⟨t_LETTERS, g_LETTERS⟩ := T.g_LETTERS
  obtain ⟨t_LONGEST, g_LONGEST⟩ := T.g_LONGEST
  obtain ⟨t_MOST_BODY, g_MOST_BODY⟩ := T.g_MOST_BODY
  obtain ⟨t_MOST_FILLED, g_MOST_FILLED⟩ := T.g_MOST_FILLED
  obtain ⟨t_MOST_GIVEN, g_MOST_GIVEN⟩ := T.g_MOST_GIVEN
  obtain ⟨t_MOST_PARTS, g_MOST_PARTS⟩ := T.g_MOST_PARTS
  obtain ⟨t_MOST_RULES, g_MOST_RULES⟩ := T.g_MOST_RULES
  obtain ⟨t_MOST_SLOTS, g_MOST_SLOTS⟩ := T.g_MOST_SLOTS
  obtain ⟨t_MOST_THINGS, g_MOST_THINGS⟩ := T.g_MOST_THINGS
  show PSsk _ p _ _ _ _ (defBody s_decided) g_decided
  exact
    (sk_cons (sk_drop (pk_call (ms := [.bor, .bor]) (F_check p T D) (hr.mono (by decide)) (takes_of rfl rfl rfl rfl) (pk_ac (pk_cast (k' := .top) (pk_b 0)) (pk_ac (pk_cast (k' := .top) (pk_b 1)) pk_an))))
    (sk_cons (sk_set 2 (pk_call (ms := [.bor, .bor]) (F_filled_rules p T D) (hr.mono (by decide)) (takes_of rfl rfl rfl rfl) (pk_ac (pk_cast (k' := .top) (pk_b 0)) (pk_ac (pk_cast (k' := .top) (pk_b 1)) pk_an))) nd)
    (sk_cons (sk_setO 3 (pk_lst pk_an) nd)
    (sk_cons (sk_set 4 (pk_cast (k' := .rep) (pk_lst pk_an)) nd)
    (sk_cons (sk_setO 5 (pk_lst pk_an) nd)
    (sk_cons (sk_for [.any, .any, .val, .own, .val, .own, .any, .any, .any, .any, .any] 6 rfl nd hp (pi_e (pk_b 0))
      (sk_one (sk_if (pt_cmpk (op_notInU hu65) o2_notIn nx_notIn (pk_cast (k' := .rd) (pk_v 6)) (pk_o 3) (by rfl))
        (sk_cons (sk_app 3 (pk_v 6))
        (sk_one (sk_app 5 (pk_tup (pk_ac pk_str (pk_ac (pk_v 6) (pk_ac (pk_neg pk_int) pk_an)))))))
        sk_nil)))
    (sk_cons (sk_set 7 pk_bl nd)
    (sk_cons (sk_while [.any, .any, .val, .own, .val, .own, .any, .val, .any, .any, .any] hp (pt_e (pk_v 7))
      (sk_cons (sk_for [.any, .any, .val, .own, .val, .own, .any, .any, .any, .any, .any] 8 rfl nd hp (pi_e (pk_call (ms := [.bor, .bor, .bor]) (F_entered p T D) (hr.mono (by decide)) (takes_of rfl rfl rfl rfl) (pk_ac (pk_cast (k' := .top) (pk_v 2)) (pk_ac (pk_o 3) (pk_ac (pk_cast (k' := .top) (pk_v 4)) pk_an)))))
        (sk_cons (sk_app 3 (pk_ix hu1 (pk_v 8) pk_int))
        (sk_one (sk_app 5 (pk_tup (pk_ac pk_str (pk_ac (pk_ix hu1 (pk_v 8) pk_int) (pk_ac (pk_ix hu1 (pk_v 8) pk_int) pk_an))))))))
      (sk_cons (sk_set 9 (pk_call (ms := [.bor, .bor, .bor]) (F_kept_out p T D) (hr.mono (by decide)) (takes_of rfl rfl rfl rfl) (pk_ac (pk_cast (k' := .top) (pk_v 2)) (pk_ac (pk_o 3) (pk_ac (pk_cast (k' := .top) (pk_v 4)) pk_an)))) nd)
      (sk_cons (sk_if (pt_cmpk op_gt o2_rel nx_rel (pk_callB call_lenU on_len nx_len (pk_ac (pk_cast (k' := .rd) (pk_v 9)) pk_an) T.b_len) pk_int (nomark _))
        (sk_one (sk_app 5 (pk_tup (pk_ac pk_str (pk_ac (pk_cast (k' := .rep) (pk_callT (call_listU rfl) on_list nx_list (pk_ac (pk_cast (k' := .rd) (pk_v 9)) pk_an) T.b_list)) pk_an)))))
        sk_nil)
      (sk_cons (sk_set 4 (pk_bin op_addU o2_add nx_add (pk_cast (k' := .top) (pk_v 4)) (pk_cast (k' := .top) (pk_v 9))) nd)
      (sk_one (sk_set 7 (pk_cmp op_gt o2_rel nx_rel (pk_callB call_lenU on_len nx_len (pk_ac (pk_cast (k' := .rd) (pk_v 9)) pk_an) T.b_len) pk_int (nomark _)) nd)))))))
    (sk_cons (sk_lc 10 6 rfl nd rfl (blkOk_by (N := N_decided) (sc := defScope s_decided) (own := [("fact", 6)]) (by decide +kernel)) (pi_e (pk_call (ms := [.bor]) (F_standing p T D) (hr.mono (by decide)) (takes_of rfl rfl rfl rfl) (pk_ac (pk_cast (k' := .top) (pk_v 2)) pk_an))) (fun _ _ _ _ _ => pg_name (i := 6) nd rfl (by first | exact Or.inl rfl | exact Or.inr rfl)) (fun _ _ _ _ _ => (pts_o (pt_w (pw_a (pt_cmpk (op_notInU hu65) o2_notIn nx_notIn (pk_cast (k' := .rd) (pk_v 6)) (pk_o 3) (by rfl)) (pw_a1 (pt_cmpk (op_notInU hu65) o2_notIn nx_notIn (pk_cast (k' := .rd) (pk_v 6)) (pk_cast (k' := .top) (pk_v 4)) (by rfl))))))) (fun _ _ _ _ _ => (pk_v 6)) (sw_true rfl rfl rfl (by decide +kernel)))
    (sk_frz 5
    (sk_one (sk_ret (pk_mk (K_Verdict p T D) (hr.mono (by decide)) (pk_ac (pk_v 2) (pk_ac (pk_v 5) (pk_ac (pk_v 10) pk_an))))))))))))))))
theorem F_decided (p : Pt) (T : Txt K mg p) (D : Defs K mg) : FnD P w K mg base p "decided" 8 [.bor, .bor] .rep f_decided := by
  obtain ⟨fa, fd, hm, F⟩ := D.d_decided.ex
  exact .of hm F.kp (F.binds (ps := ["given", "rules"]) fun _ _ _ _ _ _ us hl => match us, hl with | [_, _], _ => rfl) (O_decided p T D F)
theorem sc__law_cell_at : FnScope N__law_cell_at ["_law_script", "_law_k"] (defScope s__law_cell_at) := ⟨rfl, rfl, rfl, by decide +kernel, rfl, by decide +kernel, by decide +kernel⟩
theorem O__law_cell_at (p : Pt) (T : Txt K mg p) (D : Defs K mg) {fa : Addr} {fd : FuncData} (F : Fun K "_law_cell_at" "_law_cell_at" s__law_cell_at fa fd) : FnOk P w K mg base (L2.CX P w) 2 fa fd ["_law_script", "_law_k"] (spD K p [.scr, .val] .rep f__law_cell_at) := by
  refine okD (k := 1) F sc__law_cell_at (M1 := [.scr, .val]) fun cdv A outer s H E hr => ?_
  have nd := sc__law_cell_at.nd
  have hun := hr.un
  have hu1 := hu_of hr
  have hu10 : (A.deeper (envOfC "_law_cell_at" (defScope s__law_cell_at) s.heap.objs.size fa cdv)).units + 10 < cLine := by omega
  have hu64 : (A.deeper (envOfC "_law_cell_at" (defScope s__law_cell_at) s.heap.objs.size fa cdv)).units + 64 < cLine := by omega
  have hu65 : (A.deeper (envOfC "_law_cell_at" (defScope s__law_cell_at) s.heap.objs.size fa cdv)).units + 65 < cLine := by omega
  have hp : PassesOwn (model P w) (A.deeper (envOfC "_law_cell_at" (defScope s__law_cell_at) s.heap.objs.size fa cdv)) (envOfC "_law_cell_at" (defScope s__law_cell_at) s.heap.objs.size fa cdv) (cxOf (L2.CX P w) P w K mg base N__law_cell_at "_law_cell_at" (defScope s__law_cell_at) fa cdv A outer s H E).xe := passes_of rfl
  obtain ⟨t_FIGURES, g_FIGURES⟩ := T.g_FIGURES
  obtain ⟨t_LETTERS, g_LETTERS⟩ := T.g_LETTERS
  obtain ⟨t_LONGEST, g_LONGEST⟩ := T.g_LONGEST
  obtain ⟨t_MOST_BODY, g_MOST_BODY⟩ := T.g_MOST_BODY
  obtain ⟨t_MOST_FILLED, g_MOST_FILLED⟩ := T.g_MOST_FILLED
  obtain ⟨t_MOST_GIVEN, g_MOST_GIVEN⟩ := T.g_MOST_GIVEN
  obtain ⟨t_MOST_PARTS, g_MOST_PARTS⟩ := T.g_MOST_PARTS
  obtain ⟨t_MOST_RULES, g_MOST_RULES⟩ := T.g_MOST_RULES
  obtain ⟨t_MOST_SLOTS, g_MOST_SLOTS⟩ := T.g_MOST_SLOTS
  obtain ⟨t_MOST_THINGS, g_MOST_THINGS⟩ := T.g_MOST_THINGS
  show PSsk _ p _ _ _ _ (defBody s__law_cell_at) g__law_cell_at
  exact
    (sk_cons (sk_if (pt_cmpk op_lt o2_rel nx_rel (pk_v 1) (pk_callB call_lenU on_len nx_len (pk_ac (pk_cast (k' := .rd) (pk_s 0)) pk_an) T.b_len) (nomark _))
      (sk_one (sk_ret (pk_ix hu1 (pk_s 0) (pk_v 1))))
      sk_nil)
    (sk_one (sk_ret pk_int)))
theorem F__law_cell_at (p : Pt) (T : Txt K mg p) (D : Defs K mg) : FnD P w K mg base p "_law_cell_at" 2 [.scr, .val] .rep f__law_cell_at := by
  obtain ⟨fa, fd, hm, F⟩ := D.d__law_cell_at.ex
  exact .of hm F.kp (F.binds (ps := ["_law_script", "_law_k"]) fun _ _ _ _ _ _ us hl => match us, hl with | [_, _], _ => rfl) (O__law_cell_at p T D F)
theorem sc__law_word_by : FnScope N__law_word_by ["_law_cell", "_law_k"] (defScope s__law_word_by) := ⟨rfl, rfl, rfl, by decide +kernel, rfl, by decide +kernel, by decide +kernel⟩
theorem O__law_word_by (p : Pt) (T : Txt K mg p) (D : Defs K mg) {fa : Addr} {fd : FuncData} (F : Fun K "_law_word_by" "_law_word_by" s__law_word_by fa fd) : FnOk P w K mg base (L2.CX P w) 2 fa fd ["_law_cell", "_law_k"] (spD K p [.val, .bor] .rep f__law_word_by) := by
  refine okD (k := 1) F sc__law_word_by (M1 := [.val, .bor, .any, .any, .any, .any, .any, .any]) fun cdv A outer s H E hr => ?_
  have nd := sc__law_word_by.nd
  have hun := hr.un
  have hu1 := hu_of hr
  have hu10 : (A.deeper (envOfC "_law_word_by" (defScope s__law_word_by) s.heap.objs.size fa cdv)).units + 10 < cLine := by omega
  have hu64 : (A.deeper (envOfC "_law_word_by" (defScope s__law_word_by) s.heap.objs.size fa cdv)).units + 64 < cLine := by omega
  have hu65 : (A.deeper (envOfC "_law_word_by" (defScope s__law_word_by) s.heap.objs.size fa cdv)).units + 65 < cLine := by omega
  have hp : PassesOwn (model P w) (A.deeper (envOfC "_law_word_by" (defScope s__law_word_by) s.heap.objs.size fa cdv)) (envOfC "_law_word_by" (defScope s__law_word_by) s.heap.objs.size fa cdv) (cxOf (L2.CX P w) P w K mg base N__law_word_by "_law_word_by" (defScope s__law_word_by) fa cdv A outer s H E).xe := passes_of rfl
  obtain ⟨t_FIGURES, g_FIGURES⟩ := T.g_FIGURES
  obtain ⟨t_LETTERS, g_LETTERS⟩ := T.g_LETTERS
  obtain ⟨t_LONGEST, g_LONGEST⟩ := T.g_LONGEST
  obtain ⟨t_MOST_BODY, g_MOST_BODY⟩ := T.g_MOST_BODY
  obtain ⟨t_MOST_FILLED, g_MOST_FILLED⟩ := T.g_MOST_FILLED
  obtain ⟨t_MOST_GIVEN, g_MOST_GIVEN⟩ := T.g_MOST_GIVEN
  obtain ⟨t_MOST_PARTS, g_MOST_PARTS⟩ := T.g_MOST_PARTS
  obtain ⟨t_MOST_RULES, g_MOST_RULES⟩ := T.g_MOST_RULES
  obtain ⟨t_MOST_SLOTS, g_MOST_SLOTS⟩ := T.g_MOST_SLOTS
  obtain ⟨t_MOST_THINGS, g_MOST_THINGS⟩ := T.g_MOST_THINGS
  show PSsk _ p _ _ _ _ (defBody s__law_word_by) g__law_word_by
  exact
    (sk_cons (sk_set 2 pk_str nd)
    (sk_cons (sk_set 4 (pk_join pk_str (pk_cast (k' := .rep) (pk_lc 3 rfl nd rfl (blkOk_by (N := N__law_word_by) (sc := defScope s__law_word_by) (own := [("_law_j", 3)]) (by decide +kernel)) (pi_rng1 pk_int T.b_range) (fun _ _ _ _ _ => pg_name (i := 3) nd rfl (by first | exact Or.inl rfl | exact Or.inr rfl)) (fun _ _ _ _ _ => pts_n) (fun _ _ _ _ _ => (pk_ix hu1 (pk_v 2) (pk_bin op_modN o2_mod nx_int2 (pk_bin op_addU o2_add nx_add (pk_cast (k' := .top) (pk_bin op_fdivN o2_div nx_int2 (pk_v 0) pk_int)) (pk_cast (k' := .top) (pk_bin op_mulU o2_mul nx_mul (pk_cast (k' := .top) pk_int) (pk_cast (k' := .top) (pk_v 3))))) pk_int)))))) nd)
    (sk_cons (sk_set 5 (pk_bin op_modN o2_mod nx_int2 (pk_bin op_fdivN o2_div nx_int2 (pk_v 0) pk_int) pk_int) nd)
    (sk_cons (sk_if (pt_cmpk (op_eqD hu64) (o2_eq hu64) nx_eq (pk_cast (k' := .rd) (pk_bin op_modN o2_mod nx_int2 (pk_v 0) pk_int)) (pk_cast (k' := .rd) pk_int) (nomark _))
      (sk_cons (sk_set 6 (pk_sl sl_U os_cut nx_cut (pk_v 4) (po_s (pk_v 5)) (po_s (pk_bin op_addU o2_add nx_add (pk_cast (k' := .top) (pk_v 5)) (pk_cast (k' := .top) (pk_bin op_modN o2_mod nx_int2 (pk_bin op_fdivN o2_div nx_int2 (pk_v 0) pk_int) (pk_bin op_sub o2_sub nx_int2 pk_int (pk_v 5))))))) nd)
      (sk_one (sk_ret (pk_bin op_addU o2_add nx_add (pk_cast (k' := .top) (pk_bin op_addU o2_add nx_add (pk_cast (k' := .top) (pk_sl sl_U os_cut nx_cut (pk_v 4) po_n (po_s (pk_v 5)))) (pk_cast (k' := .top) (pk_ix hu1 (pk_v 2) (pk_bin op_modN o2_mod nx_int2 (pk_bin op_addU o2_add nx_add (pk_cast (k' := .top) (pk_v 0)) (pk_cast (k' := .top) (pk_b 1))) pk_int))))) (pk_cast (k' := .top) (pk_v 6))))))
      sk_nil)
    (sk_cons (sk_if (pt_cmpk (op_eqD hu64) (o2_eq hu64) nx_eq (pk_cast (k' := .rd) (pk_bin op_modN o2_mod nx_int2 (pk_v 0) pk_int)) (pk_cast (k' := .rd) pk_int) (nomark _))
      (sk_one (sk_ret (pk_sl sl_U os_cut nx_cut (pk_v 4) po_n (po_s (pk_bin op_addU o2_add nx_add (pk_cast (k' := .top) pk_int) (pk_cast (k' := .top) (pk_b 1)))))))
      sk_nil)
    (sk_cons (sk_set 7 (pk_ix hu1 (pk_v 2) (pk_bin op_modN o2_mod nx_int2 (pk_bin op_addU o2_add nx_add (pk_cast (k' := .top) (pk_v 0)) (pk_cast (k' := .top) (pk_b 1))) pk_int)) nd)
    (sk_cons (sk_for [.val, .bor, .val, .any, .any, .any, .any, .val] 3 rfl nd hp (pi_rng1 (pk_bin op_modN o2_mod nx_int2 (pk_bin op_addU o2_add nx_add (pk_cast (k' := .top) (pk_bin op_fdivN o2_div nx_int2 (pk_v 0) pk_int)) (pk_cast (k' := .top) (pk_bin op_mulU o2_mul nx_mul (pk_cast (k' := .top) pk_int) (pk_cast (k' := .top) (pk_b 1))))) pk_int) T.b_range)
      (sk_one (sk_set 7 (pk_bin op_addU o2_add nx_add (pk_cast (k' := .top) (pk_v 7)) (pk_cast (k' := .top) (pk_ix hu1 (pk_v 2) (pk_bin op_modN o2_mod nx_int2 (pk_bin op_addU o2_add nx_add (pk_cast (k' := .top) (pk_bin op_addU o2_add nx_add (pk_cast (k' := .top) (pk_bin op_fdivN o2_div nx_int2 (pk_v 0) pk_int)) (pk_cast (k' := .top) (pk_bin op_mulU o2_mul nx_mul (pk_cast (k' := .top) pk_int) (pk_cast (k' := .top) (pk_v 3)))))) (pk_cast (k' := .top) (pk_b 1))) pk_int)))) nd)))
    (sk_one (sk_ret (pk_v 7))))))))))
theorem F__law_word_by (p : Pt) (T : Txt K mg p) (D : Defs K mg) : FnD P w K mg base p "_law_word_by" 2 [.val, .bor] .rep f__law_word_by := by
  obtain ⟨fa, fd, hm, F⟩ := D.d__law_word_by.ex
  exact .of hm F.kp (F.binds (ps := ["_law_cell", "_law_k"]) fun _ _ _ _ _ _ us hl => match us, hl with | [_, _], _ => rfl) (O__law_word_by p T D F)
theorem sc__law_thing_by : FnScope N__law_thing_by ["_law_cell", "_law_k"] (defScope s__law_thing_by) := ⟨rfl, rfl, rfl, by decide +kernel, rfl, by decide +kernel, by decide +kernel⟩
theorem O__law_thing_by (p : Pt) (T : Txt K mg p) (D : Defs K mg) {fa : Addr} {fd : FuncData} (F : Fun K "_law_thing_by" "_law_thing_by" s__law_thing_by fa fd) : FnOk P w K mg base (L2.CX P w) 2 fa fd ["_law_cell", "_law_k"] (spD K p [.val, .bor] .rep f__law_thing_by) := by
  refine okD (k := 1) F sc__law_thing_by (M1 := [.val, .bor, .any, .any, .any, .any, .any, .any]) fun cdv A outer s H E hr => ?_
  have nd := sc__law_thing_by.nd
  have hun := hr.un
  have hu1 := hu_of hr
  have hu10 : (A.deeper (envOfC "_law_thing_by" (defScope s__law_thing_by) s.heap.objs.size fa cdv)).units + 10 < cLine := by omega
  have hu64 : (A.deeper (envOfC "_law_thing_by" (defScope s__law_thing_by) s.heap.objs.size fa cdv)).units + 64 < cLine := by omega
  have hu65 : (A.deeper (envOfC "_law_thing_by" (defScope s__law_thing_by) s.heap.objs.size fa cdv)).units + 65 < cLine := by omega
  have hp : PassesOwn (model P w) (A.deeper (envOfC "_law_thing_by" (defScope s__law_thing_by) s.heap.objs.size fa cdv)) (envOfC "_law_thing_by" (defScope s__law_thing_by) s.heap.objs.size fa cdv) (cxOf (L2.CX P w) P w K mg base N__law_thing_by "_law_thing_by" (defScope s__law_thing_by) fa cdv A outer s H E).xe := passes_of rfl
  obtain ⟨t_FIGURES, g_FIGURES⟩ := T.g_FIGURES
  obtain ⟨t_LETTERS, g_LETTERS⟩ := T.g_LETTERS
  obtain ⟨t_LONGEST, g_LONGEST⟩ := T.g_LONGEST
  obtain ⟨t_MOST_BODY, g_MOST_BODY⟩ := T.g_MOST_BODY
  obtain ⟨t_MOST_FILLED, g_MOST_FILLED⟩ := T.g_MOST_FILLED
  obtain ⟨t_MOST_GIVEN, g_MOST_GIVEN⟩ := T.g_MOST_GIVEN
  obtain ⟨t_MOST_PARTS, g_MOST_PARTS⟩ := T.g_MOST_PARTS
  obtain ⟨t_MOST_RULES, g_MOST_RULES⟩ := T.g_MOST_RULES
  obtain ⟨t_MOST_SLOTS, g_MOST_SLOTS⟩ := T.g_MOST_SLOTS
  obtain ⟨t_MOST_THINGS, g_MOST_THINGS⟩ := T.g_MOST_THINGS
  show PSsk _ p _ _ _ _ (defBody s__law_thing_by) g__law_thing_by
  exact
    (sk_cons (sk_set 2 pk_str nd)
    (sk_cons (sk_set 4 (pk_join pk_str (pk_cast (k' := .rep) (pk_lc 3 rfl nd rfl (blkOk_by (N := N__law_thing_by) (sc := defScope s__law_thing_by) (own := [("_law_j", 3)]) (by decide +kernel)) (pi_rng1 pk_int T.b_range) (fun _ _ _ _ _ => pg_name (i := 3) nd rfl (by first | exact Or.inl rfl | exact Or.inr rfl)) (fun _ _ _ _ _ => pts_n) (fun _ _ _ _ _ => (pk_ix hu1 (pk_v 2) (pk_bin op_modN o2_mod nx_int2 (pk_bin op_addU o2_add nx_add (pk_cast (k' := .top) (pk_bin op_fdivN o2_div nx_int2 (pk_v 0) pk_int)) (pk_cast (k' := .top) (pk_bin op_mulU o2_mul nx_mul (pk_cast (k' := .top) pk_int) (pk_cast (k' := .top) (pk_v 3))))) pk_int)))))) nd)
    (sk_cons (sk_set 5 (pk_bin op_modN o2_mod nx_int2 (pk_bin op_fdivN o2_div nx_int2 (pk_v 0) pk_int) pk_int) nd)
    (sk_cons (sk_if (pt_cmpk (op_eqD hu64) (o2_eq hu64) nx_eq (pk_cast (k' := .rd) (pk_bin op_modN o2_mod nx_int2 (pk_v 0) pk_int)) (pk_cast (k' := .rd) pk_int) (nomark _))
      (sk_cons (sk_set 6 (pk_sl sl_U os_cut nx_cut (pk_v 4) (po_s (pk_v 5)) (po_s (pk_bin op_addU o2_add nx_add (pk_cast (k' := .top) (pk_v 5)) (pk_cast (k' := .top) (pk_bin op_modN o2_mod nx_int2 (pk_bin op_fdivN o2_div nx_int2 (pk_v 0) pk_int) (pk_bin op_sub o2_sub nx_int2 pk_int (pk_v 5))))))) nd)
      (sk_one (sk_ret (pk_bin op_addU o2_add nx_add (pk_cast (k' := .top) (pk_bin op_addU o2_add nx_add (pk_cast (k' := .top) (pk_sl sl_U os_cut nx_cut (pk_v 4) po_n (po_s (pk_v 5)))) (pk_cast (k' := .top) (pk_ix hu1 (pk_v 2) (pk_bin op_modN o2_mod nx_int2 (pk_bin op_addU o2_add nx_add (pk_cast (k' := .top) (pk_v 0)) (pk_cast (k' := .top) (pk_b 1))) pk_int))))) (pk_cast (k' := .top) (pk_v 6))))))
      sk_nil)
    (sk_cons (sk_if (pt_cmpk (op_eqD hu64) (o2_eq hu64) nx_eq (pk_cast (k' := .rd) (pk_bin op_modN o2_mod nx_int2 (pk_v 0) pk_int)) (pk_cast (k' := .rd) pk_int) (nomark _))
      (sk_one (sk_ret (pk_sl sl_U os_cut nx_cut (pk_v 4) po_n (po_s (pk_bin op_addU o2_add nx_add (pk_cast (k' := .top) pk_int) (pk_cast (k' := .top) (pk_b 1)))))))
      sk_nil)
    (sk_cons (sk_set 7 (pk_ix hu1 (pk_v 2) (pk_bin op_modN o2_mod nx_int2 (pk_bin op_addU o2_add nx_add (pk_cast (k' := .top) (pk_v 0)) (pk_cast (k' := .top) (pk_b 1))) pk_int)) nd)
    (sk_cons (sk_for [.val, .bor, .val, .any, .any, .any, .any, .val] 3 rfl nd hp (pi_rng1 (pk_bin op_modN o2_mod nx_int2 (pk_bin op_addU o2_add nx_add (pk_cast (k' := .top) (pk_bin op_fdivN o2_div nx_int2 (pk_v 0) pk_int)) (pk_cast (k' := .top) (pk_bin op_mulU o2_mul nx_mul (pk_cast (k' := .top) pk_int) (pk_cast (k' := .top) (pk_b 1))))) pk_int) T.b_range)
      (sk_one (sk_set 7 (pk_bin op_addU o2_add nx_add (pk_cast (k' := .top) (pk_v 7)) (pk_cast (k' := .top) (pk_ix hu1 (pk_v 2) (pk_bin op_modN o2_mod nx_int2 (pk_bin op_addU o2_add nx_add (pk_cast (k' := .top) (pk_bin op_addU o2_add nx_add (pk_cast (k' := .top) (pk_bin op_fdivN o2_div nx_int2 (pk_v 0) pk_int)) (pk_cast (k' := .top) (pk_bin op_mulU o2_mul nx_mul (pk_cast (k' := .top) pk_int) (pk_cast (k' := .top) (pk_v 3)))))) (pk_cast (k' := .top) (pk_b 1))) pk_int)))) nd)))
    (sk_one (sk_ret (pk_v 7))))))))))
theorem F__law_thing_by (p : Pt) (T : Txt K mg p) (D : Defs K mg) : FnD P w K mg base p "_law_thing_by" 2 [.val, .bor] .rep f__law_thing_by := by
  obtain ⟨fa, fd, hm, F⟩ := D.d__law_thing_by.ex
  exact .of hm F.kp (F.binds (ps := ["_law_cell", "_law_k"]) fun _ _ _ _ _ _ us hl => match us, hl with | [_, _], _ => rfl) (O__law_thing_by p T D F)
theorem sc__law_things : FnScope N__law_things ["_law_given", "_law_rules"] (defScope s__law_things) := ⟨rfl, rfl, rfl, by decide +kernel, rfl, by decide +kernel, by decide +kernel⟩
theorem O__law_things (p : Pt) (T : Txt K mg p) (D : Defs K mg) {fa : Addr} {fd : FuncData} (F : Fun K "_law_things" "_law_things" s__law_things fa fd) : FnOk P w K mg base (L2.CX P w) 2 fa fd ["_law_given", "_law_rules"] (spD K p [.bor, .bor] .rep f__law_things) := by
  refine okD (k := 1) F sc__law_things (M1 := [.bor, .bor, .any, .any, .any, .any, .any]) fun cdv A outer s H E hr => ?_
  have nd := sc__law_things.nd
  have hun := hr.un
  have hu1 := hu_of hr
  have hu10 : (A.deeper (envOfC "_law_things" (defScope s__law_things) s.heap.objs.size fa cdv)).units + 10 < cLine := by omega
  have hu64 : (A.deeper (envOfC "_law_things" (defScope s__law_things) s.heap.objs.size fa cdv)).units + 64 < cLine := by omega
  have hu65 : (A.deeper (envOfC "_law_things" (defScope s__law_things) s.heap.objs.size fa cdv)).units + 65 < cLine := by omega
  have hp : PassesOwn (model P w) (A.deeper (envOfC "_law_things" (defScope s__law_things) s.heap.objs.size fa cdv)) (envOfC "_law_things" (defScope s__law_things) s.heap.objs.size fa cdv) (cxOf (L2.CX P w) P w K mg base N__law_things "_law_things" (defScope s__law_things) fa cdv A outer s H E).xe := passes_of rfl
  obtain ⟨t_FIGURES, g_FIGURES⟩ := T.g_FIGURES
  obtain ⟨t_LETTERS, g_LETTERS⟩ := T.g_LETTERS
  obtain ⟨t_LONGEST, g_LONGEST⟩ := T.g_LONGEST
  obtain ⟨t_MOST_BODY, g_MOST_BODY⟩ := T.g_MOST_BODY
  obtain ⟨t_MOST_FILLED, g_MOST_FILLED⟩ := T.g_MOST_FILLED
  obtain ⟨t_MOST_GIVEN, g_MOST_GIVEN⟩ := T.g_MOST_GIVEN
  obtain ⟨t_MOST_PARTS, g_MOST_PARTS⟩ := T.g_MOST_PARTS
  obtain ⟨t_MOST_RULES, g_MOST_RULES⟩ := T.g_MOST_RULES
  obtain ⟨t_MOST_SLOTS, g_MOST_SLOTS⟩ := T.g_MOST_SLOTS
  obtain ⟨t_MOST_THINGS, g_MOST_THINGS⟩ := T.g_MOST_THINGS
  show PSsk _ p _ _ _ _ (defBody s__law_things) g__law_things
  exact
    (sk_cons (sk_set 2 (pk_cast (k' := .rep) (pk_callT (call_listU rfl) on_list nx_list (pk_ac (pk_cast (k' := .rd) (pk_b 0)) pk_an) T.b_list)) nd)
    (sk_cons (sk_for [.any, .any, .val, .any, .any, .any, .any] 3 rfl nd hp (pi_e (pk_b 1))
      (sk_one (sk_set 2 (pk_bin op_addU o2_add nx_add (pk_cast (k' := .top) (pk_bin op_addU o2_add nx_add (pk_cast (k' := .top) (pk_bin op_addU o2_add nx_add (pk_cast (k' := .top) (pk_v 2)) (pk_cast (k' := .top) (pk_lst (pk_ac (pk_ix hu1 (pk_v 3) pk_int) pk_an))))) (pk_cast (k' := .top) (pk_callT (call_listU rfl) on_list nx_list (pk_ac (pk_cast (k' := .rd) (pk_ix hu1 (pk_v 3) pk_int)) pk_an) T.b_list)))) (pk_cast (k' := .top) (pk_callT (call_listU rfl) on_list nx_list (pk_ac (pk_cast (k' := .rd) (pk_ix hu1 (pk_v 3) pk_int)) pk_an) T.b_list))) nd)))
    (sk_cons (sk_setO 4 (pk_lst pk_an) nd)
    (sk_cons (sk_for [.any, .any, .any, .any, .own, .any, .any] 5 rfl nd hp (pi_e (pk_v 2))
      (sk_one (sk_for [.any, .any, .any, .any, .own, .any, .any] 6 rfl nd hp (pi_e (pk_sl sl_U os_cut nx_cut (pk_v 5) (po_s pk_int) po_n))
        (sk_one (sk_if (pt_w (pw_a (pt_cmpk (op_neD hu64) (o2_ne hu64) nx_ne (pk_cast (k' := .rd) (pk_ix hu1 (pk_v 6) pk_int)) (pk_cast (k' := .rd) pk_str) (nomark _)) (pw_a1 (pt_cmpk (op_notInU hu65) o2_notIn nx_notIn (pk_cast (k' := .rd) (pk_v 6)) (pk_o 4) (by rfl)))))
          (sk_one (sk_app 4 (pk_v 6)))
          sk_nil)))))
    (sk_one (sk_ret (pk_cast (k' := .rep) (pk_callB (call_sortV hu10) on_sorted nx_sorted (pk_ac (pk_cast (k' := .rd) (pk_o 4)) pk_an) T.b_sorted))))))))
theorem F__law_things (p : Pt) (T : Txt K mg p) (D : Defs K mg) : FnD P w K mg base p "_law_things" 2 [.bor, .bor] .rep f__law_things := by
  obtain ⟨fa, fd, hm, F⟩ := D.d__law_things.ex
  exact .of hm F.kp (F.binds (ps := ["_law_given", "_law_rules"]) fun _ _ _ _ _ _ us hl => match us, hl with | [_, _], _ => rfl) (O__law_things p T D F)
theorem sc__law_slots : FnScope N__law_slots ["_law_patterns"] (defScope s__law_slots) := ⟨rfl, rfl, rfl, by decide +kernel, rfl, by decide +kernel, by decide +kernel⟩
theorem O__law_slots (p : Pt) (T : Txt K mg p) (D : Defs K mg) {fa : Addr} {fd : FuncData} (F : Fun K "_law_slots" "_law_slots" s__law_slots fa fd) : FnOk P w K mg base (L2.CX P w) 2 fa fd ["_law_patterns"] (spD K p [.bor] .rep f__law_slots) := by
  refine okD (k := 1) F sc__law_slots (M1 := [.bor, .any, .any, .any]) fun cdv A outer s H E hr => ?_
  have nd := sc__law_slots.nd
  have hun := hr.un
  have hu1 := hu_of hr
  have hu10 : (A.deeper (envOfC "_law_slots" (defScope s__law_slots) s.heap.objs.size fa cdv)).units + 10 < cLine := by omega
  have hu64 : (A.deeper (envOfC "_law_slots" (defScope s__law_slots) s.heap.objs.size fa cdv)).units + 64 < cLine := by omega
  have hu65 : (A.deeper (envOfC "_law_slots" (defScope s__law_slots) s.heap.objs.size fa cdv)).units + 65 < cLine := by omega
  have hp : PassesOwn (model P w) (A.deeper (envOfC "_law_slots" (defScope s__law_slots) s.heap.objs.size fa cdv)) (envOfC "_law_slots" (defScope s__law_slots) s.heap.objs.size fa cdv) (cxOf (L2.CX P w) P w K mg base N__law_slots "_law_slots" (defScope s__law_slots) fa cdv A outer s H E).xe := passes_of rfl
  obtain ⟨t_FIGURES, g_FIGURES⟩ := T.g_FIGURES
  obtain ⟨t_LETTERS, g_LETTERS⟩ := T.g_LETTERS
  obtain ⟨t_LONGEST, g_LONGEST⟩ := T.g_LONGEST
  obtain ⟨t_MOST_BODY, g_MOST_BODY⟩ := T.g_MOST_BODY
  obtain ⟨t_MOST_FILLED, g_MOST_FILLED⟩ := T.g_MOST_FILLED
  obtain ⟨t_MOST_GIVEN, g_MOST_GIVEN⟩ := T.g_MOST_GIVEN
  obtain ⟨t_MOST_PARTS, g_MOST_PARTS⟩ := T.g_MOST_PARTS
  obtain ⟨t_MOST_RULES, g_MOST_RULES⟩ := T.g_MOST_RULES
  obtain ⟨t_MOST_SLOTS, g_MOST_SLOTS⟩ := T.g_MOST_SLOTS
  obtain ⟨t_MOST_THINGS, g_MOST_THINGS⟩ := T.g_MOST_THINGS
  show PSsk _ p _ _ _ _ (defBody s__law_slots) g__law_slots
  exact
    (sk_cons (sk_setO 1 (pk_lst pk_an) nd)
    (sk_cons (sk_for [.any, .own, .any, .any] 2 rfl nd hp (pi_e (pk_b 0))
      (sk_one (sk_for [.any, .own, .any, .any] 3 rfl nd hp (pi_e (pk_sl sl_U os_cut nx_cut (pk_v 2) (po_s pk_int) po_n))
        (sk_one (sk_if (pt_w (pw_a (pt_cmpk (op_eqD hu64) (o2_eq hu64) nx_eq (pk_cast (k' := .rd) (pk_ix hu1 (pk_v 3) pk_int)) (pk_cast (k' := .rd) pk_str) (nomark _)) (pw_a1 (pt_cmpk (op_notInU hu65) o2_notIn nx_notIn (pk_cast (k' := .rd) (pk_v 3)) (pk_o 1) (by rfl)))))
          (sk_one (sk_app 1 (pk_v 3)))
          sk_nil)))))
    (sk_one (sk_retO 1))))
theorem F__law_slots (p : Pt) (T : Txt K mg p) (D : Defs K mg) : FnD P w K mg base p "_law_slots" 2 [.bor] .rep f__law_slots := by
  obtain ⟨fa, fd, hm, F⟩ := D.d__law_slots.ex
  exact .of hm F.kp (F.binds (ps := ["_law_patterns"]) fun _ _ _ _ _ _ us hl => match us, hl with | [_], _ => rfl) (O__law_slots p T D F)
theorem sc__law_put : FnScope N__law_put ["_law_pattern", "_law_slots_here", "_law_row_here"] (defScope s__law_put) := ⟨rfl, rfl, rfl, by decide +kernel, rfl, by decide +kernel, by decide +kernel⟩
theorem O__law_put (p : Pt) (T : Txt K mg p) (D : Defs K mg) {fa : Addr} {fd : FuncData} (F : Fun K "_law_put" "_law_put" s__law_put fa fd) : FnOk P w K mg base (L2.CX P w) 2 fa fd ["_law_pattern", "_law_slots_here", "_law_row_here"] (spD K p [.bor, .bor, .bor] .rep f__law_put_k03) := by
  refine okD (k := 1) F sc__law_put (M1 := [.bor, .bor, .bor, .any, .any]) fun cdv A outer s H E hr => ?_
  have nd := sc__law_put.nd
  have hun := hr.un
  have hu1 := hu_of hr
  have hu10 : (A.deeper (envOfC "_law_put" (defScope s__law_put) s.heap.objs.size fa cdv)).units + 10 < cLine := by omega
  have hu64 : (A.deeper (envOfC "_law_put" (defScope s__law_put) s.heap.objs.size fa cdv)).units + 64 < cLine := by omega
  have hu65 : (A.deeper (envOfC "_law_put" (defScope s__law_put) s.heap.objs.size fa cdv)).units + 65 < cLine := by omega
  have hp : PassesOwn (model P w) (A.deeper (envOfC "_law_put" (defScope s__law_put) s.heap.objs.size fa cdv)) (envOfC "_law_put" (defScope s__law_put) s.heap.objs.size fa cdv) (cxOf (L2.CX P w) P w K mg base N__law_put "_law_put" (defScope s__law_put) fa cdv A outer s H E).xe := passes_of rfl
  obtain ⟨t_FIGURES, g_FIGURES⟩ := T.g_FIGURES
  obtain ⟨t_LETTERS, g_LETTERS⟩ := T.g_LETTERS
  obtain ⟨t_LONGEST, g_LONGEST⟩ := T.g_LONGEST
  obtain ⟨t_MOST_BODY, g_MOST_BODY⟩ := T.g_MOST_BODY
  obtain ⟨t_MOST_FILLED, g_MOST_FILLED⟩ := T.g_MOST_FILLED
  obtain ⟨t_MOST_GIVEN, g_MOST_GIVEN⟩ := T.g_MOST_GIVEN
  obtain ⟨t_MOST_PARTS, g_MOST_PARTS⟩ := T.g_MOST_PARTS
  obtain ⟨t_MOST_RULES, g_MOST_RULES⟩ := T.g_MOST_RULES
  obtain ⟨t_MOST_SLOTS, g_MOST_SLOTS⟩ := T.g_MOST_SLOTS
  obtain ⟨t_MOST_THINGS, g_MOST_THINGS⟩ := T.g_MOST_THINGS
  show PSsk _ p _ _ _ _ (defBody s__law_put) g__law_put_k03
  exact
    (sk_cons (sk_setO 3 (pk_lst (pk_ac (pk_ix hu1 (pk_b 0) pk_int) pk_an)) nd)
    (sk_cons (sk_for [.any, .bor, .bor, .own, .any] 4 rfl nd hp (pi_e (pk_sl sl_U os_cut nx_cut (pk_b 0) (po_s pk_int) po_n))
      (sk_one (sk_if (pt_cmpk (op_inU hu65) o2_in nx_in (pk_cast (k' := .rd) (pk_v 4)) (pk_cast (k' := .top) (pk_b 1)) (by rfl))
        (sk_one (sk_app 3 (pk_ix hu1 (pk_b 2) (pk_index (pk_b 1) (pk_v 4)))))
        (sk_one (sk_app 3 (pk_v 4))))))
    (sk_one (sk_ret (pk_callT call_tuple_of on_tuple nx_tuple (pk_ac (pk_cast (k' := .rd) (pk_o 3)) pk_an) T.b_tuple)))))
theorem F__law_put (p : Pt) (T : Txt K mg p) (D : Defs K mg) : FnD P w K mg base p "_law_put" 2 [.bor, .bor, .bor] .rep f__law_put_k03 := by
  obtain ⟨fa, fd, hm, F⟩ := D.d__law_put.ex
  exact .of hm F.kp (F.binds (ps := ["_law_pattern", "_law_slots_here", "_law_row_here"]) fun _ _ _ _ _ _ us hl => match us, hl with | [_, _, _], _ => rfl) (O__law_put p T D F)
theorem sc__law_row : FnScope N__law_row ["_law_turn", "_law_things_here", "_law_size"] (defScope s__law_row) := ⟨rfl, rfl, rfl, by decide +kernel, rfl, by decide +kernel, by decide +kernel⟩
theorem O__law_row (p : Pt) (T : Txt K mg p) (D : Defs K mg) {fa : Addr} {fd : FuncData} (F : Fun K "_law_row" "_law_row" s__law_row fa fd) : FnOk P w K mg base (L2.CX P w) 2 fa fd ["_law_turn", "_law_things_here", "_law_size"] (spD K p [.val, .bor, .val] .rep f__law_row) := by
  refine okD (k := 1) F sc__law_row (M1 := [.val, .bor, .val, .any, .any]) fun cdv A outer s H E hr => ?_
  have nd := sc__law_row.nd
  have hun := hr.un
  have hu1 := hu_of hr
  have hu10 : (A.deeper (envOfC "_law_row" (defScope s__law_row) s.heap.objs.size fa cdv)).units + 10 < cLine := by omega
  have hu64 : (A.deeper (envOfC "_law_row" (defScope s__law_row) s.heap.objs.size fa cdv)).units + 64 < cLine := by omega
  have hu65 : (A.deeper (envOfC "_law_row" (defScope s__law_row) s.heap.objs.size fa cdv)).units + 65 < cLine := by omega
  have hp : PassesOwn (model P w) (A.deeper (envOfC "_law_row" (defScope s__law_row) s.heap.objs.size fa cdv)) (envOfC "_law_row" (defScope s__law_row) s.heap.objs.size fa cdv) (cxOf (L2.CX P w) P w K mg base N__law_row "_law_row" (defScope s__law_row) fa cdv A outer s H E).xe := passes_of rfl
  obtain ⟨t_FIGURES, g_FIGURES⟩ := T.g_FIGURES
  obtain ⟨t_LETTERS, g_LETTERS⟩ := T.g_LETTERS
  obtain ⟨t_LONGEST, g_LONGEST⟩ := T.g_LONGEST
  obtain ⟨t_MOST_BODY, g_MOST_BODY⟩ := T.g_MOST_BODY
  obtain ⟨t_MOST_FILLED, g_MOST_FILLED⟩ := T.g_MOST_FILLED
  obtain ⟨t_MOST_GIVEN, g_MOST_GIVEN⟩ := T.g_MOST_GIVEN
  obtain ⟨t_MOST_PARTS, g_MOST_PARTS⟩ := T.g_MOST_PARTS
  obtain ⟨t_MOST_RULES, g_MOST_RULES⟩ := T.g_MOST_RULES
  obtain ⟨t_MOST_SLOTS, g_MOST_SLOTS⟩ := T.g_MOST_SLOTS
  obtain ⟨t_MOST_THINGS, g_MOST_THINGS⟩ := T.g_MOST_THINGS
  show PSsk _ p _ _ _ _ (defBody s__law_row) g__law_row
  exact
    (sk_cons (sk_set 3 (pk_cast (k' := .rep) (pk_lst pk_an)) nd)
    (sk_cons (sk_for [.val, .bor, .any, .val, .any] 4 rfl nd hp (pi_rng1 (pk_v 2) T.b_range)
      (sk_cons (sk_set 3 (pk_bin op_addU o2_add nx_add (pk_cast (k' := .top) (pk_lst (pk_ac (pk_ix hu1 (pk_b 1) (pk_bin op_modN o2_mod nx_int2 (pk_v 0) (pk_callB call_lenU on_len nx_len (pk_ac (pk_cast (k' := .rd) (pk_b 1)) pk_an) T.b_len))) pk_an))) (pk_cast (k' := .top) (pk_v 3))) nd)
      (sk_one (sk_set 0 (pk_bin op_fdivN o2_div nx_int2 (pk_v 0) (pk_callB call_lenU on_len nx_len (pk_ac (pk_cast (k' := .rd) (pk_b 1)) pk_an) T.b_len)) nd))))
    (sk_one (sk_ret (pk_v 3)))))
theorem F__law_row (p : Pt) (T : Txt K mg p) (D : Defs K mg) : FnD P w K mg base p "_law_row" 2 [.val, .bor, .val] .rep f__law_row := by
  obtain ⟨fa, fd, hm, F⟩ := D.d__law_row.ex
  exact .of hm F.kp (F.binds (ps := ["_law_turn", "_law_things_here", "_law_size"]) fun _ _ _ _ _ _ us hl => match us, hl with | [_, _, _], _ => rfl) (O__law_row p T D F)
theorem sc__law_filled : FnScope N__law_filled ["_law_given", "_law_rules"] (defScope s__law_filled) := ⟨rfl, rfl, rfl, by decide +kernel, rfl, by decide +kernel, by decide +kernel⟩
theorem O__law_filled (p : Pt) (T : Txt K mg p) (D : Defs K mg) {fa : Addr} {fd : FuncData} (F : Fun K "_law_filled" "_law_filled" s__law_filled fa fd) : FnOk P w K mg base (L2.CX P w) 3 fa fd ["_law_given", "_law_rules"] (spD K p [.bor, .bor] .rep f__law_filled) := by
  refine okD (k := 2) F sc__law_filled (M1 := [.bor, .bor, .any, .any, .any, .any, .any, .any, .any, .any, .any, .any, .any]) fun cdv A outer s H E hr => ?_
  have nd := sc__law_filled.nd
  have hun := hr.un
  have hu1 := hu_of hr
  have hu10 : (A.deeper (envOfC "_law_filled" (defScope s__law_filled) s.heap.objs.size fa cdv)).units + 10 < cLine := by omega
  have hu64 : (A.deeper (envOfC "_law_filled" (defScope s__law_filled) s.heap.objs.size fa cdv)).units + 64 < cLine := by omega
  have hu65 : (A.deeper (envOfC "_law_filled" (defScope s__law_filled) s.heap.objs.size fa cdv)).units + 65 < cLine := by omega
  have hp : PassesOwn (model P w) (A.deeper (envOfC "_law_filled" (defScope s__law_filled) s.heap.objs.size fa cdv)) (envOfC "_law_filled" (defScope s__law_filled) s.heap.objs.size fa cdv) (cxOf (L2.CX P w) P w K mg base N__law_filled "_law_filled" (defScope s__law_filled) fa cdv A outer s H E).xe := passes_of rfl
  obtain ⟨t_FIGURES, g_FIGURES⟩ := T.g_FIGURES
  obtain ⟨t_LETTERS, g_LETTERS⟩ := T.g_LETTERS
  obtain ⟨t_LONGEST, g_LONGEST⟩ := T.g_LONGEST
  obtain ⟨t_MOST_BODY, g_MOST_BODY⟩ := T.g_MOST_BODY
  obtain ⟨t_MOST_FILLED, g_MOST_FILLED⟩ := T.g_MOST_FILLED
  obtain ⟨t_MOST_GIVEN, g_MOST_GIVEN⟩ := T.g_MOST_GIVEN
  obtain ⟨t_MOST_PARTS, g_MOST_PARTS⟩ := T.g_MOST_PARTS
  obtain ⟨t_MOST_RULES, g_MOST_RULES⟩ := T.g_MOST_RULES
  obtain ⟨t_MOST_SLOTS, g_MOST_SLOTS⟩ := T.g_MOST_SLOTS
  obtain ⟨t_MOST_THINGS, g_MOST_THINGS⟩ := T.g_MOST_THINGS
  show PSsk _ p _ _ _ _ (defBody s__law_filled) g__law_filled
  exact
    (sk_cons (sk_set 2 (pk_call (ms := [.bor, .bor]) (F__law_things p T D) (hr.mono (by decide)) (takes_of rfl rfl rfl rfl) (pk_ac (pk_cast (k' := .top) (pk_b 0)) (pk_ac (pk_cast (k' := .top) (pk_b 1)) pk_an))) nd)
    (sk_cons (sk_setO 3 (pk_lst pk_an) nd)
    (sk_cons (sk_for [.any, .bor, .val, .own, .any, .any, .any, .any, .any, .any, .any, .any, .any] 4 rfl nd hp (pi_rng1 (pk_callB call_lenU on_len nx_len (pk_ac (pk_cast (k' := .rd) (pk_b 1)) pk_an) T.b_len) T.b_range)
      (sk_cons (sk_set 5 (pk_call (ms := [.bor]) (F__law_slots p T D) (hr.mono (by decide)) (takes_of rfl rfl rfl rfl) (pk_ac (pk_cast (k' := .top) (pk_ix hu1 (pk_ix hu1 (pk_b 1) (pk_v 4)) pk_int)) pk_an)) nd)
      (sk_cons (sk_set 6 pk_int nd)
      (sk_cons (sk_for [.any, .bor, .val, .own, .val, .val, .val, .any, .any, .any, .any, .any, .any] 7 rfl nd hp (pi_e (pk_v 5))
        (sk_one (sk_set 6 (pk_bin op_mulU o2_mul nx_mul (pk_cast (k' := .top) (pk_v 6)) (pk_cast (k' := .top) (pk_callB call_lenU on_len nx_len (pk_ac (pk_cast (k' := .rd) (pk_v 2)) pk_an) T.b_len))) nd)))
      (sk_one (sk_for [.any, .bor, .val, .own, .val, .val, .any, .any, .any, .any, .any, .any, .any] 8 rfl nd hp (pi_rng1 (pk_v 6) T.b_range)
        (sk_cons (sk_set 9 (pk_call (ms := [.val, .bor, .val]) (F__law_row p T D) (hr.mono (by decide)) (takes_of rfl rfl rfl rfl) (pk_ac (pk_v 8) (pk_ac (pk_cast (k' := .top) (pk_v 2)) (pk_ac (pk_callB call_lenU on_len nx_len (pk_ac (pk_cast (k' := .rd) (pk_v 5)) pk_an) T.b_len) pk_an)))) nd)
        (sk_cons (sk_lc 10 12 rfl nd rfl (blkOk_by (N := N__law_filled) (sc := defScope s__law_filled) (own := [("_law_pattern", 12)]) (by decide +kernel)) (pi_e (pk_ix hu1 (pk_ix hu1 (pk_b 1) (pk_v 4)) pk_int)) (fun _ _ _ _ _ => pg_name (i := 12) nd rfl (by first | exact Or.inl rfl | exact Or.inr rfl)) (fun _ _ _ _ _ => pts_n) (fun _ _ _ _ _ => (pk_call (ms := [.bor, .bor, .bor]) (F__law_put p T D) (hr.mono (by decide)) takes0 (pk_ac (pk_cast (k' := .top) (pk_v 12)) (pk_ac (pk_cast (k' := .top) (pk_v 5)) (pk_ac (pk_cast (k' := .top) (pk_v 9)) pk_an))))) (sw_true rfl rfl rfl (by decide +kernel)))
        (sk_cons (sk_lc 11 12 rfl nd rfl (blkOk_by (N := N__law_filled) (sc := defScope s__law_filled) (own := [("_law_pattern", 12)]) (by decide +kernel)) (pi_e (pk_ix hu1 (pk_ix hu1 (pk_b 1) (pk_v 4)) pk_int)) (fun _ _ _ _ _ => pg_name (i := 12) nd rfl (by first | exact Or.inl rfl | exact Or.inr rfl)) (fun _ _ _ _ _ => pts_n) (fun _ _ _ _ _ => (pk_call (ms := [.bor, .bor, .bor]) (F__law_put p T D) (hr.mono (by decide)) takes0 (pk_ac (pk_cast (k' := .top) (pk_v 12)) (pk_ac (pk_cast (k' := .top) (pk_v 5)) (pk_ac (pk_cast (k' := .top) (pk_v 9)) pk_an))))) (sw_true rfl rfl rfl (by decide +kernel)))
        (sk_one (sk_app 3 (pk_tup (pk_ac (pk_v 4) (pk_ac (pk_call (ms := [.bor, .bor, .bor]) (F__law_put p T D) (hr.mono (by decide)) (takes_of rfl rfl rfl rfl) (pk_ac (pk_cast (k' := .top) (pk_ix hu1 (pk_ix hu1 (pk_b 1) (pk_v 4)) pk_int)) (pk_ac (pk_cast (k' := .top) (pk_v 5)) (pk_ac (pk_cast (k' := .top) (pk_v 9)) pk_an)))) (pk_ac (pk_callT call_tuple_of on_tuple nx_tuple (pk_ac (pk_cast (k' := .rd) (pk_v 10)) pk_an) T.b_tuple) (pk_ac (pk_callT call_tuple_of on_tuple nx_tuple (pk_ac (pk_cast (k' := .rd) (pk_v 11)) pk_an) T.b_tuple) pk_an))))))))))))))))
    (sk_one (sk_retO 3)))))
theorem F__law_filled (p : Pt) (T : Txt K mg p) (D : Defs K mg) : FnD P w K mg base p "_law_filled" 3 [.bor, .bor] .rep f__law_filled := by
  obtain ⟨fa, fd, hm, F⟩ := D.d__law_filled.ex
  exact .of hm F.kp (F.binds (ps := ["_law_given", "_law_rules"]) fun _ _ _ _ _ _ us hl => match us, hl with | [_, _], _ => rfl) (O__law_filled p T D F)
theorem sc__law_atom_of : FnScope N__law_atom_of ["_law_number", "_law_kind", "_law_words", "_law_parts"] (defScope s__law_atom_of) := ⟨rfl, rfl, rfl, by decide +kernel, rfl, by decide +kernel, by decide +kernel⟩
theorem O__law_atom_of (p : Pt) (T : Txt K mg p) (D : Defs K mg) {fa : Addr} {fd : FuncData} (F : Fun K "_law_atom_of" "_law_atom_of" s__law_atom_of fa fd) : FnOk P w K mg base (L2.CX P w) 2 fa fd ["_law_number", "_law_kind", "_law_words", "_law_parts"] (spD K p [.val, .val, .bor, .bor] .rep f__law_atom_of) := by
  refine okD (k := 1) F sc__law_atom_of (M1 := [.val, .val, .bor, .bor, .any, .any]) fun cdv A outer s H E hr => ?_
  have nd := sc__law_atom_of.nd
  have hun := hr.un
  have hu1 := hu_of hr
  have hu10 : (A.deeper (envOfC "_law_atom_of" (defScope s__law_atom_of) s.heap.objs.size fa cdv)).units + 10 < cLine := by omega
  have hu64 : (A.deeper (envOfC "_law_atom_of" (defScope s__law_atom_of) s.heap.objs.size fa cdv)).units + 64 < cLine := by omega
  have hu65 : (A.deeper (envOfC "_law_atom_of" (defScope s__law_atom_of) s.heap.objs.size fa cdv)).units + 65 < cLine := by omega
  have hp : PassesOwn (model P w) (A.deeper (envOfC "_law_atom_of" (defScope s__law_atom_of) s.heap.objs.size fa cdv)) (envOfC "_law_atom_of" (defScope s__law_atom_of) s.heap.objs.size fa cdv) (cxOf (L2.CX P w) P w K mg base N__law_atom_of "_law_atom_of" (defScope s__law_atom_of) fa cdv A outer s H E).xe := passes_of rfl
  obtain ⟨t_FIGURES, g_FIGURES⟩ := T.g_FIGURES
  obtain ⟨t_LETTERS, g_LETTERS⟩ := T.g_LETTERS
  obtain ⟨t_LONGEST, g_LONGEST⟩ := T.g_LONGEST
  obtain ⟨t_MOST_BODY, g_MOST_BODY⟩ := T.g_MOST_BODY
  obtain ⟨t_MOST_FILLED, g_MOST_FILLED⟩ := T.g_MOST_FILLED
  obtain ⟨t_MOST_GIVEN, g_MOST_GIVEN⟩ := T.g_MOST_GIVEN
  obtain ⟨t_MOST_PARTS, g_MOST_PARTS⟩ := T.g_MOST_PARTS
  obtain ⟨t_MOST_RULES, g_MOST_RULES⟩ := T.g_MOST_RULES
  obtain ⟨t_MOST_SLOTS, g_MOST_SLOTS⟩ := T.g_MOST_SLOTS
  obtain ⟨t_MOST_THINGS, g_MOST_THINGS⟩ := T.g_MOST_THINGS
  show PSsk _ p _ _ _ _ (defBody s__law_atom_of) g__law_atom_of
  exact
    (sk_cons (sk_set 4 (pk_ix hu1 (pk_b 3) (pk_bin op_modN o2_mod nx_int2 (pk_v 0) (pk_callB call_lenU on_len nx_len (pk_ac (pk_cast (k' := .rd) (pk_b 3)) pk_an) T.b_len))) nd)
    (sk_cons (sk_set 5 (pk_ix hu1 (pk_b 3) (pk_bin op_modN o2_mod nx_int2 (pk_bin op_fdivN o2_div nx_int2 (pk_v 0) (pk_callB call_lenU on_len nx_len (pk_ac (pk_cast (k' := .rd) (pk_b 3)) pk_an) T.b_len)) (pk_callB call_lenU on_len nx_len (pk_ac (pk_cast (k' := .rd) (pk_b 3)) pk_an) T.b_len))) nd)
    (sk_one (sk_ret (pk_ix hu1 (pk_cast (k' := .rep) (pk_lst (pk_ac (pk_tup (pk_ac (pk_ix hu1 (pk_b 2) pk_int) (pk_ac (pk_v 4) pk_an))) (pk_ac (pk_tup (pk_ac (pk_ix hu1 (pk_b 2) pk_int) (pk_ac (pk_v 4) (pk_ac (pk_v 5) pk_an)))) (pk_ac (pk_tup (pk_ac (pk_ix hu1 (pk_b 2) pk_int) (pk_ac (pk_v 4) pk_an))) (pk_ac (pk_tup (pk_ac (pk_ix hu1 (pk_b 2) pk_int) (pk_ac (pk_v 5) (pk_ac (pk_v 4) pk_an)))) pk_an)))))) (pk_v 1))))))
theorem F__law_atom_of (p : Pt) (T : Txt K mg p) (D : Defs K mg) : FnD P w K mg base p "_law_atom_of" 2 [.val, .val, .bor, .bor] .rep f__law_atom_of := by
  obtain ⟨fa, fd, hm, F⟩ := D.d__law_atom_of.ex
  exact .of hm F.kp (F.binds (ps := ["_law_number", "_law_kind", "_law_words", "_law_parts"]) fun _ _ _ _ _ _ us hl => match us, hl with | [_, _, _, _], _ => rfl) (O__law_atom_of p T D F)
theorem sc__law_layered_rule : FnScope N__law_layered_rule ["_law_cell", "_law_words", "_law_things_here", "_law_names"] (defScope s__law_layered_rule) := ⟨rfl, rfl, rfl, by decide +kernel, rfl, by decide +kernel, by decide +kernel⟩
theorem O__law_layered_rule (p : Pt) (T : Txt K mg p) (D : Defs K mg) {fa : Addr} {fd : FuncData} (F : Fun K "_law_layered_rule" "_law_layered_rule" s__law_layered_rule fa fd) : FnOk P w K mg base (L2.CX P w) 3 fa fd ["_law_cell", "_law_words", "_law_things_here", "_law_names"] (spD K p [.val, .bor, .bor, .bor] .rep f__law_layered_rule) := by
  refine okD (k := 2) F sc__law_layered_rule (M1 := [.val, .bor, .bor, .bor, .any, .any, .any, .any, .any, .any, .any, .any, .any, .any]) fun cdv A outer s H E hr => ?_
  have nd := sc__law_layered_rule.nd
  have hun := hr.un
  have hu1 := hu_of hr
  have hu10 : (A.deeper (envOfC "_law_layered_rule" (defScope s__law_layered_rule) s.heap.objs.size fa cdv)).units + 10 < cLine := by omega
  have hu64 : (A.deeper (envOfC "_law_layered_rule" (defScope s__law_layered_rule) s.heap.objs.size fa cdv)).units + 64 < cLine := by omega
  have hu65 : (A.deeper (envOfC "_law_layered_rule" (defScope s__law_layered_rule) s.heap.objs.size fa cdv)).units + 65 < cLine := by omega
  have hp : PassesOwn (model P w) (A.deeper (envOfC "_law_layered_rule" (defScope s__law_layered_rule) s.heap.objs.size fa cdv)) (envOfC "_law_layered_rule" (defScope s__law_layered_rule) s.heap.objs.size fa cdv) (cxOf (L2.CX P w) P w K mg base N__law_layered_rule "_law_layered_rule" (defScope s__law_layered_rule) fa cdv A outer s H E).xe := passes_of rfl
  obtain ⟨t_FIGURES, g_FIGURES⟩ := T.g_FIGURES
  obtain ⟨t_LETTERS, g_LETTERS⟩ := T.g_LETTERS
  obtain ⟨t_LONGEST, g_LONGEST⟩ := T.g_LONGEST
  obtain ⟨t_MOST_BODY, g_MOST_BODY⟩ := T.g_MOST_BODY
  obtain ⟨t_MOST_FILLED, g_MOST_FILLED⟩ := T.g_MOST_FILLED
  obtain ⟨t_MOST_GIVEN, g_MOST_GIVEN⟩ := T.g_MOST_GIVEN
  obtain ⟨t_MOST_PARTS, g_MOST_PARTS⟩ := T.g_MOST_PARTS
  obtain ⟨t_MOST_RULES, g_MOST_RULES⟩ := T.g_MOST_RULES
  obtain ⟨t_MOST_SLOTS, g_MOST_SLOTS⟩ := T.g_MOST_SLOTS
  obtain ⟨t_MOST_THINGS, g_MOST_THINGS⟩ := T.g_MOST_THINGS
  show PSsk _ p _ _ _ _ (defBody s__law_layered_rule) g__law_layered_rule
  exact
    (sk_cons (sk_set 4 (pk_bin op_modN o2_mod nx_int2 (pk_bin op_mulU o2_mul nx_mul (pk_cast (k' := .top) (pk_v 0)) (pk_cast (k' := .top) pk_int)) pk_int) nd)
    (sk_cons (sk_set 5 (pk_bin op_modN o2_mod nx_int2 (pk_bin op_mulU o2_mul nx_mul (pk_cast (k' := .top) (pk_v 0)) (pk_cast (k' := .top) pk_int)) pk_int) nd)
    (sk_cons (sk_set 6 (pk_bin op_modN o2_mod nx_int2 (pk_bin op_mulU o2_mul nx_mul (pk_cast (k' := .top) (pk_v 0)) (pk_cast (k' := .top) pk_int)) pk_int) nd)
    (sk_cons (sk_set 7 (pk_sl sl_U os_cut nx_cut (pk_b 3) po_n (po_s (pk_ix hu1 (pk_cast (k' := .rep) (pk_lst (pk_ac pk_int (pk_ac pk_int (pk_ac pk_int (pk_ac pk_int pk_an)))))) (pk_bin op_modN o2_mod nx_int2 (pk_v 0) pk_int)))) nd)
    (sk_cons (sk_set 8 (pk_bin op_addU o2_add nx_add (pk_cast (k' := .top) (pk_b 2)) (pk_cast (k' := .top) (pk_v 7))) nd)
    (sk_cons (sk_set 9 (pk_bin op_modN o2_mod nx_int2 (pk_v 4) pk_int) nd)
    (sk_cons (sk_lcO 10 13 rfl nd rfl (blkOk_by (N := N__law_layered_rule) (sc := defScope s__law_layered_rule) (own := [("_law_slot", 13)]) (by decide +kernel)) (pi_e (pk_v 7)) (fun _ _ _ _ _ => pg_name (i := 13) nd rfl (by first | exact Or.inl rfl | exact Or.inr rfl)) (fun _ _ _ _ _ => pts_n) (fun _ _ _ _ _ => (pk_tup (pk_ac (pk_ix hu1 (pk_b 1) pk_int) (pk_ac (pk_v 13) pk_an)))) (sw_true rfl rfl rfl (by decide +kernel)))
    (sk_cons (sk_if (pt_w (pw_a (pt_cmpk (op_eqD hu64) (o2_eq hu64) nx_eq (pk_cast (k' := .rd) (pk_callB call_lenU on_len nx_len (pk_ac (pk_cast (k' := .rd) (pk_v 7)) pk_an) T.b_len)) (pk_cast (k' := .rd) pk_int) (nomark _)) (pw_a (pt_cmpk op_gt o2_rel nx_rel (pk_v 9) pk_int (nomark _)) (pw_a1 (pt_cmpk (op_eqD hu64) (o2_eq hu64) nx_eq (pk_cast (k' := .rd) (pk_bin op_modN o2_mod nx_int2 (pk_v 5) pk_int)) (pk_cast (k' := .rd) pk_int) (nomark _))))))
      (sk_one (sk_setO 10 (pk_lst (pk_ac (pk_tup (pk_ac (pk_ix hu1 (pk_b 1) pk_int) (pk_ac (pk_ix hu1 (pk_v 7) pk_int) (pk_ac (pk_ix hu1 (pk_v 7) pk_int) pk_an)))) pk_an)) nd))
      sk_nil)
    (sk_cons (sk_if (pt_cmpk (op_eqD hu64) (o2_eq hu64) nx_eq (pk_cast (k' := .rd) (pk_bin op_modN o2_mod nx_int2 (pk_v 6) pk_int)) (pk_cast (k' := .rd) pk_int) (nomark _))
      (sk_one (sk_app 10 (pk_call (ms := [.val, .val, .bor, .bor]) (F__law_atom_of p T D) (hr.mono (by decide)) (takes_of rfl rfl rfl rfl) (pk_ac (pk_bin op_fdivN o2_div nx_int2 (pk_v 6) pk_int) (pk_ac (pk_bin op_modN o2_mod nx_int2 (pk_bin op_fdivN o2_div nx_int2 (pk_v 5) pk_int) (pk_bin op_addU o2_add nx_add (pk_cast (k' := .top) (pk_v 9)) (pk_cast (k' := .top) pk_int))) (pk_ac (pk_cast (k' := .top) (pk_b 1)) (pk_ac (pk_cast (k' := .top) (pk_v 8)) pk_an)))))))
      sk_nil)
    (sk_cons (sk_setO 11 (pk_lst pk_an) nd)
    (sk_cons (sk_for [.any, .bor, .any, .any, .val, .val, .any, .any, .val, .val, .own, .own, .any, .any] 12 rfl nd hp (pi_rng1 (pk_ix hu1 (pk_cast (k' := .rep) (pk_lst (pk_ac pk_int (pk_ac pk_int (pk_ac pk_int (pk_ac pk_int pk_an)))))) (pk_bin op_modN o2_mod nx_int2 (pk_bin op_fdivN o2_div nx_int2 (pk_v 6) pk_int) pk_int)) T.b_range)
      (sk_one (sk_if (pt_cmpk op_gt o2_rel nx_rel (pk_v 9) pk_int (nomark _))
        (sk_one (sk_app 11 (pk_call (ms := [.val, .val, .bor, .bor]) (F__law_atom_of p T D) (hr.mono (by decide)) (takes_of rfl rfl rfl rfl) (pk_ac (pk_bin op_fdivN o2_div nx_int2 (pk_bin op_fdivN o2_div nx_int2 (pk_v 5) pk_int) (pk_bin op_addU o2_add nx_add (pk_cast (k' := .top) pk_int) (pk_cast (k' := .top) (pk_bin op_mulU o2_mul nx_mul (pk_cast (k' := .top) pk_int) (pk_cast (k' := .top) (pk_v 12)))))) (pk_ac (pk_bin op_modN o2_mod nx_int2 (pk_bin op_fdivN o2_div nx_int2 (pk_v 4) pk_int) (pk_v 9)) (pk_ac (pk_cast (k' := .top) (pk_b 1)) (pk_ac (pk_cast (k' := .top) (pk_v 8)) pk_an)))))))
        sk_nil)))
    (sk_one (sk_ret (pk_tup (pk_ac (pk_call (ms := [.val, .val, .bor, .bor]) (F__law_atom_of p T D) (hr.mono (by decide)) (takes_of rfl rfl rfl rfl) (pk_ac (pk_bin op_fdivN o2_div nx_int2 (pk_v 4) pk_int) (pk_ac (pk_v 9) (pk_ac (pk_cast (k' := .top) (pk_b 1)) (pk_ac (pk_cast (k' := .top) (pk_v 8)) pk_an))))) (pk_ac (pk_callT call_tuple_of on_tuple nx_tuple (pk_ac (pk_cast (k' := .rd) (pk_o 10)) pk_an) T.b_tuple) (pk_ac (pk_callT call_tuple_of on_tuple nx_tuple (pk_ac (pk_cast (k' := .rd) (pk_o 11)) pk_an) T.b_tuple) pk_an)))))))))))))))))
theorem F__law_layered_rule (p : Pt) (T : Txt K mg p) (D : Defs K mg) : FnD P w K mg base p "_law_layered_rule" 3 [.val, .bor, .bor, .bor] .rep f__law_layered_rule := by
  obtain ⟨fa, fd, hm, F⟩ := D.d__law_layered_rule.ex
  exact .of hm F.kp (F.binds (ps := ["_law_cell", "_law_words", "_law_things_here", "_law_names"]) fun _ _ _ _ _ _ us hl => match us, hl with | [_, _, _, _], _ => rfl) (O__law_layered_rule p T D F)
theorem sc__law_told : FnScope N__law_told ["_law_given", "_law_filled_here", "_law_words"] (defScope s__law_told) := ⟨rfl, rfl, rfl, by decide +kernel, rfl, by decide +kernel, by decide +kernel⟩
theorem O__law_told (p : Pt) (T : Txt K mg p) (D : Defs K mg) {fa : Addr} {fd : FuncData} (F : Fun K "_law_told" "_law_told" s__law_told fa fd) : FnOk P w K mg base (L2.CX P w) 2 fa fd ["_law_given", "_law_filled_here", "_law_words"] (spD K p [.bor, .bor, .bor] .rep f__law_told_k11) := by
  refine okD (k := 1) F sc__law_told (M1 := [.bor, .bor, .bor, .any, .any, .any, .any, .any, .any, .any, .any]) fun cdv A outer s H E hr => ?_
  have nd := sc__law_told.nd
  have hun := hr.un
  have hu1 := hu_of hr
  have hu10 : (A.deeper (envOfC "_law_told" (defScope s__law_told) s.heap.objs.size fa cdv)).units + 10 < cLine := by omega
  have hu64 : (A.deeper (envOfC "_law_told" (defScope s__law_told) s.heap.objs.size fa cdv)).units + 64 < cLine := by omega
  have hu65 : (A.deeper (envOfC "_law_told" (defScope s__law_told) s.heap.objs.size fa cdv)).units + 65 < cLine := by omega
  have hp : PassesOwn (model P w) (A.deeper (envOfC "_law_told" (defScope s__law_told) s.heap.objs.size fa cdv)) (envOfC "_law_told" (defScope s__law_told) s.heap.objs.size fa cdv) (cxOf (L2.CX P w) P w K mg base N__law_told "_law_told" (defScope s__law_told) fa cdv A outer s H E).xe := passes_of rfl
  obtain ⟨t_FIGURES, g_FIGURES⟩ := T.g_FIGURES
  obtain ⟨t_LETTERS, g_LETTERS⟩ := T.g_LETTERS
  obtain ⟨t_LONGEST, g_LONGEST⟩ := T.g_LONGEST
  obtain ⟨t_MOST_BODY, g_MOST_BODY⟩ := T.g_MOST_BODY
  obtain ⟨t_MOST_FILLED, g_MOST_FILLED⟩ := T.g_MOST_FILLED
  obtain ⟨t_MOST_GIVEN, g_MOST_GIVEN⟩ := T.g_MOST_GIVEN
  obtain ⟨t_MOST_PARTS, g_MOST_PARTS⟩ := T.g_MOST_PARTS
  obtain ⟨t_MOST_RULES, g_MOST_RULES⟩ := T.g_MOST_RULES
  obtain ⟨t_MOST_SLOTS, g_MOST_SLOTS⟩ := T.g_MOST_SLOTS
  obtain ⟨t_MOST_THINGS, g_MOST_THINGS⟩ := T.g_MOST_THINGS
  show PSsk _ p _ _ _ _ (defBody s__law_told) g__law_told_k11
  exact
    (sk_cons (sk_setO 3 (pk_callT (call_listU rfl) on_list nx_list (pk_ac (pk_cast (k' := .rd) (pk_b 0)) pk_an) T.b_list) nd)
    (sk_cons (sk_for [.any, .bor, .any, .own, .any, .any, .any, .any, .any, .any, .any] 4 rfl nd hp (pi_e (pk_b 2))
      (sk_cons (sk_lc 6 5 rfl nd rfl (blkOk_by (N := N__law_told) (sc := defScope s__law_told) (own := [("_law_rule", 5)]) (by decide +kernel)) (pi_e (pk_b 1)) (fun _ _ _ _ _ => pg_name (i := 5) nd rfl (by first | exact Or.inl rfl | exact Or.inr rfl)) (fun _ _ _ _ _ => (pts_o (pt_cmpk (op_eqD hu64) (o2_eq hu64) nx_eq (pk_cast (k' := .rd) (pk_ix hu1 (pk_ix hu1 (pk_v 5) pk_int) pk_int)) (pk_cast (k' := .rd) (pk_v 4)) (nomark _)))) (fun _ _ _ _ _ => (pk_v 5)) (sw_true rfl rfl rfl (by decide +kernel)))
      (sk_one (sk_for [.any, .bor, .any, .own, .any, .any, .val, .any, .any, .any, .any] 7 rfl nd hp (pi_rng1 (pk_callB call_lenU on_len nx_len (pk_ac (pk_cast (k' := .rd) (pk_v 6)) pk_an) T.b_len) T.b_range)
        (sk_one (sk_for [.any, .bor, .any, .own, .any, .any, .val, .any, .any, .any, .any] 5 rfl nd hp (pi_e (pk_v 6))
          (sk_cons (sk_lc 8 10 rfl nd rfl (blkOk_by (N := N__law_told) (sc := defScope s__law_told) (own := [("_law_fact", 10)]) (by decide +kernel)) (pi_e (pk_ix hu1 (pk_v 5) pk_int)) (fun _ _ _ _ _ => pg_name (i := 10) nd rfl (by first | exact Or.inl rfl | exact Or.inr rfl)) (fun _ _ _ _ _ => (pts_o (pt_cmpk (op_notInU hu65) o2_notIn nx_notIn (pk_cast (k' := .rd) (pk_v 10)) (pk_o 3) (by rfl)))) (fun _ _ _ _ _ => (pk_v 10)) (sw_true rfl rfl rfl (by decide +kernel)))
          (sk_cons (sk_lc 9 10 rfl nd rfl (blkOk_by (N := N__law_told) (sc := defScope s__law_told) (own := [("_law_fact", 10)]) (by decide +kernel)) (pi_e (pk_ix hu1 (pk_v 5) pk_int)) (fun _ _ _ _ _ => pg_name (i := 10) nd rfl (by first | exact Or.inl rfl | exact Or.inr rfl)) (fun _ _ _ _ _ => (pts_o (pt_cmpk (op_inU hu65) o2_in nx_in (pk_cast (k' := .rd) (pk_v 10)) (pk_o 3) (by rfl)))) (fun _ _ _ _ _ => (pk_v 10)) (sw_true rfl rfl rfl (by decide +kernel)))
          (sk_one (sk_if (pt_w (pw_a (pt_cmpk (op_eqD hu64) (o2_eq hu64) nx_eq (pk_cast (k' := .rd) (pk_v 8)) (pk_cast (k' := .rd) (pk_lst pk_an)) (nomark _)) (pw_a (pt_cmpk (op_eqD hu64) (o2_eq hu64) nx_eq (pk_cast (k' := .rd) (pk_v 9)) (pk_cast (k' := .rd) (pk_lst pk_an)) (nomark _)) (pw_a1 (pt_cmpk (op_notInU hu65) o2_notIn nx_notIn (pk_cast (k' := .rd) (pk_ix hu1 (pk_v 5) pk_int)) (pk_o 3) (by rfl))))))
            (sk_one (sk_app 3 (pk_ix hu1 (pk_v 5) pk_int)))
            sk_nil))))))))))
    (sk_one (sk_retO 3))))
theorem F__law_told (p : Pt) (T : Txt K mg p) (D : Defs K mg) : FnD P w K mg base p "_law_told" 2 [.bor, .bor, .bor] .rep f__law_told_k11 := by
  obtain ⟨fa, fd, hm, F⟩ := D.d__law_told.ex
  exact .of hm F.kp (F.binds (ps := ["_law_given", "_law_filled_here", "_law_words"]) fun _ _ _ _ _ _ us hl => match us, hl with | [_, _, _], _ => rfl) (O__law_told p T D F)
theorem sc_law : FnScope N_law ["_law_script"] (defScope s_law) := ⟨rfl, rfl, rfl, by decide +kernel, rfl, by decide +kernel, by decide +kernel⟩
theorem O_law (p : Pt) (T : Txt K mg p) (D : Defs K mg) {fa : Addr} {fd : FuncData} (F : Fun K "law" "law" s_law fa fd) : FnOk P w K mg base (L2.CX P w) 9 fa fd ["_law_script"] (spD K p [.scr] .rep f_law_k11) := by
  refine okD (k := 8) F sc_law (M1 := [.scr, .any, .any, .any, .any, .any, .any, .any, .any, .any, .any, .any, .any, .any]) fun cdv A outer s H E hr => ?_
  have nd := sc_law.nd
  have hun := hr.un
  have hu1 := hu_of hr
  have hu10 : (A.deeper (envOfC "law" (defScope s_law) s.heap.objs.size fa cdv)).units + 10 < cLine := by omega
  have hu64 : (A.deeper (envOfC "law" (defScope s_law) s.heap.objs.size fa cdv)).units + 64 < cLine := by omega
  have hu65 : (A.deeper (envOfC "law" (defScope s_law) s.heap.objs.size fa cdv)).units + 65 < cLine := by omega
  have hp : PassesOwn (model P w) (A.deeper (envOfC "law" (defScope s_law) s.heap.objs.size fa cdv)) (envOfC "law" (defScope s_law) s.heap.objs.size fa cdv) (cxOf (L2.CX P w) P w K mg base N_law "law" (defScope s_law) fa cdv A outer s H E).xe := passes_of rfl
  obtain ⟨t_FIGURES, g_FIGURES⟩ := T.g_FIGURES
  obtain ⟨t_LETTERS, g_LETTERS⟩ := T.g_LETTERS
  obtain ⟨t_LONGEST, g_LONGEST⟩ := T.g_LONGEST
  obtain ⟨t_MOST_BODY, g_MOST_BODY⟩ := T.g_MOST_BODY
  obtain ⟨t_MOST_FILLED, g_MOST_FILLED⟩ := T.g_MOST_FILLED
  obtain ⟨t_MOST_GIVEN, g_MOST_GIVEN⟩ := T.g_MOST_GIVEN
  obtain ⟨t_MOST_PARTS, g_MOST_PARTS⟩ := T.g_MOST_PARTS
  obtain ⟨t_MOST_RULES, g_MOST_RULES⟩ := T.g_MOST_RULES
  obtain ⟨t_MOST_SLOTS, g_MOST_SLOTS⟩ := T.g_MOST_SLOTS
  obtain ⟨t_MOST_THINGS, g_MOST_THINGS⟩ := T.g_MOST_THINGS
  show PSsk _ p _ _ _ _ (defBody s_law) g_law_k11
  exact
    (sk_cons (sk_set 1 (pk_cast (k' := .rep) (pk_lc 12 rfl nd rfl (blkOk_by (N := N_law) (sc := defScope s_law) (own := [("_law_k", 12)]) (by decide +kernel)) (pi_rng1 pk_int T.b_range) (fun _ _ _ _ _ => pg_name (i := 12) nd rfl (by first | exact Or.inl rfl | exact Or.inr rfl)) (fun _ _ _ _ _ => pts_n) (fun _ _ _ _ _ => (pk_call (ms := [.val, .bor]) (F__law_word_by p T D) (hr.mono (by decide)) takes0 (pk_ac (pk_call (ms := [.scr, .val]) (F__law_cell_at p T D) (hr.mono (by decide)) takes0 (pk_ac (pk_cast (k' := .rd) (pk_s 0)) (pk_ac pk_int pk_an))) (pk_ac (pk_cast (k' := .top) (pk_v 12)) pk_an)))))) nd)
    (sk_cons (sk_set 2 (pk_cast (k' := .rep) (pk_lc 12 rfl nd rfl (blkOk_by (N := N_law) (sc := defScope s_law) (own := [("_law_k", 12)]) (by decide +kernel)) (pi_rng1 (pk_bin op_addU o2_add nx_add (pk_cast (k' := .top) pk_int) (pk_cast (k' := .top) (pk_bin op_modN o2_mod nx_int2 (pk_call (ms := [.scr, .val]) (F__law_cell_at p T D) (hr.mono (by decide)) (takes_of rfl rfl rfl rfl) (pk_ac (pk_cast (k' := .rd) (pk_s 0)) (pk_ac pk_int pk_an))) pk_int))) T.b_range) (fun _ _ _ _ _ => pg_name (i := 12) nd rfl (by first | exact Or.inl rfl | exact Or.inr rfl)) (fun _ _ _ _ _ => pts_n) (fun _ _ _ _ _ => (pk_call (ms := [.val, .bor]) (F__law_thing_by p T D) (hr.mono (by decide)) takes0 (pk_ac (pk_bin op_fdivN o2_div nx_int2 (pk_call (ms := [.scr, .val]) (F__law_cell_at p T D) (hr.mono (by decide)) takes0 (pk_ac (pk_cast (k' := .rd) (pk_s 0)) (pk_ac pk_int pk_an))) pk_int) (pk_ac (pk_cast (k' := .top) (pk_v 12)) pk_an)))))) nd)
    (sk_cons (sk_set 3 (pk_cast (k' := .rep) (pk_lc 12 rfl nd rfl (blkOk_by (N := N_law) (sc := defScope s_law) (own := [("_law_k", 12)]) (by decide +kernel)) (pi_rng1 pk_int T.b_range) (fun _ _ _ _ _ => pg_name (i := 12) nd rfl (by first | exact Or.inl rfl | exact Or.inr rfl)) (fun _ _ _ _ _ => pts_n) (fun _ _ _ _ _ => (pk_bin op_addU o2_add nx_add (pk_cast (k' := .top) pk_str) (pk_cast (k' := .top) (pk_call (ms := [.val, .bor]) (F__law_word_by p T D) (hr.mono (by decide)) takes0 (pk_ac (pk_call (ms := [.scr, .val]) (F__law_cell_at p T D) (hr.mono (by decide)) takes0 (pk_ac (pk_cast (k' := .rd) (pk_s 0)) (pk_ac pk_int pk_an))) (pk_ac (pk_cast (k' := .top) (pk_v 12)) pk_an)))))))) nd)
    (sk_cons (sk_set 4 (pk_bin op_modN o2_mod nx_int2 (pk_call (ms := [.scr, .val]) (F__law_cell_at p T D) (hr.mono (by decide)) (takes_of rfl rfl rfl rfl) (pk_ac (pk_cast (k' := .rd) (pk_s 0)) (pk_ac pk_int pk_an))) pk_int) nd)
    (sk_cons (sk_lc 5 13 rfl nd rfl (blkOk_by (N := N_law) (sc := defScope s_law) (own := [("_law_cell", 13)]) (by decide +kernel)) (pi_e (pk_sl sl_U os_cut nx_cut (pk_s 0) (po_s pk_int) (po_s (pk_bin op_addU o2_add nx_add (pk_cast (k' := .top) pk_int) (pk_cast (k' := .top) (pk_v 4)))))) (fun _ _ _ _ _ => pg_name (i := 13) nd rfl (by first | exact Or.inl rfl | exact Or.inr rfl)) (fun _ _ _ _ _ => pts_n) (fun _ _ _ _ _ => (pk_call (ms := [.val, .val, .bor, .bor]) (F__law_atom_of p T D) (hr.mono (by decide)) takes0 (pk_ac (pk_bin op_fdivN o2_div nx_int2 (pk_bin op_modN o2_mod nx_int2 (pk_bin op_mulU o2_mul nx_mul (pk_cast (k' := .top) (pk_v 13)) (pk_cast (k' := .top) pk_int)) pk_int) pk_int) (pk_ac (pk_bin op_modN o2_mod nx_int2 (pk_v 13) pk_int) (pk_ac (pk_cast (k' := .top) (pk_v 1)) (pk_ac (pk_cast (k' := .top) (pk_v 2)) pk_an)))))) (sw_true rfl rfl rfl (by decide +kernel)))
    (sk_cons (sk_lc 6 13 rfl nd rfl (blkOk_by (N := N_law) (sc := defScope s_law) (own := [("_law_cell", 13)]) (by decide +kernel)) (pi_e (pk_sl sl_U os_cut nx_cut (pk_s 0) (po_s (pk_bin op_addU o2_add nx_add (pk_cast (k' := .top) pk_int) (pk_cast (k' := .top) (pk_v 4)))) (po_s (pk_bin op_addU o2_add nx_add (pk_cast (k' := .top) pk_int) (pk_cast (k' := .top) (pk_v 4)))))) (fun _ _ _ _ _ => pg_name (i := 13) nd rfl (by first | exact Or.inl rfl | exact Or.inr rfl)) (fun _ _ _ _ _ => pts_n) (fun _ _ _ _ _ => (pk_call (ms := [.val, .bor, .bor, .bor]) (F__law_layered_rule p T D) (hr.mono (by decide)) takes0 (pk_ac (pk_v 13) (pk_ac (pk_cast (k' := .top) (pk_v 1)) (pk_ac (pk_cast (k' := .top) (pk_v 2)) (pk_ac (pk_cast (k' := .top) (pk_v 3)) pk_an)))))) (sw_true rfl rfl rfl (by decide +kernel)))
    (sk_cons (sk_set 7 (pk_call (ms := [.bor, .bor]) (F_decided p T D) (hr.mono (by decide)) (takes_of rfl rfl rfl rfl) (pk_ac (pk_cast (k' := .top) (pk_callT (call_listU rfl) on_list nx_list (pk_ac (pk_cast (k' := .rd) (pk_v 5)) pk_an) T.b_list)) (pk_ac (pk_cast (k' := .top) (pk_callT (call_listU rfl) on_list nx_list (pk_ac (pk_cast (k' := .rd) (pk_v 6)) pk_an) T.b_list)) pk_an))) nd)
    (sk_cons (sk_if (pt_w (pw_o (pt_n (pt_e (pk_isi (T := "list") (pk_fld 2 T.vd.vd.cls T.vd.vd.n2 (pk_v 7) rfl rfl) T.b_isinstance T.b_list))) (pw_o1 (pt_cmpk (op_neD hu64) (o2_ne hu64) nx_ne (pk_cast (k' := .rd) (pk_fld 2 T.vd.vd.cls T.vd.vd.n2 (pk_v 7) rfl rfl)) (pk_cast (k' := .rd) (pk_lst pk_an)) (nomark _)))))
      (sk_one (sk_ret pk_bl))
      sk_nil)
    (sk_cons (sk_set 8 (pk_call (ms := [.bor, .bor]) (F__law_filled p T D) (hr.mono (by decide)) (takes_of rfl rfl rfl rfl) (pk_ac (pk_cast (k' := .top) (pk_v 5)) (pk_ac (pk_cast (k' := .top) (pk_v 6)) pk_an))) nd)
    (sk_cons (sk_set 9 (pk_call (ms := [.bor, .bor, .bor]) (F__law_told p T D) (hr.mono (by decide)) (takes_of rfl rfl rfl rfl) (pk_ac (pk_cast (k' := .top) (pk_v 5)) (pk_ac (pk_cast (k' := .top) (pk_v 8)) (pk_ac (pk_cast (k' := .top) (pk_v 1)) pk_an)))) nd)
    (sk_cons (sk_for [.any, .any, .any, .any, .any, .val, .any, .val, .any, .val, .any, .any, .any, .any] 10 rfl nd hp (pi_e (pk_v 8))
      (sk_one (sk_for [.any, .any, .any, .any, .any, .val, .any, .val, .any, .val, .any, .any, .any, .any] 11 rfl nd hp (pi_e (pk_bin op_addU o2_add nx_add (pk_cast (k' := .top) (pk_bin op_addU o2_add nx_add (pk_cast (k' := .top) (pk_lst (pk_ac (pk_ix hu1 (pk_v 10) pk_int) pk_an))) (pk_cast (k' := .top) (pk_callT (call_listU rfl) on_list nx_list (pk_ac (pk_cast (k' := .rd) (pk_ix hu1 (pk_v 10) pk_int)) pk_an) T.b_list)))) (pk_cast (k' := .top) (pk_callT (call_listU rfl) on_list nx_list (pk_ac (pk_cast (k' := .rd) (pk_ix hu1 (pk_v 10) pk_int)) pk_an) T.b_list))))
        (sk_one (sk_if (pt_cmpk (op_neD hu64) (o2_ne hu64) nx_ne (pk_cast (k' := .rd) (pk_mt (ms := [.val]) (K_said p T D) T.vd.vd.cls (hr.mono (by decide)) (pk_v 7) (pk_ac (pk_v 11) pk_an))) (pk_cast (k' := .rd) (pk_ix hu1 (pk_cast (k' := .rep) (pk_lst (pk_ac pk_str (pk_ac pk_str pk_an)))) (pk_callT call_int1 on_int nx_int (pk_ac (pk_cmp (op_inU hu65) o2_in nx_in (pk_cast (k' := .rd) (pk_v 11)) (pk_cast (k' := .top) (pk_v 9)) (by rfl)) pk_an) T.b_int))) (nomark _))
          (sk_one (sk_ret pk_bl))
          sk_nil)))))
    (sk_one (sk_ret (pk_cmp (op_eqD hu64) (o2_eq hu64) nx_eq (pk_cast (k' := .rd) (pk_lc 11 rfl nd rfl (blkOk_by (N := N_law) (sc := defScope s_law) (own := [("_law_fact", 11)]) (by decide +kernel)) (pi_e (pk_v 5)) (fun _ _ _ _ _ => pg_name (i := 11) nd rfl (by first | exact Or.inl rfl | exact Or.inr rfl)) (fun _ _ _ _ _ => (pts_o (pt_cmpk (op_neD hu64) (o2_ne hu64) nx_ne (pk_cast (k' := .rd) (pk_mt (ms := [.val]) (K_said p T D) T.vd.vd.cls (hr.mono (by decide)) (pk_v 7) (pk_ac (pk_v 11) pk_an))) (pk_cast (k' := .rd) pk_str) (nomark _)))) (fun _ _ _ _ _ => (pk_v 11)))) (pk_cast (k' := .rd) (pk_lst pk_an)) (nomark _)))))))))))))))
theorem F_law (p : Pt) (T : Txt K mg p) (D : Defs K mg) : FnD P w K mg base p "law" 9 [.scr] .rep f_law_k11 := by
  obtain ⟨fa, fd, hm, F⟩ := D.d_law.ex
  exact .of hm F.kp (F.binds (ps := ["_law_script"]) fun _ _ _ _ _ _ us hl => match us, hl with | [_], _ => rfl) (O_law p T D F)
/-- the law at every script, from the plain law -/
theorem law_all {l : PySem.W.OpenLaw} {fa : Addr} (hl : l.prog = P) (p : Pt) (T : Txt K mg p) (D : Defs K mg) (hfa : mg "law" = some (.ref fa)) (hlaw : ∀ ns : List Int, ns.length ≤ 63 → f_law_k11 [encI ns] = .ok (.bl true)) :
    ∃ fd : FuncData, (∀ (s : Shared) (u : Value), BindsTo s fd ⟨[u], []⟩ [("_law_script", u)]) ∧ ∀ base : Heap, K.In base → base.Ns mainGlobals mg → FnOk l.prog w K mg base (L2.CX l.prog w) 9 fa fd ["_law_script"] (spLaw K) := by
  obtain ⟨fa', fd, hm, F⟩ := D.d_law.ex
  rw [hfa] at hm
  cases hm
  obtain ⟨oc, od, kV, doc, pm, an, cdv, ct, osl, e, lk, hcd⟩ := id F.ex
  refine ⟨fd, fun s u => ?_, fun base _ _ => law_fin (O_law p T D F) hlaw⟩
  subst e
  exact .of_eq rfl
end

set_option maxHeartbeats 200000
end L2.Nf.k11

namespace L2.Nf
open PySem PySem.Spec PyProof.Rows

/-! ## plain laws: a calculus of wishes -/
theorem post_ok {α : Type} {a : α} {k : α → Prop} {x : Str → Prop} : (Ro.ok a).post k x = k a := rfl
theorem post_bad {α : Type} {k : α → Prop} {x : Str → Prop} : (Ro.bad : Ro α).post k x = False := rfl
theorem post_xc {α : Type} {c : Str} {k : α → Prop} {x : Str → Prop} : (Ro.xc c : Ro α).post k x = x c := rfl
theorem post_bind {α β : Type} {r : Ro α} {f : α → Ro β} {k : β → Prop} {x : Str → Prop} : (r.bind f).post k x = r.post (fun a => (f a).post k x) x := by
  cases r <;> rfl
theorem post_iteD {α : Type} {c : Prop} [Decidable c] {a b : Ro α} {k : α → Prop} {x : Str → Prop} : (if c then a else b).post k x = if c then a.post k x else b.post k x := by
  split <;> rfl
theorem post_mono {α : Type} {r : Ro α} {k k' : α → Prop} {x : Str → Prop} (h : r.post k x) (hk : ∀ a, k a → k' a) : r.post k' x := by
  cases r with
  | ok a => exact hk a h
  | xc c => exact h
  | bad => exact h
/-- an answer without exceptions -/
abbrev Is {α : Type} (r : Ro α) (k : α → Prop) : Prop := r.post k (fun _ => False)
theorem is_ok {α : Type} {r : Ro α} {a : α} (h : Is r fun d => d = a) : r = .ok a := by
  cases r with
  | ok b => exact congrArg Ro.ok h
  | xc c => exact h.elim
  | bad => exact h.elim
theorem is_ex {α : Type} {r : Ro α} {P : α → Prop} (h : Is r P) : ∃ a, r = .ok a ∧ P a := by
  cases r with
  | ok b => exact ⟨b, rfl, h⟩
  | xc c => exact h.elim
  | bad => exact h.elim
abbrev Wp (o : Out) (N : Gm → Prop) (R : D → Prop) : Prop := o.post N R (fun _ => False)
theorem wp_seq {f g : SDen} {Γ : Gm} {N : Gm → Prop} {R : D → Prop} {X : Str → Prop} : (sSeq f g Γ).post N R X = (f Γ).post (fun Γ' => (g Γ').post N R X) R X := by
  unfold sSeq; cases f Γ <;> rfl
theorem wp_go {α : Type} {r : Ro α} {k : α → Out} {N : Gm → Prop} {R : D → Prop} {X : Str → Prop} : (r.go k).post N R X = r.post (fun a => (k a).post N R X) X := by
  cases r <;> rfl
theorem wp_ite {c : Prop} [Decidable c] {a b : Out} {N : Gm → Prop} {R : D → Prop} {X : Str → Prop} : (if c then a else b).post N R X = if c then a.post N R X else b.post N R X := by
  split <;> rfl
theorem wp_nx {Γ : Gm} {N : Gm → Prop} {R : D → Prop} {X : Str → Prop} : (Out.nx Γ).post N R X = N Γ := rfl
theorem wp_rt {d : D} {N : Gm → Prop} {R : D → Prop} {X : Str → Prop} : (Out.rt d).post N R X = R d := rfl
theorem wp_xc {c : Str} {N : Gm → Prop} {R : D → Prop} {X : Str → Prop} : (Out.xc c).post N R X = X c := rfl
theorem wp_bad {N : Gm → Prop} {R : D → Prop} {X : Str → Prop} : (Out.bad).post N R X = False := rfl
theorem wp_mono {o : Out} {N N' : Gm → Prop} {R R' : D → Prop} {X : Str → Prop} (h : o.post N R X) (hn : ∀ Γ, N Γ → N' Γ) (hr : ∀ d, R d → R' d) : o.post N' R' X := by
  cases o with
  | nx Γ => exact hn _ h
  | rt d => exact hr _ h
  | xc c => exact h
  | bad => exact h
theorem run_of {n : Nat} {rk : Kd} {g : SDen} {ds : List D} {P : D → Prop} (h : Wp (g (Gm0 n ds)) (fun _ => False) P) : Is (runD n rk g ds) P := by
  unfold runD
  revert h
  cases g (Gm0 n ds) with
  | nx Γ => intro h; exact h.elim
  | rt d => intro h; exact h
  | xc c => intro h; exact h.elim
  | bad => intro h; exact h.elim
/-- a loop, by what holds of what is still to come -/
theorem for_wp {L : List Md} {i : Nat} {b : SDen} (I : List D → Gm → Prop) {R : D → Prop} {N : Gm → Prop} : ∀ {ds : List D} {Γ : Gm}, I ds Γ →
    (∀ d ds Γ, I (d :: ds) Γ → Wp (b (Γ.set i (some d))) (fun Γ' => I ds (clr L Γ')) R) → (∀ Γ, I [] Γ → N Γ) → Wp (forD L i b ds Γ) N R
  | [], Γ, h, _, hn => hn Γ h
  | d :: ds, Γ, h, hs, hn => by
    have h1 := hs d ds Γ h
    unfold forD
    revert h1
    cases b (Γ.set i (some d)) with
    | nx Γ' => intro h1; exact for_wp I h1 hs hn
    | rt d => intro h1; exact h1
    | xc c => intro h1; exact h1.elim
    | bad => intro h1; exact h1.elim
/-- a while loop, by a measure -/
theorem while_wp {L : List Md} {c : TDen} {b : SDen} (m : Gm → Nat) (I : Gm → Prop) {R : D → Prop} {N : Gm → Prop}
    (hs : ∀ Γ, I Γ → Is (c Γ) fun x => if x = true then Wp (b Γ) (fun Γ' => I (clr L Γ') ∧ m (clr L Γ') < m Γ) R else N Γ) : ∀ {Γ : Gm}, I Γ → Wp (whileD L c b Γ) N R := by
  have go : ∀ n Γ, m Γ < n → I Γ → Wp (whileD L c b Γ) N R := by
    intro n
    induction n with
    | zero => intro Γ h; exact absurd h (Nat.not_lt_zero _)
    | succ n ih =>
      intro Γ h hi
      obtain ⟨x, hx, h1⟩ := is_ex (hs Γ hi)
      rw [whileD_eq, hx, Ro.go_ok]
      cases x with
      | false => exact h1
      | true =>
        simp only [if_true] at h1 ⊢
        revert h1
        cases b Γ with
        | nx Γ' => intro h1; exact ih _ (by have := h1.2; omega) h1.1
        | rt d => intro h1; exact h1
        | xc c => intro h1; exact h1.elim
        | bad => intro h1; exact h1.elim
  exact fun {Γ} hi => go _ Γ (Nat.lt_succ_self _) hi
/-- a list of all items, each made into one -/
theorem comp_map {i : Nat} {e : EDen} {Γ : Gm} {f : D → D} : ∀ {ds : List D}, (∀ d ∈ ds, e (Γ.set i (some d)) = .ok (f d)) → compD i tYes' e Γ ds = .ok (ds.map f)
  | [], _ => rfl
  | d :: ds, h => by
    unfold compD
    show (e (Γ.set i (some d))).bind (fun x => (compD i tYes' e Γ ds).bind fun r => .ok (x :: r)) = _
    rw [h d (by simp), comp_map fun x hx => h x (by simp [hx])]
    rfl
/-- a list of all items for which a test holds -/
theorem comp_filter {i : Nat} {t : TDen} {e : EDen} {Γ : Gm} {g : D → Bool} {f : D → D} : ∀ {ds : List D}, (∀ d ∈ ds, t (Γ.set i (some d)) = .ok (g d)) → (∀ d ∈ ds, g d = true → e (Γ.set i (some d)) = .ok (f d)) → compD i t e Γ ds = .ok ((ds.filter g).map f)
  | [], _, _ => rfl
  | d :: ds, ht, he => by
    unfold compD
    rw [ht d (by simp), Ro.bind_ok]
    have ih := comp_filter (ds := ds) (fun x hx => ht x (by simp [hx])) (fun x hx => he x (by simp [hx]))
    by_cases hg : g d = true
    · rw [if_pos hg, he d (by simp) hg, ih, List.filter_cons_of_pos hg]; rfl
    · rw [if_neg hg, ih, List.filter_cons_of_neg hg]
inductive All2 {α β : Type} (P : α → β → Prop) : List α → List β → Prop where
  | nil : All2 P [] []
  | cons {x : α} {y : β} {xs : List α} {ys : List β} (h : P x y) (t : All2 P xs ys) : All2 P (x :: xs) (y :: ys)
theorem All2.len {α β : Type} {P : α → β → Prop} {xs : List α} {ys : List β} (h : All2 P xs ys) : xs.length = ys.length := by
  induction h with
  | nil => rfl
  | cons _ _ ih => simp [ih]
theorem All2.right {α β : Type} {P : α → β → Prop} {Q : β → Prop} {xs : List α} {ys : List β} (h : All2 P xs ys) (hq : ∀ x y, P x y → Q y) : ∀ y ∈ ys, Q y := by
  induction h with
  | nil => intro y hy; simp at hy
  | cons h1 _ ih =>
    intro y hy
    rcases List.mem_cons.mp hy with rfl | hy
    · exact hq _ _ h1
    · exact ih y hy
/-- each item is made into one of which P holds -/
theorem comp_all {i : Nat} {e : EDen} {Γ : Gm} {P : D → D → Prop} : ∀ {ds : List D}, (∀ d ∈ ds, Is (e (Γ.set i (some d))) (P d)) → Is (compD i tYes' e Γ ds) fun rs => All2 P ds rs
  | [], _ => .nil
  | d :: ds, h => by
    unfold compD
    show Is ((e (Γ.set i (some d))).bind (fun x => (compD i tYes' e Γ ds).bind fun r => .ok (x :: r))) _
    obtain ⟨x, hx, px⟩ := is_ex (h d (by simp))
    obtain ⟨r, hr, pr⟩ := is_ex (comp_all (ds := ds) fun x hx => h x (by simp [hx]))
    rw [hx, hr]
    exact .cons px pr
theorem noX_ok {α : Type} (a : α) : noX (.ok a) = .ok a := rfl

/-! ### sameness -/
/-- data without truth values, dicts, objects -/
def D.pl : Nat → D → Bool
  | _, .non => true
  | _, .int _ => true
  | _, .str _ => true
  | n + 1, .lst xs => xs.all (D.pl n)
  | n + 1, .tup xs => xs.all (D.pl n)
  | _, _ => false
theorem pl_sh : ∀ {n : Nat} {d : D}, d.pl n = true → d.sh n = true
  | 0, d, h => by cases d <;> simp [D.pl, D.sh] at h ⊢
  | n + 1, d, h => by
    cases d <;> simp [D.pl, D.sh] at h ⊢
    · exact fun x hx => pl_sh (h x hx)
    · exact fun x hx => pl_sh (h x hx)
theorem pl_up : ∀ {n : Nat} {d : D}, d.pl n = true → d.pl (n + 1) = true
  | 0, d, h => by cases d <;> simp [D.pl] at h ⊢
  | n + 1, d, h => by
    cases d <;> simp [D.pl] at h ⊢
    · exact fun x hx => by have := pl_up (h x hx); simpa [D.pl] using this
    · exact fun x hx => by have := pl_up (h x hx); simpa [D.pl] using this
theorem pl_le {n m : Nat} {d : D} (hm : n ≤ m) (h : d.pl n = true) : d.pl m = true := by
  induction hm with
  | refl => exact h
  | step _ ih => exact pl_up ih
theorem eqvAll_pl {n : Nat} (ih : ∀ {d e : D}, d.pl n = true → e.pl n = true → (PyData.eqv (d.py n) (e.py n) = true ↔ d = e)) : ∀ {xs ys : List D}, (∀ d ∈ xs, d.pl n = true) → (∀ d ∈ ys, d.pl n = true) → (PyData.eqvAll (xs.map (D.py n)) (ys.map (D.py n)) = true ↔ xs = ys)
  | [], [], _, _ => by simp [PyData.eqvAll]
  | [], _ :: _, _, _ => by simp [PyData.eqvAll]
  | _ :: _, [], _, _ => by simp [PyData.eqvAll]
  | x :: xs, y :: ys, h, h' => by
    rw [List.map_cons, List.map_cons, PyData.eqvAll, Bool.and_eq_true, ih (h x (by simp)) (h' y (by simp)), eqvAll_pl ih (fun d hd => h d (by simp [hd])) (fun d hd => h' d (by simp [hd])), List.cons.injEq]
theorem eqv_pl : ∀ (n : Nat) {d e : D}, d.pl n = true → e.pl n = true → (PyData.eqv (d.py n) (e.py n) = true ↔ d = e)
  | 0, d, e, h, h' => by
    cases d <;> simp [D.pl] at h <;> cases e <;> simp [D.pl] at h' <;> simp [D.py, PyData.eqv]
  | n + 1, d, e, h, h' => by
    cases d <;> simp only [D.pl, List.all_eq_true, Bool.false_eq_true] at h <;> cases e <;> simp only [D.pl, List.all_eq_true, Bool.false_eq_true] at h' <;> simp [D.py, PyData.eqv]
    · exact eqvAll_pl (eqv_pl n) h h'
    · exact eqvAll_pl (eqv_pl n) h h'
noncomputable instance : DecidableEq D := fun a b => Classical.propDecidable _
theorem eq_pl {d e : D} (h : d.pl 8 = true) (h' : e.pl 8 = true) : d.eq e = decide (d = e) := by
  rw [Bool.eq_iff_iff, decide_eq_true_eq]
  exact eqv_pl 8 h h'
theorem oEq_pl {d e : D} (h : d.pl 8 = true) (h' : e.pl 8 = true) : oEq d e = .ok (.bl (decide (d = e))) := by
  unfold oEq
  rw [pl_sh h, pl_sh h', eq_pl h h']; rfl
theorem oNe_pl {d e : D} (h : d.pl 8 = true) (h' : e.pl 8 = true) : oNe d e = .ok (.bl (!decide (d = e))) := by
  unfold oNe
  rw [pl_sh h, pl_sh h', eq_pl h h']; rfl
theorem oHas_pl {x : D} {ys : List D} (h : x.pl 8 = true) (h' : ∀ y ∈ ys, y.pl 8 = true) : oHas x (.lst ys) = .ok (decide (x ∈ ys)) := by
  have e : oHas x (.lst ys) = if (x.sh 8 && (D.lst ys).sh 9) = true then .ok (ys.any fun y => y.eq x) else .bad := by cases x <;> rfl
  have e2 : (D.lst ys).sh 9 = true := by
    simp only [D.sh, List.all_eq_true]
    exact fun y hy => pl_sh (h' y hy)
  rw [e, pl_sh h, e2]
  simp only [Bool.and_self, if_true]
  congr 1
  rw [Bool.eq_iff_iff, List.any_eq_true, decide_eq_true_eq]
  constructor
  · rintro ⟨y, hy, e⟩
    rw [eq_pl (h' y hy) h, decide_eq_true_eq] at e
    exact e ▸ hy
  · intro hx
    exact ⟨x, hx, by rw [eq_pl h h]; simp⟩
theorem oEq_int (i j : Int) : oEq (.int i) (.int j) = .ok (.bl (decide (i = j))) := by
  rw [oEq_pl rfl rfl]; simp
theorem oNe_int (i j : Int) : oNe (.int i) (.int j) = .ok (.bl (!decide (i = j))) := by
  rw [oNe_pl rfl rfl]; simp

/-! ### facts: tuples of texts -/
theorem isTS_ex {d : D} (h : isTS d = true) : ∃ x r, d = .tup (x :: r) ∧ ∀ y ∈ x :: r, isS y = true := by
  unfold isTS at h
  split at h
  · exact ⟨_, _, rfl, by simpa using h⟩
  · exact absurd h (by simp)
theorem isTS_pl {d : D} (h : isTS d = true) : d.pl 1 = true := by
  obtain ⟨x, r, rfl, h2⟩ := isTS_ex h
  simp only [List.all_eq_true, D.pl]
  intro y hy
  have := h2 y hy
  cases y <;> simp [isS] at this <;> rfl
theorem oKey_isS {d : D} (h : isS d = true) : ∃ k, oKey d = some k ∧ dKey k = d := by
  cases d <;> simp [isS] at h
  exact ⟨_, rfl, rfl⟩
theorem keys_all : ∀ {ds : List D}, (∀ d ∈ ds, isS d = true) → ∃ ks, ds.mapM oKey = some ks ∧ ks.map dKey = ds
  | [], _ => ⟨[], rfl, rfl⟩
  | d :: ds, h => by
    obtain ⟨k, hk, e⟩ := oKey_isS (h d (by simp))
    obtain ⟨ks, hks, e2⟩ := keys_all (ds := ds) fun x hx => h x (by simp [hx])
    exact ⟨k :: ks, by rw [List.mapM_cons, hk, hks]; rfl, by simp [e, e2]⟩
/-- a fact's key -/
noncomputable def fk (d : D) : List Key := (oKeys d).getD []
theorem fk_spec {d : D} (h : isTS d = true) : oKeys d = some (fk d) ∧ .tup ((fk d).map dKey) = d := by
  obtain ⟨x, r, rfl, h2⟩ := isTS_ex h
  obtain ⟨ks, hk, e⟩ := keys_all h2
  have : fk (.tup (x :: r)) = ks := by
    show ((x :: r).mapM oKey).getD [] = ks
    rw [hk]; rfl
  rw [this]
  exact ⟨hk, by rw [e]⟩
theorem fk_inj {d e : D} (h : isTS d = true) (h' : isTS e = true) (hk : fk d = fk e) : d = e := by
  rw [← (fk_spec h).2, ← (fk_spec h').2, hk]
/-- a dict of just these facts -/
noncomputable def dOf (fs : List D) : D := .dT (fs.map fun f => (fk f, .bl true))
theorem look_dOf {fs : List D} {f : D} (hf : ∀ g ∈ fs, isTS g = true) (h : isTS f = true) : oLook (dOf fs) f = some (if f ∈ fs then some (.bl true) else none) := by
  show (oKeys f).map (look _) = _
  rw [(fk_spec h).1]
  show some (look _ (fk f)) = _
  congr 1
  unfold look
  by_cases hm : f ∈ fs
  · rw [if_pos hm]
    induction fs with
    | nil => simp at hm
    | cons g gs ih =>
      rw [List.map_cons, List.find?_cons]
      by_cases e : fk g = fk f
      · simp [e]
      · simp only [e, decide_false]
        refine ih (fun x hx => hf x (by simp [hx])) ?_
        rcases List.mem_cons.mp hm with rfl | hm
        · exact absurd rfl e
        · exact hm
  · rw [if_neg hm]
    have : ((fs.map fun f => (fk f, D.bl true)).find? fun e => decide (e.1 = fk f)) = none := by
      rw [List.find?_eq_none]
      intro e he
      obtain ⟨g, hg, rfl⟩ := List.mem_map.mp he
      intro e
      have := fk_inj (hf g hg) h (of_decide_eq_true e)
      exact hm (this ▸ hg)
    rw [this]; rfl
theorem has_dOf {fs : List D} {f : D} (hf : ∀ g ∈ fs, isTS g = true) (h : isTS f = true) : oHas f (dOf fs) = .ok (decide (f ∈ fs)) := by
  have e : oHas f (dOf fs) = match oLook (dOf fs) f with
    | some o => .ok o.isSome
    | none => .bad := by
    unfold dOf
    cases f <;> rfl
  rw [e, look_dOf hf h]
  by_cases hm : f ∈ fs <;> simp [hm]
theorem put_dOf {fs : List D} {f : D} (hf : ∀ g ∈ fs, isTS g = true) (h : isTS f = true) (hl : fs.length < sizeLine) : oPut (dOf fs) f (.bl true) = .ok (dOf (if f ∈ fs then fs else fs ++ [f])) := by
  have e : oPut (dOf fs) f (.bl true) = match oKeys f with
    | some q => if (fs.map fun f => (fk f, D.bl true)).length < sizeLine then .ok (.dT (putD (fs.map fun f => (fk f, D.bl true)) q (.bl true))) else .bad
    | none => .bad := rfl
  rw [e, (fk_spec h).1]
  simp only [List.length_map, hl, if_true]
  congr 1
  unfold putD dOf
  have ha : ((fs.map fun f => (fk f, D.bl true)).any fun e => decide (e.1 = fk f)) = decide (f ∈ fs) := by
    rw [Bool.eq_iff_iff, List.any_map, List.any_eq_true, decide_eq_true_eq]
    constructor
    · rintro ⟨g, hg, e⟩
      have := fk_inj (hf g hg) h (of_decide_eq_true e)
      exact this ▸ hg
    · intro hm
      exact ⟨f, hm, by simp⟩
  rw [ha]
  by_cases hm : f ∈ fs
  · simp only [hm, decide_true, if_true]
    congr 1
    rw [List.map_map]
    refine List.map_congr_left fun g hg => ?_
    show (if fk g = fk f then (fk g, D.bl true) else (fk g, D.bl true)) = _
    split <;> rfl
  · simp only [hm, decide_false, if_false, List.map_append, List.map_cons, List.map_nil]
    rfl
theorem list_dOf {fs : List D} (hf : ∀ g ∈ fs, isTS g = true) : oList [dOf fs] = .ok (.lst fs) := by
  show Ro.ok (D.lst ((fs.map fun f => (fk f, D.bl true)).map fun e => .tup (e.1.map dKey))) = _
  rw [List.map_map]
  congr 2
  conv => rhs; rw [← List.map_id fs]
  exact List.map_congr_left fun g hg => (fk_spec (hf g hg)).2
theorem isDict_dOf (fs : List D) : isDict (dOf fs) = true := rfl
end L2.Nf

namespace L2.Nf
open PySem PySem.Spec PyProof.Rows
section
variable {α : Type} {N : Gm → Prop} {R : D → Prop} {X : Str → Prop} {K : D → Prop} {KB : Bool → Prop} {KL : List D → Prop} {Γ : Gm} {a b c : EDen} {s t u : TDen} {f g : SDen} {ar : ADen} {i : Nat}
@[simp] theorem w_seq : (sSeq f g Γ).post N R X = (f Γ).post (fun Γ' => (g Γ').post N R X) R X := wp_seq
@[simp] theorem w_set : (sSet i a Γ).post N R X = (a Γ).post (fun d => N (Γ.set i (some d))) X := by
  unfold sSet; rw [wp_go]; rfl
@[simp] theorem w_ret : (sRet a Γ).post N R X = (a Γ).post R X := by
  unfold sRet; rw [wp_go]; rfl
@[simp] theorem w_retN : (sRetN Γ).post N R X = R .non := rfl
@[simp] theorem w_nil : (sNil Γ).post N R X = N Γ := rfl
@[simp] theorem w_raise {c : Str} : (sRaise c Γ).post N R X = X c := rfl
@[simp] theorem w_drop : (sDrop a Γ).post N R X = (a Γ).post (fun _ => N Γ) X := by
  unfold sDrop; rw [wp_go]; rfl
@[simp] theorem w_if : (sIf t f g Γ).post N R X = (t Γ).post (fun b => if b = true then (f Γ).post N R X else (g Γ).post N R X) X := by
  unfold sIf; rw [wp_go]
  congr 1; funext b; rw [wp_ite]
@[simp] theorem w_for {L : List Md} {l : LDen} : (sFor L i l f Γ).post N R X = (l Γ).post (fun ds => (forD L i f ds (clr L Γ)).post N R X) X := by
  unfold sFor; rw [wp_go]
@[simp] theorem w_ok {x : α} {k : α → Prop} : (Ro.ok x).post k X = k x := rfl
@[simp] theorem w_bad {k : α → Prop} : (Ro.bad : Ro α).post k X = False := rfl
@[simp] theorem w_xc {c : Str} {k : α → Prop} : (Ro.xc c : Ro α).post k X = X c := rfl
theorem ite_and_f {c : Prop} [Decidable c] {p : Prop} : (if c then p else False) = (c ∧ p) := by
  split <;> simp [*]
theorem w_iteP {c : Prop} [Decidable c] {x : α} {k : α → Prop} : (if c then Ro.ok x else .bad).post k X = (c ∧ k x) := by
  split <;> simp_all
@[simp] theorem w_eC {d : D} : (eC d Γ).post K X = K d := rfl
@[simp] theorem w_eV : (eV i Γ).post K X = (match Γ[i]? with | some (some d) => K d | _ => False) := by
  unfold eV
  split <;> rename_i h <;> simp [h]
@[simp] theorem w_e1 {o : D → Ro D} : (e1 o a Γ).post K X = (a Γ).post (fun x => (o x).post K X) X := by
  unfold e1; rw [post_bind]
@[simp] theorem w_e2 {o : D → D → Ro D} : (e2 o a b Γ).post K X = (a Γ).post (fun x => (b Γ).post (fun y => (o x y).post K X) X) X := by
  unfold e2; simp only [post_bind]
@[simp] theorem w_eN {o : List D → Ro D} : (eN o ar Γ).post K X = (ar Γ).post (fun ds => (o ds).post K X) X := by
  unfold eN; simp only [post_bind]
@[simp] theorem w_aN : (aN Γ).post KL X = KL [] := rfl
@[simp] theorem w_aC : (aC a ar Γ).post KL X = (a Γ).post (fun d => (ar Γ).post (fun ds => KL (d :: ds)) X) X := by
  unfold aC; simp only [post_bind, w_ok]
@[simp] theorem w_tE : (tE a Γ).post KB X = (a Γ).post (fun d => match d with | .bl b => KB b | _ => False) X := by
  unfold tE; rw [post_bind]
  congr 1; funext d; cases d <;> rfl
@[simp] theorem w_tAnd : (tAnd' s t Γ).post KB X = (s Γ).post (fun x => if x = true then (t Γ).post KB X else KB false) X := by
  unfold tAnd'; rw [post_bind]
  congr 1; funext d; rw [post_iteD]; rfl
@[simp] theorem w_tOr : (tOr' s t Γ).post KB X = (s Γ).post (fun x => if x = true then KB true else (t Γ).post KB X) X := by
  unfold tOr'; rw [post_bind]
  congr 1; funext d; rw [post_iteD]; rfl
@[simp] theorem w_tNot : (tNot' s Γ).post KB X = (s Γ).post (fun x => KB (!x)) X := by
  unfold tNot'; rw [post_bind]; rfl
@[simp] theorem w_tYes : (tYes' Γ).post KB X = KB true := rfl
@[simp] theorem w_eNot : (eNot a Γ).post K X = (a Γ).post (fun d => match d with | .bl b => K (.bl !b) | _ => False) X := by
  unfold eNot; rw [post_bind]
  congr 1; funext d; cases d <;> rfl
@[simp] theorem w_eAnd : (eAnd a b Γ).post K X = (a Γ).post (fun d => match d with | .bl true => (b Γ).post K X | .bl false => K (.bl false) | _ => False) X := by
  unfold eAnd; rw [post_bind]
  congr 1; funext d
  cases d <;> try rfl
  rename_i b; cases b <;> rfl
@[simp] theorem w_eOr : (eOr a b Γ).post K X = (a Γ).post (fun d => match d with | .bl true => K (.bl true) | .bl false => (b Γ).post K X | _ => False) X := by
  unfold eOr; rw [post_bind]
  congr 1; funext d
  cases d <;> try rfl
  rename_i b; cases b <;> rfl
@[simp] theorem w_eIf : (eIf t a b Γ).post K X = (t Γ).post (fun x => if x = true then (a Γ).post K X else (b Γ).post K X) X := by
  unfold eIf; rw [post_bind]
  congr 1; funext d; rw [post_iteD]
@[simp] theorem w_lE : (lE a Γ).post KL X = (a Γ).post (fun d => (dItems d).post KL X) X := by
  unfold lE; rw [post_bind]
@[simp] theorem w_lRng1 : (lRng1 a Γ).post KL X = (a Γ).post (fun d => match d with | .int j => -(2 ^ 62) ≤ j ∧ j ≤ 16777216 ∧ KL (rngD 0 j.toNat) | _ => False) X := by
  unfold lRng1; rw [post_bind]
  congr 1; funext d; cases d <;> try rfl
  simp only [w_iteP, and_assoc]
@[simp] theorem w_lRng2 : (lRng2 a b Γ).post KL X = (a Γ).post (fun d => (b Γ).post (fun e => match d, e with | .int i, .int j => 0 ≤ i ∧ i ≤ 16777216 ∧ -(2 ^ 62) ≤ j ∧ j ≤ 16777216 ∧ KL (rngD i (j - i).toNat) | _, _ => False) X) X := by
  unfold lRng2; simp only [post_bind]
  congr 1; funext d; congr 1; funext e; cases d <;> cases e <;> try rfl
  simp only [w_iteP, and_assoc]
@[simp] theorem w_eLc {l : LDen} : (eLc i l t a Γ).post K X = (l Γ).post (fun ds => (noX (compD i t a Γ ds)).post (fun r => K (.lst r)) X) X := by
  unfold eLc; simp only [post_bind, w_ok]
@[simp] theorem w_eChain {o o' : D → D → Ro D} : (eChain o o' a b c Γ).post K X = (a Γ).post (fun x => (b Γ).post (fun y => (o x y).post (fun r => match r with | .bl true => (c Γ).post (fun z => (o' y z).post K X) X | .bl false => K (.bl false) | _ => False) X) X) X := by
  unfold eChain; simp only [post_bind]
  congr 1; funext d; congr 1; funext e; congr 1; funext r
  cases r <;> try rfl
  rename_i b; cases b
  · rfl
  · simp only [post_bind]
@[simp] theorem w_eSl {op : D → Option Int → Option Int → Ro D} {lo hi : Option EDen} : (eSl op a lo hi Γ).post K X = (a Γ).post (fun d => (pInt lo Γ).post (fun l => (pInt hi Γ).post (fun h => (op d l h).post K X) X) X) X := by
  unfold eSl; simp only [post_bind]
@[simp] theorem w_pN {k : Option Int → Prop} : (pInt none Γ).post k X = k none := rfl
@[simp] theorem w_pS {k : Option Int → Prop} : (pInt (some a) Γ).post k X = (a Γ).post (fun d => match d with | .int i => k (some i) | _ => False) X := by
  unfold pInt; simp only [post_bind]
  congr 1; funext d; cases d <;> rfl
@[simp] theorem w_app : (sApp i a Γ).post N R X = (match Γ[i]? with | some (some (.lst xs)) => (a Γ).post (fun d => xs.length < sizeLine ∧ N (Γ.set i (some (.lst (xs ++ [d]))))) X | _ => False) := by
  unfold sApp
  cases Γ[i]? with
  | none => rfl
  | some o =>
    cases o with
    | none => rfl
    | some c =>
      cases c <;> try rfl
      rename_i xs
      show (((a Γ).go fun d => if xs.length < sizeLine then .nx (Γ.set i (some (.lst (xs ++ [d])))) else .bad) : Out).post N R X = (a Γ).post (fun d => xs.length < sizeLine ∧ N (Γ.set i (some (.lst (xs ++ [d]))))) X
      rw [wp_go]
      congr 1; funext d; rw [wp_ite]; simp only [wp_nx, wp_bad, ite_and_f]
@[simp] theorem w_putD : (sPutD i a b Γ).post N R X = (b Γ).post (fun d => match Γ[i]? with | some (some c) => isDict c = true ∧ (a Γ).post (fun n => (oPut c n d).post (fun c' => N (Γ.set i (some c'))) X) X | _ => False) X := by
  unfold sPutD
  rw [wp_go]
  congr 1; funext d
  cases Γ[i]? with
  | none => rfl
  | some o =>
    cases o with
    | none => rfl
    | some c =>
      show (if isDict c = true then ((a Γ).go fun n => (oPut c n d).go fun c' => .nx (Γ.set i (some c'))) else .bad : Out).post N R X = (isDict c = true ∧ (a Γ).post (fun n => (oPut c n d).post (fun c' => N (Γ.set i (some c'))) X) X)
      rw [wp_ite, wp_go]
      simp only [wp_go, wp_nx, wp_bad, ite_and_f]
@[simp] theorem w_tupN {ds : List D} : (oTup ds).post K X = K (.tup ds) := rfl
@[simp] theorem w_lstN {ds : List D} : (oLst ds).post K X = K (.lst ds) := rfl
@[simp] theorem w_sub {i j : Int} : (oSub (.int i) (.int j)).post K X = K (.int (i - j)) := rfl
@[simp] theorem w_addI {i j : Int} : (oAdd (.int i) (.int j)).post K X = K (.int (i + j)) := rfl
@[simp] theorem w_addS {x y : Str} : (oAdd (.str x) (.str y)).post K X = (x.length + y.length ≤ sizeLine ∧ K (.str (x ++ y))) := by
  unfold oAdd; simp only [w_iteP]
@[simp] theorem w_addL {x y : List D} : (oAdd (.lst x) (.lst y)).post K X = (x.length + y.length ≤ sizeLine ∧ K (.lst (x ++ y))) := by
  unfold oAdd; simp only [w_iteP]
@[simp] theorem w_addT {x y : List D} : (oAdd (.tup x) (.tup y)).post K X = (x.length + y.length ≤ sizeLine ∧ K (.tup (x ++ y))) := by
  unfold oAdd; simp only [w_iteP]
@[simp] theorem w_mul {i j : Int} : (oMul (.int i) (.int j)).post K X = (((-(2 ^ 64) < i ∧ i < 2 ^ 64) ∨ (-(2 ^ 64) < j ∧ j < 2 ^ 64)) ∧ K (.int (i * j))) := by
  unfold oMul; simp only [w_iteP, Bool.or_eq_true, decide_eq_true_eq]
@[simp] theorem w_div {i j : Int} : (oDiv (.int i) (.int j)).post K X = ((j ≠ 0 ∧ j.natAbs < 1073741824) ∧ K (.int (i.fdiv j))) := by
  unfold oDiv oInt2; simp only [w_iteP, decide_eq_true_eq]
@[simp] theorem w_mod {i j : Int} : (oMod (.int i) (.int j)).post K X = (j ≠ 0 ∧ K (.int (i.fmod j))) := by
  unfold oMod oInt2; simp only [w_iteP, decide_eq_true_eq]
@[simp] theorem w_lt {i j : Int} : (oLt (.int i) (.int j)).post K X = K (.bl (decide (i < j))) := rfl
@[simp] theorem w_le {i j : Int} : (oLe (.int i) (.int j)).post K X = K (.bl (decide (i ≤ j))) := rfl
@[simp] theorem w_gt {i j : Int} : (oGt (.int i) (.int j)).post K X = K (.bl (decide (j < i))) := rfl
@[simp] theorem w_ge {i j : Int} : (oGe (.int i) (.int j)).post K X = K (.bl (decide (j ≤ i))) := rfl
@[simp] theorem w_eqI {i j : Int} : (oEq (.int i) (.int j)).post K X = K (.bl (decide (i = j))) := by rw [oEq_int]; rfl
@[simp] theorem w_neI {i j : Int} : (oNe (.int i) (.int j)).post K X = K (.bl (!decide (i = j))) := by rw [oNe_int]; rfl
@[simp] theorem w_in {x y : D} : (oIn x y).post K X = (oHas x y).post (fun b => K (.bl b)) X := by
  unfold oIn; rw [post_bind]; rfl
@[simp] theorem w_notIn {x y : D} : (oNotIn x y).post K X = (oHas x y).post (fun b => K (.bl !b)) X := by
  unfold oNotIn; rw [post_bind]; rfl
@[simp] theorem w_ixL {xs : List D} {i : Int} : (oIx (.lst xs) (.int i)).post K X = (match atI xs i with | some d => K d | none => False) := by
  unfold oIx oIxS; simp only [isDict, Bool.false_eq_true, if_false]; cases atI xs i <;> rfl
@[simp] theorem w_ixT {xs : List D} {i : Int} : (oIx (.tup xs) (.int i)).post K X = (match atI xs i with | some d => K d | none => False) := by
  unfold oIx oIxS; simp only [isDict, Bool.false_eq_true, if_false]; cases atI xs i <;> rfl
@[simp] theorem w_lenL {xs : List D} : (oLen [.lst xs]).post K X = K (.int xs.length) := rfl
@[simp] theorem w_lenT {xs : List D} : (oLen [.tup xs]).post K X = K (.int xs.length) := rfl
@[simp] theorem w_lenS {x : Str} : (oLen [.str x]).post K X = K (.int x.length) := rfl
@[simp] theorem w_listL {xs : List D} : (oList [.lst xs]).post K X = K (.lst xs) := rfl
@[simp] theorem w_listT {xs : List D} : (oList [.tup xs]).post K X = K (.lst xs) := rfl
@[simp] theorem w_tupleL {xs : List D} : (oTuple [.lst xs]).post K X = K (.tup xs) := rfl
@[simp] theorem w_tupleT {xs : List D} : (oTuple [.tup xs]).post K X = K (.tup xs) := rfl
@[simp] theorem w_min {i j : Int} : (oMin [.int i, .int j]).post K X = K (.int (if j < i then j else i)) := rfl
@[simp] theorem w_max {i j : Int} : (oMax [.int i, .int j]).post K X = K (.int (if j > i then j else i)) := rfl
@[simp] theorem w_itL {xs : List D} : (dItems (.lst xs)).post KL X = KL xs := rfl
@[simp] theorem w_itT {xs : List D} : (dItems (.tup xs)).post KL X = KL xs := rfl
@[simp] theorem w_cutL {xs : List D} {l h : Option Int} : (oCut (.lst xs) l h).post K X = K (.lst (cut xs l h)) := rfl
@[simp] theorem w_cutT {xs : List D} {l h : Option Int} : (oCut (.tup xs) l h).post K X = K (.tup (cut xs l h)) := rfl
@[simp] theorem w_cutS {x : Str} {l h : Option Int} : (oCut (.str x) l h).post K X = K (.str (cutS x l h)) := rfl
@[simp] theorem w_isiL {d : D} {T : String} : (oIsi T d).post K X = (match kitB (dTy d) T with | some b => K (.bl b) | none => False) := by
  unfold oIsi; split <;> simp_all
@[simp] theorem clr_cons {m : Md} {ms : List Md} {o : Option D} {gs : Gm} : clr (m :: ms) (o :: gs) = (if m = .any then none else o) :: clr ms gs := rfl
@[simp] theorem clr_nil {gs : Gm} : clr [] gs = [] := by cases gs <;> rfl
@[simp] theorem gm0 {n : Nat} {ds : List D} : Gm0 n ds = ds.map some ++ List.replicate (n - ds.length) none := rfl
@[simp] theorem noX_is {r : Ro (List D)} {k : List D → Prop} : (noX r).post k X = Is r k := by cases r <;> rfl
end
theorem in_dOf {fs : List D} {f : D} {X : Str → Prop} {k : Bool → Prop} (hf : ∀ g ∈ fs, isTS g = true) (h : isTS f = true) : (oHas f (dOf fs)).post k X = k (decide (f ∈ fs)) := by rw [has_dOf hf h]; rfl
theorem in_pl {ys : List D} {x : D} {X : Str → Prop} {k : Bool → Prop} (h : x.pl 8 = true) (h' : ∀ y ∈ ys, y.pl 8 = true) : (oHas x (.lst ys)).post k X = k (decide (x ∈ ys)) := by rw [oHas_pl h h']; rfl
theorem in_ts {ys : List D} {x : D} {X : Str → Prop} {k : Bool → Prop} (h : isTS x = true) (h' : ∀ y ∈ ys, isTS y = true) : (oHas x (.lst ys)).post k X = k (decide (x ∈ ys)) := in_pl (pl_le (by decide) (isTS_pl h)) fun y hy => pl_le (by decide) (isTS_pl (h' y hy))

/-! ### a loop that looks at each item, and goes -/
/-- all items hold, or the loop goes with r -/
theorem for_all {L : List Md} {i : Nat} {b : SDen} {P : D → Bool} {r : D} {R : D → Prop} {N : Gm → Prop} {Γ : Gm} {ds : List D} (hb : ∀ d ∈ ds, Wp (b (Γ.set i (some d))) (fun Γ' => P d = true ∧ clr L Γ' = Γ) (fun e => P d = false ∧ e = r))
    (h1 : ds.all P = true → N Γ) (h2 : ds.all P = false → R r) : Wp (forD L i b ds Γ) N R := by
  induction ds with
  | nil => exact h1 rfl
  | cons d ds ih =>
    have h3 := hb d (by simp)
    unfold forD
    revert h3
    cases b (Γ.set i (some d)) with
    | nx Γ' =>
      rintro ⟨h3, h4⟩
      show Wp (forD L i b ds (clr L Γ')) N R
      rw [h4]
      exact ih (fun e he => hb e (by simp [he])) (fun h => h1 (by simp [h3, h])) (fun h => h2 (by simp [h3, h]))
    | rt e =>
      rintro ⟨h3, rfl⟩
      exact h2 (by simp [h3])
    | xc c => intro h; exact h.elim
    | bad => intro h; exact h.elim

theorem holds_is {n h : D} {ys ns yes no : List D} (h1 : ∀ g ∈ ys, isTS g = true) (h2 : ∀ g ∈ ns, isTS g = true) (h3 : ∀ g ∈ yes, isTS g = true) (h4 : ∀ g ∈ no, isTS g = true) :
    f_holds [.tup [n, h, .tup ys, .tup ns], dOf yes, dOf no] = .ok (.bl (ys.all (decide <| · ∈ yes) && ns.all (decide <| · ∈ no))) := by
  refine is_ok (run_of ?_)
  unfold g_holds
  simp [atI, ixN]
  refine for_all (P := (decide <| · ∈ yes)) (r := .bl false) ?_ ?_ ?_
  · intro d hd
    simp [in_dOf h3 (h1 d hd)]

  · intro ha
    simp only [ha, Bool.true_and, List.length_replicate]
    simp [atI, ixN]
    refine for_all (P := (decide <| · ∈ no)) (r := .bl false) ?_ ?_ ?_
    · intro d hd
      simp [in_dOf h4 (h2 d hd)]
    · intro ha2
      simp at ha ha2 ⊢; exact ⟨ha, ha2⟩
    · intro ha2
      simp at ha2 ⊢; exact ha2
  · intro ha
    simp [ha]
end L2.Nf

namespace L2.Nf
open PySem PySem.Spec PyProof.Rows

/-! ### the cells of a script -/
theorem fmod_pos {a : Int} {n : Int} (h : 0 < n) : 0 ≤ a.fmod n ∧ a.fmod n < n := ⟨Int.fmod_nonneg_of_pos a h, Int.fmod_lt_of_pos a h⟩
theorem atI_nat {α : Type} {xs : List α} {i : Nat} : atI xs (i : Int) = xs[i]? := by
  unfold atI ixN
  rw [if_pos (by omega)]
  by_cases h : i < xs.length
  · rw [if_pos (by omega)]; simp
  · rw [if_neg (by omega)]; simp; omega
theorem atI_in {α : Type} {xs : List α} {i : Int} (h : 0 ≤ i) (h' : i < xs.length) : ∃ x, atI xs i = some x ∧ x ∈ xs ∧ xs[i.toNat]? = some x := by
  obtain ⟨n, rfl⟩ := Int.eq_ofNat_of_zero_le h
  have hn : n < xs.length := by omega
  exact ⟨xs[n], by show atI xs (n : Int) = _; rw [atI_nat]; simp [hn], List.getElem_mem hn, by simp [hn]⟩
/-- the number in a cell -/
def cellD (ns : List Int) (k : Nat) : Int := ns.getD k 0
theorem cell_is (ns : List Int) (k : Nat) : f__law_cell_at [encI ns, .int k] = .ok (.int (cellD ns k)) := by
  refine is_ok (run_of ?_)
  unfold g__law_cell_at encI cellD
  simp [atI_nat]
  by_cases h : k < ns.length
  · have h2 : (k : Int) < ns.length := by omega
    simp [h, h2]
  · have h2 : ¬ (k : Int) < ns.length := by omega
    simp [h, h2]
theorem cell_at {ns : List Int} {i : Int} (h : 0 ≤ i) : f__law_cell_at [encI ns, .int i] = .ok (.int (cellD ns i.toNat)) := by
  obtain ⟨k, rfl⟩ := Int.eq_ofNat_of_zero_le h
  exact cell_is ns k
theorem w_cell {ns : List Int} {i : Int} {K : D → Prop} {X : Str → Prop} (h : 0 ≤ i) : (f__law_cell_at [encI ns, .int i]).post K X = K (.int (cellD ns i.toNat)) := by rw [cell_at h]; rfl

/-! ### words and things -/
/-- a text of one to eight signs of A -/
def IsW (A : Str) (w : Str) : Prop := 1 ≤ w.length ∧ w.length ≤ 8 ∧ ∀ c ∈ w.cps.toList, c ∈ A.cps.toList
def In (A : Str) (w : Str) : Prop := ∀ c ∈ w.cps.toList, c ∈ A.cps.toList
theorem len_eq (w : Str) : w.length = w.cps.toList.length := by cases w; rfl
theorem cps_app (x y : Str) : (x ++ y).cps.toList = x.cps.toList ++ y.cps.toList := by
  show (x.cps ++ y.cps).toList = _
  simp
theorem in_app {A x y : Str} (h : In A x) (h' : In A y) : In A (x ++ y) := by
  intro c hc
  rw [cps_app] at hc
  rcases List.mem_append.mp hc with hc | hc
  · exact h c hc
  · exact h' c hc
theorem len_app (x y : Str) : (x ++ y).length = x.length + y.length := by
  rw [len_eq, len_eq, len_eq, cps_app, List.length_append]
theorem cutS_len (z : Str) (lo hi : Option Int) : (cutS z lo hi).length = min (HT.sIx z.length z.length hi - HT.sIx z.length 0 lo) (z.length - HT.sIx z.length 0 lo) := by
  rw [len_eq]
  unfold cutS
  simp [len_eq]
theorem cutS_in {A z : Str} (h : In A z) (lo hi : Option Int) : In A (cutS z lo hi) := by
  intro c hc
  unfold cutS at hc
  exact h c (List.mem_of_mem_drop (List.mem_of_mem_take (by simpa using hc)))
theorem one_in {A : Str} {c : Nat} (h : c ∈ A.cps.toList) : In A ⟨#[c]⟩ := by
  intro d hd
  have : d = c := by simpa using hd
  exact this ▸ h
theorem ixS {A : Str} {n m : Int} (hA : (A.length : Int) = n) (hn : 0 < n) : ∃ c, c ∈ A.cps.toList ∧ oIx (.str A) (.int (m.fmod n)) = .ok (.str ⟨#[c]⟩) := by
  obtain ⟨h1, h2⟩ := fmod_pos (a := m) hn
  obtain ⟨c, hc, hm, _⟩ := atI_in (xs := A.cps.toList) h1 (by rw [← len_eq]; omega)
  exact ⟨c, hm, by unfold oIx oIxS; simp only [isDict, Bool.false_eq_true, if_false]; rw [hc]⟩
theorem join_one {A : Str} : ∀ {ds : List D}, (∀ d ∈ ds, ∃ c, c ∈ A.cps.toList ∧ d = .str ⟨#[c]⟩) → ∃ ys, strsOf ds = some ys ∧ (ys.map (·.length)).sum = ds.length ∧ (Str.join ⟨#[]⟩ ys).length = ds.length ∧ In A (Str.join ⟨#[]⟩ ys)
  | [], _ => ⟨[], rfl, rfl, rfl, by intro c hc; exact absurd hc (by simp [Str.join, Str.empty])⟩
  | d :: ds, h => by
    obtain ⟨c, hc, rfl⟩ := h d (by simp)
    obtain ⟨ys, h1, h2, h3, h4⟩ := join_one (ds := ds) fun e he => h e (by simp [he])
    refine ⟨⟨#[c]⟩ :: ys, by simp [strsOf, h1], ?_, ?_, ?_⟩
    · rw [List.map_cons, List.sum_cons, h2, List.length_cons]
      show 1 + _ = _
      omega
    · cases ys with
      | nil => simp [Str.join] at h3 ⊢; rw [← h3]; rfl
      | cons y r =>
        show ((⟨#[c]⟩ : Str) ++ ⟨#[]⟩ ++ Str.join ⟨#[]⟩ (y :: r)).length = _
        rw [len_app, len_app, h3]
        show 1 + 0 + _ = _
        simp; omega
    · cases ys with
      | nil => exact one_in hc
      | cons y r =>
        show In A ((⟨#[c]⟩ : Str) ++ ⟨#[]⟩ ++ Str.join ⟨#[]⟩ (y :: r))
        exact in_app (in_app (one_in hc) (by intro c hc; exact absurd hc (by simp))) h4
/-- n signs, one behind the other -/
theorem base_is {A : Str} {e : EDen} {Γ : Gm} {j : Nat} {K : D → Prop} {n : Nat} (hn : n ≤ 100) (he : ∀ i : Nat, i < n → ∃ c, c ∈ A.cps.toList ∧ e (Γ.set j (some (.int i))) = .ok (.str ⟨#[c]⟩)) (hk : ∀ w : Str, w.length = n → In A w → K (.str w)) :
    Is (eJoin (eC (.str ⟨#[]⟩)) (eLc j (lRng1 (eC (.int n))) tYes' e) Γ) K := by
  have h1 : Is (compD j tYes' e Γ (rngD 0 n)) fun rs => All2 (fun _ d => ∃ c, c ∈ A.cps.toList ∧ d = .str ⟨#[c]⟩) (rngD 0 n) rs := by
    refine comp_all fun d hd => ?_
    unfold rngD at hd
    obtain ⟨i, hi, rfl⟩ := List.mem_map.mp hd
    obtain ⟨c, hc, e1⟩ := he i (by simpa using hi)
    rw [Int.zero_add, e1]
    exact ⟨c, hc, rfl⟩
  obtain ⟨rs, e1, h2⟩ := is_ex h1
  obtain ⟨ys, h3, h4, h5, h6⟩ := join_one (A := A) (ds := rs) (h2.right fun x y h => h)
  have hl : rs.length = n := by rw [← h2.len]; simp [rngD]
  unfold eJoin
  simp [post_bind, isS]
  rw [e1]
  simp [noX, oJoin, h3]
  rw [w_iteP]
  refine ⟨by omega, ?_, hk _ (h5.trans hl) h6⟩
  rw [h4, hl]
  show n + ys.length * 0 ≤ _
  omega

abbrev lets : Str := PySem.Str.ofString "abcdefghijklmnopqrstuvwxyz"
abbrev sgns : Str := PySem.Str.ofString "0123456789abcdefghijklmnopqrstuvwxyz"
theorem nilS : PySem.Str.ofString "" = ⟨#[]⟩ := rfl
theorem lets_len : lets.length = 26 := by decide +kernel
theorem sgns_len : sgns.length = 36 := by decide +kernel
theorem one_len (c : Nat) : (⟨#[c]⟩ : Str).length = 1 := rfl
theorem sIx_le {n d : Nat} (hd : d ≤ n) (o : Option Int) : HT.sIx n d o ≤ n := HT.sIx_le n d hd o
theorem sIx_pos {n d : Nat} {v : Int} (h : 0 ≤ v) : HT.sIx n d (some v) = min v.toNat n := by
  obtain ⟨k, rfl⟩ := Int.eq_ofNat_of_zero_le h
  exact HT.sIx_nat n d k

theorem word_is {c k : Int} (hk : 0 ≤ k) (hk' : k ≤ 7) : ∃ w, f__law_word_by [.int c, .int k] = .ok (.str w) ∧ IsW lets w := by
  have hA : lets.length = 26 := lets_len
  suffices h : Is (f__law_word_by [.int c, .int k]) fun d => ∃ w, d = .str w ∧ IsW lets w by
    obtain ⟨d, e, w, rfl, h⟩ := is_ex h
    exact ⟨w, e, h⟩
  refine run_of ?_
  unfold g__law_word_by
  unfold lets at hA ⊢
  generalize PySem.Str.ofString "abcdefghijklmnopqrstuvwxyz" = A at hA ⊢
  have hAi : (A.length : Int) = 26 := by omega
  simp only [w_seq, w_set, w_eC, gm0, List.map_cons, List.map_nil, List.length_cons, List.length_nil, List.set_cons_succ, List.set_cons_zero, List.cons_append, List.nil_append, List.replicate_succ, List.replicate_zero, Nat.reduceSub, Nat.reduceAdd, Nat.zero_add]
  refine base_is (A := A) (n := 8) (by omega) (fun i hi => ?_) fun base hb hbi => ?_
  · obtain ⟨s, hs, e⟩ := ixS (A := A) (n := 26) (m := c.fdiv 208 + 5 * i) hAi (by omega)
    refine ⟨s, hs, is_ok ?_⟩
    simp [e]
  · have h8 := fmod_pos (a := c.fdiv 26) (n := 8) (by omega)
    simp
    by_cases h1 : c.fmod 4 = 1
    · simp only [h1, if_true]
      have h5 := fmod_pos (a := c.fdiv 5) (n := 8 - (c.fdiv 26).fmod 8) (by omega)
      obtain ⟨s, hs, e⟩ := ixS (A := A) (n := 26) (m := c + k) hAi (by omega)
      rw [e]
      simp only [w_ok, w_addS]
      have l1 : (cutS base none (some ((c.fdiv 26).fmod 8))).length = ((c.fdiv 26).fmod 8).toNat := by
        rw [cutS_len, sIx_pos h8.1, hb]
        simp only [HT.sIx_none]; omega
      have l2 : (cutS base (some ((c.fdiv 26).fmod 8)) (some ((c.fdiv 26).fmod 8 + (c.fdiv 5).fmod (8 - (c.fdiv 26).fmod 8)))).length = ((c.fdiv 5).fmod (8 - (c.fdiv 26).fmod 8)).toNat := by
        rw [cutS_len, sIx_pos h8.1, sIx_pos (by omega), hb]
        omega
      refine ⟨by omega, ?_, ?_, _, rfl, ?_, ?_, ?_⟩
      · rw [l1, one_len]; unfold sizeLine; omega
      · rw [len_app, l1, l2, one_len]; unfold sizeLine; omega
      · rw [len_app, len_app, l1, l2, one_len]; omega
      · rw [len_app, len_app, l1, l2, one_len]; omega
      · exact in_app (in_app (cutS_in hbi _ _) (one_in hs)) (cutS_in hbi _ _)
    · simp only [h1, if_false]
      by_cases h2 : c.fmod 4 = 2
      · simp only [h2, if_true]
        have l1 : (cutS base none (some (1 + k))).length = (1 + k).toNat := by
          rw [cutS_len, sIx_pos (by omega), hb]
          simp only [HT.sIx_none]; omega
        refine ⟨?_, ?_, cutS_in hbi _ _⟩
        · rw [l1]; omega
        · rw [l1]; omega
      · simp only [h2, if_false]
        obtain ⟨s, hs, e⟩ := ixS (A := A) (n := 26) (m := c + k) hAi (by omega)
        rw [e]
        have hr := fmod_pos (a := c.fdiv 26 + 3 * k) (n := 8) (by omega)
        simp only [w_ok]
        refine ⟨by omega, by omega, ?_⟩
        refine for_wp (fun ds Γ => ∃ w, Γ = [some (.int c), some (.int k), some (.str A), none, none, none, none, some (.str w)] ∧ w.length + ds.length ≤ 8 ∧ 1 ≤ w.length ∧ In A w ∧ ∀ d ∈ ds, ∃ i : Int, d = .int i) ?_ ?_ ?_
        · refine ⟨_, rfl, ?_, ?_, one_in hs, ?_⟩
          · rw [one_len]; simp [rngD]; omega
          · rw [one_len]; omega
          · intro d hd
            unfold rngD at hd
            obtain ⟨i, _, rfl⟩ := List.mem_map.mp hd
            exact ⟨_, rfl⟩
        · rintro d ds Γ ⟨w, rfl, hw1, hw2, hw3, hd⟩
          obtain ⟨i, rfl⟩ := hd d (by simp)
          obtain ⟨s, hs, e⟩ := ixS (A := A) (n := 26) (m := c.fdiv 208 + 5 * i + k) hAi (by omega)
          simp [e]
          simp at hw1
          refine ⟨?_, ?_, ?_, ?_⟩
          · rw [one_len]; unfold sizeLine; omega
          · rw [len_app, one_len]; omega
          · rw [len_app, one_len]; omega
          · exact ⟨in_app hw3 (one_in hs), fun d hd' => hd d (by simp [hd'])⟩
        · rintro Γ ⟨w, rfl, hw1, hw2, hw3, _⟩
          simp at hw1 ⊢
          exact ⟨hw2, hw1, hw3⟩

theorem thing_is {c k : Int} (hk : 0 ≤ k) (hk' : k ≤ 7) : ∃ w, f__law_thing_by [.int c, .int k] = .ok (.str w) ∧ IsW sgns w := by
  have hA : sgns.length = 36 := sgns_len
  suffices h : Is (f__law_thing_by [.int c, .int k]) fun d => ∃ w, d = .str w ∧ IsW sgns w by
    obtain ⟨d, e, w, rfl, h⟩ := is_ex h
    exact ⟨w, e, h⟩
  refine run_of ?_
  unfold g__law_thing_by
  unfold sgns at hA ⊢
  generalize PySem.Str.ofString "0123456789abcdefghijklmnopqrstuvwxyz" = A at hA ⊢
  have hAi : (A.length : Int) = 36 := by omega
  simp only [w_seq, w_set, w_eC, gm0, List.map_cons, List.map_nil, List.length_cons, List.length_nil, List.set_cons_succ, List.set_cons_zero, List.cons_append, List.nil_append, List.replicate_succ, List.replicate_zero, Nat.reduceSub, Nat.reduceAdd, Nat.zero_add]
  refine base_is (A := A) (n := 8) (by omega) (fun i hi => ?_) fun base hb hbi => ?_
  · obtain ⟨s, hs, e⟩ := ixS (A := A) (n := 36) (m := c.fdiv 288 + 7 * i) hAi (by omega)
    refine ⟨s, hs, is_ok ?_⟩
    simp [e]
  · have h8 := fmod_pos (a := c.fdiv 36) (n := 8) (by omega)
    simp
    by_cases h1 : c.fmod 4 = 1
    · simp only [h1, if_true]
      have h5 := fmod_pos (a := c.fdiv 5) (n := 8 - (c.fdiv 36).fmod 8) (by omega)
      obtain ⟨s, hs, e⟩ := ixS (A := A) (n := 36) (m := c + k) hAi (by omega)
      rw [e]
      simp only [w_ok, w_addS]
      have l1 : (cutS base none (some ((c.fdiv 36).fmod 8))).length = ((c.fdiv 36).fmod 8).toNat := by
        rw [cutS_len, sIx_pos h8.1, hb]
        simp only [HT.sIx_none]; omega
      have l2 : (cutS base (some ((c.fdiv 36).fmod 8)) (some ((c.fdiv 36).fmod 8 + (c.fdiv 5).fmod (8 - (c.fdiv 36).fmod 8)))).length = ((c.fdiv 5).fmod (8 - (c.fdiv 36).fmod 8)).toNat := by
        rw [cutS_len, sIx_pos h8.1, sIx_pos (by omega), hb]
        omega
      refine ⟨by omega, ?_, ?_, _, rfl, ?_, ?_, ?_⟩
      · rw [l1, one_len]; unfold sizeLine; omega
      · rw [len_app, l1, l2, one_len]; unfold sizeLine; omega
      · rw [len_app, len_app, l1, l2, one_len]; omega
      · rw [len_app, len_app, l1, l2, one_len]; omega
      · exact in_app (in_app (cutS_in hbi _ _) (one_in hs)) (cutS_in hbi _ _)
    · simp only [h1, if_false]
      by_cases h2 : c.fmod 4 = 2
      · simp only [h2, if_true]
        have l1 : (cutS base none (some (1 + k))).length = (1 + k).toNat := by
          rw [cutS_len, sIx_pos (by omega), hb]
          simp only [HT.sIx_none]; omega
        refine ⟨?_, ?_, cutS_in hbi _ _⟩
        · rw [l1]; omega
        · rw [l1]; omega
      · simp only [h2, if_false]
        obtain ⟨s, hs, e⟩ := ixS (A := A) (n := 36) (m := c + k) hAi (by omega)
        rw [e]
        have hr := fmod_pos (a := c.fdiv 36 + 3 * k) (n := 8) (by omega)
        simp only [w_ok]
        refine ⟨by omega, by omega, ?_⟩
        refine for_wp (fun ds Γ => ∃ w, Γ = [some (.int c), some (.int k), some (.str A), none, none, none, none, some (.str w)] ∧ w.length + ds.length ≤ 8 ∧ 1 ≤ w.length ∧ In A w ∧ ∀ d ∈ ds, ∃ i : Int, d = .int i) ?_ ?_ ?_
        · refine ⟨_, rfl, ?_, ?_, one_in hs, ?_⟩
          · rw [one_len]; simp [rngD]; omega
          · rw [one_len]; omega
          · intro d hd
            unfold rngD at hd
            obtain ⟨i, _, rfl⟩ := List.mem_map.mp hd
            exact ⟨_, rfl⟩
        · rintro d ds Γ ⟨w, rfl, hw1, hw2, hw3, hd⟩
          obtain ⟨i, rfl⟩ := hd d (by simp)
          obtain ⟨s, hs, e⟩ := ixS (A := A) (n := 36) (m := c.fdiv 288 + 7 * i + k) hAi (by omega)
          simp [e]
          simp at hw1
          refine ⟨?_, ?_, ?_, ?_⟩
          · rw [one_len]; unfold sizeLine; omega
          · rw [len_app, one_len]; omega
          · rw [len_app, one_len]; omega
          · exact ⟨in_app hw3 (one_in hs), fun d hd' => hd d (by simp [hd'])⟩
        · rintro Γ ⟨w, rfl, hw1, hw2, hw3, _⟩
          simp at hw1 ⊢
          exact ⟨hw2, hw1, hw3⟩
end L2.Nf

namespace L2.Nf
open PySem PySem.Spec PyProof.Rows

/-! ### more rules for loops -/
theorem run_p {n : Nat} {rk : Kd} {g : SDen} {ds : List D} {P : D → Prop} (h : ∀ R : D → Prop, (∀ d, P d → R d) → Wp (g (Gm0 n ds)) (fun _ => False) R) : Is (runD n rk g ds) P := run_of (h P fun _ h => h)
theorem for_idx {L : List Md} {i : Nat} {b : SDen} (I : Nat → Gm → Prop) {R : D → Prop} {N : Gm → Prop} {ds : List D} {Γ : Gm} (h : I 0 Γ)
    (hs : ∀ k d Γ, ds[k]? = some d → I k Γ → ∀ N' : Gm → Prop, (∀ Γ', I (k + 1) (clr L Γ') → N' Γ') → Wp (b (Γ.set i (some d))) N' R) (hn : ∀ Γ, I ds.length Γ → N Γ) : Wp (forD L i b ds Γ) N R := by
  refine for_wp (fun es Γ => ∃ k, es = ds.drop k ∧ k ≤ ds.length ∧ I k Γ) ⟨0, rfl, Nat.zero_le _, h⟩ ?_ ?_
  · rintro d es Γ ⟨k, e, hk, hi⟩
    have hlt : k < ds.length := by
      rcases Nat.lt_or_ge k ds.length with h | h
      · exact h
      · rw [List.drop_of_length_le h] at e; cases e
    rw [List.drop_eq_getElem_cons hlt] at e
    cases e
    exact hs k _ Γ (by simp [hlt]) hi _ fun Γ' h => ⟨k + 1, rfl, hlt, h⟩
  · rintro Γ ⟨k, e, hk, hi⟩
    have : k = ds.length := by
      have := congrArg List.length e
      simp at this; omega
    exact hn Γ (this ▸ hi)
theorem rng_get {lo : Int} {n k : Nat} {d : D} (h : (rngD lo n)[k]? = some d) : k < n ∧ d = .int (lo + k) := by
  have hk : k < n := by have := (List.getElem?_eq_some_iff.mp h).1; simpa [rngD] using this
  unfold rngD at h
  rw [List.getElem?_map, List.getElem?_range hk] at h
  cases h
  exact ⟨hk, rfl⟩
theorem for_rng {L : List Md} {i : Nat} {b : SDen} {lo : Int} {n : Nat} (I : Nat → Gm → Prop) {R : D → Prop} {N : Gm → Prop} {Γ : Gm} (h : I 0 Γ)
    (hs : ∀ k Γ, k < n → I k Γ → ∀ N' : Gm → Prop, (∀ Γ', I (k + 1) (clr L Γ') → N' Γ') → Wp (b (Γ.set i (some (.int (lo + k))))) N' R) (hn : ∀ Γ, I n Γ → N Γ) : Wp (forD L i b (rngD lo n) Γ) N R := by
  refine for_idx I h ?_ ?_
  · intro k d Γ hk hi
    obtain ⟨hk2, rfl⟩ := rng_get hk
    exact hs k Γ hk2 hi
  · intro Γ hi
    refine hn Γ ?_
    simpa [rngD] using hi
theorem while_rel {L : List Md} {c : TDen} {b : SDen} (I : Nat → Gm → Prop) {R : D → Prop} {N : Gm → Prop}
    (hs : ∀ n Γ, I n Γ → ∀ N' : Gm → Prop, (∀ n' Γ', n' < n → I n' (clr L Γ') → N' Γ') → Is (c Γ) fun x => if x = true then Wp (b Γ) N' R else N Γ) : ∀ {n : Nat} {Γ : Gm}, I n Γ → Wp (whileD L c b Γ) N R := by
  intro n
  induction n using Nat.strongRecOn with
  | ind n ih =>
    intro Γ hi
    obtain ⟨x, hx, h1⟩ := is_ex (hs n Γ hi _ fun n' Γ' h h' => (⟨n', h, h'⟩ : ∃ n', n' < n ∧ I n' (clr L Γ')))
    rw [whileD_eq, hx, Ro.go_ok]
    cases x with
    | false => exact h1
    | true =>
      simp only [if_true] at h1 ⊢
      revert h1
      cases b Γ with
      | nx Γ' => rintro ⟨n', h2, h3⟩; exact ih n' h2 h3
      | rt d => intro h1; exact h1
      | xc c => intro h1; exact h1.elim
      | bad => intro h1; exact h1.elim
@[simp] theorem w_while {L : List Md} {c : TDen} {b : SDen} {Γ : Gm} {N : Gm → Prop} {R : D → Prop} {X : Str → Prop} : (sWhile L c b Γ).post N R X = (whileD L c b (clr L Γ)).post N R X := rfl
theorem comp_wp {i : Nat} {e : EDen} {Γ : Gm} {P : D → D → Prop} {K : List D → Prop} {ds : List D} (h : ∀ d ∈ ds, Is (e (Γ.set i (some d))) (P d)) (hk : ∀ rs, All2 P ds rs → K rs) : Is (compD i tYes' e Γ ds) K := post_mono (comp_all h) hk
theorem mem_rng {lo : Int} {n : Nat} {d : D} (h : d ∈ rngD lo n) : ∃ i : Nat, i < n ∧ d = .int (lo + i) := by
  unfold rngD at h
  obtain ⟨i, hi, rfl⟩ := List.mem_map.mp h
  exact ⟨i, by simpa using hi, rfl⟩
theorem rng_len {lo : Int} {n : Nat} : (rngD lo n).length = n := by simp [rngD]
theorem countP_lt {α : Type} {p q : α → Bool} : ∀ {l : List α}, (∀ x ∈ l, p x = true → q x = true) → (∃ x, x ∈ l ∧ q x = true ∧ p x = false) → l.countP p < l.countP q
  | [], _, h => by obtain ⟨x, hx, _⟩ := h; simp at hx
  | a :: l, h, h2 => by
    rw [List.countP_cons, List.countP_cons]
    have hle : l.countP p ≤ l.countP q := List.countP_mono_left fun x hx => h x (by simp [hx])
    obtain ⟨x, hx, hq, hp⟩ := h2
    rcases List.mem_cons.mp hx with rfl | hx
    · simp [hq, hp]; omega
    · have := countP_lt (l := l) (fun x hx => h x (by simp [hx])) ⟨x, hx, hq, hp⟩
      have := h a (by simp)
      by_cases ha : p a = true
      · simp [ha, this ha]; omega
      · simp [ha]; omega

/-! ### filled rules, and what follows -/
structure Rl where
  n : Int
  h : D
  ys : List D
  ns : List D
def Rl.d (r : Rl) : D := .tup [.int r.n, r.h, .tup r.ys, .tup r.ns]
structure Rl.ok (r : Rl) : Prop where
  h : isTS r.h = true
  ys : ∀ g ∈ r.ys, isTS g = true
  ns : ∀ g ∈ r.ns, isTS g = true
theorem as_keys_is {fs : List D} (hf : ∀ g ∈ fs, isTS g = true) (hl : fs.length < 16777216) : ∃ gs, f_as_keys [.lst fs] = .ok (dOf gs) ∧ gs.length ≤ fs.length ∧ gs.Nodup ∧ ∀ x, x ∈ gs ↔ x ∈ fs := by
  suffices h : Is (f_as_keys [.lst fs]) fun d => ∃ gs, d = dOf gs ∧ gs.length ≤ fs.length ∧ gs.Nodup ∧ ∀ x, x ∈ gs ↔ x ∈ fs by
    obtain ⟨d, e, gs, rfl, h⟩ := is_ex h
    exact ⟨gs, e, h⟩
  refine run_p fun R hR => ?_
  unfold g_as_keys
  simp
  refine for_idx (fun k Γ => ∃ gs, Γ = [none, some (dOf gs), none] ∧ gs.length ≤ k ∧ gs.Nodup ∧ ∀ x, x ∈ gs ↔ x ∈ fs.take k) ⟨[], rfl, by simp, List.nodup_nil, by simp⟩ ?_ ?_
  · rintro k d Γ hk ⟨gs, rfl, h1, h2, h3⟩ N hN
    have hlt : k < fs.length := (List.getElem?_eq_some_iff.mp hk).1
    have hd : d ∈ fs := List.mem_of_getElem? hk
    have hg : ∀ g ∈ gs, isTS g = true := fun g h => hf g (List.mem_of_mem_take ((h3 g).mp h))
    have ht : ∀ x, x ∈ fs.take (k + 1) ↔ (x ∈ fs.take k ∨ x = d) := by
      intro x
      rw [List.take_add_one, hk]
      simp
    simp [isDict_dOf]
    rw [put_dOf hg (hf d hd) (by unfold sizeLine; omega)]
    refine hN _ ⟨_, rfl, ?_, ?_, ?_⟩
    · split
      · omega
      · simp; omega
    · split
      · exact h2
      · rename_i hm
        rw [List.nodup_append]
        exact ⟨h2, by simp, fun a ha b hb => by simp at hb; subst hb; rintro rfl; exact hm ha⟩
    · intro x
      rw [ht, ← h3]
      split
      · rename_i hm
        exact ⟨fun h => .inl h, fun h => h.elim id fun e => e ▸ hm⟩
      · simp
  · rintro Γ ⟨gs, rfl, h1, h2, h3⟩
    simp
    exact hR _ ⟨gs, rfl, h1, h2, by simpa using h3⟩
structure Fires (acc ref : List D) (r : Rl) : Prop where
  new : r.h ∉ acc
  nref : r.h ∉ ref
  ys : ∀ y ∈ r.ys, y ∈ acc
  ns : ∀ y ∈ r.ns, y ∈ ref
theorem Fires.congr {acc acc' ref ref' : List D} {r : Rl} (h : ∀ x, x ∈ acc ↔ x ∈ acc') (h' : ∀ x, x ∈ ref ↔ x ∈ ref') (f : Fires acc ref r) : Fires acc' ref' r :=
  ⟨fun x => f.new ((h _).mpr x), fun x => f.nref ((h' _).mpr x), fun y hy => (h _).mp (f.ys y hy), fun y hy => (h' _).mp (f.ns y hy)⟩
def rowD (x : D × Nat) : D := .tup [x.1, .int x.2]
def Chain (rs : List Rl) (ref : List D) : List D → List (D × Nat) → Prop
  | _, [] => True
  | acc, x :: t => (∃ r, rs[x.2]? = some r ∧ r.h = x.1 ∧ Fires acc ref r) ∧ Chain rs ref (acc ++ [x.1]) t
theorem chain_app {rs : List Rl} {ref : List D} : ∀ {rows : List (D × Nat)} {acc : List D} {x : D × Nat}, Chain rs ref acc rows → (∃ r, rs[x.2]? = some r ∧ r.h = x.1 ∧ Fires (acc ++ rows.map (·.1)) ref r) → Chain rs ref acc (rows ++ [x])
  | [], acc, x, _, h => ⟨by simpa using h, trivial⟩
  | y :: t, acc, x, h, h' => ⟨h.1, chain_app h.2 (by simpa using h')⟩
noncomputable def cnt (rs : List Rl) (Y : List D) : Nat := rs.countP fun r => decide (r.h ∉ Y)
theorem cnt_lt {rs : List Rl} {Y : List D} {r : Rl} (hr : r ∈ rs) (h : r.h ∉ Y) : cnt rs (Y ++ [r.h]) < cnt rs Y := by
  refine countP_lt (fun x _ hx => ?_) ⟨r, hr, by simpa using h, by simp⟩
  simp at hx ⊢
  exact hx.1
theorem get_map {rs : List Rl} {k : Nat} {r : Rl} (h : rs[k]? = some r) : (rs.map Rl.d)[k]? = some r.d := by simp [h]
theorem entered_is {rs : List Rl} {told ref : List D} (hr : ∀ r ∈ rs, r.ok) (ht : ∀ g ∈ told, isTS g = true) (hf : ∀ g ∈ ref, isTS g = true) (hl : rs.length + told.length < 16777216) (hl2 : ref.length < 16777216) :
    ∃ rows, f_entered [.lst (rs.map Rl.d), .lst told, .lst ref] = .ok (.lst (rows.map rowD)) ∧ Chain rs ref told rows ∧ rows.length ≤ rs.length ∧ ∀ r ∈ rs, ¬ Fires (told ++ rows.map (·.1)) ref r := by
  suffices h : Is (f_entered [.lst (rs.map Rl.d), .lst told, .lst ref]) fun d => ∃ rows, d = .lst (rows.map rowD) ∧ Chain rs ref told rows ∧ rows.length ≤ rs.length ∧ ∀ r ∈ rs, ¬ Fires (told ++ rows.map (·.1)) ref r by
    obtain ⟨d, e, rows, rfl, h⟩ := is_ex h
    exact ⟨rows, e, h⟩
  obtain ⟨Y0, eY, hY1, hY2, hY3⟩ := as_keys_is ht (by omega)
  obtain ⟨F, eF, hF1, hF2, hF3⟩ := as_keys_is hf (by omega)
  have hFt : ∀ g ∈ F, isTS g = true := fun g h => hf g ((hF3 g).mp h)
  refine run_p fun R hR => ?_
  unfold g_entered
  simp [eY, eF]
  let G : List D → List (D × Nat) → Bool → Gm := fun Y rows m => [some (.lst (rs.map Rl.d)), none, none, some (dOf Y), some (dOf F), some (.lst (rows.map rowD)), some (.bl m), none, none]
  let J : List D → List (D × Nat) → Prop := fun Y rows => (∀ x, x ∈ Y ↔ x ∈ told ++ rows.map (·.1)) ∧ Y.length ≤ told.length + rows.length ∧ cnt rs Y + rows.length ≤ rs.length ∧ Chain rs ref told rows ∧ ∀ g ∈ Y, isTS g = true
  have hc : ∀ {Y rows r}, J Y rows → (Fires Y F r ↔ Fires (told ++ rows.map (·.1)) ref r) := by
    rintro Y rows r ⟨h1, _⟩
    exact ⟨fun f => f.congr h1 hF3, fun f => f.congr (fun x => (h1 x).symm) fun x => (hF3 x).symm⟩
  refine while_rel (fun n Γ => ∃ Y rows m, Γ = G Y rows m ∧ J Y rows ∧ n = 2 * cnt rs Y + (if m then 1 else 0) ∧ (m = false → ∀ r ∈ rs, ¬ Fires Y F r)) ?_ (n := 2 * cnt rs Y0 + 1) ⟨Y0, [], true, rfl, ⟨by simpa using hY3, by simpa using hY1, ?_, trivial, fun g h => ht g ((hY3 g).mp h)⟩, rfl, by simp⟩
  · rintro n Γ ⟨Y, rows, m, rfl, hJ, rfl, hm⟩ N hN
    simp [G]
    cases m with
    | false =>
      simp
      exact hR _ ⟨rows, rfl, hJ.2.2.2.1, by have := hJ.2.2.1; omega, fun r h f => hm rfl r h ((hc hJ).mpr f)⟩
    | true =>
      simp
      refine ⟨by omega, ?_⟩
      refine for_rng (fun k Γ => ∃ Y' rows' m', Γ = G Y' rows' m' ∧ J Y' rows' ∧ (m' = true → cnt rs Y' < cnt rs Y) ∧ (m' = false → Y' = Y ∧ rows' = rows ∧ ∀ j r, j < k → rs[j]? = some r → ¬ Fires Y F r)) ⟨Y, rows, false, rfl, hJ, by simp, fun _ => ⟨rfl, rfl, fun j r h => absurd h (Nat.not_lt_zero _)⟩⟩ ?_ ?_
      · rintro k Γ hk ⟨Y', rows', m', rfl, hJ', h1, h2⟩ N' hN'
        obtain ⟨r, hrk⟩ : ∃ r, rs[k]? = some r := ⟨rs[k], by simp [hk]⟩
        have hrm : r ∈ rs := List.mem_of_getElem? hrk
        have hro := hr r hrm
        have hYt := hJ'.2.2.2.2
        have hix : atI (rs.map Rl.d) (k : Int) = some r.d := by rw [atI_nat, get_map hrk]
        have e1 : atI [D.int r.n, r.h, .tup r.ys, .tup r.ns] 1 = some r.h := rfl
        have hno : ¬ Fires Y' F r → N' [some (.lst (rs.map Rl.d)), none, none, some (dOf Y'), some (dOf F), some (.lst (rows'.map rowD)), some (.bl m'), some (.int k), some r.d] := by
          intro hn
          refine hN' _ ⟨Y', rows', m', rfl, hJ', h1, fun hm => ?_⟩
          obtain ⟨rfl, rfl, h3⟩ := h2 hm
          refine ⟨rfl, rfl, fun j q hj hq => ?_⟩
          rcases Nat.lt_succ_iff_lt_or_eq.mp hj with hj | rfl
          · exact h3 j q hj hq
          · rw [hrk] at hq; cases hq; exact hn
        simp [G, hix]
        simp [Rl.d, e1, in_dOf hYt hro.h, in_dOf hFt hro.h, holds_is hro.ys hro.ns hYt hFt]
        rw [Rl.d] at hno
        by_cases c1 : r.h ∈ Y'
        · simp only [c1, if_true]
          exact hno fun f => f.new c1
        simp only [c1, if_false]
        by_cases c2 : r.h ∈ F
        · simp only [c2, if_true]
          exact hno fun f => f.nref c2
        simp only [c2, if_false]
        by_cases c3 : (∀ x ∈ r.ys, x ∈ Y') ∧ ∀ x ∈ r.ns, x ∈ F
        · rw [if_pos c3]
          have hfire : Fires Y' F r := ⟨c1, c2, c3.1, c3.2⟩
          have hcnt := cnt_lt hrm c1
          obtain ⟨j1, j2, j3, j4, j5⟩ := hJ'
          rw [put_dOf hYt hro.h (by unfold sizeLine; omega), if_neg c1]
          refine ⟨rfl, by unfold sizeLine; omega, ?_⟩
          refine hN' _ ⟨Y' ++ [r.h], rows' ++ [(r.h, k)], true, by simp [G, rowD], ⟨?_, ?_, ?_, chain_app j4 ⟨r, hrk, rfl, ((hc ⟨j1, j2, j3, j4, j5⟩).mp hfire)⟩, ?_⟩, ?_, by simp⟩
          · intro x
            have := j1 x
            simp at this ⊢
            rw [this, or_assoc]
          · simp; omega
          · simp; omega
          · intro g hg
            rcases List.mem_append.mp hg with hg | hg
            · exact j5 g hg
            · rw [List.mem_singleton.mp hg]; exact hro.h
          · intro _
            cases m' with
            | true => have := h1 rfl; omega
            | false => obtain ⟨rfl, _⟩ := h2 rfl; exact hcnt
        · rw [if_neg c3]
          exact hno fun f => c3 ⟨f.ys, f.ns⟩
      · rintro Γ ⟨Y', rows', m', rfl, hJ', h1, h2⟩
        refine hN _ _ ?_ ⟨Y', rows', m', rfl, hJ', rfl, fun hm => ?_⟩
        · cases m' with
          | true => have := h1 rfl; simp; omega
          | false => obtain ⟨rfl, _⟩ := h2 rfl; simp
        · obtain ⟨rfl, rfl, h3⟩ := h2 hm
          intro r hr
          obtain ⟨j, hj⟩ := List.mem_iff_getElem?.mp hr
          exact h3 j r (List.getElem?_eq_some_iff.mp hj).1 hj
  · simp [cnt]
    exact List.countP_le_length
end L2.Nf

namespace L2.Nf
open PySem PySem.Spec PyProof.Rows

theorem word_wp {ns : List Int} {c k : Int} {X : Str → Prop} {K : D → Prop} (hk : 0 ≤ k) (hk' : k ≤ 7) (h : ∀ w, IsW lets w → K (.str w)) : (f__law_word_by [.int c, .int k]).post K X := by
  obtain ⟨w, e, hw⟩ := word_is (c := c) hk hk'
  rw [e]; exact h w hw
theorem thing_wp {ns : List Int} {c k : Int} {X : Str → Prop} {K : D → Prop} (hk : 0 ≤ k) (hk' : k ≤ 7) (h : ∀ w, IsW sgns w → K (.str w)) : (f__law_thing_by [.int c, .int k]).post K X := by
  obtain ⟨w, e, hw⟩ := thing_is (c := c) hk hk'
  rw [e]; exact h w hw
theorem mem_get {α : Type} {xs : List α} {i : Int} {P : α → Prop} (hp : ∀ x ∈ xs, P x) (h : 0 ≤ i) (h' : i < xs.length) : ∃ x, atI xs i = some x ∧ x ∈ xs ∧ P x := by
  obtain ⟨x, e, hm, _⟩ := atI_in h h'
  exact ⟨x, e, hm, hp x hm⟩
theorem atoms_is {ns : List Int} {m : Int} (h : 2 ≤ m) (h' : m ≤ 9) : ∃ fs, f__law_atoms [encI ns, .int m] = .ok (.lst fs) ∧ (∀ f ∈ fs, isTS f = true) ∧ fs.length = m.toNat := by
  suffices h : Is (f__law_atoms [encI ns, .int m]) fun d => ∃ fs, d = .lst fs ∧ (∀ f ∈ fs, isTS f = true) ∧ fs.length = m.toNat by
    obtain ⟨d, e, fs, rfl, h⟩ := is_ex h
    exact ⟨fs, e, h⟩
  refine run_p fun R hR => ?_
  unfold g__law_atoms
  simp
  refine comp_wp (P := fun _ d => isS d = true) ?_ fun ws hws => ?_
  · intro d hd
    obtain ⟨i, hi, rfl⟩ := mem_rng hd
    have e := cell_at (ns := ns) (i := 0) (by decide)
    simp [e]
    obtain ⟨w, e, hw⟩ := word_is (c := cellD ns 0) (k := i) (by omega) (by omega)
    simp [e, isS]
  have hl1 : ws.length = 3 := by rw [← hws.len]; rfl
  have hw1 := hws.right (Q := fun d => isS d = true) fun _ _ h => h
  refine comp_wp (P := fun _ d => isS d = true) ?_ fun ts hts => ?_
  · intro d hd
    obtain ⟨i, hi, rfl⟩ := mem_rng hd
    have e := cell_at (ns := ns) (i := 1) (by decide)
    simp [e]
    obtain ⟨w, e, hw⟩ := thing_is (c := cellD ns 1) (k := i) (by omega) (by omega)
    simp [e, isS]
  have hl2 : ts.length = 3 := by rw [← hts.len]; rfl
  have ht1 := hts.right (Q := fun d => isS d = true) fun _ _ h => h
  refine ⟨by split <;> omega, by split <;> omega, ?_⟩
  refine comp_wp (P := fun _ d => isTS d = true) ?_ fun fs hfs => ?_
  · intro d hd
    obtain ⟨i, hi, rfl⟩ := mem_rng hd
    obtain ⟨x, e, _, hx⟩ := mem_get (i := (i : Int)) hw1 (by omega) (by rw [hl1]; split at hi <;> omega)
    simp [e, isTS, hx]
  have hl3 := hfs.len
  rw [rng_len] at hl3
  have hf1 := hfs.right (Q := fun d => isTS d = true) fun _ _ h => h
  refine ⟨by omega, by omega, ?_⟩
  refine for_rng (fun k Γ => ∃ gs, Γ = [none, none, none, some (.lst ws), some (.lst ts), some (.lst gs)] ∧ gs.length = fs.length + k ∧ ∀ f ∈ gs, isTS f = true) ⟨fs, rfl, rfl, hf1⟩ ?_ ?_
  · rintro k Γ hk ⟨gs, rfl, hg, hg1⟩ N hN
    have a1 := fmod_pos (a := 3 + (k : Int)) (n := 3) (by omega)
    have a2 := fmod_pos (a := (3 + (k : Int)).fdiv 3) (n := 3) (by omega)
    obtain ⟨x, e1, _, hx⟩ := mem_get hw1 a1.1 (by rw [hl1]; exact a1.2)
    obtain ⟨y, e2, _, hy⟩ := mem_get ht1 a2.1 (by rw [hl2]; exact a2.2)
    simp at e1 e2
    simp [e1, e2]
    refine ⟨by unfold sizeLine; split at hl3 <;> omega, hN _ ⟨_, rfl, by simp; omega, ?_⟩⟩
    intro f hf
    rcases List.mem_append.mp hf with hf | hf
    · exact hg1 f hf
    · rw [List.mem_singleton.mp hf]; simp [isTS, hx, hy]
  · rintro Γ ⟨gs, rfl, hg, hg1⟩
    simp
    refine hR _ ⟨gs, rfl, hg1, ?_⟩
    split at hl3 <;> omega
/-- a drawn rule -/
def IsRl (at' : List D) (d : D) : Prop := ∃ r : Rl, d = r.d ∧ r.h ∈ at' ∧ (∀ y ∈ r.ys, y ∈ at') ∧ (∀ y ∈ r.ns, y ∈ at') ∧ r.ys.length ≤ 6 ∧ r.ns.length ≤ 6
theorem ground_is {c : Int} {fs : List D} (hl : 0 < fs.length) (hl2 : fs.length < 100) : ∃ d, f__law_ground [.int c, .lst fs] = .ok d ∧ IsRl fs d := by
  refine is_ex (run_p fun R hR => ?_)
  unfold g__law_ground
  simp
  have hln : (0 : Int) < fs.length := by omega
  have a0 := fmod_pos (a := (c * 69621).fmod 998244353) (n := 12) (by omega)
  obtain ⟨x, e, _, i, j, rfl, hi, hj⟩ := mem_get (P := fun d => ∃ i j : Nat, d = D.tup [.int i, .int j] ∧ i ≤ 6 ∧ j ≤ 6) (xs := [D.tup [D.int 0, D.int 0], D.tup [D.int 0, D.int 1], D.tup [D.int 1, D.int 0], D.tup [D.int 1, D.int 1],
              D.tup [D.int 1, D.int 2], D.tup [D.int 2, D.int 1], D.tup [D.int 2, D.int 0], D.tup [D.int 0, D.int 2],
              D.tup [D.int 4, D.int 2], D.tup [D.int 3, D.int 3], D.tup [D.int 2, D.int 4], D.tup [D.int 6, D.int 0]]) (by
    intro x hx
    simp at hx
    rcases hx with rfl | rfl | rfl | rfl | rfl | rfl | rfl | rfl | rfl | rfl | rfl | rfl
    · exact ⟨0, 0, rfl, by omega, by omega⟩
    · exact ⟨0, 1, rfl, by omega, by omega⟩
    · exact ⟨1, 0, rfl, by omega, by omega⟩
    · exact ⟨1, 1, rfl, by omega, by omega⟩
    · exact ⟨1, 2, rfl, by omega, by omega⟩
    · exact ⟨2, 1, rfl, by omega, by omega⟩
    · exact ⟨2, 0, rfl, by omega, by omega⟩
    · exact ⟨0, 2, rfl, by omega, by omega⟩
    · exact ⟨4, 2, rfl, by omega, by omega⟩
    · exact ⟨3, 3, rfl, by omega, by omega⟩
    · exact ⟨2, 4, rfl, by omega, by omega⟩
    · exact ⟨6, 0, rfl, by omega, by omega⟩) a0.1 a0.2
  rw [e]
  simp
  have e0 : atI [D.int i, D.int j] 0 = some (.int i) := rfl
  have e1 : atI [D.int i, D.int j] 1 = some (.int j) := rfl
  simp [e0]
  refine ⟨by omega, ?_⟩
  generalize hA : (c * 48271).fmod 2147483647 = A
  generalize hB : (c * 69621).fmod 998244353 = B
  generalize hC : (c * 16807).fmod 1000000007 = C
  refine for_rng (fun k Γ => ∃ gs, Γ = [none, some (.lst fs), some (.int A), some (.int B), some (.int C), some (.tup [.int i, .int j]), some (.lst gs), none, none] ∧ gs.length = k ∧ ∀ f ∈ gs, f ∈ fs) ⟨[], rfl, rfl, by simp⟩ ?_ ?_
  · rintro k Γ hk ⟨gs, rfl, hg, hg1⟩ N hN
    obtain ⟨x, e2, hx, _⟩ := mem_get (P := fun _ => True) (xs := fs) (i := ((B.fdiv 12).fdiv (1 + 40 * (k : Int))).fmod fs.length) (by simp) (fmod_pos hln).1 (fmod_pos hln).2
    simp [e2]
    refine ⟨⟨by omega, by omega⟩, by rintro rfl; simp at hl, by unfold sizeLine; omega, hN _ ⟨_, rfl, by simp [hg], ?_⟩⟩
    intro f hf
    rcases List.mem_append.mp hf with hf | hf
    · exact hg1 f hf
    · rw [List.mem_singleton.mp hf]; exact hx
  · rintro Γ ⟨gs, rfl, hg, hg1⟩
    simp [e1]
    refine ⟨by omega, ?_⟩
    refine for_rng (fun k Γ => ∃ hs, Γ = [none, some (.lst fs), some (.int A), none, some (.int C), none, some (.lst gs), none, some (.lst hs)] ∧ hs.length = k ∧ ∀ f ∈ hs, f ∈ fs) ⟨[], rfl, rfl, by simp⟩ ?_ ?_
    · rintro k Γ hk ⟨hs, rfl, hh, hh1⟩ N hN
      obtain ⟨x, e2, hx, _⟩ := mem_get (P := fun _ => True) (xs := fs) (i := (C.fdiv (1 + 40 * (k : Int))).fmod fs.length) (by simp) (fmod_pos hln).1 (fmod_pos hln).2
      simp [e2]
      refine ⟨⟨by omega, by omega⟩, by rintro rfl; simp at hl, by unfold sizeLine; omega, hN _ ⟨_, rfl, by simp [hh], ?_⟩⟩
      intro f hf
      rcases List.mem_append.mp hf with hf | hf
      · exact hh1 f hf
      · rw [List.mem_singleton.mp hf]; exact hx
    · rintro Γ ⟨hs, rfl, hh, hh1⟩
      obtain ⟨x, e2, hx, _⟩ := mem_get (P := fun _ => True) (xs := fs) (i := A.fmod fs.length) (by simp) (fmod_pos hln).1 (fmod_pos hln).2
      simp [e2]
      refine ⟨by rintro rfl; simp at hl, hR _ ⟨⟨_, x, gs, hs⟩, rfl, hx, hg1, hh1, by simp; omega, by simp; omega⟩⟩
end L2.Nf

namespace L2.Nf
open PySem PySem.Spec PyProof.Rows

@[simp] theorem atI0 {α : Type} {a : α} {l : List α} : atI (a :: l) 0 = some a := by
  have := atI_nat (xs := a :: l) (i := 0); simpa using this
@[simp] theorem atI1 {α : Type} {a b : α} {l : List α} : atI (a :: b :: l) 1 = some b := by
  have := atI_nat (xs := a :: b :: l) (i := 1); simpa using this
@[simp] theorem atI2 {α : Type} {a b c : α} {l : List α} : atI (a :: b :: c :: l) 2 = some c := by
  have := atI_nat (xs := a :: b :: c :: l) (i := 2); simpa using this
@[simp] theorem atI3 {α : Type} {a b c d : α} {l : List α} : atI (a :: b :: c :: d :: l) 3 = some d := by
  have := atI_nat (xs := a :: b :: c :: d :: l) (i := 3); simpa using this
@[simp] theorem kit_ll : kitB "list" "list" = some true := by decide +kernel
@[simp] theorem kit_tt : kitB "tuple" "tuple" = some true := by decide +kernel
@[simp] theorem kit_dd : kitB "dict" "dict" = some true := by decide +kernel
@[simp] theorem kit_ii : kitB "int" "int" = some true := by decide +kernel
@[simp] theorem kit_ib : kitB "int" "bool" = some false := by decide +kernel
@[simp] theorem ty_l {xs : List D} : dTy (.lst xs) = "list" := rfl
@[simp] theorem ty_t {xs : List D} : dTy (.tup xs) = "tuple" := rfl
@[simp] theorem ty_i {i : Int} : dTy (.int i) = "int" := rfl
theorem ty_ts {d : D} (h : isTS d = true) : dTy d = "tuple" := by
  obtain ⟨x, r, rfl, _⟩ := isTS_ex h; rfl
theorem whole_int (i : Int) : f__law_whole [.int i] = .ok (.bl true) := by
  refine is_ok (run_of ?_)
  unfold g__law_whole
  simp
/-- some of all items, each made into one of which P holds -/
theorem comp_sub {i : Nat} {t : TDen} {e : EDen} {Γ : Gm} {P : D → Prop} : ∀ {ds : List D}, (∀ d ∈ ds, Is (t (Γ.set i (some d))) fun b => b = true → Is (e (Γ.set i (some d))) P) → Is (compD i t e Γ ds) fun rs => (∀ x ∈ rs, P x) ∧ rs.length ≤ ds.length
  | [], _ => ⟨by simp, by simp⟩
  | d :: ds, h => by
    unfold compD
    obtain ⟨b, hb, h1⟩ := is_ex (h d (by simp))
    obtain ⟨rs, hr, h2, h3⟩ := is_ex (comp_sub (ds := ds) fun x hx => h x (by simp [hx]))
    rw [hb, hr]
    cases b with
    | false => exact ⟨h2, by simp; omega⟩
    | true =>
      obtain ⟨x, hx, px⟩ := is_ex (h1 rfl)
      simp only [Ro.bind_ok, if_true, hx]
      refine ⟨fun y hy => ?_, by simp; omega⟩
      rcases List.mem_cons.mp hy with rfl | hy
      · exact px
      · exact h2 y hy
theorem comp_sub_wp {i : Nat} {t : TDen} {e : EDen} {Γ : Gm} {P : D → Prop} {K : List D → Prop} {ds : List D} (h : ∀ d ∈ ds, Is (t (Γ.set i (some d))) fun b => b = true → Is (e (Γ.set i (some d))) P) (hk : ∀ rs, (∀ x ∈ rs, P x) → rs.length ≤ ds.length → K rs) : Is (compD i t e Γ ds) K := post_mono (comp_sub h) fun rs h => hk rs h.1 h.2
theorem law_holds_is {n h : D} {ys ns yes no : List D} (h1 : ∀ g ∈ ys, isTS g = true) (h2 : ∀ g ∈ ns, isTS g = true) (h3 : ∀ g ∈ yes, isTS g = true) (h4 : ∀ g ∈ no, isTS g = true) :
    f__law_holds [.tup [n, h, .tup ys, .tup ns], .lst yes, .lst no] = .ok (.bl (ys.all (decide <| · ∈ yes) && ns.all (decide <| · ∈ no))) := by
  refine is_ok (run_of ?_)
  unfold g__law_holds
  simp
  refine for_all (P := (decide <| · ∈ yes)) (r := .bl false) ?_ ?_ ?_
  · intro d hd
    simp [in_ts (h1 d hd) h3]
  · intro ha
    simp only [ha, Bool.true_and, List.length_replicate]
    simp
    refine for_all (P := (decide <| · ∈ no)) (r := .bl false) ?_ ?_ ?_
    · intro d hd
      simp [in_ts (h2 d hd) h4]
    · intro ha2
      simp at ha ha2 ⊢; exact ⟨ha, ha2⟩
    · intro ha2
      simp at ha2 ⊢; exact ha2
  · intro ha
    simp [ha]
theorem chain_get {rs : List Rl} {ref : List D} : ∀ {rows : List (D × Nat)} {acc : List D} {k : Nat} {x : D × Nat}, Chain rs ref acc rows → rows[k]? = some x → ∃ r, rs[x.2]? = some r ∧ r.h = x.1 ∧ Fires (acc ++ (rows.take k).map (·.1)) ref r
  | y :: t, acc, 0, x, h, e => by
    simp at e; subst e
    simpa using h.1
  | y :: t, acc, k + 1, x, h, e => by
    have := chain_get h.2 (by simpa using e : t[k]? = some x)
    simpa using this
  | [], acc, k, x, _, e => by simp at e
theorem pl_lst {n : Nat} {xs : List D} (h : ∀ x ∈ xs, x.pl n = true) : (D.lst xs).pl (n + 1) = true := by simpa [D.pl] using h
theorem pl_tup {n : Nat} {xs : List D} (h : ∀ x ∈ xs, x.pl n = true) : (D.tup xs).pl (n + 1) = true := by simpa [D.pl] using h
theorem pl_rl {r : Rl} (h : r.ok) : r.d.pl 3 = true := by
  unfold Rl.d
  refine pl_tup fun x hx => ?_
  simp at hx
  rcases hx with rfl | rfl | rfl | rfl
  · rfl
  · exact pl_le (by decide) (isTS_pl h.h)
  · exact pl_tup fun x hx => isTS_pl (h.ys x hx)
  · exact pl_tup fun x hx => isTS_pl (h.ns x hx)
theorem pl_facts {fs : List D} (h : ∀ x ∈ fs, isTS x = true) : (D.lst fs).pl 2 = true := pl_lst fun x hx => isTS_pl (h x hx)
theorem pl_rules {rs : List Rl} (h : ∀ r ∈ rs, r.ok) : (D.lst (rs.map Rl.d)).pl 4 = true := pl_lst fun x hx => by
  obtain ⟨r, hr, rfl⟩ := List.mem_map.mp hx
  exact pl_rl (h r hr)
theorem pl_hand {rs : List Rl} {t f : List D} (h : ∀ r ∈ rs, r.ok) (ht : ∀ x ∈ t, isTS x = true) (hf : ∀ x ∈ f, isTS x = true) : (D.lst [.lst (rs.map Rl.d), .lst t, .lst f]).pl 8 = true := by
  refine pl_le (n := 5) (by decide) (pl_lst fun x hx => ?_)
  simp at hx
  rcases hx with rfl | rfl | rfl
  · exact pl_rules h
  · exact pl_le (by decide) (pl_facts ht)
  · exact pl_le (by decide) (pl_facts hf)
theorem ne_self {d : D} (h : d.pl 8 = true) : oNe d d = .ok (.bl false) := by rw [oNe_pl h h]; simp
theorem eq_self {d : D} (h : d.pl 8 = true) : oEq d d = .ok (.bl true) := by rw [oEq_pl h h]; simp
theorem rl_all {at' : List D} (ha : ∀ f ∈ at', isTS f = true) : ∀ {ds : List D}, (∀ d ∈ ds, IsRl at' d) → ∃ rs : List Rl, ds = rs.map Rl.d ∧ ∀ r ∈ rs, r.ok ∧ r.ys.length ≤ 6 ∧ r.ns.length ≤ 6
  | [], _ => ⟨[], rfl, by simp⟩
  | d :: ds, h => by
    obtain ⟨r, rfl, h1, h2, h3, h4⟩ := h d (by simp)
    obtain ⟨rs, rfl, h5⟩ := rl_all (ds := ds) ha fun x hx => h x (by simp [hx])
    refine ⟨r :: rs, rfl, fun q hq => ?_⟩
    rcases List.mem_cons.mp hq with rfl | hq
    · exact ⟨⟨ha _ h1, fun g hg => ha g (h2 g hg), fun g hg => ha g (h3 g hg)⟩, h4⟩
    · exact h5 q hq
theorem cut_mem {α : Type} {xs : List α} {l h : Option Int} {x : α} (hx : x ∈ cut xs l h) : x ∈ xs := List.mem_of_mem_drop (List.mem_of_mem_take hx)
theorem cut_le {α : Type} {xs : List α} {l h : Option Int} : (cut xs l h).length ≤ xs.length := by unfold cut; simp; omega
theorem plain_k05 (ns : List Int) (hns : ns.length ≤ 63) : f_law_k05 [encI ns] = .ok (.bl true) := by
  refine is_ok (run_p fun R hR => ?_)
  unfold g_law_k05
  have hR := hR _ rfl
  have a2 := fmod_pos (a := cellD ns 2) (n := 8) (by omega)
  obtain ⟨fs, efs, hfs, hfl⟩ := atoms_is (ns := ns) (m := 2 + (cellD ns 2).fmod 8) (by omega) (by omega)
  simp [cell_at (ns := ns) (i := 2) (by decide), efs]
  refine ⟨by omega, ?_⟩
  refine comp_wp (P := fun _ d => ∃ i : Int, d = .int i) ?_ fun ss hss => ?_
  · intro d hd
    obtain ⟨i, hi, rfl⟩ := mem_rng hd
    have b1 := fmod_pos (a := (i : Int)) (n := 3) (by omega)
    have b2 := fmod_pos (a := (i : Int).fdiv 3) (n := 3) (by omega)
    have e1 := cell_at (ns := ns) (i := 3 + (i : Int).fmod 3) (by omega)
    obtain ⟨x, e2, _, j, rfl, hj⟩ := mem_get (P := fun d => ∃ j : Int, d = .int j ∧ (j = 1 ∨ j = 4 ∨ j = 16)) (xs := [D.int 1, D.int 4, D.int 16]) (by
      intro x hx
      simp at hx
      rcases hx with rfl | rfl | rfl
      · exact ⟨1, rfl, by simp⟩
      · exact ⟨4, rfl, by simp⟩
      · exact ⟨16, rfl, by simp⟩) b2.1 b2.2
    simp [e1, e2]
    rcases hj with rfl | rfl | rfl <;> decide
  have hsl := hss.len
  rw [rng_len] at hsl
  have hsi := hss.right (Q := fun d => ∃ i : Int, d = .int i) fun _ _ h => h
  refine ⟨by omega, ?_⟩
  refine comp_sub_wp (P := fun d => isTS d = true) ?_ fun told ht htl => ?_
  · intro d hd
    obtain ⟨i, hi, rfl⟩ := mem_rng hd
    obtain ⟨x, e1, _, j, rfl⟩ := mem_get (i := (i : Int)) hsi (by omega) (by omega)
    obtain ⟨y, e2, _, hy⟩ := mem_get (i := (i : Int)) hfs (by omega) (by omega)
    simp [e1, e2, hy]
  refine ⟨by omega, ?_⟩
  refine comp_sub_wp (P := fun d => isTS d = true) ?_ fun ref hf hfl2 => ?_
  · intro d hd
    obtain ⟨i, hi, rfl⟩ := mem_rng hd
    obtain ⟨x, e1, _, j, rfl⟩ := mem_get (i := (i : Int)) hsi (by omega) (by omega)
    obtain ⟨y, e2, _, hy⟩ := mem_get (i := (i : Int)) hfs (by omega) (by omega)
    simp [e1, e2, hy]
  rw [rng_len] at htl hfl2
  unfold encI
  simp
  refine comp_wp (P := fun _ d => IsRl fs d) ?_ fun ds hds => ?_
  · intro d hd
    obtain ⟨c, _, rfl⟩ := List.mem_map.mp (cut_mem hd)
    obtain ⟨d, e, h⟩ := ground_is (c := c) (fs := fs) (by omega) (by omega)
    simp [e, h]
  have hdl := hds.len
  have hcl := cut_le (xs := ns.map D.int) (l := some 6) (h := some 18)
  rw [hdl, List.length_map] at hcl
  obtain ⟨rs, rfl, hrs⟩ := rl_all hfs (hds.right (Q := IsRl fs) fun _ _ h => h)
  have hro : ∀ r ∈ rs, r.ok := fun r h => (hrs r h).1
  rw [List.length_map] at hcl
  obtain ⟨rows, er, hch, hrl, hcl2⟩ := entered_is (told := told) (ref := ref) hro ht hf (by omega) (by omega)
  simp [er, ne_self (pl_hand hro ht hf)]
  have hfire : ∀ k x, rows[k]? = some x → ∃ r, rs[x.2]? = some r ∧ r.h = x.1 ∧ Fires (told ++ (rows.take k).map (·.1)) ref r := fun k x h => chain_get hch h
  have hyt : ∀ k, ∀ g ∈ told ++ (rows.take k).map (·.1), isTS g = true := by
    intro k g hg
    rcases List.mem_append.mp hg with hg | hg
    · exact ht g hg
    · obtain ⟨x, hx, rfl⟩ := List.mem_map.mp hg
      obtain ⟨j, hj⟩ := List.mem_iff_getElem?.mp (List.mem_of_mem_take hx)
      obtain ⟨r, h1, h2, _⟩ := hfire j x hj
      exact h2 ▸ (hro r (List.mem_of_getElem? h1)).h
  refine for_idx (fun k Γ => Γ = [none, none, none, none, some (.lst ref), some (.lst (rs.map Rl.d)), none, none, some (.lst (told ++ (rows.take k).map (·.1))), none, none, none, none]) (by simp) ?_ ?_
  · rintro k d Γ hk rfl N hN
    rw [List.getElem?_map] at hk
    obtain ⟨x, hx, rfl⟩ := Option.map_eq_some_iff.mp hk
    obtain ⟨r, h1, h2, h3⟩ := hfire k x hx
    have hk2 := (List.getElem?_eq_some_iff.mp hx).1
    have hx2 := (List.getElem?_eq_some_iff.mp h1).1
    have hrm := List.mem_of_getElem? h1
    have hix : atI (rs.map Rl.d) (x.2 : Int) = some r.d := by rw [atI_nat, get_map h1]
    have hyk := hyt k
    have hY1 : told ++ (rows.take (k + 1)).map (·.1) = (told ++ (rows.take k).map (·.1)) ++ [x.1] := by
      rw [List.take_add_one, hx]; simp
    have hYl : (told ++ (rows.take k).map (·.1)).length ≤ told.length + rows.length := by simp; omega
    generalize told ++ (rows.take k).map (·.1) = Y at hyk hY1 hYl h3 ⊢
    have n1 := h3.new
    have n2 := h3.nref
    have n3 := h3.ys
    have n4 := h3.ns
    simp [rowD, whole_int, hx2, hix]
    rw [Rl.d, ← h2]
    simp [oNe_pl (pl_le (by decide) (isTS_pl (hro r hrm).h)) (pl_le (by decide) (isTS_pl (hro r hrm).h)), ty_ts (hro r hrm).h, in_ts (hro r hrm).h hyk, in_ts (hro r hrm).h hf, law_holds_is (hro r hrm).ys (hro r hrm).ns hyk hf, n1, n2]
    rw [if_pos ⟨n3, n4⟩]
    refine ⟨by unfold sizeLine; omega, hN _ ?_⟩
    rw [hY1, ← h2]; rfl
  · rintro Γ rfl
    simp only [List.length_map, List.take_length]
    have hyk := hyt rows.length
    rw [List.take_length] at hyk
    generalize told ++ rows.map (·.1) = Y at hyk hcl2 ⊢
    simp
    refine for_idx (fun k Γ => Γ = [none, none, none, none, some (.lst ref), none, none, none, some (.lst Y), none, none, none, none]) rfl ?_ ?_
    · rintro k d Γ hk rfl N hN
      rw [List.getElem?_map] at hk
      obtain ⟨r, hrk, rfl⟩ := Option.map_eq_some_iff.mp hk
      have hrm := List.mem_of_getElem? hrk
      have hn := hN _ (rfl : clr _ [none, none, none, none, some (.lst ref), none, none, none, some (.lst Y), none, some r.d, none, none] = _)
      have hnf := hcl2 r hrm
      rw [Rl.d] at hn ⊢
      simp [in_ts (hro r hrm).h hyk, in_ts (hro r hrm).h hf, law_holds_is (hro r hrm).ys (hro r hrm).ns hyk hf]
      by_cases c1 : r.h ∈ Y
      · simp [c1, hn]
      by_cases c2 : r.h ∈ ref
      · simp [c1, c2, hn]
      rw [if_neg c1, if_neg c2, if_neg (fun c3 => hnf ⟨c1, c2, c3.1, c3.2⟩)]
      exact hn
    · rintro Γ rfl
      exact hR
end L2.Nf

namespace L2.Nf
open PySem PySem.Spec PyProof.Rows

/-! ### sorted lists of facts or texts -/
theorem toks_inj : ∀ {xs ys : List D}, (∀ x ∈ xs, isS x = true) → (∀ y ∈ ys, isS y = true) → PySem.W.keyToksAll (xs.map (D.py 1)) = PySem.W.keyToksAll (ys.map (D.py 1)) → xs = ys
  | [], [], _, _, _ => rfl
  | [], y :: ys, _, _, h => by simp [PySem.W.keyToksAll] at h
  | x :: xs, [], _, _, h => by simp [PySem.W.keyToksAll] at h
  | x :: xs, y :: ys, h1, h2, h => by
    have hx := h1 x (by simp)
    have hy := h2 y (by simp)
    cases x <;> simp [isS] at hx
    cases y <;> simp [isS] at hy
    rename_i a b
    simp only [List.map_cons, D.py, PySem.W.keyToksAll, PySem.W.keyToks, List.singleton_append, List.cons.injEq, Sum.inr.injEq, true_and] at h
    rw [PySem.W.str_of_cps h.1, toks_inj (fun x hx => h1 x (by simp [hx])) (fun x hx => h2 x (by simp [hx])) h.2]
def isF (d : D) : Bool := isS d || isTS d
theorem dLe_tot : PySem.W.TotalLe dLe := by
  unfold dLe PySem.W.dataLe
  exact PySem.W.sortLe_total _ _ _
theorem dLe_anti {d e : D} (hd : isTS d = true) (he : isTS e = true) (h : dLe d e = true) (h' : dLe e d = true) : d = e := by
  have h1 : (!PySem.W.dataLt (e.py 2) (d.py 2)) = true := h
  have h2 : (!PySem.W.dataLt (d.py 2) (e.py 2)) = true := h'
  rw [Bool.not_eq_true'] at h1 h2
  have h3 : PySem.W.keyToks (d.py 2) = PySem.W.keyToks (e.py 2) := (PyProof.Rows.listOrd PyProof.Rows.itemOrd).total _ _ h2 h1
  obtain ⟨x, r, rfl, hx⟩ := isTS_ex hd
  obtain ⟨y, t, rfl, hy⟩ := isTS_ex he
  simp only [D.py, PySem.W.keyToks] at h3
  rw [toks_inj hx hy h3]
theorem dLe_antiS {d e : D} (hd : isS d = true) (he : isS e = true) (h : dLe d e = true) (h' : dLe e d = true) : d = e := by
  have h1 : (!PySem.W.dataLt (e.py 2) (d.py 2)) = true := h
  have h2 : (!PySem.W.dataLt (d.py 2) (e.py 2)) = true := h'
  rw [Bool.not_eq_true'] at h1 h2
  have h3 : PySem.W.keyToks (d.py 2) = PySem.W.keyToks (e.py 2) := (PyProof.Rows.listOrd PyProof.Rows.itemOrd).total _ _ h2 h1
  cases d <;> simp [isS] at hd
  cases e <;> simp [isS] at he
  simp only [D.py, PySem.W.keyToks, List.cons.injEq, Sum.inr.injEq, and_true] at h3
  rw [PySem.W.str_of_cps h3]
noncomputable def srt (ds : List D) : List D := ds.mergeSort dLe
theorem srt_perm (ds : List D) : (srt ds).Perm ds := List.mergeSort_perm _ _
theorem srt_mem {ds : List D} {x : D} : x ∈ srt ds ↔ x ∈ ds := (srt_perm ds).mem_iff
theorem srt_pw (ds : List D) : (srt ds).Pairwise fun a b => dLe a b = true :=
  List.pairwise_mergeSort (fun a b c => dLe_tot.trans a b c) (fun a b => by rcases dLe_tot.total a b with h | h <;> simp [h]) ds
/-- two rows in order of the same facts, none twice, are one -/
theorem srt_eq {as bs : List D} (ha : as.Pairwise fun a b => dLe a b = true) (hb : bs.Pairwise fun a b => dLe a b = true) (hn : as.Nodup) (hm : bs.Nodup) (h : ∀ x, x ∈ as ↔ x ∈ bs) (hf : (∀ x ∈ as, isTS x = true) ∨ ∀ x ∈ as, isS x = true) : as = bs := by
  refine List.Perm.eq_of_pairwise (le := fun a b => dLe a b = true) (fun a b h1 h2 h3 h4 => ?_) ha hb ((List.perm_ext_iff_of_nodup hn hm).mpr h)
  rcases hf with hf | hf
  · exact dLe_anti (hf a h1) (hf b ((h b).mpr h2)) h3 h4
  · exact dLe_antiS (hf a h1) (hf b ((h b).mpr h2)) h3 h4
theorem sortable_ts {ds : List D} (h : ∀ d ∈ ds, isTS d = true) : sortable ds = true := by
  unfold sortable
  rw [List.all_eq_true.mpr h]
  simp
theorem sortable_s {ds : List D} (h : ∀ d ∈ ds, isS d = true) : sortable ds = true := by
  unfold sortable
  rw [List.all_eq_true.mpr h]
  simp
theorem sorted_ts {ds : List D} (h : ∀ d ∈ ds, isTS d = true) : oSorted [.lst ds] = .ok (.lst (srt ds)) := by
  unfold oSorted
  simp only [sortable_ts h, if_true]; rfl
theorem sorted_s {ds : List D} (h : ∀ d ∈ ds, isS d = true) : oSorted [.lst ds] = .ok (.lst (srt ds)) := by
  unfold oSorted
  simp only [sortable_s h, if_true]; rfl
theorem filter_pw {p : D → Bool} {ds : List D} (h : ds.Pairwise fun a b => dLe a b = true) : (ds.filter p).Pairwise fun a b => dLe a b = true := h.filter p

/-! ### what stands in rules -/
def Rl.all (r : Rl) : List D := [r.h] ++ r.ys ++ r.ns
theorem Rl.ok.all {r : Rl} (h : r.ok) : ∀ x ∈ r.all, isTS x = true := by
  intro x hx
  unfold Rl.all at hx
  simp at hx
  rcases hx with rfl | hx | hx
  · exact h.h
  · exact h.ys x hx
  · exact h.ns x hx
def Stands (rs : List Rl) (x : D) : Prop := ∃ r ∈ rs, x ∈ r.all
/-- facts put into a dict, one by one -/
theorem put_all {b : SDen} {L : List Md} {i : Nat} {R : D → Prop} {N : Gm → Prop} {fs gs : List D} (G : List D → Gm)
    (hb : ∀ d gs (N' : Gm → Prop), isTS d = true → (∀ g ∈ gs, isTS g = true) → gs.length < 16777216 → (∀ Γ', clr L Γ' = G (if d ∈ gs then gs else gs ++ [d]) → N' Γ') → Wp (b ((G gs).set i (some d))) N' R)
    (hf : ∀ d ∈ fs, isTS d = true) (hg : ∀ d ∈ gs, isTS d = true) (hn : gs.Nodup) (hl : gs.length + fs.length < 16777216)
    (h : ∀ hs : List D, hs.Nodup → hs.length ≤ gs.length + fs.length → (∀ x, x ∈ hs ↔ x ∈ gs ∨ x ∈ fs) → N (G hs)) : Wp (forD L i b fs (G gs)) N R := by
  refine for_idx (fun k Γ => ∃ hs, Γ = G hs ∧ hs.Nodup ∧ hs.length ≤ gs.length + k ∧ ∀ x, x ∈ hs ↔ x ∈ gs ∨ x ∈ fs.take k) ⟨gs, rfl, hn, by omega, by simp⟩ ?_ ?_
  · rintro k d Γ hk ⟨hs, rfl, h1, h2, h3⟩ N' hN
    have hlt := (List.getElem?_eq_some_iff.mp hk).1
    have hd := hf d (List.mem_of_getElem? hk)
    have hht : ∀ g ∈ hs, isTS g = true := fun g h => by
      rcases (h3 g).mp h with h | h
      · exact hg g h
      · exact hf g (List.mem_of_mem_take h)
    refine hb d hs N' hd hht (by omega) fun Γ' e => hN _ ⟨_, e, ?_, ?_, ?_⟩
    · split
      · exact h1
      · rename_i hm
        rw [List.nodup_append]
        exact ⟨h1, by simp, fun a ha b hb => by simp at hb; subst hb; rintro rfl; exact hm ha⟩
    · split
      · omega
      · simp; omega
    · intro x
      have ht : x ∈ fs.take (k + 1) ↔ (x ∈ fs.take k ∨ x = d) := by rw [List.take_add_one, hk]; simp
      rw [ht, ← or_assoc, ← h3]
      split
      · rename_i hm
        exact ⟨fun h => .inl h, fun h => h.elim id fun e => e ▸ hm⟩
      · simp
  · rintro Γ ⟨hs, rfl, h1, h2, h3⟩
    exact h hs h1 (by omega) (by simpa using h3)
theorem standing_is {rs : List Rl} (hr : ∀ r ∈ rs, r.ok) (hl : ∀ r ∈ rs, r.all.length ≤ 100) (hl2 : rs.length ≤ 100000) : ∃ ds, f_standing [.lst (rs.map Rl.d)] = .ok (.lst ds) ∧ ds.Nodup ∧ (ds.Pairwise fun a b => dLe a b = true) ∧ (∀ x ∈ ds, isTS x = true) ∧ (∀ x, x ∈ ds ↔ Stands rs x) ∧ ds.length ≤ 100 * rs.length := by
  suffices h : Is (f_standing [.lst (rs.map Rl.d)]) fun d => ∃ ds, d = .lst ds ∧ ds.Nodup ∧ (ds.Pairwise fun a b => dLe a b = true) ∧ (∀ x ∈ ds, isTS x = true) ∧ (∀ x, x ∈ ds ↔ Stands rs x) ∧ ds.length ≤ 100 * rs.length by
    obtain ⟨d, e, ds, rfl, h⟩ := is_ex h
    exact ⟨ds, e, h⟩
  refine run_p fun R hR => ?_
  unfold g_standing
  simp
  refine for_idx (fun k Γ => ∃ gs, Γ = [none, some (dOf gs), none, none] ∧ gs.Nodup ∧ gs.length ≤ 100 * k ∧ ∀ x, x ∈ gs ↔ Stands (rs.take k) x) ⟨[], rfl, List.nodup_nil, by simp, by simp [Stands]⟩ ?_ ?_
  · rintro k d Γ hk ⟨gs, rfl, h1, h2, h3⟩ N hN
    rw [List.getElem?_map] at hk
    obtain ⟨r, hrk, rfl⟩ := Option.map_eq_some_iff.mp hk
    have hlt := (List.getElem?_eq_some_iff.mp hrk).1
    have hrm := List.mem_of_getElem? hrk
    have hra := hl r hrm
    have hok := (hr r hrm).all
    have ht : ∀ x, Stands (rs.take (k + 1)) x ↔ Stands (rs.take k) x ∨ x ∈ r.all := by
      intro x
      unfold Stands
      rw [List.take_add_one, hrk]
      simp only [Option.toList_some, List.mem_append, List.mem_singleton]
      constructor
      · rintro ⟨q, hq | rfl, hx⟩
        · exact .inl ⟨q, hq, hx⟩
        · exact .inr hx
      · rintro (⟨q, hq, hx⟩ | hx)
        · exact ⟨q, .inl hq, hx⟩
        · exact ⟨r, .inr rfl, hx⟩
    have hgt : ∀ g ∈ gs, isTS g = true := fun g h => by
      obtain ⟨q, hq, hx⟩ := (h3 g).mp h
      exact (hr q (List.mem_of_mem_take hq)).all g hx
    have e : r.all = r.h :: (r.ys ++ r.ns) := rfl
    rw [e] at hra hok ht
    simp only [List.length_cons, List.length_append] at hra
    simp [Rl.d]
    refine ⟨by unfold sizeLine; omega, by unfold sizeLine; omega, ?_⟩
    refine put_all (fun gs => [none, some (dOf gs), none, none]) ?_ hok hgt h1 (by simp; omega) ?_
    · intro d gs N' hd hg hgl hN'
      simp [isDict_dOf, put_dOf hg hd hgl]
      exact hN' _ rfl
    · intro hs a1 a2 a3
      refine hN _ ⟨hs, rfl, a1, ?_, ?_⟩
      · simp at a2; omega
      · intro x
        rw [a3, h3, ht]
  · rintro Γ ⟨gs, rfl, h1, h2, h3⟩
    simp only [List.length_map, List.take_length] at h2 h3
    have hgt : ∀ g ∈ gs, isTS g = true := fun g h => by
      obtain ⟨q, hq, hx⟩ := (h3 g).mp h
      exact (hr q hq).all g hx
    simp [list_dOf hgt, sorted_ts hgt]
    exact hR _ ⟨_, rfl, (srt_perm gs).nodup_iff.mpr h1, srt_pw gs, fun x hx => hgt x (srt_mem.mp hx), fun x => by rw [srt_mem, h3], by rw [(srt_perm gs).length_eq]; exact h2⟩
end L2.Nf

namespace L2.Nf
open PySem PySem.Spec PyProof.Rows

/-- whose head may be come to round the rules that are not refuted -/
inductive Able (rs : List Rl) (told ref : List D) : D → Prop where
  | mk {r : Rl} (hr : r ∈ rs) (hn : ∀ y ∈ r.ns, y ∉ told) (hy : ∀ y ∈ r.ys, y ∉ ref) (ha : ∀ y ∈ r.ys, y ∉ told → Able rs told ref y) : Able rs told ref r.h
theorem may_hold_is {n h : D} {ys ns yes no ab : List D} (h1 : ∀ g ∈ ys, isTS g = true) (h2 : ∀ g ∈ ns, isTS g = true) (h3 : ∀ g ∈ yes, isTS g = true) (h4 : ∀ g ∈ no, isTS g = true) (h5 : ∀ g ∈ ab, isTS g = true) :
    f_may_hold [.tup [n, h, .tup ys, .tup ns], dOf yes, dOf no, dOf ab] = .ok (.bl (decide ((∀ y ∈ ns, y ∉ yes) ∧ ∀ y ∈ ys, y ∉ no ∧ (y ∈ yes ∨ y ∈ ab)))) := by
  refine is_ok (run_p fun R hR => ?_)
  have hR := hR _ rfl
  unfold g_may_hold
  simp
  refine for_all (P := (decide <| · ∉ yes)) (r := .bl false) ?_ ?_ ?_
  · intro d hd
    simp [in_dOf h3 (h2 d hd)]
  · intro ha
    simp
    refine for_all (P := fun y => decide (y ∉ no ∧ (y ∈ yes ∨ y ∈ ab))) (r := .bl false) ?_ ?_ ?_
    · intro d hd
      simp [in_dOf h3 (h1 d hd), in_dOf h4 (h1 d hd), in_dOf h5 (h1 d hd)]
      by_cases c1 : d ∈ no <;> by_cases c2 : d ∈ yes <;> by_cases c3 : d ∈ ab <;> simp [c1, c2, c3]
    · intro ha2
      simp at ha ha2
      rw [decide_eq_true ⟨ha, ha2⟩] at hR
      exact hR
    · intro ha2
      rw [decide_eq_false (fun q => by
        have : (ys.all fun y => decide (y ∉ no ∧ (y ∈ yes ∨ y ∈ ab))) = true := List.all_eq_true.mpr fun y hy => decide_eq_true (q.2 y hy)
        rw [this] at ha2; cases ha2)] at hR
      exact hR
  · intro ha
    rw [decide_eq_false (fun q => by
      have : (ns.all (decide <| · ∉ yes)) = true := List.all_eq_true.mpr fun y hy => decide_eq_true (q.1 y hy)
      rw [this] at ha; cases ha)] at hR
    exact hR
structure Kept (rs : List Rl) (told ref out : List D) : Prop where
  nd : out.Nodup
  so : out.Pairwise fun a b => dLe a b = true
  ts : ∀ x ∈ out, isTS x = true
  mem : ∀ x, x ∈ out ↔ Stands rs x ∧ x ∉ told ∧ x ∉ ref ∧ ¬ Able rs told ref x
theorem Kept.uniq {rs : List Rl} {told ref a b : List D} (h : Kept rs told ref a) (h' : Kept rs told ref b) : a = b :=
  srt_eq h.so h'.so h.nd h'.nd (fun x => by rw [h.mem, h'.mem]) (.inl h.ts)
theorem kept_out_is {rs : List Rl} {told ref : List D} (hr : ∀ r ∈ rs, r.ok) (hal : ∀ r ∈ rs, r.all.length ≤ 100) (ht : ∀ g ∈ told, isTS g = true) (hf : ∀ g ∈ ref, isTS g = true) (hl : rs.length ≤ 100000) (hl1 : told.length < 16777216) (hl2 : ref.length < 16777216) :
    ∃ out, f_kept_out [.lst (rs.map Rl.d), .lst told, .lst ref] = .ok (.lst out) ∧ Kept rs told ref out ∧ out.length ≤ 100 * rs.length := by
  suffices h : Is (f_kept_out [.lst (rs.map Rl.d), .lst told, .lst ref]) fun d => ∃ out, d = .lst out ∧ Kept rs told ref out ∧ out.length ≤ 100 * rs.length by
    obtain ⟨d, e, rows, rfl, h⟩ := is_ex h
    exact ⟨rows, e, h⟩
  obtain ⟨Y, eY, hY1, hY2, hY3⟩ := as_keys_is ht (by omega)
  obtain ⟨F, eF, hF1, hF2, hF3⟩ := as_keys_is hf (by omega)
  obtain ⟨S, eS, hS1, hS2, hS3, hS4, hS5⟩ := standing_is hr hal hl
  have hFt : ∀ g ∈ F, isTS g = true := fun g h => hf g ((hF3 g).mp h)
  have hYt : ∀ g ∈ Y, isTS g = true := fun g h => ht g ((hY3 g).mp h)
  refine run_p fun R hR => ?_
  unfold g_kept_out
  simp [eY, eF]
  let G : List D → Bool → Gm := fun A m => [some (.lst (rs.map Rl.d)), none, none, some (dOf Y), some (dOf F), some (dOf A), some (.bl m), none, none]
  let J : List D → Prop := fun A => (∀ x ∈ A, Able rs told ref x) ∧ cnt rs A + A.length ≤ rs.length ∧ ∀ g ∈ A, isTS g = true
  let May : List D → Rl → Prop := fun A r => (∀ y ∈ r.ns, y ∉ Y) ∧ ∀ y ∈ r.ys, y ∉ F ∧ (y ∈ Y ∨ y ∈ A)
  refine while_rel (fun n Γ => ∃ A m, Γ = G A m ∧ J A ∧ n = 2 * cnt rs A + (if m then 1 else 0) ∧ (m = false → ∀ r ∈ rs, May A r → r.h ∈ A)) ?_ (n := 2 * cnt rs [] + 1) ⟨[], true, rfl, ⟨by simp, by simp [cnt], by simp⟩, rfl, by simp⟩
  · rintro n Γ ⟨A, m, rfl, hJ, rfl, hm⟩ N hN
    simp [G]
    cases m with
    | false =>
      simp [eS]
      have hcl : ∀ x, x ∈ A ↔ Able rs told ref x := fun x => ⟨hJ.1 x, fun h => by
        induction h with
        | mk hr hn hy ha ih => exact hm rfl _ hr ⟨fun y h q => hn y h ((hY3 y).mp q), fun y h => ⟨fun q => hy y h ((hF3 y).mp q), by
            by_cases c : y ∈ told
            · exact .inl ((hY3 y).mpr c)
            · exact .inr (ih y h c)⟩⟩⟩
      rw [comp_filter (g := fun x => decide (x ∉ Y ∧ x ∉ F ∧ x ∉ A)) (f := id)]
      · simp
        refine hR _ ⟨_, rfl, ⟨hS1.filter _, hS2.filter _, fun x hx => hS3 x ((List.mem_filter.mp hx).1), fun x => ?_⟩, ?_⟩
        · simp [hS4, hY3, hF3, hcl]
        · have := List.length_filter_le (fun x => !decide (x ∈ Y) && (!decide (x ∈ F) && !decide (x ∈ A))) S
          omega
      · intro d hd
        refine is_ok ?_
        simp [in_dOf hYt (hS3 d hd), in_dOf hFt (hS3 d hd), in_dOf hJ.2.2 (hS3 d hd)]
        by_cases c1 : d ∈ Y <;> by_cases c2 : d ∈ F <;> by_cases c3 : d ∈ A <;> simp [c1, c2, c3]
      · intro d hd _
        refine is_ok ?_
        simp
    | true =>
      simp
      refine for_idx (fun k Γ => ∃ A' m', Γ = G A' m' ∧ J A' ∧ (m' = true → cnt rs A' < cnt rs A) ∧ (m' = false → A' = A ∧ ∀ j r, j < k → rs[j]? = some r → May A r → r.h ∈ A)) ⟨A, false, rfl, hJ, by simp, fun _ => ⟨rfl, fun j r h => absurd h (Nat.not_lt_zero _)⟩⟩ ?_ ?_
      · rintro k d Γ hk ⟨A', m', rfl, hJ', h1, h2⟩ N' hN'
        rw [List.getElem?_map] at hk
        obtain ⟨r, hrk, rfl⟩ := Option.map_eq_some_iff.mp hk
        have hrm := List.mem_of_getElem? hrk
        have hro := hr r hrm
        have hno : (May A' r → r.h ∈ A') → N' [some (.lst (rs.map Rl.d)), none, none, some (dOf Y), some (dOf F), some (dOf A'), some (.bl m'), some r.d, none] := by
          intro hn
          refine hN' _ ⟨A', m', rfl, hJ', h1, fun hm => ?_⟩
          obtain ⟨rfl, h3⟩ := h2 hm
          refine ⟨rfl, fun j q hj hq => ?_⟩
          rcases Nat.lt_succ_iff_lt_or_eq.mp hj with hj | rfl
          · exact h3 j q hj hq
          · rw [hrk] at hq; cases hq; exact hn
        rw [Rl.d] at hno ⊢
        simp [G, in_dOf hJ'.2.2 hro.h, may_hold_is hro.ys hro.ns hYt hFt hJ'.2.2]
        by_cases c1 : r.h ∈ A'
        · rw [if_pos c1]
          exact hno fun _ => c1
        rw [if_neg c1]
        by_cases c3 : May A' r
        · rw [if_pos c3]
          have hcnt := cnt_lt hrm c1
          obtain ⟨j1, j2, j3⟩ := hJ'
          refine ⟨rfl, ?_⟩
          rw [put_dOf j3 hro.h (by unfold sizeLine; omega), if_neg c1]
          refine hN' _ ⟨A' ++ [r.h], true, rfl, ⟨?_, by simp; omega, ?_⟩, ?_, by simp⟩
          · intro x hx
            rcases List.mem_append.mp hx with hx | hx
            · exact j1 x hx
            · rw [List.mem_singleton.mp hx]
              exact .mk hrm (fun y h q => c3.1 y h ((hY3 y).mpr q)) (fun y h q => (c3.2 y h).1 ((hF3 y).mpr q)) fun y h q => by
                rcases (c3.2 y h).2 with c | c
                · exact absurd ((hY3 y).mp c) q
                · exact j1 y c
          · intro g hg
            rcases List.mem_append.mp hg with hg | hg
            · exact j3 g hg
            · rw [List.mem_singleton.mp hg]; exact hro.h
          · intro _
            cases m' with
            | true => have := h1 rfl; omega
            | false => obtain ⟨rfl, _⟩ := h2 rfl; exact hcnt
        · rw [if_neg c3]
          exact hno fun q => absurd q c3
      · rintro Γ ⟨A', m', rfl, hJ', h1, h2⟩
        refine hN _ _ ?_ ⟨A', m', rfl, hJ', rfl, fun hm => ?_⟩
        · cases m' with
          | true => have := h1 rfl; simp; omega
          | false => obtain ⟨rfl, _⟩ := h2 rfl; simp
        · obtain ⟨rfl, h3⟩ := h2 hm
          intro r hr
          obtain ⟨j, hj⟩ := List.mem_iff_getElem?.mp hr
          exact h3 j r (by simpa using (List.getElem?_eq_some_iff.mp hj).1) hj
end L2.Nf

namespace L2.Nf
open PySem PySem.Spec PyProof.Rows

def Blk (told ref L : List D) (r : Rl) : Prop := (∃ y ∈ r.ys, y ∈ ref ∨ y ∈ L) ∨ ∃ y ∈ r.ns, y ∈ told
theorem blocked_is {n h : D} {ys ns told ref L : List D} (h1 : ∀ g ∈ ys, isTS g = true) (h2 : ∀ g ∈ ns, isTS g = true) (h3 : ∀ g ∈ told, isTS g = true) (h4 : ∀ g ∈ ref, isTS g = true) (h5 : ∀ g ∈ L, isTS g = true) :
    f__law_blocked [.tup [n, h, .tup ys, .tup ns], .lst told, .lst ref, .lst L] = .ok (.bl (decide ((∃ y ∈ ys, y ∈ ref ∨ y ∈ L) ∨ ∃ y ∈ ns, y ∈ told))) := by
  refine is_ok (run_p fun R hR => ?_)
  have hR := hR _ rfl
  unfold g__law_blocked
  simp
  refine for_all (P := fun y => !decide (y ∈ ref ∨ y ∈ L)) (r := .bl true) ?_ ?_ ?_
  · intro d hd
    by_cases c1 : d ∈ ref <;> by_cases c2 : d ∈ L <;> simp [in_ts (h1 d hd) h4, in_ts (h1 d hd) h5, c1, c2]
  · intro ha
    have na : ¬ ∃ y ∈ ys, y ∈ ref ∨ y ∈ L := by
      rintro ⟨y, hy, h⟩
      have := List.all_eq_true.mp ha y hy
      simp [h] at this
    simp
    refine for_all (P := fun y => !decide (y ∈ told)) (r := .bl true) ?_ ?_ ?_
    · intro d hd
      by_cases c1 : d ∈ told <;> simp [in_ts (h2 d hd) h3, c1]
    · intro ha2
      rw [decide_eq_false (fun q => q.elim na fun ⟨y, hy, h⟩ => by
        have := List.all_eq_true.mp ha2 y hy
        simp [h] at this)] at hR
      simpa using hR
    · intro ha2
      obtain ⟨y, hy, h⟩ := List.all_eq_false.mp ha2
      rw [decide_eq_true (.inr ⟨y, hy, by simpa using h⟩)] at hR
      exact hR
  · intro ha
    obtain ⟨y, hy, h⟩ := List.all_eq_false.mp ha
    have h' : y ∈ ref ∨ y ∈ L := by
      by_cases c : y ∈ ref ∨ y ∈ L
      · exact c
      · rw [decide_eq_false c] at h; exact absurd rfl h
    rw [decide_eq_true (.inl ⟨y, hy, h'⟩)] at hR
    exact hR
theorem stands_take {rs : List Rl} {k : Nat} {r : Rl} (hrk : rs[k]? = some r) (x : D) : Stands (rs.take (k + 1)) x ↔ Stands (rs.take k) x ∨ x ∈ r.all := by
  unfold Stands
  rw [List.take_add_one, hrk]
  simp only [Option.toList_some, List.mem_append, List.mem_singleton]
  constructor
  · rintro ⟨q, hq | rfl, hx⟩
    · exact .inl ⟨q, hq, hx⟩
    · exact .inr hx
  · rintro (⟨q, hq, hx⟩ | hx)
    · exact ⟨q, .inl hq, hx⟩
    · exact ⟨r, .inr rfl, hx⟩
theorem left_is {rs : List Rl} {told ref : List D} (hr : ∀ r ∈ rs, r.ok) (hal : ∀ r ∈ rs, r.all.length ≤ 100) (ht : ∀ g ∈ told, isTS g = true) (hf : ∀ g ∈ ref, isTS g = true) (hl : rs.length ≤ 100000) :
    ∃ out, f__law_left [.lst (rs.map Rl.d), .lst told, .lst ref] = .ok (.lst out) ∧ Kept rs told ref out := by
  suffices h : Is (f__law_left [.lst (rs.map Rl.d), .lst told, .lst ref]) fun d => ∃ out, d = .lst out ∧ Kept rs told ref out by
    obtain ⟨d, e, rows, rfl, h⟩ := is_ex h
    exact ⟨rows, e, h⟩
  refine run_p fun R hR => ?_
  unfold g__law_left
  simp
  let G : List D → Gm := fun L => [some (.lst (rs.map Rl.d)), some (.lst told), some (.lst ref), some (.lst L), none, none, none]
  refine for_idx (fun k Γ => ∃ L, Γ = G L ∧ L.Nodup ∧ L.length ≤ 100 * k ∧ (∀ x ∈ L, isTS x = true) ∧ ∀ x, x ∈ L ↔ Stands (rs.take k) x ∧ x ∉ told ∧ x ∉ ref) ⟨[], rfl, List.nodup_nil, by simp, by simp, by simp [Stands]⟩ ?_ ?_
  · rintro k d Γ hk ⟨L, rfl, h1, h2, h3, h4⟩ N hN
    rw [List.getElem?_map] at hk
    obtain ⟨r, hrk, rfl⟩ := Option.map_eq_some_iff.mp hk
    have hlt := (List.getElem?_eq_some_iff.mp hrk).1
    have hrm := List.mem_of_getElem? hrk
    have hra := hal r hrm
    have hok := (hr r hrm).all
    have hst := stands_take hrk
    have e : r.all = r.h :: (r.ys ++ r.ns) := rfl
    rw [e] at hra hok hst
    simp only [List.length_cons, List.length_append] at hra
    simp [Rl.d, G]
    refine ⟨by unfold sizeLine; omega, by unfold sizeLine; omega, ?_⟩
    generalize hfs : r.h :: (r.ys ++ r.ns) = fs at hok hst
    have hfl : fs.length ≤ 100 := by rw [← hfs]; simp; omega
    clear hfs
    refine for_idx (fun j Γ => ∃ L', Γ = G L' ∧ L'.Nodup ∧ L'.length ≤ L.length + j ∧ (∀ x ∈ L', isTS x = true) ∧ ∀ x, x ∈ L' ↔ x ∈ L ∨ (x ∈ fs.take j ∧ x ∉ told ∧ x ∉ ref)) ⟨L, rfl, h1, by simp, h3, by simp⟩ ?_ ?_
    · rintro j d Γ hj ⟨L', rfl, a1, a2, a3, a4⟩ N' hN'
      have hjl := (List.getElem?_eq_some_iff.mp hj).1
      have hd := hok d (List.mem_of_getElem? hj)
      have htk : ∀ x, x ∈ fs.take (j + 1) ↔ x ∈ fs.take j ∨ x = d := by
        intro x
        rw [List.take_add_one, hj]
        simp
      simp [G, in_ts hd ht, in_ts hd hf, in_ts hd a3]
      have hno : (d ∈ told ∨ d ∈ ref ∨ d ∈ L') → N' [some (.lst (rs.map Rl.d)), some (.lst told), some (.lst ref), some (.lst L'), none, some d, none] := by
        intro hc
        refine hN' _ ⟨L', rfl, a1, by omega, a3, fun x => ?_⟩
        rw [htk, a4]
        constructor
        · rintro (h | ⟨h, h'⟩)
          · exact .inl h
          · exact .inr ⟨.inl h, h'⟩
        · rintro (h | ⟨h | rfl, h', h''⟩)
          · exact .inl h
          · exact .inr ⟨h, h', h''⟩
          · rcases hc with hc | hc | hc
            · exact absurd hc h'
            · exact absurd hc h''
            · exact (a4 x).mp hc
      by_cases c1 : d ∈ told
      · rw [if_pos c1]; exact hno (.inl c1)
      by_cases c2 : d ∈ ref
      · rw [if_neg c1, if_pos c2]; exact hno (.inr (.inl c2))
      by_cases c3 : d ∈ L'
      · rw [if_neg c1, if_neg c2, if_pos c3]; exact hno (.inr (.inr c3))
      rw [if_neg c1, if_neg c2, if_neg c3]
      refine ⟨by unfold sizeLine; omega, hN' _ ⟨L' ++ [d], rfl, ?_, by simp; omega, ?_, fun x => ?_⟩⟩
      · rw [List.nodup_append]
        exact ⟨a1, by simp, fun a ha b hb => by simp at hb; subst hb; rintro rfl; exact c3 ha⟩
      · intro x hx
        rcases List.mem_append.mp hx with hx | hx
        · exact a3 x hx
        · rw [List.mem_singleton.mp hx]; exact hd
      · rw [htk, List.mem_append, a4, List.mem_singleton]
        constructor
        · rintro ((h | ⟨h, h'⟩) | rfl)
          · exact .inl h
          · exact .inr ⟨.inl h, h'⟩
          · exact .inr ⟨.inr rfl, c1, c2⟩
        · rintro (h | ⟨h | rfl, h', h''⟩)
          · exact .inl (.inl h)
          · exact .inl (.inr ⟨h, h', h''⟩)
          · exact .inr rfl
    · rintro Γ ⟨L', rfl, a1, a2, a3, a4⟩
      refine hN _ ⟨L', rfl, a1, by omega, a3, fun x => ?_⟩
      rw [a4, hst, h4, List.take_length]
      constructor
      · rintro (⟨h, h'⟩ | ⟨h, h'⟩)
        · exact ⟨.inl h, h'⟩
        · exact ⟨.inr h, h'⟩
      · rintro ⟨h | h, h'⟩
        · exact .inl ⟨h, h'⟩
        · exact .inr ⟨h, h'⟩
  · rintro Γ ⟨L0, rfl, h1, h2, h3, h4⟩
    simp only [List.length_map, List.take_length] at h2 h4
    simp [G]
    refine ⟨by omega, ?_⟩
    let Stable : List D → Prop := fun L => ∀ r ∈ rs, r.h ∈ L → Blk told ref L r
    let J : List D → Prop := fun L => L.Nodup ∧ (∀ x ∈ L, isTS x = true) ∧ (∀ x ∈ L, Stands rs x ∧ x ∉ told ∧ x ∉ ref) ∧ ∀ x, Stands rs x → x ∉ told → x ∉ ref → x ∉ L → Able rs told ref x
    refine for_rng (fun k Γ => ∃ L, Γ = G L ∧ J L ∧ (Stable L ∨ L.length + k ≤ L0.length)) ⟨L0, rfl, ⟨h1, h3, fun x hx => (h4 x).mp hx, fun x a b c d => absurd ((h4 x).mpr ⟨a, b, c⟩) d⟩, .inr (by omega)⟩ ?_ ?_
    · rintro k Γ hk ⟨L, rfl, hJ, hS⟩ N hN
      simp [G]
      refine for_idx (fun j Γ => ∃ L', Γ = G L' ∧ J L' ∧ ((L' = L ∧ ∀ i r, i < j → rs[i]? = some r → r.h ∈ L → Blk told ref L r) ∨ (L'.length < L.length ∧ ¬ Stable L))) ⟨L, rfl, hJ, .inl ⟨rfl, fun i r h => absurd h (Nat.not_lt_zero _)⟩⟩ ?_ ?_
      · rintro j d Γ hj ⟨L', rfl, hJ', hC⟩ N' hN'
        rw [List.getElem?_map] at hj
        obtain ⟨r, hrk, rfl⟩ := Option.map_eq_some_iff.mp hj
        have hrm := List.mem_of_getElem? hrk
        have hro := hr r hrm
        obtain ⟨j1, j2, j3, j4⟩ := hJ'
        have hno : (r.h ∈ L' → Blk told ref L' r) → N' [some (.lst (rs.map Rl.d)), some (.lst told), some (.lst ref), some (.lst L'), some r.d, none, none] := by
          intro hc
          refine hN' _ ⟨L', rfl, ⟨j1, j2, j3, j4⟩, ?_⟩
          rcases hC with ⟨rfl, hC⟩ | hC
          · refine .inl ⟨rfl, fun i q hi hq => ?_⟩
            rcases Nat.lt_succ_iff_lt_or_eq.mp hi with hi | rfl
            · exact hC i q hi hq
            · rw [hrk] at hq; cases hq; exact hc
          · exact .inr hC
        rw [Rl.d] at hno ⊢
        simp [G, in_ts hro.h j2, blocked_is hro.ys hro.ns ht hf j2]
        by_cases c1 : r.h ∈ L'
        · rw [if_pos c1]
          by_cases c2 : Blk told ref L' r
          · have c3 : (∃ y, y ∈ r.ys ∧ (y ∈ ref ∨ y ∈ L')) ∨ ∃ y, y ∈ r.ns ∧ y ∈ told := c2
            rw [if_pos c3]
            exact hno fun _ => c2
          · have c3 : ¬ ((∃ y, y ∈ r.ys ∧ (y ∈ ref ∨ y ∈ L')) ∨ ∃ y, y ∈ r.ns ∧ y ∈ told) := c2
            have q : (∀ (x : D), x ∈ r.ys → ¬x ∈ ref ∧ ¬x ∈ L') ∧ ∀ (x : D), x ∈ r.ns → ¬x ∈ told :=
              ⟨fun x hx => ⟨fun h => c2 (.inl ⟨x, hx, .inl h⟩), fun h => c2 (.inl ⟨x, hx, .inr h⟩)⟩, fun x hx h => c2 (.inr ⟨x, hx, h⟩)⟩
            rw [if_neg c3]
            rw [comp_filter (g := fun x => !decide (x = r.h)) (f := id)]
            · simp
              have hlt : (L'.filter fun x => !decide (x = r.h)).length < L'.length := by
                have h := List.length_eq_countP_add_countP (fun x => !decide (x = r.h)) (l := L')
                rw [← List.countP_eq_length_filter]
                have : 0 < L'.countP (fun a => decide ¬(!decide (a = r.h)) = true) := List.countP_pos_iff.mpr ⟨r.h, c1, by simp⟩
                omega
              refine hN' _ ⟨L'.filter fun x => !decide (x = r.h), rfl, ⟨j1.filter _, fun x hx => j2 x (List.mem_filter.mp hx).1, fun x hx => j3 x (List.mem_filter.mp hx).1, fun x a b c d => ?_⟩, .inr ?_⟩
              · by_cases e : x = r.h
                · subst e
                  exact .mk hrm q.2 (fun y hy => (q.1 y hy).1) fun y hy hyt => j4 y ⟨r, hrm, by unfold Rl.all; simp [hy]⟩ hyt (q.1 y hy).1 (q.1 y hy).2
                · refine j4 x a b c fun h => d (List.mem_filter.mpr ⟨h, by simpa using e⟩)
              · rcases hC with ⟨rfl, _⟩ | hC
                · exact ⟨hlt, fun hS => c2 (hS r hrm c1)⟩
                · exact ⟨by omega, hC.2⟩
            · intro d hd
              refine is_ok ?_
              simp [oNe_pl (pl_le (by decide) (isTS_pl (j2 d hd))) (pl_le (by decide) (isTS_pl hro.h))]
            · intro d hd _
              refine is_ok ?_
              simp
        · rw [if_neg c1]
          exact hno fun h => absurd h c1
      · rintro Γ ⟨L', rfl, hJ', hC⟩
        refine hN _ ⟨L', rfl, hJ', ?_⟩
        rcases hC with ⟨rfl, hC⟩ | ⟨hC, hC2⟩
        · refine .inl fun r hr => ?_
          obtain ⟨i, hi⟩ := List.mem_iff_getElem?.mp hr
          exact hC i r (by simpa using (List.getElem?_eq_some_iff.mp hi).1) hi
        · rcases hS with hS | hS
          · exact absurd hS hC2
          · exact .inr (by omega)
    · rintro Γ ⟨L, rfl, ⟨j1, j2, j3, j4⟩, hS⟩
      have hS : Stable L := by
        rcases hS with hS | hS
        · exact hS
        · intro r _ h
          have := List.length_pos_of_mem h; omega
      have hna : ∀ x, Able rs told ref x → x ∉ L := by
        intro x ha
        induction ha with
        | @mk r hr hn hy ha ih =>
          intro hL
          rcases hS r hr hL with ⟨y, h, h' | h'⟩ | ⟨y, h, h'⟩
          · exact hy y h h'
          · exact ih y h (j3 y h').2.1 h'
          · exact hn y h h'
      simp [G, sorted_ts j2]
      refine hR _ ⟨_, rfl, (srt_perm L).nodup_iff.mpr j1, srt_pw L, fun x hx => j2 x (srt_mem.mp hx), fun x => ?_⟩
      rw [srt_mem]
      exact ⟨fun h => ⟨(j3 x h).1, (j3 x h).2.1, (j3 x h).2.2, fun ha => hna x ha h⟩, fun ⟨a, b, c, d⟩ => Classical.byContradiction fun h => d (j4 x a b c h)⟩
end L2.Nf

namespace L2.Nf
open PySem PySem.Spec PyProof.Rows
theorem plain_k06 (ns : List Int) (hns : ns.length ≤ 63) : f_law_k06 [encI ns] = .ok (.bl true) := by
  refine is_ok (run_p fun R hR => ?_)
  unfold g_law_k06
  have hR := hR _ rfl
  have a2 := fmod_pos (a := cellD ns 2) (n := 8) (by omega)
  obtain ⟨fs, efs, hfs, hfl⟩ := atoms_is (ns := ns) (m := 2 + (cellD ns 2).fmod 8) (by omega) (by omega)
  simp [cell_at (ns := ns) (i := 2) (by decide), efs]
  refine ⟨by omega, ?_⟩
  refine comp_wp (P := fun _ d => ∃ i : Int, d = .int i) ?_ fun ss hss => ?_
  · intro d hd
    obtain ⟨i, hi, rfl⟩ := mem_rng hd
    have b1 := fmod_pos (a := (i : Int)) (n := 3) (by omega)
    have b2 := fmod_pos (a := (i : Int).fdiv 3) (n := 3) (by omega)
    have e1 := cell_at (ns := ns) (i := 3 + (i : Int).fmod 3) (by omega)
    obtain ⟨x, e2, _, j, rfl, hj⟩ := mem_get (P := fun d => ∃ j : Int, d = .int j ∧ (j = 1 ∨ j = 4 ∨ j = 16)) (xs := [D.int 1, D.int 4, D.int 16]) (by
      intro x hx
      simp at hx
      rcases hx with rfl | rfl | rfl
      · exact ⟨1, rfl, by simp⟩
      · exact ⟨4, rfl, by simp⟩
      · exact ⟨16, rfl, by simp⟩) b2.1 b2.2
    simp [e1, e2]
    rcases hj with rfl | rfl | rfl <;> decide
  have hsl := hss.len
  rw [rng_len] at hsl
  have hsi := hss.right (Q := fun d => ∃ i : Int, d = .int i) fun _ _ h => h
  refine ⟨by omega, ?_⟩
  refine comp_sub_wp (P := fun d => isTS d = true) ?_ fun told ht htl => ?_
  · intro d hd
    obtain ⟨i, hi, rfl⟩ := mem_rng hd
    obtain ⟨x, e1, _, j, rfl⟩ := mem_get (i := (i : Int)) hsi (by omega) (by omega)
    obtain ⟨y, e2, _, hy⟩ := mem_get (i := (i : Int)) hfs (by omega) (by omega)
    simp [e1, e2, hy]
  refine ⟨by omega, ?_⟩
  refine comp_sub_wp (P := fun d => isTS d = true) ?_ fun ref hf hfl2 => ?_
  · intro d hd
    obtain ⟨i, hi, rfl⟩ := mem_rng hd
    obtain ⟨x, e1, _, j, rfl⟩ := mem_get (i := (i : Int)) hsi (by omega) (by omega)
    obtain ⟨y, e2, _, hy⟩ := mem_get (i := (i : Int)) hfs (by omega) (by omega)
    simp [e1, e2, hy]
  rw [rng_len] at htl hfl2
  unfold encI
  simp
  refine comp_wp (P := fun _ d => IsRl fs d) ?_ fun ds hds => ?_
  · intro d hd
    obtain ⟨c, _, rfl⟩ := List.mem_map.mp (cut_mem hd)
    obtain ⟨d, e, h⟩ := ground_is (c := c) (fs := fs) (by omega) (by omega)
    simp [e, h]
  have hdl := hds.len
  have hcl := cut_le (xs := ns.map D.int) (l := some 6) (h := some 18)
  rw [hdl, List.length_map] at hcl
  obtain ⟨rs, rfl, hrs⟩ := rl_all hfs (hds.right (Q := IsRl fs) fun _ _ h => h)
  have hro : ∀ r ∈ rs, r.ok := fun r h => (hrs r h).1
  have hal : ∀ r ∈ rs, r.all.length ≤ 100 := fun r h => by
    have := (hrs r h).2
    unfold Rl.all
    simp; omega
  rw [List.length_map] at hcl
  obtain ⟨out, eo, ho, hol⟩ := kept_out_is (told := told) (ref := ref) hro hal ht hf (by omega) (by omega) (by omega)
  obtain ⟨out2, eo2, ho2⟩ := left_is (told := told) (ref := ref) hro hal ht hf (by omega)
  have := ho.uniq ho2
  subst this
  have q1 := oEq_pl (pl_hand hro ht hf) (pl_hand hro ht hf)
  have q2 := oEq_pl (pl_le (by decide) (pl_facts ho.ts) : (D.lst out).pl 8 = true) (pl_le (by decide) (pl_facts ho.ts) : (D.lst out).pl 8 = true)
  rw [decide_eq_true rfl] at q1 q2
  generalize D.lst [D.lst (List.map Rl.d rs), D.lst told, D.lst ref] = hand at q1 ⊢
  rw [eo, eo2]
  simp only [w_ok, ty_l, kit_ll, if_true, w_itL]
  rw [comp_filter (g := fun _ => false) (f := id)]
  · have e : oNe (D.lst []) (D.lst []) = .ok (.bl false) := ne_self rfl
    have e2 : (out.filter fun _ => false) = [] := by rw [List.filter_eq_nil_iff]; intro a _; simp
    simp only [e2, List.map_nil, w_ok, e, q2, q1, Bool.false_eq_true, if_false]
    exact hR
  · intro d hd
    refine is_ok ?_
    simp [ty_ts (ho.ts d hd)]
  · intro d hd h
    cases h
end L2.Nf

namespace L2.Nf
open PySem PySem.Spec PyProof.Rows

theorem for_foldl {α : Type} {L : List Md} {i : Nat} {b : SDen} (G : α → Gm) (f : α → D → α) (P : Nat → α → Prop) {R : D → Prop} {N : Gm → Prop} {ds : List D} {a0 : α} (h0 : P 0 a0)
    (hs : ∀ k d a (N' : Gm → Prop), ds[k]? = some d → P k a → P (k + 1) (f a d) ∧ ((∀ Γ', clr L Γ' = G (f a d) → N' Γ') → Wp (b ((G a).set i (some d))) N' R)) (hn : P ds.length (ds.foldl f a0) → N (G (ds.foldl f a0))) : Wp (forD L i b ds (G a0)) N R := by
  refine for_idx (fun k Γ => Γ = G ((ds.take k).foldl f a0) ∧ P k ((ds.take k).foldl f a0)) ⟨rfl, h0⟩ ?_ ?_
  · rintro k d Γ hk ⟨rfl, hp⟩ N' hN
    have e : (ds.take (k + 1)).foldl f a0 = f ((ds.take k).foldl f a0) d := by rw [List.take_add_one, hk]; simp
    refine (hs k d _ N' hk hp).2 fun Γ' h => hN _ ⟨by rw [e, h], by rw [e]; exact (hs k d _ N' hk hp).1⟩
  · rintro Γ ⟨rfl, hp⟩
    rw [List.take_length] at hp ⊢
    exact hn hp

abbrev qm : Str := PySem.Str.ofString "?"
theorem qm_eq : qm = ⟨#[63]⟩ := by decide +kernel
def isSl (d : D) : Prop := ∃ w, d = .str (qm ++ w) ∧ IsW lets w
def isTh (d : D) : Prop := ∃ w, d = .str w ∧ IsW sgns w
def Part (d : D) : Prop := isTh d ∨ isSl d
noncomputable instance (d : D) : Decidable (isSl d) := Classical.propDecidable _
noncomputable instance (A w : Str) : Decidable (IsW A w) := Classical.propDecidable _
noncomputable def sl (d : D) : Bool := decide (isSl d)
theorem q_no {w : Str} {A : Str} (hA : 63 ∉ A.cps.toList) (h : IsW A w) : ∃ c r, w.cps.toList = c :: r ∧ c ≠ 63 := by
  obtain ⟨h1, _, h3⟩ := h
  rw [len_eq] at h1
  cases e : w.cps.toList with
  | nil => rw [e] at h1; simp at h1
  | cons c r => exact ⟨c, r, rfl, fun z => hA (z ▸ h3 c (by rw [e]; simp))⟩
theorem q_sgns : 63 ∉ sgns.cps.toList := by decide +kernel
theorem q_lets : 63 ∉ lets.cps.toList := by decide +kernel
theorem lets_sgns : ∀ c ∈ lets.cps.toList, c ∈ sgns.cps.toList := by decide +kernel
theorem str_ext {x y : Str} (h : x.cps.toList = y.cps.toList) : x = y := PySem.W.str_of_cps h
theorem q_cps (w : Str) : (qm ++ w).cps.toList = 63 :: w.cps.toList := by rw [cps_app, qm_eq]; rfl
theorem th_nsl {d : D} (h : isTh d) : ¬ isSl d := by
  rintro ⟨w, rfl, _⟩
  obtain ⟨v, e, hv⟩ := h
  cases e
  obtain ⟨c, r, e, hc⟩ := q_no q_sgns hv
  rw [q_cps] at e
  cases e; exact hc rfl
theorem sl_th {d : D} (h : isTh d) : sl d = false := decide_eq_false (th_nsl h)
theorem sl_sl {d : D} (h : isSl d) : sl d = true := decide_eq_true h
theorem Part.isS {d : D} (h : Part d) : isS d = true := by
  rcases h with ⟨w, rfl, _⟩ | ⟨w, rfl, _⟩ <;> rfl
theorem isS_pl {d : D} (h : isS d = true) : d.pl 0 = true := by
  cases d <;> simp [Nf.isS] at h <;> rfl
theorem cut1 {x : Str} {c : Nat} {r : List Nat} (h : x.cps.toList = c :: r) : cutS x none (some 1) = ⟨#[c]⟩ := by
  refine str_ext ?_
  unfold cutS
  have hl : x.length = r.length + 1 := by rw [len_eq, h]; rfl
  simp [h, HT.sIx_none, hl]
  rw [show HT.sIx (r.length + 1) (r.length + 1) (some 1) = 1 from by rw [sIx_pos (by omega)]; simp]
  rfl
theorem cut2 {x : Str} {c : Nat} {r : List Nat} (h : x.cps.toList = c :: r) : (cutS x (some 1) none).cps.toList = r := by
  unfold cutS
  have hl : x.length = r.length + 1 := by rw [len_eq, h]; rfl
  rw [show HT.sIx x.length 0 (some 1) = 1 from by rw [sIx_pos (by omega), hl]; simp]
  simp [h, HT.sIx_none, hl]
theorem ix0S {x : Str} {c : Nat} {r : List Nat} (h : x.cps.toList = c :: r) : oIx (.str x) (.int 0) = .ok (.str ⟨#[c]⟩) := by
  unfold oIx oIxS
  simp only [isDict, Bool.false_eq_true, if_false]
  rw [show atI x.cps.toList 0 = some c from by rw [h]; exact atI0]
theorem one_inj {c d : Nat} (h : (⟨#[c]⟩ : Str) = ⟨#[d]⟩) : c = d := by
  have := congrArg (fun s : Str => s.cps.toList) h
  simpa using this
theorem hasS {c : Nat} {A : Str} : oHas (.str ⟨#[c]⟩) (.str A) = .ok (decide (c ∈ A.cps.toList)) := rfl
theorem made_of_is {A w : Str} : f_made_of [.str w, .str A] = .ok (.bl (decide (IsW A w))) := by
  refine is_ok (run_p fun R hR => ?_)
  have hR := hR _ rfl
  unfold g_made_of
  simp
  by_cases h1 : w.length < 1
  · have hn : ¬ IsW A w := fun h => by have := h.1; omega
    rw [decide_eq_false hn] at hR
    have h1' : (w.length : Int) < 1 := by omega
    simpa [h1'] using hR
  by_cases h2 : 8 < w.length
  · have hn : ¬ IsW A w := fun h => by have := h.2.1; omega
    rw [decide_eq_false hn] at hR
    have h1' : ¬ (w.length : Int) < 1 := by omega
    have h2' : (8 : Int) < w.length := by omega
    simpa [h1', h2'] using hR
  have h1' : ¬ (w.length : Int) < 1 := by omega
  have h2' : ¬ (8 : Int) < w.length := by omega
  simp [h1', h2', dItems]
  refine for_all (P := fun d => @decide (∃ c, d = .str ⟨#[c]⟩ ∧ c ∈ A.cps.toList) (Classical.propDecidable _)) (r := .bl false) ?_ ?_ ?_
  · intro d hd
    obtain ⟨c, hc, rfl⟩ := List.mem_map.mp hd
    by_cases hm : c ∈ A.cps.toList
    · have : ∃ c_1, D.str ⟨#[c]⟩ = D.str ⟨#[c_1]⟩ ∧ c_1 ∈ A.cps.toList := ⟨c, rfl, hm⟩
      rw [@decide_eq_true _ (Classical.propDecidable _) this]
      simp [hasS, hm]
    · have : ¬ ∃ c_1, D.str ⟨#[c]⟩ = D.str ⟨#[c_1]⟩ ∧ c_1 ∈ A.cps.toList := fun ⟨d, e, h⟩ => hm (by cases e; exact h)
      rw [@decide_eq_false _ (Classical.propDecidable _) this]
      simp [hasS, hm]
  · intro ha
    have hy : IsW A w := ⟨by omega, by omega, fun c hc => by
      have := List.all_eq_true.mp ha _ (List.mem_map.mpr ⟨c, hc, rfl⟩)
      obtain ⟨e, h1, h2⟩ := @of_decide_eq_true _ (Classical.propDecidable _) this
      cases h1; exact h2⟩
    rw [decide_eq_true hy] at hR
    simpa using hR
  · intro ha
    obtain ⟨d, hd, hc⟩ := List.all_eq_false.mp ha
    obtain ⟨c, hm, rfl⟩ := List.mem_map.mp hd
    have hn : ¬ IsW A w := fun h => hc (@decide_eq_true _ (Classical.propDecidable _) ⟨c, rfl, h.2.2 c hm⟩)
    rw [decide_eq_false hn] at hR
    exact hR
theorem is_word_is {w : Str} : f_is_word [.str w] = .ok (.bl (decide (IsW lets w))) := by
  refine is_ok (run_p fun R hR => ?_)
  unfold g_is_word
  simp [made_of_is]
  exact hR _ rfl
theorem eq_one (c d : Nat) : oEq (.str ⟨#[c]⟩) (.str ⟨#[d]⟩) = .ok (.bl (decide (c = d))) := by
  rw [oEq_pl rfl rfl]
  congr 2
  by_cases h : c = d
  · subst h; simp
  · rw [decide_eq_false h, decide_eq_false]
    intro z; cases z; exact h rfl
theorem is_slot_is {d : D} (h : Part d) : f_is_slot [d] = .ok (.bl (sl d)) := by
  refine is_ok (run_p fun R hR => ?_)
  have hR2 := hR _ rfl
  unfold g_is_slot
  have hq : (PySem.Str.ofString "?") = ⟨#[63]⟩ := qm_eq
  rw [hq]
  rcases h with h | h
  · rw [sl_th h] at hR2
    obtain ⟨w, rfl, hw⟩ := h
    obtain ⟨c, r, e, hc⟩ := q_no q_sgns hw
    simp [cut1 e, eq_one, hc]
    exact hR2
  · rw [sl_sl h] at hR2
    obtain ⟨w, rfl, hw⟩ := h
    have e2 : cutS (qm ++ w) (some 1) none = w := str_ext (cut2 (q_cps w))
    simp [cut1 (q_cps w), eq_one, e2, is_word_is, hw]
    exact hR2
theorem q0_is {d : D} (h : Part d) : (oIx d (.int 0)).bind (fun x => oEq x (.str qm)) = .ok (.bl (sl d)) := by
  rw [qm_eq]
  rcases h with h | h
  · rw [sl_th h]
    obtain ⟨w, rfl, hw⟩ := h
    obtain ⟨c, r, e, hc⟩ := q_no q_sgns hw
    rw [ix0S e, Ro.bind_ok, eq_one, decide_eq_false hc]
  · rw [sl_sl h]
    obtain ⟨w, rfl, hw⟩ := h
    rw [ix0S (q_cps w), Ro.bind_ok, eq_one]; rfl

/-! ### patterns -/
structure Pn where
  w : D
  ps : List D
def Pn.d (q : Pn) : D := .tup (q.w :: q.ps)
structure Pn.ok (q : Pn) : Prop where
  w : ∃ x, q.w = .str x ∧ IsW lets x
  ps : ∀ x ∈ q.ps, Part x
  len : q.ps.length ≤ 3
theorem cut_tail {α : Type} {a : α} {l : List α} : cut (a :: l) (some 1) none = l := by
  unfold cut
  rw [show HT.sIx (a :: l).length 0 (some 1) = 1 from by rw [sIx_pos (by omega)]; simp]
  simp [HT.sIx_none]
noncomputable def addS (acc : List D) (p : D) : List D := if sl p = true ∧ p ∉ acc then acc ++ [p] else acc
noncomputable def slotsL (qs : List Pn) : List D := qs.foldl (fun acc q => q.ps.foldl addS acc) []
theorem addS_len {acc : List D} {p : D} : (addS acc p).length ≤ acc.length + 1 := by
  unfold addS; split
  · simp
  · omega
theorem addS_part {acc : List D} {p : D} (h : ∀ x ∈ acc, Part x) (hp : Part p) : ∀ x ∈ addS acc p, Part x := by
  unfold addS; split
  · intro x hx
    rcases List.mem_append.mp hx with hx | hx
    · exact h x hx
    · rw [List.mem_singleton.mp hx]; exact hp
  · exact h
theorem part_pl {xs : List D} (h : ∀ x ∈ xs, Part x) : ∀ x ∈ xs, x.pl 8 = true := fun x hx => pl_le (by decide) (isS_pl (h x hx).isS)
theorem fold_addS {ps : List D} : ∀ {acc : List D}, (∀ x ∈ acc, Part x) → (∀ x ∈ ps, Part x) → (∀ x ∈ ps.foldl addS acc, Part x) ∧ (ps.foldl addS acc).length ≤ acc.length + ps.length := by
  induction ps with
  | nil => intro acc h _; exact ⟨h, by simp⟩
  | cons p ps ih =>
    intro acc h h'
    have := ih (addS_part h (h' p (by simp))) fun x hx => h' x (by simp [hx])
    refine ⟨this.1, ?_⟩
    have := this.2
    have := addS_len (acc := acc) (p := p)
    simp; omega
theorem slots_of_any {qs : List Pn} (hq : ∀ q ∈ qs, q.ok) (hl : qs.length ≤ 1000) (d : D) (hd : d = .lst (qs.map Pn.d) ∨ d = .tup (qs.map Pn.d)) : f_slots_of [d] = .ok (.lst (slotsL qs)) := by
  refine is_ok (run_p fun R hR => ?_)
  have hR := hR _ rfl
  unfold g_slots_of
  have hi : dItems d = .ok (qs.map Pn.d) := by rcases hd with rfl | rfl <;> rfl
  simp [hi]
  refine for_idx (fun k Γ => ∃ acc, Γ = [none, some (.lst acc), none, none] ∧ acc = slotsL (qs.take k) ∧ acc.length ≤ 3 * k ∧ ∀ x ∈ acc, Part x) ⟨[], rfl, rfl, by simp, by simp⟩ ?_ ?_
  · rintro k d Γ hk ⟨acc, rfl, h1, h2, h3⟩ N hN
    rw [List.getElem?_map] at hk
    obtain ⟨q, hqk, rfl⟩ := Option.map_eq_some_iff.mp hk
    have hqo := hq q (List.mem_of_getElem? hqk)
    have hlt := (List.getElem?_eq_some_iff.mp hqk).1
    have hlen := hqo.len
    have e : slotsL (qs.take (k + 1)) = q.ps.foldl addS acc := by
      rw [h1]; unfold slotsL
      rw [List.take_add_one, hqk]; simp
    simp [Pn.d, cut_tail]
    refine for_foldl (fun acc => [none, some (.lst acc), none, none]) addS (fun j a => (∀ x ∈ a, Part x) ∧ a.length ≤ 3 * k + j) ⟨h3, h2⟩ ?_ ?_
    · rintro j p a N' hj ⟨ha, hal⟩
      have hjl := (List.getElem?_eq_some_iff.mp hj).1
      have hp := hqo.ps p (List.mem_of_getElem? hj)
      refine ⟨⟨addS_part ha hp, by have := addS_len (acc := a) (p := p); omega⟩, fun hN' => ?_⟩
      simp [is_slot_is hp, in_pl (pl_le (by decide) (isS_pl hp.isS)) (part_pl ha)]
      by_cases c1 : sl p = true
      · by_cases c2 : p ∈ a
        · simp only [c1, c2, if_true]
          exact hN' _ (by unfold addS; rw [if_neg (fun z => z.2 c2)]; rfl)
        · simp only [c1, c2, if_true, if_false]
          refine ⟨by unfold sizeLine; omega, hN' _ (by unfold addS; rw [if_pos ⟨c1, c2⟩]; rfl)⟩
      · simp only [c1, if_false]
        exact hN' _ (by unfold addS; rw [if_neg (fun z => c1 z.1)]; rfl)
    · intro _
      have := fold_addS h3 hqo.ps
      refine hN _ ⟨_, rfl, e.symm, ?_, this.1⟩
      have := this.2
      omega
  · rintro Γ ⟨acc, rfl, h1, h2, h3⟩
    simp
    rw [List.length_map, List.take_length] at h1
    rw [h1]; exact hR
theorem law_slots_is {qs : List Pn} (hq : ∀ q ∈ qs, q.ok) (hl : qs.length ≤ 1000) : f__law_slots [.lst (qs.map Pn.d)] = .ok (.lst (slotsL qs)) := by
  refine is_ok (run_p fun R hR => ?_)
  have hR := hR _ rfl
  unfold g__law_slots
  simp
  refine for_idx (fun k Γ => ∃ acc, Γ = [none, some (.lst acc), none, none] ∧ acc = slotsL (qs.take k) ∧ acc.length ≤ 3 * k ∧ ∀ x ∈ acc, Part x) ⟨[], rfl, rfl, by simp, by simp⟩ ?_ ?_
  · rintro k d Γ hk ⟨acc, rfl, h1, h2, h3⟩ N hN
    rw [List.getElem?_map] at hk
    obtain ⟨q, hqk, rfl⟩ := Option.map_eq_some_iff.mp hk
    have hqo := hq q (List.mem_of_getElem? hqk)
    have hlt := (List.getElem?_eq_some_iff.mp hqk).1
    have hlen := hqo.len
    have e : slotsL (qs.take (k + 1)) = q.ps.foldl addS acc := by
      rw [h1]; unfold slotsL
      rw [List.take_add_one, hqk]; simp
    simp [Pn.d, cut_tail]
    refine for_foldl (fun acc => [none, some (.lst acc), none, none]) addS (fun j a => (∀ x ∈ a, Part x) ∧ a.length ≤ 3 * k + j) ⟨h3, h2⟩ ?_ ?_
    · rintro j p a N' hj ⟨ha, hal⟩
      have hjl := (List.getElem?_eq_some_iff.mp hj).1
      have hp := hqo.ps p (List.mem_of_getElem? hj)
      refine ⟨⟨addS_part ha hp, by have := addS_len (acc := a) (p := p); omega⟩, fun hN' => ?_⟩
      have hq0 := q0_is hp
      have hq1 : ∀ K : D → Prop, (oIx p (.int 0)).post (fun x => (oEq x (.str qm)).post K fun _ => False) (fun _ => False) = K (.bl (sl p)) := fun K => by rw [← post_bind, hq0]; rfl
      simp [hq1, in_pl (pl_le (by decide) (isS_pl hp.isS)) (part_pl ha)]
      by_cases c1 : sl p = true
      · by_cases c2 : p ∈ a
        · simp only [c1, c2, if_true]
          exact hN' _ (by unfold addS; rw [if_neg (fun z => z.2 c2)]; rfl)
        · simp only [c1, c2, if_true, if_false]
          refine ⟨by unfold sizeLine; omega, hN' _ (by unfold addS; rw [if_pos ⟨c1, c2⟩]; rfl)⟩
      · simp only [c1, if_false]
        exact hN' _ (by unfold addS; rw [if_neg (fun z => c1 z.1)]; rfl)
    · intro _
      have := fold_addS h3 hqo.ps
      refine hN _ ⟨_, rfl, e.symm, ?_, this.1⟩
      have := this.2
      omega
  · rintro Γ ⟨acc, rfl, h1, h2, h3⟩
    simp
    rw [List.length_map, List.take_length] at h1
    rw [h1]; exact hR
end L2.Nf

namespace L2.Nf
open PySem PySem.Spec PyProof.Rows

@[simp] theorem w_eG2 {a b c : EDen} {Γ : Gm} {K : D → Prop} {X : Str → Prop} : (eG2 a b c Γ).post K X = (a Γ).post (fun d => isDict d = true ∧ (b Γ).post (fun k => (c Γ).post (fun x => (oGet2 d k x).post K X) X) X) X := by
  unfold eG2; rw [post_bind]
  congr 1; funext d
  rw [post_iteD]
  simp only [post_bind, w_bad, ite_and_f]
def gt (es : List (Key × D)) : D → D
  | .str x => (look es (.inr x)).getD (.str x)
  | d => d
theorem get2_is {es : List (Key × D)} {p : D} (h : isS p = true) : oGet2 (.dK es) p p = .ok (gt es p) := by
  cases p <;> simp [isS] at h
  rfl
theorem put_in_is {q : Pn} {es : List (Key × D)} (hq : q.ok) : f_put_in [q.d, .dK es] = .ok (.tup (q.w :: q.ps.map (gt es))) := by
  refine is_ok (run_p fun R hR => ?_)
  have hR := hR _ rfl
  unfold g_put_in
  simp [Pn.d, cut_tail]
  rw [comp_map (f := gt es)]
  · have := hq.len
    simp
    exact ⟨by unfold sizeLine; omega, hR⟩
  · intro d hd
    refine is_ok ?_
    simp [isDict, get2_is (hq.ps d hd).isS]
theorem hasK {es : List (Key × D)} {x : Str} : oHas (.str x) (.dK es) = .ok (look es (.inr x)).isSome := rfl
theorem ixK {es : List (Key × D)} {x : Str} {v : D} (h : look es (.inr x) = some v) : oIx (.dK es) (.str x) = .ok v := by
  unfold oIx
  simp only [isDict, if_true]
  unfold oIxD
  rw [show oLook (.dK es) (.str x) = some (look es (.inr x)) from rfl, h]
theorem law_put_is {q : Pn} {es : List (Key × D)} (hq : q.ok) : f__law_put [q.d, .dK es] = .ok (.tup (q.w :: q.ps.map (gt es))) := by
  refine is_ok (run_p fun R hR => ?_)
  have hR := hR _ rfl
  unfold g__law_put
  simp [Pn.d, cut_tail]
  have hlen := hq.len
  refine for_foldl (fun acc => [none, some (.dK es), some (.lst acc), none]) (fun a p => a ++ [gt es p]) (fun j a => a.length = j + 1) rfl ?_ ?_
  · rintro j p a N' hj ha
    have hjl := (List.getElem?_eq_some_iff.mp hj).1
    have hp := (hq.ps p (List.mem_of_getElem? hj)).isS
    refine ⟨by simp [ha], fun hN' => ?_⟩
    cases p <;> simp [isS] at hp
    rename_i x
    simp [hasK]
    cases hl : look es (.inr x) with
    | none =>
      simp
      exact ⟨by unfold sizeLine; omega, hN' _ (by simp [gt, hl])⟩
    | some v =>
      simp [ixK hl]
      exact ⟨by unfold sizeLine; omega, hN' _ (by simp [gt, hl])⟩
  · intro _
    have e : ∀ (ps a : List D), ps.foldl (fun a p => a ++ [gt es p]) a = a ++ ps.map (gt es) := by
      intro ps
      induction ps with
      | nil => intro a; simp
      | cons p ps ih => intro a; rw [List.foldl_cons, ih]; simp
    rw [e]
    simp
    exact hR
theorem pattern_is {c : Int} {ws ps : List D} (hw : ∀ w ∈ ws, ∃ x, w = .str x ∧ IsW lets x) (hwl : ws.length = 4) (hp : ∀ p ∈ ps, Part p) (hpl : 0 < ps.length) (hpl2 : ps.length < 1000) : ∃ q : Pn, f__law_pattern [.int c, .lst ws, .lst ps] = .ok q.d ∧ q.ok := by
  suffices h : Is (f__law_pattern [.int c, .lst ws, .lst ps]) fun d => ∃ q : Pn, d = q.d ∧ q.ok by
    obtain ⟨d, e, q, rfl, h⟩ := is_ex h
    exact ⟨q, e, h⟩
  refine run_p fun R hR => ?_
  unfold g__law_pattern
  have a1 := fmod_pos (a := c) (n := 4) (by omega)
  have a2 := fmod_pos (a := c.fdiv 4) (n := 4) (by omega)
  obtain ⟨w, ew, _, hw1⟩ := mem_get (i := c.fmod 4) hw a1.1 (by rw [hwl]; exact a1.2)
  simp [ew]
  refine ⟨by omega, by omega, ?_⟩
  have hpz : (0 : Int) < ps.length := by omega
  refine for_rng (fun k Γ => ∃ o gs, Γ = [none, none, some (.lst ps), some (.int o), some (.lst (w :: gs)), none] ∧ gs.length = k ∧ ∀ p ∈ gs, Part p) ⟨_, [], rfl, rfl, by simp⟩ ?_ ?_
  · rintro k Γ hk ⟨o, gs, rfl, h1, h2⟩ N hN
    obtain ⟨p, ep, _, hp1⟩ := mem_get (i := o.fmod ps.length) hp (fmod_pos hpz).1 (fmod_pos hpz).2
    simp [ep]
    refine ⟨by rintro rfl; simp at hpl, by unfold sizeLine; omega, ⟨by rintro rfl; simp at hpl, by omega⟩, hN _ ⟨_, gs ++ [p], rfl, by simp [h1], ?_⟩⟩
    intro x hx
    rcases List.mem_append.mp hx with hx | hx
    · exact h2 x hx
    · rw [List.mem_singleton.mp hx]; exact hp1
  · rintro Γ ⟨o, gs, rfl, h1, h2⟩
    simp
    exact hR _ ⟨⟨w, gs⟩, rfl, hw1, h2, by show gs.length ≤ 3; omega⟩
theorem pn_all : ∀ {ds : List D}, (∀ d ∈ ds, ∃ q : Pn, d = q.d ∧ q.ok) → ∃ qs : List Pn, ds = qs.map Pn.d ∧ ∀ q ∈ qs, q.ok
  | [], _ => ⟨[], rfl, by simp⟩
  | d :: ds, h => by
    obtain ⟨q, rfl, h1⟩ := h d (by simp)
    obtain ⟨qs, rfl, h2⟩ := pn_all (ds := ds) fun x hx => h x (by simp [hx])
    exact ⟨q :: qs, rfl, fun x hx => by
      rcases List.mem_cons.mp hx with rfl | hx
      · exact h1
      · exact h2 x hx⟩
theorem pl_pn {q : Pn} (h : q.ok) : q.d.pl 1 = true := by
  refine pl_tup fun x hx => ?_
  rcases List.mem_cons.mp hx with rfl | hx
  · obtain ⟨x, e, _⟩ := h.w; rw [e]; rfl
  · exact isS_pl (h.ps x hx).isS
theorem pl_pns {qs : List Pn} (h : ∀ q ∈ qs, q.ok) : (D.lst (qs.map Pn.d)).pl 8 = true := pl_le (n := 2) (by decide) (pl_lst fun x hx => by
  obtain ⟨q, hq, rfl⟩ := List.mem_map.mp hx
  exact pl_pn (h q hq))
theorem put_len {κ : Type} [DecidableEq κ] {es : List (κ × D)} {k : κ} {d : D} : (putD es k d).length ≤ es.length + 1 := by
  unfold putD; split
  · simp
  · simp
theorem put_vals {κ : Type} [DecidableEq κ] {es : List (κ × D)} {k : κ} {d : D} {P : D → Prop} (h : ∀ e ∈ es, P e.2) (hd : P d) : ∀ e ∈ putD es k d, P e.2 := by
  unfold putD; split
  · intro e he
    obtain ⟨x, hx, rfl⟩ := List.mem_map.mp he
    split
    · exact hd
    · exact h x hx
  · intro e he
    rcases List.mem_append.mp he with he | he
    · exact h e he
    · rw [List.mem_singleton.mp he]; exact hd
theorem look_vals {es : List (Key × D)} {k : Key} {v : D} {P : D → Prop} (h : ∀ e ∈ es, P e.2) (hl : look es k = some v) : P v := by
  unfold look at hl
  obtain ⟨e, he, rfl⟩ := Option.map_eq_some_iff.mp hl
  exact h e (List.mem_of_find?_eq_some he)
theorem gt_isS {es : List (Key × D)} {p : D} (h : ∀ e ∈ es, isS e.2 = true) (hp : isS p = true) : isS (gt es p) = true := by
  cases p <;> simp [isS] at hp
  rename_i x
  show isS ((look es (.inr x)).getD (.str x)) = true
  cases hl : look es (.inr x) with
  | none => rfl
  | some v => exact look_vals (P := fun d => isS d = true) h hl
theorem plain_k01 (ns : List Int) (hns : ns.length ≤ 63) : f_law_k01 [encI ns] = .ok (.bl true) := by
  refine is_ok (run_p fun R hR => ?_)
  unfold g_law_k01
  have hR := hR _ rfl
  simp
  refine comp_wp (P := fun _ d => ∃ x, d = .str x ∧ IsW lets x) ?_ fun ws hws => ?_
  · intro d hd
    obtain ⟨i, hi, rfl⟩ := mem_rng hd
    obtain ⟨w, e, hw⟩ := word_is (c := cellD ns 0) (k := i) (by omega) (by omega)
    simp [cell_at (ns := ns) (i := 0) (by decide), e, hw]
  have hwl : ws.length = 4 := by rw [← hws.len]; rfl
  have hw1 := hws.right (Q := fun d => ∃ x, d = .str x ∧ IsW lets x) fun _ _ h => h
  refine comp_wp (P := fun _ d => isTh d) ?_ fun ts hts => ?_
  · intro d hd
    obtain ⟨i, hi, rfl⟩ := mem_rng hd
    obtain ⟨w, e, hw⟩ := thing_is (c := cellD ns 1) (k := i) (by omega) (by omega)
    simp [cell_at (ns := ns) (i := 1) (by decide), e]
    exact ⟨w, rfl, hw⟩
  have htl : ts.length = 3 := by rw [← hts.len]; rfl
  have ht1 := hts.right (Q := fun d => isTh d) fun _ _ h => h
  refine comp_wp (P := fun _ d => isSl d) ?_ fun ss hss => ?_
  · intro d hd
    obtain ⟨i, hi, rfl⟩ := mem_rng hd
    obtain ⟨w, e, hw⟩ := word_is (c := cellD ns 2) (k := i) (by omega) (by omega)
    simp [cell_at (ns := ns) (i := 2) (by decide), e]
    have := hw.2.1
    refine ⟨?_, w, rfl, hw⟩
    rw [show (PySem.Str.ofString "?").length = 1 from by decide +kernel]; unfold sizeLine; omega
  have hsl : ss.length = 3 := by rw [← hss.len]; rfl
  have hs1 := hss.right (Q := fun d => isSl d) fun _ _ h => h
  simp [cell_at (ns := ns) (i := 3) (by decide)]
  refine for_rng (fun k Γ => ∃ es, Γ = [some (encI ns), none, some (.lst ws), some (.lst ts), some (.lst ss), some (.int (cellD ns 3)), some (.dK es), none, none, none, none, none, none, none] ∧ es.length ≤ k ∧ (∀ e ∈ es, isS e.2 = true)) ⟨[], rfl, by simp, by simp⟩ ?_ ?_
  · rintro k Γ hk ⟨es, rfl, h1, h2⟩ N hN
    obtain ⟨x, e2, _, j, rfl, hj⟩ := mem_get (P := fun d => ∃ j : Int, d = .int j ∧ (j = 1 ∨ j = 2 ∨ j = 4)) (xs := [D.int 1, D.int 2, D.int 4]) (i := 0 + (k : Int)) (by
      intro x hx
      simp at hx
      rcases hx with rfl | rfl | rfl
      · exact ⟨1, rfl, by simp⟩
      · exact ⟨2, rfl, by simp⟩
      · exact ⟨4, rfl, by simp⟩) (by omega) (by simp; omega)
    have hj0 : j ≠ 0 ∧ j.natAbs < 1073741824 := by rcases hj with rfl | rfl | rfl <;> decide
    rw [Int.zero_add] at e2 ⊢
    simp [e2, hj0]
    obtain ⟨s, es1, _, hs⟩ := mem_get (i := (k : Int)) hs1 (by omega) (by omega)
    have b1 := fmod_pos (a := (cellD ns 3).fdiv 8 + (k : Int)) (n := 3) (by omega)
    obtain ⟨t, et1, _, ht⟩ := mem_get ht1 b1.1 (by rw [htl]; exact b1.2)
    obtain ⟨sx, rfl, hsx⟩ := hs
    obtain ⟨tx, rfl, htx⟩ := ht
    by_cases c1 : ((cellD ns 3).fdiv j).fmod 2 = 1
    · simp only [c1, if_true, es1, et1]
      have hlt : es.length < sizeLine := by unfold sizeLine; omega
      have e3 : oPut (.dK es) (.str (qm ++ sx)) (.str tx) = .ok (.dK (putD es (.inr (qm ++ sx)) (.str tx))) := by
        show (if es.length < sizeLine then Ro.ok (D.dK (putD es (.inr (qm ++ sx)) (.str tx))) else .bad) = _
        rw [if_pos hlt]
      refine ⟨rfl, ?_⟩
      rw [e3]
      have := put_len (es := es) (k := (.inr (qm ++ sx) : Key)) (d := .str tx)
      exact hN _ ⟨_, rfl, by omega, put_vals (P := fun d => isS d = true) h2 rfl⟩
    · simp only [c1, if_false]
      exact hN _ ⟨es, rfl, by omega, h2⟩
  · rintro Γ ⟨es, rfl, h1, h2⟩
    have hc2 : (cut ts none (some 2)).length ≤ ts.length := cut_le
    unfold encI
    simp
    refine comp_wp (P := fun _ d => ∃ q : Pn, d = q.d ∧ q.ok) ?_ fun ds hds => ?_
    · intro d hd
      obtain ⟨c, _, rfl⟩ := List.mem_map.mp (cut_mem hd)
      obtain ⟨q, e, hq⟩ := pattern_is (c := c) (ws := ws) (ps := cut ts none (some 2) ++ ss) hw1 hwl (by
        intro p hp
        rcases List.mem_append.mp hp with hp | hp
        · exact .inl (ht1 p (cut_mem hp))
        · exact .inr (hs1 p hp)) (by simp; omega) (by simp; omega)
      simp [e]
      exact ⟨by unfold sizeLine; omega, q, rfl, hq⟩
    have hdl := hds.len
    have hcl := cut_le (xs := ns.map D.int) (l := some 4) (h := some 8)
    rw [hdl, List.length_map] at hcl
    obtain ⟨qs, rfl, hqs⟩ := pn_all (hds.right (Q := fun d => ∃ q : Pn, d = q.d ∧ q.ok) fun _ _ h => h)
    rw [List.length_map] at hcl
    have hsp : ∀ x ∈ slotsL qs, Part x := by
      unfold slotsL
      have : ∀ (qs : List Pn) acc, (∀ q ∈ qs, q.ok) → (∀ x ∈ acc, Part x) → ∀ x ∈ qs.foldl (fun acc q => q.ps.foldl addS acc) acc, Part x := by
        intro qs
        induction qs with
        | nil => intro acc _ h; exact h
        | cons q qs ih => intro acc hq h; exact ih _ (fun x hx => hq x (by simp [hx])) (fold_addS h (hq q (by simp)).ps).1
      exact this qs [] hqs (by simp)
    have q1 := oNe_pl (show (D.lst (slotsL qs)).pl 8 = true from pl_le (n := 1) (by decide) (pl_lst fun x hx => isS_pl (hsp x hx).isS)) (pl_le (n := 1) (by decide) (pl_lst fun x hx => isS_pl (hsp x hx).isS))
    rw [decide_eq_true rfl] at q1
    rw [slots_of_any hqs (by omega) _ (.inl rfl), law_slots_is hqs (by omega), slots_of_any hqs (by omega) _ (.inr rfl)]
    simp [q1]
    have hit : oItems (.dK es) = .ok (.lst (es.map fun e => .tup [dKey e.1, e.2])) := rfl
    have hpl : (D.lst (es.map fun e => .tup [dKey e.1, e.2])).pl 8 = true := by
      refine pl_le (n := 2) (by decide) (pl_lst fun x hx => ?_)
      obtain ⟨e, he, rfl⟩ := List.mem_map.mp hx
      refine pl_tup fun y hy => ?_
      simp at hy
      rcases hy with rfl | rfl
      · cases e.1 <;> rfl
      · exact isS_pl (h2 e he)
    have q2 := oEq_pl hpl hpl
    rw [decide_eq_true rfl] at q2
    have q3 := oEq_pl (pl_pns hqs) (pl_pns hqs)
    rw [decide_eq_true rfl] at q3
    generalize D.lst (es.map fun e => .tup [dKey e.1, e.2]) = it at hit q2 hpl
    rw [hit]
    simp only [w_ok]
    refine for_idx (fun k Γ => Γ = [none, none, none, none, none, none, some (.dK es), some (.lst (qs.map Pn.d)), some (.lst (qs.map Pn.d)), none, some it, none, none, none]) rfl ?_ ?_
    · rintro k d Γ hk rfl N hN
      rw [List.getElem?_map] at hk
      obtain ⟨q, hqk, rfl⟩ := Option.map_eq_some_iff.mp hk
      have hqo := hqs q (List.mem_of_getElem? hqk)
      have hpp : (D.tup (q.w :: q.ps.map (gt es))).pl 8 = true := by
        refine pl_le (n := 1) (by decide) (pl_tup fun x hx => ?_)
        rcases List.mem_cons.mp hx with rfl | hx
        · obtain ⟨x, e, _⟩ := hqo.w; rw [e]; rfl
        · obtain ⟨p, hp, rfl⟩ := List.mem_map.mp hx
          exact isS_pl (gt_isS h2 (hqo.ps p hp).isS)
      have q4 := oNe_pl hpp hpp
      rw [decide_eq_true rfl] at q4
      simp [put_in_is hqo, law_put_is hqo, q4]
      exact hN _ rfl
    · rintro Γ rfl
      simp [q3, hit, q2]
      exact hR
end L2.Nf

namespace L2.Nf
open PySem PySem.Spec PyProof.Rows

theorem word2_is {c k : Int} (hk : 0 ≤ k) (hk' : k ≤ 7) : ∃ w, f__law_word_by_k02 [.int c, .int k] = .ok (.str w) ∧ IsW lets w := by
  have hA : lets.length = 26 := lets_len
  suffices h : Is (f__law_word_by_k02 [.int c, .int k]) fun d => ∃ w, d = .str w ∧ IsW lets w by
    obtain ⟨d, e, w, rfl, h⟩ := is_ex h
    exact ⟨w, e, h⟩
  refine run_of ?_
  unfold g__law_word_by_k02
  unfold lets at hA ⊢
  generalize PySem.Str.ofString "abcdefghijklmnopqrstuvwxyz" = A at hA ⊢
  have hAi : (A.length : Int) = 26 := by omega
  simp only [w_seq, w_set, w_eC, gm0, List.map_cons, List.map_nil, List.length_cons, List.length_nil, List.set_cons_succ, List.set_cons_zero, List.cons_append, List.nil_append, List.replicate_succ, List.replicate_zero, Nat.reduceSub, Nat.reduceAdd, Nat.zero_add]
  refine base_is (A := A) (n := 8) (by omega) (fun i hi => ?_) fun base hb hbi => ?_
  · obtain ⟨s, hs, e⟩ := ixS (A := A) (n := 26) (m := c.fdiv 208 + 5 * i) hAi (by omega)
    refine ⟨s, hs, is_ok ?_⟩
    simp [e]
  · have h8 := fmod_pos (a := c.fdiv 26) (n := 8) (by omega)
    simp
    by_cases h1 : c.fmod 4 = 1
    · simp only [h1, if_true]
      obtain ⟨s, hs, e⟩ := ixS (A := A) (n := 26) (m := c + k) hAi (by omega)
      rw [e]
      have l1 : (cutS base none (some ((c.fdiv 26).fmod 8))).length = ((c.fdiv 26).fmod 8).toNat := by
        rw [cutS_len, sIx_pos h8.1, hb]
        simp only [HT.sIx_none]; omega
      simp only [w_ok, w_addS]
      refine ⟨?_, _, rfl, ?_, ?_, ?_⟩
      · rw [l1, one_len]; unfold sizeLine; omega
      · rw [len_app, l1, one_len]; omega
      · rw [len_app, l1, one_len]; omega
      · exact in_app (cutS_in hbi _ _) (one_in hs)
    · simp only [h1, if_false]
      by_cases h2 : c.fmod 4 = 2
      · simp only [h2, if_true]
        have l1 : (cutS base none (some (1 + k))).length = (1 + k).toNat := by
          rw [cutS_len, sIx_pos (by omega), hb]
          simp only [HT.sIx_none]; omega
        refine ⟨?_, ?_, cutS_in hbi _ _⟩
        · rw [l1]; omega
        · rw [l1]; omega
      · simp only [h2, if_false]
        obtain ⟨s, hs, e⟩ := ixS (A := A) (n := 26) (m := c + k) hAi (by omega)
        rw [e]
        have hr := fmod_pos (a := c.fdiv 26 + 3 * k) (n := 8) (by omega)
        simp only [w_ok]
        refine ⟨by omega, by omega, ?_⟩
        refine for_wp (fun ds Γ => ∃ w, Γ = [some (.int c), some (.int k), some (.str A), none, none, some (.str w)] ∧ w.length + ds.length ≤ 8 ∧ 1 ≤ w.length ∧ In A w ∧ ∀ d ∈ ds, ∃ i : Int, d = .int i) ?_ ?_ ?_
        · refine ⟨_, rfl, ?_, ?_, one_in hs, ?_⟩
          · rw [one_len]; simp [rngD]; omega
          · rw [one_len]; omega
          · intro d hd
            unfold rngD at hd
            obtain ⟨i, _, rfl⟩ := List.mem_map.mp hd
            exact ⟨_, rfl⟩
        · rintro d ds Γ ⟨w, rfl, hw1, hw2, hw3, hd⟩
          obtain ⟨i, rfl⟩ := hd d (by simp)
          obtain ⟨s, hs, e⟩ := ixS (A := A) (n := 26) (m := c.fdiv 208 + 5 * i + k) hAi (by omega)
          simp [e]
          simp at hw1
          refine ⟨?_, ?_, ?_, ?_⟩
          · rw [one_len]; unfold sizeLine; omega
          · rw [len_app, one_len]; omega
          · rw [len_app, one_len]; omega
          · exact ⟨in_app hw3 (one_in hs), fun d hd' => hd d (by simp [hd'])⟩
        · rintro Γ ⟨w, rfl, hw1, hw2, hw3, _⟩
          simp at hw1 ⊢
          exact ⟨hw2, hw1, hw3⟩

theorem thing2_is {c k : Int} (hk : 0 ≤ k) (hk' : k ≤ 7) : ∃ w, f__law_thing_by_k02 [.int c, .int k] = .ok (.str w) ∧ IsW sgns w := by
  have hA : sgns.length = 36 := sgns_len
  suffices h : Is (f__law_thing_by_k02 [.int c, .int k]) fun d => ∃ w, d = .str w ∧ IsW sgns w by
    obtain ⟨d, e, w, rfl, h⟩ := is_ex h
    exact ⟨w, e, h⟩
  refine run_of ?_
  unfold g__law_thing_by_k02
  unfold sgns at hA ⊢
  generalize PySem.Str.ofString "0123456789abcdefghijklmnopqrstuvwxyz" = A at hA ⊢
  have hAi : (A.length : Int) = 36 := by omega
  simp only [w_seq, w_set, w_eC, gm0, List.map_cons, List.map_nil, List.length_cons, List.length_nil, List.set_cons_succ, List.set_cons_zero, List.cons_append, List.nil_append, List.replicate_succ, List.replicate_zero, Nat.reduceSub, Nat.reduceAdd, Nat.zero_add]
  refine base_is (A := A) (n := 8) (by omega) (fun i hi => ?_) fun base hb hbi => ?_
  · obtain ⟨s, hs, e⟩ := ixS (A := A) (n := 36) (m := c.fdiv 288 + 7 * i) hAi (by omega)
    refine ⟨s, hs, is_ok ?_⟩
    simp [e]
  · have h8 := fmod_pos (a := c.fdiv 36) (n := 8) (by omega)
    simp
    by_cases h1 : c.fmod 4 = 1
    · simp only [h1, if_true]
      obtain ⟨s, hs, e⟩ := ixS (A := A) (n := 36) (m := c + k) hAi (by omega)
      rw [e]
      have l1 : (cutS base none (some ((c.fdiv 36).fmod 8))).length = ((c.fdiv 36).fmod 8).toNat := by
        rw [cutS_len, sIx_pos h8.1, hb]
        simp only [HT.sIx_none]; omega
      simp only [w_ok, w_addS]
      refine ⟨?_, _, rfl, ?_, ?_, ?_⟩
      · rw [l1, one_len]; unfold sizeLine; omega
      · rw [len_app, l1, one_len]; omega
      · rw [len_app, l1, one_len]; omega
      · exact in_app (cutS_in hbi _ _) (one_in hs)
    · simp only [h1, if_false]
      by_cases h2 : c.fmod 4 = 2
      · simp only [h2, if_true]
        have l1 : (cutS base none (some (1 + k))).length = (1 + k).toNat := by
          rw [cutS_len, sIx_pos (by omega), hb]
          simp only [HT.sIx_none]; omega
        refine ⟨?_, ?_, cutS_in hbi _ _⟩
        · rw [l1]; omega
        · rw [l1]; omega
      · simp only [h2, if_false]
        obtain ⟨s, hs, e⟩ := ixS (A := A) (n := 36) (m := c + k) hAi (by omega)
        rw [e]
        have hr := fmod_pos (a := c.fdiv 36 + 3 * k) (n := 8) (by omega)
        simp only [w_ok]
        refine ⟨by omega, by omega, ?_⟩
        refine for_wp (fun ds Γ => ∃ w, Γ = [some (.int c), some (.int k), some (.str A), none, none, some (.str w)] ∧ w.length + ds.length ≤ 8 ∧ 1 ≤ w.length ∧ In A w ∧ ∀ d ∈ ds, ∃ i : Int, d = .int i) ?_ ?_ ?_
        · refine ⟨_, rfl, ?_, ?_, one_in hs, ?_⟩
          · rw [one_len]; simp [rngD]; omega
          · rw [one_len]; omega
          · intro d hd
            unfold rngD at hd
            obtain ⟨i, _, rfl⟩ := List.mem_map.mp hd
            exact ⟨_, rfl⟩
        · rintro d ds Γ ⟨w, rfl, hw1, hw2, hw3, hd⟩
          obtain ⟨i, rfl⟩ := hd d (by simp)
          obtain ⟨s, hs, e⟩ := ixS (A := A) (n := 36) (m := c.fdiv 288 + 7 * i + k) hAi (by omega)
          simp [e]
          simp at hw1
          refine ⟨?_, ?_, ?_, ?_⟩
          · rw [one_len]; unfold sizeLine; omega
          · rw [len_app, one_len]; omega
          · rw [len_app, one_len]; omega
          · exact ⟨in_app hw3 (one_in hs), fun d hd' => hd d (by simp [hd'])⟩
        · rintro Γ ⟨w, rfl, hw1, hw2, hw3, _⟩
          simp at hw1 ⊢
          exact ⟨hw2, hw1, hw3⟩

end L2.Nf

namespace L2.Nf
open PySem PySem.Spec PyProof.Rows

theorem seq_wp {f g : SDen} {Γ : Gm} {N : Gm → Prop} {R : D → Prop} (P : Gm → Prop) (h : ∀ N' : Gm → Prop, (∀ Γ', P Γ' → N' Γ') → Wp (f Γ) N' R) (h' : ∀ Γ', P Γ' → Wp (g Γ') N R) : Wp (sSeq f g Γ) N R := by
  show (sSeq f g Γ).post N R _
  rw [wp_seq]
  exact h _ h'
@[simp] theorem w_putL {i : Nat} {a b : EDen} {Γ : Gm} {N : Gm → Prop} {R : D → Prop} {X : Str → Prop} : (sPutL i a b Γ).post N R X = (b Γ).post (fun d => match Γ[i]? with | some (some (.lst xs)) => (a Γ).post (fun n => match n with | .int n => (match ixN xs.length n with | some j => N (Γ.set i (some (.lst (xs.set j d)))) | none => False) | _ => False) X | _ => False) X := by
  unfold sPutL
  rw [wp_go]
  congr 1; funext d
  cases Γ[i]? with
  | none => rfl
  | some o =>
    cases o with
    | none => rfl
    | some c =>
      cases c <;> try rfl
      rename_i xs
      show (((a Γ).go fun n => match n with | .int n => (match ixN xs.length n with | some j => .nx (Γ.set i (some (.lst (xs.set j d)))) | none => .bad) | _ => .bad) : Out).post N R X = _
      rw [wp_go]
      show _ = (a Γ).post (fun n => match n with | .int n => (match ixN xs.length n with | some j => N (Γ.set i (some (.lst (xs.set j d)))) | none => False) | _ => False) X
      congr 1; funext n
      cases n <;> try rfl
      rename_i n
      show (match ixN xs.length n with | some j => Out.nx (Γ.set i (some (.lst (xs.set j d)))) | none => .bad : Out).post N R X = (match ixN xs.length n with | some j => N (Γ.set i (some (.lst (xs.set j d)))) | none => False)
      cases ixN xs.length n <;> rfl
@[simp] theorem w_setd {i o : Nat} {k e : EDen} {Γ : Gm} {N : Gm → Prop} {R : D → Prop} {X : Str → Prop} {es : List (Key × D)} (h : Γ[o]? = some (some (.dK es))) : (sSetd i o k e Γ).post N R X = (k Γ).post (fun n => (e Γ).post (fun d => match oKey n with
    | some q => es.length < sizeLine ∧ (match look es q with
      | some v => N (Γ.set i (some v))
      | none => N ((Γ.set o (some (.dK (putD es q d)))).set i (some d)))
    | none => False) X) X := by
  unfold sSetd
  rw [h]
  show (((k Γ).go fun n => (e Γ).go fun d => match oKey n with
    | some q => if es.length < sizeLine then (match look es q with
      | some v => .nx (Γ.set i (some v))
      | none => .nx ((Γ.set o (some (.dK (putD es q d)))).set i (some d))) else .bad
    | none => .bad) : Out).post N R X = _
  rw [wp_go]
  congr 1; funext n
  rw [wp_go]
  congr 1; funext d
  cases oKey n with
  | none => rfl
  | some q =>
    show (if es.length < sizeLine then (match look es q with
      | some v => .nx (Γ.set i (some v))
      | none => .nx ((Γ.set o (some (.dK (putD es q d)))).set i (some d))) else .bad : Out).post N R X = _
    rw [wp_ite]
    simp only [wp_bad, ite_and_f]
    cases look es q <;> rfl

/-! ### a pattern fitted to a fact -/
noncomputable def kOf (d : D) : Key := (oKey d).getD (.inl 0)
theorem kOf_is {d : D} (h : isS d = true) : oKey d = some (kOf d) := by
  cases d <;> simp [isS] at h
  rfl
noncomputable def stepF (es : List (Key × D)) (p x : D) : Option (List (Key × D)) :=
  if sl p = true then (match look es (kOf p) with
    | some v => if v = x then some es else none
    | none => some (putD es (kOf p) x)) else if p = x then some es else none
noncomputable def fitL : List (Key × D) → List D → List D → Option (List (Key × D))
  | es, p :: ps, x :: xs => (stepF es p x).bind fun es' => fitL es' ps xs
  | es, _, _ => some es
noncomputable def fitM (q f : Pn) : Option (List (Key × D)) := if q.ps.length = f.ps.length ∧ q.w = f.w then fitL [] q.ps f.ps else none
noncomputable def fitD (q f : Pn) : D := match fitM q f with
  | some es => .dK es
  | none => .non
def DOk (es : List (Key × D)) (n : Nat) : Prop := (es.map (·.1)).Nodup ∧ (∀ e ∈ es, isS e.2 = true) ∧ es.length ≤ n
theorem look_none {es : List (Key × D)} {k : Key} (h : look es k = none) : ∀ e ∈ es, e.1 ≠ k := by
  unfold look at h
  simp only [Option.map_eq_none_iff, List.find?_eq_none, decide_eq_true_eq] at h
  exact h
theorem put_new {es : List (Key × D)} {k : Key} {d : D} (h : look es k = none) : putD es k d = es ++ [(k, d)] := by
  unfold putD
  rw [if_neg]
  intro z
  obtain ⟨e, he, h2⟩ := List.any_eq_true.mp z
  exact look_none h e he (of_decide_eq_true h2)
theorem stepF_ok {es es' : List (Key × D)} {p x : D} {n : Nat} (h : DOk es n) (hx : isS x = true) (e : stepF es p x = some es') : DOk es' (n + 1) := by
  obtain ⟨h1, h2, h3⟩ := h
  unfold stepF at e
  split at e
  · split at e
    · split at e
      · cases e; exact ⟨h1, h2, by omega⟩
      · cases e
    · rename_i hl
      cases e
      rw [put_new hl]
      refine ⟨?_, ?_, by simp; omega⟩
      · rw [List.map_append, List.nodup_append]
        refine ⟨h1, by simp, fun a ha b hb => ?_⟩
        simp only [List.map_cons, List.map_nil, List.mem_singleton] at hb
        obtain ⟨e, he, rfl⟩ := List.mem_map.mp ha
        rw [hb]
        exact look_none hl e he
      · intro e he
        rcases List.mem_append.mp he with he | he
        · exact h2 e he
        · rw [List.mem_singleton.mp he]; exact hx
  · split at e
    · cases e; exact ⟨h1, h2, by omega⟩
    · cases e
theorem fitL_ok : ∀ {ps xs : List D} {es es' : List (Key × D)} {n : Nat}, DOk es n → (∀ x ∈ xs, isS x = true) → fitL es ps xs = some es' → DOk es' (n + xs.length)
  | p :: ps, x :: xs, es, es', n, h, hx, e => by
    unfold fitL at e
    obtain ⟨e1, h1, h2⟩ := Option.bind_eq_some_iff.mp e
    have := fitL_ok (stepF_ok h (hx x (by simp)) h1) (fun y hy => hx y (by simp [hy])) h2
    rw [List.length_cons]
    rw [show n + (xs.length + 1) = n + 1 + xs.length from by omega]
    exact this
  | [], xs, es, es', n, h, _, e => by
    unfold fitL at e
    cases e
    exact ⟨h.1, h.2.1, by have := h.2.2; omega⟩
  | _ :: _, [], es, es', n, h, _, e => by
    unfold fitL at e
    cases e
    exact ⟨h.1, h.2.1, by have := h.2.2; omega⟩
theorem pw_eq {q f : Pn} (hq : q.ok) (hf : f.ok) : oNe q.w f.w = .ok (.bl (!decide (q.w = f.w))) := by
  obtain ⟨x, e, _⟩ := hq.w
  obtain ⟨y, e2, _⟩ := hf.w
  rw [e, e2]
  exact oNe_pl rfl rfl
theorem ne_part {p x : D} (hp : isS p = true) (hx : isS x = true) : oNe p x = .ok (.bl (!decide (p = x))) := oNe_pl (pl_le (by decide) (isS_pl hp)) (pl_le (by decide) (isS_pl hx))
theorem atI_s {a : D} {l : List D} {k : Nat} : atI (a :: l) (1 + (k : Int)) = l[k]? := by
  rw [show (1 : Int) + (k : Int) = ((k + 1 : Nat) : Int) from by omega, atI_nat]
  simp
theorem len_cast (n : Nat) : ((n : Int) + 1 - 1).toNat = n := by omega
theorem ne_len {m n : Nat} : oNe (.int ((m : Int) + 1)) (.int ((n : Int) + 1)) = .ok (.bl (!decide (m = n))) := by
  rw [oNe_int]
  congr 3
  by_cases h : m = n
  · subst h; simp
  · have : ¬ (m : Int) + 1 = (n : Int) + 1 := by omega
    simp [h, this]
theorem fitted_is {q f : Pn} (hq : q.ok) (hf : f.ok) : f_fitted [q.d, f.d] = .ok (fitD q f) := by
  refine is_ok (run_p fun R hR => ?_)
  have hR := hR _ rfl
  unfold g_fitted
  simp [Pn.d, pw_eq hq hf]
  unfold fitD fitM at hR
  by_cases c1 : q.ps.length = f.ps.length
  case neg =>
    have : ¬ (q.ps.length : Int) = (f.ps.length : Int) := by omega
    rw [if_neg (fun z => c1 z.1)] at hR
    rw [if_neg this]; exact hR
  have c1' : (q.ps.length : Int) = (f.ps.length : Int) := by omega
  by_cases c2 : q.w = f.w
  case neg =>
    rw [if_neg (fun z => c2 z.2)] at hR
    rw [if_pos c1', if_neg c2]; exact hR
  rw [if_pos ⟨c1, c2⟩] at hR
  rw [if_pos c1', if_pos c2]
  have hl3 := hf.len
  refine ⟨by omega, by omega, ?_⟩
  refine for_rng (fun k Γ => ∃ es, Γ = [some (.tup (q.w :: q.ps)), some (.tup (f.w :: f.ps)), some (.dK es), none, none] ∧ DOk es k ∧ fitL [] q.ps f.ps = fitL es (q.ps.drop k) (f.ps.drop k)) ⟨[], rfl, ⟨by simp, by simp, by simp⟩, by simp⟩ ?_ ?_
  · rintro k Γ hk ⟨es, rfl, h1, h2⟩ N hN
    have hkf : k < f.ps.length := by omega
    have hkq : k < q.ps.length := by omega
    obtain ⟨p, hp⟩ : ∃ p, q.ps[k]? = some p := ⟨q.ps[k], by simp [hkq]⟩
    obtain ⟨x, hx⟩ : ∃ x, f.ps[k]? = some x := ⟨f.ps[k], by simp [hkf]⟩
    have hpo := hq.ps p (List.mem_of_getElem? hp)
    have hxo := (hf.ps x (List.mem_of_getElem? hx)).isS
    have dp : q.ps.drop k = p :: q.ps.drop (k + 1) := by
      rw [List.drop_eq_getElem_cons hkq]
      congr 1; simpa [hkq] using hp
    have dx : f.ps.drop k = x :: f.ps.drop (k + 1) := by
      rw [List.drop_eq_getElem_cons hkf]
      congr 1; simpa [hkf] using hx
    rw [dp, dx] at h2
    have h2 : fitL [] q.ps f.ps = (stepF es p x).bind fun es' => fitL es' (q.ps.drop (k + 1)) (f.ps.drop (k + 1)) := h2
    have hel : es.length < sizeLine := by have := h1.2.2; unfold sizeLine; omega
    have hsn : stepF es p x = none → R .non := fun z => by rw [h2, z] at hR; exact hR
    have hss : ∀ es', stepF es p x = some es' → N [some (.tup (q.w :: q.ps)), some (.tup (f.w :: f.ps)), some (.dK es'), some (.int (1 + (k : Int))), some x] := fun es' z => hN _ ⟨es', rfl, stepF_ok h1 hxo z, by rw [h2, z]; rfl⟩
    unfold stepF at hsn hss
    simp [atI_s, hp, hx, is_slot_is hpo]
    by_cases hs : sl p = true
    · simp only [hs, if_true] at hsn hss ⊢
      simp only [kOf_is hpo.isS, hel, true_and]
      cases hl : look es (kOf p) with
      | none =>
        simp only [hl] at hss ⊢
        simp [ne_part hxo hxo]
        exact hss _ rfl
      | some v =>
        simp only [hl] at hsn hss ⊢
        have hv := look_vals (P := fun d => isS d = true) h1.2.1 hl
        simp only [ne_part hv hxo, w_ok]
        by_cases hvx : v = x
        · subst hvx
          simp at hss ⊢
          exact hss
        · simp [hvx] at hsn ⊢
          exact hsn
    · simp only [hs, if_false] at hsn hss ⊢
      simp only [ne_part hpo.isS hxo, w_ok]
      by_cases hvx : p = x
      · subst hvx
        simp at hss ⊢
        exact hss
      · simp [hvx] at hsn ⊢
        exact hsn
  · rintro Γ ⟨es, rfl, h1, h2⟩
    have e : fitL [] q.ps f.ps = some es := by
      rw [h2, List.drop_of_length_le (by omega), List.drop_of_length_le (by omega)]
      rfl
    rw [e] at hR
    simpa using hR
end L2.Nf

namespace L2.Nf
open PySem PySem.Spec PyProof.Rows

theorem putK_is {es : List (Key × D)} {p x : D} (hp : isS p = true) (hl : es.length < sizeLine) : oPut (.dK es) p x = .ok (.dK (putD es (kOf p) x)) := by
  show (match oKey p with | some q => if es.length < sizeLine then Ro.ok (D.dK (putD es q x)) else .bad | none => .bad) = _
  rw [kOf_is hp]
  simp [hl]
theorem hasK2 {es : List (Key × D)} {p : D} (hp : isS p = true) : oHas p (.dK es) = .ok (look es (kOf p)).isSome := by
  cases p <;> simp [isS] at hp
  rfl
theorem ixK2 {es : List (Key × D)} {p v : D} (hp : isS p = true) (h : look es (kOf p) = some v) : oIx (.dK es) p = .ok v := by
  cases p <;> simp [isS] at hp
  exact ixK h
theorem q0_ne {d : D} (h : Part d) : (oIx d (.int 0)).bind (fun x => oNe x (.str qm)) = .ok (.bl (!sl d)) := by
  have h0 := q0_is h
  rw [qm_eq] at h0 ⊢
  rcases h with h | h
  · obtain ⟨w, rfl, hw⟩ := h
    obtain ⟨c, r, e, hc⟩ := q_no q_sgns hw
    rw [ix0S e, Ro.bind_ok] at h0 ⊢
    rw [eq_one] at h0
    rw [ne_part rfl rfl]
    have := congrArg (fun r : Ro D => match r with | .ok (.bl b) => b | _ => false) h0
    simp only at this
    rw [← this]
    congr 3
    by_cases hh : c = 63
    · subst hh; simp
    · simp [hh]
  · obtain ⟨w, rfl, hw⟩ := h
    rw [ix0S (q_cps w), Ro.bind_ok] at h0 ⊢
    rw [eq_one] at h0
    rw [ne_part rfl rfl]
    have := congrArg (fun r : Ro D => match r with | .ok (.bl b) => b | _ => false) h0
    simp only at this
    rw [← this]
    simp
theorem q0_nep {d : D} (h : Part d) (K : D → Prop) : (oIx d (.int 0)).post (fun x => (oNe x (.str qm)).post K fun _ => False) (fun _ => False) = K (.bl (!sl d)) := by
  rw [← post_bind, q0_ne h]; rfl
theorem due_is {q f : Pn} (hq : q.ok) (hf : f.ok) : f__law_due [q.d, f.d] = .ok (fitD q f) := by
  refine is_ok (run_p fun R hR => ?_)
  have hR := hR _ rfl
  unfold g__law_due
  simp [Pn.d, pw_eq hq hf]
  unfold fitD fitM at hR
  by_cases c1 : q.ps.length = f.ps.length
  case neg =>
    have : ¬ (q.ps.length : Int) = (f.ps.length : Int) := by omega
    rw [if_neg (fun z => c1 z.1)] at hR
    rw [if_neg this]; exact hR
  have c1' : (q.ps.length : Int) = (f.ps.length : Int) := by omega
  by_cases c2 : q.w = f.w
  case neg =>
    rw [if_neg (fun z => c2 z.2)] at hR
    rw [if_pos c1', if_neg c2]; exact hR
  rw [if_pos ⟨c1, c2⟩] at hR
  rw [if_pos c1', if_pos c2]
  have hl3 := hf.len
  refine ⟨by omega, by omega, ?_⟩
  refine for_rng (fun k Γ => ∃ es, Γ = [some (.tup (q.w :: q.ps)), some (.tup (f.w :: f.ps)), some (.dK es), none] ∧ DOk es k ∧ fitL [] q.ps f.ps = fitL es (q.ps.drop k) (f.ps.drop k)) ⟨[], rfl, ⟨by simp, by simp, by simp⟩, by simp⟩ ?_ ?_
  · rintro k Γ hk ⟨es, rfl, h1, h2⟩ N hN
    have hkf : k < f.ps.length := by omega
    have hkq : k < q.ps.length := by omega
    obtain ⟨p, hp⟩ : ∃ p, q.ps[k]? = some p := ⟨q.ps[k], by simp [hkq]⟩
    obtain ⟨x, hx⟩ : ∃ x, f.ps[k]? = some x := ⟨f.ps[k], by simp [hkf]⟩
    have hpo := hq.ps p (List.mem_of_getElem? hp)
    have hxo := (hf.ps x (List.mem_of_getElem? hx)).isS
    have dp : q.ps.drop k = p :: q.ps.drop (k + 1) := by
      rw [List.drop_eq_getElem_cons hkq]
      congr 1; simpa [hkq] using hp
    have dx : f.ps.drop k = x :: f.ps.drop (k + 1) := by
      rw [List.drop_eq_getElem_cons hkf]
      congr 1; simpa [hkf] using hx
    rw [dp, dx] at h2
    have h2 : fitL [] q.ps f.ps = (stepF es p x).bind fun es' => fitL es' (q.ps.drop (k + 1)) (f.ps.drop (k + 1)) := h2
    have hel : es.length < sizeLine := by have := h1.2.2; unfold sizeLine; omega
    have hsn : stepF es p x = none → R .non := fun z => by rw [h2, z] at hR; exact hR
    have hss : ∀ es', stepF es p x = some es' → N [some (.tup (q.w :: q.ps)), some (.tup (f.w :: f.ps)), some (.dK es'), some (.int (1 + (k : Int)))] := fun es' z => hN _ ⟨es', rfl, stepF_ok h1 hxo z, by rw [h2, z]; rfl⟩
    unfold stepF at hsn hss
    simp [atI_s, hp, hx, q0_nep hpo, ne_part hpo.isS hxo, hasK2 hpo.isS, isDict]
    by_cases hs : sl p = true
    · simp only [hs, if_true] at hsn hss ⊢
      cases hl : look es (kOf p) with
      | none =>
        simp only [hl] at hss ⊢
        simp [putK_is hpo.isS hel]
        exact hss _ rfl
      | some v =>
        simp only [hl] at hsn hss ⊢
        have hv := look_vals (P := fun d => isS d = true) h1.2.1 hl
        simp [ixK2 hpo.isS hl, ne_part hv hxo]
        by_cases hvx : v = x
        · subst hvx
          simp at hss ⊢
          exact hss
        · simp [hvx] at hsn ⊢
          exact hsn
    · simp only [hs, if_false] at hsn hss ⊢
      by_cases hvx : p = x
      · subst hvx
        simp at hss ⊢
        exact hss
      · simp [hvx] at hsn ⊢
        exact hsn
  · rintro Γ ⟨es, rfl, h1, h2⟩
    have e : fitL [] q.ps f.ps = some es := by
      rw [h2, List.drop_of_length_le (by omega), List.drop_of_length_le (by omega)]
      rfl
    rw [e] at hR
    simpa using hR
/-- a word, and up to three parts -/
def FL (l : List D) : Prop := ∃ w gs, l = w :: gs ∧ (∃ x, w = .str x ∧ IsW lets x) ∧ (∀ p ∈ gs, Part p) ∧ gs.length ≤ 3
theorem dIdx_mem {x : D} {ys : List D} (hx : isS x = true) (hys : ∀ y ∈ ys, isS y = true) (h : x ∈ ys) : ∃ j, oIndex (.lst ys) x = .ok (.int (j : Nat)) ∧ j < ys.length := by
  have ha : (ys.all isS && isS x) = true := by rw [List.all_eq_true.mpr hys, hx]; rfl
  cases hd : dIdx x ys with
  | none =>
    unfold dIdx at hd
    rw [List.findIdx?_eq_none_iff] at hd
    have := hd x h
    rw [eq_pl (pl_le (by decide) (isS_pl hx)) (pl_le (by decide) (isS_pl hx))] at this
    simp at this
  | some j =>
    refine ⟨j, ?_, ?_⟩
    · show (if (ys.all isS && isS x) = true then (match dIdx x ys with | some j => Ro.ok (D.int j) | none => .bad) else .bad) = _
      rw [if_pos ha, hd]
    · unfold dIdx at hd
      exact (List.findIdx?_eq_some_iff_getElem.mp hd).1
@[simp] theorem w_eIndex {a b : EDen} {Γ : Gm} {K : D → Prop} {X : Str → Prop} : (eIndex a b Γ).post K X = (a Γ).post (fun d => match d with | .lst ys => (b Γ).post (fun e => (oIndex (.lst ys) e).post K X) X | _ => False) X := by
  unfold eIndex; rw [post_bind]
  congr 1; funext d
  cases d <;> try rfl
  rw [post_bind]
@[simp] theorem w_catL {x y : List D} {K : D → Prop} {X : Str → Prop} : (oCat (.lst x) (.lst y)).post K X = (x.length + y.length ≤ sizeLine ∧ K (.lst (x ++ y))) := by
  unfold oCat; simp only [w_iteP]
@[simp] theorem w_cutLL {xs : List D} {l h : Option Int} {K : D → Prop} {X : Str → Prop} : (oCutL (.lst xs) l h).post K X = K (.lst (cut xs l h)) := rfl
@[simp] theorem w_neg {i : Int} {K : D → Prop} {X : Str → Prop} : (oNeg (.int i)).post K X = K (.int (-i)) := rfl
theorem ixN_in {n : Nat} {i : Int} (h : 0 ≤ i) (h' : i < n) : ixN n i = some i.toNat := by
  unfold ixN; rw [if_pos h, if_pos h']
theorem cut_last {w : D} {gs : List D} (h : 0 < gs.length) : cut (w :: gs) none (some (-1)) = w :: gs.take (gs.length - 1) := by
  unfold cut
  have : HT.sIx (w :: gs).length (w :: gs).length (some (-1)) = gs.length := by
    show (if (-1 : Int) < 0 then ((-1 : Int) + ((w :: gs).length : Int)).toNat else min (-1 : Int).toNat (w :: gs).length) = _
    rw [if_pos (by omega)]
    simp
    omega
  rw [this, HT.sIx_none]
  obtain ⟨n, hn⟩ : ∃ n, gs.length = n + 1 := ⟨gs.length - 1, by omega⟩
  rw [hn]
  simp
theorem law_fact_is {q : Pn} {ss ts ws : List D} {c : Int} (hq : q.ok) (hs : ∀ s ∈ ss, isSl s) (hsl : ss.length = 3) (ht : ∀ t ∈ ts, isTh t) (htl : ts.length = 4) (hw : ∀ w ∈ ws, ∃ x, w = .str x ∧ IsW lets x) (hwl : ws.length = 4) :
    ∃ f : Pn, f__law_fact [q.d, .lst ss, .lst ts, .int c, .lst ws] = .ok f.d ∧ f.ok := by
  suffices h : Is (f__law_fact [q.d, .lst ss, .lst ts, .int c, .lst ws]) fun d => ∃ q : Pn, d = q.d ∧ q.ok by
    obtain ⟨d, e, q, rfl, h⟩ := is_ex h
    exact ⟨q, e, h⟩
  have hss : ∀ s ∈ ss, isS s = true := fun s h => (show Part s from .inr (hs s h)).isS
  refine run_p fun R hR => ?_
  unfold g__law_fact
  have c6 := fmod_pos (a := c) (n := 6) (by omega)
  let G : List D → Gm := fun l => [none, none, some (.lst ts), some (.int c), some (.lst ws), some (.lst l), none]
  let G0 : List D → Gm := fun l => [none, some (.lst ss), some (.lst ts), some (.int c), some (.lst ws), some (.lst l), none]
  simp only [w_seq, w_set, w_e2, w_eN, w_aC, w_aN, w_eV, w_eC, gm0, List.map_cons, List.map_nil, List.length_cons, List.length_nil, Pn.d]
  simp [cut_tail]
  refine for_idx (fun k Γ => ∃ gs, Γ = G0 (q.w :: gs) ∧ gs.length = k ∧ ∀ p ∈ gs, Part p) ⟨[], rfl, rfl, by simp⟩ ?_ ?_
  · rintro k p Γ hk ⟨gs, rfl, h1, h2⟩ N hN
    have hkl := (List.getElem?_eq_some_iff.mp hk).1
    have hq3 := hq.len
    have hp := hq.ps p (List.mem_of_getElem? hk)
    have app : ∀ y, Part y → N [none, some (.lst ss), some (.lst ts), some (.int c), some (.lst ws), some (.lst (q.w :: (gs ++ [y]))), some p] := fun y hy => hN _ ⟨gs ++ [y], rfl, by simp [h1], fun z hz => by
      rcases List.mem_append.mp hz with hz | hz
      · exact h2 z hz
      · rw [List.mem_singleton.mp hz]; exact hy⟩
    simp [G0, in_pl (pl_le (by decide) (isS_pl hp.isS)) (fun y hy => pl_le (by decide) (isS_pl (hss y hy)))]
    by_cases hm : p ∈ ss
    · rw [if_pos hm]
      obtain ⟨j, ej, hj⟩ := dIdx_mem hp.isS hss hm
      obtain ⟨t, et, _, hth⟩ := mem_get (i := (j : Int)) ht (by omega) (by omega)
      simp [ej, et]
      exact ⟨by unfold sizeLine; omega, app t (.inl hth)⟩
    · rw [if_neg hm]
      exact ⟨by unfold sizeLine; omega, app p hp⟩
  · rintro Γ ⟨gs, rfl, h1, h2⟩
    have hq3 := hq.len
    have fin : ∀ w gs, (∃ x, w = .str x ∧ IsW lets x) → (∀ p ∈ gs, Part p) → gs.length ≤ 3 → R (.tup (w :: gs)) := fun w gs a b d => hR _ ⟨⟨w, gs⟩, rfl, a, b, d⟩
    have hgl : gs.length ≤ 3 := by omega
    have h6 : c.fmod 6 = 0 ∨ c.fmod 6 = 1 ∨ c.fmod 6 = 2 ∨ c.fmod 6 = 3 ∨ c.fmod 6 = 4 ∨ c.fmod 6 = 5 := by omega
    obtain ⟨t3, et3, _, ht3⟩ := mem_get (i := 3) ht (by omega) (by omega)
    have hset : ∀ (j : Nat) (x : D), Part x → ∀ p ∈ gs.set j x, Part p := fun j x hx p hp => by
      rcases List.mem_or_eq_of_mem_set hp with h | h
      · exact h2 p h
      · exact h ▸ hx
    rcases h6 with h6 | h6 | h6 | h6 | h6 | h6
    · simp [G0, h6]
      exact fin _ _ hq.w h2 hgl
    · simp [G0, h6, et3]
      split
      · rename_i hz
        have hz : 0 < gs.length := by omega
        have hzi : (0 : Int) < gs.length := by omega
        have b1 := fmod_pos (a := c.fdiv 6) hzi
        have hne : ¬ gs = [] := by rintro rfl; simp at hz
        obtain ⟨j, hj⟩ := Int.eq_ofNat_of_zero_le b1.1
        rw [hj] at b1 ⊢
        have e1 : ixN (gs.length + 1) (1 + (j : Int)) = some (j + 1) := by
          rw [ixN_in (by omega) (by omega)]; congr 1; omega
        simp [hne, e1]
        exact fin _ _ hq.w (hset _ _ (.inl ht3)) (by simpa using hgl)
      · exact fin _ _ hq.w h2 hgl
    · simp [G0, h6]
      exact fin _ _ hq.w h2 hgl
    · have b1 := fmod_pos (a := c.fdiv 6) (n := 4) (by omega)
      obtain ⟨w, ew, _, hw1⟩ := mem_get hw b1.1 (by rw [hwl]; exact b1.2)
      have e0 : ixN (gs.length + 1) 0 = some 0 := ixN_in (by omega) (by omega)
      simp [G0, h6, ew, e0]
      exact fin _ _ hw1 h2 hgl
    · simp [G0, h6]
      split
      · rename_i hz
        rw [cut_last (by omega)]
        exact fin _ _ hq.w (fun p hp => h2 p (List.mem_of_mem_take hp)) (by simp; omega)
      · exact fin _ _ hq.w h2 hgl
    · have b1 := fmod_pos (a := c.fdiv 6) (n := 3) (by omega)
      obtain ⟨t, et, _, ht1⟩ := mem_get ht b1.1 (by omega)
      simp [G0, h6, et]
      split
      · refine ⟨by unfold sizeLine; omega, ?_⟩
        refine fin _ _ hq.w ?_ (by simp; omega)
        intro p hp
        rcases List.mem_append.mp hp with hp | hp
        · exact h2 p hp
        · rw [List.mem_singleton.mp hp]; exact .inl ht1
      · exact fin _ _ hq.w h2 hgl
theorem eqK_self {es : List (Key × D)} {n : Nat} (h : DOk es n) : oEqK (.dK es) (.dK es) = .ok (.bl true) := by
  show (if eqKC es es then Ro.ok (D.bl true) else .bad) = _
  rw [if_pos ⟨rfl, h.1, h.2.1⟩]
theorem plain_k02 (ns : List Int) (hns : ns.length ≤ 63) : f_law_k02 [encI ns] = .ok (.bl true) := by
  refine is_ok (run_p fun R hR => ?_)
  unfold g_law_k02
  have hR := hR _ rfl
  simp
  refine comp_wp (P := fun _ d => ∃ x, d = .str x ∧ IsW lets x) ?_ fun ws hws => ?_
  · intro d hd
    obtain ⟨i, hi, rfl⟩ := mem_rng hd
    obtain ⟨w, e, hw⟩ := word2_is (c := cellD ns 0) (k := i) (by omega) (by omega)
    simp [cell_at (ns := ns) (i := 0) (by decide), e, hw]
  have hwl : ws.length = 4 := by rw [← hws.len]; rfl
  have hw1 := hws.right (Q := fun d => ∃ x, d = .str x ∧ IsW lets x) fun _ _ h => h
  refine comp_wp (P := fun _ d => isTh d) ?_ fun ts hts => ?_
  · intro d hd
    obtain ⟨i, hi, rfl⟩ := mem_rng hd
    obtain ⟨w, e, hw⟩ := thing2_is (c := cellD ns 1) (k := i) (by omega) (by omega)
    simp [cell_at (ns := ns) (i := 1) (by decide), e]
    exact ⟨w, rfl, hw⟩
  have htl : ts.length = 4 := by rw [← hts.len]; rfl
  have ht1 := hts.right (Q := fun d => isTh d) fun _ _ h => h
  refine comp_wp (P := fun _ d => isSl d) ?_ fun ss hss => ?_
  · intro d hd
    obtain ⟨i, hi, rfl⟩ := mem_rng hd
    obtain ⟨w, e, hw⟩ := word2_is (c := cellD ns 2) (k := i) (by omega) (by omega)
    simp [cell_at (ns := ns) (i := 2) (by decide), e]
    have := hw.2.1
    refine ⟨?_, w, rfl, hw⟩
    rw [show (PySem.Str.ofString "?").length = 1 from by decide +kernel]; unfold sizeLine; omega
  have hsl : ss.length = 3 := by rw [← hss.len]; rfl
  have hs1 := hss.right (Q := fun d => isSl d) fun _ _ h => h
  have m3 : ∀ a : Int, ∃ t, atI ts (a.fmod 3) = some t ∧ isTh t := fun a => by
    obtain ⟨t, e, _, h⟩ := mem_get (i := a.fmod 3) ht1 (fmod_pos (by omega)).1 (by rw [htl]; have := (fmod_pos (a := a) (n := 3) (by omega)).2; omega)
    exact ⟨t, e, h⟩
  obtain ⟨t0, et0, h0⟩ := m3 (cellD ns 5)
  obtain ⟨t1, et1, h1⟩ := m3 ((cellD ns 5).fdiv 3)
  obtain ⟨t2, et2, h2⟩ := m3 ((cellD ns 5).fdiv 9)
  obtain ⟨t3, et3, _, h3⟩ := mem_get (i := 3) ht1 (by omega) (by omega)
  simp [cell_at (ns := ns) (i := 5) (by decide), cell_at (ns := ns) (i := 3) (by decide), cell_at (ns := ns) (i := 4) (by decide), et0, et1, et2, et3]
  have hc1 : (cut ts none (some 1)).length ≤ ts.length := cut_le
  have hc2 : (cut ss none (some 1)).length ≤ ss.length := cut_le
  refine ⟨by unfold sizeLine; omega, by unfold sizeLine; omega, ?_⟩
  obtain ⟨q, eq, hq⟩ := pattern_is (c := cellD ns 3) (ws := ws) (ps := cut ts none (some 1) ++ (ss ++ cut ss none (some 1))) hw1 hwl (by
    intro p hp
    rcases List.mem_append.mp hp with hp | hp
    · exact .inl (ht1 p (cut_mem hp))
    · rcases List.mem_append.mp hp with hp | hp
      · exact .inr (hs1 p hp)
      · exact .inr (hs1 p (cut_mem hp))) (by simp; omega) (by simp; omega)
  obtain ⟨f, ef, hf⟩ := law_fact_is (q := q) (ss := ss) (ts := [t0, t1, t2, t3]) (ws := ws) (c := cellD ns 4) hq hs1 hsl (by
    intro t ht
    simp at ht
    rcases ht with rfl | rfl | rfl | rfl
    · exact h0
    · exact h1
    · exact h2
    · exact h3) rfl hw1 hwl
  simp [eq, ef, due_is hq hf, fitted_is hq hf]
  unfold fitD
  cases hm : fitM q f with
  | none =>
    simp [oIsN]
    exact hR
  | some es =>
    have hd : DOk es (0 + f.ps.length) := by
      unfold fitM at hm
      split at hm
      · exact fitL_ok ⟨by simp, by simp, by simp⟩ (fun x hx => (hf.ps x hx).isS) hm
      · cases hm
    simp [oIsN, eqK_self hd, dTy]
    exact hR
end L2.Nf

namespace L2.Nf
open PySem PySem.Spec PyProof.Rows

abbrev isWd (d : D) : Prop := ∃ x, d = .str x ∧ IsW lets x
/-- patterns over some parts -/
def Over (A : List D) (q : Pn) : Prop := q.ok ∧ ∀ p ∈ q.ps, p ∈ A
theorem fdiv_ok {n : Nat} (h : 0 < n) (h' : n < 1000) : ((n : Int) ≠ 0) ∧ (n : Int).natAbs < 1073741824 := by omega
theorem atom_is {c : Int} {ws A : List D} (hw : ∀ w ∈ ws, isWd w) (hwl : ws.length = 4) (hA : ∀ p ∈ A, Part p) (hl : 0 < A.length) (hl2 : A.length < 1000) : ∃ q : Pn, f__law_atom [.int c, .lst ws, .lst A] = .ok q.d ∧ Over A q := by
  suffices h : Is (f__law_atom [.int c, .lst ws, .lst A]) fun d => ∃ q : Pn, d = q.d ∧ Over A q by
    obtain ⟨d, e, q, rfl, h⟩ := is_ex h
    exact ⟨q, e, h⟩
  refine run_p fun R hR => ?_
  unfold g__law_atom
  have hz : (0 : Int) < A.length := by omega
  have hne : ¬ A = [] := by rintro rfl; simp at hl
  have b5 := fmod_pos (a := c) (n := 5) (by omega)
  obtain ⟨x, ex, hx, hx1⟩ := mem_get (i := (c.fdiv 5).fmod A.length) hA (fmod_pos hz).1 (fmod_pos hz).2
  obtain ⟨y, ey, hy, hy1⟩ := mem_get (i := ((c.fdiv 5).fdiv A.length).fmod A.length) hA (fmod_pos hz).1 (fmod_pos hz).2
  obtain ⟨w0, e0, _, h0⟩ := mem_get (i := 0) hw (by omega) (by omega)
  obtain ⟨w1, e1, _, h1⟩ := mem_get (i := 1) hw (by omega) (by omega)
  obtain ⟨w2, e2, _, h2⟩ := mem_get (i := 2) hw (by omega) (by omega)
  obtain ⟨w3, e3, _, h3⟩ := mem_get (i := 3) hw (by omega) (by omega)
  have ok : ∀ w ps, isWd w → (∀ p ∈ ps, p = x ∨ p = y) → ps.length ≤ 3 → R (.tup (w :: ps)) := fun w ps hw hp hl => hR _ ⟨⟨w, ps⟩, rfl, ⟨hw, fun p h => by rcases hp p h with rfl | rfl <;> assumption, hl⟩, fun p h => by rcases hp p h with rfl | rfl <;> assumption⟩
  have hk : c.fmod 5 = 0 ∨ c.fmod 5 = 1 ∨ c.fmod 5 = 2 ∨ c.fmod 5 = 3 ∨ c.fmod 5 = 4 := by omega
  simp [ex, ey, hne]
  refine ⟨by omega, ?_⟩
  rcases hk with hk | hk | hk | hk | hk
  · simp [hk, e0]; exact ok _ [x] h0 (by simp) (by simp)
  · simp [hk, e1]; exact ok _ [x] h1 (by simp) (by simp)
  · simp [hk, e2]; exact ok _ [x, y] h2 (by simp) (by simp)
  · simp [hk, e3]; exact ok _ [] h3 (by simp) (by simp)
  · simp [hk, e0]; exact ok _ [x, y, x] h0 (by simp) (by simp)
/-- a list of patterns -/
def PL (A : List D) (l : List D) (n : Nat) : Prop := ∃ qs : List Pn, l = qs.map Pn.d ∧ (∀ q ∈ qs, Over A q) ∧ qs.length ≤ n
def Cov (ss : List D) (l : List D) : Prop := ∀ s ∈ ss, ∃ w ps, D.tup (w :: ps) ∈ l ∧ s ∈ ps
theorem PL.app {A l l' : List D} {n m k : Nat} (h : PL A l n) (h' : PL A l' m) (hk : n + m ≤ k) : PL A (l ++ l') k := by
  obtain ⟨qs, rfl, h1, h2⟩ := h
  obtain ⟨rs, rfl, h3, h4⟩ := h'
  refine ⟨qs ++ rs, by simp, fun q hq => ?_, by simp; omega⟩
  rcases List.mem_append.mp hq with hq | hq
  · exact h1 q hq
  · exact h3 q hq
theorem PL.mk {A : List D} {q : Pn} (h : Over A q) : PL A [q.d] 1 := ⟨[q], rfl, by simpa using h, by simp⟩
theorem PL.nil {A : List D} {n : Nat} : PL A [] n := ⟨[], rfl, by simp, by simp⟩
theorem PL.le {A l : List D} {n m : Nat} (h : PL A l n) (hm : n ≤ m) : PL A l m := let ⟨a, b, c, d⟩ := h; ⟨a, b, c, by omega⟩
theorem PL.len {A l : List D} {n : Nat} (h : PL A l n) : l.length ≤ n := by
  obtain ⟨qs, rfl, _, h2⟩ := h
  simpa using h2
theorem PL.sub {A l l' : List D} {n m : Nat} (h : PL A l n) (hs : ∀ x ∈ l', x ∈ l) (hm : l'.length ≤ m) : PL A l' m := by
  obtain ⟨qs, rfl, h1, h2⟩ := h
  have : ∀ l' : List D, (∀ x ∈ l', x ∈ qs.map Pn.d) → ∃ rs : List Pn, l' = rs.map Pn.d ∧ ∀ q ∈ rs, Over A q := by
    intro l'
    induction l' with
    | nil => intro _; exact ⟨[], rfl, by simp⟩
    | cons x r ih =>
      intro hs
      obtain ⟨q, hq, rfl⟩ := List.mem_map.mp (hs x (by simp))
      obtain ⟨rs, rfl, h3⟩ := ih fun y hy => hs y (by simp [hy])
      refine ⟨q :: rs, rfl, fun z hz => ?_⟩
      rcases List.mem_cons.mp hz with rfl | hz
      · exact h1 z hq
      · exact h3 z hz
  obtain ⟨rs, rfl, h3⟩ := this l' hs
  exact ⟨rs, rfl, h3, by simpa using hm⟩
theorem Cov.app {ss l l' : List D} (h : Cov ss l) (hs : ∀ x ∈ l, x ∈ l') : Cov ss l' := fun s hm => let ⟨w, ps, a, b⟩ := h s hm; ⟨w, ps, hs _ a, b⟩
theorem set_seq {i : Nat} {a : EDen} {g : SDen} {Γ : Gm} {N : Gm → Prop} {R : D → Prop} (d : D) (h : Is (a Γ) fun x => x = d) (h' : Wp (g (Γ.set i (some d))) N R) : Wp (sSeq (sSet i a) g Γ) N R := by
  show (sSeq (sSet i a) g Γ).post N R _
  rw [wp_seq, w_set, is_ok h]
  exact h'
structure Ru where
  h : Pn
  ys : List Pn
  ns : List Pn
def Ru.d (r : Ru) : D := .tup [r.h.d, .tup (r.ys.map Pn.d), .tup (r.ns.map Pn.d)]
/-- a rule over things and some of the slots, all of which stand in its yeses -/
structure Ru.ok (th nm : List D) (r : Ru) : Prop where
  sl : ∃ k, k ≤ 3 ∧ Over (th ++ nm.take k) r.h ∧ (∀ q ∈ r.ys, Over (th ++ nm.take k) q) ∧ (∀ q ∈ r.ns, Over (th ++ nm.take k) q) ∧ ∀ s ∈ nm.take k, ∃ q ∈ r.ys, s ∈ q.ps
  len : r.ys.length + r.ns.length ≤ 6
theorem cut_take {α : Type} {xs : List α} {k : Nat} (h : k ≤ xs.length) : cut xs none (some (k : Int)) = xs.take k := by
  unfold cut
  rw [HT.sIx_none, HT.sIx_nat, Nat.min_eq_left h]
  simp
theorem cut_drop {α : Type} {xs : List α} {k : Nat} (h : k ≤ xs.length) : cut xs (some (k : Int)) none = xs.drop k := by
  unfold cut
  rw [HT.sIx_none, HT.sIx_nat, Nat.min_eq_left h]
  rw [List.take_of_length_le (by simp)]
theorem rule_is {c : Int} {ws th nm : List D} (hw : ∀ w ∈ ws, isWd w) (hwl : ws.length = 4) (ht : ∀ p ∈ th, isTh p) (htl : 0 < th.length) (htl2 : th.length ≤ 3) (hn : ∀ p ∈ nm, isSl p) (hnl : nm.length = 3) : ∃ r : Ru, f__law_rule [.int c, .lst ws, .lst th, .lst nm] = .ok r.d ∧ r.ok th nm := by
  suffices h : Is (f__law_rule [.int c, .lst ws, .lst th, .lst nm]) fun d => ∃ r : Ru, d = r.d ∧ r.ok th nm by
    obtain ⟨d, e, q, rfl, h⟩ := is_ex h
    exact ⟨q, e, h⟩
  refine run_p fun R hR => ?_
  unfold g__law_rule
  have b8 := fmod_pos (a := c) (n := 8) (by omega)
  obtain ⟨kd, ek, _, k, rfl, hk⟩ := mem_get (P := fun d => ∃ k : Nat, d = .int k ∧ k ≤ 3) (xs := [D.int 0, D.int 0, D.int 1, D.int 2, D.int 0, D.int 1, D.int 2, D.int 3]) (by
      simp only [List.mem_cons, List.not_mem_nil, or_false]
      rintro x (rfl | rfl | rfl | rfl | rfl | rfl | rfl | rfl)
      all_goals first | exact ⟨0, rfl, by omega⟩ | exact ⟨1, rfl, by omega⟩ | exact ⟨2, rfl, by omega⟩ | exact ⟨3, rfl, by omega⟩) b8.1 b8.2
  have hcut := cut_take (xs := nm) (k := k) (by omega)
  obtain ⟨w0, e0, _, h0⟩ := mem_get (i := 0) hw (by omega) (by omega)
  obtain ⟨w1, e1, _, h1⟩ := mem_get (i := 1) hw (by omega) (by omega)
  obtain ⟨w2, e2, _, h2⟩ := mem_get (i := 2) hw (by omega) (by omega)
  generalize hss : nm.take k = ss at hcut hR
  have hsl : ss.length = k := by rw [← hss]; simp; omega
  have hsp : ∀ s ∈ ss, isSl s := fun s h => hn s (List.mem_of_mem_take (hss ▸ h))
  let A := th ++ ss
  have hA : ∀ p ∈ A, Part p := fun p hp => by
    rcases List.mem_append.mp hp with hp | hp
    · exact .inl (ht p hp)
    · exact .inr (hsp p hp)
  have hAl : 0 < A.length := by simp [A]; omega
  have hAl2 : A.length < 1000 := by simp [A]; omega
  have mkO : ∀ w ps, isWd w → (∀ p ∈ ps, p ∈ ss) → ps.length ≤ 3 → Over A ⟨w, ps⟩ := fun w ps a b d => ⟨⟨a, fun p h => .inr (hsp p (b p h)), d⟩, fun p h => List.mem_append_right _ (b p h)⟩
  have fin : ∀ (h : Pn) (l m : List D), Over A h → (∃ n, PL A l n) → (∃ n, PL A m n) → l.length + m.length ≤ 6 → Cov ss l → R (.tup [h.d, .tup l, .tup m]) := by
    rintro h l m hh ⟨n1, qs, rfl, q1, q2⟩ ⟨n2, rs, rfl, r1, r2⟩ hlen hcov
    refine hR _ ⟨⟨h, qs, rs⟩, rfl, ⟨k, hk, ?_⟩, by simpa using hlen⟩
    rw [hss]
    refine ⟨hh, q1, r1, fun s hs => ?_⟩
    obtain ⟨w, ps, a, b⟩ := hcov s hs
    obtain ⟨q, hq, e⟩ := List.mem_map.mp a
    refine ⟨q, hq, ?_⟩
    unfold Pn.d at e
    cases e
    exact b
  refine set_seq (.int ((c * 48271).fmod 2147483647)) (by simp) ?_
  refine set_seq (.int ((c * 69621).fmod 998244353)) (by simp) ?_
  refine set_seq (.int ((c * 16807).fmod 1000000007)) (by simp) ?_
  generalize (c * 48271).fmod 2147483647 = one
  generalize (c * 69621).fmod 998244353 = two
  generalize (c * 16807).fmod 1000000007 = three
  refine set_seq (.lst ss) (by simp [ek, hcut]) ?_
  refine set_seq (.lst A) (by simp [A]; unfold sizeLine; omega) ?_
  refine set_seq (.lst []) (by simp) ?_
  simp only [gm0, List.map_cons, List.map_nil, List.length_cons, List.length_nil, List.set_cons_succ, List.set_cons_zero, List.cons_append, List.nil_append, List.replicate_succ, List.replicate_zero, Nat.reduceSub, Nat.reduceAdd, Nat.zero_add]
  let G : List D → Gm := fun l => [some (.int c), some (.lst ws), some (.lst th), some (.lst nm), some (.int one), some (.int two), some (.int three), some (.lst ss), some (.lst A), some (.lst l), none, none, none, none]
  let Q : Nat → List D → Prop := fun n l => PL A l 2 ∧ (ss.length ≤ n → Cov ss l) ∧ (n < ss.length → l = [])
  have cov1 : ∀ (w : D) (ps : List D) (l : List D), D.tup (w :: ps) ∈ l → (∀ s ∈ ss, s ∈ ps) → Cov ss l := fun w ps l h h' s hs => ⟨w, ps, h, h' s hs⟩
  have f2 : ∀ a : Int, a.fmod 2 = a % 2 := fun a => Int.fmod_eq_emod_of_nonneg a (by omega)
  have f3 : ∀ a : Int, a.fmod 3 = a % 3 := fun a => Int.fmod_eq_emod_of_nonneg a (by omega)
  have hw2 : ∀ a : Int, ∃ w, atI ws (a.fmod 2) = some w ∧ isWd w := fun a => by
    have b2 := fmod_pos (a := a) (n := 2) (by omega)
    obtain ⟨w, ew, _, hw'⟩ := mem_get (i := a.fmod 2) hw b2.1 (by omega)
    exact ⟨w, ew, hw'⟩
  refine seq_wp (fun Γ => ∃ l, Γ = G l ∧ Q 1 l) ?_ ?_
  · intro N hN
    by_cases hk1 : ss.length = 1
    · obtain ⟨s, hs⟩ := List.length_eq_one_iff.mp hk1
      have es : atI ss 0 = some s := by rw [hs]; exact atI0
      have hsm : ∀ x ∈ ss, x = s := fun x hx => by rw [hs] at hx; simpa using hx
      have hsi : s ∈ ss := by rw [hs]; simp
      obtain ⟨w, ew, hw'⟩ := hw2 (two.fdiv 2)
      simp [ew, es, hk1]
      refine ⟨by unfold sizeLine; omega, hN _ ⟨_, rfl, (PL.mk (mkO w [s] hw' (by simpa using hsi) (by simp))).le (by omega), fun _ => cov1 w [s] _ (by simp [Pn.d]) (by simpa using hsm), by omega⟩⟩
    · have hk1' : ¬ (ss.length : Int) = 1 := by omega
      simp [hk1', hk1]
      refine hN _ ⟨[], rfl, PL.nil, fun h => ?_, fun _ => rfl⟩
      have : ss = [] := List.length_eq_zero_iff.mp (by omega)
      rw [this]; intro s hs; simp at hs
  · rintro Γ ⟨l, rfl, hl1, hl2, hl3⟩
    refine seq_wp (fun Γ => ∃ l, Γ = G l ∧ Q 2 l) ?_ ?_
    · intro N hN
      by_cases hk1 : ss.length = 2
      · obtain ⟨s, t, hs⟩ : ∃ s t, ss = [s, t] := by
          match ss, hk1 with
          | [s, t], _ => exact ⟨s, t, rfl⟩
        have es : atI ss 0 = some s := by rw [hs]; exact atI0
        have et : atI ss 1 = some t := by rw [hs]; exact atI1
        have hsm : ∀ x ∈ ss, x = s ∨ x = t := fun x hx => by rw [hs] at hx; simpa using hx
        have hsi : s ∈ ss := by rw [hs]; simp
        have hti : t ∈ ss := by rw [hs]; simp
        have o1 : ∃ x y, atI ss (one.fmod 2) = some x ∧ atI ss (1 - one.fmod 2) = some y ∧ x ∈ ss ∧ y ∈ ss ∧ ∀ z ∈ ss, z = x ∨ z = y := by
          have := fmod_pos (a := one) (n := 2) (by omega)
          rcases (show one.fmod 2 = 0 ∨ one.fmod 2 = 1 by omega) with h | h
          · rw [h]; exact ⟨s, t, es, et, hsi, hti, hsm⟩
          · rw [h]; exact ⟨t, s, et, es, hti, hsi, fun z hz => (hsm z hz).symm⟩
        obtain ⟨x, y, ex, ey, hx, hy, hxy⟩ := o1
        have hk2 : (ss.length : Int) = 2 := by omega
        simp [G, hk2, e2, e1, e0, ex, ey, es, et]
        split
        · refine hN _ ⟨_, rfl, (PL.mk (mkO w1 [s] h1 (by simpa using hsi) (by simp))).app (PL.mk (mkO w0 [t] h0 (by simpa using hti) (by simp))) (by omega), fun _ z hz => ?_, by omega⟩
          rcases hsm z hz with rfl | rfl
          · exact ⟨w1, [z], by simp [Pn.d], by simp⟩
          · exact ⟨w0, [z], by simp [Pn.d], by simp⟩
        · exact hN _ ⟨_, rfl, (PL.mk (mkO w2 [x, y] h2 (by simp [hx, hy]) (by simp))).le (by omega), fun _ => cov1 w2 [x, y] _ (by simp [Pn.d]) (by simpa using hxy), by omega⟩
      · have hk1' : ¬ (ss.length : Int) = 2 := by omega
        simp [G, hk1']
        exact hN _ ⟨l, rfl, hl1, fun h => hl2 (by omega), fun h => hl3 (by omega)⟩
    · clear hl1 hl2 hl3
      rintro Γ ⟨l, rfl, hl1, hl2, hl3⟩
      refine seq_wp (fun Γ => ∃ l, Γ = G l ∧ PL A l 2 ∧ Cov ss l) ?_ ?_
      · intro N hN
        by_cases hk1 : ss.length = 3
        · obtain ⟨s, t, u, hs⟩ : ∃ s t u, ss = [s, t, u] := by
            match ss, hk1 with
            | [s, t, u], _ => exact ⟨s, t, u, rfl⟩
          have es : atI ss 0 = some s := by rw [hs]; exact atI0
          have et : atI ss 1 = some t := by rw [hs]; exact atI1
          have eu : atI ss 2 = some u := by rw [hs]; exact atI2
          have hsm : ∀ x ∈ ss, x = s ∨ x = t ∨ x = u := fun x hx => by rw [hs] at hx; simpa using hx
          have hsi : s ∈ ss := by rw [hs]; simp
          have hti : t ∈ ss := by rw [hs]; simp
          have hui : u ∈ ss := by rw [hs]; simp
          have o1 : ∃ x y v, atI ss (one.fmod 3) = some x ∧ atI ss ((one + 1).fmod 3) = some y ∧ atI ss ((one + 2).fmod 3) = some v ∧ x ∈ ss ∧ y ∈ ss ∧ v ∈ ss ∧ ∀ z ∈ ss, z = x ∨ z = y ∨ z = v := by
            rw [f3, f3, f3]
            rcases (show one % 3 = 0 ∨ one % 3 = 1 ∨ one % 3 = 2 by omega) with h | h | h
            · rw [h, show (one + 1) % 3 = 1 by omega, show (one + 2) % 3 = 2 by omega]
              exact ⟨s, t, u, es, et, eu, hsi, hti, hui, hsm⟩
            · rw [h, show (one + 1) % 3 = 2 by omega, show (one + 2) % 3 = 0 by omega]
              exact ⟨t, u, s, et, eu, es, hti, hui, hsi, fun z hz => by rcases hsm z hz with h | h | h <;> simp [h]⟩
            · rw [h, show (one + 1) % 3 = 0 by omega, show (one + 2) % 3 = 1 by omega]
              exact ⟨u, s, t, eu, es, et, hui, hsi, hti, fun z hz => by rcases hsm z hz with h | h | h <;> simp [h]⟩
          obtain ⟨x, y, v, ex, ey, ev, hx, hy, hv, hxy⟩ := o1
          have hk2 : (ss.length : Int) = 3 := by omega
          simp [G, hk2, e2, e1, e0, ex, ey, ev]
          split
          · refine hN _ ⟨_, rfl, (PL.mk (mkO w1 [x] h1 (by simpa using hx) (by simp))).app (PL.mk (mkO w2 [y, v] h2 (by simp [hy, hv]) (by simp))) (by omega), fun z hz => ?_⟩
            rcases hxy z hz with rfl | rfl | rfl
            · exact ⟨w1, [z], by simp [Pn.d], by simp⟩
            · exact ⟨w2, [z, v], by simp [Pn.d], by simp⟩
            · exact ⟨w2, [y, z], by simp [Pn.d], by simp⟩
          · exact hN _ ⟨_, rfl, (PL.mk (mkO w0 [x, y, v] h0 (by simp [hx, hy, hv]) (by simp))).le (by omega), cov1 w0 [x, y, v] _ (by simp [Pn.d]) (by simpa using hxy)⟩
        · have hk1' : ¬ (ss.length : Int) = 3 := by omega
          simp [G, hk1']
          exact hN _ ⟨l, rfl, hl1, hl2 (by omega)⟩
      · clear hl1 hl2 hl3
        rintro Γ ⟨l, rfl, hl1, hl2⟩
        have at' : ∀ a : Int, ∃ q : Pn, f__law_atom [.int a, .lst ws, .lst A] = .ok q.d ∧ Over A q := fun a => atom_is hw hwl hA hAl hAl2
        refine seq_wp (fun Γ => ∃ l, Γ = G l ∧ PL A l 3 ∧ Cov ss l) ?_ ?_
        · intro N hN
          obtain ⟨q, eq, hq⟩ := at' (two.fdiv 4)
          have := hl1.len
          simp [G, eq]
          split
          · exact ⟨by unfold sizeLine; omega, hN _ ⟨_, rfl, hl1.app (PL.mk hq) (by omega), hl2.app (by simp; exact fun x hx => .inl hx)⟩⟩
          · exact hN _ ⟨l, rfl, hl1.le (by omega), hl2⟩
        · clear hl1 hl2
          rintro Γ ⟨l, rfl, hl1, hl2⟩
          have hll := hl1.len
          refine set_seq (.lst []) (by simp) ?_
          refine seq_wp (fun Γ => ∃ m, Γ = [none, some (.lst ws), none, none, some (.int one), some (.int two), some (.int three), none, some (.lst A), some (.lst l), some (.lst m), none, none, none] ∧ PL A m 2) ?_ ?_
          · intro N hN
            have b4 := fmod_pos (a := three) (n := 4) (by omega)
            obtain ⟨kd, ek, _, j, rfl, hj⟩ := mem_get (P := fun d => ∃ k : Nat, d = .int k ∧ k ≤ 2) (xs := [D.int 0, D.int 1, D.int 1, D.int 2]) (by
              simp only [List.mem_cons, List.not_mem_nil, or_false]
              rintro x (rfl | rfl | rfl | rfl)
              all_goals first | exact ⟨0, rfl, by omega⟩ | exact ⟨1, rfl, by omega⟩ | exact ⟨2, rfl, by omega⟩) b4.1 b4.2
            simp [G, ek]
            refine ⟨by omega, ?_⟩
            refine for_rng (fun i Γ => ∃ m, Γ = [none, some (.lst ws), none, none, some (.int one), some (.int two), some (.int three), none, some (.lst A), some (.lst l), some (.lst m), none, none, none] ∧ PL A m i) ⟨[], rfl, PL.nil⟩ ?_ ?_
            · rintro i Γ hi ⟨m, rfl, hm⟩ N' hN'
              obtain ⟨q, eq, hq⟩ := at' ((three.fdiv 4).fdiv (1 + 96 * (i : Int)))
              have := hm.len
              simp [eq]
              exact ⟨by omega, by unfold sizeLine; omega, hN' _ ⟨_, rfl, hm.app (PL.mk hq) (by omega)⟩⟩
            · rintro Γ ⟨m, rfl, hm⟩
              exact hN _ ⟨m, rfl, hm.le (by omega)⟩
          · rintro Γ ⟨m, rfl, hm⟩
            have hml := hm.len
            have b8' := fmod_pos (a := two.fdiv 7) (n := 8) (by omega)
            obtain ⟨kd, ek', _, j, rfl, hj⟩ := mem_get (P := fun d => ∃ k : Nat, d = .int k ∧ k ≤ 4) (xs := [D.int 0, D.int 0, D.int 0, D.int 0, D.int 0, D.int 2, D.int 2, D.int 4]) (by
              simp only [List.mem_cons, List.not_mem_nil, or_false]
              rintro x (rfl | rfl | rfl | rfl | rfl | rfl | rfl | rfl)
              all_goals first | exact ⟨0, rfl, by omega⟩ | exact ⟨2, rfl, by omega⟩ | exact ⟨4, rfl, by omega⟩) b8'.1 b8'.2
            obtain ⟨h, eh, hh⟩ := at' (one.fdiv 2)
            refine seq_wp (fun Γ => ∃ x, Γ = [none, some (.lst ws), none, none, some (.int one), some (.int two), some (.int three), none, some (.lst A), some (.lst l), some (.lst m), none, some (.lst x), none] ∧ PL A x 4) ?_ ?_
            · intro N hN
              simp [ek']
              refine ⟨by omega, ?_⟩
              refine comp_wp (P := fun _ d => ∃ q : Pn, d = q.d ∧ Over A q) ?_ fun x hx => hN _ ⟨x, rfl, ?_⟩
              · intro d hd
                obtain ⟨i, hi, rfl⟩ := mem_rng hd
                obtain ⟨q, eq, hq⟩ := at' ((one.fdiv 11).fdiv (1 + 50 * (i : Int)))
                simp [eq]
                exact ⟨by omega, q, rfl, hq⟩
              · have hxl := hx.len
                rw [rng_len] at hxl
                have hx1 := hx.right (Q := fun d => ∃ q : Pn, d = q.d ∧ Over A q) fun _ _ h => h
                have : ∀ x : List D, (∀ y ∈ x, ∃ q : Pn, y = q.d ∧ Over A q) → PL A x x.length := by
                  intro x
                  induction x with
                  | nil => intro _; exact PL.nil
                  | cons a r ih =>
                    intro h
                    obtain ⟨q, rfl, hq⟩ := h a (by simp)
                    have := (PL.mk hq).app (ih fun y hy => h y (by simp [hy])) (Nat.le_refl _)
                    simpa [Nat.add_comm] using this
                exact (this x hx1).le (by omega)
            · rintro Γ ⟨x, rfl, hx⟩
              have hxl := hx.len
              have hj : ∃ j : Nat, (6 : Int) - l.length - m.length = j := ⟨6 - l.length - m.length, by omega⟩
              obtain ⟨j, hj⟩ := hj
              have hcl : (cut x none (some (j : Int))).length ≤ j ∧ ∀ y ∈ cut x none (some (j : Int)), y ∈ x := by
                refine ⟨?_, fun y hy => cut_mem hy⟩
                unfold cut
                rw [HT.sIx_none, HT.sIx_nat]
                simp; omega
              refine set_seq (.lst (cut x none (some (j : Int)))) (by simp [hj]) ?_
              have hx2 := hx.sub hcl.2 (Nat.le_refl _)
              have hc := hcl.1
              generalize cut x none (some (j : Int)) = x' at hx2 hc
              refine seq_wp (fun Γ => Γ = [none, some (.lst ws), none, none, some (.int one), some (.int two), some (.int three), none, some (.lst A), some (.lst l), some (.lst m), none, some (.lst x'), none]) ?_ ?_
              · intro N hN
                simp [eh]
                split
                · refine ⟨by unfold sizeLine; omega, ?_⟩
                  have := hm.app hx2 (Nat.le_refl _)
                  exact fin h l (m ++ x') hh ⟨_, hl1⟩ ⟨_, this⟩ (by simp; omega) hl2
                · exact hN _ rfl
              · rintro Γ rfl
                refine set_seq (.lst (l ++ x')) (by simp; unfold sizeLine; omega) ?_
                have hy := hl1.app hx2 (Nat.le_refl _)
                have hyc : Cov ss (l ++ x') := hl2.app fun y h => List.mem_append_left _ h
                have hyl : (l ++ x').length = l.length + x'.length := by simp
                generalize l ++ x' = y at hy hyc hyl
                have hz : (0 : Int) < 1 + y.length := by omega
                have bz := fmod_pos (a := one.fdiv 77) hz
                obtain ⟨a, ha⟩ := Int.eq_ofNat_of_zero_le bz.1
                refine set_seq (.int (a : Int)) (by simp [ha]; omega) ?_
                have hal : a ≤ y.length := by omega
                simp [eh, cut_take hal, cut_drop hal]
                refine ⟨by unfold sizeLine; omega, fin h (y.drop a ++ y.take a) m hh ⟨y.length, hy.sub (fun z hz => ?_) (by simp; omega)⟩ ⟨_, hm⟩ (by simp; omega) (hyc.app fun z hz => ?_)⟩
                · rcases List.mem_append.mp hz with hz | hz
                  · exact List.mem_of_mem_drop hz
                  · exact List.mem_of_mem_take hz
                · rw [← List.take_append_drop a y] at hz
                  rcases List.mem_append.mp hz with hz | hz
                  · exact List.mem_append_right _ hz
                  · exact List.mem_append_left _ hz
end L2.Nf

namespace L2.Nf
open PySem PySem.Spec PyProof.Rows

theorem rep_list (a : Array Nat) : ∀ (n : Nat) (b : Array Nat), ((List.replicate n a).foldl (· ++ ·) b).toList = b.toList ++ (List.replicate n a.toList).flatten
  | 0, b => by simp
  | n + 1, b => by
    rw [List.replicate_succ, List.foldl_cons, rep_list a n, List.replicate_succ, List.flatten_cons]
    simp
theorem rep_cps (x : Str) (n : Nat) : (repS x n).cps.toList = (List.replicate n x.cps.toList).flatten := by
  unfold repS
  rw [rep_list]; simp
theorem rep_len {x : Str} (h : x.length = 1) (n : Nat) : (repS x n).length = n := by
  rw [len_eq, rep_cps]
  rw [len_eq] at h
  simp [h]
theorem rep_in {A x : Str} (h : In A x) (n : Nat) : In A (repS x n) := by
  intro c hc
  rw [rep_cps] at hc
  obtain ⟨l, hl, hc⟩ := List.mem_flatten.mp hc
  rw [List.eq_of_mem_replicate hl] at hc
  exact h c hc
@[simp] theorem w_mulS {x : Str} {n : Int} {K : D → Prop} {X : Str → Prop} : (oMul (.str x) (.int n)).post K X = ((0 ≤ n ∧ n ≤ 1000 ∧ x.length ≤ 1000) ∧ K (.str (repS x n.toNat))) := by
  unfold oMul; simp only [w_iteP]
theorem cut_between {α : Type} {xs : List α} {i j : Int} (h : 0 ≤ i) (h' : i ≤ j) : (cut xs (some i) (some j)).length ≤ (j - i).toNat := by
  unfold cut
  rw [sIx_pos h, sIx_pos (by omega)]
  simp
  omega
structure PgOk (th nm : List D) (gv : List Pn) (rs : List Ru) : Prop where
  things : ∀ p ∈ th, isTh p
  tl : 0 < th.length
  tl2 : th.length ≤ 3
  names : ∀ p ∈ nm, isSl p
  nl : nm.length = 3
  given : ∀ q ∈ gv, Over th q
  gl : gv.length ≤ 3
  rules : ∀ r ∈ rs, r.ok th nm
  rl : rs.length ≤ 6
def pgD (gv : List Pn) (rs : List Ru) : D := .tup [.lst (gv.map Pn.d), .lst (rs.map Ru.d)]
theorem all_ex {α : Type} {f : α → D} {P : α → Prop} : ∀ {ds : List D}, (∀ d ∈ ds, ∃ q : α, d = f q ∧ P q) → ∃ qs : List α, ds = qs.map f ∧ ∀ q ∈ qs, P q
  | [], _ => ⟨[], rfl, by simp⟩
  | d :: ds, h => by
    obtain ⟨q, rfl, h1⟩ := h d (by simp)
    obtain ⟨qs, rfl, h2⟩ := all_ex (ds := ds) fun x hx => h x (by simp [hx])
    exact ⟨q :: qs, rfl, fun x hx => by
      rcases List.mem_cons.mp hx with rfl | hx
      · exact h1
      · exact h2 x hx⟩
theorem in_lets_sgns {w : Str} (h : In lets w) : In sgns w := fun c hc => lets_sgns c (h c hc)
theorem program_is (ns : List Int) : ∃ th nm gv rs, f__law_program [encI ns] = .ok (pgD gv rs) ∧ PgOk th nm gv rs := by
  suffices h : Is (f__law_program [encI ns]) fun d => ∃ th nm gv rs, d = pgD gv rs ∧ PgOk th nm gv rs by
    obtain ⟨d, e, th, nm, gv, rs, rfl, h⟩ := is_ex h
    exact ⟨th, nm, gv, rs, e, h⟩
  refine run_p fun R hR => ?_
  unfold g__law_program
  have c0 := cell_at (ns := ns) (i := 0) (by decide)
  have c1 := cell_at (ns := ns) (i := 1) (by decide)
  have c2 := cell_at (ns := ns) (i := 2) (by decide)
  have c3 := cell_at (ns := ns) (i := 3) (by decide)
  have b3 := fmod_pos (a := cellD ns 1) (n := 3) (by omega)
  have b4 := fmod_pos (a := cellD ns 3) (n := 4) (by omega)
  simp only [gm0, List.map_cons, List.map_nil, List.length_cons, List.length_nil, List.cons_append, List.nil_append, List.replicate_succ, List.replicate_zero, Nat.reduceSub, Nat.reduceAdd, Nat.zero_add]
  refine seq_wp (fun Γ => ∃ ws, Γ = [some (encI ns), some (.lst ws), none, none, none, none, none, none, none, none, none] ∧ (∀ w ∈ ws, isWd w) ∧ ws.length = 4) ?_ ?_
  · intro N hN
    simp
    refine comp_wp (P := fun _ d => isWd d) ?_ fun ws hws => hN _ ⟨ws, rfl, hws.right fun _ _ h => h, by rw [← hws.len]; rfl⟩
    intro d hd
    obtain ⟨i, hi, rfl⟩ := mem_rng hd
    obtain ⟨w, e, hw⟩ := word_is (c := cellD ns 0) (k := i) (by omega) (by omega)
    simp [c0, e]
    exact ⟨w, rfl, hw⟩
  rintro Γ ⟨ws, rfl, hw, hwl⟩
  refine set_seq (.int (1 + (cellD ns 1).fmod 3)) (by simp [c1]) ?_
  refine seq_wp (fun Γ => ∃ th, Γ = [some (encI ns), some (.lst ws), some (.int (1 + (cellD ns 1).fmod 3)), some (.lst th), none, none, none, none, none, none, none] ∧ (∀ w ∈ th, isTh w) ∧ 0 < th.length ∧ th.length ≤ 3) ?_ ?_
  · intro N hN
    simp
    refine ⟨by omega, by omega, ?_⟩
    refine comp_wp (P := fun _ d => isTh d) ?_ fun th hth => hN _ ⟨th, rfl, hth.right fun _ _ h => h, by rw [← hth.len, rng_len]; omega, by rw [← hth.len, rng_len]; omega⟩
    intro d hd
    obtain ⟨i, hi, rfl⟩ := mem_rng hd
    obtain ⟨w, e, hw⟩ := thing_is (c := (cellD ns 1).fdiv 3) (k := i) (by omega) (by omega)
    simp [c1, e]
    exact ⟨w, rfl, hw⟩
  rintro Γ ⟨th, rfl, ht, htl, htl2⟩
  refine seq_wp (fun Γ => ∃ o ws th, Γ = [some (encI ns), some (.lst ws), some (.int (1 + (cellD ns 1).fmod 3)), some (.lst th), o, none, none, none, none, none, none] ∧ (∀ w ∈ ws, isWd w) ∧ ws.length = 4 ∧ (∀ w ∈ th, isTh w) ∧ 0 < th.length ∧ th.length ≤ 3) ?_ ?_
  · intro N hN
    obtain ⟨w0, e0, _, x0, rfl, h0⟩ := mem_get (i := 0) hw (by omega) (by omega)
    obtain ⟨w1, e1, _, x1, rfl, h1⟩ := mem_get (i := 1) hw (by omega) (by omega)
    obtain ⟨t0, et0, _, y0, rfl, hy⟩ := mem_get (i := 0) ht (by omega) (by omega)
    by_cases hc : ((cellD ns 0).fdiv 7).fmod 4 = 1
    · simp [c0, hc, e1]
      have hs1 : (cutS x1 none (some 1)).length = 1 := by
        rw [cutS_len, HT.sIx_none, sIx_pos (by omega)]; have := h1.1; omega
      have hs2 : In lets (cutS x1 none (some 1)) := cutS_in h1.2.2 _ _
      generalize cutS x1 none (some 1) = sg at hs1 hs2
      refine comp_wp (P := fun _ d => isWd d) ?_ fun ws' hws => ?_
      · intro d hd
        obtain ⟨i, hi, rfl⟩ := mem_rng hd
        have hl5 : (cutS x0 none (some 5)).length = min 5 x0.length := by
          rw [cutS_len, HT.sIx_none, sIx_pos (by omega)]; omega
        have hr := rep_len hs1 i
        have := h0.1
        simp [e0]
        refine ⟨⟨by omega, by omega⟩, by rw [hr, hl5]; unfold sizeLine; omega, ?_⟩
        refine ⟨_, rfl, ?_, ?_, in_app (cutS_in h0.2.2 _ _) (rep_in hs2 _)⟩
        · rw [len_app, hl5]; omega
        · rw [len_app, hl5, hr]; omega
      refine ⟨by split <;> omega, by split <;> omega, ?_⟩
      refine comp_wp (P := fun _ d => isTh d) ?_ fun th' hth => hN _ ⟨_, ws', th', rfl, hws.right fun _ _ h => h, by rw [← hws.len]; rfl, hth.right fun _ _ h => h, by rw [← hth.len, rng_len]; split <;> omega, by rw [← hth.len, rng_len]; split <;> omega⟩
      intro d hd
      obtain ⟨i, hi, rfl⟩ := mem_rng hd
      have hl5 : (cutS y0 none (some 5)).length = min 5 y0.length := by
        rw [cutS_len, HT.sIx_none, sIx_pos (by omega)]; omega
      have hr := rep_len hs1 i
      have := hy.1
      have hi3 : i < 3 := by split at hi <;> omega
      simp [et0]
      refine ⟨⟨by omega, by omega⟩, by rw [hr, hl5]; unfold sizeLine; omega, ?_⟩
      refine ⟨_, rfl, ?_, ?_, in_app (rep_in (in_lets_sgns hs2) _) (cutS_in hy.2.2 _ _)⟩
      · rw [len_app, hl5]; omega
      · rw [len_app, hl5, hr]; omega
    · simp [c0, hc]
      exact hN _ ⟨none, ws, th, rfl, hw, hwl, ht, htl, htl2⟩
  clear hw hwl ht htl htl2
  rintro Γ ⟨o, ws, th, rfl, hw, hwl, ht, htl, htl2⟩
  refine seq_wp (fun Γ => ∃ nm, Γ = [some (encI ns), some (.lst ws), some (.int (1 + (cellD ns 1).fmod 3)), some (.lst th), o, some (.lst nm), none, none, none, none, none] ∧ (∀ w ∈ nm, isSl w) ∧ nm.length = 3) ?_ ?_
  · intro N hN
    simp
    refine comp_wp (P := fun _ d => isSl d) ?_ fun nm hnm => hN _ ⟨nm, rfl, hnm.right fun _ _ h => h, by rw [← hnm.len]; rfl⟩
    intro d hd
    obtain ⟨i, hi, rfl⟩ := mem_rng hd
    obtain ⟨w, e, hw⟩ := word_is (c := cellD ns 2) (k := i) (by omega) (by omega)
    simp [c2, e]
    have := hw.2.1
    refine ⟨?_, w, rfl, hw⟩
    rw [show (PySem.Str.ofString "?").length = 1 from by decide +kernel]; unfold sizeLine; omega
  rintro Γ ⟨nm, rfl, hn, hnl⟩
  refine set_seq (.int ((cellD ns 3).fmod 4)) (by simp [c3]) ?_
  generalize (cellD ns 3).fmod 4 = m at b4
  have hpt : ∀ p ∈ th, Part p := fun p h => .inl (ht p h)
  refine seq_wp (fun Γ => ∃ gv : List Pn, Γ = [some (encI ns), some (.lst ws), some (.int (1 + (cellD ns 1).fmod 3)), some (.lst th), o, some (.lst nm), some (.int m), some (.lst (gv.map Pn.d)), none, none, none] ∧ (∀ q ∈ gv, Over th q) ∧ gv.length ≤ 3) ?_ ?_
  · intro N hN
    unfold encI at hN ⊢
    simp
    refine comp_wp (P := fun _ d => ∃ q : Pn, d = q.d ∧ Over th q) ?_ fun gs hgs => ?_
    · intro d hd
      obtain ⟨c, _, rfl⟩ := List.mem_map.mp (cut_mem hd)
      obtain ⟨q, e, hq⟩ := atom_is (c := (c * 48271).fmod 2147483647) hw hwl hpt htl (by omega)
      simp [e]
      exact ⟨q, rfl, hq⟩
    · obtain ⟨gv, rfl, hg⟩ := all_ex (f := Pn.d) (P := Over th) (hgs.right fun _ _ h => h)
      refine hN _ ⟨gv, rfl, hg, ?_⟩
      have h1 := hgs.len
      have h2 := cut_between (xs := ns.map D.int) (i := 4) (j := 4 + m) (by omega) (by omega)
      rw [List.length_map] at h1
      omega
  rintro Γ ⟨gv, rfl, hg, hgl⟩
  refine seq_wp (fun Γ => ∃ rs : List Ru, Γ = [some (encI ns), some (.lst ws), some (.int (1 + (cellD ns 1).fmod 3)), some (.lst th), o, some (.lst nm), some (.int m), some (.lst (gv.map Pn.d)), some (.lst (rs.map Ru.d)), none, none] ∧ (∀ r ∈ rs, r.ok th nm) ∧ rs.length ≤ 6) ?_ ?_
  · intro N hN
    unfold encI at hN ⊢
    simp
    refine comp_wp (P := fun _ d => ∃ q : Ru, d = q.d ∧ q.ok th nm) ?_ fun gs hgs => ?_
    · intro d hd
      obtain ⟨c, _, rfl⟩ := List.mem_map.mp (cut_mem hd)
      obtain ⟨q, e, hq⟩ := rule_is (c := c) hw hwl ht htl htl2 hn hnl
      simp [e]
      exact ⟨q, rfl, hq⟩
    · obtain ⟨rs, rfl, hg⟩ := all_ex (f := Ru.d) (P := Ru.ok th nm) (hgs.right fun _ _ h => h)
      refine hN _ ⟨rs, rfl, hg, ?_⟩
      have h1 := hgs.len
      have h2 := cut_between (xs := ns.map D.int) (i := 4 + m) (j := 10 + m) (by omega) (by omega)
      rw [List.length_map] at h1
      omega
  rintro Γ ⟨rs, rfl, hr, hrl⟩
  simp
  exact hR _ ⟨th, nm, gv, rs, rfl, ht, htl, htl2, hn, hnl, hg, hgl, hr, hrl⟩
end L2.Nf

namespace L2.Nf
open PySem PySem.Spec PyProof.Rows

/-! ### dicts of texts -/
theorem kOf_key {d : D} (h : isS d = true) : dKey (kOf d) = d := by
  cases d <;> simp [isS] at h
  rfl
theorem kOf_inj {d e : D} (h : isS d = true) (h' : isS e = true) (hk : kOf d = kOf e) : d = e := by rw [← kOf_key h, ← kOf_key h', hk]
noncomputable def kO (fs : List D) : D := .dK (fs.map fun f => (kOf f, .bl true))
theorem put_kO {fs : List D} {f : D} (hf : ∀ g ∈ fs, isS g = true) (h : isS f = true) (hl : fs.length < sizeLine) : oPut (kO fs) f (.bl true) = .ok (kO (if f ∈ fs then fs else fs ++ [f])) := by
  unfold kO
  rw [putK_is h (by simpa using hl)]
  congr 1
  unfold putD
  have ha : ((fs.map fun f => (kOf f, D.bl true)).any fun e => decide (e.1 = kOf f)) = decide (f ∈ fs) := by
    rw [Bool.eq_iff_iff, List.any_map, List.any_eq_true, decide_eq_true_eq]
    constructor
    · rintro ⟨g, hg, e⟩
      have := kOf_inj (hf g hg) h (of_decide_eq_true e)
      exact this ▸ hg
    · intro hm
      exact ⟨f, hm, by simp⟩
  rw [ha]
  by_cases hm : f ∈ fs
  · simp only [hm, decide_true, if_true]
    congr 1
    rw [List.map_map]
    refine List.map_congr_left fun g hg => ?_
    show (if kOf g = kOf f then (kOf g, D.bl true) else (kOf g, D.bl true)) = _
    split <;> rfl
  · simp only [hm, decide_false, if_false, List.map_append, List.map_cons, List.map_nil]
    rfl
theorem list_kO {fs : List D} (hf : ∀ g ∈ fs, isS g = true) : oList [kO fs] = .ok (.lst fs) := by
  show Ro.ok (D.lst ((fs.map fun f => (kOf f, D.bl true)).map fun e => dKey e.1)) = _
  rw [List.map_map]
  congr 2
  conv => rhs; rw [← List.map_id fs]
  exact List.map_congr_left fun g hg => kOf_key (hf g hg)
theorem isDict_kO (fs : List D) : isDict (kO fs) = true := rfl
theorem kO_nil : D.dK [] = kO [] := rfl

/-! ### things of patterns -/
noncomputable def addT (acc : List D) (p : D) : List D := if sl p = false ∧ p ∉ acc then acc ++ [p] else acc
noncomputable def thF (acc : List D) (q : Pn) : List D := q.ps.foldl addT acc
noncomputable def thingsL (qs : List Pn) : List D := qs.foldl thF []
def Ths (acc : List D) : Prop := (∀ x ∈ acc, isTh x) ∧ acc.Nodup
theorem isTh_S {d : D} (h : isTh d) : isS d = true := (show Part d from .inl h).isS
theorem Ths.s {acc : List D} (h : Ths acc) : ∀ x ∈ acc, isS x = true := fun x hx => isTh_S (h.1 x hx)
theorem addT_len {acc : List D} {p : D} : (addT acc p).length ≤ acc.length + 1 := by
  unfold addT; split
  · simp
  · omega
theorem addT_th {acc : List D} {p : D} (h : Ths acc) (hp : Part p) : Ths (addT acc p) := by
  unfold addT; split
  · rename_i hc
    refine ⟨fun x hx => ?_, ?_⟩
    · rcases List.mem_append.mp hx with hx | hx
      · exact h.1 x hx
      · rw [List.mem_singleton.mp hx]
        rcases hp with hp | hp
        · exact hp
        · rw [sl_sl hp] at hc; cases hc.1
    · rw [List.nodup_append]
      exact ⟨h.2, by simp, fun a ha b hb => by simp at hb; subst hb; rintro rfl; exact hc.2 ha⟩
  · exact h
theorem addT_mem {acc : List D} {p x : D} (h : x ∈ addT acc p) : x ∈ acc ∨ x = p := by
  unfold addT at h; split at h
  · rcases List.mem_append.mp h with h | h
    · exact .inl h
    · exact .inr (List.mem_singleton.mp h)
  · exact .inl h
theorem thF_ok {q : Pn} (hq : q.ok) {acc : List D} (h : Ths acc) : Ths (thF acc q) ∧ (thF acc q).length ≤ acc.length + 3 ∧ ∀ x ∈ thF acc q, x ∈ acc ∨ x ∈ q.ps := by
  have : ∀ (ps : List D) (acc : List D), (∀ p ∈ ps, Part p) → Ths acc → Ths (ps.foldl addT acc) ∧ (ps.foldl addT acc).length ≤ acc.length + ps.length ∧ ∀ x ∈ ps.foldl addT acc, x ∈ acc ∨ x ∈ ps := by
    intro ps
    induction ps with
    | nil => intro acc _ h; exact ⟨h, by simp, fun x hx => .inl hx⟩
    | cons p ps ih =>
      intro acc hp h
      obtain ⟨a, b, c⟩ := ih (addT acc p) (fun x hx => hp x (by simp [hx])) (addT_th h (hp p (by simp)))
      have := addT_len (acc := acc) (p := p)
      refine ⟨a, by simp; omega, fun x hx => ?_⟩
      rcases c x hx with hx | hx
      · rcases addT_mem hx with hx | hx
        · exact .inl hx
        · exact .inr (by simp [hx])
      · exact .inr (by simp [hx])
  obtain ⟨a, b, c⟩ := this q.ps acc hq.ps h
  exact ⟨a, by have := hq.len; unfold thF; omega, c⟩
theorem things_ok : ∀ {qs : List Pn} {acc : List D}, (∀ q ∈ qs, q.ok) → Ths acc → Ths (qs.foldl thF acc) ∧ (qs.foldl thF acc).length ≤ acc.length + 3 * qs.length ∧ ∀ x ∈ qs.foldl thF acc, x ∈ acc ∨ ∃ q ∈ qs, x ∈ q.ps
  | [], acc, _, h => ⟨h, by simp, fun x hx => .inl hx⟩
  | q :: qs, acc, hq, h => by
    obtain ⟨a, b, c⟩ := thF_ok (hq q (by simp)) h
    obtain ⟨a', b', c'⟩ := things_ok (qs := qs) (fun x hx => hq x (by simp [hx])) a
    refine ⟨a', by simp; omega, fun x hx => ?_⟩
    rcases c' x hx with hx | ⟨q', hq', hx⟩
    · rcases c x hx with hx | hx
      · exact .inl hx
      · exact .inr ⟨q, by simp, hx⟩
    · exact .inr ⟨q', by simp [hq'], hx⟩
def Ru.all (r : Ru) : List Pn := [r.h] ++ r.ys ++ r.ns
def pats (gv : List Pn) (rs : List Ru) : List Pn := gv ++ rs.flatMap Ru.all
noncomputable def thsOf (gv : List Pn) (rs : List Ru) : List D := srt (thingsL (pats gv rs))
theorem Ru.ok.all {th nm : List D} {r : Ru} (h : r.ok th nm) : ∀ q ∈ r.all, q.ok := by
  obtain ⟨k, _, a, b, c, _⟩ := h.sl
  intro q hq
  unfold Ru.all at hq
  simp at hq
  rcases hq with rfl | hq | hq
  · exact a.1
  · exact (b q hq).1
  · exact (c q hq).1
theorem Ru.ok.alen {th nm : List D} {r : Ru} (h : r.ok th nm) : r.all.length ≤ 7 := by
  have := h.len
  unfold Ru.all
  simp; omega
theorem flat_len {rs : List Ru} (h : ∀ r ∈ rs, r.all.length ≤ 7) : (rs.flatMap Ru.all).length ≤ 7 * rs.length := by
  induction rs with
  | nil => simp
  | cons r rs ih =>
    have := ih fun x hx => h x (by simp [hx])
    have := h r (by simp)
    simp only [List.flatMap_cons, List.length_append, List.length_cons]
    omega
theorem take_flat {rs : List Ru} {k : Nat} {r : Ru} (h : rs[k]? = some r) : (rs.take (k + 1)).flatMap Ru.all = (rs.take k).flatMap Ru.all ++ r.all := by
  rw [List.take_add_one, h]; simp
/-- the inner loop: a pattern's parts put into the dict, by a test or not -/
theorem parts_kO {L : List Md} {i : Nat} {b : SDen} {R : D → Prop} {N : Gm → Prop} {q : Pn} {acc : List D} (G : D → Gm) (hq : q.ok) (hacc : Ths acc) (hl : acc.length < 1000000)
    (hb : ∀ p a (N' : Gm → Prop), Part p → p ∈ q.ps → Ths a → a.length < 2000000 → (∀ Γ', clr L Γ' = G (kO (addT a p)) → N' Γ') → Wp (b ((G (kO a)).set i (some p))) N' R) (hn : N (G (kO (thF acc q)))) : Wp (forD L i b q.ps (G (kO acc))) N R := by
  refine for_foldl (fun a => G (kO a)) addT (fun k a => Ths a ∧ a.length ≤ acc.length + k) ⟨hacc, by omega⟩ ?_ (fun _ => hn)
  rintro k p a N' hk ⟨ha, hal⟩
  have hp := hq.ps p (List.mem_of_getElem? hk)
  have hkl := (List.getElem?_eq_some_iff.mp hk).1
  have := hq.len
  refine ⟨⟨addT_th ha hp, by have := addT_len (acc := a) (p := p); omega⟩, fun hN => hb p a N' hp (List.mem_of_getElem? hk) ha (by omega) hN⟩
theorem things_of_is {gv : List Pn} {rs : List Ru} {th nm : List D} (hg : ∀ q ∈ gv, Over th q) (ht : ∀ p ∈ th, isTh p) (hr : ∀ r ∈ rs, r.ok th nm) (hgl : gv.length ≤ 1000) (hrl : rs.length ≤ 1000) : f_things_of [.lst (gv.map Pn.d), .lst (rs.map Ru.d)] = .ok (.lst (thsOf gv rs)) := by
  refine is_ok (run_p fun R hR => ?_)
  have hR := hR _ rfl
  unfold g_things_of
  simp
  let G : D → Gm := fun d => [none, some (.lst (rs.map Ru.d)), some d, none, none, none, none]
  refine for_idx (fun k Γ => ∃ acc, Γ = G (kO acc) ∧ acc = (gv.take k).foldl thF []) ⟨[], rfl, rfl⟩ ?_ ?_
  · rintro k d Γ hk ⟨acc, rfl, h1⟩ N hN
    rw [List.getElem?_map] at hk
    obtain ⟨q, hqk, rfl⟩ := Option.map_eq_some_iff.mp hk
    have hqo := hg q (List.mem_of_getElem? hqk)
    have hlt := (List.getElem?_eq_some_iff.mp hqk).1
    obtain ⟨a1, a2, _⟩ := things_ok (qs := gv.take k) (acc := []) (fun q h => (hg q (List.mem_of_mem_take h)).1) ⟨by simp, List.nodup_nil⟩
    rw [← h1] at a1 a2
    have hal : acc.length < 1000000 := by simp at a2; omega
    have e : (gv.take (k + 1)).foldl thF [] = thF acc q := by rw [List.take_add_one, hqk, h1]; simp
    simp [Pn.d, cut_tail, G]
    refine parts_kO (fun d => [none, some (.lst (rs.map Ru.d)), some d, none, none, none, none]) hqo.1 a1 hal ?_ (hN _ ⟨_, rfl, e.symm⟩)
    intro p a N' hp hpm ha hal hN'
    have hpt : isTh p := ht p (hqo.2 p hpm)
    simp [isDict_kO, put_kO ha.s hp.isS (show a.length < sizeLine by unfold sizeLine; omega)]
    refine hN' _ ?_
    unfold addT
    by_cases hm : p ∈ a
    · rw [if_pos hm, if_neg (fun z => z.2 hm)]; rfl
    · rw [if_neg hm, if_pos ⟨sl_th hpt, hm⟩]; rfl
  · rintro Γ ⟨acc0, rfl, h0⟩
    rw [List.length_map, List.take_length] at h0
    simp [G]
    let G2 : D → Gm := fun d => [none, none, some d, none, none, none, none]
    refine for_idx (fun k Γ => ∃ acc, Γ = G2 (kO acc) ∧ acc = (pats gv (rs.take k)).foldl thF []) ⟨acc0, rfl, by simp [pats, h0]⟩ ?_ ?_
    · rintro k d Γ hk ⟨acc, rfl, h1⟩ N hN
      rw [List.getElem?_map] at hk
      obtain ⟨r, hrk, rfl⟩ := Option.map_eq_some_iff.mp hk
      have hro := hr r (List.mem_of_getElem? hrk)
      have hlt := (List.getElem?_eq_some_iff.mp hrk).1
      have hlen := hro.len
      obtain ⟨a1, a2, _⟩ := things_ok (qs := pats gv (rs.take k)) (acc := []) (fun q h => by
        rcases List.mem_append.mp h with h | h
        · exact (hg q h).1
        · obtain ⟨r', hr', hq⟩ := List.mem_flatMap.mp h
          exact (hr r' (List.mem_of_mem_take hr')).all q hq) ⟨by simp, List.nodup_nil⟩
      rw [← h1] at a1 a2
      have hpl : (pats gv (rs.take k)).length ≤ 8000 := by
        unfold pats
        have := flat_len (rs := rs.take k) fun r' hr' => (hr r' (List.mem_of_mem_take hr')).alen
        simp only [List.length_append]
        have : (rs.take k).length ≤ k := by simp; omega
        omega
      have hal : acc.length ≤ 24000 := by simp at a2; omega
      have e : (pats gv (rs.take (k + 1))).foldl thF [] = r.all.foldl thF acc := by
        unfold pats
        rw [take_flat hrk, ← List.append_assoc, List.foldl_append, h1]; rfl
      simp [Ru.d, G2]
      refine ⟨by unfold sizeLine; omega, by unfold sizeLine; omega, ?_⟩
      have e2 : r.h.d :: (r.ys.map Pn.d ++ r.ns.map Pn.d) = r.all.map Pn.d := by unfold Ru.all; simp
      rw [e2]
      refine for_idx (fun j Γ => ∃ acc', Γ = G2 (kO acc') ∧ acc' = (r.all.take j).foldl thF acc) ⟨acc, rfl, rfl⟩ ?_ ?_
      · rintro j d Γ hj ⟨acc', rfl, h2⟩ N' hN'
        rw [List.getElem?_map] at hj
        obtain ⟨q, hqj, rfl⟩ := Option.map_eq_some_iff.mp hj
        have hqo := hro.all q (List.mem_of_getElem? hqj)
        have hjl := (List.getElem?_eq_some_iff.mp hqj).1
        have := hro.alen
        obtain ⟨b1, b2, _⟩ := things_ok (qs := r.all.take j) (acc := acc) (fun q h => hro.all q (List.mem_of_mem_take h)) a1
        rw [← h2] at b1 b2
        have hal' : acc'.length < 1000000 := by simp at b2; omega
        have e3 : (r.all.take (j + 1)).foldl thF acc = thF acc' q := by rw [List.take_add_one, hqj, h2]; simp
        simp [Pn.d, cut_tail, G2]
        refine parts_kO (fun d => [none, none, some d, none, none, none, none]) hqo b1 hal' ?_ (hN' _ ⟨_, rfl, e3.symm⟩)
        intro p a N'' hp hpm ha hal hN''
        simp [is_slot_is hp]
        by_cases hs : sl p = true
        · have hn := hN'' [none, none, some (kO a), none, some p, none, none] (by unfold addT; rw [if_neg (fun z => by rw [hs] at z; cases z.1)]; rfl)
          simpa [hs] using hn
        · have hs' : sl p = false := by simpa using hs
          simp [hs', isDict_kO, put_kO ha.s hp.isS (show a.length < sizeLine by unfold sizeLine; omega)]
          refine hN'' _ ?_
          unfold addT
          by_cases hm : p ∈ a
          · rw [if_pos hm, if_neg (fun z => z.2 hm)]; rfl
          · rw [if_neg hm, if_pos ⟨hs', hm⟩]; rfl
      · rintro Γ ⟨acc', rfl, h2⟩
        refine hN _ ⟨acc', rfl, ?_⟩
        rw [e, h2, List.length_map, List.take_length]
    · rintro Γ ⟨acc, rfl, h1⟩
      rw [List.length_map, List.take_length] at h1
      obtain ⟨a1, _, _⟩ := things_ok (qs := pats gv rs) (acc := []) (fun q h => by
        rcases List.mem_append.mp h with h | h
        · exact (hg q h).1
        · obtain ⟨r', hr', hq⟩ := List.mem_flatMap.mp h
          exact (hr r' hr').all q hq) ⟨by simp, List.nodup_nil⟩
      rw [← h1] at a1
      simp [G2, list_kO a1.s, sorted_s a1.s]
      have : thsOf gv rs = srt acc := by unfold thsOf thingsL; rw [h1]
      rw [← this]; exact hR
end L2.Nf

namespace L2.Nf
open PySem PySem.Spec PyProof.Rows

theorem slots_k03 : f__law_slots = f__law_slots := rfl
theorem law_things_is {gv : List Pn} {rs : List Ru} {th nm : List D} (hg : ∀ q ∈ gv, Over th q) (hr : ∀ r ∈ rs, r.ok th nm) (hgl : gv.length ≤ 1000) (hrl : rs.length ≤ 1000) : f__law_things [.lst (gv.map Pn.d), .lst (rs.map Ru.d)] = .ok (.lst (thsOf gv rs)) := by
  refine is_ok (run_p fun R hR => ?_)
  have hR := hR _ rfl
  have hpo : ∀ q ∈ pats gv rs, q.ok := fun q h => by
    rcases List.mem_append.mp h with h | h
    · exact (hg q h).1
    · obtain ⟨r', hr', hq⟩ := List.mem_flatMap.mp h
      exact (hr r' hr').all q hq
  have hpl : (pats gv rs).length ≤ 8000 := by
    unfold pats
    have := flat_len (rs := rs) fun r' hr' => (hr r' hr').alen
    simp only [List.length_append]
    omega
  unfold g__law_things
  simp
  refine for_idx (fun k Γ => Γ = [none, none, some (.lst ((pats gv (rs.take k)).map Pn.d)), none, none, none, none]) (by simp [pats]) ?_ ?_
  · rintro k d Γ hk rfl N hN
    rw [List.getElem?_map] at hk
    obtain ⟨r, hrk, rfl⟩ := Option.map_eq_some_iff.mp hk
    have hro := hr r (List.mem_of_getElem? hrk)
    have hlt := (List.getElem?_eq_some_iff.mp hrk).1
    have hlen := hro.len
    have e : (pats gv (rs.take (k + 1))).map Pn.d = (pats gv (rs.take k)).map Pn.d ++ (r.h.d :: (r.ys.map Pn.d ++ r.ns.map Pn.d)) := by
      unfold pats
      rw [take_flat hrk]
      unfold Ru.all
      simp
    have hl2 : (pats gv (rs.take k)).length ≤ 8000 := by
      unfold pats
      have := flat_len (rs := rs.take k) fun r' hr' => (hr r' (List.mem_of_mem_take hr')).alen
      simp only [List.length_append]
      have : (rs.take k).length ≤ k := by simp; omega
      omega
    have hn := hN [none, none, some (.lst ((pats gv (rs.take (k + 1))).map Pn.d)), some r.d, none, none, none] rfl
    rw [e] at hn
    generalize pats gv (rs.take k) = P at hl2 hn ⊢
    rw [Ru.d] at hn ⊢
    simp
    refine ⟨by unfold sizeLine; omega, by unfold sizeLine; omega, by unfold sizeLine; omega, hn⟩
  · rintro Γ rfl
    simp only [List.length_map, List.take_length]
    generalize hP : pats gv rs = P at hpo hpl
    simp
    let G : List D → Gm := fun a => [none, none, none, none, some (.lst a), none, none]
    refine for_idx (fun k Γ => ∃ acc, Γ = G acc ∧ acc = (P.take k).foldl thF []) ⟨[], rfl, rfl⟩ ?_ ?_
    · rintro k d Γ hk ⟨acc, rfl, h1⟩ N hN
      rw [List.getElem?_map] at hk
      obtain ⟨q, hqk, rfl⟩ := Option.map_eq_some_iff.mp hk
      have hqo := hpo q (List.mem_of_getElem? hqk)
      have hlt := (List.getElem?_eq_some_iff.mp hqk).1
      obtain ⟨a1, a2, _⟩ := things_ok (qs := P.take k) (acc := []) (fun q h => hpo q (List.mem_of_mem_take h)) ⟨by simp, List.nodup_nil⟩
      rw [← h1] at a1 a2
      have hal : acc.length < 1000000 := by simp at a2; omega
      have e : (P.take (k + 1)).foldl thF [] = thF acc q := by rw [List.take_add_one, hqk, h1]; simp
      simp [Pn.d, cut_tail, G]
      have hqp := hqo.len
      refine for_foldl (fun a => [none, none, none, none, some (.lst a), none, none]) addT (fun k a => Ths a ∧ a.length ≤ acc.length + k) ⟨a1, by omega⟩ ?_ (fun _ => hN _ ⟨_, rfl, e.symm⟩)
      rintro j p a N' hj ⟨ha, hal'⟩
      have hp := hqo.ps p (List.mem_of_getElem? hj)
      have hjl := (List.getElem?_eq_some_iff.mp hj).1
      refine ⟨⟨addT_th ha hp, by have := addT_len (acc := a) (p := p); omega⟩, fun hN' => ?_⟩
      simp [q0_nep hp, in_pl (pl_le (by decide) (isS_pl hp.isS)) (fun y hy => pl_le (by decide) (isS_pl (ha.s y hy)))]
      by_cases hs : sl p = true
      · have hn := hN' [none, none, none, none, some (.lst a), none, some p] (by unfold addT; rw [if_neg (fun z => by rw [hs] at z; cases z.1)]; rfl)
        simpa [hs] using hn
      · have hs' : sl p = false := by simpa using hs
        by_cases hm : p ∈ a
        · have hn := hN' [none, none, none, none, some (.lst a), none, some p] (by unfold addT; rw [if_neg (fun z => z.2 hm)]; rfl)
          simpa [hs', hm] using hn
        · have hn := hN' [none, none, none, none, some (.lst (a ++ [p])), none, some p] (by unfold addT; rw [if_pos ⟨hs', hm⟩]; rfl)
          simp [hs', hm]
          exact ⟨by unfold sizeLine; omega, hn⟩
    · rintro Γ ⟨acc, rfl, h1⟩
      rw [List.length_map, List.take_length] at h1
      obtain ⟨a1, _, _⟩ := things_ok (qs := P) (acc := []) hpo ⟨by simp, List.nodup_nil⟩
      rw [← h1] at a1
      simp [G, sorted_s a1.s]
      have : thsOf gv rs = srt acc := by unfold thsOf thingsL; rw [h1, hP]
      rw [← this]; exact hR

/-! ### rows of things -/
def rowsL (T : List D) : Nat → List (List D)
  | 0 => [[]]
  | n + 1 => (rowsL T n).flatMap fun r => T.map fun t => r ++ [t]
theorem rows_len (T : List D) : ∀ n, (rowsL T n).length = T.length ^ n
  | 0 => rfl
  | n + 1 => by
    have : ∀ rows : List (List D), (rows.flatMap fun r => T.map fun t => r ++ [t]).length = rows.length * T.length := by
      intro rows
      induction rows with
      | nil => simp
      | cons r rs ih => rw [List.flatMap_cons, List.length_append, ih, List.length_map, List.length_cons, Nat.add_mul, Nat.one_mul, Nat.add_comm]
    rw [rowsL, this, rows_len T n, Nat.pow_succ]
theorem rows_each {T : List D} {P : D → Prop} (hT : ∀ t ∈ T, P t) : ∀ n, ∀ r ∈ rowsL T n, r.length = n ∧ ∀ x ∈ r, P x
  | 0, r, h => by
    simp [rowsL] at h; subst h; simp
  | n + 1, r, h => by
    obtain ⟨r', hr', h2⟩ := List.mem_flatMap.mp h
    obtain ⟨t, ht, rfl⟩ := List.mem_map.mp h2
    obtain ⟨a, b⟩ := rows_each hT n r' hr'
    refine ⟨by simp [a], fun x hx => ?_⟩
    rcases List.mem_append.mp hx with hx | hx
    · exact b x hx
    · rw [List.mem_singleton.mp hx]; exact hT t ht
theorem rows_of_is {T : List D} {n : Nat} (hb : ∀ k, k ≤ n → T.length ^ k ≤ 1000) (hT : T.length ≤ 1000) (hn : n ≤ 1000) : f_rows_of [.lst T, .int n] = .ok (.lst ((rowsL T n).map .tup)) := by
  refine is_ok (run_p fun R hR => ?_)
  have hR := hR _ rfl
  unfold g_rows_of
  simp
  refine ⟨by omega, ?_⟩
  refine for_rng (fun k Γ => Γ = [some (.lst T), none, some (.lst ((rowsL T k).map .tup)), none, none, none, none]) (by simp [rowsL]) ?_ ?_
  · rintro k Γ hk rfl N hN
    have hk1 := hb k (by omega)
    have hk2 := hb (k + 1) (by omega)
    simp
    refine for_idx (fun j Γ => Γ = [some (.lst T), none, none, none, some (.lst (((rowsL T k).take j).flatMap fun r => T.map fun t => .tup (r ++ [t]))), none, none]) (by simp) ?_ ?_
    · rintro j d Γ hj rfl N' hN'
      rw [List.getElem?_map] at hj
      obtain ⟨r, hrj, rfl⟩ := Option.map_eq_some_iff.mp hj
      have hjl := (List.getElem?_eq_some_iff.mp hrj).1
      have hrl := (rows_each (T := T) (P := fun _ => True) (by simp) k r (List.mem_of_getElem? hrj)).1
      have hlen : (((rowsL T k).take j).flatMap fun r => T.map fun t => D.tup (r ++ [t])).length ≤ 1000000 := by
        have : ∀ rows : List (List D), (rows.flatMap fun r => T.map fun t => D.tup (r ++ [t])).length = rows.length * T.length := by
          intro rows
          induction rows with
          | nil => simp
          | cons r rs ih => rw [List.flatMap_cons, List.length_append, ih, List.length_map, List.length_cons, Nat.add_mul, Nat.one_mul, Nat.add_comm]
        rw [this]
        have h1 : ((rowsL T k).take j).length ≤ 1000 := by
          rw [List.length_take, rows_len]; omega
        calc _ ≤ 1000 * 1000 := Nat.mul_le_mul h1 hT
          _ = 1000000 := rfl
      have e : ((rowsL T k).take (j + 1)).flatMap (fun r => T.map fun t => D.tup (r ++ [t])) = (((rowsL T k).take j).flatMap fun r => T.map fun t => D.tup (r ++ [t])) ++ T.map fun t => D.tup (r ++ [t]) := by
        rw [List.take_add_one, hrj]; simp
      have hn := hN' [some (.lst T), none, none, none, some (.lst (((rowsL T k).take (j + 1)).flatMap fun r => T.map fun t => .tup (r ++ [t]))), some (.tup r), none] rfl
      rw [e] at hn
      generalize (((rowsL T k).take j).flatMap fun r => T.map fun t => D.tup (r ++ [t])) = B at hlen hn ⊢
      simp
      refine for_idx (fun i Γ => Γ = [some (.lst T), none, none, none, some (.lst (B ++ (T.take i).map fun t => .tup (r ++ [t]))), some (.tup r), none]) (by simp) ?_ ?_
      · rintro i t Γ hi rfl N'' hN''
        have hil := (List.getElem?_eq_some_iff.mp hi).1
        have e4 : B ++ (T.take (i + 1)).map (fun t => D.tup (r ++ [t])) = B ++ ((T.take i).map (fun t => D.tup (r ++ [t])) ++ [.tup (r ++ [t])]) := by
          rw [List.take_add_one, hi]; simp
        have hn2 := hN'' [some (.lst T), none, none, none, some (.lst (B ++ (T.take (i + 1)).map fun t => .tup (r ++ [t]))), some (.tup r), some t] rfl
        rw [e4] at hn2
        generalize hz : (T.take i).map (fun t => D.tup (r ++ [t])) = Z at hn2 ⊢
        have hzl : Z.length ≤ i := by rw [← hz]; simp; omega
        simp
        exact ⟨by unfold sizeLine; omega, by unfold sizeLine; omega, hn2⟩
      · rintro Γ rfl
        simpa using hn
    · rintro Γ rfl
      simp
      refine hN _ ?_
      rw [rowsL, List.map_flatMap]
      simp only [List.take_of_length_le (show (rowsL T k).length ≤ ((rowsL T k).map D.tup).length by simp), List.map_map]
      rfl
  · rintro Γ rfl
    simpa using hR
end L2.Nf

namespace L2.Nf
open PySem PySem.Spec PyProof.Rows

theorem nodup_le {α : Type} [DecidableEq α] : ∀ {as bs : List α}, as.Nodup → (∀ a ∈ as, a ∈ bs) → as.length ≤ bs.length
  | [], _, _, _ => by simp
  | a :: as, bs, hn, h => by
    rw [List.nodup_cons] at hn
    have ha := h a (by simp)
    have := nodup_le (as := as) (bs := bs.erase a) hn.2 fun x hx => (List.mem_erase_of_ne (fun e => hn.1 (by rw [← e]; exact hx))).mpr (h x (by simp [hx]))
    rw [List.length_erase_of_mem ha] at this
    have := List.length_pos_of_mem ha
    simp; omega
theorem addS_nd {acc : List D} {p : D} (h : acc.Nodup) : (addS acc p).Nodup := by
  unfold addS; split
  · rename_i hc
    rw [List.nodup_append]
    exact ⟨h, by simp, fun a ha b hb => by simp at hb; subst hb; rintro rfl; exact hc.2 ha⟩
  · exact h
theorem addS_mem {acc : List D} {p x : D} (h : x ∈ addS acc p) : x ∈ acc ∨ (x = p ∧ sl p = true) := by
  unfold addS at h; split at h
  · rename_i hc
    rcases List.mem_append.mp h with h | h
    · exact .inl h
    · exact .inr ⟨List.mem_singleton.mp h, hc.1⟩
  · exact .inl h
theorem slots_ok : ∀ {qs : List Pn} {acc : List D}, acc.Nodup → (qs.foldl (fun acc q => q.ps.foldl addS acc) acc).Nodup ∧ ∀ x ∈ qs.foldl (fun acc q => q.ps.foldl addS acc) acc, x ∈ acc ∨ (sl x = true ∧ ∃ q ∈ qs, x ∈ q.ps)
  | [], acc, h => ⟨h, fun x hx => .inl hx⟩
  | q :: qs, acc, h => by
    have h1 : ∀ (ps acc : List D), acc.Nodup → (ps.foldl addS acc).Nodup ∧ ∀ x ∈ ps.foldl addS acc, x ∈ acc ∨ (sl x = true ∧ x ∈ ps) := by
      intro ps
      induction ps with
      | nil => intro acc h; exact ⟨h, fun x hx => .inl hx⟩
      | cons p ps ih =>
        intro acc h
        obtain ⟨a, b⟩ := ih (addS acc p) (addS_nd h)
        refine ⟨a, fun x hx => ?_⟩
        rcases b x hx with hx | ⟨h1, h2⟩
        · rcases addS_mem hx with hx | ⟨rfl, hs⟩
          · exact .inl hx
          · exact .inr ⟨hs, by simp⟩
        · exact .inr ⟨h1, by simp [h2]⟩
    obtain ⟨a, b⟩ := h1 q.ps acc h
    obtain ⟨a', b'⟩ := slots_ok (qs := qs) a
    refine ⟨a', fun x hx => ?_⟩
    rcases b' x hx with hx | ⟨h2, q', hq', h3⟩
    · rcases b x hx with hx | ⟨h2, h3⟩
      · exact .inl hx
      · exact .inr ⟨h2, q, by simp, h3⟩
    · exact .inr ⟨h2, q', by simp [hq'], h3⟩
theorem sl_is {d : D} (h : sl d = true) : isSl d := of_decide_eq_true h
theorem isSl_S {d : D} (h : isSl d) : isS d = true := (show Part d from .inr h).isS
/-- the slots of a rule's yeses -/
noncomputable def Ru.sls (r : Ru) : List D := slotsL r.ys
theorem sls_ok {th nm : List D} {r : Ru} (ht : ∀ p ∈ th, isTh p) (hn : ∀ p ∈ nm, isSl p) (h : r.ok th nm) : r.sls.Nodup ∧ (∀ x ∈ r.sls, isSl x) ∧ r.sls.length ≤ 3 := by
  obtain ⟨k, hk, _, b, _, _⟩ := h.sl
  obtain ⟨a1, a2⟩ := slots_ok (qs := r.ys) (acc := []) List.nodup_nil
  refine ⟨a1, fun x hx => ?_, ?_⟩
  · rcases a2 x hx with hx | ⟨h1, _⟩
    · simp at hx
    · exact sl_is h1
  · have := nodup_le (bs := nm.take k) a1 fun x hx => by
      rcases a2 x hx with hx | ⟨h1, q, hq, h2⟩
      · simp at hx
      · rcases List.mem_append.mp ((b q hq).2 x h2) with h3 | h3
        · exact absurd (sl_is h1) (th_nsl (ht x h3))
        · exact h3
    have h2 : (nm.take k).length ≤ 3 := by simp; omega
    unfold Ru.sls slotsL
    omega
theorem ths_ok {gv : List Pn} {rs : List Ru} {th nm : List D} (hg : ∀ q ∈ gv, Over th q) (ht : ∀ p ∈ th, isTh p) (hn : ∀ p ∈ nm, isSl p) (hr : ∀ r ∈ rs, r.ok th nm) : (thsOf gv rs).Nodup ∧ (∀ x ∈ thsOf gv rs, isTh x) ∧ (thsOf gv rs).length ≤ th.length ∧ ((thsOf gv rs).Pairwise fun a b => dLe a b = true) := by
  have hpo : ∀ q ∈ pats gv rs, q.ok ∧ ∀ p ∈ q.ps, p ∈ th ∨ isSl p := fun q h => by
    rcases List.mem_append.mp h with h | h
    · exact ⟨(hg q h).1, fun p hp => .inl ((hg q h).2 p hp)⟩
    · obtain ⟨r, hr', hq⟩ := List.mem_flatMap.mp h
      obtain ⟨k, hk, a, b, c, _⟩ := (hr r hr').sl
      have hq' : Over (th ++ nm.take k) q := by
        unfold Ru.all at hq
        simp at hq
        rcases hq with rfl | hq | hq
        · exact a
        · exact b q hq
        · exact c q hq
      refine ⟨hq'.1, fun p hp => ?_⟩
      rcases List.mem_append.mp (hq'.2 p hp) with h | h
      · exact .inl h
      · exact .inr (hn p (List.mem_of_mem_take h))
  obtain ⟨a1, _, a3⟩ := things_ok (qs := pats gv rs) (acc := []) (fun q h => (hpo q h).1) ⟨by simp, List.nodup_nil⟩
  have hsub : ∀ x ∈ thingsL (pats gv rs), x ∈ th := fun x hx => by
    rcases a3 x hx with h | ⟨q, hq, hp⟩
    · simp at h
    · rcases (hpo q hq).2 x hp with h | h
      · exact h
      · exact absurd h (th_nsl (a1.1 x hx))
  refine ⟨(srt_perm _).nodup_iff.mpr a1.2, fun x hx => a1.1 x (srt_mem.mp hx), ?_, srt_pw _⟩
  unfold thsOf
  rw [(srt_perm _).length_eq]
  exact nodup_le a1.2 hsub

/-! ### slots filled -/
noncomputable def gp : List D → List D → D → D
  | n :: ns, x :: xs, p => if p = n then x else gp ns xs p
  | _, _, p => p
noncomputable def zipK : List D → List D → List (Key × D)
  | n :: ns, x :: xs => (kOf n, x) :: zipK ns xs
  | _, _ => []
theorem look_cons {k k' : Key} {x : D} {es : List (Key × D)} : look ((k, x) :: es) k' = if k = k' then some x else look es k' := by
  unfold look
  rw [List.find?_cons]
  by_cases h : k = k' <;> simp [h]
theorem look_zip {p : D} (hp : isS p = true) : ∀ {ns xs : List D}, (∀ n ∈ ns, isS n = true) → ((look (zipK ns xs) (kOf p)).getD p = gp ns xs p) ∧ (p ∉ ns → look (zipK ns xs) (kOf p) = none)
  | n :: ns, x :: xs, h => by
    obtain ⟨a, b⟩ := look_zip hp (ns := ns) (xs := xs) fun y hy => h y (by simp [hy])
    unfold zipK gp
    rw [look_cons]
    by_cases e : p = n
    · subst e; simp
    · have : ¬ kOf n = kOf p := fun z => e (kOf_inj hp (h n (by simp)) z.symm)
      rw [if_neg this, if_neg e]
      exact ⟨a, fun hm => b fun z => hm (by simp [z])⟩
  | [], xs, _ => ⟨rfl, fun _ => rfl⟩
  | _ :: _, [], _ => ⟨rfl, fun _ => rfl⟩
theorem gt_zip {p : D} {ns xs : List D} (hp : isS p = true) (h : ∀ n ∈ ns, isS n = true) : gt (zipK ns xs) p = gp ns xs p := by
  rw [← (look_zip hp h).1]
  cases p <;> simp [isS] at hp
  rfl
theorem zip_snoc : ∀ {ns xs : List D} {n x : D}, ns.length = xs.length → zipK (ns ++ [n]) (xs ++ [x]) = zipK ns xs ++ [(kOf n, x)]
  | [], [], n, x, _ => rfl
  | a :: ns, b :: xs, n, x, h => by
    show (kOf a, b) :: zipK (ns ++ [n]) (xs ++ [x]) = _
    rw [zip_snoc (by simpa using h)]; rfl
  | [], _ :: _, _, _, h => by simp at h
  | _ :: _, [], _, _, h => by simp at h
theorem zip_len : ∀ {ns xs : List D}, (zipK ns xs).length ≤ ns.length
  | n :: ns, x :: xs => by simp [zipK, zip_len (ns := ns) (xs := xs)]
  | [], _ => by simp [zipK]
  | _ :: _, [] => by simp [zipK]
noncomputable def putP (g : D → D) (q : Pn) : D := .tup (q.w :: q.ps.map g)
noncomputable def fillR (at' : Nat) (r : Ru) (g : D → D) : Rl := ⟨at', putP g r.h, r.ys.map (putP g), r.ns.map (putP g)⟩
theorem put_in_gp {q : Pn} {ns xs : List D} (hq : q.ok) (h : ∀ n ∈ ns, isS n = true) : f_put_in [q.d, .dK (zipK ns xs)] = .ok (putP (gp ns xs) q) := by
  rw [put_in_is hq]
  unfold putP
  rw [List.map_congr_left fun p hp => gt_zip (hq.ps p hp).isS h]
theorem filled_by_is {k : Nat} {r : Ru} {ns xs : List D} (hq : ∀ q ∈ r.all, q.ok) (hs : ∀ n ∈ ns, isS n = true) (hn : ns.Nodup) (hl : ns.length = xs.length) (hl2 : ns.length ≤ 1000) : f_filled_by [.int k, r.d, .lst ns, .tup xs] = .ok (fillR k r (gp ns xs)).d := by
  refine is_ok (run_p fun R hR => ?_)
  have hR := hR _ rfl
  unfold g_filled_by
  have hh := hq r.h (by unfold Ru.all; simp)
  have hy : ∀ q ∈ r.ys, q.ok := fun q h => hq q (by unfold Ru.all; simp [h])
  have hm : ∀ q ∈ r.ns, q.ok := fun q h => hq q (by unfold Ru.all; simp [h])
  simp
  refine ⟨by omega, ?_⟩
  refine for_rng (fun j Γ => Γ = [some (.int k), some r.d, some (.lst ns), some (.tup xs), some (.dK (zipK (ns.take j) (xs.take j))), none, none, none, none]) (by simp [zipK]) ?_ ?_
  · rintro j Γ hj rfl N hN
    have hjx : j < xs.length := by omega
    obtain ⟨n, en⟩ : ∃ n, ns[j]? = some n := ⟨ns[j], by simp [hj]⟩
    obtain ⟨x, ex⟩ : ∃ x, xs[j]? = some x := ⟨xs[j], by simp [hjx]⟩
    have hns := hs n (List.mem_of_getElem? en)
    have hnot : n ∉ ns.take j := by
      intro hm
      have h := hn
      rw [← List.take_append_drop j ns, List.nodup_append] at h
      refine h.2.2 n hm n ?_ rfl
      rw [List.drop_eq_getElem_cons (by simpa using hj)]
      have : ns[j]'(by simpa using hj) = n := by
        have := List.getElem?_eq_some_iff.mp en
        exact this.2
      rw [this]; simp
    have hl0 := (look_zip hns (ns := ns.take j) (xs := xs.take j) fun y hy => hs y (List.mem_of_mem_take hy)).2 hnot
    have hzl : (zipK (ns.take j) (xs.take j)).length < sizeLine := by
      have := zip_len (ns := ns.take j) (xs := xs.take j)
      have : (ns.take j).length ≤ ns.length := by simp; omega
      unfold sizeLine; omega
    have e : zipK (ns.take (j + 1)) (xs.take (j + 1)) = zipK (ns.take j) (xs.take j) ++ [(kOf n, x)] := by
      rw [List.take_add_one, List.take_add_one, en, ex]
      exact zip_snoc (by simp; omega)
    have hn2 := hN [some (.int k), some r.d, some (.lst ns), some (.tup xs), some (.dK (zipK (ns.take (j + 1)) (xs.take (j + 1)))), some (.int j), none, none, none] rfl
    rw [e, ← put_new hl0] at hn2
    simp [atI_nat, en, ex, isDict, putK_is hns hzl]
    exact hn2
  · rintro Γ rfl
    have e1 : ns.take ns.length = ns := List.take_length
    have e2 : xs.take ns.length = xs := by rw [hl]; exact List.take_length
    rw [e1, e2]
    rw [fillR, Rl.d] at hR
    simp [Ru.d]
    rw [comp_map (f := fun d => match d with | .tup (w :: ps) => .tup (w :: ps.map (gp ns xs)) | d => d)]
    · simp
      rw [comp_map (f := fun d => match d with | .tup (w :: ps) => .tup (w :: ps.map (gp ns xs)) | d => d)]
      · simp [put_in_gp hh hs]
        exact hR
      · intro d hd
        obtain ⟨q, hq, rfl⟩ := List.mem_map.mp hd
        refine is_ok ?_
        simp [put_in_gp (hm q hq) hs]
        rfl
    · intro d hd
      obtain ⟨q, hq, rfl⟩ := List.mem_map.mp hd
      refine is_ok ?_
      simp [put_in_gp (hy q hq) hs]
      rfl
end L2.Nf

namespace L2.Nf
open PySem PySem.Spec PyProof.Rows

/-- the filled rules of one rule -/
noncomputable def fill1 (T : List D) (i : Nat) (r : Ru) : List Rl := (rowsL T r.sls.length).map fun row => fillR i r (gp r.sls row)
noncomputable def fillK (T : List D) (rs : List Ru) (k : Nat) : List Rl := (List.range k).flatMap fun i => match rs[i]? with
  | some r => fill1 T i r
  | none => []
theorem fillK_succ {T : List D} {rs : List Ru} {k : Nat} {r : Ru} (h : rs[k]? = some r) : fillK T rs (k + 1) = fillK T rs k ++ fill1 T k r := by
  unfold fillK
  rw [List.range_succ, List.flatMap_append]
  simp [h]
theorem fill1_len {T : List D} {i : Nat} {r : Ru} : (fill1 T i r).length = T.length ^ r.sls.length := by
  unfold fill1; rw [List.length_map, rows_len]
theorem pow_le {m n : Nat} (hm : m ≤ 8) (hn : n ≤ 3) : m ^ n ≤ 512 := by
  have h1 : m ^ n ≤ 8 ^ n := Nat.pow_le_pow_left hm n
  have h2 : 8 ^ n ≤ 8 ^ 3 := Nat.pow_le_pow_right (by omega) hn
  omega
/-- what the whole laws need to know of a program -/
structure Pg (T : List D) (rs : List Ru) : Prop where
  tl : T.length ≤ 8
  th : ∀ t ∈ T, isTh t
  all : ∀ r ∈ rs, ∀ q ∈ r.all, q.ok
  sn : ∀ r ∈ rs, r.sls.Nodup
  ss : ∀ r ∈ rs, ∀ s ∈ r.sls, isSl s
  sl : ∀ r ∈ rs, r.sls.length ≤ 3
  rl : rs.length ≤ 1000
  al : ∀ r ∈ rs, r.all.length ≤ 7
theorem fillK_le {T : List D} {rs : List Ru} (h : Pg T rs) : ∀ k, (fillK T rs k).length ≤ 512 * k
  | 0 => by simp [fillK]
  | k + 1 => by
    have ih := fillK_le h k
    cases hk : rs[k]? with
    | none =>
      have : fillK T rs (k + 1) = fillK T rs k := by unfold fillK; rw [List.range_succ, List.flatMap_append]; simp [hk]
      rw [this]; omega
    | some r =>
      rw [fillK_succ hk, List.length_append, fill1_len]
      have := pow_le h.tl (h.sl r (List.mem_of_getElem? hk))
      omega
theorem all_len {r : Ru} (h : r.all.length ≤ 7) : r.ys.length ≤ 6 ∧ r.ns.length ≤ 6 := by
  unfold Ru.all at h
  simp at h; omega
theorem filled_rules_is {gv : List Pn} {rs : List Ru} (ht : f_things_of [.lst (gv.map Pn.d), .lst (rs.map Ru.d)] = .ok (.lst (thsOf gv rs))) (hp : Pg (thsOf gv rs) rs) : f_filled_rules [.lst (gv.map Pn.d), .lst (rs.map Ru.d)] = .ok (.lst ((fillK (thsOf gv rs) rs rs.length).map Rl.d)) := by
  refine is_ok (run_p fun R hR => ?_)
  have hR := hR _ rfl
  unfold g_filled_rules
  have hrl := hp.rl
  simp [ht]
  generalize thsOf gv rs = T at hp hR
  refine ⟨by omega, ?_⟩
  refine for_rng (fun k Γ => Γ = [none, some (.lst (rs.map Ru.d)), some (.lst T), some (.lst ((fillK T rs k).map Rl.d)), none, none, none]) (by simp [fillK]) ?_ ?_
  · rintro k Γ hk rfl N hN
    obtain ⟨r, hrk⟩ : ∃ r, rs[k]? = some r := ⟨rs[k], by simp [hk]⟩
    have hrm := List.mem_of_getElem? hrk
    have hix : atI (rs.map Ru.d) (k : Int) = some r.d := by rw [atI_nat]; simp [hrk]
    have hsl := hp.sl r hrm
    have hall := hp.all r hrm
    have hy : ∀ q ∈ r.ys, q.ok := fun q h => hall q (by unfold Ru.all; simp [h])
    have hso : f_slots_of [.tup (r.ys.map Pn.d)] = .ok (.lst r.sls) := slots_of_any hy (by have := (all_len (hp.al r hrm)).1; omega) _ (.inr rfl)
    have hro := rows_of_is (T := T) (n := r.sls.length) (fun j hj => by have := pow_le hp.tl (show j ≤ 3 by omega); omega) (by have := hp.tl; omega) (by omega)
    have hfl := fillK_le hp k
    have hn := hN [none, some (.lst (rs.map Ru.d)), some (.lst T), some (.lst ((fillK T rs (k + 1)).map Rl.d)), some (.int k), some (.lst r.sls), none]
    have e5 : atI [r.h.d, D.tup (r.ys.map Pn.d), D.tup (r.ns.map Pn.d)] 1 = some (.tup (r.ys.map Pn.d)) := atI1
    simp [hix]
    rw [Ru.d]
    simp [hso, hro]
    refine for_idx (fun j Γ => Γ = [none, some (.lst (rs.map Ru.d)), some (.lst T), some (.lst ((fillK T rs k ++ ((rowsL T r.sls.length).take j).map fun row => fillR k r (gp r.sls row)).map Rl.d)), some (.int k), some (.lst r.sls), none]) (by simp) ?_ ?_
    · rintro j d Γ hj rfl N' hN'
      rw [List.getElem?_map] at hj
      obtain ⟨row, hrj, rfl⟩ := Option.map_eq_some_iff.mp hj
      have hjl := (List.getElem?_eq_some_iff.mp hrj).1
      have hrw := (rows_each (T := T) (P := fun _ => True) (by simp) _ row (List.mem_of_getElem? hrj)).1
      have hfb := filled_by_is (k := k) (r := r) (ns := r.sls) (xs := row) hall (fun n h => isSl_S (hp.ss r hrm n h)) (hp.sn r hrm) hrw.symm (by omega)
      have hn2 := hN' [none, some (.lst (rs.map Ru.d)), some (.lst T), some (.lst ((fillK T rs k ++ ((rowsL T r.sls.length).take (j + 1)).map fun row => fillR k r (gp r.sls row)).map Rl.d)), some (.int k), some (.lst r.sls), some (.tup row)] rfl
      have e6 : (fillK T rs k ++ ((rowsL T r.sls.length).take (j + 1)).map fun row => fillR k r (gp r.sls row)).map Rl.d = (fillK T rs k ++ ((rowsL T r.sls.length).take j).map fun row => fillR k r (gp r.sls row)).map Rl.d ++ [(fillR k r (gp r.sls row)).d] := by
        rw [List.take_add_one, hrj]; simp
      rw [e6] at hn2
      have hbl : ((fillK T rs k ++ ((rowsL T r.sls.length).take j).map fun row => fillR k r (gp r.sls row)).map Rl.d).length < sizeLine := by
        have h1 : ((rowsL T r.sls.length).take j).length ≤ 512 := by
          rw [List.length_take, rows_len]
          have := pow_le hp.tl hsl
          omega
        simp only [List.length_map, List.length_append]
        unfold sizeLine
        omega
      generalize (fillK T rs k ++ ((rowsL T r.sls.length).take j).map fun row => fillR k r (gp r.sls row)).map Rl.d = B at hn2 hbl ⊢
      simp [hix, hfb]
      exact ⟨hbl, hn2⟩
    · rintro Γ rfl
      refine hN _ ?_
      rw [fillK_succ hrk]
      unfold fill1
      simp only [List.take_of_length_le (show (rowsL T r.sls.length).length ≤ ((rowsL T r.sls.length).map D.tup).length by simp)]
      rfl
  · rintro Γ rfl
    simpa using hR

/-! ### the law's own filling -/
noncomputable def rowAt (T : List D) : Nat → Nat → List D
  | 0, _ => []
  | n + 1, t => rowAt T n (t / T.length) ++ [T.getD (t % T.length) .non]
theorem chunk_get {T : List D} (hT : 0 < T.length) : ∀ {rows : List (List D)} {t : Nat} {r : List D}, rows[t / T.length]? = some r → (rows.flatMap fun r => T.map fun x => r ++ [x])[t]? = (T.map fun x => r ++ [x])[t % T.length]?
  | [], t, r, h => by simp at h
  | r0 :: rows, t, r, h => by
    rw [List.flatMap_cons]
    by_cases ht : t < T.length
    · rw [Nat.div_eq_of_lt ht] at h
      simp at h; subst h
      rw [List.getElem?_append_left (by simpa using ht), Nat.mod_eq_of_lt ht]
    · have h1 : t / T.length = (t - T.length) / T.length + 1 := Nat.div_eq_sub_div hT (by omega)
      rw [h1] at h
      have ih := chunk_get hT (rows := rows) (t := t - T.length) (r := r) (by simpa using h)
      rw [List.getElem?_append_right (by simpa using ht), List.length_map, ih, ← Nat.mod_eq_sub_mod (by omega)]
theorem rows_get {T : List D} : ∀ (n t : Nat), t < T.length ^ n → (rowsL T n)[t]? = some (rowAt T n t)
  | 0, t, h => by
    simp at h; subst h; rfl
  | n + 1, t, h => by
    have hT : 0 < T.length := by
      rcases Nat.eq_zero_or_pos T.length with e | e
      · rw [e, Nat.pow_succ, Nat.mul_zero] at h; omega
      · exact e
    have h2 : t / T.length < T.length ^ n := by
      rw [Nat.div_lt_iff_lt_mul hT, ← Nat.pow_succ]; exact h
    have ih := rows_get n (t / T.length) h2
    have hm := Nat.mod_lt t hT
    rw [rowsL, chunk_get hT ih, rowAt, List.getElem?_map]
    simp [List.getD, hm]
theorem fmod_nat (a b : Nat) : (a : Int).fmod (b : Int) = ((a % b : Nat) : Int) := by
  rw [Int.fmod_eq_emod_of_nonneg _ (by omega)]; exact (Int.natCast_emod a b).symm
theorem fdiv_nat (a b : Nat) : (a : Int).fdiv (b : Int) = ((a / b : Nat) : Int) := by
  rw [Int.fdiv_eq_ediv_of_nonneg _ (by omega)]; exact (Int.natCast_ediv a b).symm
theorem law_row_is {T : List D} {n t : Nat} (hT : n ≠ 0 → 0 < T.length) (hT2 : T.length ≤ 1000) (hn : n ≤ 1000) : f__law_row [.int t, .lst T, .int n] = .ok (.lst (rowAt T n t)) := by
  refine is_ok (run_p fun R hR => ?_)
  have hR := hR _ rfl
  unfold g__law_row
  simp
  refine ⟨by omega, ?_⟩
  refine for_rng (fun k Γ => ∃ (tk : Nat) (acc : List D), Γ = [some (.int tk), some (.lst T), none, some (.lst acc), none] ∧ rowAt T n t = rowAt T (n - k) tk ++ acc ∧ acc.length = k) ⟨t, [], rfl, by simp, rfl⟩ ?_ ?_
  · rintro k Γ hk ⟨tk, acc, rfl, h1, h2⟩ N hN
    have hT := hT (by omega)
    have hm := Nat.mod_lt tk hT
    have e : atI T (((tk % T.length : Nat)) : Int) = some (T.getD (tk % T.length) .non) := by
      rw [atI_nat]; simp [List.getD, hm]
    have hne : ¬ T = [] := by rintro rfl; simp at hT
    have e3 : n - k = (n - (k + 1)) + 1 := by omega
    rw [e3, rowAt] at h1
    have hn2 := hN [some (.int ((tk / T.length : Nat) : Int)), some (.lst T), none, some (.lst (T.getD (tk % T.length) .non :: acc)), some (.int k)] ⟨_, _, rfl, by rw [h1]; simp, by simp [h2]⟩
    rw [show (0 : Int) + (k : Int) = k by omega]
    simp only [w_seq, w_set, w_e2, w_eN, w_aC, w_aN, w_eV, List.set_cons_succ, List.set_cons_zero, List.getElem?_cons_zero, List.getElem?_cons_succ, w_lenL, w_mod, w_div, w_ixL, fmod_nat, fdiv_nat, e, w_lstN, w_addL]
    refine ⟨by omega, by simp; unfold sizeLine; omega, by omega, ?_⟩
    exact hn2
  · rintro Γ ⟨tk, acc, rfl, h1, h2⟩
    rw [show n - n = 0 by omega, rowAt] at h1
    simp at h1 ⊢
    rw [← h1]; exact hR
theorem gp_notin {p : D} : ∀ {ns xs : List D}, p ∉ ns → gp ns xs p = p
  | n :: ns, x :: xs, h => by
    unfold gp
    rw [if_neg (fun z => h (by simp [z]))]
    exact gp_notin fun z => h (by simp [z])
  | [], _, _ => rfl
  | _ :: _, [], _ => rfl
theorem gp_in {p : D} (hp : isS p = true) : ∀ {ns xs : List D}, (∀ n ∈ ns, isS n = true) → ns.length = xs.length → p ∈ ns → ∃ j, dIdx p ns = some j ∧ xs[j]? = some (gp ns xs p)
  | n :: ns, x :: xs, h, hl, hm => by
    have hn := h n (by simp)
    unfold dIdx gp
    rw [List.findIdx?_cons, eq_pl (pl_le (by decide) (isS_pl hn)) (pl_le (by decide) (isS_pl hp))]
    by_cases e : p = n
    · subst e; exact ⟨0, by simp, by simp⟩
    · have e' : ¬ n = p := fun z => e z.symm
      rw [if_neg e]
      obtain ⟨j, h1, h2⟩ := gp_in hp (ns := ns) (xs := xs) (fun y hy => h y (by simp [hy])) (by simpa using hl) (by simpa [e] using hm)
      unfold dIdx at h1
      exact ⟨j + 1, by simp [e', h1], by simpa using h2⟩
  | [], _, _, _, hm => by simp at hm
  | _ :: _, [], _, hl, _ => by simp at hl
theorem law_put3_is {q : Pn} {ns xs : List D} (hq : q.ok) (hs : ∀ n ∈ ns, isS n = true) (hl : ns.length = xs.length) : f__law_put_k03 [q.d, .lst ns, .lst xs] = .ok (putP (gp ns xs) q) := by
  refine is_ok (run_p fun R hR => ?_)
  have hR := hR _ rfl
  unfold putP at hR
  unfold g__law_put_k03
  simp [Pn.d, cut_tail]
  have hlen := hq.len
  refine for_foldl (fun acc => [none, some (.lst ns), some (.lst xs), some (.lst acc), none]) (fun a p => a ++ [gp ns xs p]) (fun j a => a.length = j + 1) rfl ?_ ?_
  · rintro j p a N' hj ha
    have hjl := (List.getElem?_eq_some_iff.mp hj).1
    have hp := (hq.ps p (List.mem_of_getElem? hj)).isS
    refine ⟨by simp [ha], fun hN' => ?_⟩
    simp [in_pl (pl_le (by decide) (isS_pl hp)) (fun y hy => pl_le (by decide) (isS_pl (hs y hy)))]
    by_cases hm : p ∈ ns
    · rw [if_pos hm]
      obtain ⟨i, h1, h2⟩ := gp_in hp hs hl hm
      have ei : oIndex (.lst ns) p = .ok (.int i) := by
        have ha : (ns.all isS && isS p) = true := by rw [List.all_eq_true.mpr hs, hp]; rfl
        show (if (ns.all isS && isS p) = true then (match dIdx p ns with | some j => Ro.ok (D.int j) | none => .bad) else .bad) = _
        rw [if_pos ha, h1]
      simp [ei, atI_nat, h2]
      exact ⟨by unfold sizeLine; omega, hN' _ (by simp)⟩
    · rw [if_neg hm]
      exact ⟨by unfold sizeLine; omega, hN' _ (by simp [gp_notin hm])⟩
  · intro _
    have e : ∀ (ps a : List D), ps.foldl (fun a p => a ++ [gp ns xs p]) a = a ++ ps.map (gp ns xs) := by
      intro ps
      induction ps with
      | nil => intro a; simp
      | cons p ps ih => intro a; rw [List.foldl_cons, ih]; simp
    rw [e]
    simp
    exact hR
end L2.Nf

namespace L2.Nf
open PySem PySem.Spec PyProof.Rows

theorem law_filled_is {gv : List Pn} {rs : List Ru} (ht : f__law_things [.lst (gv.map Pn.d), .lst (rs.map Ru.d)] = .ok (.lst (thsOf gv rs))) (hp : Pg (thsOf gv rs) rs) : f__law_filled [.lst (gv.map Pn.d), .lst (rs.map Ru.d)] = .ok (.lst ((fillK (thsOf gv rs) rs rs.length).map Rl.d)) := by
  refine is_ok (run_p fun R hR => ?_)
  have hR := hR _ rfl
  unfold g__law_filled
  have hrl := hp.rl
  simp [ht]
  generalize thsOf gv rs = T at hp hR
  refine ⟨by omega, ?_⟩
  refine for_rng (fun k Γ => Γ = [none, some (.lst (rs.map Ru.d)), some (.lst T), some (.lst ((fillK T rs k).map Rl.d)), none, none, none, none, none, none, none, none, none]) (by simp [fillK]) ?_ ?_
  · rintro k Γ hk rfl N hN
    obtain ⟨r, hrk⟩ : ∃ r, rs[k]? = some r := ⟨rs[k], by simp [hk]⟩
    have hrm := List.mem_of_getElem? hrk
    have hix : atI (rs.map Ru.d) (k : Int) = some r.d := by rw [atI_nat]; simp [hrk]
    have hsl := hp.sl r hrm
    have hall := hp.all r hrm
    have hh : r.h.ok := hall r.h (by unfold Ru.all; simp)
    have hy : ∀ q ∈ r.ys, q.ok := fun q h => hall q (by unfold Ru.all; simp [h])
    have hm : ∀ q ∈ r.ns, q.ok := fun q h => hall q (by unfold Ru.all; simp [h])
    have hso : f__law_slots [.tup (r.ys.map Pn.d)] = .ok (.lst r.sls) := by
      have : ∀ d, d = D.lst (r.ys.map Pn.d) ∨ d = D.tup (r.ys.map Pn.d) → f__law_slots [d] = f__law_slots [.lst (r.ys.map Pn.d)] := by
        rintro d (rfl | rfl)
        · rfl
        · unfold f__law_slots runD g__law_slots
          rfl
      rw [this _ (.inr rfl), slots_k03]
      exact law_slots_is hy (by have := (all_len (hp.al r hrm)).1; omega)
    have hfl := fillK_le hp k
    have hsS : ∀ n ∈ r.sls, isS n = true := fun n h => isSl_S (hp.ss r hrm n h)
    have e0 : atI [r.h.d, D.tup (r.ys.map Pn.d), D.tup (r.ns.map Pn.d)] 0 = some r.h.d := atI0
    rw [Int.zero_add]
    refine set_seq (.lst r.sls) (by simp [hix]; rw [Ru.d]; simp [hso]) ?_
    refine set_seq (.int 1) (by simp) ?_
    simp only [List.set_cons_succ, List.set_cons_zero]
    refine seq_wp (fun Γ => Γ = [none, some (.lst (rs.map Ru.d)), some (.lst T), some (.lst ((fillK T rs k).map Rl.d)), some (.int k), some (.lst r.sls), some (.int ((T.length ^ r.sls.length : Nat) : Int)), none, none, none, none, none, none]) ?_ ?_
    · intro N' hN'
      simp
      refine for_idx (fun j Γ => Γ = [none, some (.lst (rs.map Ru.d)), some (.lst T), some (.lst ((fillK T rs k).map Rl.d)), some (.int k), some (.lst r.sls), some (.int ((T.length ^ j : Nat) : Int)), none, none, none, none, none, none]) (by simp) ?_ ?_
      · rintro j d Γ hj rfl N'' hN''
        have hjl := (List.getElem?_eq_some_iff.mp hj).1
        have hpw := pow_le hp.tl (show j ≤ 3 by omega)
        have htl := hp.tl
        have hn2 := hN'' [none, some (.lst (rs.map Ru.d)), some (.lst T), some (.lst ((fillK T rs k).map Rl.d)), some (.int k), some (.lst r.sls), some (.int ((T.length ^ (j + 1) : Nat) : Int)), some d, none, none, none, none, none] rfl
        rw [Nat.pow_succ] at hn2
        generalize T.length ^ j = P at hpw hn2 ⊢
        simp only [w_set, w_e2, w_eN, w_aC, w_aN, w_eV, List.set_cons_succ, List.set_cons_zero, List.getElem?_cons_zero, List.getElem?_cons_succ, w_lenL, w_mul]
        refine ⟨.inl (by omega), ?_⟩
        rw [← Int.natCast_mul]
        exact hn2
      · rintro Γ rfl
        exact hN' _ rfl
    · rintro Γ rfl
      have hpw := pow_le hp.tl hsl
      have hn := hN [none, some (.lst (rs.map Ru.d)), some (.lst T), some (.lst ((fillK T rs (k + 1)).map Rl.d)), some (.int k), some (.lst r.sls), none, none, none, none, none, none, none] rfl
      simp only [w_for, w_lRng1, w_eV, List.getElem?_cons_zero, List.getElem?_cons_succ, clr_cons, clr_nil]
      refine ⟨by omega, by omega, ?_⟩
      rw [Int.toNat_natCast]
      refine for_rng (fun j Γ => Γ = [none, some (.lst (rs.map Ru.d)), some (.lst T), some (.lst ((fillK T rs k ++ ((rowsL T r.sls.length).take j).map fun row => fillR k r (gp r.sls row)).map Rl.d)), some (.int k), some (.lst r.sls), none, none, none, none, none, none, none]) (by simp) ?_ ?_
      · rintro j Γ hj rfl N' hN'
        have hT : r.sls.length ≠ 0 → 0 < T.length := fun h0 => by
          rcases Nat.eq_zero_or_pos T.length with e | e
          · rw [e, Nat.zero_pow (by omega)] at hj; omega
          · exact e
        have hrow := rows_get (T := T) r.sls.length j hj
        have hrw := (rows_each (T := T) (P := fun _ => True) (by simp) _ _ (List.mem_of_getElem? hrow)).1
        have hlr := law_row_is (T := T) (n := r.sls.length) (t := j) hT (by have := hp.tl; omega) (by omega)
        generalize rowAt T r.sls.length j = row at hrow hrw hlr
        have hput : ∀ q : Pn, q.ok → f__law_put_k03 [q.d, .lst r.sls, .lst row] = .ok (putP (gp r.sls row) q) := fun q hq => law_put3_is hq hsS hrw.symm
        have hn2 := hN' [none, some (.lst (rs.map Ru.d)), some (.lst T), some (.lst ((fillK T rs k ++ ((rowsL T r.sls.length).take (j + 1)).map fun row => fillR k r (gp r.sls row)).map Rl.d)), some (.int k), some (.lst r.sls), none, none, some (.int j), some (.lst row), some (.lst (r.ys.map (putP (gp r.sls row)))), some (.lst (r.ns.map (putP (gp r.sls row)))), none] rfl
        have e6 : (fillK T rs k ++ ((rowsL T r.sls.length).take (j + 1)).map fun row => fillR k r (gp r.sls row)).map Rl.d = (fillK T rs k ++ ((rowsL T r.sls.length).take j).map fun row => fillR k r (gp r.sls row)).map Rl.d ++ [(fillR k r (gp r.sls row)).d] := by
          rw [List.take_add_one, hrow]; simp
        rw [e6] at hn2
        have hbl : ((fillK T rs k ++ ((rowsL T r.sls.length).take j).map fun row => fillR k r (gp r.sls row)).map Rl.d).length < sizeLine := by
          have h1 : ((rowsL T r.sls.length).take j).length ≤ 512 := by
            rw [List.length_take, rows_len]
            omega
          simp only [List.length_map, List.length_append]
          unfold sizeLine
          omega
        generalize (fillK T rs k ++ ((rowsL T r.sls.length).take j).map fun row => fillR k r (gp r.sls row)).map Rl.d = B at hn2 hbl ⊢
        rw [Int.zero_add]
        have hlist : ∀ (Γ : Gm) (qs : List Pn), (∀ q ∈ qs, q.ok) → (∀ d, (Γ.set 12 (some d))[12]? = some (some d) ∧ (Γ.set 12 (some d))[5]? = some (some (.lst r.sls)) ∧ (Γ.set 12 (some d))[9]? = some (some (.lst row))) →
            compD 12 tYes' (eN f__law_put_k03 (aC (eV 12) (aC (eV 5) (aC (eV 9) aN)))) Γ (qs.map Pn.d) = .ok (qs.map (putP (gp r.sls row))) := by
          intro Γ qs hq hΓ
          have : ∀ qs : List Pn, (∀ q ∈ qs, q.ok) → compD 12 tYes' (eN f__law_put_k03 (aC (eV 12) (aC (eV 5) (aC (eV 9) aN)))) Γ (qs.map Pn.d) = .ok (qs.map (putP (gp r.sls row))) := by
            intro qs
            induction qs with
            | nil => intro _; rfl
            | cons q qs ih =>
              intro hq
              have e1 : eN f__law_put_k03 (aC (eV 12) (aC (eV 5) (aC (eV 9) aN))) (Γ.set 12 (some q.d)) = .ok (putP (gp r.sls row) q) := by
                refine is_ok ?_
                obtain ⟨a, b, c⟩ := hΓ q.d
                simp only [w_eN, w_aC, w_eV, w_aN, a, b, c, hput q (hq q (by simp)), w_ok]
              rw [List.map_cons]
              unfold compD
              show (eN f__law_put_k03 _ (Γ.set 12 (some q.d))).bind (fun x => (compD 12 tYes' _ Γ (qs.map Pn.d)).bind fun r => .ok (x :: r)) = _
              rw [e1, ih fun x hx => hq x (by simp [hx])]
              rfl
          exact this qs hq
        have e1 : atI [r.h.d, D.tup (r.ys.map Pn.d), D.tup (r.ns.map Pn.d)] 1 = some (.tup (r.ys.map Pn.d)) := atI1
        have e2 : atI [r.h.d, D.tup (r.ys.map Pn.d), D.tup (r.ns.map Pn.d)] 2 = some (.tup (r.ns.map Pn.d)) := atI2
        have hput0 := hput r.h hh
        refine set_seq (.lst row) (by simp [hlr]) ?_
        refine set_seq (.lst (r.ys.map (putP (gp r.sls row)))) ?_ ?_
        · simp only [w_eLc, w_lE, w_e2, w_eV, w_eC, List.set_cons_succ, List.set_cons_zero, List.getElem?_cons_zero, List.getElem?_cons_succ, w_ixL, hix]
          rw [Ru.d]
          simp only [w_ixT, e1, w_itT]
          rw [hlist _ r.ys hy (fun d => ⟨rfl, rfl, rfl⟩)]
          rfl
        refine set_seq (.lst (r.ns.map (putP (gp r.sls row)))) ?_ ?_
        · simp only [w_eLc, w_lE, w_e2, w_eV, w_eC, List.set_cons_succ, List.set_cons_zero, List.getElem?_cons_zero, List.getElem?_cons_succ, w_ixL, hix]
          rw [Ru.d]
          simp only [w_ixT, e2, w_itT]
          rw [hlist _ r.ns hm (fun d => ⟨rfl, rfl, rfl⟩)]
          rfl
        simp only [w_app, w_eN, w_aC, w_aN, w_e2, w_eV, w_eC, List.set_cons_succ, List.set_cons_zero, List.getElem?_cons_zero, List.getElem?_cons_succ, w_ixL, hix, w_tupleL, w_tupN]
        rw [Ru.d]
        simp only [w_ixT, e0, hput0, w_ok]
        exact ⟨hbl, hn2⟩
      · rintro Γ rfl
        rw [fillK_succ hrk] at hn
        unfold fill1 at hn
        rw [← rows_len, List.take_length]
        exact hn
  · rintro Γ rfl
    simpa using hR

/-! ### the law -/
theorem putP_ts {g : D → D} {q : Pn} (hq : q.ok) (hg : ∀ p, Part p → isS (g p) = true) : isTS (putP g q) = true := by
  obtain ⟨x, e, _⟩ := hq.w
  unfold putP
  rw [e]
  simp only [isTS, List.all_eq_true]
  intro y hy
  rcases List.mem_cons.mp hy with rfl | hy
  · rfl
  · obtain ⟨p, hp, rfl⟩ := List.mem_map.mp hy
    exact hg p (hq.ps p hp)
theorem gp_isS {p : D} (hp : isS p = true) : ∀ {ns xs : List D}, (∀ x ∈ xs, isS x = true) → isS (gp ns xs p) = true
  | n :: ns, x :: xs, h => by
    unfold gp
    split
    · exact h x (by simp)
    · exact gp_isS hp fun y hy => h y (by simp [hy])
  | [], _, _ => hp
  | _ :: _, [], _ => hp
theorem fillK_mem {T : List D} {rs : List Ru} {k : Nat} {l : Rl} (h : l ∈ fillK T rs k) : ∃ i r row, i < k ∧ rs[i]? = some r ∧ row ∈ rowsL T r.sls.length ∧ l = fillR i r (gp r.sls row) := by
  unfold fillK at h
  obtain ⟨i, hi, h2⟩ := List.mem_flatMap.mp h
  cases hr : rs[i]? with
  | none => rw [hr] at h2; simp at h2
  | some r =>
    rw [hr] at h2
    obtain ⟨row, hrow, rfl⟩ := List.mem_map.mp h2
    exact ⟨i, r, row, by simpa using hi, hr, hrow, rfl⟩
theorem fillK_ok {T : List D} {rs : List Ru} (hp : Pg T rs) {k : Nat} : ∀ l ∈ fillK T rs k, l.ok := by
  intro l hl
  obtain ⟨i, r, row, _, hr, hrow, rfl⟩ := fillK_mem hl
  have hrm := List.mem_of_getElem? hr
  have hall := hp.all r hrm
  have hrw := (rows_each (T := T) (P := fun x => isS x = true) (fun t ht => isTh_S (hp.th t ht)) _ _ hrow).2
  have hg : ∀ p, Part p → isS (gp r.sls row p) = true := fun p hp => gp_isS hp.isS hrw
  refine ⟨putP_ts (hall r.h (by unfold Ru.all; simp)) hg, fun g hg' => ?_, fun g hg' => ?_⟩
  · obtain ⟨q, hq, rfl⟩ := List.mem_map.mp hg'
    exact putP_ts (hall q (by unfold Ru.all; simp [hq])) hg
  · obtain ⟨q, hq, rfl⟩ := List.mem_map.mp hg'
    exact putP_ts (hall q (by unfold Ru.all; simp [hq])) hg
theorem alike_is {r : Rl} (h : r.ok) : f__law_alike [r.d, r.d] = .ok (.bl true) := by
  refine is_ok (run_p fun R hR => ?_)
  have hR := hR _ rfl
  have e := oEq_pl (pl_le (by decide) (pl_rl h) : r.d.pl 8 = true) (pl_le (by decide) (pl_rl h))
  rw [decide_eq_true rfl] at e
  unfold g__law_alike
  rw [Rl.d] at e ⊢
  simp [whole_int, ty_ts h.h, e]
  exact hR
theorem pg_ok {th nm : List D} {gv : List Pn} {rs : List Ru} (h : PgOk th nm gv rs) : Pg (thsOf gv rs) rs := by
  obtain ⟨_, h2, h3, _⟩ := ths_ok h.given h.things h.names h.rules
  have := h.tl2
  have := h.rl
  exact ⟨by omega, h2, fun r hr => (h.rules r hr).all, fun r hr => (sls_ok h.things h.names (h.rules r hr)).1, fun r hr => (sls_ok h.things h.names (h.rules r hr)).2.1, fun r hr => (sls_ok h.things h.names (h.rules r hr)).2.2, by omega, fun r hr => (h.rules r hr).alen⟩
theorem pl_ru {r : Ru} (h : ∀ q ∈ r.all, q.ok) : r.d.pl 3 = true := by
  unfold Ru.d
  refine pl_tup fun x hx => ?_
  simp at hx
  rcases hx with rfl | rfl | rfl
  · exact pl_le (by decide) (pl_pn (h r.h (by unfold Ru.all; simp)))
  · exact pl_tup fun x hx => by
      obtain ⟨q, hq, rfl⟩ := List.mem_map.mp hx
      exact pl_pn (h q (by unfold Ru.all; simp [hq]))
  · exact pl_tup fun x hx => by
      obtain ⟨q, hq, rfl⟩ := List.mem_map.mp hx
      exact pl_pn (h q (by unfold Ru.all; simp [hq]))
theorem plain_k03 (ns : List Int) (hns : ns.length ≤ 63) : f_law_k03 [encI ns] = .ok (.bl true) := by
  refine is_ok (run_p fun R hR => ?_)
  have hR := hR _ rfl
  obtain ⟨th, nm, gv, rs, ep, hpg⟩ := program_is ns
  have hgl := hpg.gl
  have hrl := hpg.rl
  have hp := pg_ok hpg
  have eT := things_of_is hpg.given hpg.things hpg.rules (by omega) (by omega)
  have eL := law_things_is hpg.given hpg.rules (by omega) (by omega)
  have eF := filled_rules_is eT hp
  have eD := law_filled_is eL hp
  obtain ⟨_, hth, _, _⟩ := ths_ok hpg.given hpg.things hpg.names hpg.rules
  have q1 : (D.lst (thsOf gv rs)).pl 8 = true := pl_le (n := 1) (by decide) (pl_lst fun x hx => isS_pl (isTh_S (hth x hx)))
  have q2 : (D.lst (gv.map Pn.d)).pl 8 = true := pl_le (n := 2) (by decide) (pl_lst fun x hx => by
    obtain ⟨q, hq, rfl⟩ := List.mem_map.mp hx
    exact pl_pn (hpg.given q hq).1)
  have q3 : (D.lst (rs.map Ru.d)).pl 8 = true := pl_le (n := 4) (by decide) (pl_lst fun x hx => by
    obtain ⟨r, hr, rfl⟩ := List.mem_map.mp hx
    exact pl_ru (hp.all r hr))
  have e1 := oNe_pl q1 q1
  have e2 := oEq_pl q2 q2
  have e3 := oEq_pl q3 q3
  rw [decide_eq_true rfl] at e1 e2 e3
  have hfo := fillK_ok hp (k := rs.length)
  have hfl := fillK_le hp rs.length
  unfold g_law_k03
  simp [ep, pgD, eT, eL, e1, eF, eD]
  generalize fillK (thsOf gv rs) rs rs.length = F at hfo hfl
  refine ⟨by omega, ?_⟩
  refine for_rng (fun k Γ => Γ = [none, some (.tup [.lst (gv.map Pn.d), .lst (rs.map Ru.d)]), some (.lst [.lst (gv.map Pn.d), .lst (rs.map Ru.d)]), none, some (.lst (F.map Rl.d)), some (.lst (F.map Rl.d)), none]) rfl ?_ ?_
  · rintro k Γ hk rfl N hN
    obtain ⟨l, hl⟩ : ∃ l, F[k]? = some l := ⟨F[k], by simp [hk]⟩
    have hix : atI (F.map Rl.d) (k : Int) = some l.d := by rw [atI_nat]; simp [hl]
    have hn := hN [none, some (.tup [.lst (gv.map Pn.d), .lst (rs.map Ru.d)]), some (.lst [.lst (gv.map Pn.d), .lst (rs.map Ru.d)]), none, some (.lst (F.map Rl.d)), some (.lst (F.map Rl.d)), some (.int k)] rfl
    simp [hix, alike_is (hfo l (List.mem_of_getElem? hl))]
    simpa using hn
  · rintro Γ rfl
    simp [e2, e3]
    exact hR
end L2.Nf

namespace L2.Nf
open PySem PySem.Spec PyProof.Rows

theorem run_q {n : Nat} {g : SDen} {ds : List D} {P : D → Prop} (h : ∀ R : D → Prop, (∀ d, P d → R d) → Wp (g (Gm0 n ds)) (fun _ => R .non) R) : Is (runD n .rep g ds) P := by
  have := h P fun _ h => h
  unfold runD
  revert this
  cases g (Gm0 n ds) with
  | nx Γ => intro h; exact h
  | rt d => intro h; exact h
  | xc c => intro h; exact h.elim
  | bad => intro h; exact h.elim
abbrev figs : Str := PySem.Str.ofString "0123456789"
theorem sgns_all : ∀ c ∈ sgns.cps.toList, c ∈ (lets ++ figs).cps.toList := by decide +kernel
theorem th_all {w : Str} (h : IsW sgns w) : IsW (lets ++ figs) w := ⟨h.1, h.2.1, fun c hc => sgns_all c (h.2.2 c hc)⟩
theorem is_thing_th {d : D} (h : isTh d) : f_is_thing [d] = .ok (.bl true) := by
  obtain ⟨w, rfl, hw⟩ := h
  refine is_ok (run_p fun R hR => ?_)
  have hR := hR _ rfl
  unfold g_is_thing
  have e := made_of_is (A := lets ++ figs) (w := w)
  rw [decide_eq_true (th_all hw)] at e
  simp [e]
  exact ⟨by decide +kernel, hR⟩
theorem is_thing_sl {d : D} (h : isSl d) : f_is_thing [d] = .ok (.bl false) := by
  obtain ⟨w, rfl, hw⟩ := h
  refine is_ok (run_p fun R hR => ?_)
  have hR := hR _ rfl
  unfold g_is_thing
  have e := made_of_is (A := lets ++ figs) (w := qm ++ w)
  rw [decide_eq_false (fun z => by
    have := z.2.2 63 (by rw [q_cps]; simp)
    exact absurd this (by decide +kernel))] at e
  simp [e]
  exact ⟨by decide +kernel, hR⟩
theorem check_fact_is {q : Pn} (hq : q.ok) (ht : ∀ p ∈ q.ps, isTh p) : f_check_fact [q.d] = .ok .non := by
  refine is_ok (run_q fun R hR => ?_)
  have hR := hR _ rfl
  unfold g_check_fact
  obtain ⟨x, e, hx⟩ := hq.w
  have hl := hq.len
  have h1 : ¬ ((q.ps.length : Int) + 1 < 1) := by omega
  have h2 : ¬ ((4 : Int) < (q.ps.length : Int) + 1) := by omega
  have ew := is_word_is (w := x)
  rw [decide_eq_true hx] at ew
  simp [Pn.d, e, cut_tail, h1, h2, ew]
  refine for_idx (fun k Γ => Γ = [none, none]) rfl ?_ ?_
  · rintro k d Γ hk rfl N hN
    simp [is_thing_th (ht d (List.mem_of_getElem? hk))]
    exact hN _ rfl
  · rintro Γ rfl
    exact hR
theorem check_pattern_is {q : Pn} (hq : q.ok) : f_check_pattern [q.d] = .ok .non := by
  refine is_ok (run_q fun R hR => ?_)
  have hR := hR _ rfl
  unfold g_check_pattern
  obtain ⟨x, e, hx⟩ := hq.w
  have hl := hq.len
  have h1 : ¬ ((q.ps.length : Int) + 1 < 1) := by omega
  have h2 : ¬ ((4 : Int) < (q.ps.length : Int) + 1) := by omega
  have ew := is_word_is (w := x)
  rw [decide_eq_true hx] at ew
  simp [Pn.d, e, cut_tail, h1, h2, ew]
  refine for_idx (fun k Γ => Γ = [none, none]) rfl ?_ ?_
  · rintro k d Γ hk rfl N hN
    rcases hq.ps d (List.mem_of_getElem? hk) with h | h
    · simp [is_thing_th h]
      exact hN _ rfl
    · simp [is_thing_sl h, is_slot_is (.inr h : Part d), sl_sl h]
      exact hN _ rfl
  · rintro Γ rfl
    exact hR
theorem slots_mem {qs : List Pn} {x : D} (h : x ∈ slotsL qs) : sl x = true ∧ ∃ q ∈ qs, x ∈ q.ps := by
  rcases (slots_ok (qs := qs) (acc := []) List.nodup_nil).2 x h with h | h
  · simp at h
  · exact h
theorem slots_has : ∀ {qs : List Pn} {acc : List D} {x : D}, (x ∈ acc ∨ (sl x = true ∧ ∃ q ∈ qs, x ∈ q.ps)) → x ∈ qs.foldl (fun acc q => q.ps.foldl addS acc) acc
  | [], acc, x, h => by
    rcases h with h | ⟨_, q, hq, _⟩
    · exact h
    · simp at hq
  | q :: qs, acc, x, h => by
    have h1 : ∀ (ps acc : List D), (x ∈ acc ∨ (sl x = true ∧ x ∈ ps)) → x ∈ ps.foldl addS acc := by
      intro ps
      induction ps with
      | nil => intro acc h; rcases h with h | ⟨_, h⟩
               · exact h
               · simp at h
      | cons p ps ih =>
        intro acc h
        refine ih _ ?_
        unfold addS
        rcases h with h | ⟨hs, h⟩
        · split
          · exact .inl (by simp [h])
          · exact .inl h
        · rcases List.mem_cons.mp h with rfl | h
          · by_cases hm : x ∈ acc
            · rw [if_neg (fun z => z.2 hm)]; exact .inl hm
            · rw [if_pos ⟨hs, hm⟩]; exact .inl (by simp)
          · exact .inr ⟨hs, h⟩
    refine slots_has (qs := qs) ?_
    rcases h with h | ⟨hs, q', hq', hx⟩
    · exact .inl (h1 _ _ (.inl h))
    · rcases List.mem_cons.mp hq' with rfl | hq'
      · exact .inl (h1 _ _ (.inr ⟨hs, hx⟩))
      · exact .inr ⟨hs, q', hq', hx⟩
theorem check_rule_is {th nm : List D} {r : Ru} (ht : ∀ p ∈ th, isTh p) (hn : ∀ p ∈ nm, isSl p) (h : r.ok th nm) : f_check_rule [r.d] = .ok .non := by
  refine is_ok (run_q fun R hR => ?_)
  have hR := hR _ rfl
  have hall := h.all
  have hlen := h.len
  have hal := h.alen
  have hy : ∀ q ∈ r.ys, q.ok := fun q h => hall q (by unfold Ru.all; simp [h])
  have hhn : ∀ q ∈ r.h :: r.ns, q.ok := fun q h => hall q (by
    unfold Ru.all
    rcases List.mem_cons.mp h with rfl | h
    · simp
    · simp [h])
  have e1 : f_slots_of [.tup (r.ys.map Pn.d)] = .ok (.lst r.sls) := slots_of_any hy (by have := (all_len hal).1; omega) _ (.inr rfl)
  have e2 : f_slots_of [.tup (r.h.d :: r.ns.map Pn.d)] = .ok (.lst (slotsL (r.h :: r.ns))) := slots_of_any (qs := r.h :: r.ns) hhn (by have := (all_len hal).2; simp; omega) _ (.inr rfl)
  obtain ⟨_, hs2, hs3⟩ := sls_ok ht hn h
  have hb : ∀ s ∈ slotsL (r.h :: r.ns), s ∈ r.sls := by
    intro s hs
    obtain ⟨h1, q, hq, hsq⟩ := slots_mem hs
    obtain ⟨k, _, a, b, c, d⟩ := h.sl
    have hqo : Over (th ++ nm.take k) q := by
      rcases List.mem_cons.mp hq with rfl | hq
      · exact a
      · exact c q hq
    have hsk : s ∈ nm.take k := by
      rcases List.mem_append.mp (hqo.2 s hsq) with h2 | h2
      · exact absurd (sl_is h1) (th_nsl (ht s h2))
      · exact h2
    obtain ⟨q', hq', hs'⟩ := d s hsk
    exact slots_has (.inr ⟨h1, q', hq', hs'⟩)
  unfold g_check_rule
  simp [Ru.d]
  refine ⟨by unfold sizeLine; omega, by unfold sizeLine; omega, ?_⟩
  have e3 : r.h.d :: (r.ys.map Pn.d ++ r.ns.map Pn.d) = r.all.map Pn.d := by unfold Ru.all; simp
  rw [e3]
  refine for_idx (fun k Γ => Γ = [some r.d, none, none, none]) rfl ?_ ?_
  · rintro k d Γ hk rfl N hN
    rw [List.getElem?_map] at hk
    obtain ⟨q, hqk, rfl⟩ := Option.map_eq_some_iff.mp hk
    simp [check_pattern_is (hall q (List.mem_of_getElem? hqk))]
    exact hN _ rfl
  · rintro Γ rfl
    have h6 : ¬ ((6 : Int) < (r.ys.length : Int) + (r.ns.length : Int)) := by omega
    have h3 : ¬ ((3 : Int) < (r.sls.length : Int)) := by omega
    simp [Ru.d, h6, e1]
    refine ⟨by unfold sizeLine; omega, ?_⟩
    simp [e2]
    refine for_idx (fun k Γ => Γ = [none, none, some (.lst r.sls), none]) rfl ?_ ?_
    · rintro k d Γ hk rfl N hN
      have hd := List.mem_of_getElem? hk
      have hds := isSl_S (sl_is (slots_mem hd).1)
      simp [in_pl (pl_le (by decide) (isS_pl hds)) (fun y hy => pl_le (by decide) (isS_pl (isSl_S (hs2 y hy)))), hb d hd]
      exact hN _ rfl
    · rintro Γ rfl
      simp [h3]
      exact hR

/-- how many filled rules there are -/
noncomputable def cntF (T : List D) (rs : List Ru) : Nat := (rs.map fun r => T.length ^ r.sls.length).sum
/-- a program that may be handed in -/
structure PgA (th nm : List D) (gv : List Pn) (rs : List Ru) : Prop where
  ht : ∀ p ∈ th, isTh p
  hn : ∀ p ∈ nm, isSl p
  hg : ∀ q ∈ gv, Over th q
  hr : ∀ r ∈ rs, r.ok th nm
  gl : gv.length ≤ 60
  rl : rs.length ≤ 20
  tl : (thsOf gv rs).length ≤ 8
  cnt : cntF (thsOf gv rs) rs ≤ 2000
theorem PgA.pg {th nm : List D} {gv : List Pn} {rs : List Ru} (h : PgA th nm gv rs) : Pg (thsOf gv rs) rs := by
  obtain ⟨_, h2, _, _⟩ := ths_ok h.hg h.ht h.hn h.hr
  have := h.rl
  exact ⟨h.tl, h2, fun r hr => (h.hr r hr).all, fun r hr => (sls_ok h.ht h.hn (h.hr r hr)).1, fun r hr => (sls_ok h.ht h.hn (h.hr r hr)).2.1, fun r hr => (sls_ok h.ht h.hn (h.hr r hr)).2.2, by omega, fun r hr => (h.hr r hr).alen⟩
theorem PgA.things {th nm : List D} {gv : List Pn} {rs : List Ru} (h : PgA th nm gv rs) : f_things_of [.lst (gv.map Pn.d), .lst (rs.map Ru.d)] = .ok (.lst (thsOf gv rs)) :=
  things_of_is h.hg h.ht h.hr (by have := h.gl; omega) (by have := h.rl; omega)
theorem count_is {th nm : List D} {gv : List Pn} {rs : List Ru} (h : PgA th nm gv rs) : f_count_filled [.lst (gv.map Pn.d), .lst (rs.map Ru.d)] = .ok (.int (cntF (thsOf gv rs) rs)) := by
  refine is_ok (run_p fun R hR => ?_)
  have hR := hR _ rfl
  have hp := h.pg
  unfold g_count_filled
  simp [h.things]
  generalize thsOf gv rs = T at hp hR
  have htl := hp.tl
  refine for_idx (fun k Γ => Γ = [none, none, some (.int T.length), some (.int (cntF T (rs.take k) : Nat)), none, none, none]) (by simp [cntF]) ?_ ?_
  · rintro k d Γ hk rfl N hN
    rw [List.getElem?_map] at hk
    obtain ⟨r, hrk, rfl⟩ := Option.map_eq_some_iff.mp hk
    have hrm := List.mem_of_getElem? hrk
    have hsl := hp.sl r hrm
    have hy : ∀ q ∈ r.ys, q.ok := fun q h => hp.all r hrm q (by unfold Ru.all; simp [h])
    have e1 : f_slots_of [.tup (r.ys.map Pn.d)] = .ok (.lst r.sls) := slots_of_any hy (by have := (all_len (hp.al r hrm)).1; omega) _ (.inr rfl)
    have e2 : cntF T (rs.take (k + 1)) = cntF T (rs.take k) + T.length ^ r.sls.length := by
      unfold cntF
      rw [List.take_add_one, hrk]; simp
    have hn := hN [none, none, some (.int T.length), some (.int (cntF T (rs.take (k + 1)) : Nat)), none, some (.int ((T.length ^ r.sls.length : Nat) : Int)), none] rfl
    rw [e2] at hn
    generalize cntF T (rs.take k) = c at hn ⊢
    rw [Ru.d]
    simp [e1]
    refine for_idx (fun j Γ => Γ = [none, none, some (.int T.length), some (.int c), none, some (.int ((T.length ^ j : Nat) : Int)), none]) (by simp) ?_ ?_
    · rintro j d Γ hj rfl N' hN'
      have hjl := (List.getElem?_eq_some_iff.mp hj).1
      have hpw := pow_le htl (show j ≤ 3 by omega)
      have hn2 := hN' [none, none, some (.int T.length), some (.int c), none, some (.int ((T.length ^ (j + 1) : Nat) : Int)), some d] rfl
      rw [Nat.pow_succ] at hn2
      generalize T.length ^ j = P at hpw hn2 ⊢
      simp only [w_set, w_e2, w_eV, List.set_cons_succ, List.set_cons_zero, List.getElem?_cons_zero, List.getElem?_cons_succ, w_mul]
      refine ⟨.inl (by omega), ?_⟩
      rw [← Int.natCast_mul]
      exact hn2
    · rintro Γ rfl
      simp only [w_set, w_e2, w_eV, List.set_cons_succ, List.set_cons_zero, List.getElem?_cons_zero, List.getElem?_cons_succ, w_addI]
      rw [← Int.natCast_add]
      exact hn
  · rintro Γ rfl
    simpa using hR
theorem check_is {th nm : List D} {gv : List Pn} {rs : List Ru} (h : PgA th nm gv rs) : f_check [.lst (gv.map Pn.d), .lst (rs.map Ru.d)] = .ok .non := by
  refine is_ok (run_q fun R hR => ?_)
  have hR := hR _ rfl
  unfold g_check
  have h1 : ¬ ((60 : Int) < (gv.length : Int)) := by have := h.gl; omega
  have h2 : ¬ ((20 : Int) < (rs.length : Int)) := by have := h.rl; omega
  have h3 : ¬ ((8 : Int) < ((thsOf gv rs).length : Int)) := by have := h.tl; omega
  have h4 : ¬ ((2000 : Int) < ((cntF (thsOf gv rs) rs : Nat) : Int)) := by have := h.cnt; omega
  simp [h1, h2]
  refine for_idx (fun k Γ => Γ = [some (.lst (gv.map Pn.d)), some (.lst (rs.map Ru.d)), none, none]) rfl ?_ ?_
  · rintro k d Γ hk rfl N hN
    rw [List.getElem?_map] at hk
    obtain ⟨q, hqk, rfl⟩ := Option.map_eq_some_iff.mp hk
    have hqo := h.hg q (List.mem_of_getElem? hqk)
    simp [check_fact_is hqo.1 fun p hp => h.ht p (hqo.2 p hp)]
    exact hN _ rfl
  · rintro Γ rfl
    simp
    refine for_idx (fun k Γ => Γ = [some (.lst (gv.map Pn.d)), some (.lst (rs.map Ru.d)), none, none]) rfl ?_ ?_
    · rintro k d Γ hk rfl N hN
      rw [List.getElem?_map] at hk
      obtain ⟨r, hrk, rfl⟩ := Option.map_eq_some_iff.mp hk
      simp [check_rule_is h.ht h.hn (h.hr r (List.mem_of_getElem? hrk))]
      exact hN _ rfl
    · rintro Γ rfl
      simp [h.things, h3, count_is h, h4]
      exact hR
end L2.Nf

namespace L2.Nf
open PySem PySem.Spec PyProof.Rows

/-! ### the least pair of sets that is closed -/
structure Closed (F : List Rl) (G : List D) (P N : D → Prop) : Prop where
  given : ∀ x ∈ G, P x
  fire : ∀ r ∈ F, (∀ y ∈ r.ys, P y) → (∀ y ∈ r.ns, N y) → P r.h
  out : ∀ U : D → Prop, (∀ x, U x → Stands F x ∧ x ∉ G) → (∀ r ∈ F, U r.h → (∃ y ∈ r.ys, N y ∨ U y) ∨ ∃ y ∈ r.ns, P y) → ∀ x, U x → N x
/-- a step of the story: a fact and why; or facts that are kept out -/
inductive Stp where
  | y (x : D) (k : Int)
  | n (xs : List D)
def Stp.d : Stp → D
  | .y x k => .tup [.str "yes", x, .int k]
  | .n xs => .tup [.str "no", .lst xs]
/-- how the story goes, from what was told before -/
def Tale (F : List Rl) (G : List D) : List D → List D → List Stp → List D → List D → Prop
  | Y, N, [], Y', N' => Y = Y' ∧ N = N'
  | Y, N, .y x k :: t, Y', N' => (x ∉ Y ∧ x ∉ N ∧ ((k = -1 ∧ x ∈ G) ∨ ∃ (i : Nat) (r : Rl), k = i ∧ F[i]? = some r ∧ r.h = x ∧ (∀ y ∈ r.ys, y ∈ Y) ∧ ∀ y ∈ r.ns, y ∈ N)) ∧ Tale F G (Y ++ [x]) N t Y' N'
  | Y, N, .n xs :: t, Y', N' => (Kept F Y N xs ∧ xs ≠ []) ∧ Tale F G Y (N ++ xs) t Y' N'
theorem tale_app {F : List Rl} {G : List D} : ∀ {s t : List Stp} {Y N Y1 N1 Y2 N2 : List D}, Tale F G Y N s Y1 N1 → Tale F G Y1 N1 t Y2 N2 → Tale F G Y N (s ++ t) Y2 N2
  | [], t, Y, N, Y1, N1, Y2, N2, h, h' => by obtain ⟨rfl, rfl⟩ := h; exact h'
  | .y x k :: s, t, Y, N, Y1, N1, Y2, N2, h, h' => ⟨h.1, tale_app h.2 h'⟩
  | .n xs :: s, t, Y, N, Y1, N1, Y2, N2, h, h' => ⟨h.1, tale_app h.2 h'⟩
/-- told by given facts, and by rules whose yeses were told and whose nots are kept out -/
inductive Der (F : List Rl) (G Y N : List D) : D → Prop where
  | given {x : D} (h : x ∈ G) : Der F G Y N x
  | rule {r : Rl} (hr : r ∈ F) (h1 : ∀ y ∈ r.ys, y ∈ Y) (h2 : ∀ y ∈ r.ys, Der F G Y N y) (h3 : ∀ y ∈ r.ns, y ∈ N) : Der F G Y N r.h
theorem Der.mono {F : List Rl} {G Y N Y' N' : List D} (hY : ∀ x ∈ Y, x ∈ Y') (hN : ∀ x ∈ N, x ∈ N') {x : D} (h : Der F G Y N x) : Der F G Y' N' x := by
  induction h with
  | given h => exact .given h
  | rule hr h1 _ h3 ih => exact .rule hr (fun y hy => hY y (h1 y hy)) ih fun y hy => hN y (h3 y hy)
theorem Der.free {F : List Rl} {G Y N : List D} (dis : ∀ x ∈ Y, x ∉ N) {U : D → Prop} (hG : ∀ x, U x → x ∉ G) (hU : ∀ r ∈ F, U r.h → (∃ y ∈ r.ys, y ∈ N ∨ U y) ∨ ∃ y ∈ r.ns, y ∈ Y) {x : D} (h : Der F G Y N x) : ¬ U x := by
  induction h with
  | given h => exact fun u => hG _ u h
  | @rule r hr h1 _ h3 ih =>
    intro u
    rcases hU r hr u with ⟨y, hy, h | h⟩ | ⟨y, hy, h⟩
    · exact dis y (h1 y hy) h
    · exact ih y hy h
    · exact dis y h (h3 y hy)
/-- what is true all the way -/
structure Way (F : List Rl) (G Y N : List D) : Prop where
  yd : Y.Nodup
  nd : N.Nodup
  dis : ∀ x ∈ Y, x ∉ N
  yts : ∀ x ∈ Y, isTS x = true
  nts : ∀ x ∈ N, isTS x = true
  nst : ∀ x ∈ N, Stands F x
  ysub : ∀ x ∈ Y, x ∈ G ∨ ∃ r ∈ F, r.h = x
  nblk : ∀ r ∈ F, r.h ∈ N → (∃ y ∈ r.ys, y ∈ N) ∨ ∃ y ∈ r.ns, y ∈ Y
  least : ∀ P Q : D → Prop, Closed F G P Q → (∀ x ∈ Y, P x) ∧ ∀ x ∈ N, Q x
  der : ∀ x ∈ Y, Der F G Y N x
theorem Way.addY {F : List Rl} {G Y N : List D} (w : Way F G Y N) {x : D} (hx : isTS x = true) (hn : x ∉ Y) (hn' : x ∉ N) (h : x ∈ G ∨ ∃ r ∈ F, r.h = x ∧ (∀ y ∈ r.ys, y ∈ Y) ∧ ∀ y ∈ r.ns, y ∈ N) : Way F G (Y ++ [x]) N := by
  have mem : ∀ y, y ∈ Y ++ [x] ↔ y ∈ Y ∨ y = x := fun y => by simp
  refine ⟨?_, w.nd, ?_, ?_, w.nts, w.nst, ?_, ?_, ?_, ?_⟩
  · rw [List.nodup_append]
    exact ⟨w.yd, by simp, fun a ha b hb => by simp at hb; subst hb; rintro rfl; exact hn ha⟩
  · intro y hy
    rcases (mem y).mp hy with hy | rfl
    · exact w.dis y hy
    · exact hn'
  · intro y hy
    rcases (mem y).mp hy with hy | rfl
    · exact w.yts y hy
    · exact hx
  · intro y hy
    rcases (mem y).mp hy with hy | rfl
    · exact w.ysub y hy
    · rcases h with h | ⟨r, hr, e, _⟩
      · exact .inl h
      · exact .inr ⟨r, hr, e⟩
  · intro r hr hh
    rcases w.nblk r hr hh with h | ⟨y, hy, h⟩
    · exact .inl h
    · exact .inr ⟨y, hy, (mem y).mpr (.inl h)⟩
  · intro P Q c
    obtain ⟨a, b⟩ := w.least P Q c
    refine ⟨fun y hy => ?_, b⟩
    rcases (mem y).mp hy with hy | rfl
    · exact a y hy
    · rcases h with h | ⟨r, hr, e, h1, h2⟩
      · exact c.given _ h
      · exact e ▸ c.fire r hr (fun y hy => a y (h1 y hy)) fun y hy => b y (h2 y hy)
  · intro y hy
    have up : ∀ z ∈ Y, z ∈ Y ++ [x] := fun z hz => (mem z).mpr (.inl hz)
    rcases (mem y).mp hy with hy | rfl
    · exact (w.der y hy).mono up fun _ h => h
    · rcases h with h | ⟨r, hr, e, h1, h2⟩
      · exact .given h
      · subst e
        exact .rule hr (fun y hy => up y (h1 y hy)) (fun y hy => (w.der y (h1 y hy)).mono up fun _ h => h) h2
theorem Way.addN {F : List Rl} {G Y N xs : List D} (w : Way F G Y N) (hF : ∀ r ∈ F, r.ok) (hG : ∀ x ∈ G, x ∈ Y) (k : Kept F Y N xs) : Way F G Y (N ++ xs) := by
  have dn : ∀ a ∈ N, ∀ b ∈ xs, a ≠ b := fun a ha b hb e => ((k.mem b).mp hb).2.2.1 (e ▸ ha)
  -- a rule for what is kept out is blocked
  have blk : ∀ r ∈ F, r.h ∈ xs → (∃ y ∈ r.ys, y ∈ N ∨ y ∈ xs) ∨ ∃ y ∈ r.ns, y ∈ Y := by
    intro r hr hh
    have h4 := ((k.mem _).mp hh).2.2.2
    refine Classical.byContradiction fun hc => h4 (.mk hr (fun y hy h => hc (.inr ⟨y, hy, h⟩)) (fun y hy h => hc (.inl ⟨y, hy, .inl h⟩)) fun y hy hyt => ?_)
    refine Classical.byContradiction fun ha => hc (.inl ⟨y, hy, ?_⟩)
    by_cases hn : y ∈ N
    · exact .inl hn
    · exact .inr ((k.mem y).mpr ⟨⟨r, hr, by unfold Rl.all; simp [hy]⟩, hyt, hn, ha⟩)
  refine ⟨w.yd, ?_, ?_, w.yts, ?_, ?_, w.ysub, ?_, ?_, fun x hx => (w.der x hx).mono (fun _ h => h) fun y hy => List.mem_append_left _ hy⟩
  · rw [List.nodup_append]
    exact ⟨w.nd, k.nd, dn⟩
  · intro x hx h
    rcases List.mem_append.mp h with h | h
    · exact w.dis x hx h
    · exact ((k.mem x).mp h).2.1 hx
  · intro x h
    rcases List.mem_append.mp h with h | h
    · exact w.nts x h
    · exact k.ts x h
  · intro x h
    rcases List.mem_append.mp h with h | h
    · exact w.nst x h
    · exact ((k.mem x).mp h).1
  · intro r hr hh
    rcases List.mem_append.mp hh with h | h
    · rcases w.nblk r hr h with ⟨y, hy, h2⟩ | h2
      · exact .inl ⟨y, hy, List.mem_append_left _ h2⟩
      · exact .inr h2
    · rcases blk r hr h with ⟨y, hy, h2⟩ | h2
      · exact .inl ⟨y, hy, List.mem_append.mpr h2⟩
      · exact .inr h2
  · intro P Q c
    obtain ⟨a, b⟩ := w.least P Q c
    have hx : ∀ x ∈ xs, Q x := by
      refine c.out (fun x => x ∈ xs) (fun x hx => ⟨((k.mem x).mp hx).1, fun hg => ((k.mem x).mp hx).2.1 (hG x hg)⟩) fun r hr hh => ?_
      rcases blk r hr hh with ⟨y, hy, h2⟩ | ⟨y, hy, h2⟩
      · exact .inl ⟨y, hy, h2.imp (b y) id⟩
      · exact .inr ⟨y, hy, a y h2⟩
    refine ⟨a, fun x h => ?_⟩
    rcases List.mem_append.mp h with h | h
    · exact b x h
    · exact hx x h
/-- at the end: the pair is closed, and below every closed pair -/
theorem Way.closed {F : List Rl} {G Y N : List D} (w : Way F G Y N) (hG : ∀ x ∈ G, x ∈ Y) (hf : ∀ r ∈ F, ¬ Fires Y N r) (hk : Kept F Y N []) : Closed F G (· ∈ Y) (· ∈ N) := by
  refine ⟨hG, fun r hr h1 h2 => ?_, fun U hU hb x hx => ?_⟩
  · refine Classical.byContradiction fun hn => ?_
    by_cases hh : r.h ∈ N
    · rcases w.nblk r hr hh with ⟨y, hy, h⟩ | ⟨y, hy, h⟩
      · exact w.dis y (h1 y hy) h
      · exact w.dis y h (h2 y hy)
    · exact hf r hr ⟨hn, hh, h1, h2⟩
  · have fY : ∀ y ∈ Y, ¬ U y := fun y hy => (w.der y hy).free w.dis (fun x h => (hU x h).2) hb
    have fA : ∀ y, Able F Y N y → ¬ U y := by
      intro y ha
      induction ha with
      | @mk r hr hn hy ha ih =>
        intro u
        rcases hb r hr u with ⟨y, h, h' | h'⟩ | ⟨y, h, h'⟩
        · exact hy y h h'
        · by_cases hyt : y ∈ Y
          · exact fY y hyt h'
          · exact ih y h hyt h'
        · exact hn y h h'
    refine Classical.byContradiction fun hn => ?_
    have h2 := (hk.mem x).mpr ⟨(hU x hx).1, fun h => fY x h hx, hn, fun h => fA x h hx⟩
    simp at h2
theorem chain_way {F : List Rl} {G N : List D} (hF : ∀ r ∈ F, r.ok) : ∀ {rows : List (D × Nat)} {Y : List D}, Way F G Y N → Chain F N Y rows → Way F G (Y ++ rows.map (·.1)) N ∧ Tale F G Y N (rows.map fun x => .y x.1 x.2) (Y ++ rows.map (·.1)) N
  | [], Y, w, _ => ⟨by simpa using w, by simp [Tale]⟩
  | x :: t, Y, w, h => by
    obtain ⟨⟨r, h1, h2, h3⟩, h4⟩ := h
    have hr := List.mem_of_getElem? h1
    have w' : Way F G (Y ++ [x.1]) N := by
      refine w.addY (h2 ▸ (hF r hr).h) (h2 ▸ h3.new) (h2 ▸ h3.nref) (.inr ⟨r, hr, h2, h3.ys, h3.ns⟩)
    obtain ⟨a, b⟩ := chain_way hF w' h4
    rw [List.append_assoc] at a b
    refine ⟨a, ⟨⟨h2 ▸ h3.new, h2 ▸ h3.nref, .inr ⟨x.2, r, rfl, h1, h2, h3.ys, h3.ns⟩⟩, b⟩⟩
end L2.Nf

namespace L2.Nf
open PySem PySem.Spec PyProof.Rows

/-! ### a verdict's words -/
theorem look_map {κ : Type} [DecidableEq κ] {k k' : κ} {d : D} : ∀ {es : List (κ × D)}, look (es.map fun e => if e.1 = k then (e.1, d) else e) k' = (look es k').map fun v => if k = k' then d else v
  | [] => rfl
  | (a, v) :: es => by
    have ih := look_map (k := k) (k' := k') (d := d) (es := es)
    unfold look at ih ⊢
    rw [List.map_cons, List.find?_cons, List.find?_cons]
    by_cases h1 : a = k
    · subst h1
      by_cases h2 : a = k'
      · subst h2; simp
      · simp [h2] at ih ⊢; exact ih
    · by_cases h2 : a = k'
      · subst h2
        have h1' : ¬ k = a := fun z => h1 z.symm
        simp [h1, h1']
      · simp [h1, h2] at ih ⊢; exact ih
theorem look_put {κ : Type} [DecidableEq κ] {es : List (κ × D)} {k k' : κ} {d : D} : look (putD es k d) k' = if k = k' then some d else look es k' := by
  unfold putD
  by_cases h : (es.any fun e => decide (e.1 = k)) = true
  · rw [if_pos h, look_map]
    by_cases h2 : k = k'
    · subst h2
      obtain ⟨e, he, h3⟩ := List.any_eq_true.mp h
      cases hl : look es k with
      | none =>
        unfold look at hl
        simp only [Option.map_eq_none_iff, List.find?_eq_none] at hl
        exact absurd h3 (hl e he)
      | some v => simp
    · simp [h2]
  · rw [if_neg h]
    unfold look
    rw [List.find?_append]
    by_cases h2 : k = k'
    · subst h2
      have : es.find? (fun e => decide (e.1 = k)) = none := by
        rw [List.find?_eq_none]
        intro e he hh
        exact h (List.any_eq_true.mpr ⟨e, he, hh⟩)
      simp [this]
    · cases hf : es.find? (fun e => decide (e.1 = k')) with
      | none => simp [h2]
      | some e => simp [h2]
theorem putT_is {l : List (List Key × D)} {x v : D} (hx : isTS x = true) (hl : l.length < sizeLine) : oPut (.dT l) x v = .ok (.dT (putD l (fk x) v)) := by
  show (match oKeys x with | some q => if l.length < sizeLine then Ro.ok (D.dT (putD l q v)) else .bad | none => .bad) = _
  rw [(fk_spec hx).1]
  simp [hl]
def ysOf : List Stp → List D
  | [] => []
  | .y x _ :: t => x :: ysOf t
  | .n _ :: t => ysOf t
abbrev yesS : D := .str (PySem.Str.ofString "yes")
abbrev openS : D := .str (PySem.Str.ofString "open")
abbrev noS : D := .str (PySem.Str.ofString "no")
theorem foldY {s : List Stp} : ∀ {l : List (List Key × D)}, (∀ x ∈ ysOf s, isTS x = true) → l.length + s.length < 16777216 → ∃ l', foldR stepY (.dT l) (s.map Stp.d) = .ok (.dT l') ∧ l'.length ≤ l.length + s.length ∧ ∀ x, isTS x = true → look l' (fk x) = if x ∈ ysOf s then some yesS else look l (fk x) := by
  induction s with
  | nil => intro l _ _; exact ⟨l, rfl, by simp, fun x _ => by simp [ysOf]⟩
  | cons a s ih =>
    intro l hx hl
    simp only [List.length_cons] at hl
    cases a with
    | y z k =>
      have hz := hx z (by simp [ysOf])
      have e : stepY (.dT l) (Stp.y z k).d = .ok (.dT (putD l (fk z) yesS)) := by
        unfold stepY Stp.d
        have e1 : oIx (.tup [yesS, z, .int k]) (.int 0) = .ok yesS := is_ok (by simp)
        have e2 : oEq yesS (.str "yes") = .ok (.bl true) := by rw [oEq_pl rfl rfl]; simp
        have e3 : oIx (.tup [yesS, z, .int k]) (.int 1) = .ok z := is_ok (by simp)
        show (oIx (.tup [yesS, z, .int k]) (.int 0)).bind _ = _
        rw [e1, Ro.bind_ok, e2, Ro.bind_ok]
        show (oIx (.tup [yesS, z, .int k]) (.int 1)).bind _ = _
        rw [e3, Ro.bind_ok]
        exact putT_is hz (by unfold sizeLine; omega)
      have hpl := put_len (es := l) (k := fk z) (d := yesS)
      obtain ⟨l', h1, h2, h3⟩ := ih (l := putD l (fk z) yesS) (fun x h => hx x (by simp [ysOf, h])) (by omega)
      refine ⟨l', ?_, by simp; omega, fun x hxt => ?_⟩
      · rw [List.map_cons]
        show (stepY (.dT l) (Stp.y z k).d).bind _ = _
        rw [e]; exact h1
      · rw [h3 x hxt, look_put]
        by_cases hm : x ∈ ysOf s
        · simp [ysOf, hm]
        · by_cases hxz : x = z
          · subst hxz; simp [ysOf]
          · have : ¬ fk z = fk x := fun q => hxz (fk_inj hxt hz q.symm)
            simp [ysOf, hm, hxz, this]
    | n xs =>
      have e : stepY (.dT l) (Stp.n xs).d = .ok (.dT l) := by
        unfold stepY Stp.d
        have e1 : oIx (.tup [noS, .lst xs]) (.int 0) = .ok noS := is_ok (by simp)
        have e2 : oEq noS (.str "yes") = .ok (.bl false) := by
          rw [oEq_pl rfl rfl]
          congr 2
          exact decide_eq_false (fun z => absurd (D.str.inj z) (by decide +kernel))
        show (oIx (.tup [noS, .lst xs]) (.int 0)).bind _ = _
        rw [e1, Ro.bind_ok, e2, Ro.bind_ok]
      obtain ⟨l', h1, h2, h3⟩ := ih (l := l) (fun x h => hx x (by simp [ysOf, h])) (by omega)
      refine ⟨l', ?_, by simp; omega, fun x hxt => by rw [h3 x hxt]; rfl⟩
      rw [List.map_cons]
      show (stepY (.dT l) (Stp.n xs).d).bind _ = _
      rw [e]; exact h1
theorem foldO {s : List D} : ∀ {l : List (List Key × D)}, (∀ x ∈ s, isTS x = true) → l.length + s.length < 16777216 → ∃ l', foldR stepO (.dT l) s = .ok (.dT l') ∧ ∀ x, isTS x = true → look l' (fk x) = if x ∈ s then some openS else look l (fk x) := by
  induction s with
  | nil => intro l _ _; exact ⟨l, rfl, fun x _ => by simp⟩
  | cons z s ih =>
    intro l hx hl
    simp only [List.length_cons] at hl
    have hz := hx z (by simp)
    have e : stepO (.dT l) z = .ok (.dT (putD l (fk z) openS)) := putT_is hz (by unfold sizeLine; omega)
    have hpl := put_len (es := l) (k := fk z) (d := openS)
    obtain ⟨l', h1, h3⟩ := ih (l := putD l (fk z) openS) (fun x h => hx x (by simp [h])) (by omega)
    refine ⟨l', ?_, fun x hxt => ?_⟩
    · show (stepO (.dT l) z).bind _ = _
      rw [e]; exact h1
    · rw [h3 x hxt, look_put]
      by_cases hm : x ∈ s
      · simp [hm]
      · by_cases hxz : x = z
        · subst hxz; simp
        · have : ¬ fk z = fk x := fun q => hxz (fk_inj hxt hz q.symm)
          simp [hm, hxz, this]
theorem tale_ys {F : List Rl} {G : List D} : ∀ {s : List Stp} {Y N Y' N' : List D}, Tale F G Y N s Y' N' → Y' = Y ++ ysOf s ∧ s.length + Y.length + N.length ≤ Y'.length + N'.length
  | [], Y, N, Y', N', h => by obtain ⟨rfl, rfl⟩ := h; simp [ysOf]
  | .y x k :: s, Y, N, Y', N', h => by
    obtain ⟨a, b⟩ := tale_ys h.2
    refine ⟨by rw [a]; simp [ysOf], ?_⟩
    simp only [List.length_append, List.length_cons, List.length_nil] at b ⊢
    omega
  | .n xs :: s, Y, N, Y', N', h => by
    obtain ⟨a, b⟩ := tale_ys h.2
    refine ⟨by rw [a]; rfl, ?_⟩
    have : 0 < xs.length := List.length_pos_iff.mpr h.1.2
    simp only [List.length_append, List.length_cons] at b ⊢
    omega
end L2.Nf

namespace L2.Nf
open PySem PySem.Spec PyProof.Rows

noncomputable def flF (gv : List Pn) (rs : List Ru) : List Rl := fillK (thsOf gv rs) rs rs.length
theorem fillR_all {i : Nat} {r : Ru} {g : D → D} : (fillR i r g).all.length = r.all.length := by
  unfold fillR Rl.all Ru.all; simp
theorem flF_facts {th nm : List D} {gv : List Pn} {rs : List Ru} (h : PgA th nm gv rs) : (∀ r ∈ flF gv rs, r.ok) ∧ (∀ r ∈ flF gv rs, r.all.length ≤ 100) ∧ (flF gv rs).length ≤ 10240 := by
  have hp := h.pg
  refine ⟨fillK_ok hp, fun l hl => ?_, ?_⟩
  · obtain ⟨i, r, row, _, hr, _, rfl⟩ := fillK_mem hl
    rw [fillR_all]
    have := hp.al r (List.mem_of_getElem? hr)
    omega
  · have := fillK_le hp rs.length
    have := h.rl
    unfold flF; omega
theorem pn_ts {q : Pn} (h : q.ok) : isTS q.d = true := by
  obtain ⟨x, e, _⟩ := h.w
  unfold Pn.d
  rw [e]
  simp only [isTS, List.all_eq_true]
  intro y hy
  rcases List.mem_cons.mp hy with rfl | hy
  · rfl
  · exact (h.ps y hy).isS
/-- what `decided` gives -/
structure Verd (F : List Rl) (G Y N : List D) (story : List Stp) (left : List D) (w : List (List Key × D)) : Prop where
  way : Way F G Y N
  given : ∀ x ∈ G, x ∈ Y
  tale : Tale F G [] [] story Y N
  cls : Closed F G (· ∈ Y) (· ∈ N)
  ln : left.Nodup
  ls : left.Pairwise fun a b => dLe a b = true
  lt : ∀ x ∈ left, isTS x = true
  lm : ∀ x, x ∈ left ↔ Stands F x ∧ x ∉ Y ∧ x ∉ N
  words : ∀ x, isTS x = true → look w (fk x) = if x ∈ left then some openS else if x ∈ Y then some yesS else none
theorem decided_is {th nm : List D} {gv : List Pn} {rs : List Ru} (h : PgA th nm gv rs) : ∃ Y N story left w, f_decided [.lst (gv.map Pn.d), .lst (rs.map Ru.d)] = .ok (.obj [.lst ((flF gv rs).map Rl.d), .lst (story.map Stp.d), .lst left, .dT w]) ∧ Verd (flF gv rs) (gv.map Pn.d) Y N story left w := by
  suffices hh : Is (f_decided [.lst (gv.map Pn.d), .lst (rs.map Ru.d)]) fun d => ∃ Y N story left w, d = .obj [.lst ((flF gv rs).map Rl.d), .lst (story.map Stp.d), .lst left, .dT w] ∧ Verd (flF gv rs) (gv.map Pn.d) Y N story left w by
    obtain ⟨d, e, Y, N, s, l, w, rfl, hv⟩ := is_ex hh
    exact ⟨Y, N, s, l, w, e, hv⟩
  refine run_p fun R hR => ?_
  unfold g_decided
  obtain ⟨hF, hFa, hFl⟩ := flF_facts h
  have eF : f_filled_rules [.lst (gv.map Pn.d), .lst (rs.map Ru.d)] = .ok (.lst ((flF gv rs).map Rl.d)) := filled_rules_is h.things h.pg
  have hGt : ∀ x ∈ gv.map Pn.d, isTS x = true := fun x hx => by
    obtain ⟨q, hq, rfl⟩ := List.mem_map.mp hx
    exact pn_ts (h.hg q hq).1
  have hgl : (gv.map Pn.d).length ≤ 60 := by rw [List.length_map]; exact h.gl
  obtain ⟨S, eS, hS1, hS2, hS3, hS4, hS5⟩ := standing_is hF hFa (by omega)
  simp [check_is h, eF]
  generalize flF gv rs = F at hR hF hFa hFl eS hS4 hS5
  generalize gv.map Pn.d = G at hR hGt hgl
  have yl : ∀ {Y N : List D}, Way F G Y N → Y.length ≤ 10300 := fun {Y N} w => by
    have := nodup_le (bs := G ++ F.map Rl.h) w.yd fun x hx => by
      rcases w.ysub x hx with h | ⟨r, hr, rfl⟩
      · exact List.mem_append_left _ h
      · exact List.mem_append_right _ (List.mem_map.mpr ⟨r, hr, rfl⟩)
    simp at this; omega
  have nl : ∀ {Y N : List D}, Way F G Y N → N.length ≤ S.length := fun {Y N} w => nodup_le w.nd fun x hx => (hS4 x).mpr (w.nst x hx)
  have w0 : Way F G [] [] := ⟨List.nodup_nil, List.nodup_nil, by simp, by simp, by simp, by simp, by simp, by simp, fun _ _ _ => by simp, by simp⟩
  let Γ1 : List D → List Stp → Gm := fun Y s => [none, none, some (.lst (F.map Rl.d)), some (.lst Y), some (.lst []), some (.lst (s.map Stp.d)), none, none, none, none, none]
  refine for_idx (fun k Γ => ∃ Y s, Γ = Γ1 Y s ∧ Way F G Y [] ∧ Tale F G [] [] s Y [] ∧ ∀ x ∈ G.take k, x ∈ Y) ⟨[], [], rfl, w0, ⟨rfl, rfl⟩, by simp⟩ ?_ ?_
  · rintro k x Γ hk ⟨Y, s, rfl, w, t, hg⟩ N' hN
    have hx := List.mem_of_getElem? hk
    have hxt := hGt x hx
    have tk : ∀ y, y ∈ G.take (k + 1) ↔ y ∈ G.take k ∨ y = x := fun y => by rw [List.take_add_one, hk]; simp
    have hyl := yl w
    have hsl := (tale_ys t).2
    simp at hsl
    simp [Γ1, in_ts hxt w.yts]
    by_cases hm : x ∈ Y
    · rw [if_pos hm]
      refine hN _ ⟨Y, s, rfl, w, t, fun y hy => ?_⟩
      rcases (tk y).mp hy with hy | rfl
      · exact hg y hy
      · exact hm
    · rw [if_neg hm]
      refine ⟨by unfold sizeLine; omega, by unfold sizeLine; omega, hN _ ⟨Y ++ [x], s ++ [Stp.y x (-1)], by simp [Γ1, Stp.d], w.addY hxt hm (by simp) (.inl hx), tale_app t (show Tale F G Y [] [Stp.y x (-1)] (Y ++ [x]) [] from ⟨⟨hm, by simp, .inl ⟨rfl, hx⟩⟩, rfl, rfl⟩), fun y hy => ?_⟩⟩
      rcases (tk y).mp hy with hy | rfl
      · exact List.mem_append_left _ (hg y hy)
      · simp
  · rintro Γ ⟨Y0, s0, rfl, w0, t0, hg0⟩
    rw [List.take_length] at hg0
    simp [Γ1]
    let Γ2 : List D → List D → List Stp → Bool → Gm := fun Y N s m => [none, none, some (.lst (F.map Rl.d)), some (.lst Y), some (.lst N), some (.lst (s.map Stp.d)), none, some (.bl m), none, none, none]
    refine while_rel (fun n Γ => ∃ Y N s m, Γ = Γ2 Y N s m ∧ Way F G Y N ∧ Tale F G [] [] s Y N ∧ (∀ x ∈ G, x ∈ Y) ∧ n = S.length - N.length + (if m then 1 else 0) ∧ (m = false → (∀ r ∈ F, ¬ Fires Y N r) ∧ Kept F Y N [])) ?_ (n := S.length - 0 + 1) ⟨Y0, [], s0, true, rfl, w0, t0, hg0, rfl, by simp⟩
    rintro n Γ ⟨Y, N, s, m, rfl, w, t, hg, rfl, hm⟩ N' hN
    have hyl := yl w
    have hnl := nl w
    have hsl := (tale_ys t).2
    simp only [List.length_nil, Nat.add_zero] at hsl
    cases m with
    | false =>
      obtain ⟨hf, hk⟩ := hm rfl
      have hc := w.closed hg hf hk
      simp [Γ2, eS]
      rw [comp_filter (g := fun x => decide (x ∉ Y ∧ x ∉ N)) (f := id)]
      · have lmm : ∀ x, x ∈ S.filter (fun x => decide (x ∉ Y ∧ x ∉ N)) ↔ Stands F x ∧ x ∉ Y ∧ x ∉ N := fun x => by
          rw [List.mem_filter, hS4]; simp
        have hll : (S.filter (fun x => decide (x ∉ Y ∧ x ∉ N))).length ≤ S.length := List.length_filter_le _ _
        have hlt : ∀ x ∈ S.filter (fun x => decide (x ∉ Y ∧ x ∉ N)), isTS x = true := fun x hx => hS3 x (List.mem_filter.mp hx).1
        have hln := hS1.filter (fun x => decide (x ∉ Y ∧ x ∉ N))
        have hls := hS2.filter (fun x => decide (x ∉ Y ∧ x ∉ N))
        rw [List.map_id]
        generalize S.filter (fun x => decide (x ∉ Y ∧ x ∉ N)) = L at lmm hll hlt hln hls
        have hys : Y = ysOf s := by have := (tale_ys t).1; simpa using this
        obtain ⟨l1, a1, a2, a3⟩ := foldY (s := s) (l := []) (by rw [← hys]; exact w.yts) (by simp; omega)
        obtain ⟨l2, b1, b2⟩ := foldO (s := L) (l := l1) hlt (by simp at a2; omega)
        have ev : oVer [.lst (F.map Rl.d), .lst (s.map Stp.d), .lst L] = .ok (.obj [.lst (F.map Rl.d), .lst (s.map Stp.d), .lst L, .dT l2]) := by
          show noX ((Ro.ok (s.map Stp.d)).bind fun ss => (foldR stepY (.dT []) ss).bind fun e1 => (Ro.ok L).bind fun ls => (foldR stepO e1 ls).bind fun e2 => .ok (D.obj [.lst (F.map Rl.d), .lst (s.map Stp.d), .lst L, e2])) = _
          simp only [Ro.bind_ok, a1, b1]
          rfl
        simp only [w_ok]
        rw [ev]
        refine hR _ ⟨Y, N, s, L, l2, rfl, w, hg, t, hc, hln, hls, hlt, lmm, fun x hx => ?_⟩
        rw [b2 x hx, a3 x hx, ← hys]
        rfl
      · intro d hd
        refine is_ok ?_
        have hdt := hS3 d hd
        simp [in_ts hdt w.yts, in_ts hdt w.nts]
        by_cases c1 : d ∈ Y <;> by_cases c2 : d ∈ N <;> simp [c1, c2]
      · intro d hd _
        refine is_ok ?_
        simp
    | true =>
      obtain ⟨rows, er, hch, hrl, hnf⟩ := entered_is (rs := F) (told := Y) (ref := N) hF w.yts w.nts (by omega) (by omega)
      obtain ⟨w1, t1⟩ := chain_way hF w hch
      have hyl1 := yl w1
      have ta := tale_app t t1
      have hsl1 := (tale_ys ta).2
      simp only [List.length_nil, Nat.add_zero] at hsl1
      simp [Γ2]
      rw [er]
      simp only [w_ok, w_itL]
      refine for_idx (fun k Γ => Γ = [none, none, some (.lst (F.map Rl.d)), some (.lst (Y ++ (rows.take k).map (·.1))), some (.lst N), some (.lst ((s ++ (rows.take k).map fun x => Stp.y x.1 x.2).map Stp.d)), none, none, none, none, none]) (by simp) ?_ ?_
      · rintro k d Γ hk rfl N'' hN''
        rw [List.getElem?_map] at hk
        obtain ⟨x, hx, rfl⟩ := Option.map_eq_some_iff.mp hk
        have hkl := (List.getElem?_eq_some_iff.mp hx).1
        have e1 : Y ++ (rows.take (k + 1)).map (·.1) = Y ++ (rows.take k).map (·.1) ++ [x.1] := by rw [List.take_add_one, hx]; simp
        have e2 : (s ++ (rows.take (k + 1)).map fun x => Stp.y x.1 x.2).map Stp.d = (s ++ (rows.take k).map fun x => Stp.y x.1 x.2).map Stp.d ++ [(Stp.y x.1 x.2).d] := by rw [List.take_add_one, hx]; simp
        have hn := hN'' [none, none, some (.lst (F.map Rl.d)), some (.lst (Y ++ (rows.take (k + 1)).map (·.1))), some (.lst N), some (.lst ((s ++ (rows.take (k + 1)).map fun x => Stp.y x.1 x.2).map Stp.d)), none, none, some (rowD x), none, none] rfl
        rw [e1, e2] at hn
        have l1 : (Y ++ (rows.take k).map (·.1)).length < sizeLine := by simp; unfold sizeLine; omega
        have l2 : ((s ++ (rows.take k).map fun x => Stp.y x.1 x.2).map Stp.d).length < sizeLine := by simp; unfold sizeLine; omega
        generalize Y ++ (rows.take k).map (·.1) = A at hn l1
        generalize (s ++ (rows.take k).map fun x => Stp.y x.1 x.2).map Stp.d = B at hn l2
        simp [rowD]
        exact ⟨l1, l2, hn⟩
      · rintro Γ rfl
        simp only [List.length_map, List.take_length]
        generalize hY1 : Y ++ rows.map (·.1) = Y1 at w1 ta hyl1 hsl1 hnf
        generalize hs1 : (s ++ rows.map fun x => Stp.y x.1 x.2) = s1 at ta hsl1
        obtain ⟨out, eo, ho, hol⟩ := kept_out_is (rs := F) (told := Y1) (ref := N) hF hFa w1.yts w1.nts (by omega) (by omega) (by omega)
        have hg1 : ∀ x ∈ G, x ∈ Y1 := fun x hx => by rw [← hY1]; exact List.mem_append_left _ (hg x hx)
        have w2 := w1.addN hF hg1 ho
        have hnl2 := nl w2
        rw [List.length_append] at hnl2
        simp [eo]
        by_cases hz : out = []
        · subst hz
          simp
          refine ⟨by unfold sizeLine; omega, hN _ _ ?_ ⟨Y1, N, s1, false, rfl, w1, ta, hg1, rfl, fun _ => ⟨hnf, ho⟩⟩⟩
          simp
        · have hpos : 0 < out.length := List.length_pos_iff.mpr hz
          have hpi : (0 : Int) < out.length := by omega
          simp [hz, hpos]
          refine ⟨by unfold sizeLine; omega, by unfold sizeLine; omega, hN _ _ ?_ ⟨Y1, N ++ out, s1 ++ [Stp.n out], true, by simp [Γ2, Stp.d], w2, tale_app ta (show Tale F G Y1 N [Stp.n out] Y1 (N ++ out) from ⟨⟨ho, hz⟩, rfl, rfl⟩), hg1, rfl, by simp⟩⟩
          simp; omega
end L2.Nf

namespace L2.Nf
open PySem PySem.Spec PyProof.Rows

/-! ### words of one cell differ -/
def Mark (A : Str) (c k : Int) (w : Str) : Prop :=
  if c.fmod 4 = 1 then w.cps.toList[((c.fdiv 26).fmod 8).toNat]? = A.cps.toList[((c + k).fmod 26).toNat]?
  else if c.fmod 4 = 2 then w.length = (1 + k).toNat
  else w.cps.toList[0]? = A.cps.toList[((c + k).fmod 26).toNat]?
theorem ixM {A : Str} {n m : Int} (hA : (A.length : Int) = n) (hn : 0 < n) : ∃ c, c ∈ A.cps.toList ∧ A.cps.toList[(m.fmod n).toNat]? = some c ∧ oIx (.str A) (.int (m.fmod n)) = .ok (.str ⟨#[c]⟩) := by
  obtain ⟨h1, h2⟩ := fmod_pos (a := m) hn
  obtain ⟨c, hc, hm, hg⟩ := atI_in (xs := A.cps.toList) h1 (by rw [← len_eq]; omega)
  exact ⟨c, hm, hg, by unfold oIx oIxS; simp only [isDict, Bool.false_eq_true, if_false]; rw [hc]⟩
theorem word_mk {c k : Int} (hk : 0 ≤ k) (hk' : k ≤ 7) : ∃ w, f__law_word_by [.int c, .int k] = .ok (.str w) ∧ Mark lets c k w := by
  have hA : lets.length = 26 := lets_len
  suffices h : Is (f__law_word_by [.int c, .int k]) fun d => ∃ w, d = .str w ∧ Mark lets c k w by
    obtain ⟨d, e, w, rfl, h⟩ := is_ex h
    exact ⟨w, e, h⟩
  refine run_of ?_
  unfold g__law_word_by
  unfold lets at hA ⊢
  generalize PySem.Str.ofString "abcdefghijklmnopqrstuvwxyz" = A at hA ⊢
  have hAi : (A.length : Int) = 26 := by omega
  simp only [w_seq, w_set, w_eC, gm0, List.map_cons, List.map_nil, List.length_cons, List.length_nil, List.set_cons_succ, List.set_cons_zero, List.cons_append, List.nil_append, List.replicate_succ, List.replicate_zero, Nat.reduceSub, Nat.reduceAdd, Nat.zero_add]
  refine base_is (A := A) (n := 8) (by omega) (fun i hi => ?_) fun base hb hbi => ?_
  · obtain ⟨s, hs, hg, e⟩ := ixM (A := A) (n := 26) (m := c.fdiv 208 + 5 * i) hAi (by omega)
    refine ⟨s, hs, is_ok ?_⟩
    simp [e]
  · have h8 := fmod_pos (a := c.fdiv 26) (n := 8) (by omega)
    simp
    by_cases h1 : c.fmod 4 = 1
    · simp only [h1, if_true]
      have h5 := fmod_pos (a := c.fdiv 5) (n := 8 - (c.fdiv 26).fmod 8) (by omega)
      obtain ⟨s, hs, hg, e⟩ := ixM (A := A) (n := 26) (m := c + k) hAi (by omega)
      rw [e]
      simp only [w_ok, w_addS]
      have l1 : (cutS base none (some ((c.fdiv 26).fmod 8))).length = ((c.fdiv 26).fmod 8).toNat := by
        rw [cutS_len, sIx_pos h8.1, hb]
        simp only [HT.sIx_none]; omega
      have l2 : (cutS base (some ((c.fdiv 26).fmod 8)) (some ((c.fdiv 26).fmod 8 + (c.fdiv 5).fmod (8 - (c.fdiv 26).fmod 8)))).length = ((c.fdiv 5).fmod (8 - (c.fdiv 26).fmod 8)).toNat := by
        rw [cutS_len, sIx_pos h8.1, sIx_pos (by omega), hb]
        omega
      refine ⟨by omega, ?_, ?_, _, rfl, ?_⟩
      · rw [l1, one_len]; unfold sizeLine; omega
      · rw [len_app, l1, l2, one_len]; unfold sizeLine; omega
      · unfold Mark
        rw [if_pos h1, hg, cps_app, cps_app, ← l1, len_eq]
        simp
    · simp only [h1, if_false]
      by_cases h2 : c.fmod 4 = 2
      · simp only [h2, if_true]
        have l1 : (cutS base none (some (1 + k))).length = (1 + k).toNat := by
          rw [cutS_len, sIx_pos (by omega), hb]
          simp only [HT.sIx_none]; omega
        unfold Mark
        rw [if_neg h1, if_pos h2, l1]
      · simp only [h2, if_false]
        obtain ⟨s, hs, hg, e⟩ := ixM (A := A) (n := 26) (m := c + k) hAi (by omega)
        rw [e]
        have hr := fmod_pos (a := c.fdiv 26 + 3 * k) (n := 8) (by omega)
        simp only [w_ok]
        refine ⟨by omega, by omega, ?_⟩
        refine for_wp (fun ds Γ => ∃ w, Γ = [some (.int c), some (.int k), some (.str A), none, none, none, none, some (.str w)] ∧ w.length + ds.length ≤ 8 ∧ w.cps.toList[0]? = some s ∧ ∀ d ∈ ds, ∃ i : Int, d = .int i) ?_ ?_ ?_
        · refine ⟨_, rfl, ?_, rfl, ?_⟩
          · rw [one_len]; simp [rngD]; omega
          · intro d hd
            unfold rngD at hd
            obtain ⟨i, _, rfl⟩ := List.mem_map.mp hd
            exact ⟨_, rfl⟩
        · rintro d ds Γ ⟨w, rfl, hw1, hw2, hd⟩
          obtain ⟨i, rfl⟩ := hd d (by simp)
          obtain ⟨s', hs', _, e⟩ := ixM (A := A) (n := 26) (m := c.fdiv 208 + 5 * i + k) hAi (by omega)
          simp [e]
          simp at hw1
          refine ⟨?_, ?_, ?_, fun d hd' => hd d (by simp [hd'])⟩
          · rw [one_len]; unfold sizeLine; omega
          · rw [len_app, one_len]; omega
          · have := cps_app w ⟨#[s']⟩
            rw [← Array.getElem?_toList, this, List.getElem?_append_left (by have := (List.getElem?_eq_some_iff.mp hw2).1; exact this)]
            exact hw2
        · rintro Γ ⟨w, rfl, hw1, hw2, _⟩
          simp only [w_ret, w_eV, List.getElem?_cons_zero, List.getElem?_cons_succ]
          refine ⟨w, rfl, ?_⟩
          unfold Mark
          rw [if_neg h1, if_neg h2, hw2, hg]

theorem lets_nd : lets.cps.toList.Nodup := by decide +kernel
theorem nodup_get {α : Type} {l : List α} (hn : l.Nodup) {i j : Nat} (hi : i < l.length) (h : l[i]? = l[j]?) : i = j := by
  induction l generalizing i j with
  | nil => simp at hi
  | cons a l ih =>
    rw [List.nodup_cons] at hn
    cases i with
    | zero =>
      cases j with
      | zero => rfl
      | succ j =>
        simp at h
        exact absurd (List.mem_of_getElem? h.symm) hn.1
    | succ i =>
      cases j with
      | zero =>
        simp at h
        exact absurd (List.mem_of_getElem? h) hn.1
      | succ j =>
        have := ih hn.2 (i := i) (j := j) (by simpa using hi) (by simpa using h)
        omega
theorem mark_ne {c : Int} {v w : Str} (h0 : Mark lets c 0 v) (h1 : Mark lets c 1 w) : v ≠ w := by
  rintro rfl
  unfold Mark at h0 h1
  have l26 : lets.cps.toList.length = 26 := by rw [← len_eq]; exact lets_len
  have key : ¬ lets.cps.toList[((c + 0).fmod 26).toNat]? = lets.cps.toList[((c + 1).fmod 26).toNat]? := by
    intro h
    have b0 := fmod_pos (a := c + 0) (n := 26) (by omega)
    have b1 := fmod_pos (a := c + 1) (n := 26) (by omega)
    have := nodup_get lets_nd (by rw [l26]; omega) h
    have f0 : (c + 0).fmod 26 = (c + 0) % 26 := Int.fmod_eq_emod_of_nonneg _ (by omega)
    have f1 : (c + 1).fmod 26 = (c + 1) % 26 := Int.fmod_eq_emod_of_nonneg _ (by omega)
    omega
  split at h0
  · rename_i h
    rw [if_pos h] at h1
    exact key (h0.symm.trans h1)
  · rename_i h
    rw [if_neg h] at h1
    split at h0
    · rename_i h'
      rw [if_pos h'] at h1
      omega
    · rename_i h'
      rw [if_neg h'] at h1
      exact key (h0.symm.trans h1)
end L2.Nf

namespace L2.Nf
open PySem PySem.Spec PyProof.Rows

/-! ### games -/
def mvD (m : D × D) : D := .tup [m.1, m.2]
noncomputable def goalsOf (M : List (D × D)) (p : D) : List D := (M.filter fun m => decide (m.1 = p)).map (·.2)
theorem goals_mem {M : List (D × D)} {p b : D} : b ∈ goalsOf M p ↔ (p, b) ∈ M := by
  unfold goalsOf
  rw [List.mem_map]
  constructor
  · rintro ⟨⟨a, c⟩, h, rfl⟩
    obtain ⟨h1, h2⟩ := List.mem_filter.mp h
    have : a = p := by simpa using h2
    exact this ▸ h1
  · intro h
    exact ⟨(p, b), List.mem_filter.mpr ⟨h, by simp⟩, rfl⟩
structure GameC (P : List D) (M : List (D × D)) (w : D → Prop) (l : D → Prop) : Prop where
  win : ∀ p ∈ P, (∃ b, (p, b) ∈ M ∧ l b) → w p
  los : ∀ p ∈ P, (∀ b, (p, b) ∈ M → w b) → l p
theorem comp_goals {i : Nat} {t : TDen} {e : EDen} {Γ : Gm} {M : List (D × D)} {p : D} (ht : ∀ m ∈ M, t (Γ.set i (some (mvD m))) = .ok (decide (m.1 = p))) (he : ∀ m ∈ M, e (Γ.set i (some (mvD m))) = .ok m.2) : compD i t e Γ (M.map mvD) = .ok (goalsOf M p) := by
  unfold goalsOf
  induction M with
  | nil => rfl
  | cons m M ih =>
    have ih := ih (fun x hx => ht x (by simp [hx])) (fun x hx => he x (by simp [hx]))
    rw [List.map_cons]
    unfold compD
    rw [ht m (by simp), Ro.bind_ok]
    by_cases h : m.1 = p
    · rw [decide_eq_true h, if_pos rfl, he m (by simp), ih, List.filter_cons_of_pos (by simpa using h)]; rfl
    · rw [decide_eq_false h, if_neg (by simp), ih, List.filter_cons_of_neg (by simpa using h)]
theorem comp_in {i : Nat} {t : TDen} {e : EDen} {Γ : Gm} {g : D → Bool} {ds : List D} (ht : ∀ d ∈ ds, t (Γ.set i (some d)) = .ok (g d)) (he : ∀ d ∈ ds, e (Γ.set i (some d)) = .ok d) : compD i t e Γ ds = .ok (ds.filter g) := by
  rw [comp_filter (g := g) (f := id) ht fun d hd _ => he d hd, List.map_id]
theorem nonnil {ds : List D} {g : D → Bool} : ds.filter g = [] ↔ ∀ d ∈ ds, g d = false := by
  rw [List.filter_eq_nil_iff]
  exact ⟨fun h d hd => by simpa using h d hd, fun h d hd => by simp [h d hd]⟩
theorem told_is {P : List D} {M : List (D × D)} {w l : D → Prop} (hP : ∀ p ∈ P, isS p = true) (hM : ∀ m ∈ M, isS m.1 = true ∧ isS m.2 = true) (hc : GameC P M w l) (dis : ∀ p, w p → ¬ l p) (hl : P.length ≤ 1000) (args : List D) (ha : args = [.lst P, .lst (M.map mvD)]) : ∃ W L, f__law_told args = .ok (.tup [.lst W, .lst L]) ∧ (∀ p ∈ W, p ∈ P ∧ w p) ∧ (∀ p ∈ L, p ∈ P ∧ l p) ∧ GameC P M (· ∈ W) (· ∈ L) := by
  suffices h : Is (f__law_told args) fun d => ∃ W L, d = .tup [.lst W, .lst L] ∧ (∀ p ∈ W, p ∈ P ∧ w p) ∧ (∀ p ∈ L, p ∈ P ∧ l p) ∧ GameC P M (· ∈ W) (· ∈ L) by
    have h2 := is_ex h
    obtain ⟨d, e, W, L, hd, h⟩ := h2
    subst hd
    exact ⟨W, L, e, h⟩
  refine run_p fun R hR => ?_
  unfold g__law_told
  subst ha
  simp
  refine ⟨by omega, by omega, ?_⟩
  let G : List D → List D → Gm := fun W L => [some (.lst P), some (.lst (M.map mvD)), some (.lst W), some (.lst L), none, none, none, none, none]
  let J : List D → List D → Prop := fun W L => W.Nodup ∧ L.Nodup ∧ (∀ p ∈ W, p ∈ P ∧ w p) ∧ ∀ p ∈ L, p ∈ P ∧ l p
  have jl : ∀ {W L}, J W L → W.length + L.length ≤ P.length := by
    rintro W L ⟨h1, h2, h3, h4⟩
    have := nodup_le (as := W ++ L) (bs := P) (by
      rw [List.nodup_append]
      exact ⟨h1, h2, fun a ha b hb e => dis a (h3 a ha).2 (e ▸ (h4 b hb).2)⟩) fun x hx => by
        rcases List.mem_append.mp hx with h | h
        · exact (h3 x h).1
        · exact (h4 x h).1
    simpa using this
  have sS : ∀ {W : List D} {q : D → Prop}, (∀ p ∈ W, p ∈ P ∧ q p) → ∀ p ∈ W, p.pl 8 = true := fun h p hp => pl_le (by decide) (isS_pl (hP p (h p hp).1))
  refine for_rng (fun k Γ => ∃ W L, Γ = G W L ∧ J W L ∧ (GameC P M (· ∈ W) (· ∈ L) ∨ k ≤ W.length + L.length)) ⟨[], [], rfl, ⟨List.nodup_nil, List.nodup_nil, by simp, by simp⟩, .inr (by simp)⟩ ?_ ?_
  · rintro k Γ hk ⟨W, L, rfl, hJ, hS⟩ N hN
    simp [G]
    refine for_idx (fun j Γ => ∃ W' L', Γ = G W' L' ∧ J W' L' ∧ ((W' = W ∧ L' = L ∧ ∀ i p, i < j → P[i]? = some p → ((∃ b, (p, b) ∈ M ∧ b ∈ L) → p ∈ W) ∧ ((∀ b, (p, b) ∈ M → b ∈ W) → p ∈ L)) ∨ (W.length + L.length < W'.length + L'.length ∧ ¬ GameC P M (· ∈ W) (· ∈ L)))) ⟨W, L, rfl, hJ, .inl ⟨rfl, rfl, fun i p h => absurd h (Nat.not_lt_zero _)⟩⟩ ?_ ?_
    · rintro j p Γ hj ⟨W1, L1, rfl, hJ1, hC⟩ N' hN'
      have hpP := List.mem_of_getElem? hj
      have hps := hP p hpP
      have hpp := pl_le (m := 8) (by decide) (isS_pl hps)
      have hgl := jl hJ1
      obtain ⟨j1, j2, j3, j4⟩ := hJ1
      have gS : ∀ b ∈ goalsOf M p, b.pl 8 = true := fun b hb => pl_le (by decide) (isS_pl (hM _ (goals_mem.mp hb)).2)
      refine set_seq (.lst (goalsOf M p)) ?_ ?_
      · simp only [w_eLc, w_lE, w_eV, G, List.set_cons_succ, List.set_cons_zero, List.getElem?_cons_zero, List.getElem?_cons_succ, w_itL]
        rw [comp_goals (p := p)]
        · rfl
        · intro m hm
          refine is_ok ?_
          have := oEq_pl (d := m.1) (e := p) (pl_le (by decide) (isS_pl (hM m hm).1)) hpp
          simp [mvD, this]
        · intro m hm
          refine is_ok ?_
          simp [mvD]
      have gp0 : ∀ (q : D → Bool), (D.lst ((goalsOf M p).filter q)).pl 8 = true := fun q => pl_le (n := 1) (by decide) (pl_lst fun b hb => isS_pl (hM _ (goals_mem.mp (List.mem_filter.mp hb).1)).2)
      have nilp : (D.lst []).pl 8 = true := rfl
      have dlst : ∀ (l : List D), decide (D.lst l = D.lst []) = decide (l = []) := fun l => decide_eq_decide.mpr ⟨fun e => by cases e; rfl, fun e => by rw [e]⟩
      simp only [G, List.set_cons_succ, List.set_cons_zero]
      refine seq_wp (fun Γ => ∃ W2, Γ = [some (.lst P), some (.lst (M.map mvD)), some (.lst W2), some (.lst L1), none, some p, some (.lst (goalsOf M p)), none, none] ∧ ((W2 = W1 ∧ ((∃ b, (p, b) ∈ M ∧ b ∈ L1) → p ∈ W1)) ∨ (W2 = W1 ++ [p] ∧ p ∉ W1 ∧ ∃ b, (p, b) ∈ M ∧ b ∈ L1))) ?_ ?_
      · intro N2 hN2
        have ec : compD 8 (tE (e2 oIn (eV 8) (eV 3))) (eV 8) [some (.lst P), some (.lst (M.map mvD)), some (.lst W1), some (.lst L1), none, some p, some (.lst (goalsOf M p)), none, none] (goalsOf M p) = .ok ((goalsOf M p).filter fun b => decide (b ∈ L1)) := by
          refine comp_in (fun d hd => is_ok ?_) fun d hd => is_ok ?_
          · simp [in_pl (gS d hd) (sS j4)]
          · simp
        have en := oNe_pl (gp0 fun b => decide (b ∈ L1)) nilp
        rw [dlst] at en
        simp only [w_if, w_tAnd, w_tE, w_e2, w_eN, w_aN, w_eLc, w_lE, w_eV, w_itL, w_lstN, noX_is, List.getElem?_cons_zero, List.getElem?_cons_succ, ec, w_ok, en, w_notIn, in_pl hpp (sS j3)]
        by_cases c1 : (goalsOf M p).filter (fun b => decide (b ∈ L1)) = []
        · simp [c1]
          refine hN2 _ ⟨W1, rfl, .inl ⟨rfl, fun ⟨b, h1, h2⟩ => ?_⟩⟩
          have := nonnil.mp c1 b (goals_mem.mpr h1)
          simp [h2] at this
        · have ex : ∃ b, (p, b) ∈ M ∧ b ∈ L1 := by
            obtain ⟨b, hb⟩ := List.exists_mem_of_ne_nil _ c1
            obtain ⟨h1, h2⟩ := List.mem_filter.mp hb
            exact ⟨b, goals_mem.mp h1, by simpa using h2⟩
          by_cases c2 : p ∈ W1
          · simp [c1, c2]
            exact hN2 _ ⟨W1, rfl, .inl ⟨rfl, fun _ => c2⟩⟩
          · simp [c1, c2]
            exact ⟨by unfold sizeLine; omega, hN2 _ ⟨W1 ++ [p], rfl, .inr ⟨rfl, c2, ex⟩⟩⟩
      · rintro Γ ⟨W2, rfl, hW⟩
        have hJ2 : J W2 L1 := by
          rcases hW with ⟨rfl, _⟩ | ⟨rfl, h1, h2⟩
          · exact ⟨j1, j2, j3, j4⟩
          · refine ⟨?_, j2, ?_, j4⟩
            · rw [List.nodup_append]
              exact ⟨j1, by simp, fun a ha b hb => by simp at hb; subst hb; rintro rfl; exact h1 ha⟩
            · intro q hq
              rcases List.mem_append.mp hq with hq | hq
              · exact j3 q hq
              · rw [List.mem_singleton.mp hq]
                obtain ⟨b, h3, h4⟩ := h2
                exact ⟨hpP, hc.win p hpP ⟨b, h3, (j4 b h4).2⟩⟩
        have hg2 := jl hJ2
        have ec : compD 8 (tE (e2 oNotIn (eV 8) (eV 2))) (eV 8) [some (.lst P), some (.lst (M.map mvD)), some (.lst W2), some (.lst L1), none, some p, some (.lst (goalsOf M p)), none, none] (goalsOf M p) = .ok ((goalsOf M p).filter fun b => !decide (b ∈ W2)) := by
          refine comp_in (fun d hd => is_ok ?_) fun d hd => is_ok ?_
          · simp [in_pl (gS d hd) (sS hJ2.2.2.1)]
          · simp
        have en := oEq_pl (gp0 fun b => !decide (b ∈ W2)) nilp
        rw [dlst] at en
        -- what the pass at this place did
        have done : ∀ L2, J W2 L2 → ((L2 = L1 ∧ ((∀ b, (p, b) ∈ M → b ∈ W2) → p ∈ L1)) ∨ (L2 = L1 ++ [p] ∧ p ∉ L1 ∧ ∀ b, (p, b) ∈ M → b ∈ W2)) → N' [some (.lst P), some (.lst (M.map mvD)), some (.lst W2), some (.lst L2), none, some p, some (.lst (goalsOf M p)), none, none] := by
          intro L2 hJ3 hL
          refine hN' _ ⟨W2, L2, rfl, hJ3, ?_⟩
          rcases hC with ⟨rfl, rfl, hC⟩ | ⟨hC, hC2⟩
          · rcases hW with ⟨rfl, h1⟩ | ⟨rfl, h1, h2⟩
            · rcases hL with ⟨rfl, h3⟩ | ⟨rfl, h3, h4⟩
              · refine .inl ⟨rfl, rfl, fun i q hi hq => ?_⟩
                rcases Nat.lt_succ_iff_lt_or_eq.mp hi with hi | rfl
                · exact hC i q hi hq
                · rw [hj] at hq; cases hq; exact ⟨h1, h3⟩
              · exact .inr ⟨by simp, fun hs => h3 (hs.los p hpP h4)⟩
            · refine .inr ⟨?_, fun hs => h1 (hs.win p hpP h2)⟩
              rcases hL with ⟨rfl, _⟩ | ⟨rfl, _⟩ <;> (try simp only [List.length_append, List.length_cons, List.length_nil]) <;> omega
          · refine .inr ⟨?_, hC2⟩
            rcases hW with ⟨rfl, _⟩ | ⟨rfl, _⟩ <;> rcases hL with ⟨rfl, _⟩ | ⟨rfl, _⟩ <;> (try simp only [List.length_append, List.length_cons, List.length_nil]) <;> omega
        simp only [w_if, w_tAnd, w_tE, w_e2, w_eN, w_aN, w_eLc, w_lE, w_eV, w_itL, w_lstN, noX_is, List.getElem?_cons_zero, List.getElem?_cons_succ, ec, w_ok, en, w_notIn, in_pl hpp (sS j4)]
        by_cases c1 : (goalsOf M p).filter (fun b => !decide (b ∈ W2)) = []
        · have al : ∀ b, (p, b) ∈ M → b ∈ W2 := fun b h => by
            have := nonnil.mp c1 b (goals_mem.mpr h)
            simpa using this
          by_cases c2 : p ∈ L1
          · simp [c1, c2]
            exact done L1 hJ2 (.inl ⟨rfl, fun _ => c2⟩)
          · simp [c1, c2]
            refine ⟨by unfold sizeLine; omega, done (L1 ++ [p]) ⟨hJ2.1, ?_, hJ2.2.2.1, ?_⟩ (.inr ⟨rfl, c2, al⟩)⟩
            · rw [List.nodup_append]
              exact ⟨j2, by simp, fun a ha b hb => by simp at hb; subst hb; rintro rfl; exact c2 ha⟩
            · intro q hq
              rcases List.mem_append.mp hq with hq | hq
              · exact j4 q hq
              · rw [List.mem_singleton.mp hq]
                exact ⟨hpP, hc.los p hpP fun b hb => (hJ2.2.2.1 b (al b hb)).2⟩
        · simp [c1]
          refine done L1 hJ2 (.inl ⟨rfl, fun al => absurd (nonnil.mpr fun b hb => ?_) c1⟩)
          simp [al b (goals_mem.mp hb)]
    · rintro Γ ⟨W', L', rfl, hJ', hC⟩
      refine hN _ ⟨W', L', rfl, hJ', ?_⟩
      rcases hC with ⟨rfl, rfl, hC⟩ | ⟨hC, hC2⟩
      · exact .inl ⟨fun p hp h => (by
          obtain ⟨i, hi⟩ := List.mem_iff_getElem?.mp hp
          exact (hC i p (List.getElem?_eq_some_iff.mp hi).1 hi).1 h), fun p hp h => (by
          obtain ⟨i, hi⟩ := List.mem_iff_getElem?.mp hp
          exact (hC i p (List.getElem?_eq_some_iff.mp hi).1 hi).2 h)⟩
      · rcases hS with hS | hS
        · exact absurd hS hC2
        · exact .inr (by omega)
  · rintro Γ ⟨W, L, rfl, hJ, hS⟩
    have := jl hJ
    have hS : GameC P M (· ∈ W) (· ∈ L) := by
      rcases hS with hS | hS
      · exact hS
      · exfalso
        omega
    simp [G]
    exact hR _ ⟨W, L, rfl, hJ.2.2.1, hJ.2.2.2, hS⟩
end L2.Nf

namespace L2.Nf
open PySem PySem.Spec PyProof.Rows

theorem things_has : ∀ {qs : List Pn} {acc : List D} {x : D}, (x ∈ acc ∨ (sl x = false ∧ ∃ q ∈ qs, x ∈ q.ps)) → x ∈ qs.foldl thF acc
  | [], acc, x, h => by
    rcases h with h | ⟨_, q, hq, _⟩
    · exact h
    · simp at hq
  | q :: qs, acc, x, h => by
    have h1 : ∀ (ps acc : List D), (x ∈ acc ∨ (sl x = false ∧ x ∈ ps)) → x ∈ ps.foldl addT acc := by
      intro ps
      induction ps with
      | nil =>
        intro acc h
        rcases h with h | ⟨_, h⟩
        · exact h
        · simp at h
      | cons p ps ih =>
        intro acc h
        refine ih _ ?_
        unfold addT
        rcases h with h | ⟨hs, h⟩
        · split
          · exact .inl (by simp [h])
          · exact .inl h
        · rcases List.mem_cons.mp h with rfl | h
          · by_cases hm : x ∈ acc
            · rw [if_neg (fun z => z.2 hm)]; exact .inl hm
            · rw [if_pos ⟨hs, hm⟩]; exact .inl (by simp)
          · exact .inr ⟨hs, h⟩
    refine things_has (qs := qs) ?_
    rcases h with h | ⟨hs, q', hq', hx⟩
    · exact .inl (h1 _ _ (.inl h))
    · rcases List.mem_cons.mp hq' with rfl | hq'
      · exact .inl (h1 _ _ (.inr ⟨hs, hx⟩))
      · exact .inr ⟨hs, q', hq', hx⟩
def gmG (w0 : D) (M : List (D × D)) : List Pn := M.map fun m => ⟨w0, [m.1, m.2]⟩
def gmR (w0 w1 n0 n1 : D) : Ru := ⟨⟨w1, [n0]⟩, [⟨w0, [n0, n1]⟩], [⟨w1, [n1]⟩]⟩
def gmL (w0 w1 a b : D) : Rl := ⟨0, .tup [w1, a], [.tup [w0, a, b]], [.tup [w1, b]]⟩
structure GmOk (w0 w1 n0 n1 : D) (P : List D) (M : List (D × D)) : Prop where
  h0 : isWd w0
  h1 : isWd w1
  s0 : isSl n0
  s1 : isSl n1
  ne : n0 ≠ n1
  th : ∀ p ∈ P, isTh p
  pl : P.length ≤ 7
  mv : ∀ m ∈ M, m.1 ∈ P ∧ m.2 ∈ P
  ml : M.length ≤ 60
theorem gm_pga {w0 w1 n0 n1 : D} {P : List D} {M : List (D × D)} (h : GmOk w0 w1 n0 n1 P M) : PgA P [n0, n1] (gmG w0 M) [gmR w0 w1 n0 n1] := by
  have ht := h.th
  have hn : ∀ p ∈ [n0, n1], isSl p := by
    intro p hp
    simp at hp
    rcases hp with rfl | rfl
    · exact h.s0
    · exact h.s1
  have hg : ∀ q ∈ gmG w0 M, Over P q := by
    intro q hq
    obtain ⟨m, hm, rfl⟩ := List.mem_map.mp hq
    have := h.mv m hm
    refine ⟨⟨h.h0, fun p hp => ?_, by simp⟩, fun p hp => ?_⟩
    · simp at hp
      rcases hp with rfl | rfl
      · exact .inl (ht _ this.1)
      · exact .inl (ht _ this.2)
    · simp at hp
      rcases hp with rfl | rfl
      · exact this.1
      · exact this.2
  have hr : ∀ r ∈ [gmR w0 w1 n0 n1], r.ok P [n0, n1] := by
    intro r hr
    rw [List.mem_singleton.mp hr]
    have o : ∀ w ps, isWd w → (∀ p ∈ ps, p = n0 ∨ p = n1) → ps.length ≤ 3 → Over (P ++ [n0, n1].take 2) ⟨w, ps⟩ := fun w ps hw hp hl => ⟨⟨hw, fun p h' => by
      rcases hp p h' with rfl | rfl
      · exact .inr h.s0
      · exact .inr h.s1, hl⟩, fun p h' => by
      rcases hp p h' with rfl | rfl <;> simp⟩
    refine ⟨⟨2, by omega, o _ _ h.h1 (by simp) (by simp), fun q hq => ?_, fun q hq => ?_, fun s hs => ⟨⟨w0, [n0, n1]⟩, by simp [gmR], by simpa using hs⟩⟩, by simp [gmR]⟩
    · rw [show q = ⟨w0, [n0, n1]⟩ from by simpa [gmR] using hq]
      exact o _ _ h.h0 (by simp) (by simp)
    · rw [show q = ⟨w1, [n1]⟩ from by simpa [gmR] using hq]
      exact o _ _ h.h1 (by simp) (by simp)
  obtain ⟨_, _, htl, _⟩ := ths_ok hg ht hn hr
  have hpl := h.pl
  refine ⟨ht, hn, hg, hr, by simp [gmG]; exact h.ml, by simp, by omega, ?_⟩
  have := pow_le (m := (thsOf (gmG w0 M) [gmR w0 w1 n0 n1]).length) (n := (gmR w0 w1 n0 n1).sls.length) (by omega) (sls_ok ht hn (hr _ (by simp))).2.2
  simp [cntF]; omega
theorem gm_sls {w0 w1 n0 n1 : D} (s0 : isSl n0) (s1 : isSl n1) (ne : n0 ≠ n1) : (gmR w0 w1 n0 n1).sls = [n0, n1] := by
  show addS (addS [] n0) n1 = _
  have e : addS [] n0 = [n0] := by unfold addS; rw [if_pos ⟨sl_sl s0, by simp⟩]; rfl
  rw [e]
  unfold addS
  rw [if_pos ⟨sl_sl s1, by simp; exact fun h => ne h.symm⟩]
  rfl
theorem gm_mem {w0 w1 n0 n1 : D} {P : List D} {M : List (D × D)} (h : GmOk w0 w1 n0 n1 P M) {l : Rl} : l ∈ flF (gmG w0 M) [gmR w0 w1 n0 n1] ↔ ∃ a ∈ thsOf (gmG w0 M) [gmR w0 w1 n0 n1], ∃ b ∈ thsOf (gmG w0 M) [gmR w0 w1 n0 n1], l = gmL w0 w1 a b := by
  generalize hT : thsOf (gmG w0 M) [gmR w0 w1 n0 n1] = T
  have hs := gm_sls (w0 := w0) (w1 := w1) h.s0 h.s1 h.ne
  have hn1 : ¬ n1 = n0 := fun e => h.ne e.symm
  have val : ∀ a b, fillR 0 (gmR w0 w1 n0 n1) (gp [n0, n1] [a, b]) = gmL w0 w1 a b := by
    intro a b
    simp [fillR, gmR, gmL, putP, gp, hn1]
  have hf : flF (gmG w0 M) [gmR w0 w1 n0 n1] = (rowsL T 2).map fun row => fillR 0 (gmR w0 w1 n0 n1) (gp [n0, n1] row) := by
    unfold flF fillK
    rw [hT]
    simp [fill1, hs]
  rw [hf, List.mem_map]
  constructor
  · rintro ⟨row, hrow, rfl⟩
    obtain ⟨r1, hr1, h2⟩ := List.mem_flatMap.mp (show row ∈ (rowsL T 1).flatMap fun r => T.map fun t => r ++ [t] from hrow)
    obtain ⟨b, hb, rfl⟩ := List.mem_map.mp h2
    obtain ⟨r0, hr0, h3⟩ := List.mem_flatMap.mp (show r1 ∈ (rowsL T 0).flatMap fun r => T.map fun t => r ++ [t] from hr1)
    obtain ⟨a, ha, rfl⟩ := List.mem_map.mp h3
    have : r0 = [] := by simpa [rowsL] using hr0
    subst this
    exact ⟨a, ha, b, hb, val a b⟩
  · rintro ⟨a, ha, b, hb, rfl⟩
    refine ⟨[a, b], ?_, val a b⟩
    refine List.mem_flatMap.mpr ⟨[a], List.mem_flatMap.mpr ⟨[], by simp [rowsL], List.mem_map.mpr ⟨a, ha, rfl⟩⟩, List.mem_map.mpr ⟨b, hb, rfl⟩⟩
theorem gm_T {w0 w1 n0 n1 : D} {P : List D} {M : List (D × D)} (h : GmOk w0 w1 n0 n1 P M) : (∀ m ∈ M, m.1 ∈ thsOf (gmG w0 M) [gmR w0 w1 n0 n1] ∧ m.2 ∈ thsOf (gmG w0 M) [gmR w0 w1 n0 n1]) ∧ ∀ x ∈ thsOf (gmG w0 M) [gmR w0 w1 n0 n1], x ∈ P := by
  have g := gm_pga h
  constructor
  · intro m hm
    have := h.mv m hm
    have q : (⟨w0, [m.1, m.2]⟩ : Pn) ∈ pats (gmG w0 M) [gmR w0 w1 n0 n1] := List.mem_append_left _ (List.mem_map.mpr ⟨m, hm, rfl⟩)
    exact ⟨srt_mem.mpr (things_has (.inr ⟨sl_th (h.th _ this.1), _, q, by simp⟩)), srt_mem.mpr (things_has (.inr ⟨sl_th (h.th _ this.2), _, q, by simp⟩))⟩
  · intro x hx
    have hxt := (ths_ok g.hg g.ht g.hn g.hr).2.1 x hx
    obtain ⟨_, _, a3⟩ := things_ok (qs := pats (gmG w0 M) [gmR w0 w1 n0 n1]) (acc := []) (fun q hq => by
      rcases List.mem_append.mp hq with hq | hq
      · exact (g.hg q hq).1
      · obtain ⟨r, hr, hq⟩ := List.mem_flatMap.mp hq
        exact (g.hr r hr).all q hq) ⟨by simp, List.nodup_nil⟩
    rcases a3 x (srt_mem.mp hx) with hh | ⟨q, hq, hp⟩
    · simp at hh
    · rcases List.mem_append.mp hq with hq | hq
      · exact (g.hg q hq).2 x hp
      · exfalso
        obtain ⟨r, hr, hq⟩ := List.mem_flatMap.mp hq
        rw [List.mem_singleton.mp hr] at hq
        have : x = n0 ∨ x = n1 := by
          simp [Ru.all, gmR] at hq
          rcases hq with rfl | rfl | rfl <;> simp at hp
          · exact .inl hp
          · exact hp
          · exact .inr hp
        rcases this with rfl | rfl
        · exact th_nsl hxt h.s0
        · exact th_nsl hxt h.s1
end L2.Nf

namespace L2.Nf
open PySem PySem.Spec PyProof.Rows

theorem gm_fact {w0 : D} {M : List (D × D)} {x : D} : x ∈ (gmG w0 M).map Pn.d ↔ ∃ m ∈ M, x = .tup [w0, m.1, m.2] := by
  unfold gmG
  rw [List.map_map, List.mem_map]
  constructor
  · rintro ⟨m, hm, rfl⟩; exact ⟨m, hm, rfl⟩
  · rintro ⟨m, hm, rfl⟩; exact ⟨m, hm, rfl⟩
theorem gm_stands {w0 w1 n0 n1 : D} {P : List D} {M : List (D × D)} (h : GmOk w0 w1 n0 n1 P M) {x : D} (hs : Stands (flF (gmG w0 M) [gmR w0 w1 n0 n1]) x) : ∃ a ∈ thsOf (gmG w0 M) [gmR w0 w1 n0 n1], x = .tup [w1, a] ∨ ∃ b, x = .tup [w0, a, b] := by
  obtain ⟨l, hl, hx⟩ := hs
  obtain ⟨a, ha, b, hb, rfl⟩ := (gm_mem h).mp hl
  simp [Rl.all, gmL] at hx
  rcases hx with rfl | rfl | rfl
  · exact ⟨a, ha, .inl rfl⟩
  · exact ⟨a, ha, .inr ⟨b, rfl⟩⟩
  · exact ⟨b, hb, .inl rfl⟩
/-- what the verdict says of the places, by the law's own telling -/
theorem gm_said {w0 w1 n0 n1 : D} {P : List D} {M : List (D × D)} (h : GmOk w0 w1 n0 n1 P M) {Y N : List D} {story : List Stp} {left : List D} {wd : List (List Key × D)} (v : Verd (flF (gmG w0 M) [gmR w0 w1 n0 n1]) ((gmG w0 M).map Pn.d) Y N story left wd) (args : List D) (ha : args = [.lst P, .lst (M.map mvD)]) :
    ∃ W L, f__law_told args = .ok (.tup [.lst W, .lst L]) ∧ (∀ p ∈ W, p ∈ P) ∧ (∀ p ∈ L, p ∈ P) ∧ ∀ p ∈ P, (look wd (fk (.tup [w1, p]))).getD noS = if p ∈ L then noS else if p ∈ W then yesS else openS := by
  obtain ⟨hT1, hT2⟩ := gm_T h
  have hmem := fun {l} => gm_mem (l := l) h
  have hstd := fun {x} => gm_stands (x := x) h
  generalize thsOf (gmG w0 M) [gmR w0 w1 n0 n1] = T at hT1 hT2 hmem hstd
  generalize flF (gmG w0 M) [gmR w0 w1 n0 n1] = F at hmem hstd v
  have hGm := fun {x} => gm_fact (w0 := w0) (M := M) (x := x)
  generalize (gmG w0 M).map Pn.d = G at hGm v
  have st1 : ∀ a ∈ T, Stands F (.tup [w1, a]) := fun a ha => ⟨gmL w0 w1 a a, hmem.mpr ⟨a, ha, a, ha, rfl⟩, by simp [Rl.all, gmL]⟩
  have st0 : ∀ a ∈ T, ∀ b ∈ T, Stands F (.tup [w0, a, b]) := fun a ha b hb => ⟨gmL w0 w1 a b, hmem.mpr ⟨a, ha, b, hb, rfl⟩, by simp [Rl.all, gmL]⟩
  have ng : ∀ a, D.tup [w1, a] ∉ G := fun a hg => by
    obtain ⟨m, _, e⟩ := hGm.mp hg
    simp at e
  have inG : ∀ a b, D.tup [w0, a, b] ∈ G ↔ (a, b) ∈ M := fun a b => by
    rw [hGm]
    constructor
    · rintro ⟨m, hm, e⟩
      simp at e
      rw [e.1, e.2]; exact hm
    · intro hm; exact ⟨_, hm, rfl⟩
  let w : D → Prop := fun p => D.tup [w1, p] ∈ Y
  let l : D → Prop := fun p => D.tup [w1, p] ∉ Y ∧ (p ∈ T → D.tup [w1, p] ∈ N)
  have hc : GameC P M w l := by
    refine ⟨fun p hp ⟨b, hm, hl⟩ => ?_, fun p hp hal => ?_⟩
    · have tp := (hT1 _ hm).1
      have tb := (hT1 _ hm).2
      refine v.cls.fire _ (hmem.mpr ⟨p, tp, b, tb, rfl⟩) (fun y hy => ?_) fun y hy => ?_
      · rw [show y = .tup [w0, p, b] from by simpa [gmL] using hy]
        exact v.given _ ((inG p b).mpr hm)
      · rw [show y = .tup [w1, b] from by simpa [gmL] using hy]
        exact hl.2 tb
    · by_cases tp : p ∈ T
      · have hN : D.tup [w1, p] ∈ N := by
          refine v.cls.out (fun x => (Stands F x ∧ x ∉ G) ∧ ((∃ a b, x = .tup [w0, a, b]) ∨ x = .tup [w1, p])) (fun x hx => hx.1) ?_ _ ⟨⟨st1 p tp, ng p⟩, .inr rfl⟩
          intro r hr hu
          obtain ⟨a, ha, b, hb, rfl⟩ := hmem.mp hr
          obtain ⟨_, hu⟩ := hu
          have : a = p := by
            rcases hu with ⟨c, d, e⟩ | e
            · simp [gmL] at e
            · simpa [gmL] using e
          subst this
          by_cases hm : (a, b) ∈ M
          · exact .inr ⟨.tup [w1, b], by simp [gmL], hal b hm⟩
          · exact .inl ⟨.tup [w0, a, b], by simp [gmL], .inr ⟨⟨st0 a ha b hb, fun hg => hm ((inG a b).mp hg)⟩, .inl ⟨a, b, rfl⟩⟩⟩
        exact ⟨fun hy => v.way.dis _ hy hN, fun _ => hN⟩
      · refine ⟨fun hy => ?_, fun h' => absurd h' tp⟩
        rcases v.way.ysub _ hy with hg | ⟨r, hr, e⟩
        · exact ng p hg
        · obtain ⟨a, ha, b, _, rfl⟩ := hmem.mp hr
          have : a = p := by simpa [gmL] using e
          exact tp (this ▸ ha)
  have hPs : ∀ p ∈ P, isS p = true := fun p hp => isTh_S (h.th p hp)
  obtain ⟨W, L, e, hW, hL, hg⟩ := told_is hPs (fun m hm => ⟨hPs _ (h.mv m hm).1, hPs _ (h.mv m hm).2⟩) hc (fun p a b => b.1 a) (by have := h.pl; omega) args ha
  refine ⟨W, L, e, fun p hp => (hW p hp).1, fun p hp => (hL p hp).1, fun p hp => ?_⟩
  -- the law's sets are closed, so the verdict is below them
  have hC : Closed F G (fun x => x ∈ G ∨ ∃ q ∈ W, x = .tup [w1, q]) (fun x => x ∉ G ∧ ((∃ a b, x = .tup [w0, a, b]) ∨ ∃ q ∈ L, x = .tup [w1, q])) := by
    refine ⟨fun x hx => .inl hx, fun r hr h1 h2 => ?_, fun U hU hb x hx => ?_⟩
    · obtain ⟨a, ha, b, hb, rfl⟩ := hmem.mp hr
      have y1 := h1 (.tup [w0, a, b]) (by simp [gmL])
      have y2 := h2 (.tup [w1, b]) (by simp [gmL])
      have hm : (a, b) ∈ M := by
        rcases y1 with hg | ⟨q, _, e⟩
        · exact (inG a b).mp hg
        · simp at e
      have hbL : b ∈ L := by
        rcases y2.2 with ⟨c, d, e⟩ | ⟨q, hq, e⟩
        · simp at e
        · have : b = q := by simpa using e
          exact this ▸ hq
      exact .inr ⟨a, hg.win a (hT2 a ha) ⟨b, hm, hbL⟩, rfl⟩
    · obtain ⟨hs, hng⟩ := hU x hx
      refine ⟨hng, ?_⟩
      obtain ⟨a, ha, rfl | ⟨b, rfl⟩⟩ := hstd hs
      · refine .inr ⟨a, hg.los a (hT2 a ha) fun b hm => ?_, rfl⟩
        rcases hb _ (hmem.mpr ⟨a, ha, b, (hT1 _ hm).2, rfl⟩) hx with ⟨y, hy, h3⟩ | ⟨y, hy, h3⟩
        · rw [show y = .tup [w0, a, b] from by simpa [gmL] using hy] at h3
          have hgm := (inG a b).mpr hm
          rcases h3 with h3 | h3
          · exact absurd hgm h3.1
          · exact absurd hgm (hU _ h3).2
        · rw [show y = .tup [w1, b] from by simpa [gmL] using hy] at h3
          rcases h3 with h3 | ⟨q, hq, e⟩
          · exact absurd h3 (ng b)
          · have : b = q := by simpa using e
            exact this ▸ hq
      · exact .inl ⟨a, b, rfl⟩
  obtain ⟨lY, lN⟩ := v.way.least _ _ hC
  have hYW : D.tup [w1, p] ∈ Y → p ∈ W := fun hy => by
    rcases lY _ hy with hg | ⟨q, hq, e⟩
    · exact absurd hg (ng p)
    · have : p = q := by simpa using e
      exact this ▸ hq
  have hNL : D.tup [w1, p] ∈ N → p ∈ L := fun hn => by
    rcases (lN _ hn).2 with ⟨c, d, e⟩ | ⟨q, hq, e⟩
    · simp at e
    · have : p = q := by simpa using e
      exact this ▸ hq
  have hpts : isTS (.tup [w1, p]) = true := by
    obtain ⟨x, e, _⟩ := h.h1
    rw [e]
    simp only [isTS, List.all_cons, List.all_nil, hPs p hp]
    rfl
  rw [v.words _ hpts]
  by_cases c1 : p ∈ L
  · rw [if_pos c1]
    have hl := (hL p c1).2
    have nl : D.tup [w1, p] ∉ left := fun hm => by
      obtain ⟨hs, _, hn⟩ := (v.lm _).mp hm
      obtain ⟨a, ha, e | ⟨b, e⟩⟩ := hstd hs
      · have : p = a := by simpa using e
        exact hn (hl.2 (this ▸ ha))
      · simp at e
    rw [if_neg nl, if_neg hl.1]; rfl
  · rw [if_neg c1]
    by_cases c2 : p ∈ W
    · rw [if_pos c2]
      have hw := (hW p c2).2
      have nl : D.tup [w1, p] ∉ left := fun hm => ((v.lm _).mp hm).2.1 hw
      rw [if_neg nl, if_pos hw]; rfl
    · rw [if_neg c2]
      have tp : p ∈ T := by
        refine Classical.byContradiction fun ht => c1 (hg.los p hp fun b hm => absurd (hT1 _ hm).1 ht)
      have hm : D.tup [w1, p] ∈ left := (v.lm _).mpr ⟨st1 p tp, fun hy => c2 (hYW hy), fun hn => c1 (hNL hn)⟩
      rw [if_pos hm]; rfl
end L2.Nf

namespace L2.Nf
open PySem PySem.Spec PyProof.Rows

@[simp] theorem w_eM {o : List D → Ro D} {a : EDen} {as : ADen} {Γ : Gm} {K : D → Prop} : (eM o a as Γ).post K (fun _ => False) = (a Γ).post (fun d => isObj d = true ∧ (as Γ).post (fun ds => (o (d :: ds)).post K fun _ => False) fun _ => False) fun _ => False := by
  unfold eM
  rw [post_bind]
  congr 1; funext d
  rw [post_iteD]
  simp only [w_bad, ite_and_f]
  by_cases h : isObj d = true
  · simp only [h, true_and, post_bind]
    congr 1; funext ds
    cases o (d :: ds) <;> rfl
  · simp [h]
theorem said_is {f s l x : D} {w : List (List Key × D)} (hx : isTS x = true) : f_said [.obj [f, s, l, .dT w], x] = .ok ((look w (fk x)).getD noS) := by
  refine is_ok (run_p fun R hR => ?_)
  have hR := hR _ rfl
  unfold g_said
  have e1 : oFld 3 (.obj [f, s, l, .dT w]) = .ok (.dT w) := rfl
  have e2 : oGet2 (.dT w) x noS = .ok ((look w (fk x)).getD noS) := by
    show (match (oKeys x).map (look w) with | some o => Ro.ok (o.getD noS) | none => .bad) = _
    rw [(fk_spec hx).1]
    rfl
  simp [e1, isDict, e2]
  exact hR
theorem plain_k14 (ns : List Int) (hns : ns.length ≤ 63) : f_law_k14 [encI ns] = .ok (.bl true) := by
  refine is_ok (run_p fun R hR => ?_)
  unfold g_law_k14
  generalize hft : f__law_told = ft
  generalize hfd : f_decided = fd
  generalize hfs : f_said = fsd
  have hR := hR _ rfl
  have c0 := cell_at (ns := ns) (i := 0) (by decide)
  have c1 := cell_at (ns := ns) (i := 1) (by decide)
  have c2 := cell_at (ns := ns) (i := 2) (by decide)
  have b6 := fmod_pos (a := cellD ns 1) (n := 6) (by omega)
  simp only [gm0, List.map_cons, List.map_nil, List.length_cons, List.length_nil, List.cons_append, List.nil_append, List.replicate_succ, List.replicate_zero, Nat.reduceSub, Nat.reduceAdd, Nat.zero_add]
  refine seq_wp (fun Γ => ∃ ws, Γ = [some (encI ns), some (.lst ws), none, none, none, none, none, none, none, none, none, none, none, none, none] ∧ (∀ w ∈ ws, isWd w) ∧ ws.length = 2) ?_ ?_
  · intro N hN
    simp
    refine comp_wp (P := fun _ d => isWd d) ?_ fun ws hws => hN _ ⟨ws, rfl, hws.right fun _ _ h => h, by rw [← hws.len]; rfl⟩
    intro d hd
    obtain ⟨i, hi, rfl⟩ := mem_rng hd
    obtain ⟨w, e, hw⟩ := word_is (c := cellD ns 0) (k := i) (by omega) (by omega)
    simp [c0, e]
    exact ⟨w, rfl, hw⟩
  rintro Γ ⟨ws, rfl, hw1, hwl⟩
  refine seq_wp (fun Γ => ∃ nm, Γ = [some (encI ns), some (.lst ws), some (.lst nm), none, none, none, none, none, none, none, none, none, none, none, none] ∧ ∃ a b, nm = [a, b] ∧ isSl a ∧ isSl b ∧ a ≠ b) ?_ ?_
  · intro N hN
    simp
    refine comp_wp (P := fun d x => ∃ (i : Nat) (w : Str), d = .int (0 + (i : Int)) ∧ x = .str (qm ++ w) ∧ IsW lets w ∧ Mark lets (cellD ns 2) i w) ?_ fun nm hnm => hN _ ⟨nm, rfl, ?_⟩
    · intro d hd
      obtain ⟨i, hi, rfl⟩ := mem_rng hd
      obtain ⟨w, e, hw⟩ := word_is (c := cellD ns 2) (k := i) (by omega) (by omega)
      obtain ⟨w', e', hm⟩ := word_mk (c := cellD ns 2) (k := i) (by omega) (by omega)
      have : w = w' := by rw [e] at e'; cases e'; rfl
      subst this
      simp [c2, e]
      have := hw.2.1
      refine ⟨?_, i, rfl, w, rfl, hw, hm⟩
      rw [show (PySem.Str.ofString "?").length = 1 from by decide +kernel]; unfold sizeLine; omega
    · have hnm : All2 _ [D.int (0 + ((0 : Nat) : Int)), D.int (0 + ((1 : Nat) : Int))] nm := hnm
      cases hnm with
      | cons h t =>
        cases t with
        | cons h' t' =>
          cases t'
          obtain ⟨i, u, e1, rfl, hu, mu⟩ := h
          obtain ⟨j, v, e2, rfl, hv, mv⟩ := h'
          have i0 : i = 0 := by simp at e1; omega
          have j1 : j = 1 := by simp at e2; omega
          subst i0; subst j1
          refine ⟨_, _, rfl, ⟨u, rfl, hu⟩, ⟨v, rfl, hv⟩, fun e => mark_ne (c := cellD ns 2) (v := u) (w := v) mu mv ?_⟩
          have := congrArg (fun d => match d with | D.str s => s.cps.toList | _ => []) e
          simp only [q_cps, List.cons.injEq, true_and] at this
          exact str_ext this
  rintro Γ ⟨nm, rfl, n0, n1, rfl, s0, s1, hne⟩
  obtain ⟨w0, w1, rfl⟩ : ∃ a b, ws = [a, b] := by
    match ws, hwl with
    | [a, b], _ => exact ⟨a, b, rfl⟩
  have h0 := hw1 w0 (by simp)
  have h1 := hw1 w1 (by simp)
  refine seq_wp (fun Γ => ∃ P, Γ = [some (encI ns), some (.lst [w0, w1]), some (.lst [n0, n1]), some (.lst P), none, none, none, none, none, none, none, none, none, none, none] ∧ (∀ p ∈ P, isTh p) ∧ 0 < P.length ∧ P.length ≤ 7) ?_ ?_
  · intro N hN
    simp [c1]
    refine ⟨by omega, by omega, ?_⟩
    refine comp_wp (P := fun _ d => isTh d) ?_ fun P hP => hN _ ⟨P, rfl, hP.right fun _ _ h => h, by rw [← hP.len, rng_len]; omega, by rw [← hP.len, rng_len]; omega⟩
    intro d hd
    obtain ⟨i, hi, rfl⟩ := mem_rng hd
    obtain ⟨w, e, hw⟩ := thing_is (c := (cellD ns 1).fdiv 6) (k := i) (by omega) (by omega)
    simp [c1, e]
    exact ⟨w, rfl, hw⟩
  rintro Γ ⟨P, rfl, hPt, hPz', hPl⟩
  have hPz : (0 : Int) < P.length := by omega
  have pick : ∀ a : Int, ∃ x, atI P (a.fmod P.length) = some x ∧ x ∈ P := fun a => by
    obtain ⟨x, e, hm, _⟩ := mem_get (P := fun _ => True) (xs := P) (i := a.fmod P.length) (by simp) (fmod_pos hPz).1 (fmod_pos hPz).2
    exact ⟨x, e, hm⟩
  have hPn : ¬ P = [] := by rintro rfl; simp at hPz
  refine set_seq (.lst []) (by simp) ?_
  simp only [List.set_cons_succ, List.set_cons_zero]
  refine seq_wp (fun Γ => ∃ M : List (D × D), Γ = [none, some (.lst [w0, w1]), some (.lst [n0, n1]), some (.lst P), some (.lst (M.map mvD)), none, none, none, none, none, none, none, none, none, none] ∧ M.length ≤ 60 ∧ ∀ m ∈ M, m.1 ∈ P ∧ m.2 ∈ P) ?_ ?_
  · intro N hN
    unfold encI
    simp
    have hcl := cut_between (xs := ns.map D.int) (i := 3) (j := 17) (by omega) (by omega)
    have hci : ∀ d ∈ cut (ns.map D.int) (some 3) (some 17), ∃ c : Int, d = .int c := fun d hd => by
      obtain ⟨c, _, rfl⟩ := List.mem_map.mp (cut_mem hd)
      exact ⟨c, rfl⟩
    generalize cut (ns.map D.int) (some 3) (some 17) = cs at hcl hci
    refine for_idx (fun k Γ => ∃ M : List (D × D), Γ = [none, some (.lst [w0, w1]), some (.lst [n0, n1]), some (.lst P), some (.lst (M.map mvD)), none, none, none, none, none, none, none, none, none, none] ∧ M.length ≤ 2 * k ∧ ∀ m ∈ M, m.1 ∈ P ∧ m.2 ∈ P) ⟨[], rfl, by simp, by simp⟩ ?_ ?_
    · rintro k d Γ hk ⟨M, rfl, hm1, hm2⟩ N hN
      have hkl := (List.getElem?_eq_some_iff.mp hk).1
      obtain ⟨c, rfl⟩ := hci d (List.mem_of_getElem? hk)
      obtain ⟨a1, ea1, ha1⟩ := pick c
      obtain ⟨a2, ea2, ha2⟩ := pick (c.fdiv P.length)
      obtain ⟨a3, ea3, ha3⟩ := pick (c.fdiv 98)
      obtain ⟨a4, ea4, ha4⟩ := pick (c.fdiv 686)
      simp [ea1, ea2, ea3, ea4, hPn]
      refine ⟨by omega, by unfold sizeLine; omega, ?_⟩
      split
      · refine ⟨by unfold sizeLine; omega, hN _ ⟨M ++ [(a1, a2), (a3, a4)], by simp [mvD], by simp; omega, fun m hm => ?_⟩⟩
        simp at hm
        rcases hm with hm | rfl | rfl
        · exact hm2 m hm
        · exact ⟨ha1, ha2⟩
        · exact ⟨ha3, ha4⟩
      · refine hN _ ⟨M ++ [(a1, a2)], by simp [mvD], by simp; omega, fun m hm => ?_⟩
        simp at hm
        rcases hm with hm | rfl
        · exact hm2 m hm
        · exact ⟨ha1, ha2⟩
    · rintro Γ ⟨M, rfl, hm1, hm2⟩
      exact hN _ ⟨M, rfl, by omega, hm2⟩
  rintro Γ ⟨M, rfl, hm1, hm2⟩
  have hgm : GmOk w0 w1 n0 n1 P M := ⟨h0, h1, s0, s1, hne, hPt, by omega, hm2, by omega⟩
  obtain ⟨Y, N, story, left, wd, ed, v⟩ := decided_is (gm_pga hgm)
  obtain ⟨args, hargs⟩ : ∃ args, args = [D.lst P, D.lst (M.map mvD)] := ⟨_, rfl⟩
  obtain ⟨W, L, et, hW, hL, hsd⟩ := gm_said hgm v args hargs
  have eg : compD 14 tYes' (eN oTup (aC (e2 oIx (eV 1) (eC (.int 0))) (aC (e2 oIx (eV 14) (eC (.int 0))) (aC (e2 oIx (eV 14) (eC (.int 1))) aN)))) [none, some (.lst [w0, w1]), some (.lst [n0, n1]), some (.lst P), some (.lst (M.map mvD)), none, none, none, none, none, none, none, none, none, none] (M.map mvD) = .ok ((gmG w0 M).map Pn.d) := by
    rw [comp_map (f := fun d => match d with | .tup [a, b] => .tup [w0, a, b] | d => d)]
    · congr 1
      unfold gmG
      rw [List.map_map, List.map_map]
      rfl
    · intro d hd
      obtain ⟨m, _, rfl⟩ := List.mem_map.mp hd
      refine is_ok ?_
      simp [mvD]
  have er : D.tup [.tup [w1, n0], .tup [.tup [w0, n0, n1]], .tup [.tup [w1, n1]]] = (gmR w0 w1 n0 n1).d := rfl
  have ed' : fd [.lst ((gmG w0 M).map Pn.d), .lst [(gmR w0 w1 n0 n1).d]] = .ok (.obj [.lst ((flF (gmG w0 M) [gmR w0 w1 n0 n1]).map Rl.d), .lst (story.map Stp.d), .lst left, .dT wd]) := by rw [← hfd]; exact ed
  have hsaid : ∀ p ∈ P, ∀ f s l : D, fsd [.obj [f, s, l, .dT wd], .tup [w1, p]] = .ok (if p ∈ L then noS else if p ∈ W then yesS else openS) := fun p hp f s l => by
    have hpts : isTS (.tup [w1, p]) = true := by
      obtain ⟨x, e, _⟩ := h1
      rw [e]
      simp only [isTS, List.all_cons, List.all_nil, isTh_S (hPt p hp)]
      rfl
    rw [← hfs, said_is hpts, hsd p hp]
  have hpS : ∀ {A : List D}, (∀ p ∈ A, p ∈ P) → ∀ p ∈ A, p.pl 8 = true := fun h p hp => pl_le (by decide) (isS_pl (isTh_S (hPt p (h p hp))))
  refine set_seq (.lst ((gmG w0 M).map Pn.d)) (by simp only [w_eLc, w_lE, w_eV, List.getElem?_cons_zero, List.getElem?_cons_succ, w_itL, noX_is]; rw [eg]; rfl) ?_
  refine set_seq (.tup [w1, n0]) (by simp) ?_
  refine set_seq ((gmR w0 w1 n0 n1).d) (by simp [← er]) ?_
  refine set_seq (.obj [.lst ((flF (gmG w0 M) [gmR w0 w1 n0 n1]).map Rl.d), .lst (story.map Stp.d), .lst left, .dT wd]) (by simp [ed']) ?_
  have et' : ft args = .ok (.tup [.lst W, .lst L]) := by rw [← hft]; exact et
  refine set_seq (.tup [.lst W, .lst L]) (by simp [← hargs, et']) ?_
  simp only [List.set_cons_succ, List.set_cons_zero]
  generalize D.lst ((flF (gmG w0 M) [gmR w0 w1 n0 n1]).map Rl.d) = q1
  generalize D.lst (story.map Stp.d) = q2
  refine seq_wp (fun _ => True) (fun N2 hN2 => ?_) (fun Γ _ => by simp; exact hR)
  simp only [w_for, w_lE, w_eV, List.getElem?_cons_zero, List.getElem?_cons_succ, w_itL, clr_cons, clr_nil]
  refine for_idx (fun k Γ => Γ = [none, some (.lst [w0, w1]), none, none, none, none, none, none, none, some (.obj [q1, q2, .lst left, .dT wd]), some (.tup [.lst W, .lst L]), none, none, none, none]) rfl ?_ ?_
  · rintro k p Γ hk rfl N' hN'
    have hp := List.mem_of_getElem? hk
    have hpp := pl_le (m := 8) (by decide) (isS_pl (isTh_S (hPt p hp)))
    have hs := hsaid p hp q1 q2 (.lst left)
    have nn := ne_part (p := noS) (x := noS) rfl rfl
    have ny := ne_part (p := yesS) (x := yesS) rfl rfl
    have no := ne_part (p := openS) (x := openS) rfl rfl
    by_cases cL : p ∈ L
    · rw [if_pos cL] at hs
      by_cases cW : p ∈ W <;> simp [in_pl hpp (hpS hW), in_pl hpp (hpS hL), cL, cW, isObj, hs, nn] <;> exact hN' _ rfl
    · rw [if_neg cL] at hs
      by_cases cW : p ∈ W
      · rw [if_pos cW] at hs
        simp [in_pl hpp (hpS hW), in_pl hpp (hpS hL), cL, cW, isObj, hs, ny]
        exact hN' _ rfl
      · rw [if_neg cW] at hs
        simp [in_pl hpp (hpS hW), in_pl hpp (hpS hL), cL, cW, isObj, hs, no]
        exact hN' _ rfl
  · rintro Γ rfl
    exact hN2 _ trivial
end L2.Nf

namespace L2.Nf
open PySem PySem.Spec PyProof.Rows

/-! ### the drawn programs may be handed in; what a verdict says -/
theorem cnt_le {T : List D} : ∀ {rs : List Ru}, (∀ r ∈ rs, T.length ^ r.sls.length ≤ 27) → cntF T rs ≤ 27 * rs.length
  | [], _ => by simp [cntF]
  | r :: rs, h => by
    have h1 := h r (by simp)
    have h2 := cnt_le (T := T) (rs := rs) fun x hx => h x (by simp [hx])
    unfold cntF at h2 ⊢
    simp only [List.map_cons, List.sum_cons, List.length_cons]
    omega
theorem pow27 {m n : Nat} (hm : m ≤ 3) (hn : n ≤ 3) : m ^ n ≤ 27 := by
  match m, n, hm, hn with
  | 0, 0, _, _ | 0, 1, _, _ | 0, 2, _, _ | 0, 3, _, _ | 1, 0, _, _ | 1, 1, _, _ | 1, 2, _, _ | 1, 3, _, _ | 2, 0, _, _ | 2, 1, _, _ | 2, 2, _, _ | 2, 3, _, _ | 3, 0, _, _ | 3, 1, _, _ | 3, 2, _, _ | 3, 3, _, _ => decide
theorem pga {th nm : List D} {gv : List Pn} {rs : List Ru} (h : PgOk th nm gv rs) : PgA th nm gv rs := by
  obtain ⟨_, _, h3, _⟩ := ths_ok h.given h.things h.names h.rules
  have t2 := h.tl2
  have g := h.gl
  have r := h.rl
  have hc : cntF (thsOf gv rs) rs ≤ 27 * rs.length := cnt_le fun r hr => pow27 (by omega) (sls_ok h.things h.names (h.rules r hr)).2.2
  exact ⟨h.things, h.names, h.given, h.rules, by omega, by omega, by omega, by omega⟩
theorem law_fl {th nm : List D} {gv : List Pn} {rs : List Ru} (h : PgA th nm gv rs) : f__law_filled [.lst (gv.map Pn.d), .lst (rs.map Ru.d)] = .ok (.lst ((flF gv rs).map Rl.d)) :=
  law_filled_is (law_things_is h.hg h.hr (by have := h.gl; omega) (by have := h.rl; omega)) h.pg
/-- the word for a fact -/
noncomputable def sdF (Y left : List D) (x : D) : D := if x ∈ left then openS else if x ∈ Y then yesS else noS
theorem said_sd {F : List Rl} {G Y N : List D} {story : List Stp} {left : List D} {w : List (List Key × D)} (v : Verd F G Y N story left w) {f s l x : D} (hx : isTS x = true) : f_said [.obj [f, s, l, .dT w], x] = .ok (sdF Y left x) := by
  rw [said_is hx, v.words x hx]
  unfold sdF
  by_cases h1 : x ∈ left
  · simp [h1]
  · by_cases h2 : x ∈ Y <;> simp [h1, h2]
theorem yes_ne_open : yesS ≠ openS := fun e => absurd (D.str.inj e) (by decide +kernel)
theorem yes_ne_no : yesS ≠ noS := fun e => absurd (D.str.inj e) (by decide +kernel)
theorem open_ne_no : openS ≠ noS := fun e => absurd (D.str.inj e) (by decide +kernel)
section
variable {F : List Rl} {G Y N : List D} {story : List Stp} {left : List D} {w : List (List Key × D)} {x : D}
theorem Verd.y_left (v : Verd F G Y N story left w) (h : x ∈ Y) : x ∉ left := fun hl => ((v.lm x).mp hl).2.1 h
theorem Verd.n_left (v : Verd F G Y N story left w) (h : x ∈ N) : x ∉ left := fun hl => ((v.lm x).mp hl).2.2 h
theorem Verd.yes (v : Verd F G Y N story left w) : sdF Y left x = yesS ↔ x ∈ Y := by
  unfold sdF
  constructor
  · intro h
    by_cases h1 : x ∈ left
    · rw [if_pos h1] at h; exact absurd h.symm yes_ne_open
    · rw [if_neg h1] at h
      by_cases h2 : x ∈ Y
      · exact h2
      · rw [if_neg h2] at h; exact absurd h.symm yes_ne_no
  · intro h; rw [if_neg (v.y_left h), if_pos h]
theorem Verd.opn (v : Verd F G Y N story left w) : sdF Y left x = openS ↔ x ∈ left := by
  unfold sdF
  constructor
  · intro h
    by_cases h1 : x ∈ left
    · exact h1
    · rw [if_neg h1] at h
      by_cases h2 : x ∈ Y
      · rw [if_pos h2] at h; exact absurd h yes_ne_open
      · rw [if_neg h2] at h; exact absurd h.symm open_ne_no
  · intro h; rw [if_pos h]
theorem Verd.no (v : Verd F G Y N story left w) (hs : Stands F x) : sdF Y left x = noS ↔ x ∈ N := by
  unfold sdF
  constructor
  · intro h
    by_cases h1 : x ∈ left
    · rw [if_pos h1] at h; exact absurd h open_ne_no
    · rw [if_neg h1] at h
      by_cases h2 : x ∈ Y
      · rw [if_pos h2] at h; exact absurd h yes_ne_no
      · refine Classical.byContradiction fun h3 => h1 ((v.lm x).mpr ⟨hs, h2, h3⟩)
  · intro h; rw [if_neg (v.n_left h), if_neg (fun hy => v.way.dis x hy h)]
theorem st_h {r : Rl} (hr : r ∈ F) : Stands F r.h := ⟨r, hr, by simp [Rl.all]⟩
theorem st_y {r : Rl} (hr : r ∈ F) {y : D} (h : y ∈ r.ys) : Stands F y := ⟨r, hr, by simp [Rl.all, h]⟩
theorem st_n {r : Rl} (hr : r ∈ F) {y : D} (h : y ∈ r.ns) : Stands F y := ⟨r, hr, by simp [Rl.all, h]⟩
theorem sd_isS : isS (sdF Y left x) = true := by
  unfold sdF; split
  · rfl
  · split <;> rfl
end
@[simp] theorem w_fld2 {f s l w : D} {K : D → Prop} {X : Str → Prop} : (oFld 2 (.obj [f, s, l, w])).post K X = K l := rfl
@[simp] theorem w_fld1 {f s l w : D} {K : D → Prop} {X : Str → Prop} : (oFld 1 (.obj [f, s, l, w])).post K X = K s := rfl
@[simp] theorem w_fld0 {f s l w : D} {K : D → Prop} {X : Str → Prop} : (oFld 0 (.obj [f, s, l, w])).post K X = K f := rfl
@[simp] theorem w_lst2 {xs ys : List D} {K : D → Prop} {X : Str → Prop} : (oLst2 [.lst xs, .lst ys]).post K X = K (.lst [.lst xs, .lst ys]) := rfl
@[simp] theorem isObj_o {ds : List D} : isObj (.obj ds) = true := rfl
end L2.Nf

namespace L2.Nf
open PySem PySem.Spec PyProof.Rows

@[simp] theorem kit_ss : kitB "str" "str" = some true := by decide +kernel
@[simp] theorem ty_s {x : Str} : dTy (.str x) = "str" := rfl
@[simp] theorem w_mulL {x : List D} {n : Int} {K : D → Prop} {X : Str → Prop} : (oMul (.lst x) (.int n)).post K X = ((-(2 ^ 63) ≤ n ∧ n < 2 ^ 63 ∧ x.length * n.toNat ≤ sizeLine) ∧ K (.lst (List.replicate n.toNat x).flatten)) := by
  unfold oMul; simp only [w_iteP]
theorem oNe_bl (a b : Bool) : oNe (.bl a) (.bl b) = .ok (.bl (!decide (a = b))) := by
  cases a <;> cases b <;> rfl
theorem s_pl8 {x : D} (h : isS x = true) : x.pl 8 = true := pl_le (by decide) (isS_pl h)
theorem words_is {vd : D} {sd : D → D} (ho : isObj vd = true) (hs : ∀ x, isTS x = true → f_said [vd, x] = .ok (sd x)) {r : Rl} (hr : r.ok) : f__law_words [vd, r.d] = .ok (.tup [.lst (r.ys.map sd), .lst (r.ns.map sd)]) := by
  refine is_ok (run_p fun R hR => ?_)
  have hR := hR _ rfl
  unfold g__law_words
  rw [Rl.d]
  simp
  rw [comp_map (f := sd)]
  · simp only [w_ok]
    rw [comp_map (f := sd)]
    · simpa using hR
    · intro d hd
      refine is_ok ?_
      simp [ho, hs d (hr.ns d hd)]
  · intro d hd
    refine is_ok ?_
    simp [ho, hs d (hr.ys d hd)]
/-- what makes a rule come to its head -/
def Abl (sd : D → D) (C : List D) (r : Rl) : Prop := (∀ y ∈ r.ys, sd y ≠ noS) ∧ (∀ y ∈ r.ns, sd y ≠ yesS) ∧ ∀ y ∈ r.ys, sd y = openS → y ∈ C
theorem come_is {vd : D} {sd : D → D} {F : List Rl} {f s w : D} {left : List D} (hv : vd = .obj [f, s, .lst left, w]) (hs : ∀ x, isTS x = true → f_said [vd, x] = .ok (sd x)) (hS : ∀ x, isS (sd x) = true) (hF : ∀ r ∈ F, r.ok) (hFl : F.length ≤ 100000) (hll : left.length ≤ 16777216)
    (hprog : ∀ C : List D, (∃ x ∈ left, x ∉ C) → ∃ r ∈ F, r.h ∈ left ∧ r.h ∉ C ∧ Abl sd C r) :
    ∃ C, f__law_come_to [vd, .lst (F.map Rl.d)] = .ok (.lst C) ∧ (∀ x ∈ C, isTS x = true) ∧ ∀ x ∈ left, x ∈ C := by
  suffices hh : Is (f__law_come_to [vd, .lst (F.map Rl.d)]) fun d => ∃ C, d = .lst C ∧ (∀ x ∈ C, isTS x = true) ∧ ∀ x ∈ left, x ∈ C by
    obtain ⟨d, e, C, rfl, h⟩ := is_ex hh
    exact ⟨C, e, h⟩
  refine run_p fun R hR => ?_
  have ho : isObj vd = true := by rw [hv]; rfl
  have hw := fun {r : Rl} (h : r.ok) => words_is ho hs h
  have hfl : ∀ (K : D → Prop) (X : Str → Prop), (oFld 2 vd).post K X = K (.lst left) := fun K X => by rw [hv]; rfl
  generalize hfw : f__law_words = fw at hw
  generalize hfs : f_said = fsd at hs
  unfold g__law_come_to
  rw [hfw, hfs]
  simp [hfl, hll]
  refine ⟨by omega, ?_⟩
  let Γ1 : List D → Gm := fun C => [some vd, some (.lst (F.map Rl.d)), some (.lst C), none, none, none, none, none]
  let Good : List D → Prop := fun C => C.Nodup ∧ ∀ x ∈ C, ∃ r ∈ F, r.h = x
  have glen : ∀ {C}, Good C → C.length ≤ F.length := fun {C} h => by
    have := nodup_le (bs := F.map Rl.h) h.1 fun x hx => by
      obtain ⟨r, hr, rfl⟩ := h.2 x hx
      exact List.mem_map.mpr ⟨r, hr, rfl⟩
    simpa using this
  have gts : ∀ {C}, Good C → ∀ x ∈ C, isTS x = true := fun {C} h x hx => by
    obtain ⟨r, hr, rfl⟩ := h.2 x hx
    exact (hF r hr).h
  refine for_rng (fun k Γ => ∃ C, Γ = Γ1 C ∧ Good C ∧ left.countP (fun x => decide (x ∉ C)) ≤ left.length - k) ⟨[], rfl, ⟨List.nodup_nil, by simp⟩, by simpa using List.countP_le_length⟩ ?_ ?_
  · rintro k Γ hk ⟨C0, rfl, hg0, hc0⟩ N hN
    simp [Γ1]
    refine for_idx (fun j Γ => ∃ C, Γ = [some vd, some (.lst (F.map Rl.d)), some (.lst C), none, none, none, none, none] ∧ Good C ∧ (∀ x ∈ C0, x ∈ C) ∧ ∀ r ∈ F.take j, Abl sd C0 r → r.h ∈ C) ⟨C0, rfl, hg0, fun _ h => h, by simp⟩ ?_ ?_
    · rintro j d Γ hj ⟨C, rfl, hg, hsub, hdone⟩ N2 hN2
      rw [List.getElem?_map] at hj
      obtain ⟨r, hrj, rfl⟩ := Option.map_eq_some_iff.mp hj
      have hrm := List.mem_of_getElem? hrj
      have hro := hF r hrm
      have tk : ∀ r', r' ∈ F.take (j + 1) ↔ r' ∈ F.take j ∨ r' = r := fun y => by rw [List.take_add_one, hrj]; simp
      have hwr := hw hro
      have pl1 : ∀ y ∈ r.ys.map sd, y.pl 8 = true := fun y hy => by
        obtain ⟨z, _, rfl⟩ := List.mem_map.mp hy
        exact s_pl8 (hS z)
      have pl2 : ∀ y ∈ r.ns.map sd, y.pl 8 = true := fun y hy => by
        obtain ⟨z, _, rfl⟩ := List.mem_map.mp hy
        exact s_pl8 (hS z)
      have cts := gts hg
      have cl := glen hg
      refine set_seq (.tup [.lst (r.ys.map sd), .lst (r.ns.map sd)]) (by simp [hwr]) ?_
      let a : Bool := decide ((∀ y ∈ r.ys, sd y ≠ noS) ∧ ∀ y ∈ r.ns, sd y ≠ yesS)
      refine set_seq (.bl a) ?_ ?_
      · simp only [w_eAnd, w_e2, w_eC, w_eV, List.set_cons_succ, List.set_cons_zero, List.getElem?_cons_zero, List.getElem?_cons_succ, w_ixT, atI0, atI1, w_notIn, in_pl (s_pl8 (x := noS) rfl) pl1, in_pl (s_pl8 (x := yesS) rfl) pl2]
        by_cases c1 : noS ∈ r.ys.map sd
        · simp only [c1, decide_true, Bool.not_true]
          show D.bl false = .bl a
          congr 1
          refine (decide_eq_false fun h => ?_).symm
          obtain ⟨z, hz, e⟩ := List.mem_map.mp c1
          exact h.1 z hz e
        · simp only [c1, decide_false, Bool.not_false]
          congr 1
          by_cases c2 : yesS ∈ r.ns.map sd
          · rw [decide_eq_true c2]
            refine (decide_eq_false fun h => ?_).symm
            obtain ⟨z, hz, e⟩ := List.mem_map.mp c2
            exact h.2 z hz e
          · rw [decide_eq_false c2]
            refine (decide_eq_true ⟨fun y hy e => c1 (List.mem_map.mpr ⟨y, hy, e⟩), fun y hy e => c2 (List.mem_map.mpr ⟨y, hy, e⟩)⟩).symm
      simp only [List.set_cons_succ, List.set_cons_zero]
      let b : Bool := a && r.ys.all fun y => decide (sd y = openS → y ∈ C)
      refine seq_wp (fun Γ => Γ = [some vd, some (.lst (F.map Rl.d)), some (.lst C), none, some r.d, none, some (.bl b), none]) ?_ ?_
      · intro N3 hN3
        simp only [w_for, w_lE, w_e2, w_eV, w_eC, List.getElem?_cons_zero, List.getElem?_cons_succ, clr_cons, clr_nil]
        rw [Rl.d]
        simp only [w_ixT, atI2, w_itT]
        refine for_idx (fun m Γ => Γ = [some vd, some (.lst (F.map Rl.d)), some (.lst C), none, some (.tup [.int r.n, r.h, .tup r.ys, .tup r.ns]), none, some (.bl (a && (r.ys.take m).all fun y => decide (sd y = openS → y ∈ C))), none]) (by simp) ?_ ?_
        · rintro m y Γ hm rfl N4 hN4
          have hym := List.mem_of_getElem? hm
          have hyt := hro.ys y hym
          have e1 : (r.ys.take (m + 1)).all (fun y => decide (sd y = openS → y ∈ C)) = ((r.ys.take m).all (fun y => decide (sd y = openS → y ∈ C)) && decide (sd y = openS → y ∈ C)) := by
            rw [List.take_add_one, hm]; simp
          have hn := hN4 [some vd, some (.lst (F.map Rl.d)), some (.lst C), none, some (.tup [.int r.n, r.h, .tup r.ys, .tup r.ns]), none, some (.bl (a && (r.ys.take (m + 1)).all fun y => decide (sd y = openS → y ∈ C))), some y] rfl
          rw [e1] at hn
          generalize ((r.ys.take m).all fun y => decide (sd y = openS → y ∈ C)) = q at hn ⊢
          have es := hs y hyt
          have eo : oEq (sd y) openS = .ok (.bl (decide (sd y = openS))) := oEq_pl (s_pl8 (hS y)) (s_pl8 rfl)
          simp only [w_if, w_tAnd, w_tE, w_e2, w_eM, w_eV, w_eC, w_aC, w_aN, List.set_cons_succ, List.set_cons_zero, List.getElem?_cons_zero, List.getElem?_cons_succ, ho, true_and, es, w_ok, eo, w_set, w_nil, w_notIn, in_ts hyt cts]
          by_cases c1 : sd y = openS
          · by_cases c2 : y ∈ C
            · simp [c1, c2] at hn ⊢; exact hn
            · simp [c1, c2] at hn ⊢; exact hn
          · simp [c1] at hn ⊢; exact hn
        · rintro Γ rfl
          rw [List.take_length]
          exact hN3 _ rfl
      rintro Γ rfl
      have hb : b = true ↔ Abl sd C r := by
        show (decide _ && r.ys.all _) = true ↔ _
        rw [Bool.and_eq_true, decide_eq_true_eq, List.all_eq_true]
        exact ⟨fun h => ⟨h.1.1, h.1.2, fun y hy => of_decide_eq_true (h.2 y hy)⟩, fun h => ⟨⟨h.1, h.2.1⟩, fun y hy => decide_eq_true (h.2.2 y hy)⟩⟩
      have ab0 : Abl sd C0 r → Abl sd C r := fun h => ⟨h.1, h.2.1, fun y hy e => hsub y (h.2.2 y hy e)⟩
      generalize b = b at hb
      rw [Rl.d]
      simp only [w_if, w_tAnd, w_tE, w_e2, w_eV, w_eC, List.getElem?_cons_zero, List.getElem?_cons_succ, w_ixT, atI1, w_notIn, in_ts hro.h cts, w_app, w_nil]
      by_cases c1 : b = true
      · rw [if_pos c1]
        by_cases c2 : r.h ∈ C
        · simp only [c2, decide_true, Bool.not_true, Bool.false_eq_true, if_false]
          refine hN2 _ ⟨C, rfl, hg, hsub, fun r' hr' h' => ?_⟩
          rcases (tk r').mp hr' with hr' | rfl
          · exact hdone r' hr' h'
          · exact c2
        · simp only [c2, decide_false, Bool.not_false, if_true]
          refine ⟨by unfold sizeLine; omega, hN2 _ ⟨C ++ [r.h], rfl, ⟨?_, fun x hx => ?_⟩, fun x hx => List.mem_append_left _ (hsub x hx), fun r' hr' h' => ?_⟩⟩
          · rw [List.nodup_append]
            exact ⟨hg.1, by simp, fun a ha b hb => by simp at hb; subst hb; rintro rfl; exact c2 ha⟩
          · rcases List.mem_append.mp hx with hx | hx
            · exact hg.2 x hx
            · exact ⟨r, hrm, (by simpa using hx : x = r.h).symm⟩
          · rcases (tk r').mp hr' with hr' | rfl
            · exact List.mem_append_left _ (hdone r' hr' h')
            · simp
      · rw [if_neg c1]
        simp only [Bool.false_eq_true, if_false]
        refine hN2 _ ⟨C, rfl, hg, hsub, fun r' hr' h' => ?_⟩
        rcases (tk r').mp hr' with hr' | rfl
        · exact hdone r' hr' h'
        · exact absurd (hb.mpr (ab0 h')) c1
    · rintro Γ ⟨C, rfl, hg, hsub, hdone⟩
      rw [List.length_map, List.take_length] at hdone
      refine hN _ ⟨C, rfl, hg, ?_⟩
      by_cases hz : ∃ x ∈ left, x ∉ C0
      · obtain ⟨r, hr, h1, h2, h3⟩ := hprog C0 hz
        have := countP_lt (l := left) (p := fun x => decide (x ∉ C)) (q := fun x => decide (x ∉ C0)) (fun x _ h => by
          have h := of_decide_eq_true h
          exact decide_eq_true fun h' => h (hsub x h')) ⟨r.h, h1, decide_eq_true h2, decide_eq_false fun h => h (hdone r hr h3)⟩
        omega
      · have : left.countP (fun x => decide (x ∉ C)) = 0 := by
          rw [List.countP_eq_zero]
          intro x hx h
          have h := of_decide_eq_true h
          exact h (hsub x (Classical.byContradiction fun h' => hz ⟨x, hx, h'⟩))
        omega
  · rintro Γ ⟨C, rfl, hg, hc⟩
    simp [Γ1]
    refine hR _ ⟨C, rfl, gts hg, fun x hx => ?_⟩
    have : left.countP (fun x => decide (x ∉ C)) = 0 := by omega
    rw [List.countP_eq_zero] at this
    refine Classical.byContradiction fun h => this x hx (decide_eq_true h)
end L2.Nf

namespace L2.Nf
open PySem PySem.Spec PyProof.Rows

theorem sd_cases (Y left : List D) (x : D) : sdF Y left x = yesS ∨ sdF Y left x = noS ∨ sdF Y left x = openS := by
  unfold sdF
  split
  · exact .inr (.inr rfl)
  · split
    · exact .inl rfl
    · exact .inr (.inl rfl)
theorem map_rep {sd : D → D} {c : D} {xs : List D} : xs.map sd = (List.replicate xs.length [c]).flatten ↔ ∀ x ∈ xs, sd x = c := by
  induction xs with
  | nil => simp
  | cons x xs ih =>
    simp only [List.map_cons, List.length_cons, List.replicate_succ, List.flatten_cons, List.singleton_append, List.cons.injEq, ih]
    simp
theorem k08_if2 {h n hh : D} {a b ys ns : List D} {g1 g2 vd : Option D} {N3 : Gm → Prop} {R : D → Prop} (hl : ys.length ≤ 100) (hl2 : ns.length ≤ 100)
    (hd : oNe h yesS = .ok (.bl false) ∨ (oNe h yesS = .ok (.bl true) ∧ (oEq (.lst a) (.lst (List.replicate ys.length [yesS]).flatten) = .ok (.bl false) ∨ (oEq (.lst a) (.lst (List.replicate ys.length [yesS]).flatten) = .ok (.bl true) ∧ oEq (.lst b) (.lst (List.replicate ns.length [noS]).flatten) = .ok (.bl false)))))
    (hN3 : N3 [none, g1, none, vd, g2, some (.tup [n, hh, .tup ys, .tup ns]), some (.tup [.lst a, .lst b]), some h, none, none]) :
  Wp ((sIf (tAnd' (tE (e2 oNe (eV 7) (eC (.str (PySem.Str.ofString "yes"))))) (tAnd' (tE (e2 oEq (e2 oIx (eV 6) (eC (.int 0))) (e2 oMul (eN oLst (aC (eC (.str (PySem.Str.ofString "yes"))) aN)) (eN oLen (aC (e2 oIx (eV 5) (eC (.int 2))) aN))))) (tE (e2 oEq (e2 oIx (eV 6) (eC (.int 1))) (e2 oMul (eN oLst (aC (eC (.str (PySem.Str.ofString "no"))) aN)) (eN oLen (aC (e2 oIx (eV 5) (eC (.int 3))) aN)))))))
        (sRet (eC (.bl false)))
        sNil) [none, g1, none, vd, g2, some (.tup [n, hh, .tup ys, .tup ns]), some (.tup [.lst a, .lst b]), some h, none, none]) N3 R := by
  have sz : [yesS].length * ys.length ≤ sizeLine := by simp only [List.length_singleton]; unfold sizeLine; omega
  have sz2 : [noS].length * ns.length ≤ sizeLine := by simp only [List.length_singleton]; unfold sizeLine; omega
  rcases hd with n2 | ⟨n2, e1 | ⟨e1, e2⟩⟩
  · simp -implicitDefEqProofs only [w_if, w_tAnd, w_tE, w_e2, w_eV, w_eC, List.getElem?_cons_zero, List.getElem?_cons_succ, n2, w_ok, Bool.false_eq_true, if_false, w_nil]
    exact hN3
  · simp -implicitDefEqProofs only [w_if, w_tAnd, w_tE, w_e2, w_eV, w_eC, List.getElem?_cons_zero, List.getElem?_cons_succ, n2, w_ok, if_true, w_eN, w_aC, w_aN, w_ixT, atI0, atI1, atI2, atI3, w_lenT, w_lstN, w_mulL, Int.toNat_natCast, e1, Bool.false_eq_true, if_false, w_nil]
    exact ⟨⟨by omega, by omega, sz⟩, hN3⟩
  · simp -implicitDefEqProofs only [w_if, w_tAnd, w_tE, w_e2, w_eV, w_eC, List.getElem?_cons_zero, List.getElem?_cons_succ, n2, w_ok, if_true, w_eN, w_aC, w_aN, w_ixT, atI0, atI1, atI2, atI3, w_lenT, w_lstN, w_mulL, Int.toNat_natCast, e1, e2, Bool.false_eq_true, if_false, w_nil]
    exact ⟨⟨by omega, by omega, sz⟩, ⟨by omega, by omega, sz2⟩, hN3⟩
theorem plain_k08 (ns : List Int) (hns : ns.length ≤ 63) : f_law_k08 [encI ns] = .ok (.bl true) := by
  refine is_ok (run_p fun R hR => ?_)
  have hR := hR _ rfl
  obtain ⟨th, nm, gv, rs, ep, hpg⟩ := program_is ns
  have hpa := pga hpg
  obtain ⟨Y, N, story, left, wd, ed, v⟩ := decided_is hpa
  have el := law_fl hpa
  obtain ⟨hF, hFa, hFl⟩ := flF_facts hpa
  have hgl : gv.length ≤ 3 := hpg.gl
  have hrl : rs.length ≤ 6 := hpg.rl
  have hGt : ∀ x ∈ gv.map Pn.d, isTS x = true := fun x hx => by
    obtain ⟨q, hq, rfl⟩ := List.mem_map.mp hx
    exact pn_ts (hpg.given q hq).1
  unfold pgD at ep
  generalize flF gv rs = F at ed v el hF hFa hFl
  generalize gv.map Pn.d = G at ep ed v el hGt
  generalize rs.map Ru.d = U at ep ed el
  have hlen : ∀ r ∈ F, r.ys.length ≤ 100 ∧ r.ns.length ≤ 100 := fun r hr => by
    have := hFa r hr
    unfold Rl.all at this
    simp at this; omega
  have hll : left.length ≤ 16777216 := by
    have h1 := nodup_le (bs := F.flatMap Rl.all) v.ln fun x hx => by
      obtain ⟨⟨r, hr, hx⟩, _⟩ := (v.lm x).mp hx
      exact List.mem_flatMap.mpr ⟨r, hr, hx⟩
    have h2 : (F.flatMap Rl.all).length ≤ 100 * F.length := by
      clear v el ed h1
      induction F with
      | nil => simp
      | cons r F ih =>
        have := ih (fun x hx => hF x (by simp [hx])) (fun x hx => hFa x (by simp [hx])) (by simp at hFl; omega) (fun x hx => hlen x (by simp [hx]))
        have h3 := hFa r (by simp)
        rw [List.flatMap_cons, List.length_append, List.length_cons]
        omega
    omega
  have hs : ∀ x, isTS x = true → f_said [.obj [.lst (F.map Rl.d), .lst (story.map Stp.d), .lst left, .dT wd], x] = .ok (sdF Y left x) := fun x hx => said_sd v hx
  obtain ⟨C, ec, hCt, hCl⟩ := come_is (F := F) (left := left) (sd := sdF Y left) rfl hs (fun x => sd_isS) hF (by omega) hll (fun C ⟨x, hx, hxC⟩ => by
    refine Classical.byContradiction fun hno => ?_
    have := v.cls.out (fun z => z ∈ left ∧ z ∉ C) (fun z hz => ⟨((v.lm z).mp hz.1).1, fun hg => v.y_left (v.given z hg) hz.1⟩) (fun r hr hh => ?_) x ⟨hx, hxC⟩
    · exact v.n_left this hx
    · refine Classical.byContradiction fun hb => hno ⟨r, hr, hh.1, hh.2, fun y hy e => hb (.inl ⟨y, hy, .inl ((v.no (st_y hr hy)).mp e)⟩), fun y hy e => hb (.inr ⟨y, hy, v.yes.mp e⟩), fun y hy e => ?_⟩
      exact Classical.byContradiction fun hc => hb (.inl ⟨y, hy, .inr ⟨v.opn.mp e, hc⟩⟩))
  have hw := fun {r : Rl} (h : r.ok) => words_is (vd := .obj [.lst (F.map Rl.d), .lst (story.map Stp.d), .lst left, .dT wd]) rfl hs h
  have hlt := v.lt
  have hop := fun x => (v.opn (x := x))
  have hye := fun x => (v.yes (x := x))
  have hfire : ∀ r ∈ F, (∀ y ∈ r.ys, sdF Y left y = yesS) → (∀ y ∈ r.ns, sdF Y left y = noS) → sdF Y left r.h = yesS := fun r hr h1 h2 =>
    v.yes.mpr (v.cls.fire r hr (fun y hy => v.yes.mp (h1 y hy)) fun y hy => (v.no (st_n hr hy)).mp (h2 y hy))
  have hgv : ∀ x ∈ G, sdF Y left x = yesS := fun x hx => v.yes.mpr (v.given x hx)
  have hSs : ∀ x, isS (sdF Y left x) = true := fun x => sd_isS
  have hcs := sd_cases Y left
  generalize hvd : D.obj [.lst (F.map Rl.d), .lst (story.map Stp.d), .lst left, .dT wd] = vd at ed hs ec hw
  have ho : isObj vd = true := by rw [← hvd]; rfl
  have hfl : ∀ (K : D → Prop) (X : Str → Prop), (oFld 2 vd).post K X = K (.lst left) := fun K X => by rw [← hvd]; rfl
  generalize sdF Y left = sd at hs hw hop hye hfire hgv hSs hcs
  generalize hfp : f__law_program = fp at ep
  generalize hfd : f_decided = fd at ed
  generalize hfs : f_said = fsd at hs
  generalize hfL : f__law_filled = fL at el
  generalize hfw : f__law_words = fw at hw
  generalize hfc : f__law_come_to = fc at ec
  unfold g_law_k08
  rw [hfp, hfd, hfs, hfL, hfw, hfc]
  clear hvd hfp hfd hfs hfL hfw hfc
  simp only [gm0, List.map_cons, List.map_nil, List.length_cons, List.length_nil, List.cons_append, List.nil_append, List.replicate_succ, List.replicate_zero, Nat.reduceSub, Nat.reduceAdd, Nat.zero_add]
  refine set_seq (.tup [.lst G, .lst U]) (by simp [ep]) ?_
  refine set_seq (.lst [.lst G, .lst U]) (by simp) ?_
  refine set_seq vd (by simp [ed]) ?_
  refine set_seq (.lst (F.map Rl.d)) (by simp [el]) ?_
  simp only [List.set_cons_succ, List.set_cons_zero]
  refine seq_wp (fun Γ => Γ = [none, some (.tup [.lst G, .lst U]), none, some vd, some (.lst (F.map Rl.d)), none, none, none, none, none]) ?_ ?_
  · intro N1 hN1
    simp -implicitDefEqProofs only [w_for, w_lE, w_eV, List.getElem?_cons_zero, List.getElem?_cons_succ, w_itL, clr_cons, clr_nil]
    refine for_idx (fun k Γ => Γ = [none, some (.tup [.lst G, .lst U]), none, some vd, some (.lst (F.map Rl.d)), none, none, none, none, none]) rfl ?_ ?_
    · rintro k d Γ hk rfl N2 hN2
      rw [List.getElem?_map] at hk
      obtain ⟨r, hrk, rfl⟩ := Option.map_eq_some_iff.mp hk
      have hrm := List.mem_of_getElem? hrk
      have hro := hF r hrm
      obtain ⟨hly, hln⟩ := hlen r hrm
      have ew := hw hro
      have es := hs r.h hro.h
      have hfi := hfire r hrm
      refine set_seq (.tup [.lst (r.ys.map sd), .lst (r.ns.map sd)]) (by simp [ew]) ?_
      refine set_seq (sd r.h) (by rw [Rl.d]; simp [ho, es]) ?_
      simp only [List.set_cons_succ, List.set_cons_zero]
      rw [Rl.d]
      have plL : ∀ xs : List D, (D.lst (xs.map sd)).pl 8 = true := fun xs => pl_le (n := 1) (by decide) (pl_lst fun y hy => by
        obtain ⟨z, _, rfl⟩ := List.mem_map.mp hy
        exact isS_pl (hSs z))
      have plR : ∀ (n : Nat) (c : D), isS c = true → (D.lst (List.replicate n [c]).flatten).pl 8 = true := fun n c hc => pl_le (n := 1) (by decide) (pl_lst fun y hy => by
        have : y = c := by
          obtain ⟨l, h1, h2⟩ := List.mem_flatten.mp hy
          rw [List.eq_of_mem_replicate h1] at h2
          simpa using h2
        rw [this]; exact isS_pl hc)
      have e1 : oEq (.lst (r.ys.map sd)) (.lst (List.replicate r.ys.length [yesS]).flatten) = .ok (.bl (decide (∀ y ∈ r.ys, sd y = yesS))) := by
        rw [oEq_pl (plL _) (plR _ _ rfl)]
        congr 2
        exact decide_eq_decide.mpr (by rw [← map_rep]; exact ⟨D.lst.inj, fun h => by rw [h]⟩)
      have e2 : oEq (.lst (r.ns.map sd)) (.lst (List.replicate r.ns.length [noS]).flatten) = .ok (.bl (decide (∀ y ∈ r.ns, sd y = noS))) := by
        rw [oEq_pl (plL _) (plR _ _ rfl)]
        congr 2
        exact decide_eq_decide.mpr (by rw [← map_rep]; exact ⟨D.lst.inj, fun h => by rw [h]⟩)
      have t1 : dTy (sd r.h) = "str" := by rcases hcs r.h with e | e | e <;> rw [e] <;> rfl
      have m1 : sd r.h ∈ [yesS, noS, openS] := by rcases hcs r.h with e | e | e <;> rw [e] <;> simp
      have hm : ∀ (k : Bool → Prop) (X : Str → Prop), (oHas (sd r.h) (.lst [yesS, noS, openS])).post k X = k true := fun k X => by
        rw [in_pl (s_pl8 (hSs _)) (fun y hy => by
          simp at hy
          rcases hy with rfl | rfl | rfl <;> exact s_pl8 rfl), decide_eq_true m1]
      have n1 : oNe (sd r.h) yesS = .ok (.bl (!decide (sd r.h = yesS))) := ne_part (hSs _) rfl
      have o1 : oEq (sd r.h) openS = .ok (.bl (decide (sd r.h = openS))) := oEq_pl (s_pl8 (hSs _)) (s_pl8 rfl)
      have o2 := oNe_bl
      have o3 := hop r.h
      have hd3 : decide (sd r.h = openS) = decide (r.h ∈ left) := decide_eq_decide.mpr o3
      have sz : [yesS].length * r.ys.length ≤ sizeLine := by simp only [List.length_singleton]; unfold sizeLine; omega
      have sz2 : [noS].length * r.ns.length ≤ sizeLine := by simp only [List.length_singleton]; unfold sizeLine; omega
      have b1 : -(2 ^ 63) ≤ (r.ys.length : Int) ∧ (r.ys.length : Int) < 2 ^ 63 := by omega
      have b2 : -(2 ^ 63) ≤ (r.ns.length : Int) ∧ (r.ns.length : Int) < 2 ^ 63 := by omega
      have fin := hN2 [none, some (.tup [.lst G, .lst U]), none, some vd, some (.lst (F.map Rl.d)), some (.tup [.int r.n, r.h, .tup r.ys, .tup r.ns]), some (.tup [.lst (r.ys.map sd), .lst (r.ns.map sd)]), some (sd r.h), none, none] rfl
      clear hN2
      revert fin
      generalize some (D.lst (F.map Rl.d)) = q4
      generalize some (D.tup [.lst G, .lst U]) = q1
      intro fin
      refine seq_wp (fun Γ => Γ = [none, q1, none, some vd, q4, some (.tup [.int r.n, r.h, .tup r.ys, .tup r.ns]), some (.tup [.lst (r.ys.map sd), .lst (r.ns.map sd)]), some (sd r.h), none, none]) ?_ ?_
      · intro N3 hN3
        simp -implicitDefEqProofs only [w_if, w_tOr, w_tNot, w_tE, w_e1, w_e2, w_eN, w_aC, w_aN, w_eV, w_eC, List.getElem?_cons_zero, List.getElem?_cons_succ, w_isiL, t1, kit_ss, Bool.not_true, Bool.false_eq_true, if_false, w_notIn, w_lstN, hm, w_nil]
        exact hN3 _ rfl
      rintro Γ rfl
      refine seq_wp (fun Γ => Γ = [none, q1, none, some vd, q4, some (.tup [.int r.n, r.h, .tup r.ys, .tup r.ns]), some (.tup [.lst (r.ys.map sd), .lst (r.ns.map sd)]), some (sd r.h), none, none]) ?_ ?_
      · intro N3 hN3
        have hN3 := hN3 _ rfl
        refine k08_if2 (N3 := N3) hly hln ?_ hN3
        by_cases c0 : sd r.h = yesS
        · exact .inl (by rw [n1, decide_eq_true c0]; rfl)
        · refine .inr ⟨by rw [n1, decide_eq_false c0]; rfl, ?_⟩
          by_cases c1 : ∀ y ∈ r.ys, sd y = yesS
          · have c2 : ¬ ∀ y ∈ r.ns, sd y = noS := fun h => c0 (hfi c1 h)
            exact .inr ⟨by rw [e1, decide_eq_true c1], by rw [e2, decide_eq_false c2]⟩
          · exact .inl (by rw [e1, decide_eq_false c1])
      rintro Γ rfl
      simp -implicitDefEqProofs only [w_if, w_tE, w_e1, w_e2, w_eV, w_eC, List.getElem?_cons_zero, List.getElem?_cons_succ, w_ixT, atI1, w_in, o1, w_ok, hfl, in_ts hro.h hlt, o2, hd3, decide_true, Bool.not_true, Bool.false_eq_true, if_false, w_nil]
      exact fin
    · rintro Γ rfl
      exact hN1 _ rfl
  rintro Γ rfl
  refine set_seq (.lst C) (by simp [ec]) ?_
  simp only [List.set_cons_succ, List.set_cons_zero]
  refine seq_wp (fun Γ => Γ = [none, none, none, some vd, none, none, none, none, some (.lst C), none]) ?_ ?_
  · intro N1 hN1
    simp -implicitDefEqProofs only [w_for, w_lE, w_e2, w_eC, w_eV, List.getElem?_cons_zero, List.getElem?_cons_succ, w_ixT, atI0, w_itL, clr_cons, clr_nil]
    refine for_idx (fun k Γ => Γ = [none, none, none, some vd, none, none, none, none, some (.lst C), none]) rfl ?_ ?_
    · rintro k x Γ hk rfl N2 hN2
      have hx := List.mem_of_getElem? hk
      have es := hs x (hGt x hx)
      rw [hgv x hx] at es
      have n1 : oNe yesS yesS = .ok (.bl (!decide (yesS = yesS))) := ne_part rfl rfl
      rw [decide_eq_true rfl] at n1
      simp [ho, es, n1]
      exact hN2 _ rfl
    · rintro Γ rfl
      exact hN1 _ rfl
  rintro Γ rfl
  simp -implicitDefEqProofs only [w_ret, w_e2, w_eLc, w_lE, w_e1, w_eV, w_eN, w_aN, List.getElem?_cons_zero, List.getElem?_cons_succ, hfl, w_itL, noX_is]
  rw [comp_filter (g := fun x => false) (f := id)]
  · simp -implicitDefEqProofs only [w_ok, w_lstN]
    rw [oEq_pl]
    · simp
      exact hR
    · simp [D.pl]
    · simp [D.pl]
  · intro x hx
    refine is_ok ?_
    have hxt := hlt x hx
    have es := hs x hxt
    rw [(hop x).mpr hx] at es
    have n1 : oNe openS openS = .ok (.bl (!decide (openS = openS))) := ne_part rfl rfl
    rw [decide_eq_true rfl] at n1
    simp [in_ts hxt hCt, hCl x hx, ho, es, n1]
  · intro x hx h
    cases h
end L2.Nf

namespace L2.Nf
open PySem PySem.Spec PyProof.Rows

/-! ### going to and fro between two sets -/
/-- what follows where just the facts of H may not be denied -/
inductive Fo (F : List Rl) (G : List D) (H : D → Prop) : D → Prop where
  | given {x : D} (h : x ∈ G) : Fo F G H x
  | rule {r : Rl} (hr : r ∈ F) (hy : ∀ y ∈ r.ys, Fo F G H y) (hn : ∀ y ∈ r.ns, ¬ H y) : Fo F G H r.h
theorem Fo.mono {F : List Rl} {G : List D} {H H' : D → Prop} (h : ∀ x, H' x → H x) {x : D} (f : Fo F G H x) : Fo F G H' x := by
  induction f with
  | given h => exact .given h
  | rule hr _ hn ih => exact .rule hr ih fun y hy z => hn y hy (h y z)
/-- a list of what follows -/
structure FoL (F : List Rl) (G : List D) (H : D → Prop) (T : List D) : Prop where
  ex : ∃ A : List D, T = G ++ A ∧ A.Nodup ∧ (∀ x ∈ A, x ∉ G) ∧ ∀ x ∈ A, ∃ r ∈ F, r.h = x
  mem : ∀ x, x ∈ T ↔ Fo F G H x
theorem FoL.ts {F : List Rl} {G T : List D} {H : D → Prop} (h : FoL F G H T) (hF : ∀ r ∈ F, r.ok) (hG : ∀ g ∈ G, isTS g = true) : ∀ x ∈ T, isTS x = true := by
  obtain ⟨A, rfl, _, _, h4⟩ := h.ex
  intro x hx
  rcases List.mem_append.mp hx with hx | hx
  · exact hG x hx
  · obtain ⟨r, hr, rfl⟩ := h4 x hx
    exact (hF r hr).h
theorem FoL.len {F : List Rl} {G T : List D} {H : D → Prop} (h : FoL F G H T) : T.length ≤ G.length + F.length := by
  obtain ⟨A, rfl, h2, _, h4⟩ := h.ex
  have := nodup_le (bs := F.map Rl.h) h2 fun x hx => by
    obtain ⟨r, hr, rfl⟩ := h4 x hx
    exact List.mem_map.mpr ⟨r, hr, rfl⟩
  simp at this ⊢; omega
theorem filt_nil {xs : List D} {p : D → Bool} (h : ∀ x ∈ xs, isTS x = true) : oEq (.lst (xs.filter p)) (.lst []) = .ok (.bl (decide (∀ x ∈ xs, p x = false))) := by
  rw [oEq_pl (pl_le (n := 2) (by decide) (pl_facts fun x hx => h x (List.mem_filter.mp hx).1)) (pl_le (n := 2) (by decide) (pl_facts (fs := []) (by simp)))]
  congr 2
  refine decide_eq_decide.mpr ⟨fun e x hx => ?_, fun e => ?_⟩
  · have e := D.lst.inj e
    rw [List.filter_eq_nil_iff] at e
    exact Bool.eq_false_iff.mpr (e x hx)
  · congr 1
    rw [List.filter_eq_nil_iff]
    exact fun x hx => by rw [e x hx]; exact Bool.false_ne_true
theorem follows_is {F : List Rl} {G K : List D} (hF : ∀ r ∈ F, r.ok) (hG : ∀ g ∈ G, isTS g = true) (hK : ∀ g ∈ K, isTS g = true) (hFl : F.length ≤ 100000) (hGl : G.length ≤ 100000) :
    ∃ T, f__law_follows [.lst G, .lst (F.map Rl.d), .lst K] = .ok (.lst T) ∧ FoL F G (· ∈ K) T := by
  suffices h : Is (f__law_follows [.lst G, .lst (F.map Rl.d), .lst K]) fun d => ∃ T, d = .lst T ∧ FoL F G (· ∈ K) T by
    obtain ⟨d, e, T, rfl, h⟩ := is_ex h
    exact ⟨T, e, h⟩
  refine run_p fun R hR => ?_
  unfold g__law_follows
  let J : List D → Prop := fun A => A.Nodup ∧ (∀ x ∈ A, x ∉ G) ∧ (∀ x ∈ A, ∃ r ∈ F, r.h = x) ∧ ∀ x ∈ A, Fo F G (· ∈ K) x
  have jts : ∀ {A}, J A → ∀ x ∈ G ++ A, isTS x = true := fun {A} h x hx => by
    rcases List.mem_append.mp hx with hx | hx
    · exact hG x hx
    · obtain ⟨r, hr, rfl⟩ := h.2.2.1 x hx
      exact (hF r hr).h
  have jlen : ∀ {A}, J A → A.length ≤ F.length := fun {A} h => by
    have := nodup_le (bs := F.map Rl.h) h.1 fun x hx => by
      obtain ⟨r, hr, rfl⟩ := h.2.2.1 x hx
      exact List.mem_map.mpr ⟨r, hr, rfl⟩
    simpa using this
  let Ap : List D → Rl → Prop := fun A r => r.h ∉ G ++ A ∧ (∀ y ∈ r.ys, y ∈ G ++ A) ∧ ∀ y ∈ r.ns, y ∉ K
  let Γ1 : List D → Bool → Gm := fun A m => [none, some (.lst (F.map Rl.d)), some (.lst K), some (.lst (G ++ A)), some (.bl m), none, none, none, none]
  simp only [gm0, List.map_cons, List.map_nil, List.length_cons, List.length_nil, List.cons_append, List.nil_append, List.replicate_succ, List.replicate_zero, Nat.reduceSub, Nat.reduceAdd, Nat.zero_add]
  refine set_seq (.lst (G ++ [])) (by simp) ?_
  refine set_seq (.bl true) (by simp) ?_
  simp only [List.set_cons_succ, List.set_cons_zero]
  refine seq_wp (fun Γ => ∃ A, Γ = Γ1 A false ∧ J A ∧ ∀ r ∈ F, ¬ Ap A r) ?_ ?_
  · intro N1 hN1
    simp only [w_while, clr_cons, clr_nil]
    refine while_rel (fun n Γ => ∃ A m, Γ = Γ1 A m ∧ J A ∧ n = 2 * cnt F (G ++ A) + (if m then 1 else 0) ∧ (m = false → ∀ r ∈ F, ¬ Ap A r)) ?_ (n := 2 * cnt F (G ++ []) + 1) ⟨[], true, rfl, ⟨List.nodup_nil, by simp, by simp, by simp⟩, rfl, by simp⟩
    rintro n Γ ⟨A0, m, rfl, hJ0, rfl, hm⟩ N2 hN2
    cases m with
    | false =>
      simp only [w_tE, w_eV, Γ1, List.getElem?_cons_zero, List.getElem?_cons_succ, Bool.false_eq_true, if_false]
      exact hN1 _ ⟨A0, rfl, hJ0, hm rfl⟩
    | true =>
      simp only [w_tE, w_eV, Γ1, List.getElem?_cons_zero, List.getElem?_cons_succ, if_true]
      refine set_seq (.bl false) (by simp) ?_
      simp only [List.set_cons_succ, List.set_cons_zero, w_for, w_lE, w_eV, List.getElem?_cons_zero, List.getElem?_cons_succ, w_itL, clr_cons, clr_nil]
      refine for_idx (fun j Γ => ∃ A m, Γ = Γ1 A m ∧ J A ∧ (m = true → cnt F (G ++ A) < cnt F (G ++ A0)) ∧ (m = false → A = A0 ∧ ∀ r ∈ F.take j, ¬ Ap A0 r)) ⟨A0, false, rfl, hJ0, by simp, fun _ => ⟨rfl, by simp⟩⟩ ?_ ?_
      · rintro j d Γ hj ⟨A, m, rfl, hJ, h1, h2⟩ N3 hN3
        rw [List.getElem?_map] at hj
        obtain ⟨r, hrj, rfl⟩ := Option.map_eq_some_iff.mp hj
        have hrm := List.mem_of_getElem? hrj
        have hro := hF r hrm
        have tk : ∀ r', r' ∈ F.take (j + 1) ↔ r' ∈ F.take j ∨ r' = r := fun y => by rw [List.take_add_one, hrj]; simp
        have hts := jts hJ
        have hal := jlen hJ
        have e1 : compD 8 (tE (e2 oNotIn (eV 8) (eV 3))) (eV 8) [none, some (.lst (F.map Rl.d)), some (.lst K), some (.lst (G ++ A)), some (.bl m), some r.d, none, none, none] r.ys = .ok ((r.ys.filter fun y => decide (y ∉ G ++ A)).map id) := by
          refine comp_filter (fun y hy => is_ok ?_) (fun y hy _ => is_ok ?_)
          · simp only [w_tE, w_e2, w_eV, List.set_cons_succ, List.set_cons_zero, List.getElem?_cons_zero, List.getElem?_cons_succ, w_notIn, in_ts (hro.ys y hy) hts]
            simp only [decide_not]
          · simp only [w_eV, List.set_cons_succ, List.set_cons_zero, List.getElem?_cons_zero, List.getElem?_cons_succ]
            rfl
        have e2 : compD 8 (tE (e2 oIn (eV 8) (eV 2))) (eV 8) [none, some (.lst (F.map Rl.d)), some (.lst K), some (.lst (G ++ A)), some (.bl m), some r.d, some (.lst (r.ys.filter fun y => decide (y ∉ G ++ A))), none, none] r.ns = .ok ((r.ns.filter fun y => decide (y ∈ K)).map id) := by
          refine comp_filter (fun y hy => is_ok ?_) (fun y hy _ => is_ok ?_)
          · simp only [w_tE, w_e2, w_eV, List.set_cons_succ, List.set_cons_zero, List.getElem?_cons_zero, List.getElem?_cons_succ, w_in, in_ts (hro.ns y hy) hK]
          · simp only [w_eV, List.set_cons_succ, List.set_cons_zero, List.getElem?_cons_zero, List.getElem?_cons_succ]
            rfl
        rw [List.map_id] at e1 e2
        simp only [Γ1]
        refine set_seq (.lst (r.ys.filter fun y => decide (y ∉ G ++ A))) ?_ ?_
        · simp only [w_eLc, w_lE, w_e2, w_eV, w_eC, List.set_cons_succ, List.set_cons_zero, List.getElem?_cons_zero, List.getElem?_cons_succ]
          rw [Rl.d] at e1 ⊢
          simp only [w_ixT, atI2, w_itT, e1, noX_is, w_ok]
        refine set_seq (.lst (r.ns.filter fun y => decide (y ∈ K))) ?_ ?_
        · simp only [w_eLc, w_lE, w_e2, w_eV, w_eC, List.set_cons_succ, List.set_cons_zero, List.getElem?_cons_zero, List.getElem?_cons_succ]
          rw [Rl.d] at e2 ⊢
          simp only [w_ixT, atI3, w_itT, e2, noX_is, w_ok]
        simp only [List.set_cons_succ, List.set_cons_zero]
        have n1 := filt_nil (p := fun y => decide (y ∉ G ++ A)) hro.ys
        have n2 := filt_nil (p := fun y => decide (y ∈ K)) hro.ns
        rw [Rl.d]
        have hno : ¬ Ap A r → N3 [none, some (.lst (F.map Rl.d)), some (.lst K), some (.lst (G ++ A)), some (.bl m), some (.tup [.int r.n, r.h, .tup r.ys, .tup r.ns]), some (.lst (r.ys.filter fun y => decide (y ∉ G ++ A))), some (.lst (r.ns.filter fun y => decide (y ∈ K))), none] := fun hn => by
          refine hN3 _ ⟨A, m, rfl, hJ, h1, fun hm' => ?_⟩
          obtain ⟨rfl, h3⟩ := h2 hm'
          refine ⟨rfl, fun r' hr' => ?_⟩
          rcases (tk r').mp hr' with hr' | rfl
          · exact h3 r' hr'
          · exact hn
        have hyes : Ap A r → N3 [none, some (.lst (F.map Rl.d)), some (.lst K), some (.lst (G ++ A ++ [r.h])), some (.bl true), some (.tup [.int r.n, r.h, .tup r.ys, .tup r.ns]), some (.lst (r.ys.filter fun y => decide (y ∉ G ++ A))), some (.lst (r.ns.filter fun y => decide (y ∈ K))), none] := fun hy => by
          refine hN3 _ ⟨A ++ [r.h], true, by rw [List.append_assoc]; rfl, ⟨?_, ?_, ?_, ?_⟩, fun _ => ?_, by simp⟩
          · rw [List.nodup_append]
            exact ⟨hJ.1, by simp, fun a ha b hb => by simp at hb; subst hb; rintro rfl; exact hy.1 (List.mem_append_right _ ha)⟩
          · intro x hx
            rcases List.mem_append.mp hx with hx | hx
            · exact hJ.2.1 x hx
            · rw [List.mem_singleton.mp hx]; exact fun hg => hy.1 (List.mem_append_left _ hg)
          · intro x hx
            rcases List.mem_append.mp hx with hx | hx
            · exact hJ.2.2.1 x hx
            · exact ⟨r, hrm, (List.mem_singleton.mp hx).symm⟩
          · intro x hx
            rcases List.mem_append.mp hx with hx | hx
            · exact hJ.2.2.2 x hx
            · rw [List.mem_singleton.mp hx]
              refine .rule hrm (fun y hy' => ?_) hy.2.2
              rcases List.mem_append.mp (hy.2.1 y hy') with h | h
              · exact .given h
              · exact hJ.2.2.2 y h
          · have hlt := cnt_lt hrm hy.1
            rw [← List.append_assoc]
            cases m with
            | true => exact Nat.lt_trans hlt (h1 rfl)
            | false => obtain ⟨rfl, _⟩ := h2 rfl; exact hlt
        have c2 : (∀ y ∈ r.ys, decide (y ∉ G ++ A) = false) ↔ ∀ y ∈ r.ys, y ∈ G ++ A := by
          constructor
          · intro h y hy
            have := of_decide_eq_false (h y hy)
            exact Classical.byContradiction this
          · intro h y hy
            exact decide_eq_false fun z => z (h y hy)
        have c3 : (∀ y ∈ r.ns, decide (y ∈ K) = false) ↔ ∀ y ∈ r.ns, y ∉ K := by
          constructor
          · intro h y hy
            exact of_decide_eq_false (h y hy)
          · intro h y hy
            exact decide_eq_false (h y hy)
        have hgl : (G ++ A).length < sizeLine := by rw [List.length_append]; unfold sizeLine; omega
        by_cases d1 : r.h ∈ G ++ A
        · simp -implicitDefEqProofs only [w_if, w_tAnd, w_tE, w_e2, w_eV, w_eC, w_eN, w_aN, w_lstN, List.getElem?_cons_zero, List.getElem?_cons_succ, w_ixT, atI1, w_notIn, in_ts hro.h hts, d1, decide_true, Bool.not_true, Bool.false_eq_true, if_false, w_nil]
          exact hno fun h => h.1 d1
        · by_cases d2 : ∀ y ∈ r.ys, y ∈ G ++ A
          · rw [decide_eq_true (c2.mpr d2)] at n1
            by_cases d3 : ∀ y ∈ r.ns, y ∉ K
            · rw [decide_eq_true (c3.mpr d3)] at n2
              simp -implicitDefEqProofs only [w_if, w_tAnd, w_tE, w_e2, w_eV, w_eC, w_eN, w_aN, w_lstN, List.getElem?_cons_zero, List.getElem?_cons_succ, w_ixT, atI1, w_notIn, in_ts hro.h hts, d1, decide_false, Bool.not_false, if_true, n1, n2, w_ok, w_seq, w_app, w_set, List.set_cons_succ, List.set_cons_zero]
              exact ⟨hgl, hyes ⟨d1, d2, d3⟩⟩
            · rw [decide_eq_false (fun h => d3 (c3.mp h))] at n2
              simp -implicitDefEqProofs only [w_if, w_tAnd, w_tE, w_e2, w_eV, w_eC, w_eN, w_aN, w_lstN, List.getElem?_cons_zero, List.getElem?_cons_succ, w_ixT, atI1, w_notIn, in_ts hro.h hts, d1, decide_false, Bool.not_false, if_true, n1, n2, w_ok, Bool.false_eq_true, if_false, w_nil]
              exact hno fun h => d3 h.2.2
          · rw [decide_eq_false (fun h => d2 (c2.mp h))] at n1
            simp -implicitDefEqProofs only [w_if, w_tAnd, w_tE, w_e2, w_eV, w_eC, w_eN, w_aN, w_lstN, List.getElem?_cons_zero, List.getElem?_cons_succ, w_ixT, atI1, w_notIn, in_ts hro.h hts, d1, decide_false, Bool.not_false, if_true, n1, w_ok, Bool.false_eq_true, if_false, w_nil]
            exact hno fun h => d2 h.2.1
      · rintro Γ ⟨A, m, rfl, hJ, h1, h2⟩
        rw [List.length_map, List.take_length] at h2
        refine hN2 (2 * cnt F (G ++ A) + (if m then 1 else 0)) _ ?_ ⟨A, m, by cases m <;> rfl, hJ, rfl, fun h => ?_⟩
        · cases m with
          | true => have := h1 rfl; simp; omega
          | false => obtain ⟨rfl, _⟩ := h2 rfl; simp
        · obtain ⟨rfl, h3⟩ := h2 h
          exact h3
  rintro Γ ⟨A, rfl, hJ, hno⟩
  simp only [w_ret, w_eV, Γ1, List.getElem?_cons_zero, List.getElem?_cons_succ]
  refine hR _ ⟨_, rfl, ⟨A, rfl, hJ.1, hJ.2.1, hJ.2.2.1⟩, fun x => ⟨fun hx => ?_, fun h => ?_⟩⟩
  · rcases List.mem_append.mp hx with hx | hx
    · exact .given hx
    · exact hJ.2.2.2 x hx
  · induction h with
    | given h => exact List.mem_append_left _ h
    | @rule r hr _ hn ih => exact Classical.byContradiction fun hc => hno r hr ⟨hc, ih, hn⟩
end L2.Nf

namespace L2.Nf
open PySem PySem.Spec PyProof.Rows

theorem low {F : List Rl} {G Y N : List D} (cls : Closed F G (· ∈ Y) (· ∈ N)) {S : D → Prop} (h : ∀ x, S x → x ∈ Y) {x : D} (hs : Stands F x) (hn : ¬ Fo F G S x) : x ∈ N := by
  refine cls.out (fun x => Stands F x ∧ ¬ Fo F G S x) (fun x hx => ⟨hx.1, fun hg => hx.2 (.given hg)⟩) (fun r hr hu => ?_) x ⟨hs, hn⟩
  refine Classical.byContradiction fun hc => hu.2 (.rule hr (fun y hy => ?_) fun y hy hS => ?_)
  · exact Classical.byContradiction fun hf => hc (.inl ⟨y, hy, .inr ⟨st_y hr hy, hf⟩⟩)
  · exact hc (.inr ⟨y, hy, h y hS⟩)
theorem up {F : List Rl} {G Y N : List D} (cls : Closed F G (· ∈ Y) (· ∈ N)) {H : D → Prop} (h : ∀ x, Stands F x → ¬ H x → x ∈ N) {x : D} (f : Fo F G H x) : x ∈ Y := by
  induction f with
  | given h => exact cls.given _ h
  | @rule r hr hy hn ih => exact cls.fire r hr ih fun y hy => h y (st_n hr hy) (hn y hy)
theorem same_len {A B : List D} (ha : A.Nodup) (hb : B.Nodup) (h : ∀ x ∈ A, x ∈ B) (hl : B.length ≤ A.length) : ∀ x ∈ B, x ∈ A := by
  intro x hx
  refine Classical.byContradiction fun hn => ?_
  have := nodup_le (as := x :: A) (bs := B) (List.nodup_cons.mpr ⟨hn, ha⟩) fun y hy => by
    rcases List.mem_cons.mp hy with rfl | hy
    · exact hx
    · exact h y hy
  simp at this; omega
theorem sets_is {F : List Rl} {G Y N : List D} (w : Way F G Y N) (cls : Closed F G (· ∈ Y) (· ∈ N)) (hF : ∀ r ∈ F, r.ok) (hG : ∀ g ∈ G, isTS g = true) (hFl : F.length ≤ 100000) (hGl : G.length ≤ 100000) :
    ∃ S W, f__law_sets [.lst G, .lst (F.map Rl.d)] = .ok (.tup [.lst S, .lst W]) ∧ (∀ x ∈ S, isTS x = true) ∧ (∀ x ∈ W, isTS x = true) ∧ (∀ x, x ∈ S ↔ x ∈ Y) ∧ ∀ x, x ∈ G ∨ Stands F x → (x ∈ W ↔ x ∉ N) := by
  suffices h : Is (f__law_sets [.lst G, .lst (F.map Rl.d)]) fun d => ∃ S W, d = .tup [.lst S, .lst W] ∧ (∀ x ∈ S, isTS x = true) ∧ (∀ x ∈ W, isTS x = true) ∧ (∀ x, x ∈ S ↔ x ∈ Y) ∧ ∀ x, x ∈ G ∨ Stands F x → (x ∈ W ↔ x ∉ N) by
    obtain ⟨d, e, S, W, rfl, h⟩ := is_ex h
    exact ⟨S, W, e, h⟩
  refine run_p fun R hR => ?_
  have hfo := fun {K : List D} (hK : ∀ g ∈ K, isTS g = true) => follows_is (F := F) (G := G) (K := K) hF hG hK hFl hGl
  generalize hff : f__law_follows = ff at hfo
  unfold g__law_sets
  rw [hff]
  simp only [gm0, List.map_cons, List.map_nil, List.length_cons, List.length_nil, List.cons_append, List.nil_append, List.replicate_succ, List.replicate_zero, Nat.reduceSub, Nat.reduceAdd, Nat.zero_add]
  refine set_seq (.lst []) (by simp) ?_
  simp only [List.set_cons_succ, List.set_cons_zero, Wp, w_while, clr_cons, clr_nil]
  refine while_rel (fun n Γ => ∃ S, Γ = [some (.lst G), some (.lst (F.map Rl.d)), some (.lst S), none, none] ∧ n = G.length + F.length - S.length ∧ S.length ≤ G.length + F.length ∧ (∀ x ∈ S, isTS x = true) ∧ (∀ x ∈ S, x ∈ Y) ∧ (∀ x ∈ S, Fo F G (Fo F G (· ∈ S)) x) ∧ (S = [] ∨ ∃ H, FoL F G H S)) ?_ (n := G.length + F.length - 0) ⟨[], rfl, rfl, by simp, by simp, by simp, by simp, .inl rfl⟩
  rintro n Γ ⟨S, rfl, rfl, hl, ht, hy, hm, hst⟩ N2 hN2
  simp only [w_tE, w_eC, if_true]
  obtain ⟨W, e1, l1⟩ := hfo ht
  have wts := l1.ts hF hG
  obtain ⟨S', e2, l2⟩ := hfo wts
  have sts := l2.ts hF hG
  have sl := l2.len
  have wl := l1.len
  have lw : ∀ x, Stands F x → x ∉ W → x ∈ N := fun x hs hn => low cls hy hs fun f => hn ((l1.mem x).mpr f)
  have sy : ∀ x ∈ S', x ∈ Y := fun x hx => up cls lw ((l2.mem x).mp hx)
  have mm : ∀ x, Fo F G (· ∈ W) x ↔ Fo F G (Fo F G (· ∈ S)) x := fun x => ⟨Fo.mono fun z h => (l1.mem z).mpr h, Fo.mono fun z h => (l1.mem z).mp h⟩
  have sub : ∀ x ∈ S, x ∈ S' := fun x hx => (l2.mem x).mpr ((mm x).mpr (hm x hx))
  have up2 : ∀ x ∈ S', Fo F G (Fo F G (· ∈ S')) x := fun x hx => ((mm x).mp ((l2.mem x).mp hx)).mono fun z h => h.mono fun y hy => sub y hy
  -- the length tells it
  have len : S.length ≤ S'.length ∧ (S'.length = S.length → ∀ x ∈ S', x ∈ S) := by
    obtain ⟨A', e', nd', ng', _⟩ := l2.ex
    rcases hst with rfl | ⟨H, hl⟩
    · refine ⟨by simp, fun h => ?_⟩
      have : S' = [] := List.length_eq_zero_iff.mp (by simpa using h)
      rw [this]; simp
    · obtain ⟨A, e, nd, ng, _⟩ := hl.ex
      have h1 : ∀ x ∈ A, x ∈ A' := fun x hx => by
        have := sub x (by rw [e]; exact List.mem_append_right _ hx)
        rw [e'] at this
        rcases List.mem_append.mp this with h | h
        · exact absurd h (ng x hx)
        · exact h
      have h2 := nodup_le nd h1
      rw [e, e', List.length_append, List.length_append]
      refine ⟨by omega, fun h x hx => ?_⟩
      rcases List.mem_append.mp hx with hx | hx
      · exact List.mem_append_left _ hx
      · exact List.mem_append_right _ (same_len nd nd' h1 (by omega) x hx)
  refine set_seq (.lst W) (by simp [e1]) ?_
  refine set_seq (.lst S') (by simp [e2]) ?_
  simp only [List.set_cons_succ, List.set_cons_zero]
  have eq : oEq (.int S'.length) (.int S.length) = .ok (.bl (decide (S'.length = S.length))) := by
    rw [oEq_int]
    congr 2
    exact decide_eq_decide.mpr (by omega)
  by_cases c : S'.length = S.length
  · rw [decide_eq_true c] at eq
    simp -implicitDefEqProofs only [Wp, w_seq, w_if, w_tE, w_e2, w_eN, w_aC, w_aN, w_eV, List.getElem?_cons_zero, List.getElem?_cons_succ, w_lenL, eq, w_ok, if_true, w_ret, w_tupN]
    have back := len.2 c
    have hS : ∀ x, x ∈ S ↔ Fo F G (· ∈ W) x := fun x => ⟨fun h => (l2.mem x).mp (sub x h), fun h => back x ((l2.mem x).mpr h)⟩
    have hC : Closed F G (· ∈ S) (fun x => Stands F x ∧ x ∉ W) := by
      refine ⟨fun x hx => (hS x).mpr (.given hx), fun r hr h1 h2 => (hS _).mpr (.rule hr (fun y hy => (hS y).mp (h1 y hy)) fun y hy => (h2 y hy).2), fun U hU hb x hx => ⟨(hU x hx).1, fun hw => ?_⟩⟩
      have hf := (l1.mem x).mp hw
      clear hw
      have : ∀ x, Fo F G (· ∈ S) x → ¬ U x := fun x f => by
        induction f with
        | given h => exact fun u => (hU _ u).2 h
        | @rule r hr hy hn ih =>
          intro u
          rcases hb r hr u with ⟨y, hy', h | h⟩ | ⟨y, hy', h⟩
          · exact h.2 ((l1.mem y).mpr (hy y hy'))
          · exact ih y hy' h
          · exact hn y hy' h
      exact this x hf hx
    obtain ⟨ly, ln⟩ := w.least _ _ hC
    refine hR _ ⟨S, W, rfl, ht, wts, fun x => ⟨hy x, ly x⟩, fun x hx => ⟨fun h hn => (ln x hn).2 h, fun h => ?_⟩⟩
    rcases hx with hx | hx
    · exact (l1.mem x).mpr (.given hx)
    · exact Classical.byContradiction fun hw => h (lw x hx hw)
  · rw [decide_eq_false c] at eq
    simp -implicitDefEqProofs only [Wp, w_seq, w_if, w_tE, w_e2, w_eN, w_aC, w_aN, w_eV, List.getElem?_cons_zero, List.getElem?_cons_succ, w_lenL, eq, w_ok, Bool.false_eq_true, if_false, w_nil, w_set, List.set_cons_succ, List.set_cons_zero]
    refine hN2 _ _ ?_ ⟨S', rfl, rfl, sl, sts, sy, up2, .inr ⟨_, l2⟩⟩
    have := len.1
    omega
end L2.Nf

namespace L2.Nf
open PySem PySem.Spec PyProof.Rows

/-- the facts that stand somewhere, as the laws list them -/
def stoodL (G : List D) (F : List Rl) : List D := G ++ F.flatMap Rl.all
theorem stoodL_mem {G : List D} {F : List Rl} {x : D} : x ∈ stoodL G F ↔ x ∈ G ∨ Stands F x := by
  unfold stoodL
  rw [List.mem_append, List.mem_flatMap]
  rfl
theorem flat_le {F : List Rl} (h : ∀ r ∈ F, r.all.length ≤ 100) : (F.flatMap Rl.all).length ≤ 100 * F.length := by
  induction F with
  | nil => simp
  | cons r F ih =>
    have := ih fun x hx => h x (by simp [hx])
    have h3 := h r (by simp)
    rw [List.flatMap_cons, List.length_append, List.length_cons]
    omega
theorem stoodL_ts {G : List D} {F : List Rl} (hG : ∀ g ∈ G, isTS g = true) (hF : ∀ r ∈ F, r.ok) : ∀ x ∈ stoodL G F, isTS x = true := by
  intro x hx
  rcases stoodL_mem.mp hx with h | ⟨r, hr, h⟩
  · exact hG x h
  · exact (hF r hr).all x h
theorem stoodL_step {G : List D} {F : List Rl} {k : Nat} {r : Rl} (h : F[k]? = some r) : stoodL G (F.take (k + 1)) = stoodL G (F.take k) ++ [r.h] ++ r.ys ++ r.ns := by
  unfold stoodL
  rw [List.take_add_one, h]
  simp [Rl.all]
theorem left_len {F : List Rl} {G Y N : List D} {story : List Stp} {left : List D} {w : List (List Key × D)} (v : Verd F G Y N story left w) (h : ∀ r ∈ F, r.all.length ≤ 100) : left.length ≤ 100 * F.length := by
  have h1 := nodup_le (bs := F.flatMap Rl.all) v.ln fun x hx => by
    obtain ⟨⟨r, hr, hx⟩, _⟩ := (v.lm x).mp hx
    exact List.mem_flatMap.mpr ⟨r, hr, hx⟩
  have := flat_le h
  omega
abbrev oddF : D := .tup [.str (PySem.Str.ofString "odd"), .str (PySem.Str.ofString "0")]
theorem plain_k12 (ns : List Int) (hns : ns.length ≤ 63) : f_law_k12 [encI ns] = .ok (.bl true) := by
  refine is_ok (run_p fun R hR => ?_)
  have hR := hR _ rfl
  obtain ⟨th, nm, gv, rs, ep, hpg⟩ := program_is ns
  have hpa := pga hpg
  obtain ⟨Y, N, story, left, wd, ed, v⟩ := decided_is hpa
  have el := law_fl hpa
  obtain ⟨hF, hFa, hFl⟩ := flF_facts hpa
  have hgl : gv.length ≤ 3 := hpg.gl
  have hGl : (gv.map Pn.d).length ≤ 3 := by rw [List.length_map]; exact hgl
  have hGt : ∀ x ∈ gv.map Pn.d, isTS x = true := fun x hx => by
    obtain ⟨q, hq, rfl⟩ := List.mem_map.mp hx
    exact pn_ts (hpg.given q hq).1
  unfold pgD at ep
  generalize flF gv rs = F at ed v el hF hFa hFl
  generalize gv.map Pn.d = G at ep ed v el hGt hGl
  generalize rs.map Ru.d = U at ep ed el
  have hlen : ∀ r ∈ F, r.ys.length ≤ 100 ∧ r.ns.length ≤ 100 := fun r hr => by
    have := hFa r hr
    unfold Rl.all at this
    simp at this; omega
  have hs : ∀ x, isTS x = true → f_said [.obj [.lst (F.map Rl.d), .lst (story.map Stp.d), .lst left, .dT wd], x] = .ok (sdF Y left x) := fun x hx => said_sd v hx
  obtain ⟨S, W, es, hSt, hWt, hSm, hWm⟩ := sets_is v.way v.cls hF hGt (by omega) (by omega)
  have hsd : ∀ x ∈ stoodL G F, sdF Y left x = if x ∈ S then yesS else if x ∈ W then openS else noS := fun x hx => by
    have hx := stoodL_mem.mp hx
    by_cases c1 : x ∈ S
    · rw [if_pos c1]; exact v.yes.mpr ((hSm x).mp c1)
    · have ny : x ∉ Y := fun h => c1 ((hSm x).mpr h)
      have hst : Stands F x := by
        rcases hx with h | h
        · exact absurd (v.given x h) ny
        · exact h
      rw [if_neg c1]
      by_cases c2 : x ∈ W
      · rw [if_pos c2]; exact v.opn.mpr ((v.lm x).mpr ⟨hst, ny, (hWm x hx).mp c2⟩)
      · rw [if_neg c2]
        refine (v.no hst).mpr (Classical.byContradiction fun h => c2 ((hWm x hx).mpr h))
  have hodd : oddF ∉ stoodL G F → sdF Y left oddF = noS := fun h => by
    unfold sdF
    rw [if_neg fun hl => h (stoodL_mem.mpr (.inr ((v.lm _).mp hl).1)), if_neg fun hy => h (stoodL_mem.mpr ?_)]
    rcases v.way.ysub _ hy with hg | ⟨r, hr, e⟩
    · exact .inl hg
    · exact .inr ⟨r, hr, by rw [← e]; simp [Rl.all]⟩
  have hSs : ∀ x, isS (sdF Y left x) = true := fun x => sd_isS
  have hcs := sd_cases Y left
  have hoddt : isTS oddF = true := rfl
  have hstt := stoodL_ts hGt hF
  generalize hvd : D.obj [.lst (F.map Rl.d), .lst (story.map Stp.d), .lst left, .dT wd] = vd at ed hs
  have ho : isObj vd = true := by rw [← hvd]; rfl
  generalize sdF Y left = sd at hs hsd hSs hcs hodd
  generalize hfp : f__law_program = fp at ep
  generalize hfd : f_decided = fd at ed
  generalize hfs : f_said = fsd at hs
  generalize hfL : f__law_filled = fL at el
  generalize hfw : f__law_sets = fw at es
  unfold g_law_k12
  rw [hfp, hfd, hfs, hfL, hfw]
  clear hvd hfp hfd hfs hfL hfw v
  simp only [gm0, List.map_cons, List.map_nil, List.length_cons, List.length_nil, List.cons_append, List.nil_append, List.replicate_succ, List.replicate_zero, Nat.reduceSub, Nat.reduceAdd, Nat.zero_add]
  refine set_seq (.tup [.lst G, .lst U]) (by simp [ep]) ?_
  refine set_seq (.lst [.lst G, .lst U]) (by simp) ?_
  refine set_seq vd (by simp [ed]) ?_
  refine set_seq oddF (by simp) ?_
  simp only [List.set_cons_succ, List.set_cons_zero]
  refine seq_wp (fun Γ => Γ = [some (encI ns), some (.tup [.lst G, .lst U]), some (.lst [.lst G, .lst U]), some vd, some oddF, none, none, none, none, none, none, none]) (fun N1 hN1 => by simp; exact hN1 _ rfl) ?_
  rintro Γ rfl
  refine seq_wp (fun Γ => Γ = [some (encI ns), some (.tup [.lst G, .lst U]), some (.lst [.lst G, .lst U]), some vd, some oddF, none, none, none, none, none, none, none]) (fun N1 hN1 => by simp; exact hN1 _ rfl) ?_
  rintro Γ rfl
  refine set_seq (.lst (F.map Rl.d)) (by simp [el]) ?_
  refine set_seq (.tup [.lst S, .lst W]) (by simp [es]) ?_
  refine set_seq (.lst G) (by simp) ?_
  simp only [List.set_cons_succ, List.set_cons_zero]
  generalize hod : oddF = od at hodd hoddt
  refine seq_wp (fun Γ => Γ = [none, none, none, some vd, some od, none, some (.tup [.lst S, .lst W]), some (.lst (stoodL G F)), none, none, none, none]) ?_ ?_
  · intro N1 hN1
    simp only [w_for, w_lE, w_eV, List.getElem?_cons_zero, List.getElem?_cons_succ, w_itL, clr_cons, clr_nil]
    refine for_idx (fun k Γ => Γ = [none, none, none, some vd, some od, none, some (.tup [.lst S, .lst W]), some (.lst (stoodL G (F.take k))), none, none, none, none]) (by simp [stoodL]) ?_ ?_
    · rintro k d Γ hk rfl N2 hN2
      rw [List.getElem?_map] at hk
      obtain ⟨r, hrk, rfl⟩ := Option.map_eq_some_iff.mp hk
      have hrm := List.mem_of_getElem? hrk
      have hkl := (List.getElem?_eq_some_iff.mp hrk).1
      obtain ⟨h1, h2⟩ := hlen r hrm
      have hn := hN2 [none, none, none, some vd, some od, none, some (.tup [.lst S, .lst W]), some (.lst (stoodL G (F.take (k + 1)))), some r.d, none, none, none] rfl
      rw [stoodL_step hrk] at hn
      have hb : (stoodL G (F.take k)).length ≤ 3 + 100 * 10240 := by
        unfold stoodL
        have := flat_le (F := F.take k) fun r hr => hFa r (List.mem_of_mem_take hr)
        rw [List.length_take] at this
        rw [List.length_append]; omega
      generalize stoodL G (F.take k) = A at hn hb
      rw [Rl.d] at hn ⊢
      simp -implicitDefEqProofs only [Wp, w_set, w_e2, w_eV, w_eC, w_eN, w_aC, w_aN, w_lstN, List.set_cons_succ, List.set_cons_zero, List.getElem?_cons_zero, List.getElem?_cons_succ, w_ixT, atI1, atI2, atI3, w_listT, w_addL]
      simp only [List.length_append, List.length_singleton]
      exact ⟨by unfold sizeLine; omega, by unfold sizeLine; omega, by unfold sizeLine; omega, hn⟩
    · rintro Γ rfl
      rw [List.length_map, List.take_length]
      exact hN1 _ rfl
  rintro Γ rfl
  refine seq_wp (fun Γ => Γ = [none, none, none, some vd, some od, none, some (.tup [.lst S, .lst W]), some (.lst (stoodL G F)), none, none, none, none]) ?_ ?_
  · intro N1 hN1
    generalize stoodL G F = A at hsd hstt hodd hN1
    simp only [w_for, w_lE, w_eV, List.getElem?_cons_zero, List.getElem?_cons_succ, w_itL, clr_cons, clr_nil]
    refine for_idx (fun k Γ => Γ = [none, none, none, some vd, some od, none, some (.tup [.lst S, .lst W]), some (.lst A), none, none, none, none]) rfl ?_ ?_
    · rintro k x Γ hk rfl N2 hN2
      have hx := List.mem_of_getElem? hk
      have hxt := hstt x hx
      have esd := hs x hxt
      have e1 := hsd x hx
      refine set_seq noS (by simp) ?_
      simp only [List.set_cons_succ, List.set_cons_zero]
      refine seq_wp (fun Γ => Γ = [none, none, none, some vd, some od, none, some (.tup [.lst S, .lst W]), some (.lst A), none, some x, some (if x ∈ W then openS else noS), none]) ?_ ?_
      · intro N3 hN3
        have hN3 := hN3 _ rfl
        by_cases c : x ∈ W
        · rw [if_pos c] at hN3
          simp -implicitDefEqProofs only [Wp, w_if, w_tE, w_e2, w_eV, w_eC, List.getElem?_cons_zero, List.getElem?_cons_succ, w_ixT, atI1, w_in, in_ts hxt hWt, c, decide_true, if_true, w_set, List.set_cons_succ, List.set_cons_zero]
          exact hN3
        · rw [if_neg c] at hN3
          simp -implicitDefEqProofs only [Wp, w_if, w_tE, w_e2, w_eV, w_eC, List.getElem?_cons_zero, List.getElem?_cons_succ, w_ixT, atI1, w_in, in_ts hxt hWt, c, decide_false, Bool.false_eq_true, if_false, w_nil]
          exact hN3
      rintro Γ rfl
      refine seq_wp (fun Γ => Γ = [none, none, none, some vd, some od, none, some (.tup [.lst S, .lst W]), some (.lst A), none, some x, some (sd x), none]) ?_ ?_
      · intro N3 hN3
        have hN3 := hN3 _ rfl
        rw [e1] at hN3
        by_cases c : x ∈ S
        · rw [if_pos c] at hN3
          simp -implicitDefEqProofs only [Wp, w_if, w_tE, w_e2, w_eV, w_eC, List.getElem?_cons_zero, List.getElem?_cons_succ, w_ixT, atI0, w_in, in_ts hxt hSt, c, decide_true, if_true, w_set, List.set_cons_succ, List.set_cons_zero]
          exact hN3
        · rw [if_neg c] at hN3
          simp -implicitDefEqProofs only [Wp, w_if, w_tE, w_e2, w_eV, w_eC, List.getElem?_cons_zero, List.getElem?_cons_succ, w_ixT, atI0, w_in, in_ts hxt hSt, c, decide_false, Bool.false_eq_true, if_false, w_nil]
          exact hN3
      rintro Γ rfl
      refine set_seq (sd x) (by simp [ho, esd]) ?_
      simp only [List.set_cons_succ, List.set_cons_zero]
      have t1 : dTy (sd x) = "str" := by rcases hcs x with e | e | e <;> rw [e] <;> rfl
      have n1 : oNe (sd x) (sd x) = .ok (.bl false) := by rw [ne_part (hSs x) (hSs x), decide_eq_true rfl]; rfl
      have hN2 := hN2 [none, none, none, some vd, some od, none, some (.tup [.lst S, .lst W]), some (.lst A), none, some x, some (sd x), some (sd x)] rfl
      simp -implicitDefEqProofs only [Wp, w_if, w_tOr, w_tNot, w_tE, w_e1, w_e2, w_eV, w_eC, List.getElem?_cons_zero, List.getElem?_cons_succ, w_isiL, t1, kit_ss, Bool.not_true, Bool.false_eq_true, if_false, n1, w_ok, w_nil]
      exact hN2
    · rintro Γ rfl
      exact hN1 _ rfl
  rintro Γ rfl
  have eo := hs od hoddt
  by_cases c : od ∈ stoodL G F
  · simp -implicitDefEqProofs only [Wp, w_ret, w_eOr, w_e2, w_eV, List.getElem?_cons_zero, List.getElem?_cons_succ, w_in, in_ts hoddt hstt, c, decide_true]
    exact hR
  · rw [hodd c] at eo
    have n1 : oEq noS noS = .ok (.bl true) := by rw [oEq_pl (s_pl8 rfl) (s_pl8 rfl), decide_eq_true rfl]
    simp -implicitDefEqProofs only [Wp, w_ret, w_eOr, w_e2, w_eM, w_eC, w_aC, w_aN, w_eV, List.getElem?_cons_zero, List.getElem?_cons_succ, w_in, in_ts hoddt hstt, c, decide_false, ho, true_and, eo, w_ok, n1]
    exact hR
end L2.Nf

namespace L2.Nf
open PySem PySem.Spec PyProof.Rows

/-! ### layered programs -/
theorem mark_ne' {c : Int} {i j : Nat} (hij : i < j) (hj : j < 26) {v w : Str} (h0 : Mark lets c i v) (h1 : Mark lets c j w) : v ≠ w := by
  rintro rfl
  unfold Mark at h0 h1
  have l26 : lets.cps.toList.length = 26 := by rw [← len_eq]; exact lets_len
  have key : ¬ lets.cps.toList[((c + (i : Int)).fmod 26).toNat]? = lets.cps.toList[((c + (j : Int)).fmod 26).toNat]? := by
    intro h
    have b0 := fmod_pos (a := c + (i : Int)) (n := 26) (by omega)
    have b1 := fmod_pos (a := c + (j : Int)) (n := 26) (by omega)
    have := nodup_get lets_nd (by rw [l26]; omega) h
    have f0 : (c + (i : Int)).fmod 26 = (c + (i : Int)) % 26 := Int.fmod_eq_emod_of_nonneg _ (by omega)
    have f1 : (c + (j : Int)).fmod 26 = (c + (j : Int)) % 26 := Int.fmod_eq_emod_of_nonneg _ (by omega)
    omega
  split at h0
  · rename_i h
    rw [if_pos h] at h1
    exact key (h0.symm.trans h1)
  · rename_i h
    rw [if_neg h] at h1
    split at h0
    · rename_i h'
      rw [if_pos h'] at h1
      omega
    · rename_i h'
      rw [if_neg h'] at h1
      exact key (h0.symm.trans h1)
/-- a pattern by its word's place -/
def Rk (ws : List D) (j : Nat) (q : Pn) : Prop := ws[j]? = some q.w
structure LayR (ws : List D) (r : Ru) : Prop where
  ex : ∃ k, k < 4 ∧ Rk ws k r.h ∧ (∀ q ∈ r.ys, ∃ j, j ≤ k ∧ Rk ws j q) ∧ ∀ q ∈ r.ns, ∃ j, j < k ∧ Rk ws j q
theorem atom_of_is {c k : Int} {w0 w1 w2 w3 : D} {A : List D} (h0 : isWd w0) (h1 : isWd w1) (h2 : isWd w2) (h3 : isWd w3) (hk : 0 ≤ k) (hk' : k ≤ 3) (hA : ∀ p ∈ A, Part p) (hl : 0 < A.length) (hl2 : A.length < 1000) :
    ∃ q : Pn, f__law_atom_of [.int c, .int k, .lst [w0, w1, w2, w3], .lst A] = .ok q.d ∧ Over A q ∧ Rk [w0, w1, w2, w3] k.toNat q := by
  suffices h : Is (f__law_atom_of [.int c, .int k, .lst [w0, w1, w2, w3], .lst A]) fun d => ∃ q : Pn, d = q.d ∧ Over A q ∧ Rk [w0, w1, w2, w3] k.toNat q by
    obtain ⟨d, e, q, rfl, h⟩ := is_ex h
    exact ⟨q, e, h⟩
  refine run_p fun R hR => ?_
  unfold g__law_atom_of
  have hz : (0 : Int) < A.length := by omega
  have hne : ¬ A = [] := by rintro rfl; simp at hl
  obtain ⟨x, ex, hx, hx1⟩ := mem_get (i := c.fmod A.length) hA (fmod_pos hz).1 (fmod_pos hz).2
  obtain ⟨y, ey, hy, hy1⟩ := mem_get (i := (c.fdiv A.length).fmod A.length) hA (fmod_pos hz).1 (fmod_pos hz).2
  have ok : ∀ w ps, isWd w → [w0, w1, w2, w3][k.toNat]? = some w → (∀ p ∈ ps, p = x ∨ p = y) → ps.length ≤ 3 → R (.tup (w :: ps)) := fun w ps hw hr hp hl => hR _ ⟨⟨w, ps⟩, rfl, ⟨⟨hw, fun p h => by rcases hp p h with rfl | rfl <;> assumption, hl⟩, fun p h => by rcases hp p h with rfl | rfl <;> assumption⟩, hr⟩
  have hk : k = 0 ∨ k = 1 ∨ k = 2 ∨ k = 3 := by omega
  simp [ex, ey, hne]
  refine ⟨by omega, ?_⟩
  rcases hk with rfl | rfl | rfl | rfl
  · simp; exact ok _ [x] h0 rfl (by simp) (by simp)
  · simp; exact ok _ [x, y] h1 rfl (by simp) (by simp)
  · simp; exact ok _ [x] h2 rfl (by simp) (by simp)
  · simp; exact ok _ [y, x] h3 rfl (by simp) (by simp)
/-- yeses on the way -/
structure LyY (ws A S : List D) (k n : Nat) (l : List D) (qs : List Pn) : Prop where
  eq : l = qs.map Pn.d
  ov : ∀ q ∈ qs, Over A q
  rk : ∀ q ∈ qs, ∃ j, j ≤ k ∧ Rk ws j q
  cov : ∀ s ∈ S, ∃ q ∈ qs, s ∈ q.ps
  len : qs.length ≤ n
theorem layered_is {c : Int} {w0 w1 w2 w3 n0 n1 : D} {th : List D} (h0 : isWd w0) (h1 : isWd w1) (h2 : isWd w2) (h3 : isWd w3) (s0 : isSl n0) (s1 : isSl n1) (ht : ∀ p ∈ th, isTh p) (htl : 0 < th.length) (htl2 : th.length ≤ 3) :
    ∃ r : Ru, f__law_layered_rule [.int c, .lst [w0, w1, w2, w3], .lst th, .lst [n0, n1]] = .ok r.d ∧ r.ok th [n0, n1] ∧ LayR [w0, w1, w2, w3] r := by
  suffices h : Is (f__law_layered_rule [.int c, .lst [w0, w1, w2, w3], .lst th, .lst [n0, n1]]) fun d => ∃ r : Ru, d = r.d ∧ r.ok th [n0, n1] ∧ LayR [w0, w1, w2, w3] r by
    obtain ⟨d, e, r, rfl, h⟩ := is_ex h
    exact ⟨r, e, h⟩
  refine run_p fun R hR => ?_
  have hat := fun {c k : Int} {A : List D} (hk : 0 ≤ k) (hk' : k ≤ 3) (hA : ∀ p ∈ A, Part p) (hl : 0 < A.length) (hl2 : A.length < 1000) => atom_of_is (c := c) h0 h1 h2 h3 hk hk' hA hl hl2
  generalize hfa : f__law_atom_of = fa at hat
  unfold g__law_layered_rule
  rw [hfa]
  simp only [gm0, List.map_cons, List.map_nil, List.length_cons, List.length_nil, List.cons_append, List.nil_append, List.replicate_succ, List.replicate_zero, Nat.reduceSub, Nat.reduceAdd, Nat.zero_add]
  refine set_seq (.int ((c * 48271).fmod 2147483647)) (by simp) ?_
  refine set_seq (.int ((c * 69621).fmod 998244353)) (by simp) ?_
  refine set_seq (.int ((c * 16807).fmod 1000000007)) (by simp) ?_
  generalize (c * 48271).fmod 2147483647 = one
  generalize (c * 69621).fmod 998244353 = two
  generalize (c * 16807).fmod 1000000007 = three
  simp only [List.set_cons_succ, List.set_cons_zero]
  refine seq_wp (fun Γ => ∃ k, k ≤ 2 ∧ Γ = [some (.int c), some (.lst [w0, w1, w2, w3]), some (.lst th), some (.lst [n0, n1]), some (.int one), some (.int two), some (.int three), some (.lst ([n0, n1].take k)), none, none, none, none, none, none]) ?_ ?_
  · intro N hN
    have b4 := fmod_pos (a := c) (n := 4) (by omega)
    have h4 : c.fmod 4 = 0 ∨ c.fmod 4 = 1 ∨ c.fmod 4 = 2 ∨ c.fmod 4 = 3 := by omega
    have c0 : cut [n0, n1] none (some 0) = [n0, n1].take 0 := cut_take (k := 0) (by simp)
    have c1 : cut [n0, n1] none (some 1) = [n0, n1].take 1 := cut_take (k := 1) (by simp)
    have c2 : cut [n0, n1] none (some 2) = [n0, n1].take 2 := cut_take (k := 2) (by simp)
    rcases h4 with e | e | e | e
    · simp [e, c0]; exact hN _ ⟨0, by omega, rfl⟩
    · simp [e, c1]; exact hN _ ⟨1, by omega, rfl⟩
    · simp [e, c2]; exact hN _ ⟨2, by omega, rfl⟩
    · simp [e, c1]; exact hN _ ⟨1, by omega, rfl⟩
  rintro Γ ⟨m, hm, rfl⟩
  have hSs : ∀ s ∈ [n0, n1].take m, isSl s := fun s hs => by
    have := List.mem_of_mem_take hs
    simp at this
    rcases this with rfl | rfl <;> assumption
  have hSl : ([n0, n1].take m).length = m := by rw [List.length_take]; simp; omega
  have hS2 : m = 2 → [n0, n1].take m = [n0, n1] := fun h => by subst h; rfl
  generalize hSS : [n0, n1].take m = S at hSs hSl hS2
  have hP : ∀ p ∈ th ++ S, Part p := fun p hp => by
    rcases List.mem_append.mp hp with hp | hp
    · exact .inl (ht p hp)
    · exact .inr (hSs p hp)
  have hPl : 0 < (th ++ S).length := by rw [List.length_append]; omega
  have hPl2 : (th ++ S).length < 1000 := by rw [List.length_append]; omega
  have b := fmod_pos (a := one) (n := 4) (by omega)
  refine set_seq (.lst (th ++ S)) (by simp; unfold sizeLine; omega) ?_
  refine set_seq (.int (one.fmod 4)) (by simp) ?_
  have hPS : ∀ s ∈ S, s ∈ th ++ S := fun s hs => List.mem_append_right _ hs
  generalize hkd : one.fmod 4 = kd at b
  generalize hPP : th ++ S = P at hP hPl hPl2 hPS
  simp only [List.set_cons_succ, List.set_cons_zero]
  have part : ∀ s ∈ S, Part s := fun s hs => .inr (hSs s hs)
  refine set_seq (.lst (S.map fun s => .tup [w0, s])) ?_ ?_
  · simp only [w_eLc, w_lE, w_eV, List.getElem?_cons_zero, List.getElem?_cons_succ, w_itL, noX_is]
    rw [comp_map (f := fun s => .tup [w0, s]) fun s hs => is_ok (by simp)]
    rfl
  simp only [List.set_cons_succ, List.set_cons_zero]
  refine seq_wp (fun Γ => ∃ l qs, Γ = [some (.int c), some (.lst [w0, w1, w2, w3]), some (.lst th), some (.lst [n0, n1]), some (.int one), some (.int two), some (.int three), some (.lst S), some (.lst P), some (.int kd), some (.lst l), none, none, none] ∧ LyY [w0, w1, w2, w3] P S kd.toNat 2 l qs) ?_ ?_
  · intro N hN
    have dflt : LyY [w0, w1, w2, w3] P S kd.toNat 2 (S.map fun s => .tup [w0, s]) (S.map fun s => ⟨w0, [s]⟩) := by
      refine ⟨by rw [List.map_map]; rfl, fun q hq => ?_, fun q hq => ?_, fun s hs => ⟨⟨w0, [s]⟩, List.mem_map.mpr ⟨s, hs, rfl⟩, by simp⟩, by rw [List.length_map]; omega⟩
      · obtain ⟨s, hs, rfl⟩ := List.mem_map.mp hq
        exact ⟨⟨h0, by simpa using part s hs, by simp⟩, by simpa using hPS s hs⟩
      · obtain ⟨s, hs, rfl⟩ := List.mem_map.mp hq
        exact ⟨0, Nat.zero_le _, rfl⟩
    have hno := hN _ ⟨_, _, rfl, dflt⟩
    simp [hSl]
    by_cases e2 : m = 2
    · subst e2
      have hS := hS2 rfl
      simp
      by_cases k0 : 0 < kd
      · by_cases t1 : two.fmod 2 = 1
        · have i0 : atI S 0 = some n0 := by rw [hS]; rfl
          have i1 : atI S 1 = some n1 := by rw [hS]; rfl
          simp [k0, t1, i0, i1]
          have m0 : n0 ∈ S := by rw [hS]; simp
          have m1 : n1 ∈ S := by rw [hS]; simp
          refine hN _ ⟨_, [⟨w1, [n1, n0]⟩], rfl, ⟨rfl, ?_, ?_, ?_, by simp⟩⟩
          · intro q hq
            rw [List.mem_singleton.mp hq]
            exact ⟨⟨h1, by simpa using ⟨part _ m1, part _ m0⟩, by simp⟩, by simpa using ⟨hPS _ m1, hPS _ m0⟩⟩
          · intro q hq
            rw [List.mem_singleton.mp hq]
            exact ⟨1, by omega, rfl⟩
          · intro s hs
            refine ⟨⟨w1, [n1, n0]⟩, List.mem_singleton.mpr rfl, ?_⟩
            rw [hS] at hs
            simp at hs ⊢
            rcases hs with rfl | rfl <;> simp
        · simp [k0, t1]; exact hno
      · simp [k0]; exact hno
    · have : ¬ ((m : Int) = 2) := by omega
      simp [this]; exact hno
  rintro Γ ⟨l, qs, rfl, hy⟩
  refine seq_wp (fun Γ => ∃ l qs, Γ = [some (.int c), some (.lst [w0, w1, w2, w3]), some (.lst th), some (.lst [n0, n1]), some (.int one), some (.int two), some (.int three), some (.lst S), some (.lst P), some (.int kd), some (.lst l), none, none, none] ∧ LyY [w0, w1, w2, w3] P S kd.toNat 3 l qs) ?_ ?_
  · intro N hN
    have hll : l.length ≤ 2 := by rw [hy.eq, List.length_map]; exact hy.len
    have b1 := fmod_pos (a := two.fdiv 2) (n := kd + 1) (by omega)
    by_cases t1 : three.fmod 2 = 1
    · obtain ⟨q, eq, ho, hr⟩ := hat (c := three.fdiv 2) (k := (two.fdiv 2).fmod (kd + 1)) b1.1 (by omega) hP hPl hPl2
      have : ¬ kd + 1 = 0 := by omega
      simp [t1, this, eq]
      refine ⟨by unfold sizeLine; omega, hN _ ⟨_, qs ++ [q], rfl, ⟨by rw [hy.eq]; simp, fun x hx => ?_, fun x hx => ?_, fun s hs => ?_, by have := hy.len; simp; omega⟩⟩⟩
      · rcases List.mem_append.mp hx with hx | hx
        · exact hy.ov x hx
        · rw [List.mem_singleton.mp hx]; exact ho
      · rcases List.mem_append.mp hx with hx | hx
        · exact hy.rk x hx
        · rw [List.mem_singleton.mp hx]; exact ⟨_, by omega, hr⟩
      · obtain ⟨q', h1, h2⟩ := hy.cov s hs
        exact ⟨q', List.mem_append_left _ h1, h2⟩
    · simp [t1]
      exact hN _ ⟨l, qs, rfl, hy.eq, hy.ov, hy.rk, hy.cov, by have := hy.len; omega⟩
  rintro Γ ⟨l, qs, rfl, hy⟩
  refine set_seq (.lst []) (by simp) ?_
  simp only [List.set_cons_succ, List.set_cons_zero]
  refine seq_wp (fun Γ => ∃ (l2 : List D) (ps : List Pn), Γ = [none, some (.lst [w0, w1, w2, w3]), none, none, some (.int one), some (.int two), none, none, some (.lst P), some (.int kd), some (.lst l), some (.lst l2), none, none] ∧ l2 = ps.map Pn.d ∧ (∀ q ∈ ps, Over P q) ∧ (∀ q ∈ ps, ∃ j, j < kd.toNat ∧ Rk [w0, w1, w2, w3] j q) ∧ ps.length ≤ 2) ?_ ?_
  · intro N hN
    have b50 := fmod_pos (a := three.fdiv 50) (n := 4) (by omega)
    have go : ∀ n : Nat, n ≤ 2 → Wp (forD [.any, .bor, .any, .any, .val, .val, .any, .any, .val, .val, .own, .own, .any, .any] 12
        (sIf (tE (e2 oGt (eV 9) (eC (.int 0)))) (sApp 11 (eN fa (aC (e2 oDiv (e2 oDiv (eV 5) (eC (.int 97))) (e2 oAdd (eC (.int 1)) (e2 oMul (eC (.int 9)) (eV 12)))) (aC (e2 oMod (e2 oDiv (eV 4) (eC (.int 4))) (eV 9)) (aC (eV 1) (aC (eV 8) aN)))))) sNil)
        (rngD 0 n) [none, some (.lst [w0, w1, w2, w3]), none, none, some (.int one), some (.int two), none, none, some (.lst P), some (.int kd), some (.lst l), some (.lst []), none, none]) N R := by
      intro n hn
      refine for_rng (fun k Γ => ∃ (l2 : List D) (ps : List Pn), Γ = [none, some (.lst [w0, w1, w2, w3]), none, none, some (.int one), some (.int two), none, none, some (.lst P), some (.int kd), some (.lst l), some (.lst l2), none, none] ∧ l2 = ps.map Pn.d ∧ (∀ q ∈ ps, Over P q) ∧ (∀ q ∈ ps, ∃ j, j < kd.toNat ∧ Rk [w0, w1, w2, w3] j q) ∧ ps.length ≤ k) ⟨[], [], rfl, rfl, by simp, by simp, by simp⟩ ?_ ?_
      · rintro k Γ hk ⟨l2, ps, rfl, rfl, p1, p2, p3⟩ N2 hN2
        by_cases k0 : 0 < kd
        · have b1 := fmod_pos (a := one.fdiv 4) (n := kd) k0
          obtain ⟨q, eq, ho, hr⟩ := hat (c := (two.fdiv 97).fdiv (1 + 9 * (0 + (k : Int)))) (k := (one.fdiv 4).fmod kd) b1.1 (by omega) hP hPl hPl2
          have n0 : ¬ kd = 0 := by omega
          simp at eq
          simp [k0, n0, eq]
          refine ⟨by omega, by unfold sizeLine; omega, hN2 _ ⟨_, ps ++ [q], rfl, by simp, fun x hx => ?_, fun x hx => ?_, by simp; omega⟩⟩
          · rcases List.mem_append.mp hx with hx | hx
            · exact p1 x hx
            · rw [List.mem_singleton.mp hx]; exact ho
          · rcases List.mem_append.mp hx with hx | hx
            · exact p2 x hx
            · rw [List.mem_singleton.mp hx]; exact ⟨_, by omega, hr⟩
        · simp [k0]
          exact hN2 _ ⟨_, ps, rfl, rfl, p1, p2, by omega⟩
      · rintro Γ ⟨l2, ps, rfl, rfl, p1, p2, p3⟩
        exact hN _ ⟨_, ps, rfl, rfl, p1, p2, by omega⟩
    have h4 : (three.fdiv 50).fmod 4 = 0 ∨ (three.fdiv 50).fmod 4 = 1 ∨ (three.fdiv 50).fmod 4 = 2 ∨ (three.fdiv 50).fmod 4 = 3 := by omega
    rcases h4 with e | e | e | e
    · simp [e]; exact go 0 (by omega)
    · simp [e]; exact go 1 (by omega)
    · simp [e]; exact go 1 (by omega)
    · simp [e]; exact go 2 (by omega)
  rintro Γ ⟨l2, ps, rfl, rfl, p1, p2, p3⟩
  obtain ⟨q, eq, ho, hr⟩ := hat (c := one.fdiv 16) (k := kd) b.1 (by omega) hP hPl hPl2
  simp [eq]
  refine hR _ ⟨⟨q, qs, ps⟩, by rw [hy.eq]; rfl, ⟨⟨m, by omega, ?_, ?_, ?_, ?_⟩, by show qs.length + ps.length ≤ 6; have := hy.len; omega⟩, ⟨kd.toNat, by omega, hr, hy.rk, p2⟩⟩
  · rw [hSS, hPP]; exact ho
  · rw [hSS, hPP]; exact hy.ov
  · rw [hSS, hPP]; exact p1
  · rw [hSS]; exact hy.cov
end L2.Nf

namespace L2.Nf
open PySem PySem.Spec PyProof.Rows

/-! ### word by word -/
/-- rules that go down by rank -/
structure Strat (F : List Rl) (rk : D → Nat) : Prop where
  top : ∀ r ∈ F, rk r.h < 4
  ys : ∀ r ∈ F, ∀ y ∈ r.ys, rk y ≤ rk r.h
  ns : ∀ r ∈ F, ∀ y ∈ r.ns, rk y < rk r.h
/-- told by rules up to a rank -/
inductive DT (F : List Rl) (G T : List D) (rk : D → Nat) (k : Nat) : D → Prop where
  | given {x : D} (h : x ∈ G) : DT F G T rk k x
  | rule {r : Rl} (hr : r ∈ F) (hk : rk r.h ≤ k) (hy : ∀ y ∈ r.ys, DT F G T rk k y) (hn : ∀ y ∈ r.ns, y ∉ T) : DT F G T rk k r.h
theorem DT.add {F : List Rl} {G T : List D} {rk : D → Nat} {k : Nat} (st : Strat F rk) {z : D} (hz : k ≤ rk z) {x : D} (d : DT F G T rk k x) : DT F G (T ++ [z]) rk k x := by
  induction d with
  | given h => exact .given h
  | @rule r hr hk hy hn ih =>
    refine .rule hr hk ih fun y h hm => ?_
    rcases List.mem_append.mp hm with hm | hm
    · exact hn y h hm
    · rw [List.mem_singleton.mp hm] at h
      have := st.ns r hr z h
      omega
theorem DT.up {F : List Rl} {G T : List D} {rk : D → Nat} {k k' : Nat} (h : k ≤ k') {x : D} (d : DT F G T rk k x) : DT F G T rk k' x := by
  induction d with
  | given h => exact .given h
  | rule hr hk hy hn ih => exact .rule hr (by omega) ih hn
theorem DT.fo {F : List Rl} {G T : List D} {rk : D → Nat} {k : Nat} {x : D} (d : DT F G T rk k x) : Fo F G (· ∈ T) x := by
  induction d with
  | given h => exact .given h
  | rule hr hk hy hn ih => exact .rule hr ih hn
def App (T : List D) (r : Rl) : Prop := (∀ y ∈ r.ys, y ∈ T) ∧ ∀ y ∈ r.ns, y ∉ T
/-- what is true of the told facts while rank k is at work -/
structure Tol (F : List Rl) (G T : List D) (rk : D → Nat) (k : Nat) : Prop where
  gs : ∀ x ∈ G, x ∈ T
  ex : ∃ A : List D, T = G ++ A ∧ A.Nodup ∧ ∀ x ∈ A, ∃ r ∈ F, r.h = x
  der : ∀ x ∈ T, DT F G T rk k x
  done : ∀ r ∈ F, rk r.h < k → App T r → r.h ∈ T
theorem Tol.ts {F : List Rl} {G T : List D} {rk : D → Nat} {k : Nat} (h : Tol F G T rk k) (hF : ∀ r ∈ F, r.ok) (hG : ∀ g ∈ G, isTS g = true) : ∀ x ∈ T, isTS x = true := by
  obtain ⟨A, rfl, _, h4⟩ := h.ex
  intro x hx
  rcases List.mem_append.mp hx with hx | hx
  · exact hG x hx
  · obtain ⟨r, hr, rfl⟩ := h4 x hx
    exact (hF r hr).h
theorem Tol.len {F : List Rl} {G T : List D} {rk : D → Nat} {k : Nat} (h : Tol F G T rk k) : T.length ≤ G.length + F.length := by
  obtain ⟨A, rfl, h2, h4⟩ := h.ex
  have := nodup_le (bs := F.map Rl.h) h2 fun x hx => by
    obtain ⟨r, hr, rfl⟩ := h4 x hx
    exact List.mem_map.mpr ⟨r, hr, rfl⟩
  simp at this ⊢; omega
theorem Tol.add {F : List Rl} {G T : List D} {rk : D → Nat} {k : Nat} (st : Strat F rk) (h : Tol F G T rk k) {r : Rl} (hr : r ∈ F) (hk : rk r.h = k) (hn : r.h ∉ T) (ha : App T r) : Tol F G (T ++ [r.h]) rk k := by
  refine ⟨fun x hx => List.mem_append_left _ (h.gs x hx), ?_, fun x hx => ?_, fun q hq hqk hqa => ?_⟩
  · obtain ⟨A, rfl, h2, h4⟩ := h.ex
    refine ⟨A ++ [r.h], by simp, ?_, fun x hx => ?_⟩
    · rw [List.nodup_append]
      exact ⟨h2, by simp, fun a ha b hb => by simp at hb; subst hb; rintro rfl; exact hn (List.mem_append_right _ ha)⟩
    · rcases List.mem_append.mp hx with hx | hx
      · exact h4 x hx
      · exact ⟨r, hr, (List.mem_singleton.mp hx).symm⟩
  · rcases List.mem_append.mp hx with hx | hx
    · exact (h.der x hx).add st (by omega)
    · rw [List.mem_singleton.mp hx]
      refine .rule hr (by omega) (fun y hy => (h.der y (ha.1 y hy)).add st (by omega)) fun y hy hm => ?_
      rcases List.mem_append.mp hm with hm | hm
      · exact ha.2 y hy hm
      · rw [List.mem_singleton.mp hm] at hy
        have := st.ns r hr _ hy
        omega
  · refine List.mem_append_left _ (h.done q hq hqk ⟨fun y hy => ?_, fun y hy hm => hqa.2 y hy (List.mem_append_left _ hm)⟩)
    rcases List.mem_append.mp (hqa.1 y hy) with hm | hm
    · exact hm
    · rw [List.mem_singleton.mp hm] at hy
      have := st.ys q hq _ hy
      omega
theorem told11_is {F : List Rl} {G ws : List D} {rk : D → Nat} (hF : ∀ r ∈ F, r.ok) (hG : ∀ g ∈ G, isTS g = true) (hFl : F.length ≤ 100000) (hGl : G.length ≤ 100000) (st : Strat F rk) (hwl : ws.length = 4)
    (hw : ∀ r ∈ F, ∀ k w, ws[k]? = some w → (oIx r.h (.int 0)).bind (fun x => oEq x w) = .ok (.bl (decide (rk r.h = k)))) :
    ∃ T, f__law_told_k11 [.lst G, .lst (F.map Rl.d), .lst ws] = .ok (.lst T) ∧ (∀ x ∈ T, isTS x = true) ∧ ∀ x, x ∈ T ↔ Fo F G (· ∈ T) x := by
  suffices hh : Is (f__law_told_k11 [.lst G, .lst (F.map Rl.d), .lst ws]) fun d => ∃ T, d = .lst T ∧ Tol F G T rk 4 by
    obtain ⟨d, e, T, rfl, h⟩ := is_ex hh
    refine ⟨T, e, h.ts hF hG, fun x => ⟨fun hx => (h.der x hx).fo, fun f => ?_⟩⟩
    induction f with
    | given h' => exact h.gs _ h'
    | @rule r hr hy hn ih => exact h.done r hr (st.top r hr) ⟨ih, hn⟩
  refine run_p fun R hR => ?_
  unfold g__law_told_k11
  let Γ1 : List D → Gm := fun T => [none, some (.lst (F.map Rl.d)), none, some (.lst T), none, none, none, none, none, none, none]
  simp only [gm0, List.map_cons, List.map_nil, List.length_cons, List.length_nil, List.cons_append, List.nil_append, List.replicate_succ, List.replicate_zero, Nat.reduceSub, Nat.reduceAdd, Nat.zero_add]
  refine set_seq (.lst G) (by simp) ?_
  simp only [List.set_cons_succ, List.set_cons_zero]
  refine seq_wp (fun Γ => ∃ T, Γ = Γ1 T ∧ Tol F G T rk 4) ?_ ?_
  · intro N1 hN1
    simp only [w_for, w_lE, w_eV, List.getElem?_cons_zero, List.getElem?_cons_succ, w_itL, clr_cons, clr_nil]
    refine for_idx (fun k Γ => ∃ T, Γ = Γ1 T ∧ Tol F G T rk k) ⟨G, rfl, ⟨fun x h => h, ⟨[], by simp, List.nodup_nil, by simp⟩, fun x h => .given h, fun r hr h => absurd h (Nat.not_lt_zero _)⟩⟩ ?_ ?_
    · rintro k w Γ hk ⟨T0, rfl, ht0⟩ N2 hN2
      have hk4 : k < 4 := by have := (List.getElem?_eq_some_iff.mp hk).1; omega
      let O : List Rl := F.filter fun r => decide (rk r.h = k)
      have hO : ∀ r, r ∈ O ↔ r ∈ F ∧ rk r.h = k := fun r => by simp [O]
      have hOl : O.length ≤ F.length := List.length_filter_le _ _
      have eO : (F.map Rl.d).filter (fun d => match d with | .tup [_, h, _, _] => decide (rk h = k) | _ => false) = O.map Rl.d := by
        rw [List.filter_map]
        rfl
      simp only [Γ1, List.set_cons_succ, List.set_cons_zero]
      refine set_seq (.lst (O.map Rl.d)) ?_ ?_
      · simp only [w_eLc, w_lE, w_eV, List.getElem?_cons_zero, List.getElem?_cons_succ, w_itL, noX_is]
        rw [comp_filter (g := fun d => match d with | .tup [_, h, _, _] => decide (rk h = k) | _ => false) (f := id)]
        · rw [eO, List.map_id]; rfl
        · intro d hd
          obtain ⟨r, hr, rfl⟩ := List.mem_map.mp hd
          have h1 := hw r hr k w hk
          refine is_ok ?_
          rw [Rl.d]
          simp -implicitDefEqProofs only [w_tE, w_e2, w_eV, w_eC, List.set_cons_succ, List.set_cons_zero, List.getElem?_cons_zero, List.getElem?_cons_succ, w_ixT, atI1]
          have h2 : ((oIx r.h (.int 0)).bind (fun x => oEq x w)).post (fun d => match d with | .bl b => b = decide (rk r.h = k) | _ => False) (fun _ => False) := by rw [h1]; rfl
          rw [post_bind] at h2
          exact h2
        · intro d hd _
          exact is_ok (by simp)
      simp only [List.set_cons_succ, List.set_cons_zero]
      simp only [Wp, w_for, w_lRng1, w_eN, w_aC, w_aN, w_eV, List.getElem?_cons_zero, List.getElem?_cons_succ, w_lenL, clr_cons, clr_nil, List.length_map]
      refine ⟨by omega, by omega, ?_⟩
      rw [Int.toNat_natCast]
      let Γ2 : List D → Gm := fun T => [none, some (.lst (F.map Rl.d)), none, some (.lst T), none, none, some (.lst (O.map Rl.d)), none, none, none, none]
      let Cl : List D → Prop := fun T => ∀ r ∈ O, App T r → r.h ∈ T
      refine for_rng (fun t Γ => ∃ T, Γ = Γ2 T ∧ Tol F G T rk k ∧ (Cl T ∨ O.countP (fun r => decide (r.h ∉ T)) ≤ O.length - t)) ⟨T0, rfl, ht0, .inr (by simpa using List.countP_le_length)⟩ ?_ ?_
      · rintro t Γ ht ⟨T1, rfl, ht1, hc1⟩ N3 hN3
        simp only [Wp, w_for, w_lE, w_eV, Γ2, List.set_cons_succ, List.set_cons_zero, List.getElem?_cons_zero, List.getElem?_cons_succ, w_itL, clr_cons, clr_nil]
        refine for_idx (fun j Γ => ∃ T, Γ = Γ2 T ∧ Tol F G T rk k ∧ (∀ x ∈ T1, x ∈ T) ∧ (∀ x ∈ T, x ∈ T1 ∨ rk x = k) ∧ (Cl T1 → T = T1) ∧ ∀ r ∈ O.take j, App T1 r → r.h ∈ T) ⟨T1, rfl, ht1, fun _ h => h, fun _ h => .inl h, fun _ => rfl, by simp⟩ ?_ ?_
        · rintro j d Γ hj ⟨T, rfl, htT, hsub, hback, hcl, hdone⟩ N4 hN4
          rw [List.getElem?_map] at hj
          obtain ⟨r, hrj, rfl⟩ := Option.map_eq_some_iff.mp hj
          have hrO := List.mem_of_getElem? hrj
          obtain ⟨hrF, hrk⟩ := (hO r).mp hrO
          have hro := hF r hrF
          have tk : ∀ r', r' ∈ O.take (j + 1) ↔ r' ∈ O.take j ∨ r' = r := fun y => by rw [List.take_add_one, hrj]; simp
          have hts := htT.ts hF hG
          have htl := htT.len
          have ap : App T1 r → App T r := fun h => ⟨fun y hy => hsub y (h.1 y hy), fun y hy hm => by
            rcases hback y hm with h' | h'
            · exact h.2 y hy h'
            · have := st.ns r hrF y hy
              omega⟩
          have e1 : compD 10 (tE (e2 oNotIn (eV 10) (eV 3))) (eV 10) [none, some (.lst (F.map Rl.d)), none, some (.lst T), none, some r.d, some (.lst (O.map Rl.d)), none, none, none, none] r.ys = .ok ((r.ys.filter fun y => decide (y ∉ T)).map id) := by
            refine comp_filter (fun y hy => is_ok ?_) (fun y hy _ => is_ok ?_)
            · simp only [w_tE, w_e2, w_eV, List.set_cons_succ, List.set_cons_zero, List.getElem?_cons_zero, List.getElem?_cons_succ, w_notIn, in_ts (hro.ys y hy) hts]
              simp only [decide_not]
            · simp only [w_eV, List.set_cons_succ, List.set_cons_zero, List.getElem?_cons_zero, List.getElem?_cons_succ]
              rfl
          have e2 : compD 10 (tE (e2 oIn (eV 10) (eV 3))) (eV 10) [none, some (.lst (F.map Rl.d)), none, some (.lst T), none, some r.d, some (.lst (O.map Rl.d)), none, some (.lst (r.ys.filter fun y => decide (y ∉ T))), none, none] r.ns = .ok ((r.ns.filter fun y => decide (y ∈ T)).map id) := by
            refine comp_filter (fun y hy => is_ok ?_) (fun y hy _ => is_ok ?_)
            · simp only [w_tE, w_e2, w_eV, List.set_cons_succ, List.set_cons_zero, List.getElem?_cons_zero, List.getElem?_cons_succ, w_in, in_ts (hro.ns y hy) hts]
            · simp only [w_eV, List.set_cons_succ, List.set_cons_zero, List.getElem?_cons_zero, List.getElem?_cons_succ]
              rfl
          rw [List.map_id] at e1 e2
          simp only [Γ2, List.set_cons_succ, List.set_cons_zero]
          refine set_seq (.lst (r.ys.filter fun y => decide (y ∉ T))) ?_ ?_
          · simp only [w_eLc, w_lE, w_e2, w_eV, w_eC, List.set_cons_succ, List.set_cons_zero, List.getElem?_cons_zero, List.getElem?_cons_succ]
            rw [Rl.d] at e1 ⊢
            simp only [w_ixT, atI2, w_itT, e1, noX_is, w_ok]
          refine set_seq (.lst (r.ns.filter fun y => decide (y ∈ T))) ?_ ?_
          · simp only [w_eLc, w_lE, w_e2, w_eV, w_eC, List.set_cons_succ, List.set_cons_zero, List.getElem?_cons_zero, List.getElem?_cons_succ]
            rw [Rl.d] at e2 ⊢
            simp only [w_ixT, atI3, w_itT, e2, noX_is, w_ok]
          simp only [List.set_cons_succ, List.set_cons_zero]
          have n1 := filt_nil (p := fun y => decide (y ∉ T)) hro.ys
          have n2 := filt_nil (p := fun y => decide (y ∈ T)) hro.ns
          rw [Rl.d]
          have hno : ¬ (App T r ∧ r.h ∉ T) → N4 [none, some (.lst (F.map Rl.d)), none, some (.lst T), none, some (.tup [.int r.n, r.h, .tup r.ys, .tup r.ns]), some (.lst (O.map Rl.d)), none, some (.lst (r.ys.filter fun y => decide (y ∉ T))), some (.lst (r.ns.filter fun y => decide (y ∈ T))), none] := fun hn => by
            refine hN4 _ ⟨T, rfl, htT, hsub, hback, hcl, fun r' hr' h' => ?_⟩
            rcases (tk r').mp hr' with hr' | rfl
            · exact hdone r' hr' h'
            · exact Classical.byContradiction fun h => hn ⟨ap h', h⟩
          have hyes : App T r → r.h ∉ T → N4 [none, some (.lst (F.map Rl.d)), none, some (.lst (T ++ [r.h])), none, some (.tup [.int r.n, r.h, .tup r.ys, .tup r.ns]), some (.lst (O.map Rl.d)), none, some (.lst (r.ys.filter fun y => decide (y ∉ T))), some (.lst (r.ns.filter fun y => decide (y ∈ T))), none] := fun ha hn => by
            refine hN4 _ ⟨T ++ [r.h], rfl, htT.add st hrF hrk hn ha, fun x hx => List.mem_append_left _ (hsub x hx), fun x hx => ?_, fun hc => ?_, fun r' hr' h' => ?_⟩
            · rcases List.mem_append.mp hx with hx | hx
              · exact hback x hx
              · rw [List.mem_singleton.mp hx]; exact .inr hrk
            · have e := hcl hc
              subst e
              exact absurd (hc r hrO ha) hn
            · rcases (tk r').mp hr' with hr' | rfl
              · exact List.mem_append_left _ (hdone r' hr' h')
              · simp
          have c2 : (∀ y ∈ r.ys, decide (y ∉ T) = false) ↔ ∀ y ∈ r.ys, y ∈ T := by
            constructor
            · intro h y hy
              have := of_decide_eq_false (h y hy)
              exact Classical.byContradiction this
            · intro h y hy
              exact decide_eq_false fun z => z (h y hy)
          have c3 : (∀ y ∈ r.ns, decide (y ∈ T) = false) ↔ ∀ y ∈ r.ns, y ∉ T := by
            constructor
            · intro h y hy
              exact of_decide_eq_false (h y hy)
            · intro h y hy
              exact decide_eq_false (h y hy)
          have hgl : T.length < sizeLine := by unfold sizeLine; omega
          by_cases d2 : ∀ y ∈ r.ys, y ∈ T
          · rw [decide_eq_true (c2.mpr d2)] at n1
            by_cases d3 : ∀ y ∈ r.ns, y ∉ T
            · rw [decide_eq_true (c3.mpr d3)] at n2
              by_cases d1 : r.h ∈ T
              · simp -implicitDefEqProofs only [Wp, w_if, w_tAnd, w_tE, w_e2, w_eV, w_eC, w_eN, w_aN, w_lstN, List.getElem?_cons_zero, List.getElem?_cons_succ, n1, n2, w_ok, if_true, w_ixT, atI1, w_notIn, in_ts hro.h hts, d1, decide_true, Bool.not_true, Bool.false_eq_true, if_false, w_nil]
                exact hno fun h => h.2 d1
              · simp -implicitDefEqProofs only [Wp, w_if, w_tAnd, w_tE, w_e2, w_eV, w_eC, w_eN, w_aN, w_lstN, List.getElem?_cons_zero, List.getElem?_cons_succ, n1, n2, w_ok, if_true, w_ixT, atI1, w_notIn, in_ts hro.h hts, d1, decide_false, Bool.not_false, w_app, List.set_cons_succ, List.set_cons_zero]
                exact ⟨hgl, hyes ⟨d2, d3⟩ d1⟩
            · rw [decide_eq_false (fun h => d3 (c3.mp h))] at n2
              simp -implicitDefEqProofs only [Wp, w_if, w_tAnd, w_tE, w_e2, w_eV, w_eC, w_eN, w_aN, w_lstN, List.getElem?_cons_zero, List.getElem?_cons_succ, n1, n2, w_ok, if_true, Bool.false_eq_true, if_false, w_nil]
              exact hno fun h => d3 h.1.2
          · rw [decide_eq_false (fun h => d2 (c2.mp h))] at n1
            simp -implicitDefEqProofs only [Wp, w_if, w_tAnd, w_tE, w_e2, w_eV, w_eC, w_eN, w_aN, w_lstN, List.getElem?_cons_zero, List.getElem?_cons_succ, n1, w_ok, Bool.false_eq_true, if_false, w_nil]
            exact hno fun h => d2 h.1.1
        · rintro Γ ⟨T, rfl, htT, hsub, hback, hcl, hdone⟩
          rw [List.length_map, List.take_length] at hdone
          refine hN3 _ ⟨T, rfl, htT, ?_⟩
          by_cases hc : Cl T1
          · rw [hcl hc]; exact .inl hc
          · right
            rcases hc1 with h | hc1
            · exact absurd h hc
            · have : ∃ r, r ∈ O ∧ App T1 r ∧ r.h ∉ T1 := Classical.byContradiction fun hno => hc fun r hr ha => Classical.byContradiction fun hn => hno ⟨r, hr, ha, hn⟩
              obtain ⟨r, hr, ha, hn⟩ := this
              have := countP_lt (l := O) (p := fun r => decide (r.h ∉ T)) (q := fun r => decide (r.h ∉ T1)) (fun x _ h => by
                have h := of_decide_eq_true h
                exact decide_eq_true fun h' => h (hsub _ h')) ⟨r, hr, decide_eq_true hn, decide_eq_false fun h => h (hdone r hr ha)⟩
              omega
      · rintro Γ ⟨T, rfl, htT, hc⟩
        have hc : Cl T := by
          rcases hc with h | h
          · exact h
          · have h0 : O.countP (fun r => decide (r.h ∉ T)) = 0 := by omega
            rw [List.countP_eq_zero] at h0
            intro r hr _
            exact Classical.byContradiction fun hn => h0 r hr (decide_eq_true hn)
        refine hN2 _ ⟨T, rfl, htT.gs, htT.ex, fun x hx => (htT.der x hx).up (by omega), fun r hr hrk ha => ?_⟩
        rcases Nat.lt_succ_iff_lt_or_eq.mp hrk with h | h
        · exact htT.done r hr h ha
        · exact hc r ((hO r).mpr ⟨hr, h⟩) ha
    · rintro Γ ⟨T, rfl, ht⟩
      rw [hwl] at ht
      exact hN1 _ ⟨T, rfl, ht⟩
  rintro Γ ⟨T, rfl, ht⟩
  simp only [Wp, w_ret, w_eV, Γ1, List.getElem?_cons_zero, List.getElem?_cons_succ]
  exact hR _ ⟨T, rfl, ht⟩
end L2.Nf

namespace L2.Nf
open PySem PySem.Spec PyProof.Rows

/-- by layers, nothing is open -/
theorem strat_all {F : List Rl} {G Y N T : List D} {rk : D → Nat} (st : Strat F rk) (hT : ∀ x, x ∈ T ↔ Fo F G (· ∈ T) x) (w : Way F G Y N) (cls : Closed F G (· ∈ Y) (· ∈ N)) : (∀ x, x ∈ Y ↔ x ∈ T) ∧ ∀ x, Stands F x → x ∉ T → x ∈ N := by
  have key : ∀ n, (∀ x, Fo F G (· ∈ T) x → rk x < n → x ∈ Y) ∧ ∀ x, Stands F x → rk x < n → x ∉ T → x ∈ N := by
    intro n
    induction n with
    | zero => exact ⟨fun x _ h => absurd h (Nat.not_lt_zero _), fun x _ h => absurd h (Nat.not_lt_zero _)⟩
    | succ n ih =>
      refine ⟨fun x f => ?_, fun x hs hr hn => ?_⟩
      · induction f with
        | given h => exact fun _ => cls.given _ h
        | @rule r hr hy hn ih2 =>
          intro hk
          refine cls.fire r hr (fun y hy' => ih2 y hy' (by have := st.ys r hr y hy'; omega)) fun y hy' => ih.2 y (st_n hr hy') (by have := st.ns r hr y hy'; omega) (hn y hy')
      · rcases Nat.lt_succ_iff_lt_or_eq.mp hr with h | h
        · exact ih.2 x hs h hn
        · refine cls.out (fun x => Stands F x ∧ rk x = n ∧ x ∉ T) (fun z hz => ⟨hz.1, fun hg => hz.2.2 ((hT z).mpr (.given hg))⟩) (fun r hr hu => ?_) x ⟨hs, h, hn⟩
          refine Classical.byContradiction fun hc => hu.2.2 ((hT _).mpr (.rule hr (fun y hy => (hT y).mp ?_) fun y hy hm => hc (.inr ⟨y, hy, ?_⟩)))
          · refine Classical.byContradiction fun hyT => hc (.inl ⟨y, hy, ?_⟩)
            have := st.ys r hr y hy
            rcases Nat.lt_or_eq_of_le (show rk y ≤ n by omega) with h' | h'
            · exact .inl (ih.2 y (st_y hr hy) h' hyT)
            · exact .inr ⟨st_y hr hy, h', hyT⟩
          · exact ih.1 y ((hT y).mp hm) (by have := st.ns r hr y hy; omega)
  have hC : Closed F G (· ∈ T) (fun x => Stands F x ∧ x ∉ T) := by
    refine ⟨fun x hx => (hT x).mpr (.given hx), fun r hr h1 h2 => (hT _).mpr (.rule hr (fun y hy => (hT y).mp (h1 y hy)) fun y hy => (h2 y hy).2), fun U hU hb x hx => ⟨(hU x hx).1, fun hw => ?_⟩⟩
    have : ∀ x, Fo F G (· ∈ T) x → ¬ U x := fun x f => by
      induction f with
      | given h => exact fun u => (hU _ u).2 h
      | @rule r hr hy hn ih =>
        intro u
        rcases hb r hr u with ⟨y, hy', h | h⟩ | ⟨y, hy', h⟩
        · exact h.2 ((hT y).mpr (hy y hy'))
        · exact ih y hy' h
        · exact hn y hy' h
    exact this x ((hT x).mp hw) hx
  refine ⟨fun x => ⟨fun h => (w.least _ _ hC).1 x h, fun h => (key (rk x + 1)).1 x ((hT x).mp h) (by omega)⟩, fun x hs hn => (key (rk x + 1)).2 x hs (by omega) hn⟩
noncomputable def rkW (w0 w1 w2 w3 : D) : D → Nat
  | .tup (w :: _) => if w = w0 then 0 else if w = w1 then 1 else if w = w2 then 2 else 3
  | _ => 0
structure W4 (w0 w1 w2 w3 : D) : Prop where
  h0 : isWd w0
  h1 : isWd w1
  h2 : isWd w2
  h3 : isWd w3
  n01 : w0 ≠ w1
  n02 : w0 ≠ w2
  n03 : w0 ≠ w3
  n12 : w1 ≠ w2
  n13 : w1 ≠ w3
  n23 : w2 ≠ w3
theorem rk_at {w0 w1 w2 w3 w : D} {ps : List D} (h : W4 w0 w1 w2 w3) {j : Nat} (hj : [w0, w1, w2, w3][j]? = some w) : rkW w0 w1 w2 w3 (.tup (w :: ps)) = j := by
  unfold rkW
  match j, hj with
  | 0, hj => simp at hj; subst hj; simp
  | 1, hj => simp at hj; subst hj; simp [h.n01.symm]
  | 2, hj => simp at hj; subst hj; simp [h.n02.symm, h.n12.symm]
  | 3, hj => simp at hj; subst hj; simp [h.n03.symm, h.n13.symm, h.n23.symm]
  | j + 4, hj => simp at hj
theorem wd_pl {w : D} (h : isWd w) : w.pl 8 = true := by
  obtain ⟨x, rfl, _⟩ := h
  rfl
theorem fl_strat {w0 w1 w2 w3 : D} (h : W4 w0 w1 w2 w3) {gv : List Pn} {rs : List Ru} (hl : ∀ r ∈ rs, LayR [w0, w1, w2, w3] r) :
    Strat (flF gv rs) (rkW w0 w1 w2 w3) ∧ ∀ r ∈ flF gv rs, ∀ k w, [w0, w1, w2, w3][k]? = some w → (oIx r.h (.int 0)).bind (fun x => oEq x w) = .ok (.bl (decide (rkW w0 w1 w2 w3 r.h = k))) := by
  have key : ∀ l ∈ flF gv rs, ∃ k, k < 4 ∧ rkW w0 w1 w2 w3 l.h = k ∧ (∃ w ps, l.h = .tup (w :: ps) ∧ [w0, w1, w2, w3][k]? = some w) ∧ (∀ y ∈ l.ys, rkW w0 w1 w2 w3 y ≤ k) ∧ ∀ y ∈ l.ns, rkW w0 w1 w2 w3 y < k := by
    intro l hl'
    obtain ⟨i, r, row, _, hr, _, rfl⟩ := fillK_mem hl'
    obtain ⟨k, hk, h1, h2, h3⟩ := (hl r (List.mem_of_getElem? hr)).ex
    refine ⟨k, hk, rk_at h h1, ⟨_, _, rfl, h1⟩, fun y hy => ?_, fun y hy => ?_⟩
    · obtain ⟨q, hq, rfl⟩ := List.mem_map.mp hy
      obtain ⟨j, hj, hr⟩ := h2 q hq
      show rkW w0 w1 w2 w3 (.tup (q.w :: _)) ≤ k
      rw [rk_at h hr]; exact hj
    · obtain ⟨q, hq, rfl⟩ := List.mem_map.mp hy
      obtain ⟨j, hj, hr⟩ := h3 q hq
      show rkW w0 w1 w2 w3 (.tup (q.w :: _)) < k
      rw [rk_at h hr]; exact hj
  refine ⟨⟨fun r hr => ?_, fun r hr y hy => ?_, fun r hr y hy => ?_⟩, fun r hr k w hw => ?_⟩
  · obtain ⟨k, h1, h2, _⟩ := key r hr; omega
  · obtain ⟨k, h1, h2, _, h4, _⟩ := key r hr
    have := h4 y hy; omega
  · obtain ⟨k, h1, h2, _, _, h5⟩ := key r hr
    have := h5 y hy; omega
  · obtain ⟨j, h1, h2, ⟨v, ps, e, h3⟩, _⟩ := key r hr
    have hv : ∀ {k : Nat} {w : D}, [w0, w1, w2, w3][k]? = some w → isWd w := fun {k w} hw => by
      have := List.mem_of_getElem? hw
      simp at this
      rcases this with rfl | rfl | rfl | rfl
      · exact h.h0
      · exact h.h1
      · exact h.h2
      · exact h.h3
    rw [h2, e]
    have e0 : oIx (.tup (v :: ps)) (.int 0) = .ok v := is_ok (by simp)
    rw [e0, Ro.bind_ok, oEq_pl (wd_pl (hv h3)) (wd_pl (hv hw))]
    congr 2
    refine decide_eq_decide.mpr ⟨fun e => ?_, fun e => ?_⟩
    · subst e
      have a := rk_at (ps := []) h h3
      have b := rk_at (ps := []) h hw
      omega
    · subst e
      rw [h3] at hw
      exact Option.some.inj hw
theorem lay_pga {th : List D} {n0 n1 : D} {gv : List Pn} {rs : List Ru} (ht : ∀ p ∈ th, isTh p) (htl : th.length ≤ 3) (s0 : isSl n0) (s1 : isSl n1) (hg : ∀ q ∈ gv, Over th q) (hr : ∀ r ∈ rs, r.ok th [n0, n1]) (gl : gv.length ≤ 3) (rl : rs.length ≤ 8) : PgA th [n0, n1] gv rs := by
  have hn : ∀ p ∈ [n0, n1], isSl p := fun p hp => by
    simp at hp
    rcases hp with rfl | rfl <;> assumption
  obtain ⟨_, _, h3, _⟩ := ths_ok hg ht hn hr
  have hc : cntF (thsOf gv rs) rs ≤ 27 * rs.length := cnt_le fun r h => pow27 (by omega) (sls_ok ht hn (hr r h)).2.2
  exact ⟨ht, hn, hg, hr, by omega, by omega, by omega, by omega⟩
end L2.Nf

namespace L2.Nf
open PySem PySem.Spec PyProof.Rows

theorem all2_4 {P : D → D → Prop} {a b c d : D} {ws : List D} (h : All2 P [a, b, c, d] ws) : ∃ w0 w1 w2 w3, ws = [w0, w1, w2, w3] ∧ P a w0 ∧ P b w1 ∧ P c w2 ∧ P d w3 :=
  match ws, h with
  | _, .cons h0 (.cons h1 (.cons h2 (.cons h3 .nil))) => ⟨_, _, _, _, rfl, h0, h1, h2, h3⟩
theorem w4_of {c : Int} {ws : List D} (h : All2 (fun d x => ∃ (i : Nat) (w : Str), d = .int (0 + (i : Int)) ∧ x = .str w ∧ IsW lets w ∧ Mark lets c i w) (rngD 0 4) ws) : ∃ w0 w1 w2 w3, ws = [w0, w1, w2, w3] ∧ W4 w0 w1 w2 w3 := by
    obtain ⟨_, _, _, _, rfl, a, b, c', d⟩ := all2_4 (a := D.int (0 + ((0 : Nat) : Int))) (b := D.int (0 + ((1 : Nat) : Int))) (c := D.int (0 + ((2 : Nat) : Int))) (d := D.int (0 + ((3 : Nat) : Int))) h
    obtain ⟨i0, u0, e0, rfl, a0, m0⟩ := a
    obtain ⟨i1, u1, e1, rfl, a1, m1⟩ := b
    obtain ⟨i2, u2, e2, rfl, a2, m2⟩ := c'
    obtain ⟨i3, u3, e3, rfl, a3, m3⟩ := d
    have z0 : i0 = 0 := by simp at e0; omega
    have z1 : i1 = 1 := by simp at e1; omega
    have z2 : i2 = 2 := by simp at e2; omega
    have z3 : i3 = 3 := by simp at e3; omega
    subst z0 z1 z2 z3
    have ne : ∀ {i j : Nat} {u v : Str}, i < j → j < 26 → Mark lets c i u → Mark lets c j v → D.str u ≠ D.str v := fun h1 h2 h3 h4 e => mark_ne' h1 h2 h3 h4 (D.str.inj e)
    exact ⟨_, _, _, _, rfl, ⟨u0, rfl, a0⟩, ⟨u1, rfl, a1⟩, ⟨u2, rfl, a2⟩, ⟨u3, rfl, a3⟩, ne (by omega) (by omega) m0 m1, ne (by omega) (by omega) m0 m2, ne (by omega) (by omega) m0 m3, ne (by omega) (by omega) m1 m2, ne (by omega) (by omega) m1 m3, ne (by omega) (by omega) m2 m3⟩
theorem plain_k11 (ns : List Int) (hns : ns.length ≤ 63) : f_law_k11 [encI ns] = .ok (.bl true) := by
  refine is_ok (run_p fun R hR => ?_)
  have hR := hR _ rfl
  have c0 := cell_at (ns := ns) (i := 0) (by decide)
  have c1 := cell_at (ns := ns) (i := 1) (by decide)
  have c2 := cell_at (ns := ns) (i := 2) (by decide)
  have c3 := cell_at (ns := ns) (i := 3) (by decide)
  have b3 := fmod_pos (a := cellD ns 1) (n := 3) (by omega)
  have b4 := fmod_pos (a := cellD ns 3) (n := 4) (by omega)
  unfold g_law_k11
  generalize hfd : f_decided = fd
  generalize hfs : f_said = fsd
  generalize hfL : f__law_filled = fL
  generalize hft : f__law_told_k11 = ft
  generalize hfa : f__law_atom_of = fa
  generalize hfr : f__law_layered_rule = fr
  generalize hfw : f__law_word_by = fw
  generalize hfh : f__law_thing_by = fh
  generalize hfc : f__law_cell_at = fc at c0 c1 c2 c3
  simp only [gm0, List.map_cons, List.map_nil, List.length_cons, List.length_nil, List.cons_append, List.nil_append, List.replicate_succ, List.replicate_zero, Nat.reduceSub, Nat.reduceAdd, Nat.zero_add]
  refine seq_wp (fun Γ => ∃ w0 w1 w2 w3, Γ = [some (encI ns), some (.lst [w0, w1, w2, w3]), none, none, none, none, none, none, none, none, none, none, none, none] ∧ W4 w0 w1 w2 w3) ?_ ?_
  · intro N hN
    simp
    refine comp_wp (P := fun d x => ∃ (i : Nat) (w : Str), d = .int (0 + (i : Int)) ∧ x = .str w ∧ IsW lets w ∧ Mark lets (cellD ns 0) i w) ?_ fun ws hws => ?_
    · intro d hd
      obtain ⟨i, hi, rfl⟩ := mem_rng hd
      obtain ⟨w, e, hw⟩ := word_is (c := cellD ns 0) (k := i) (by omega) (by omega)
      obtain ⟨w', e', hm⟩ := word_mk (c := cellD ns 0) (k := i) (by omega) (by omega)
      have : w = w' := by rw [e] at e'; cases e'; rfl
      subst this
      rw [hfw] at e
      simp [c0, e]
      exact ⟨i, rfl, hw, hm⟩
    · obtain ⟨w0, w1, w2, w3, rfl, h⟩ := w4_of hws
      exact hN _ ⟨w0, w1, w2, w3, rfl, h⟩
  rintro Γ ⟨w0, w1, w2, w3, rfl, hW⟩
  refine seq_wp (fun Γ => ∃ P, Γ = [some (encI ns), some (.lst [w0, w1, w2, w3]), some (.lst P), none, none, none, none, none, none, none, none, none, none, none] ∧ (∀ p ∈ P, isTh p) ∧ 0 < P.length ∧ P.length ≤ 3) ?_ ?_
  · intro N hN
    simp [c1]
    refine ⟨by omega, by omega, ?_⟩
    refine comp_wp (P := fun _ d => isTh d) ?_ fun P hP => hN _ ⟨P, rfl, hP.right fun _ _ h => h, by rw [← hP.len, rng_len]; omega, by rw [← hP.len, rng_len]; omega⟩
    intro d hd
    obtain ⟨i, hi, rfl⟩ := mem_rng hd
    obtain ⟨w, e, hw⟩ := thing_is (c := (cellD ns 1).fdiv 3) (k := i) (by omega) (by omega)
    rw [hfh] at e
    simp [c1, e]
    exact ⟨w, rfl, hw⟩
  rintro Γ ⟨th, rfl, hth, ht0, ht3⟩
  refine seq_wp (fun Γ => ∃ a b, Γ = [some (encI ns), some (.lst [w0, w1, w2, w3]), some (.lst th), some (.lst [a, b]), none, none, none, none, none, none, none, none, none, none] ∧ isSl a ∧ isSl b) ?_ ?_
  · intro N hN
    simp
    refine comp_wp (P := fun d x => isSl x) ?_ fun nm hnm => ?_
    · intro d hd
      obtain ⟨i, hi, rfl⟩ := mem_rng hd
      obtain ⟨w, e, hw⟩ := word_is (c := cellD ns 2) (k := i) (by omega) (by omega)
      rw [hfw] at e
      simp [c2, e]
      have := hw.2.1
      refine ⟨?_, w, rfl, hw⟩
      rw [show (PySem.Str.ofString "?").length = 1 from by decide +kernel]; unfold sizeLine; omega
    · have h2 := hnm.len
      rw [rng_len] at h2
      have hr := hnm.right fun _ _ h => h
      obtain ⟨a, b, rfl⟩ : ∃ a b, nm = [a, b] := by
        match nm, h2 with
        | [a, b], _ => exact ⟨a, b, rfl⟩
      exact hN _ ⟨a, b, rfl, hr a (by simp), hr b (by simp)⟩
  rintro Γ ⟨n0, n1, rfl, s0, s1⟩
  refine set_seq (.int ((cellD ns 3).fmod 4)) (by simp [c3]) ?_
  simp only [List.set_cons_succ, List.set_cons_zero]
  generalize (cellD ns 3).fmod 4 = m at b4
  have hPt : ∀ p ∈ th, Part p := fun p hp => .inl (hth p hp)
  have hci : ∀ (i j : Int), ∀ d ∈ cut (ns.map D.int) (some i) (some j), ∃ c : Int, d = .int c := fun i j d hd => by
    obtain ⟨c, _, rfl⟩ := List.mem_map.mp (cut_mem hd)
    exact ⟨c, rfl⟩
  refine seq_wp (fun Γ => ∃ gv : List Pn, Γ = [some (encI ns), some (.lst [w0, w1, w2, w3]), some (.lst th), some (.lst [n0, n1]), some (.int m), some (.lst (gv.map Pn.d)), none, none, none, none, none, none, none, none] ∧ (∀ q ∈ gv, Over th q) ∧ gv.length ≤ 3) ?_ ?_
  · intro N hN
    have hcl := cut_between (xs := ns.map D.int) (i := 4) (j := 4 + m) (by omega) (by omega)
    have hci := hci 4 (4 + m)
    simp only [Wp, w_set, w_eLc, w_lE, w_eSl, w_e2, w_eV, w_eC, w_pS, encI, List.getElem?_cons_zero, List.getElem?_cons_succ, w_addI, w_cutL, w_itL, noX_is, List.set_cons_succ, List.set_cons_zero]
    generalize cut (ns.map D.int) (some 4) (some (4 + m)) = cs at hcl hci
    refine comp_wp (P := fun _ x => ∃ q : Pn, x = q.d ∧ Over th q) ?_ fun gs hgs => ?_
    · intro d hd
      obtain ⟨c, rfl⟩ := hci d hd
      have bc := fmod_pos (a := c) (n := 4) (by omega)
      obtain ⟨q, e, ho, _⟩ := atom_of_is (c := ((c * 48271).fmod 2147483647).fdiv 4) (k := c.fmod 4) hW.h0 hW.h1 hW.h2 hW.h3 bc.1 (by omega) hPt ht0 (by omega)
      rw [hfa] at e
      simp [e]
      exact ⟨q, rfl, ho⟩
    · obtain ⟨gv, rfl, hg⟩ := all_ex (hgs.right fun _ _ h => h)
      have hl := hgs.len
      rw [List.length_map] at hl
      exact hN _ ⟨gv, rfl, hg, by omega⟩
  rintro Γ ⟨gv, rfl, hgo, hgl⟩
  refine seq_wp (fun Γ => ∃ rs : List Ru, Γ = [some (encI ns), some (.lst [w0, w1, w2, w3]), some (.lst th), some (.lst [n0, n1]), some (.int m), some (.lst (gv.map Pn.d)), some (.lst (rs.map Ru.d)), none, none, none, none, none, none, none] ∧ (∀ r ∈ rs, r.ok th [n0, n1] ∧ LayR [w0, w1, w2, w3] r) ∧ rs.length ≤ 8) ?_ ?_
  · intro N hN
    have hcl := cut_between (xs := ns.map D.int) (i := 4 + m) (j := 12 + m) (by omega) (by omega)
    have hci := hci (4 + m) (12 + m)
    simp only [Wp, w_set, w_eLc, w_lE, w_eSl, w_e2, w_eV, w_eC, w_pS, encI, List.getElem?_cons_zero, List.getElem?_cons_succ, w_addI, w_cutL, w_itL, noX_is, List.set_cons_succ, List.set_cons_zero]
    generalize cut (ns.map D.int) (some (4 + m)) (some (12 + m)) = cs at hcl hci
    refine comp_wp (P := fun _ x => ∃ r : Ru, x = r.d ∧ r.ok th [n0, n1] ∧ LayR [w0, w1, w2, w3] r) ?_ fun gs hgs => ?_
    · intro d hd
      obtain ⟨c, rfl⟩ := hci d hd
      obtain ⟨r, e, ho⟩ := layered_is (c := c) hW.h0 hW.h1 hW.h2 hW.h3 s0 s1 hth ht0 ht3
      rw [hfr] at e
      simp [e]
      exact ⟨r, rfl, ho⟩
    · obtain ⟨rs, rfl, hr⟩ := all_ex (hgs.right fun _ _ h => h)
      have hl := hgs.len
      rw [List.length_map] at hl
      exact hN _ ⟨rs, rfl, hr, by omega⟩
  rintro Γ ⟨rs, rfl, hro, hrl⟩
  have hpa := lay_pga hth ht3 s0 s1 hgo (fun r hr => (hro r hr).1) hgl hrl
  obtain ⟨Y, N, story, left, wd, ed, v⟩ := decided_is hpa
  have el := law_fl hpa
  obtain ⟨hF, hFa, hFl⟩ := flF_facts hpa
  obtain ⟨st, hwd⟩ := fl_strat hW (gv := gv) fun r hr => (hro r hr).2
  have hGl : (gv.map Pn.d).length ≤ 3 := by rw [List.length_map]; exact hgl
  have hGt : ∀ x ∈ gv.map Pn.d, isTS x = true := fun x hx => by
    obtain ⟨q, hq, rfl⟩ := List.mem_map.mp hx
    exact pn_ts (hgo q hq).1
  generalize flF gv rs = F at ed v el hF hFa hFl st hwd
  generalize gv.map Pn.d = G at ed v el hGt hGl
  generalize rs.map Ru.d = U at ed el
  generalize rkW w0 w1 w2 w3 = rk at st hwd
  obtain ⟨T, et, hTt, hTm⟩ := told11_is (ws := [w0, w1, w2, w3]) hF hGt (by omega) (by omega) st rfl hwd
  obtain ⟨hYT, hNT⟩ := strat_all st hTm v.way v.cls
  have hleft : left = [] := by
    rw [List.eq_nil_iff_forall_not_mem]
    intro x hx
    obtain ⟨h1, h2, h3⟩ := (v.lm x).mp hx
    exact h3 (hNT x h1 fun h => h2 ((hYT x).mpr h))
  have hsd : ∀ x, sdF Y left x = if x ∈ T then yesS else noS := fun x => by
    unfold sdF
    rw [hleft, if_neg (by simp)]
    by_cases c : x ∈ T
    · rw [if_pos c, if_pos ((hYT x).mpr c)]
    · rw [if_neg c, if_neg fun h => c ((hYT x).mp h)]
  have hs : ∀ x, isTS x = true → f_said [.obj [.lst (F.map Rl.d), .lst (story.map Stp.d), .lst left, .dT wd], x] = .ok (if x ∈ T then yesS else noS) := fun x hx => by rw [said_sd v hx, hsd]
  have hGT : ∀ x ∈ G, x ∈ T := fun x hx => (hYT x).mp (v.given x hx)
  have hlen : ∀ r ∈ F, r.ys.length ≤ 100 ∧ r.ns.length ≤ 100 := fun r hr => by
    have := hFa r hr
    unfold Rl.all at this
    simp at this; omega
  subst hleft
  rw [hfd] at ed
  rw [hfs] at hs
  rw [hfL] at el
  rw [hft] at et
  generalize hvd : D.obj [.lst (F.map Rl.d), .lst (story.map Stp.d), .lst [], .dT wd] = vd at ed hs
  have ho : isObj vd = true := by rw [← hvd]; rfl
  have hfl : ∀ (K : D → Prop) (X : Str → Prop), (oFld 2 vd).post K X = K (.lst []) := fun K X => by rw [← hvd]; rfl
  clear hvd hfd hfs hfL hft hfa hfr hfw hfh hfc v
  refine set_seq vd (by simp [ed]) ?_
  simp only [List.set_cons_succ, List.set_cons_zero]
  refine seq_wp (fun Γ => Γ = [some (encI ns), some (.lst [w0, w1, w2, w3]), some (.lst th), some (.lst [n0, n1]), some (.int m), some (.lst G), some (.lst U), some vd, none, none, none, none, none, none]) ?_ ?_
  · intro N1 hN1
    have n1 : oNe (.lst []) (.lst []) = .ok (.bl false) := by rw [ne_self (pl_le (n := 2) (by decide) (pl_facts (fs := []) (by simp)))]
    simp -implicitDefEqProofs only [Wp, w_if, w_tOr, w_tNot, w_tE, w_e1, w_e2, w_eN, w_aN, w_lstN, w_eV, List.getElem?_cons_zero, List.getElem?_cons_succ, hfl, w_isiL, ty_l, kit_ll, Bool.not_true, Bool.false_eq_true, if_false, n1, w_ok, w_nil]
    exact hN1 _ rfl
  rintro Γ rfl
  refine set_seq (.lst (F.map Rl.d)) (by simp [el]) ?_
  refine set_seq (.lst T) (by simp [et]) ?_
  simp only [List.set_cons_succ, List.set_cons_zero]
  refine seq_wp (fun Γ => Γ = [none, none, none, none, none, some (.lst G), none, some vd, none, some (.lst T), none, none, none, none]) ?_ ?_
  · intro N1 hN1
    simp only [w_for, w_lE, w_eV, List.getElem?_cons_zero, List.getElem?_cons_succ, w_itL, clr_cons, clr_nil]
    refine for_idx (fun k Γ => Γ = [none, none, none, none, none, some (.lst G), none, some vd, none, some (.lst T), none, none, none, none]) rfl ?_ ?_
    · rintro k d Γ hk rfl N2 hN2
      rw [List.getElem?_map] at hk
      obtain ⟨r, hrk, rfl⟩ := Option.map_eq_some_iff.mp hk
      have hrm := List.mem_of_getElem? hrk
      have hro := hF r hrm
      obtain ⟨l1, l2⟩ := hlen r hrm
      have hal := hro.all
      rw [Rl.d]
      simp -implicitDefEqProofs only [Wp, w_for, w_lE, w_e2, w_eV, w_eC, w_eN, w_aC, w_aN, w_lstN, List.set_cons_succ, List.set_cons_zero, List.getElem?_cons_zero, List.getElem?_cons_succ, w_ixT, atI1, atI2, atI3, w_listT, w_addL, w_itL, clr_cons, clr_nil]
      refine ⟨by simp; unfold sizeLine; omega, by simp; unfold sizeLine; omega, ?_⟩
      change ∀ x ∈ [r.h] ++ r.ys ++ r.ns, isTS x = true at hal
      generalize [r.h] ++ r.ys ++ r.ns = A at hal
      refine for_idx (fun k Γ => Γ = [none, none, none, none, none, some (.lst G), none, some vd, none, some (.lst T), none, none, none, none]) rfl ?_ ?_
      · rintro j x Γ hj rfl N3 hN3
        have hxt := hal x (List.mem_of_getElem? hj)
        have es := hs x hxt
        have hn := hN3 [none, none, none, none, none, some (.lst G), none, some vd, none, some (.lst T), none, some x, none, none] rfl
        have i1 : oInt [.bl true] = .ok (.int 1) := rfl
        have i0 : oInt [.bl false] = .ok (.int 0) := rfl
        by_cases c : x ∈ T
        · rw [if_pos c] at es
          have n1 : oNe yesS yesS = .ok (.bl false) := by rw [ne_part rfl rfl, decide_eq_true rfl]; rfl
          simp -implicitDefEqProofs only [Wp, w_if, w_tE, w_e2, w_eM, w_eV, w_eC, w_eN, w_aC, w_aN, w_lstN, List.set_cons_succ, List.set_cons_zero, List.getElem?_cons_zero, List.getElem?_cons_succ, ho, true_and, es, w_ok, w_in, in_ts hxt hTt, c, decide_true, i1, w_ixL, atI1, n1, Bool.false_eq_true, if_false, w_nil]
          exact hn
        · rw [if_neg c] at es
          have n1 : oNe noS noS = .ok (.bl false) := by rw [ne_part rfl rfl, decide_eq_true rfl]; rfl
          simp -implicitDefEqProofs only [Wp, w_if, w_tE, w_e2, w_eM, w_eV, w_eC, w_eN, w_aC, w_aN, w_lstN, List.set_cons_succ, List.set_cons_zero, List.getElem?_cons_zero, List.getElem?_cons_succ, ho, true_and, es, w_ok, w_in, in_ts hxt hTt, c, decide_false, i0, w_ixL, atI0, n1, Bool.false_eq_true, if_false, w_nil]
          exact hn
      · rintro Γ rfl
        exact hN2 _ rfl
    · rintro Γ rfl
      exact hN1 _ rfl
  rintro Γ rfl
  simp -implicitDefEqProofs only [Wp, w_ret, w_e2, w_eLc, w_lE, w_eV, w_eN, w_aN, List.getElem?_cons_zero, List.getElem?_cons_succ, w_itL, noX_is]
  rw [comp_filter (g := fun x => false) (f := id)]
  · simp only [w_ok, w_lstN]
    rw [oEq_pl]
    · simp
      exact hR
    · simp [D.pl]
    · simp [D.pl]
  · intro x hx
    refine is_ok ?_
    have hxt := hGt x hx
    have es := hs x hxt
    rw [if_pos (hGT x hx)] at es
    have n1 : oNe yesS yesS = .ok (.bl false) := by rw [ne_part rfl rfl, decide_eq_true rfl]; rfl
    simp -implicitDefEqProofs only [w_tE, w_e2, w_eM, w_eV, w_eC, w_aC, w_aN, List.set_cons_succ, List.set_cons_zero, List.getElem?_cons_zero, List.getElem?_cons_succ, ho, true_and, es, w_ok, n1]
  · intro x hx h
    cases h
end L2.Nf

open PySem PySem.W PyProof.Rows
set_option maxRecDepth 100000 in
set_option maxHeartbeats 0 in
theorem PySem.Challenge.cw_notfound_k11_whole_layers_holds : PySem.Challenge.rw_notfound_k11_whole_layers.Holds := by
  w_on; o_law; k_head; (case hw => w_witness2)
  k_fill
  refine L2.Nf.law_walk (l := PySem.Challenge.rw_notfound_k11_whole_layers) (k := 9) (x := "_law_script") rfl rfl ⟨rfl, by decide, by decide⟩ (fun w h Y => PySem.W.kIn_of Y) ?F
  case F =>
    intro w mg fa h KX G hmg
    refine' L2.Nf.k11.law_all rfl ⟨?C0, fun _ => 0⟩ ⟨PySem.W.mg_none_of KX G ?z1, PySem.W.mg_none_of KX G ?z2, PySem.W.mg_none_of KX G ?z3, PySem.W.mg_none_of KX G ?z4, PySem.W.mg_none_of KX G ?z5, PySem.W.mg_none_of KX G ?z6, PySem.W.mg_none_of KX G ?z7, L2.Nf.gstr_mk KX G ?z8 ?y8, L2.Nf.gstr_mk KX G ?z9 ?y9, L2.Nf.gint_mk KX G ?z10 ?y10, L2.Nf.gint_mk KX G ?z11 ?y11, L2.Nf.gint_mk KX G ?z12 ?y12, L2.Nf.gint_mk KX G ?z13 ?y13, L2.Nf.gint_mk KX G ?z14 ?y14, L2.Nf.gint_mk KX G ?z15 ?y15, L2.Nf.gint_mk KX G ?z16 ?y16, L2.Nf.gint_mk KX G ?z17 ?y17, L2.Nf.clsAt_mk KX G ?va ?vb ?vc ?vd ?ve ?vf ?vg ?vh ?vi ?vj ?vk ?vl ?vm ?vn ?vo ?vp ?vq ?vr ?vs ?vt ?vu⟩ ⟨L2.Nf.defAt_mk KX G ?a18 ?l18 ?c18 ?k18, L2.Nf.defAt_mk KX G ?a19 ?l19 ?c19 ?k19, L2.Nf.defAt_mk KX G ?a20 ?l20 ?c20 ?k20, L2.Nf.defAt_mk KX G ?a21 ?l21 ?c21 ?k21, L2.Nf.defAt_mk KX G ?a22 ?l22 ?c22 ?k22, L2.Nf.defAt_mk KX G ?a23 ?l23 ?c23 ?k23, L2.Nf.defAt_mk KX G ?a24 ?l24 ?c24 ?k24, L2.Nf.defAt_mk KX G ?a25 ?l25 ?c25 ?k25, L2.Nf.defAt_mk KX G ?a26 ?l26 ?c26 ?k26, L2.Nf.defAt_mk KX G ?a27 ?l27 ?c27 ?k27, L2.Nf.defAt_mk KX G ?a28 ?l28 ?c28 ?k28, L2.Nf.defAt_mk KX G ?a29 ?l29 ?c29 ?k29, L2.Nf.defAt_mk KX G ?a30 ?l30 ?c30 ?k30, L2.Nf.defAt_mk KX G ?a31 ?l31 ?c31 ?k31, L2.Nf.defAt_mk KX G ?a32 ?l32 ?c32 ?k32, L2.Nf.defAt_mk KX G ?a33 ?l33 ?c33 ?k33, L2.Nf.defAt_mk KX G ?a34 ?l34 ?c34 ?k34, L2.Nf.defAt_mk KX G ?a35 ?l35 ?c35 ?k35, L2.Nf.defAt_mk KX G ?a36 ?l36 ?c36 ?k36, L2.Nf.defAt_mk KX G ?a37 ?l37 ?c37 ?k37, L2.Nf.defAt_mk KX G ?a38 ?l38 ?c38 ?k38, L2.Nf.defAt_mk KX G ?a39 ?l39 ?c39 ?k39, L2.Nf.defAt_mk KX G ?a40 ?l40 ?c40 ?k40, L2.Nf.defAt_mk KX G ?a41 ?l41 ?c41 ?k41, L2.Nf.defAt_mk KX G ?a42 ?l42 ?c42 ?k42, L2.Nf.defAt_mk KX G ?a43 ?l43 ?c43 ?k43, L2.Nf.defAt_mk KX G ?a44 ?l44 ?c44 ?k44, L2.Nf.defAt_mk KX G ?a45 ?l45 ?c45 ?k45, L2.Nf.defAt_mk KX G ?a46 ?l46 ?c46 ?k46, L2.Nf.defAt_mk KX G ?a47 ?l47 ?c47 ?k47, L2.Nf.defAt_mk KX G ?a48 ?l48 ?c48 ?k48, L2.Nf.defAt_mk KX G ?a49 ?l49 ?c49 ?k49, L2.Nf.defAt_mk KX G ?a50 ?l50 ?c50 ?k50, L2.Nf.defAt_mk KX G ?a51 ?l51 ?c51 ?k51⟩ hmg L2.Nf.plain_k11
    (case z1 => k_is)
    (case z2 => k_is)
    (case z3 => k_is)
    (case z4 => k_is)
    (case z5 => k_is)
    (case z6 => k_is)
    (case z7 => k_is)
    (case z8 => k_is)
    (case y8 => decide +kernel)
    (case z9 => k_is)
    (case y9 => decide +kernel)
    (case z10 => k_is)
    (case y10 => decide +kernel)
    (case z11 => k_is)
    (case y11 => decide +kernel)
    (case z12 => k_is)
    (case y12 => decide +kernel)
    (case z13 => k_is)
    (case y13 => decide +kernel)
    (case z14 => k_is)
    (case y14 => decide +kernel)
    (case z15 => k_is)
    (case y15 => decide +kernel)
    (case z16 => k_is)
    (case y16 => decide +kernel)
    (case z17 => k_is)
    (case y17 => decide +kernel)
    (case va => k_is)
    (case vb => k_is)
    (case vc => k_is)
    (case vd => k_is)
    (case ve => k_is)
    (case vf => k_is)
    (case vg => k_is)
    (case vh => k_is)
    (case vi => k_is)
    (case vj => k_is)
    (case vk => k_is)
    (case vl => k_is)
    (case vm => k_is)
    (case vn => k_is)
    (case vo => k_is)
    (case vp => k_is)
    (case vq => k_is)
    (case vr => k_is)
    (case vs => k_is)
    (case vt => k_is)
    (case vu => k_is)
    (case a18 => k_is)
    (case l18 => k_is)
    (case c18 => k_is)
    (case k18 => k_is)
    (case a19 => k_is)
    (case l19 => k_is)
    (case c19 => k_is)
    (case k19 => k_is)
    (case a20 => k_is)
    (case l20 => k_is)
    (case c20 => k_is)
    (case k20 => k_is)
    (case a21 => k_is)
    (case l21 => k_is)
    (case c21 => k_is)
    (case k21 => k_is)
    (case a22 => k_is)
    (case l22 => k_is)
    (case c22 => k_is)
    (case k22 => k_is)
    (case a23 => k_is)
    (case l23 => k_is)
    (case c23 => k_is)
    (case k23 => k_is)
    (case a24 => k_is)
    (case l24 => k_is)
    (case c24 => k_is)
    (case k24 => k_is)
    (case a25 => k_is)
    (case l25 => k_is)
    (case c25 => k_is)
    (case k25 => k_is)
    (case a26 => k_is)
    (case l26 => k_is)
    (case c26 => k_is)
    (case k26 => k_is)
    (case a27 => k_is)
    (case l27 => k_is)
    (case c27 => k_is)
    (case k27 => k_is)
    (case a28 => k_is)
    (case l28 => k_is)
    (case c28 => k_is)
    (case k28 => k_is)
    (case a29 => k_is)
    (case l29 => k_is)
    (case c29 => k_is)
    (case k29 => k_is)
    (case a30 => k_is)
    (case l30 => k_is)
    (case c30 => k_is)
    (case k30 => k_is)
    (case a31 => k_is)
    (case l31 => k_is)
    (case c31 => k_is)
    (case k31 => k_is)
    (case a32 => k_is)
    (case l32 => k_is)
    (case c32 => k_is)
    (case k32 => k_is)
    (case a33 => k_is)
    (case l33 => k_is)
    (case c33 => k_is)
    (case k33 => k_is)
    (case a34 => k_is)
    (case l34 => k_is)
    (case c34 => k_is)
    (case k34 => k_is)
    (case a35 => k_is)
    (case l35 => k_is)
    (case c35 => k_is)
    (case k35 => k_is)
    (case a36 => k_is)
    (case l36 => k_is)
    (case c36 => k_is)
    (case k36 => k_is)
    (case a37 => k_is)
    (case l37 => k_is)
    (case c37 => k_is)
    (case k37 => k_is)
    (case a38 => k_is)
    (case l38 => k_is)
    (case c38 => k_is)
    (case k38 => k_is)
    (case a39 => k_is)
    (case l39 => k_is)
    (case c39 => k_is)
    (case k39 => k_is)
    (case a40 => k_is)
    (case l40 => k_is)
    (case c40 => k_is)
    (case k40 => k_is)
    (case a41 => k_is)
    (case l41 => k_is)
    (case c41 => k_is)
    (case k41 => k_is)
    (case a42 => k_is)
    (case l42 => k_is)
    (case c42 => k_is)
    (case k42 => k_is)
    (case a43 => k_is)
    (case l43 => k_is)
    (case c43 => k_is)
    (case k43 => k_is)
    (case a44 => k_is)
    (case l44 => k_is)
    (case c44 => k_is)
    (case k44 => k_is)
    (case a45 => k_is)
    (case l45 => k_is)
    (case c45 => k_is)
    (case k45 => k_is)
    (case a46 => k_is)
    (case l46 => k_is)
    (case c46 => k_is)
    (case k46 => k_is)
    (case a47 => k_is)
    (case l47 => k_is)
    (case c47 => k_is)
    (case k47 => k_is)
    (case a48 => k_is)
    (case l48 => k_is)
    (case c48 => k_is)
    (case k48 => k_is)
    (case a49 => k_is)
    (case l49 => k_is)
    (case c49 => k_is)
    (case k49 => k_is)
    (case a50 => k_is)
    (case l50 => k_is)
    (case c50 => k_is)
    (case k50 => k_is)
    (case a51 => k_is)
    (case l51 => k_is)
    (case c51 => k_is)
    (case k51 => k_is)
#print axioms PySem.Challenge.cw_notfound_k11_whole_layers_holds
