import PyProof.Rows.All
import Wide.All
import OpenK.AllK
import Wide.FinOn
import HandS.ForMost
import HandS.IsInst
import HandS.Style
import HandS.Zip
import KE.KDictDisplayH
import HandS.Defaults
import KE.KRevSl
import HandS.Conv
import HandS.NoneIn
import PySem.Challenge.RW_sameforever_k35_whole_held_rows
set_option Elab.async false
set_option linter.all false
set_option maxRecDepth 100000
/-! DLay: abstract states of plain data over HandS. A datum D stands for a value and all that it reaches; the permanent heap N holds what data lean on; M tells the objects that still change. -/
namespace DL
open PySem PySem.Spec PyProof.Rows L2

/-- plain data; ref: an object that still changes -/
inductive D where
  | non | bl (b : Bool) | int (i : Int) | str (x : Str) | ty (n : String)
  | list (xs : List D) | rol (xs : List D) | tup (xs : List D) | rot (xs : List D)
  | obj (C : Addr) (fs : List (Str × D))
  | dK (kvs : List (Key × D)) | dT (kvs : List (List Key × D))
  | ref (a : Addr)
/-- what an object that still changes holds -/
inductive MC where
  | lst (ds : List D) | dK (kvs : List (Key × D)) | dT (kvs : List (List Key × D)) | ins (C : Addr) (fs : List (Str × D))
abbrev Mp := Addr → Option MC
def mupd (M : Mp) (a : Addr) (c : MC) : Mp := fun b => if b = a then some c else M b
def mdel (M : Mp) (a : Addr) : Mp := fun b => if b = a then none else M b
theorem mupd_same {M : Mp} {a : Addr} {c : MC} : mupd M a c a = some c := by unfold mupd; rw [if_pos rfl]
theorem mupd_ne {M : Mp} {a b : Addr} {c : MC} (h : b ≠ a) : mupd M a c b = M b := by unfold mupd; rw [if_neg h]
theorem mupd_mupd {M : Mp} {a : Addr} {c e : MC} : mupd (mupd M a c) a e = mupd M a e := by funext b; unfold mupd; split <;> rfl
theorem mne {M : Mp} {a b : Addr} {c : MC} (h : M a = some c) (h' : M b = none) : a ≠ b := by intro e; subst e; rw [h] at h'; cases h'

mutual
inductive RelD (K : PySem.W.Frag) (N : Hp) : V → D → Prop
  | non : RelD K N .non .non
  | bl (b : Bool) : RelD K N (.bl b) (.bl b)
  | int (i : Int) : RelD K N (.int i) (.int i)
  | str (x : Str) : RelD K N (.str x) (.str x)
  | ty (n : String) : RelD K N (.ty n) (.ty n)
  | list {a : Addr} {xs : List V} {ds : List D} : N a = some (.lst xs) → RelL K N xs ds → RelD K N (.ref a) (.list ds)
  | rol {a : Addr} {xs : List V} {ds : List D} : SqL K N a xs → RelL K N xs ds → RelD K N (.ref a) (.rol ds)
  | tup {a : Addr} {xs : List V} {ds : List D} : N a = some (.tup xs) → RelL K N xs ds → RelD K N (.ref a) (.tup ds)
  | rot {a : Addr} {xs : List V} {ds : List D} : SqT K N a xs → RelL K N xs ds → RelD K N (.ref a) (.rot ds)
  | obj {a dx C : Addr} {fs : List (Str × V)} {gs : List (Str × D)} : N a = some (.ins C dx fs) → RelF K N fs gs → RelD K N (.ref a) (.obj C gs)
  | dK {a : Addr} {kvs : List (Key × V)} {gs : List (Key × D)} : N a = some (.dK kvs) → RelF K N kvs gs → RelD K N (.ref a) (.dK gs)
  | dT {a : Addr} {kvs : List (List Key × V)} {gs : List (List Key × D)} : N a = some (.dT kvs) → RelF K N kvs gs → RelD K N (.ref a) (.dT gs)
  | ref (a : Addr) : RelD K N (.ref a) (.ref a)
inductive RelL (K : PySem.W.Frag) (N : Hp) : List V → List D → Prop
  | nil : RelL K N [] []
  | cons {v : V} {vs : List V} {d : D} {ds : List D} : RelD K N v d → RelL K N vs ds → RelL K N (v :: vs) (d :: ds)
inductive RelF (K : PySem.W.Frag) (N : Hp) : {k : Type} → List (k × V) → List (k × D) → Prop
  | nil {k : Type} : RelF K N (k := k) [] []
  | cons {k : Type} {x : k} {v : V} {vs : List (k × V)} {d : D} {ds : List (k × D)} : RelD K N v d → RelF K N vs ds → RelF K N ((x, v) :: vs) ((x, d) :: ds)
end

theorem same_seqT {K : PySem.W.Frag} {H H' : Hp} {a : Addr} {xs : List V} (e : Same H H') (h : SqT K H a xs) : SqT K H' a xs := by
  rcases h with (h | ⟨o, h⟩) | h
  · exact .inl (.inl (e _ _ h))
  · exact .inl (.inr ⟨o, e _ _ h⟩)
  · exact .inr h

section
variable {K : PySem.W.Frag} {N N' : Hp}
mutual
theorem RelD.mono (s : Same N N') : ∀ {v : V} {d : D}, RelD K N v d → RelD K N' v d
  | _, _, .non => .non
  | _, _, .bl b => .bl b
  | _, _, .int i => .int i
  | _, _, .str x => .str x
  | _, _, .ty n => .ty n
  | _, _, .list h r => .list (s _ _ h) (RelL.mono s r)
  | _, _, .rol h r => .rol (s.seq h) (RelL.mono s r)
  | _, _, .tup h r => .tup (s _ _ h) (RelL.mono s r)
  | _, _, .rot h r => .rot (same_seqT s h) (RelL.mono s r)
  | _, _, .obj h r => .obj (s _ _ h) (RelF.mono s r)
  | _, _, .dK h r => .dK (s _ _ h) (RelF.mono s r)
  | _, _, .dT h r => .dT (s _ _ h) (RelF.mono s r)
  | _, _, .ref a => .ref a
theorem RelL.mono (s : Same N N') : ∀ {v : List V} {d : List D}, RelL K N v d → RelL K N' v d
  | _, _, .nil => .nil
  | _, _, .cons h r => .cons (RelD.mono s h) (RelL.mono s r)
theorem RelF.mono (s : Same N N') : ∀ {k : Type} {v : List (k × V)} {d : List (k × D)}, RelF K N v d → RelF K N' v d
  | _, _, _, .nil => .nil
  | _, _, _, .cons h r => .cons (RelD.mono s h) (RelF.mono s r)
end
theorem RelL.length : ∀ {xs : List V} {ds : List D}, RelL K N xs ds → xs.length = ds.length
  | _, _, .nil => rfl
  | _, _, .cons _ r => by simp [RelL.length r]
theorem RelL.get : ∀ {xs : List V} {ds : List D} {i : Nat} {x : V}, RelL K N xs ds → xs[i]? = some x → ∃ d, ds[i]? = some d ∧ RelD K N x d
  | _, _, i, x, .nil, e => by simp at e
  | _, _, 0, x, .cons h r, e => by simp at e; subst e; exact ⟨_, rfl, h⟩
  | _, _, i + 1, x, .cons h r, e => by
    obtain ⟨d, h1, h2⟩ := RelL.get (i := i) (x := x) r (by simpa using e)
    exact ⟨d, by simpa using h1, h2⟩
theorem RelL.getR : ∀ {xs : List V} {ds : List D} {i : Nat} {d : D}, RelL K N xs ds → ds[i]? = some d → ∃ x, xs[i]? = some x ∧ RelD K N x d
  | _, _, i, x, .nil, e => by simp at e
  | _, _, 0, x, .cons h r, e => by simp at e; subst e; exact ⟨_, rfl, h⟩
  | _, _, i + 1, x, .cons h r, e => by
    obtain ⟨d, h1, h2⟩ := RelL.getR (i := i) (d := x) r (by simpa using e)
    exact ⟨d, by simpa using h1, h2⟩
theorem RelL.append : ∀ {xs ys : List V} {ds es : List D}, RelL K N xs ds → RelL K N ys es → RelL K N (xs ++ ys) (ds ++ es)
  | _, _, _, _, .nil, s => s
  | _, _, _, _, .cons h r, s => .cons h (RelL.append r s)
theorem RelL.take : ∀ {xs : List V} {ds : List D} (n : Nat), RelL K N xs ds → RelL K N (xs.take n) (ds.take n)
  | _, _, 0, _ => .nil
  | _, _, _ + 1, .nil => .nil
  | _, _, n + 1, .cons h r => .cons h (RelL.take n r)
theorem RelL.drop : ∀ {xs : List V} {ds : List D} (n : Nat), RelL K N xs ds → RelL K N (xs.drop n) (ds.drop n)
  | _, _, 0, r => r
  | _, _, _ + 1, .nil => .nil
  | _, _, n + 1, .cons h r => RelL.drop n r
theorem RelL.set {x : V} {d : D} (h : RelD K N x d) : ∀ {xs : List V} {ds : List D} (n : Nat), RelL K N xs ds → RelL K N (xs.set n x) (ds.set n d)
  | _, _, _, .nil => .nil
  | _, _, 0, .cons _ r => .cons h r
  | _, _, n + 1, .cons q r => .cons q (RelL.set h n r)
theorem RelL.dropLast : ∀ {xs : List V} {ds : List D}, RelL K N xs ds → RelL K N xs.dropLast ds.dropLast
  | _, _, .nil => .nil
  | _, _, .cons _ .nil => .nil
  | _, _, .cons h (.cons h2 r) => .cons h (RelL.dropLast (.cons h2 r))
theorem RelL.rep : ∀ {xs : List V} {ds : List D} (k : Nat), RelL K N xs ds → RelL K N (List.replicate k xs).flatten (List.replicate k ds).flatten
  | _, _, 0, _ => .nil
  | _, _, k + 1, h => by
    rw [List.replicate_succ, List.replicate_succ, List.flatten_cons, List.flatten_cons]
    exact RelL.append h (RelL.rep k h)
theorem RelL.atI {xs : List V} {ds : List D} {i : Int} {d : D} (r : RelL K N xs ds) (h : L2.atI ds i = some d) : ∃ x, L2.atI xs i = some x ∧ RelD K N x d := by
  unfold L2.atI at *
  rw [r.length]
  cases e : ixN ds.length i with
  | none => rw [e] at h; cases h
  | some j =>
    rw [e] at h
    exact r.getR h
theorem RelL.cut {xs : List V} {ds : List D} (r : RelL K N xs ds) (lo hi : Option Int) : RelL K N (cutV xs lo hi) ((ds.drop (HT.sIx ds.length 0 lo)).take (HT.sIx ds.length ds.length hi - HT.sIx ds.length 0 lo)) := by
  unfold cutV
  rw [r.length]
  exact (r.drop _).take _
theorem RelF.length : ∀ {k : Type} {xs : List (k × V)} {ds : List (k × D)}, RelF K N xs ds → xs.length = ds.length
  | _, _, _, .nil => rfl
  | _, _, _, .cons _ r => by simp [RelF.length r]
theorem RelF.lookup : ∀ {xs : List (Str × V)} {ds : List (Str × D)} {f : Str} {d : D}, RelF K N xs ds → ds.lookup f = some d → ∃ x, xs.lookup f = some x ∧ RelD K N x d
  | _, _, f, d, .nil, e => by cases e
  | _, _, f, d, .cons (x := g) h r, e => by
    simp only [List.lookup_cons] at e ⊢
    cases q : f == g with
    | true =>
      rw [q] at e
      simp at e ⊢
      subst e
      exact h
    | false =>
      rw [q] at e
      exact RelF.lookup r e
theorem RelF.lookup_none : ∀ {xs : List (Str × V)} {ds : List (Str × D)} {f : Str}, RelF K N xs ds → ds.lookup f = none → xs.lookup f = none
  | _, _, f, .nil, e => rfl
  | _, _, f, .cons (x := g) h r, e => by
    simp only [List.lookup_cons] at e ⊢
    cases q : f == g with
    | true => rw [q] at e; cases e
    | false =>
      rw [q] at e
      exact RelF.lookup_none r e
end

/-! ### frames -/
/-- what a run leaves as it was -/
structure Fr (M : Mp) (N H : Hp) (M' : Mp) (N' H' : Hp) : Prop where
  nn : Same N N'
  keep : ∀ a o, H a = some o → M a = none → H' a = some o ∧ M' a = none
  new : ∀ a o, H a = some o → N a = none → N' a = none
  dom : ∀ a o, H a = some o → ∃ o', H' a = some o'
theorem Fr.refl {M : Mp} {N H : Hp} : Fr M N H M N H := ⟨Same.refl N, fun _ _ h m => ⟨h, m⟩, fun _ _ _ n => n, fun _ o h => ⟨o, h⟩⟩
theorem Fr.trans {M M1 M2 : Mp} {N H N1 H1 N2 H2 : Hp} (x : Fr M N H M1 N1 H1) (y : Fr M1 N1 H1 M2 N2 H2) : Fr M N H M2 N2 H2 where
  nn := x.nn.trans y.nn
  keep := fun a o h m => by
    obtain ⟨h1, m1⟩ := x.keep a o h m
    exact y.keep a o h1 m1
  new := fun a o h n => by
    obtain ⟨o1, h1⟩ := x.dom a o h
    exact y.new a o1 h1 (x.new a o h n)
  dom := fun a o h => by
    obtain ⟨o1, h1⟩ := x.dom a o h
    exact y.dom a o1 h1

section
variable {K : PySem.W.Frag}
def HasM (K : PySem.W.Frag) (N H : Hp) (a : Addr) : MC → Prop
  | .lst ds => ∃ xs, H a = some (.lst xs) ∧ RelL K N xs ds
  | .dK gs => ∃ kvs, H a = some (.dK kvs) ∧ RelF K N kvs gs
  | .dT gs => ∃ kvs, H a = some (.dT kvs) ∧ RelF K N kvs gs
  | .ins C gs => ∃ dx fs, H a = some (.ins C dx fs) ∧ RelF K N fs gs
theorem HasM.some {N H : Hp} {a : Addr} {c : MC} (h : HasM K N H a c) : ∃ o, H a = some o := by
  cases c with
  | lst ds => obtain ⟨x, h, _⟩ := h; exact ⟨_, h⟩
  | dK ds => obtain ⟨x, h, _⟩ := h; exact ⟨_, h⟩
  | dT ds => obtain ⟨x, h, _⟩ := h; exact ⟨_, h⟩
  | ins C ds => obtain ⟨x, f, h, _⟩ := h; exact ⟨_, h⟩
theorem HasM.mono {N H N' H' : Hp} {a : Addr} {c : MC} (h : HasM K N H a c) (s : Same N N') (e : ∀ o, H a = Option.some o → H' a = Option.some o) : HasM K N' H' a c := by
  cases c with
  | lst ds => obtain ⟨x, h, r⟩ := h; exact ⟨x, e _ h, r.mono s⟩
  | dK ds => obtain ⟨x, h, r⟩ := h; exact ⟨x, e _ h, r.mono s⟩
  | dT ds => obtain ⟨x, h, r⟩ := h; exact ⟨x, e _ h, r.mono s⟩
  | ins C ds => obtain ⟨x, f, h, r⟩ := h; exact ⟨x, f, e _ h, r.mono s⟩
end
/-- the abstract objects are as told -/
structure CM (K : PySem.W.Frag) (M : Mp) (N H : Hp) : Prop where
  sm : Same N H
  hm : ∀ a c, M a = some c → N a = none ∧ HasM K N H a c
/-- the entry -/
structure En where
  M : Mp
  N : Hp
  H : Hp
abbrev Gm := List (Option D)
def Sl (K : PySem.W.Frag) (N : Hp) (G : Gm) (σ : L2.St) : Prop := σ.length = G.length ∧ ∀ (i : Nat) (d : D), G[i]? = some (some d) → ∃ v, σ[i]? = some (some v) ∧ RelD K N v d
structure CC (K : PySem.W.Frag) (E : En) (G : Gm) (M : Mp) (N : Hp) (σ : L2.St) (H : Hp) : Prop where
  fr : Fr E.M E.N E.H M N H
  cm : CM K M N H
  sl : Sl K N G σ
section
variable {K : PySem.W.Frag} {E : En} {G : Gm} {M M' : Mp} {N N' H H' : Hp} {σ : L2.St}
theorem Sl.mono (s : Same N N') (h : Sl K N G σ) : Sl K N' G σ := ⟨h.1, fun i d e => by
  obtain ⟨v, h1, h2⟩ := h.2 i d e
  exact ⟨v, h1, h2.mono s⟩⟩
theorem Sl.set {i : Nat} {v : V} {d : D} (h : Sl K N G σ) (r : RelD K N v d) : Sl K N (G.set i (some d)) (σ.set i (some v)) := by
  refine ⟨by simp [h.1], fun j e hj => ?_⟩
  by_cases q : i = j
  · subst q
    by_cases l : i < G.length
    · rw [List.getElem?_set_self l] at hj
      cases hj
      exact ⟨v, List.getElem?_set_self (by rw [h.1]; exact l), r⟩
    · rw [List.getElem?_eq_none (by simp; omega)] at hj
      cases hj
  · rw [List.getElem?_set_ne q] at hj ⊢
    exact h.2 j e hj
/-- a step behind the state -/
theorem CC.step (C : CC K E G M N σ H) (f : Fr M N H M' N' H') (c : CM K M' N' H') : CC K E G M' N' σ H' := ⟨C.fr.trans f, c, C.sl.mono f.nn⟩
theorem CC.slots {G' : Gm} {σ' : L2.St} (C : CC K E G M N σ H) (s : Sl K N G' σ') : CC K E G' M N σ' H := ⟨C.fr, C.cm, s⟩
/-- a new permanent object -/
theorem fr_new {p : Addr} {o : HO} (h : H p = none) (hn : N p = none) : Fr M N H M (upd N p o) (upd H p o) where
  nn := fun a u e => by rw [upd_ne (ne_of_none e hn)]; exact e
  keep := fun a u e m => ⟨by rw [upd_ne (ne_of_none e h)]; exact e, m⟩
  new := fun a u e n => by rw [upd_ne (ne_of_none e h)]; exact n
  dom := fun a u e => ⟨u, by rw [upd_ne (ne_of_none e h)]; exact e⟩
theorem CM.none (c : CM K M N H) {p : Addr} (h : H p = Option.none) : N p = Option.none ∧ M p = Option.none := by
  constructor
  · cases q : N p with
    | none => rfl
    | some o => rw [c.sm _ _ q] at h; cases h
  · cases q : M p with
    | none => rfl
    | some o =>
      obtain ⟨_, h2⟩ := c.hm _ _ q
      obtain ⟨o, h2⟩ := h2.some
      rw [h2] at h; cases h
theorem cm_new {p : Addr} {o : HO} (c : CM K M N H) (h : H p = none) : CM K M (upd N p o) (upd H p o) where
  sm := fun a u e => by
    by_cases q : a = p
    · subst q; rw [upd_same] at e ⊢; exact e
    · rw [upd_ne q] at e ⊢; exact c.sm _ _ e
  hm := fun a x e => by
    obtain ⟨h1, h2⟩ := c.hm a x e
    obtain ⟨o', h3⟩ := h2.some
    have q : a ≠ p := ne_of_none h3 h
    refine ⟨by rw [upd_ne q]; exact h1, h2.mono ?_ fun o'' e'' => by rw [upd_ne q]; exact e''⟩
    exact (fr_new (M := M) h (c.none h).1).nn
theorem CC.new {p : Addr} {o : HO} (C : CC K E G M N σ H) (h : H p = none) : CC K E G M (upd N p o) σ (upd H p o) := C.step (fr_new h (C.cm.none h).1) (cm_new C.cm h)
theorem same_new {p : Addr} {o : HO} (h : N p = none) : Same N (upd N p o) := fun a u e => by rw [upd_ne (ne_of_none e h)]; exact e
/-- a new object that may change -/
theorem fr_newM {p : Addr} {o : HO} {c : MC} (h : H p = none) : Fr M N H (mupd M p c) N (upd H p o) where
  nn := Same.refl N
  keep := fun a u e m => ⟨by rw [upd_ne (ne_of_none e h)]; exact e, by rw [mupd_ne (ne_of_none e h)]; exact m⟩
  new := fun a u e n => n
  dom := fun a u e => ⟨u, by rw [upd_ne (ne_of_none e h)]; exact e⟩
theorem cm_put {p : Addr} {o : HO} {c : MC} (cm : CM K M N H) (h : N p = none) (hc : HasM K N (upd H p o) p c) : CM K (mupd M p c) N (upd H p o) where
  sm := fun a u e => by rw [upd_ne (ne_of_none e h)]; exact cm.sm _ _ e
  hm := fun a x e => by
    by_cases q : a = p
    · subst q; rw [mupd_same] at e; cases e; exact ⟨h, hc⟩
    · rw [mupd_ne q] at e
      obtain ⟨h1, h2⟩ := cm.hm a x e
      exact ⟨h1, h2.mono (Same.refl N) fun o e => by rw [upd_ne q]; exact e⟩
theorem CC.newM {p : Addr} {o : HO} {c : MC} (C : CC K E G M N σ H) (h : H p = none) (hc : HasM K N (upd H p o) p c) : CC K E G (mupd M p c) N σ (upd H p o) := C.step (fr_newM h) (cm_put C.cm (C.cm.none h).1 hc)
/-- an object that may change is changed -/
theorem fr_mut {p : Addr} {o : HO} {c c0 : MC} (h : M p = some c0) : Fr M N H (mupd M p c) N (upd H p o) where
  nn := Same.refl N
  keep := fun a u e m => by
    have q : a ≠ p := fun z => by subst z; rw [h] at m; cases m
    exact ⟨by rw [upd_ne q]; exact e, by rw [mupd_ne q]; exact m⟩
  new := fun a u e n => n
  dom := fun a u e => by
    by_cases q : a = p
    · subst q; exact ⟨o, upd_same⟩
    · exact ⟨u, by rw [upd_ne q]; exact e⟩
theorem CC.mut {p : Addr} {o : HO} {c c0 : MC} (C : CC K E G M N σ H) (h : M p = some c0) (hc : HasM K N (upd H p o) p c) : CC K E G (mupd M p c) N σ (upd H p o) := C.step (fr_mut h) (cm_put C.cm (C.cm.hm _ _ h).1 hc)
/-- forgetting objects that may change -/
def Sub (M' M : Mp) : Prop := ∀ a c, M' a = some c → M a = some c
theorem Sub.none (s : Sub M' M) {a : Addr} (h : M a = Option.none) : M' a = Option.none := by
  cases q : M' a with
  | none => rfl
  | some c => rw [s _ _ q] at h; cases h
theorem CC.sub (C : CC K E G M N σ H) (s : Sub M' M) : CC K E G M' N σ H where
  fr := ⟨C.fr.nn, fun a o h m => by
    obtain ⟨h1, h2⟩ := C.fr.keep a o h m
    exact ⟨h1, s.none h2⟩, C.fr.new, C.fr.dom⟩
  cm := ⟨C.cm.sm, fun a c h => C.cm.hm a c (s _ _ h)⟩
  sl := C.sl
end

/-! ### readings over data -/
abbrev QD := D → Mp → Prop
abbrev aE := Gm → Mp → QD → Prop
abbrev aT := Gm → Mp → (Bool → Mp → Prop) → Prop
abbrev aA := Gm → Mp → (List D → Mp → Prop) → Prop
structure aEnds where
  m0 : Mp
  nx : Gm → Mp → Prop
  rt : QD
  bk : Gm → Mp → Prop := fun _ _ => False
  ct : Gm → Mp → Prop := fun _ _ => False
abbrev aS := aEnds → Gm → Mp → Prop
def Co (K : PySem.W.Frag) (E : En) (G : Gm) (N : Hp) (σ : L2.St) (Q : QD) (Qc : VK) : Prop :=
  ∀ d v M' N' H', Q d M' → CC K E G M' N' σ H' → Same N N' → RelD K N' v d → Qc v H'
def CoT (K : PySem.W.Frag) (E : En) (G : Gm) (N : Hp) (σ : L2.St) (Q : Bool → Mp → Prop) (Qc : Bool → Hp → Prop) : Prop :=
  ∀ b M' N' H', Q b M' → CC K E G M' N' σ H' → Same N N' → Qc b H'
def CoA (K : PySem.W.Frag) (E : En) (G : Gm) (N : Hp) (σ : L2.St) (Q : List D → Mp → Prop) (Qc : List V → Hp → Prop) : Prop :=
  ∀ ds vs M' N' H', Q ds M' → CC K E G M' N' σ H' → Same N N' → RelL K N' vs ds → Qc vs H'
structure CoS (K : PySem.W.Frag) (E : En) (N : Hp) (A : aEnds) (B : Ends) : Prop where
  nx : ∀ G' M' N' σ' H', A.nx G' M' → CC K E G' M' N' σ' H' → Same N N' → B.nx σ' H'
  rt : ∀ d v G' M' N' σ' H', A.rt d M' → CC K E G' M' N' σ' H' → Same N N' → RelD K N' v d → B.rt v H'
  bk : ∀ G' M' N' σ' H', A.bk G' M' → CC K E G' M' N' σ' H' → Same N N' → B.bk σ' H'
  ct : ∀ G' M' N' σ' H', A.ct G' M' → CC K E G' M' N' σ' H' → Same N N' → B.ct σ' H'
def SE (K : PySem.W.Frag) (te : TE) (ae : aE) : Prop := ∀ E G M N σ H, CC K E G M N σ H → ∀ Q Qc, ae G M Q → Co K E G N σ Q Qc → te σ H Qc
def ST (K : PySem.W.Frag) (tt : TT) (at' : aT) : Prop := ∀ E G M N σ H, CC K E G M N σ H → ∀ Q Qc, at' G M Q → CoT K E G N σ Q Qc → tt σ H Qc
def SA (K : PySem.W.Frag) (ta : TA) (aa : aA) : Prop := ∀ E G M N σ H, CC K E G M N σ H → ∀ Q Qc, aa G M Q → CoA K E G N σ Q Qc → ta σ H Qc
def SS (K : PySem.W.Frag) (ts : TS) (as : aS) : Prop := ∀ E G M N σ H, CC K E G M N σ H → ∀ A B, A.m0 = E.M → as A G M → CoS K E N A B → ts B σ H
structure DE (X : Cx) (e : Expr) (te : TE) (ae : aE) : Prop where
  pe : PE X e te
  se : SE X.K te ae
structure DT (X : Cx) (e : Expr) (tt : TT) (at' : aT) : Prop where
  pt : PT X e tt
  st : ST X.K tt at'
structure DW (X : Cx) (e : Expr) (tt : TT) (at' : aT) : Prop where
  pw : PW X e tt
  st : ST X.K tt at'
structure DA (X : Cx) (es : List Expr) (ta : TA) (aa : aA) : Prop where
  pa : PA X es ta
  sa : SA X.K ta aa
structure DS (X : Cx) (s : Stmt) (ts : TS) (as : aS) : Prop where
  ps : PS X s ts
  ss : SS X.K ts as
structure DSs (X : Cx) (s : List Stmt) (ts : TS) (as : aS) : Prop where
  ps : PSs X s ts
  ss : SS X.K ts as
section
variable {K : PySem.W.Frag} {E : En} {G : Gm} {N N' : Hp} {σ : L2.St}
theorem Co.from {Q : QD} {Qc : VK} (k : Co K E G N σ Q Qc) (s : Same N N') : Co K E G N' σ Q Qc := fun d v M1 N1 H1 q c s1 r => k d v M1 N1 H1 q c (s.trans s1) r
theorem CoT.from {Q : Bool → Mp → Prop} {Qc : Bool → Hp → Prop} (k : CoT K E G N σ Q Qc) (s : Same N N') : CoT K E G N' σ Q Qc := fun d M1 N1 H1 q c s1 => k d M1 N1 H1 q c (s.trans s1)
theorem CoA.from {Q : List D → Mp → Prop} {Qc : List V → Hp → Prop} (k : CoA K E G N σ Q Qc) (s : Same N N') : CoA K E G N' σ Q Qc := fun d v M1 N1 H1 q c s1 r => k d v M1 N1 H1 q c (s.trans s1) r
theorem CoS.from {A : aEnds} {B : Ends} (k : CoS K E N A B) (s : Same N N') : CoS K E N' A B :=
  ⟨fun g m n t h q c s1 => k.nx g m n t h q c (s.trans s1), fun d v g m n t h q c s1 r => k.rt d v g m n t h q c (s.trans s1) r, fun g m n t h q c s1 => k.bk g m n t h q c (s.trans s1), fun g m n t h q c s1 => k.ct g m n t h q c (s.trans s1)⟩
end
end DL

set_option Elab.async false
set_option linter.all false
set_option maxRecDepth 100000
namespace DL
open PySem PySem.Spec PyProof.Rows L2

/-! ### reading seqs -/
section
variable {K : PySem.W.Frag} {N : Hp}
/-- the items of a datum that stands still -/
def items : D → Option (List D)
  | .list xs => some xs
  | .rol xs => some xs
  | .tup xs => some xs
  | .rot xs => some xs
  | _ => none
def isL : D → Bool
  | .list _ => true
  | .rol _ => true
  | _ => false
theorem rel_int {v : V} {i : Int} (r : RelD K N v (.int i)) : v = .int i := by cases r; rfl
theorem rel_bl {v : V} {i : Bool} (r : RelD K N v (.bl i)) : v = .bl i := by cases r; rfl
theorem rel_str {v : V} {i : Str} (r : RelD K N v (.str i)) : v = .str i := by cases r; rfl
theorem rel_ref {v : V} {a : Addr} (r : RelD K N v (.ref a)) : v = .ref a := by cases r; rfl
theorem rel_tup {v : V} {ds : List D} (r : RelD K N v (.tup ds)) : ∃ a xs, v = .ref a ∧ N a = some (.tup xs) ∧ RelL K N xs ds := by
  cases r with | tup h r => exact ⟨_, _, rfl, h, r⟩
theorem rel_list {v : V} {ds : List D} (r : RelD K N v (.list ds)) : ∃ a xs, v = .ref a ∧ N a = some (.lst xs) ∧ RelL K N xs ds := by
  cases r with | list h r => exact ⟨_, _, rfl, h, r⟩
theorem rel_obj {v : V} {C : Addr} {ds : List (Str × D)} (r : RelD K N v (.obj C ds)) : ∃ a dx xs, v = .ref a ∧ N a = some (.ins C dx xs) ∧ RelF K N xs ds := by
  cases r with | obj h r => exact ⟨_, _, _, rfl, h, r⟩
/-- what stands still at a datum's address -/
theorem rel_items {v : V} {d : D} {ds : List D} (r : RelD K N v d) (h : items d = some ds) : ∃ a xs, v = .ref a ∧ RelL K N xs ds ∧ ((isL d = true ∧ SqL K N a xs) ∨ (isL d = false ∧ SqT K N a xs)) := by
  cases r <;> simp [items] at h
  case list a xs ds h1 h2 => subst h; exact ⟨_, _, rfl, h2, .inl ⟨rfl, .of h1⟩⟩
  case rol a xs ds h1 h2 => subst h; exact ⟨_, _, rfl, h2, .inl ⟨rfl, h1⟩⟩
  case tup a xs ds h1 h2 => subst h; exact ⟨_, _, rfl, h2, .inr ⟨rfl, .of h1⟩⟩
  case rot a xs ds h1 h2 => subst h; exact ⟨_, _, rfl, h2, .inr ⟨rfl, h1⟩⟩
/-- the items of a datum, or of a list that may change -/
def itemsM (M : Mp) (d : D) : Option (List D) := match d with
  | .ref a => (match M a with | some (.lst ds) => some ds | _ => none)
  | d => items d
def isLM : D → Bool
  | .ref _ => true
  | d => isL d
theorem rel_itemsM {M : Mp} {H : Hp} {v : V} {d : D} {ds : List D} (c : CM K M N H) (r : RelD K N v d) (h : itemsM M d = some ds) : ∃ a xs, v = .ref a ∧ RelL K N xs ds ∧ ((isLM d = true ∧ SqL K H a xs) ∨ (isLM d = false ∧ SqT K H a xs)) := by
  by_cases q : ∃ a, d = .ref a
  · obtain ⟨a, rfl⟩ := q
    have e := rel_ref r
    subst e
    unfold itemsM at h
    simp only at h
    split at h
    · rename_i ds' e
      cases h
      obtain ⟨_, xs, h1, h2⟩ := c.hm _ _ e
      exact ⟨a, xs, rfl, h2, .inl ⟨rfl, .of h1⟩⟩
    · cases h
  · have h' : items d = some ds := by
      unfold itemsM at h
      split at h
      · exact absurd ⟨_, rfl⟩ q
      · exact h
    have h2 : isLM d = isL d := by
      unfold isLM
      split
      · exact absurd ⟨_, rfl⟩ q
      · rfl
    obtain ⟨a, xs, e, r2, h3⟩ := rel_items r h'
    refine ⟨a, xs, e, r2, ?_⟩
    rw [h2]
    rcases h3 with ⟨h4, h5⟩ | ⟨h4, h5⟩
    · exact .inl ⟨h4, c.sm.seq h5⟩
    · exact .inr ⟨h4, same_seqT c.sm h5⟩
end

/-! ### names, constants -/
section
variable {X : Cx} {K : PySem.W.Frag}
def aVar (i : Nat) : aE := fun G M Q => match G[i]? with | some (some d) => Q d M | _ => False
def aC (d : D) : aE := fun _ M Q => Q d M
theorem se_var {i : Nat} : SE K (tVar i) (aVar i) := by
  intro E G M N σ H C Q Qc h k
  unfold aVar at h
  split at h
  · rename_i d e
    obtain ⟨v, h1, h2⟩ := C.sl.2 i d e
    exact ⟨v, h1, k d v M N H h C (Same.refl N) h2⟩
  · exact h.elim
theorem se_c {v : V} {d : D} (r : ∀ N, RelD K N v d) : SE K (tC v) (aC d) := by
  intro E G M N σ H C Q Qc h k
  exact k d v M N H h C (Same.refl N) (r N)
theorem dv (i : Nat) {x : Str} {pos : Pos} (hN : X.N[i]? = some x := by rfl) (hv : Vis X.env.scope x := by first | exact Or.inl rfl | exact Or.inr (Or.inl rfl) | exact Or.inr (Or.inr rfl)) (hd : (x == ("__debug__" : Str)) = false := by decide)
    (hcd : (x == ("__classdict__" : Str)) = false := by decide) : DE X (.Name x pos) (tVar i) (aVar i) := ⟨pe_var hN hv hd hcd, se_var⟩
theorem de_int {i j pos} : DE X (.Constant (.int i) j pos) (tC (.int i)) (aC (.int i)) := ⟨pe_int, se_c fun _ => .int _⟩
theorem de_bl {i j pos} : DE X (.Constant (.bool i) j pos) (tC (.bl i)) (aC (.bl i)) := ⟨pe_bl, se_c fun _ => .bl _⟩
theorem de_non {j pos} : DE X (.Constant .none j pos) (tC .non) (aC .non) := ⟨pe_non, se_c fun _ => .non⟩
theorem de_str {x j pos} : DE X (.Constant (.str x) j pos) (tC (.str x)) (aC (.str x)) := ⟨pe_str, se_c fun _ => .str _⟩
/-- a built-in type's name as a value -/
theorem de_ty {x : Str} {n : String} {pos : Pos} (hg : Gl X x) (hm : X.mg x = none) (hv : bootBuiltins x = some (.type n) := by decide +kernel) (hn : x ≠ "__name__" := by decide) (hd : (x == ("__debug__" : Str)) = false := by decide) : DE X (.Name x pos) (tC (.ty n)) (aC (.ty n)) :=
  ⟨pe_bltn hg hm hv rfl hn hd, se_c fun _ => .ty _⟩
/-- a module's constant -/
theorem de_glob {x : Str} {v : V} {d : D} {u : Value} {pos : Pos} (hg : Gl X x) (hm : X.mg x = some u) (r : RelV v u) (rd : ∀ N, RelD X.K N v d) (hd : (x == ("__debug__" : Str)) = false := by decide) : DE X (.Name x pos) (tC v) (aC d) :=
  ⟨pe_glob hg hm r hd, se_c rd⟩

/-! ### two operands -/
abbrev V1 := D → Mp → QD → Prop
abbrev V2 := D → D → Mp → QD → Prop
abbrev VL := List D → Mp → QD → Prop
def S1 (K : PySem.W.Frag) (r : V → Hp → VK → Prop) (f : V1) : Prop := ∀ E G M N σ H, CC K E G M N σ H → ∀ x d, RelD K N x d → ∀ Q Qc, f d M Q → Co K E G N σ Q Qc → r x H Qc
def S2 (K : PySem.W.Frag) (r : R2) (f : V2) : Prop := ∀ E G M N σ H, CC K E G M N σ H → ∀ x y d e, RelD K N x d → RelD K N y e → ∀ Q Qc, f d e M Q → Co K E G N σ Q Qc → r x y H Qc
def SL (K : PySem.W.Frag) (r : List V → Hp → VK → Prop) (f : VL) : Prop := ∀ E G M N σ H, CC K E G M N σ H → ∀ xs ds, RelL K N xs ds → ∀ Q Qc, f ds M Q → Co K E G N σ Q Qc → r xs H Qc
def aBin (f : V2) (a b : aE) : aE := fun G M Q => a G M fun d M1 => b G M1 fun e M2 => f d e M2 Q
def aUn (f : V1) (a : aE) : aE := fun G M Q => a G M fun d M1 => f d M1 Q
theorem se_op {r : R2} {f : V2} {ta tb : TE} {a b : aE} (hr : S2 K r f) (ha : SE K ta a) (hb : SE K tb b) : SE K (tOp r ta tb) (aBin f a b) := by
  intro E G M N σ H C Q Qc h k
  refine ha E G M N σ H C _ _ h fun d v M1 N1 H1 h1 C1 s1 r1 => ?_
  refine hb E G M1 N1 σ H1 C1 _ _ h1 fun e u M2 N2 H2 h2 C2 s2 r2 => ?_
  exact hr E G M2 N2 σ H2 C2 v u d e (r1.mono s2) r2 Q Qc h2 (k.from (s1.trans s2))
theorem se_un {r : V → Hp → VK → Prop} {f : V1} {ta : TE} {a : aE} (hr : S1 K r f) (ha : SE K ta a) : SE K (tUn r ta) (aUn f a) := by
  intro E G M N σ H C Q Qc h k
  refine ha E G M N σ H C _ _ h fun d v M1 N1 H1 h1 C1 s1 r1 => ?_
  exact hr E G M1 N1 σ H1 C1 v d r1 Q Qc h1 (k.from s1)
theorem S2.or {r r' : R2} {f : V2} (hr : ∀ E G M N σ H, CC K E G M N σ H → ∀ x y d e, RelD K N x d → RelD K N y e → ∀ Q Qc, f d e M Q → Co K E G N σ Q Qc → r x y H Qc ∨ r' x y H Qc) : S2 K (fun x y H Q => r x y H Q ∨ r' x y H Q) f := hr

/-! ### ends -/
section
variable {E : En} {G : Gm} {M : Mp} {N H : Hp} {σ : L2.St} {Q : QD} {Qc : VK}
theorem Co.at (k : Co K E G N σ Q Qc) (C : CC K E G M N σ H) {d : D} {v : V} (h : Q d M) (r : RelD K N v d) : Qc v H := k d v M N H h C (Same.refl N) r
theorem Co.new (k : Co K E G N σ Q Qc) (C : CC K E G M N σ H) {p : Addr} {o : HO} {d : D} (hp : H p = none) (h : Q d M) (r : ∀ N', Same N N' → N' p = some o → RelD K N' (.ref p) d) : Qc (.ref p) (upd H p o) :=
  have s := same_new (o := o) (C.cm.none hp).1
  k d _ M _ _ h (C.new hp) s (r _ s upd_same)
theorem Co.newM (k : Co K E G N σ Q Qc) (C : CC K E G M N σ H) {p : Addr} {o : HO} {c : MC} (hp : H p = none) (hc : HasM K N (upd H p o) p c) (h : Q (.ref p) (mupd M p c)) : Qc (.ref p) (upd H p o) :=
  k (.ref p) _ _ N _ h (C.newM hp hc) (Same.refl N) (.ref p)
theorem Co.mut (k : Co K E G N σ Q Qc) (C : CC K E G M N σ H) {p : Addr} {o : HO} {c c0 : MC} {d : D} {v : V} (hp : M p = some c0) (hc : HasM K N (upd H p o) p c) (h : Q d (mupd M p c)) (r : RelD K N v d) : Qc v (upd H p o) :=
  k d v _ N _ h (C.mut hp hc) (Same.refl N) r
theorem CM.lst (c : CM K M N H) {a : Addr} {ds : List D} (h : M a = some (.lst ds)) : ∃ xs, H a = some (.lst xs) ∧ RelL K N xs ds := (c.hm _ _ h).2
theorem CM.dKs (c : CM K M N H) {a : Addr} {ds : List (Key × D)} (h : M a = some (.dK ds)) : ∃ xs, H a = some (.dK xs) ∧ RelF K N xs ds := (c.hm _ _ h).2
theorem CM.dTs (c : CM K M N H) {a : Addr} {ds : List (List Key × D)} (h : M a = some (.dT ds)) : ∃ xs, H a = some (.dT xs) ∧ RelF K N xs ds := (c.hm _ _ h).2
theorem CM.inst (c : CM K M N H) {a C : Addr} {ds : List (Str × D)} (h : M a = some (.ins C ds)) : ∃ dx fs, H a = some (.ins C dx fs) ∧ RelF K N fs ds := (c.hm _ _ h).2
theorem CM.noneM (c : CM K M N H) {p : Addr} (h : H p = Option.none) : M p = Option.none := (c.none h).2
end

/-! ### arithmetic -/
theorem big_le {n : Nat} (h : n ≤ 1000000) : n ≤ sizeLine := Nat.le_trans h (by decide)
theorem big_lt {n : Nat} (h : n ≤ 1000000) : n < sizeLine := Nat.lt_of_le_of_lt h (by decide)
def fAdd : V2 := fun d e M Q => match d, e with
  | .int i, .int j => Q (.int (i + j)) M
  | .str x, .str y => x.length + y.length ≤ 1000000 ∧ Q (.str (x ++ y)) M
  | .list xs, .list ys => xs.length + ys.length ≤ 1000000 ∧ Q (.list (xs ++ ys)) M
  | .tup xs, .tup ys => xs ≠ [] ∧ xs.length + ys.length ≤ 1000000 ∧ Q (.tup (xs ++ ys)) M
  | _, _ => False
def rAddA (K : PySem.W.Frag) : R2 := fun x y H Q => (rI0 fun i j => .int (i + j)) x y H Q ∨ (fun x y H Q => (∃ i j, x = .str i ∧ y = .str j ∧ i.length + j.length ≤ sizeLine ∧ Q (.str (i ++ j)) H) ∨ (fun x y H Q => rCat x y H Q ∨ rCatT K x y H Q) x y H Q) x y H Q
theorem op_addA : OpR X (binaryOp .Add) (rAddA X.K) := OpR.or op_add (OpR.or op_add_str (OpR.or op_cat op_catT))
theorem s2_add : S2 K (rAddA K) fAdd := by
  intro E G M N σ H C x y d e rx ry Q Qc h k
  unfold fAdd at h
  split at h
  · cases rx; cases ry
    exact .inl ⟨_, _, rfl, rfl, k.at C h (.int _)⟩
  · cases rx; cases ry
    exact .inr (.inl ⟨_, _, rfl, rfl, big_le h.1, k.at C h.2 (.str _)⟩)
  · cases rx with | list h1 r1 => cases ry with | list h2 r2 =>
    refine .inr (.inr (.inl ⟨_, _, _, _, rfl, rfl, C.cm.sm _ _ h1, C.cm.sm _ _ h2, ?_, fun p hp => ?_⟩))
    · rw [r1.length, r2.length]; exact big_le h.1
    · exact k.new C hp h.2 fun N' s e => .list e ((r1.append r2).mono s)
  · cases rx with | tup h1 r1 => cases ry with | tup h2 r2 =>
    refine .inr (.inr (.inr ⟨_, _, _, _, rfl, rfl, .of (C.cm.sm _ _ h1), .of (C.cm.sm _ _ h2), ?_, ?_, ?_, ?_⟩))
    · intro e; subst e; cases r1; exact h.1 rfl
    · rw [r1.length, r2.length]; exact big_le h.2.1
    · intro e; subst e; cases r2
      refine k.at C h.2.2 ?_
      rw [List.append_nil]; exact .tup h1 r1
    · intro e p hp
      exact k.new C hp h.2.2 fun N' s e => .tup e ((r1.append r2).mono s)
  · exact h.elim
variable {a b : Expr} {ta tb : TE} {aa ab : aE} {pos : Pos}
theorem de_add (ha : DE X a ta aa) (hb : DE X b tb ab) : DE X (.BinOp a .Add b pos) (tOp (rAddA X.K) ta tb) (aBin fAdd aa ab) := ⟨pe_op op_addA ha.pe hb.pe, se_op s2_add ha.se hb.se⟩
def fI (C : Int → Int → Prop) (g : Int → Int → D) : V2 := fun d e M Q => match d, e with
  | .int i, .int j => C i j ∧ Q (g i j) M
  | _, _ => False
def fI0 (g : Int → Int → D) : V2 := fun d e M Q => match d, e with
  | .int i, .int j => Q (g i j) M
  | _, _ => False
theorem s2_I {C : Int → Int → Prop} {g : Int → Int → V} {g' : Int → Int → D} (hg : ∀ N i j, RelD K N (g i j) (g' i j)) : S2 K (rI C g) (fI C g') := by
  intro E G M N σ H C x y d e rx ry Q Qc h k
  unfold fI at h
  split at h
  · cases rx; cases ry
    exact ⟨_, _, rfl, rfl, h.1, k.at C h.2 (hg _ _ _)⟩
  · exact h.elim
theorem s2_I0 {g : Int → Int → V} {g' : Int → Int → D} (hg : ∀ N i j, RelD K N (g i j) (g' i j)) : S2 K (rI0 g) (fI0 g') := by
  intro E G M N σ H C x y d e rx ry Q Qc h k
  unfold fI0 at h
  split at h
  · cases rx; cases ry
    exact ⟨_, _, rfl, rfl, k.at C h (hg _ _ _)⟩
  · exact h.elim
abbrev fSub : V2 := fI0 fun i j => .int (i - j)
theorem de_sub (ha : DE X a ta aa) (hb : DE X b tb ab) : DE X (.BinOp a .Sub b pos) (tOp (rI0 fun i j => .int (i - j)) ta tb) (aBin fSub aa ab) := ⟨pe_op op_sub ha.pe hb.pe, se_op (s2_I0 fun _ _ _ => .int _) ha.se hb.se⟩
/-- ints below 2^64 on one side; a list many times -/
def fMul : V2 := fun d e M Q => match d, e with
  | .int i, .int j => CMul i j ∧ Q (.int (i * j)) M
  | .list xs, .int k => 0 ≤ k ∧ k ≤ 1000000 ∧ xs.length * k.toNat ≤ 1000000 ∧ Q (.list (List.replicate k.toNat xs).flatten) M
  | _, _ => False
def rMulA : R2 := fun x y H Q => (rI CMul fun i j => .int (i * j)) x y H Q ∨ rRep x y H Q
theorem s2_mul : S2 K rMulA fMul := by
  intro E G M N σ H C x y d e rx ry Q Qc h k
  unfold fMul at h
  split at h
  · cases rx; cases ry
    exact .inl ⟨_, _, rfl, rfl, h.1, k.at C h.2 (.int _)⟩
  · cases rx with | list h1 r1 => cases ry with | int z =>
    obtain ⟨z0, z1, z2, z3⟩ := h
    refine .inr ⟨_, _, _, rfl, rfl, C.cm.sm _ _ h1, by omega, by omega, ?_, fun p hp => ?_⟩
    · rw [r1.length]; exact big_le z2
    · exact k.new C hp z3 fun N' s e => .list e ((r1.rep _).mono s)
  · exact h.elim
theorem de_mul (ha : DE X a ta aa) (hb : DE X b tb ab) : DE X (.BinOp a .Mult b pos) (tOp rMulA ta tb) (aBin fMul aa ab) := ⟨pe_op (OpR.or op_mul op_rep) ha.pe hb.pe, se_op s2_mul ha.se hb.se⟩
abbrev fDiv : V2 := fI CDiv fun i j => .int (i / j)
theorem de_div (ha : DE X a ta aa) (hb : DE X b tb ab) : DE X (.BinOp a .FloorDiv b pos) (tOp (rI CDiv fun i j => .int (i / j)) ta tb) (aBin fDiv aa ab) := ⟨pe_op op_fdiv ha.pe hb.pe, se_op (s2_I fun _ _ _ => .int _) ha.se hb.se⟩
abbrev fMod : V2 := fI (fun _ j => 0 < j) fun i j => .int (i % j)
theorem de_mod (ha : DE X a ta aa) (hb : DE X b tb ab) : DE X (.BinOp a .Mod b pos) (tOp (rI (fun _ j => 0 < j) fun i j => .int (i % j)) ta tb) (aBin fMod aa ab) := ⟨pe_op op_mod ha.pe hb.pe, se_op (s2_I fun _ _ _ => .int _) ha.se hb.se⟩
abbrev fPow : V2 := fI CPow fun i j => .int (i ^ j.toNat)
theorem de_pow (ha : DE X a ta aa) (hb : DE X b tb ab) : DE X (.BinOp a .Pow b pos) (tOp (rI CPow fun i j => .int (i ^ j.toNat)) ta tb) (aBin fPow aa ab) := ⟨pe_op op_pow ha.pe hb.pe, se_op (s2_I fun _ _ _ => .int _) ha.se hb.se⟩
abbrev fShl : V2 := fI CPow fun i j => .int (i * 2 ^ j.toNat)
theorem de_shl (ha : DE X a ta aa) (hb : DE X b tb ab) : DE X (.BinOp a .LShift b pos) (tOp (rI CPow fun i j => .int (i * 2 ^ j.toNat)) ta tb) (aBin fShl aa ab) := ⟨pe_op op_shl ha.pe hb.pe, se_op (s2_I fun _ _ _ => .int _) ha.se hb.se⟩
abbrev fShr : V2 := fI (fun _ j => 0 ≤ j) fun i j => .int (i / 2 ^ j.toNat)
theorem de_shr (ha : DE X a ta aa) (hb : DE X b tb ab) : DE X (.BinOp a .RShift b pos) (tOp (rI (fun _ j => 0 ≤ j) fun i j => .int (i / 2 ^ j.toNat)) ta tb) (aBin fShr aa ab) := ⟨pe_op op_shr ha.pe hb.pe, se_op (s2_I fun _ _ _ => .int _) ha.se hb.se⟩
abbrev fAnd : V2 := fI0 fun i j => .int (Builtin.bitAnd i j)
theorem de_band (ha : DE X a ta aa) (hb : DE X b tb ab) : DE X (.BinOp a .BitAnd b pos) (tOp (rI0 fun i j => .int (Builtin.bitAnd i j)) ta tb) (aBin fAnd aa ab) := ⟨pe_op op_and ha.pe hb.pe, se_op (s2_I0 fun _ _ _ => .int _) ha.se hb.se⟩
abbrev fOr : V2 := fI0 fun i j => .int (Builtin.bitOr i j)
theorem de_bor (ha : DE X a ta aa) (hb : DE X b tb ab) : DE X (.BinOp a .BitOr b pos) (tOp (rI0 fun i j => .int (Builtin.bitOr i j)) ta tb) (aBin fOr aa ab) := ⟨pe_op op_or ha.pe hb.pe, se_op (s2_I0 fun _ _ _ => .int _) ha.se hb.se⟩
def fNeg : V1 := fun d M Q => match d with
  | .int i => Q (.int (-i)) M
  | _ => False
theorem s1_neg : S1 K (rU fun i => .int (-i)) fNeg := by
  intro E G M N σ H C x d rx Q Qc h k
  unfold fNeg at h
  split at h
  · cases rx
    exact ⟨_, rfl, k.at C h (.int _)⟩
  · exact h.elim
theorem de_neg (ha : DE X a ta aa) : DE X (.UnaryOp .USub a pos) (tUn (rU fun i => .int (-i)) ta) (aUn fNeg aa) := ⟨pe_un un_neg ha.pe, se_un s1_neg ha.se⟩

/-! ### comparisons -/
theorem de_cmp {op : CmpOp} {r : R2} {f : V2} (ho : OpR X (compareOp op) r) (hs : S2 X.K r f) (ha : DE X a ta aa) (hb : DE X b tb ab) (hm : behindInMarks op b = false) : DE X (.Compare a [op] [b] pos) (tOp r ta tb) (aBin f aa ab) :=
  ⟨pe_cmpR ho ha.pe hb.pe hm, se_op hs ha.se hb.se⟩
def aTest (a : aE) : aT := fun G M Q => a G M fun d M1 => match d with
  | .bl k => Q k M1
  | _ => False
theorem st_test {te : TE} {ae : aE} (h : SE K te ae) : ST K (tTest te) (aTest ae) := by
  intro E G M N σ H C Q Qc q k
  refine h E G M N σ H C _ _ q fun d v M1 N1 H1 h1 C1 s1 r1 => ?_
  split at h1
  · cases r1
    exact ⟨_, rfl, k _ M1 N1 H1 h1 C1 s1⟩
  · exact h1.elim
theorem dt_cmp {op : CmpOp} {r : R2} {f : V2} (ho : OpR X (compareOp op) r) (hs : S2 X.K r f) (ha : DE X a ta aa) (hb : DE X b tb ab) (hm : behindInMarks op b = false) : DT X (.Compare a [op] [b] pos) (tTest (tOp r ta tb)) (aTest (aBin f aa ab)) :=
  ⟨pt_cmpR ho ha.pe hb.pe hm, st_test (se_op hs ha.se hb.se)⟩
/-- ints; texts for < alone -/
abbrev fGt : V2 := fI0 fun i j => .bl (decide (j < i))
abbrev fGe : V2 := fI0 fun i j => .bl (decide (j ≤ i))
abbrev fLt : V2 := fI0 fun i j => .bl (decide (i < j))
abbrev fLe : V2 := fI0 fun i j => .bl (decide (i ≤ j))
theorem s2_lt : S2 K (rI0 fun i j => .bl (decide (i < j))) fLt := s2_I0 fun _ _ _ => .bl _
theorem s2_le : S2 K (rI0 fun i j => .bl (decide (i ≤ j))) fLe := s2_I0 fun _ _ _ => .bl _
theorem s2_gt : S2 K (rI0 fun i j => .bl (decide (j < i))) fGt := s2_I0 fun _ _ _ => .bl _
theorem s2_ge : S2 K (rI0 fun i j => .bl (decide (j ≤ i))) fGe := s2_I0 fun _ _ _ => .bl _
end

/-! ### data as the model's == takes it -/
mutual
def toPy : D → PyData
  | .bl b => .bool b
  | .int i => .int i
  | .str x => .str x
  | .list xs => .list (toPys xs)
  | .rol xs => .list (toPys xs)
  | .tup xs => .tuple (toPys xs)
  | .rot xs => .tuple (toPys xs)
  | _ => .none
def toPys : List D → List PyData
  | [] => []
  | x :: xs => toPy x :: toPys xs
end
mutual
/-- none, bools, ints, short texts, lists and tuples of these, at most that deep -/
def eqOk : Nat → D → Bool
  | _, .non => true
  | _, .bl _ => true
  | _, .int _ => true
  | _, .str x => PyData.strOk x
  | n + 1, .list xs => eqOks n xs
  | n + 1, .rol xs => eqOks n xs
  | n + 1, .tup xs => eqOks n xs
  | n + 1, .rot xs => eqOks n xs
  | _, _ => false
def eqOks : Nat → List D → Bool
  | _, [] => true
  | n, x :: xs => eqOk n x && eqOks n xs
end

section
variable {K : PySem.W.Frag} {N H : Hp}
mutual
theorem dp_of (sm : Same N H) : ∀ (n : Nat) (d : D) (v : V), eqOk n d = true → RelD K N v d → Dp K H v (toPy d)
  | _, .non, v, _, r => by cases r; exact .non
  | _, .bl b, v, _, r => by cases r; exact .bl b
  | _, .int b, v, _, r => by cases r; exact .int b
  | _, .str b, v, _, r => by cases r; exact .str b
  | n + 1, .list xs, v, h, r => by
    cases r with | list h1 r1 => exact .lst (.of (sm _ _ h1)) (dps_of sm n xs _ (by simpa [eqOk] using h) r1)
  | n + 1, .rol xs, v, h, r => by
    cases r with | rol h1 r1 => exact .lst (sm.seq h1) (dps_of sm n xs _ (by simpa [eqOk] using h) r1)
  | n + 1, .tup xs, v, h, r => by
    cases r with | tup h1 r1 => exact .tup (.of (sm _ _ h1)) (dps_of sm n xs _ (by simpa [eqOk] using h) r1)
  | n + 1, .rot xs, v, h, r => by
    cases r with | rot h1 r1 => exact .tup (same_seqT sm h1) (dps_of sm n xs _ (by simpa [eqOk] using h) r1)
  | 0, .list xs, v, h, r => by simp [eqOk] at h
  | 0, .rol xs, v, h, r => by simp [eqOk] at h
  | 0, .tup xs, v, h, r => by simp [eqOk] at h
  | 0, .rot xs, v, h, r => by simp [eqOk] at h
  | _, .ty _, v, h, r => by simp [eqOk] at h
  | _, .obj _ _, v, h, r => by simp [eqOk] at h
  | _, .dK _, v, h, r => by simp [eqOk] at h
  | _, .dT _, v, h, r => by simp [eqOk] at h
  | _, .ref _, v, h, r => by simp [eqOk] at h
theorem dps_of (sm : Same N H) : ∀ (n : Nat) (d : List D) (v : List V), eqOks n d = true → RelL K N v d → DpAll K H v (toPys d)
  | _, [], v, _, r => by cases r; exact .nil
  | n, x :: xs, v, h, r => by
    cases r with | cons h1 r1 =>
    have h2 : eqOk n x = true ∧ eqOks n xs = true := by simpa [eqOks] using h
    exact .cons (dp_of sm n x _ h2.1 h1) (dps_of sm n xs _ h2.2 r1)
end
mutual
theorem shaped_of : ∀ (n : Nat) (d : D), eqOk n d = true → (toPy d).canLay0 = true ∧ (toPy d).depth ≤ n
  | _, .non, _ => ⟨rfl, Nat.zero_le _⟩
  | _, .bl b, _ => ⟨rfl, Nat.zero_le _⟩
  | _, .int b, _ => ⟨rfl, Nat.zero_le _⟩
  | _, .str b, h => ⟨by simpa [toPy, PyData.canLay0, eqOk] using h, Nat.zero_le _⟩
  | n + 1, .list xs, h => by
    have := shaped_ofs n xs (by simpa [eqOk] using h)
    exact ⟨by simp [toPy, PyData.canLay0, this.1], by simp [toPy, PyData.depth, this.2]⟩
  | n + 1, .rol xs, h => by
    have := shaped_ofs n xs (by simpa [eqOk] using h)
    exact ⟨by simp [toPy, PyData.canLay0, this.1], by simp [toPy, PyData.depth, this.2]⟩
  | n + 1, .tup xs, h => by
    have := shaped_ofs n xs (by simpa [eqOk] using h)
    exact ⟨by simp [toPy, PyData.canLay0, this.1], by simp [toPy, PyData.depth, this.2]⟩
  | n + 1, .rot xs, h => by
    have := shaped_ofs n xs (by simpa [eqOk] using h)
    exact ⟨by simp [toPy, PyData.canLay0, this.1], by simp [toPy, PyData.depth, this.2]⟩
  | 0, .list xs, h => by simp [eqOk] at h
  | 0, .rol xs, h => by simp [eqOk] at h
  | 0, .tup xs, h => by simp [eqOk] at h
  | 0, .rot xs, h => by simp [eqOk] at h
  | _, .ty _, h => by simp [eqOk] at h
  | _, .obj _ _, h => by simp [eqOk] at h
  | _, .dK _, h => by simp [eqOk] at h
  | _, .dT _, h => by simp [eqOk] at h
  | _, .ref _, h => by simp [eqOk] at h
theorem shaped_ofs : ∀ (n : Nat) (d : List D), eqOks n d = true → PyData.canLayAll0 (toPys d) = true ∧ PyData.depthAll (toPys d) ≤ n
  | _, [], _ => ⟨rfl, Nat.zero_le _⟩
  | n, x :: xs, h => by
    have h2 : eqOk n x = true ∧ eqOks n xs = true := by simpa [eqOks] using h
    have h3 := shaped_of n x h2.1
    have h4 := shaped_ofs n xs h2.2
    exact ⟨by simp [toPys, PyData.canLayAll0, h3.1, h4.1], by simp [toPys, PyData.depthAll]; omega⟩
end
theorem shaped9 {d : D} (h : eqOk 9 d = true) : SeqAt.shaped (toPy d) = true := by
  obtain ⟨h1, h2⟩ := shaped_of 9 d h
  unfold SeqAt.shaped
  rw [h1, decide_eq_true (by omega)]
  rfl
end
/-- a list that may change, as it stands -/
def snap (M : Mp) (d : D) : D := match d with
  | .ref a => (match M a with | some (.lst ds) => .list ds | _ => .ref a)
  | d => d
def eqv (d e : D) : Bool := PyData.eqv (toPy d) (toPy e)
section
variable {X : Cx} {K : PySem.W.Frag} {a b : Expr} {ta tb : TE} {aa ab : aE} {pos : Pos}
theorem dp_snap {M : Mp} {N H : Hp} {v : V} {d : D} (c : CM K M N H) (r : RelD K N v d) (h : eqOk 9 (snap M d) = true) : Dp K H v (toPy (snap M d)) := by
  by_cases q : ∃ a, d = .ref a
  · obtain ⟨a, rfl⟩ := q
    have e := rel_ref r
    subst e
    cases e2 : M a with
    | none => simp [snap, e2, eqOk] at h
    | some m =>
      cases m with
      | lst ds =>
        obtain ⟨xs, h1, h2⟩ := c.lst e2
        have e3 : snap M (.ref a) = .list ds := by simp [snap, e2]
        rw [e3] at h ⊢
        rw [toPy]
        exact .lst (.of h1) (dps_of c.sm 8 ds _ (by simpa [eqOk] using h) h2)
      | dK _ => simp [snap, e2, eqOk] at h
      | dT _ => simp [snap, e2, eqOk] at h
      | ins _ _ => simp [snap, e2, eqOk] at h
  · have e : snap M d = d := by
      unfold snap
      split
      · exact absurd ⟨_, rfl⟩ q
      · rfl
    rw [e] at h ⊢
    exact dp_of c.sm 9 _ _ h r
def fEq : V2 := fun d e M Q => eqOk 9 (snap M d) = true ∧ eqOk 9 (snap M e) = true ∧ Q (.bl (eqv (snap M d) (snap M e))) M
def fNe : V2 := fun d e M Q => eqOk 9 (snap M d) = true ∧ eqOk 9 (snap M e) = true ∧ Q (.bl (!eqv (snap M d) (snap M e))) M
theorem s2_eq : S2 K (rEqD K) fEq := by
  intro E G M N σ H C x y d e rx ry Q Qc h k
  exact ⟨_, _, dp_snap C.cm rx h.1, dp_snap C.cm ry h.2.1, shaped9 h.1, shaped9 h.2.1, k.at C h.2.2 (.bl _)⟩
theorem s2_ne : S2 K (rNeD K) fNe := by
  intro E G M N σ H C x y d e rx ry Q Qc h k
  exact ⟨_, _, dp_snap C.cm rx h.1, dp_snap C.cm ry h.2.1, shaped9 h.1, shaped9 h.2.1, k.at C h.2.2 (.bl _)⟩
/-- is None -/
def isNon : D → Bool
  | .non => true
  | _ => false
def fIs : V2 := fun d e M Q => match e with
  | .non => Q (.bl (isNon d)) M
  | _ => False
def fIsNot : V2 := fun d e M Q => match e with
  | .non => Q (.bl (!isNon d)) M
  | _ => False
theorem isNon_dec {N : Hp} {v : V} {d : D} (r : RelD K N v d) : decide (v = .non) = isNon d := by
  cases r <;> simp [isNon]
theorem s2_is : S2 K (fun x y H Q => y = .non ∧ Q (.bl (decide (x = .non))) H) fIs := by
  intro E G M N σ H C x y d e rx ry Q Qc h k
  unfold fIs at h
  split at h
  · cases ry
    refine ⟨rfl, k.at C h ?_⟩
    rw [isNon_dec rx]; exact .bl _
  · exact h.elim
theorem s2_isNot : S2 K (fun x y H Q => y = .non ∧ Q (.bl (!decide (x = .non))) H) fIsNot := by
  intro E G M N σ H C x y d e rx ry Q Qc h k
  unfold fIsNot at h
  split at h
  · cases ry
    refine ⟨rfl, k.at C h ?_⟩
    rw [isNon_dec rx]; exact .bl _
  · exact h.elim

/-! ### keys -/
def keyOf : D → Option Key
  | .int i => some (.inl i)
  | .str x => some (.inr x)
  | _ => none
def keysOf : List D → Option (List Key)
  | [] => some []
  | d :: ds => match keyOf d, keysOf ds with
    | some k, some ks => some (k :: ks)
    | _, _ => none
theorem key_rel {N : Hp} {v : V} {d : D} {q : Key} (r : RelD K N v d) (h : keyOf d = some q) : v = kV q := by
  cases r <;> simp [keyOf] at h <;> subst h <;> rfl
theorem keys_rel {N : Hp} : ∀ {vs : List V} {ds : List D} {q : List Key}, RelL K N vs ds → keysOf ds = some q → vs = q.map kV
  | _, _, q, .nil, h => by simp [keysOf] at h; subst h; rfl
  | _, _, q, .cons h1 r1, h => by
    unfold keysOf at h
    split at h
    · rename_i k ks e1 e2
      cases h
      rw [key_rel h1 e1, keys_rel r1 e2]
      rfl
    · cases h
def keyT : D → Option (List Key)
  | .tup ds => keysOf ds
  | _ => none
theorem keyT_rel {N : Hp} {v : V} {d : D} {q : List Key} (r : RelD K N v d) (h : keyT d = some q) : ∃ b, v = .ref b ∧ N b = some (.tup (q.map kV)) := by
  unfold keyT at h
  split at h
  · obtain ⟨b, xs, rfl, hb, rb⟩ := rel_tup r
    have e3 := keys_rel rb h
    subst e3
    exact ⟨b, rfl, hb⟩
  · cases h
def valD {k : Type} [DecidableEq k] (gs : List (k × D)) (x : k) : Option D := (gs.find? fun kv => decide (kv.1 = x)).map (·.2)
def putD {k : Type} [DecidableEq k] (gs : List (k × D)) (x : k) (d : D) : List (k × D) := if (gs.any fun kv => decide (kv.1 = x)) = true then gs.map (fun kv => if kv.1 = x then (kv.1, d) else kv) else gs ++ [(x, d)]
theorem RelF.val {N : Hp} {k : Type} [DecidableEq k] (x : k) : ∀ {vs : List (k × V)} {gs : List (k × D)}, RelF K N vs gs → (valV vs x = none ∧ valD gs x = none) ∨ ∃ v d, valV vs x = some v ∧ valD gs x = some d ∧ RelD K N v d
  | _, _, .nil => .inl ⟨rfl, rfl⟩
  | _, _, .cons (x := y) h r => by
    by_cases q : y = x
    · refine .inr ⟨_, _, valV_pos q, ?_, h⟩
      unfold valD
      rw [List.find?_cons_of_pos (by simp [q])]
      rfl
    · have e1 : ∀ {v : V} {r : List (k × V)}, valV ((y, v) :: r) x = valV r x := fun {v r} => valV_neg (p := (y, v)) (r := r) q
      rcases RelF.val x r with ⟨h1, h2⟩ | ⟨v, d, h1, h2, h3⟩
      · refine .inl ⟨by rw [e1, h1], ?_⟩
        unfold valD at *
        rw [List.find?_cons_of_neg (by simp [q])]
        exact h2
      · refine .inr ⟨v, d, by rw [e1, h1], ?_, h3⟩
        unfold valD at *
        rw [List.find?_cons_of_neg (by simp [q])]
        exact h2
theorem RelF.anyK {N : Hp} {k : Type} [DecidableEq k] (x : k) : ∀ {vs : List (k × V)} {gs : List (k × D)}, RelF K N vs gs → (vs.any fun kv => decide (kv.1 = x)) = (gs.any fun kv => decide (kv.1 = x))
  | _, _, .nil => rfl
  | _, _, .cons h r => by rw [List.any_cons, List.any_cons, RelF.anyK x r]
theorem RelF.app {N : Hp} {k : Type} : ∀ {vs ws : List (k × V)} {gs hs : List (k × D)}, RelF K N vs gs → RelF K N ws hs → RelF K N (vs ++ ws) (gs ++ hs)
  | _, _, _, _, .nil, s => s
  | _, _, _, _, .cons h r, s => .cons h (RelF.app r s)
theorem RelF.repl {N : Hp} {k : Type} [DecidableEq k] (x : k) {v : V} {d : D} (hd : RelD K N v d) : ∀ {vs : List (k × V)} {gs : List (k × D)}, RelF K N vs gs → RelF K N (vs.map fun kv => if kv.1 = x then (kv.1, v) else kv) (gs.map fun kv => if kv.1 = x then (kv.1, d) else kv)
  | _, _, .nil => .nil
  | _, _, .cons (x := y) h r => by
    rw [List.map_cons, List.map_cons]
    by_cases q : y = x
    · simp only [q, if_true]
      exact .cons hd (RelF.repl x hd r)
    · simp only [q, if_false]
      exact .cons h (RelF.repl x hd r)
theorem RelF.put {N : Hp} {k : Type} [DecidableEq k] (x : k) {v : V} {d : D} {vs : List (k × V)} {gs : List (k × D)} (r : RelF K N vs gs) (hd : RelD K N v d) : RelF K N (putK vs x v) (putD gs x d) := by
  unfold putK putD
  rw [r.anyK x]
  split
  · exact r.repl x hd
  · exact r.app (.cons hd .nil)
/-- what a dict (still or changing) holds at a key: none: no dict or no key; some o: o -/
def getDk (M : Mp) (d key : D) : Option (Option D) := match d with
  | .dK gs => (keyOf key).map (valD gs)
  | .dT gs => (keyT key).map (valD gs)
  | .ref a => (match M a with
    | some (.dK gs) => (keyOf key).map (valD gs)
    | some (.dT gs) => (keyT key).map (valD gs)
    | _ => none)
  | _ => none
theorem dget_of {M : Mp} {N H : Hp} {v y : V} {d key : D} {o : Option D} (c : CM K M N H) (r : RelD K N v d) (ry : RelD K N y key) (h : getDk M d key = some o) :
    ∃ a oV, v = .ref a ∧ DGet H a y oV ∧ ((oV = none ∧ o = none) ∨ ∃ x e, oV = some x ∧ o = some e ∧ RelD K N x e) := by
  have go1 : ∀ {a : Addr} {kvs : List (Key × V)} {gs : List (Key × D)}, H a = some (.dK kvs) → RelF K N kvs gs → (keyOf key).map (valD gs) = some o →
      ∃ oV, DGet H a y oV ∧ ((oV = none ∧ o = none) ∨ ∃ x e, oV = some x ∧ o = some e ∧ RelD K N x e) := fun {a kvs gs} h1 r1 h2 => by
    obtain ⟨q, e1, e2⟩ := Option.map_eq_some_iff.mp h2
    have e3 := key_rel ry e1
    subst e3
    refine ⟨valV kvs q, .k h1, ?_⟩
    rcases r1.val q with ⟨x1, x2⟩ | ⟨x, e, x1, x2, x3⟩
    · exact .inl ⟨x1, by rw [← e2, x2]⟩
    · exact .inr ⟨x, e, x1, by rw [← e2, x2], x3⟩
  have go2 : ∀ {a : Addr} {kvs : List (List Key × V)} {gs : List (List Key × D)}, H a = some (.dT kvs) → RelF K N kvs gs → (keyT key).map (valD gs) = some o →
      ∃ oV, DGet H a y oV ∧ ((oV = none ∧ o = none) ∨ ∃ x e, oV = some x ∧ o = some e ∧ RelD K N x e) := fun {a kvs gs} h1 r1 h2 => by
    obtain ⟨q, e1, e2⟩ := Option.map_eq_some_iff.mp h2
    obtain ⟨b, rfl, hb⟩ := keyT_rel ry e1
    refine ⟨valV kvs q, .t h1 (c.sm _ _ hb), ?_⟩
    rcases r1.val q with ⟨x1, x2⟩ | ⟨x, e, x1, x2, x3⟩
    · exact .inl ⟨x1, by rw [← e2, x2]⟩
    · exact .inr ⟨x, e, x1, by rw [← e2, x2], x3⟩
  unfold getDk at h
  split at h
  · cases r with | dK h1 r1 =>
    obtain ⟨oV, g1, g2⟩ := go1 (c.sm _ _ h1) r1 h
    exact ⟨_, oV, rfl, g1, g2⟩
  · cases r with | dT h1 r1 =>
    obtain ⟨oV, g1, g2⟩ := go2 (c.sm _ _ h1) r1 h
    exact ⟨_, oV, rfl, g1, g2⟩
  · have e := rel_ref r
    subst e
    split at h
    · rename_i gs e
      obtain ⟨kvs, h1, r1⟩ := c.dKs e
      obtain ⟨oV, g1, g2⟩ := go1 h1 r1 h
      exact ⟨_, oV, rfl, g1, g2⟩
    · rename_i gs e
      obtain ⟨kvs, h1, r1⟩ := c.dTs e
      obtain ⟨oV, g1, g2⟩ := go2 h1 r1 h
      exact ⟨_, oV, rfl, g1, g2⟩
    · cases h
  · cases h

/-! ### in, not in -/
def flatD : D → Bool
  | .non => true
  | .bl _ => true
  | .int _ => true
  | .str _ => true
  | _ => false
def eqF : D → D → Bool
  | .non, .non => true
  | .bl a, .bl b => a == b
  | .bl a, .int b => (if a then 1 else 0) == b
  | .int a, .bl b => a == (if b then 1 else 0)
  | .int a, .int b => a == b
  | .str a, .str b => a == b
  | _, _ => false
def memD (d : D) (ds : List D) : Bool := ds.any fun e => eqF e d
theorem flat_rel {N : Hp} {v : V} {d : D} (r : RelD K N v d) (h : flatD d = true) : flatV v = true := by
  cases r <;> first | rfl | simp [flatD] at h
theorem eqF_rel {N : Hp} {v w : V} {d e : D} (r : RelD K N v d) (q : RelD K N w e) (h : flatD d = true) (h2 : flatD e = true) : eqV v w = eqF d e := by
  cases r <;> first | (simp [flatD] at h; done) | (cases q <;> first | rfl | (simp [flatD] at h2; done))
theorem flats_rel {N : Hp} : ∀ {vs : List V} {ds : List D}, RelL K N vs ds → ds.all flatD = true → vs.all flatV = true
  | _, _, .nil, _ => rfl
  | _, _, .cons h r, q => by
    rw [List.all_cons, Bool.and_eq_true] at q ⊢
    exact ⟨flat_rel h q.1, flats_rel r q.2⟩
theorem mem_rel {N : Hp} {v : V} {d : D} (rd : RelD K N v d) (hd : flatD d = true) : ∀ {vs : List V} {ds : List D}, RelL K N vs ds → ds.all flatD = true → inV v vs = memD d ds
  | _, _, .nil, _ => rfl
  | _, _, .cons h r, q => by
    rw [List.all_cons, Bool.and_eq_true] at q
    have e := mem_rel rd hd r q.2
    unfold inV memD at *
    rw [List.any_cons, List.any_cons, e, eqF_rel h rd q.1 hd]
def fIn (neg : Bool) : V2 := fun d e M Q => match itemsM M e with
  | some ds => flatD d = true ∧ ds.all flatD = true ∧ Q (.bl (if neg then !memD d ds else memD d ds)) M
  | none => match getDk M e d with
    | some o => Q (.bl (if neg then !o.isSome else o.isSome)) M
    | none => match d, e with
      | .str i, .str j => Q (.bl (if neg then !(!(Builtin.Str.occurrences j i 0 j.length 1).isEmpty) else !(Builtin.Str.occurrences j i 0 j.length 1).isEmpty)) M
      | _, _ => False
def rDIn (neg : Bool) : R2 := fun y x H Q => ∃ a o, x = .ref a ∧ DGet H a y o ∧ Q (.bl (if neg then !o.isSome else o.isSome)) H
def rSIn (neg : Bool) : R2 := fun x y H Q => ∃ i j, x = .str i ∧ y = .str j ∧ Q (.bl (if neg then !(!(Builtin.Str.occurrences j i 0 j.length 1).isEmpty) else !(Builtin.Str.occurrences j i 0 j.length 1).isEmpty)) H
def rInA (K : PySem.W.Frag) (neg : Bool) : R2 := fun x y H Q => rIn K neg x y H Q ∨ (fun x y H Q => rDIn neg x y H Q ∨ rSIn neg x y H Q) x y H Q
theorem op_in_dict (hu : X.A.units + 1 < cLine) : OpR X (compareOp .In) (rDIn false) := by
  intro pins s σ H x y v u Q I rx ry h
  obtain ⟨a, o, rfl, g, q⟩ := h
  cases ry
  exact d_in hu I g rx fun s3 I3 => ⟨.bl o.isSome, H, I3, rfl, q⟩
theorem op_notIn_dict (hu : X.A.units + 1 < cLine) : OpR X (compareOp .NotIn) (rDIn true) := by
  intro pins s σ H x y v u Q I rx ry h
  obtain ⟨a, o, rfl, g, q⟩ := h
  cases ry
  exact d_notIn hu I g rx fun s3 I3 => ⟨.bl (!o.isSome), H, I3, rfl, q⟩
theorem op_inA (hu : X.A.units + 1 < cLine) : OpR X (compareOp .In) (rInA X.K false) := OpR.or op_in_seq (OpR.or (op_in_dict hu) op_in_str)
theorem op_notInA (hu : X.A.units + 1 < cLine) : OpR X (compareOp .NotIn) (rInA X.K true) := OpR.or op_notIn_seq (OpR.or (op_notIn_dict hu) op_notin_str)
theorem s2_in {neg : Bool} : S2 K (rInA K neg) (fIn neg) := by
  intro E G M N σ H C x y d e rx ry Q Qc h k
  unfold fIn at h
  split at h
  · rename_i ds hi
    obtain ⟨h1, h2, h3⟩ := h
    obtain ⟨a, xs, rfl, r2, h4⟩ := rel_itemsM C.cm ry hi
    refine .inl ⟨a, xs, rfl, ?_, flat_rel rx h1, flats_rel r2 h2, ?_⟩
    · rcases h4 with ⟨_, h4⟩ | ⟨_, h4⟩
      · exact .inl h4
      · exact .inr h4
    · rw [mem_rel rx h1 r2 h2]
      exact k.at C h3 (.bl _)
  · split at h
    · rename_i o ho
      obtain ⟨a, oV, rfl, g, e⟩ := dget_of C.cm ry rx ho
      refine .inr (.inl ⟨a, oV, rfl, g, ?_⟩)
      have e2 : oV.isSome = o.isSome := by rcases e with ⟨e1, e2⟩ | ⟨_, _, e1, e2, _⟩ <;> rw [e1, e2] <;> rfl
      rw [e2]
      exact k.at C h (.bl _)
    · split at h
      · cases rx; cases ry
        exact .inr (.inr ⟨_, _, rfl, rfl, k.at C h (.bl _)⟩)
      · exact h.elim

/-! ### subscripts -/
def fIx : V2 := fun d e M Q => match e with
  | .int i => (match itemsM M d with
    | some ds => (match atI ds i with | some x => Q x M | none => False)
    | none => (match d with
      | .str z => z.length ≤ 1000000 ∧ (match atI z.cps.toList i with | some c => Q (.str ⟨#[c]⟩) M | none => False)
      | d => (match getDk M d (.int i) with | some (some x) => Q x M | _ => False)))
  | e => (match getDk M d e with | some (some x) => Q x M | _ => False)
def rIxD : R2 := fun x y H Q => ∃ a v, x = .ref a ∧ DGet H a y (some v) ∧ Q v H
theorem ix_dict (hu : X.A.units + 1 < cLine) : IxR X rIxD := by
  intro value slice pins s σ H x y v u Q I rx ry h hs
  obtain ⟨a, z, rfl, g, q⟩ := h
  cases rx
  exact tail_any (dict_typeIs I g) PySem.F.slot_dict_getitem.lookup (d_getItem hu I g ry fun w' s3 I3 rw' => ⟨z, H, I3, rw', q⟩) hs
def rIxA (K : PySem.W.Frag) : R2 := fun x y H Q => rIx K x y H Q ∨ rIxD x y H Q
theorem ix_any (hu : X.A.units + 1 < cLine) : IxR X (rIxA X.K) := IxR.or ix_seq (ix_dict hu)
theorem s2_ix : S2 K (rIxA K) fIx := by
  intro E G M N σ H C x y d e rx ry Q Qc h k
  have go : (match getDk M d e with | some (some x) => Q x M | _ => False) → rIxA K x y H Qc := fun h => by
    split at h
    · rename_i z hz
      obtain ⟨a, oV, rfl, g, e⟩ := dget_of C.cm rx ry hz
      rcases e with ⟨_, e⟩ | ⟨x1, x2, rfl, e, r⟩
      · cases e
      · cases e
        exact .inr ⟨a, _, rfl, g, k.at C h r⟩
    · exact h.elim
  unfold fIx at h
  split at h
  · rename_i i
    cases ry
    split at h
    · rename_i ds hi
      split at h
      · rename_i z hz
        obtain ⟨a, xs, rfl, r2, h4⟩ := rel_itemsM C.cm rx hi
        obtain ⟨w, e1, e2⟩ := r2.atI hz
        rcases h4 with ⟨_, h4⟩ | ⟨_, h4⟩
        · exact .inl (.inl ⟨a, xs, i, w, rfl, rfl, h4, e1, k.at C h e2⟩)
        · exact .inl (.inr (.inl ⟨a, xs, i, w, rfl, rfl, h4, e1, k.at C h e2⟩))
      · exact h.elim
    · split at h
      · cases rx
        obtain ⟨h0, h⟩ := h
        split at h
        · rename_i c hc
          exact .inl (.inr (.inr ⟨_, i, c, rfl, rfl, big_le h0, hc, k.at C h (.str _)⟩))
        · exact h.elim
      · exact go h
  · exact go h
theorem de_ix (hu : X.A.units + 1 < cLine) (ha : DE X a ta aa) (hb : DE X b tb ab) (hs : PlainIx b) : DE X (.Subscript a b pos) (tOp (rIxA X.K) ta tb) (aBin fIx aa ab) := ⟨pe_ix (ix_any hu) ha.pe hb.pe hs, se_op s2_ix ha.se hb.se⟩
end
end DL

set_option Elab.async false
set_option linter.all false
set_option maxRecDepth 100000
namespace DL
open PySem PySem.Spec PyProof.Rows L2
section
variable {X : Cx} {K : PySem.W.Frag} {e a b c : Expr} {es : List Expr} {te ta tb tc : TE} {t : TA} {ae aa ab ac : aE} {at1 : aA} {pos : Pos}
theorem hasL {N H : Hp} {p : Addr} {xs : List V} {ds : List D} (h : H p = some (.lst xs)) (r : RelL K N xs ds) : HasM K N H p (.lst ds) := ⟨xs, h, r⟩
theorem hasK {N H : Hp} {p : Addr} {xs : List (Key × V)} {ds : List (Key × D)} (h : H p = some (.dK xs)) (r : RelF K N xs ds) : HasM K N H p (.dK ds) := ⟨xs, h, r⟩
theorem hasT {N H : Hp} {p : Addr} {xs : List (List Key × V)} {ds : List (List Key × D)} (h : H p = some (.dT xs)) (r : RelF K N xs ds) : HasM K N H p (.dT ds) := ⟨xs, h, r⟩
theorem hasI {N H : Hp} {p C dx : Addr} {xs : List (Str × V)} {ds : List (Str × D)} (h : H p = some (.ins C dx xs)) (r : RelF K N xs ds) : HasM K N H p (.ins C ds) := ⟨dx, xs, h, r⟩
/-! ### argument lists, displays -/
def aNil : aA := fun _ M Q => Q [] M
def aCons (x : aE) (r : aA) : aA := fun G M Q => x G M fun d M1 => r G M1 fun ds M2 => Q (d :: ds) M2
theorem sa_nil : SA K tNil aNil := fun E G M N σ H C Q Qc h k => k [] [] M N H h C (Same.refl N) .nil
theorem sa_cons (h : SE K te ae) (h2 : SA K t at1) : SA K (tCons te t) (aCons ae at1) := by
  intro E G M N σ H C Q Qc q k
  refine h E G M N σ H C _ _ q fun d v M1 N1 H1 h1 C1 s1 r1 => ?_
  refine h2 E G M1 N1 σ H1 C1 _ _ h1 fun ds vs M2 N2 H2 h2 C2 s2 r2 => ?_
  exact k _ _ M2 N2 H2 h2 C2 (s1.trans s2) (.cons (r1.mono s2) r2)
theorem da_nil : DA X [] tNil aNil := ⟨pa_nil, sa_nil⟩
theorem da_cons (ha : DE X e te ae) (hr : DA X es t at1) (hs : starEach (e :: es) X.env = (false, eval e X.env) :: starEach es X.env := by rfl) : DA X (e :: es) (tCons te t) (aCons ae at1) := ⟨pa_cons ha.pe hr.pa hs, sa_cons ha.se hr.sa⟩
/-- a tuple; a list that stands still; a list that may change -/
def aTup (x : aA) : aE := fun G M Q => x G M fun ds M1 => ds.length ≤ 1000000 ∧ Q (.tup ds) M1
def aLst (x : aA) : aE := fun G M Q => x G M fun ds M1 => ds.length ≤ 1000000 ∧ Q (.list ds) M1
def aLstM (x : aA) : aE := fun G M Q => x G M fun ds M1 => ds.length ≤ 1000000 ∧ ∀ p, M1 p = none → Q (.ref p) (mupd M1 p (.lst ds))
theorem se_tup (h : SA K t at1) : SE K (tTup t) (aTup at1) := by
  intro E G M N σ H C Q Qc q k
  refine h E G M N σ H C _ _ q fun ds vs M1 N1 H1 h1 C1 s1 r1 => ⟨by rw [r1.length]; exact big_le h1.1, fun p hp => ?_⟩
  exact (k.from s1).new C1 hp h1.2 fun N' s e => .tup e (r1.mono s)
theorem se_lst (h : SA K t at1) : SE K (tLst t) (aLst at1) := by
  intro E G M N σ H C Q Qc q k
  refine h E G M N σ H C _ _ q fun ds vs M1 N1 H1 h1 C1 s1 r1 => ⟨by rw [r1.length]; exact big_le h1.1, fun p hp => ?_⟩
  exact (k.from s1).new C1 hp h1.2 fun N' s e => .list e (r1.mono s)
theorem se_lstM (h : SA K t at1) : SE K (tLst t) (aLstM at1) := by
  intro E G M N σ H C Q Qc q k
  refine h E G M N σ H C _ _ q fun ds vs M1 N1 H1 h1 C1 s1 r1 => ⟨by rw [r1.length]; exact big_le h1.1, fun p hp => ?_⟩
  exact (k.from s1).newM C1 hp (hasL upd_same r1) (h1.2 p (C1.cm.noneM hp))
theorem de_tup {x1} (h : DA X es t at1) : DE X (.Tuple es x1 pos) (tTup t) (aTup at1) := ⟨pe_tup h.pa, se_tup h.sa⟩
theorem de_lst (h : DA X es t at1) : DE X (.List es pos) (tLst t) (aLst at1) := ⟨pe_lst h.pa, se_lst h.sa⟩
theorem de_lstM (h : DA X es t at1) : DE X (.List es pos) (tLst t) (aLstM at1) := ⟨pe_lst h.pa, se_lstM h.sa⟩
/-- {} to change, with int and text keys; with tuple keys -/
def aDNewK : aE := fun _ M Q => ∀ p, M p = none → Q (.ref p) (mupd M p (.dK []))
def aDNewT : aE := fun _ M Q => ∀ p, M p = none → Q (.ref p) (mupd M p (.dT []))
theorem de_dnewK : DE X (.Dict [] [] pos) tDNewK aDNewK := ⟨pe_dnewK, by
  intro E G M N σ H C Q Qc q k p hp
  exact k.newM C hp (hasK upd_same .nil) (q p (C.cm.noneM hp))⟩
theorem de_dnewT : DE X (.Dict [] [] pos) tDNewT aDNewT := ⟨pe_dnewT, by
  intro E G M N σ H C Q Qc q k p hp
  exact k.newM C hp (hasT upd_same .nil) (q p (C.cm.noneM hp))⟩

/-! ### tests -/
def truD (M : Mp) : D → Option Bool
  | .non => some false
  | .bl b => some b
  | .int i => some (i != 0)
  | .str y => if y.length ≤ 1000000 then some ((y.length : Int) != 0) else none
  | .list xs => some (!xs.isEmpty)
  | .rol xs => some (!xs.isEmpty)
  | .tup xs => some (!xs.isEmpty)
  | .rot xs => some (!xs.isEmpty)
  | .dK gs => some (!gs.isEmpty)
  | .ref a => (match M a with
    | some (.lst ds) => some (!ds.isEmpty)
    | some (.dK ds) => some (!ds.isEmpty)
    | _ => none)
  | _ => none
theorem emp_L {N : Hp} {xs : List V} {ds : List D} (r : RelL K N xs ds) : xs.isEmpty = ds.isEmpty := by cases r <;> rfl
theorem emp_F {N : Hp} {k : Type} {xs : List (k × V)} {ds : List (k × D)} (r : RelF K N xs ds) : xs.isEmpty = ds.isEmpty := by cases r <;> rfl
theorem tru_rel {M : Mp} {N H : Hp} {v : V} {d : D} {k : Bool} (c : CM K M N H) (r : RelD K N v d) (h : truD M d = some k) : TruV K v H k := by
  cases r <;> simp only [truD] at h
  case non => cases h; rfl
  case bl => cases h; rfl
  case int => cases h; rfl
  case str y =>
    split at h
    · rename_i h2
      cases h
      exact ⟨big_le h2, rfl⟩
    · cases h
  case ty => cases h
  case list h1 r1 => cases h; exact .inl ⟨_, .of (c.sm _ _ h1), by rw [emp_L r1]⟩
  case rol h1 r1 => cases h; exact .inl ⟨_, c.sm.seq h1, by rw [emp_L r1]⟩
  case tup h1 r1 => cases h; exact .inr (.inl ⟨_, .of (c.sm _ _ h1), by rw [emp_L r1]⟩)
  case rot h1 r1 => cases h; exact .inr (.inl ⟨_, same_seqT c.sm h1, by rw [emp_L r1]⟩)
  case obj => cases h
  case dK h1 r1 => cases h; exact .inr (.inr ⟨_, c.sm _ _ h1, by rw [emp_F r1]⟩)
  case dT => cases h
  case ref a =>
    split at h
    · rename_i ds e
      cases h
      obtain ⟨xs, h1, r1⟩ := c.lst e
      exact .inl ⟨_, .of h1, by rw [emp_L r1]⟩
    · rename_i ds e
      cases h
      obtain ⟨xs, h1, r1⟩ := c.dKs e
      exact .inr (.inr ⟨_, h1, by rw [emp_F r1]⟩)
    · cases h
def aTru (x : aE) : aT := fun G M Q => x G M fun d M1 => match truD M1 d with
  | some k => Q k M1
  | none => False
theorem dt_tru (ha : DE X a ta aa) (he : ∀ whole, isTrue a X.env whole = (do let v ← whole; standAt a.pos; holding [v] (truthy v)) := by intro _; rfl) :
    DT X a (fun σ H Q => ta σ H fun x H' => ∃ k, TruV X.K x H' k ∧ Q k H') (aTru aa) := ⟨pt_truth ha.pe he, by
  intro E G M N σ H C Q Qc q k
  refine ha.se E G M N σ H C _ _ q fun d v M1 N1 H1 h1 C1 s1 r1 => ?_
  split at h1
  · rename_i b hb
    exact ⟨b, tru_rel C1.cm r1 hb, k b M1 N1 H1 h1 C1 s1⟩
  · exact h1.elim⟩
variable {tA tB' : TT} {aA' aB' : aT} {rest : List Expr}
def atAnd (x y : aT) : aT := fun G M Q => x G M fun b M1 => if b = true then y G M1 Q else Q false M1
def atOr (x y : aT) : aT := fun G M Q => x G M fun b M1 => if b = true then Q true M1 else y G M1 Q
def atNot (x : aT) : aT := fun G M Q => x G M fun b M1 => Q (!b) M1
theorem st_and (h : ST K tA aA') (h2 : ST K tB' aB') : ST K (tAnd tA tB') (atAnd aA' aB') := by
  intro E G M N σ H C Q Qc q k
  refine h E G M N σ H C _ _ q fun b M1 N1 H1 h1 C1 s1 => ?_
  cases b with
  | true =>
    rw [if_pos rfl] at h1 ⊢
    exact h2 E G M1 N1 σ H1 C1 Q Qc h1 (k.from s1)
  | false =>
    rw [if_neg Bool.false_ne_true] at h1 ⊢
    exact k _ M1 N1 H1 h1 C1 s1
theorem st_or (h : ST K tA aA') (h2 : ST K tB' aB') : ST K (tOr tA tB') (atOr aA' aB') := by
  intro E G M N σ H C Q Qc q k
  refine h E G M N σ H C _ _ q fun b M1 N1 H1 h1 C1 s1 => ?_
  cases b with
  | true =>
    rw [if_pos rfl] at h1 ⊢
    exact k _ M1 N1 H1 h1 C1 s1
  | false =>
    rw [if_neg Bool.false_ne_true] at h1 ⊢
    exact h2 E G M1 N1 σ H1 C1 Q Qc h1 (k.from s1)
theorem st_not (h : ST K tA aA') : ST K (tNot tA) (atNot aA') := by
  intro E G M N σ H C Q Qc q k
  exact h E G M N σ H C _ _ q fun b M1 N1 H1 h1 C1 s1 => k _ M1 N1 H1 h1 C1 s1
theorem dw_and1 (ha : DT X a tA aA') : DW X (.BoolOp .And [a] pos) tA aA' := ⟨pw_and1 ha.pt, ha.st⟩
theorem dw_or1 (ha : DT X a tA aA') : DW X (.BoolOp .Or [a] pos) tA aA' := ⟨pw_or1 ha.pt, ha.st⟩
theorem dw_and (ha : DT X a tA aA') (hb : DW X (.BoolOp .And (b :: rest) pos) tB' aB') : DW X (.BoolOp .And (a :: b :: rest) pos) (tAnd tA tB') (atAnd aA' aB') := ⟨pw_and ha.pt hb.pw, st_and ha.st hb.st⟩
theorem dw_or (ha : DT X a tA aA') (hb : DW X (.BoolOp .Or (b :: rest) pos) tB' aB') : DW X (.BoolOp .Or (a :: b :: rest) pos) (tOr tA tB') (atOr aA' aB') := ⟨pw_or ha.pt hb.pw, st_or ha.st hb.st⟩
theorem DW.dt (h : DW X e tA aA') : DT X e tA aA' := ⟨h.pw.pt, h.st⟩
theorem dt_not (ha : DT X a tA aA') : DT X (.UnaryOp .Not a pos) (tNot tA) (atNot aA') := ⟨pt_not ha.pt, st_not ha.st⟩
/-- .. as values (bools) -/
def aAndV (x y : aE) : aE := fun G M Q => x G M fun d M1 => match d with
  | .bl k => if k = true then y G M1 Q else Q (.bl false) M1
  | _ => False
def aOrV (x y : aE) : aE := fun G M Q => x G M fun d M1 => match d with
  | .bl k => if k = true then Q (.bl true) M1 else y G M1 Q
  | _ => False
def fNot : V1 := fun d M Q => match d with
  | .bl k => Q (.bl (!k)) M
  | _ => False
theorem se_andV (h : SE K ta aa) (h2 : SE K tb ab) : SE K (tAndV ta tb) (aAndV aa ab) := by
  intro E G M N σ H C Q Qc q k
  refine h E G M N σ H C _ _ q fun d v M1 N1 H1 h1 C1 s1 r1 => ?_
  split at h1
  · rename_i b
    cases r1
    refine ⟨b, rfl, ?_⟩
    cases b with
    | true =>
      rw [if_pos rfl] at h1 ⊢
      exact h2 E G M1 N1 σ H1 C1 Q Qc h1 (k.from s1)
    | false =>
      rw [if_neg Bool.false_ne_true] at h1 ⊢
      exact (k.from s1).at C1 h1 (.bl _)
  · exact h1.elim
theorem se_orV (h : SE K ta aa) (h2 : SE K tb ab) : SE K (tOrV ta tb) (aOrV aa ab) := by
  intro E G M N σ H C Q Qc q k
  refine h E G M N σ H C _ _ q fun d v M1 N1 H1 h1 C1 s1 r1 => ?_
  split at h1
  · rename_i b
    cases r1
    refine ⟨b, rfl, ?_⟩
    cases b with
    | true =>
      rw [if_pos rfl] at h1 ⊢
      exact (k.from s1).at C1 h1 (.bl _)
    | false =>
      rw [if_neg Bool.false_ne_true] at h1 ⊢
      exact h2 E G M1 N1 σ H1 C1 Q Qc h1 (k.from s1)
  · exact h1.elim
theorem se_notV (h : SE K ta aa) : SE K (tNotV ta) (aUn fNot aa) := by
  intro E G M N σ H C Q Qc q k
  refine h E G M N σ H C _ _ q fun d v M1 N1 H1 h1 C1 s1 r1 => ?_
  unfold fNot at h1
  split at h1
  · cases r1
    exact ⟨_, rfl, (k.from s1).at C1 h1 (.bl _)⟩
  · exact h1.elim
theorem de_one {op} (h : DE X a ta aa) : DE X (.BoolOp op [a] pos) ta aa := ⟨pe_one h.pe, h.se⟩
theorem de_and (ha : DE X a ta aa) (hb : DE X (.BoolOp .And (b :: rest) pos) tb ab) : DE X (.BoolOp .And (a :: b :: rest) pos) (tAndV ta tb) (aAndV aa ab) := ⟨pe_and ha.pe hb.pe, se_andV ha.se hb.se⟩
theorem de_or (ha : DE X a ta aa) (hb : DE X (.BoolOp .Or (b :: rest) pos) tb ab) : DE X (.BoolOp .Or (a :: b :: rest) pos) (tOrV ta tb) (aOrV aa ab) := ⟨pe_or ha.pe hb.pe, se_orV ha.se hb.se⟩
theorem de_not (ha : DE X a ta aa) : DE X (.UnaryOp .Not a pos) (tNotV ta) (aUn fNot aa) := ⟨pe_not ha.pe, se_notV ha.se⟩
/-- a if t else b -/
def aIf (t : aT) (x y : aE) : aE := fun G M Q => t G M fun k M1 => if k = true then x G M1 Q else y G M1 Q
theorem de_ifExp (hc : DT X c tA aA') (ha : DE X a ta aa) (hb : DE X b tb ab) : DE X (.IfExp c a b pos) (tIf tA ta tb) (aIf aA' aa ab) := ⟨pe_ifExp hc.pt ha.pe hb.pe, by
  intro E G M N σ H C Q Qc q k
  refine hc.st E G M N σ H C _ _ q fun b M1 N1 H1 h1 C1 s1 => ?_
  cases b with
  | true =>
    rw [if_pos rfl] at h1 ⊢
    exact ha.se E G M1 N1 σ H1 C1 Q Qc h1 (k.from s1)
  | false =>
    rw [if_neg Bool.false_ne_true] at h1 ⊢
    exact hb.se E G M1 N1 σ H1 C1 Q Qc h1 (k.from s1)⟩

/-! ### calls of built-ins -/
def aCB (f : VL) (x : aA) : aE := fun G M Q => x G M fun ds M1 => f ds M1 Q
theorem se_cb {r : List V → Hp → VK → Prop} {f : VL} (hr : SL K r f) (h : SA K t at1) : SE K (tCB r t) (aCB f at1) := by
  intro E G M N σ H C Q Qc q k
  refine h E G M N σ H C _ _ q fun ds vs M1 N1 H1 h1 C1 s1 r1 => ?_
  exact hr E G M1 N1 σ H1 C1 vs ds r1 Q Qc h1 (k.from s1)
variable {x : Str} {p : Pos} {id T : String} {r : List V → Hp → VK → Prop} {f : VL}
theorem de_callB (hc : CallR X (.builtin id) r) (hs : SL X.K r f) (hg : Gl X x) (hm : X.mg x = none) (hv : bootBuiltins x = some (.builtin id)) (ha : DA X (e :: es) t at1) (hn : x ≠ "__name__" := by decide) (hdb : (x == ("__debug__" : Str)) = false := by decide)
    (he : starEach (e :: es) X.env = (false, eval e X.env) :: starEach es X.env := by rfl) (hpl : (backTo pos (starEach es X.env)).any (·.1) = false := by rfl) : DE X (.Call (.Name x p) (e :: es) [] pos) (tCB r t) (aCB f at1) :=
  ⟨pe_callB hc hg hm hv ha.pa hn hdb he hpl, se_cb hs ha.sa⟩
theorem de_callTy (hc : CallR X (.type T) r) (hs : SL X.K r f) (hg : Gl X x) (hm : X.mg x = none) (hv : bootBuiltins x = some (.type T)) (ha : DA X (e :: es) t at1) (hn : x ≠ "__name__" := by decide) (hdb : (x == ("__debug__" : Str)) = false := by decide)
    (he : starEach (e :: es) X.env = (false, eval e X.env) :: starEach es X.env := by rfl) (hpl : (backTo pos (starEach es X.env)).any (·.1) = false := by rfl) : DE X (.Call (.Name x p) (e :: es) [] pos) (tCB r t) (aCB f at1) :=
  ⟨pe_callTy hc hg hm hv ha.pa hn hdb he hpl, se_cb hs ha.sa⟩
theorem rel1 {N : Hp} {vs : List V} {d : D} (r : RelL K N vs [d]) : ∃ v, vs = [v] ∧ RelD K N v d := by cases r with | cons h r => cases r; exact ⟨_, rfl, h⟩
theorem rel2 {N : Hp} {vs : List V} {d e : D} (r : RelL K N vs [d, e]) : ∃ v w, vs = [v, w] ∧ RelD K N v d ∧ RelD K N w e := by cases r with | cons h r => cases r with | cons h2 r => cases r; exact ⟨_, _, rfl, h, h2⟩
/-- int(x) -/
def fInt : VL := fun ds M Q => match ds with
  | [.int i] => Q (.int i) M
  | [.bl k] => Q (.int (if k then 1 else 0)) M
  | _ => False
theorem sl_int : SL K (fun xs H Q => (∃ i, xs = [.int i] ∧ Q (.int i) H) ∨ ∃ k, xs = [.bl k] ∧ Q (.int (if k then 1 else 0)) H) fInt := by
  intro E G M N σ H C xs ds rx Q Qc h k
  unfold fInt at h
  split at h
  · obtain ⟨v, rfl, r⟩ := rel1 rx
    cases r
    exact .inl ⟨_, rfl, k.at C h (.int _)⟩
  · obtain ⟨v, rfl, r⟩ := rel1 rx
    cases r
    exact .inr ⟨_, rfl, k.at C h (.int _)⟩
  · exact h.elim
def fAbs : VL := fun ds M Q => match ds with
  | [.int i] => Q (.int (if i < 0 then -i else i)) M
  | _ => False
theorem sl_abs : SL K (fun xs H Q => ∃ i, xs = [.int i] ∧ Q (.int (if i < 0 then -i else i)) H) fAbs := by
  intro E G M N σ H C xs ds rx Q Qc h k
  unfold fAbs at h
  split at h
  · obtain ⟨v, rfl, r⟩ := rel1 rx
    cases r
    exact ⟨_, rfl, k.at C h (.int _)⟩
  · exact h.elim
def fMax2 : VL := fun ds M Q => match ds with
  | [.int i, .int j] => Q (.int (if j > i then j else i)) M
  | _ => False
theorem sl_max2 : SL K (fun xs H Q => ∃ i j, xs = [.int i, .int j] ∧ Q (.int (if j > i then j else i)) H) fMax2 := by
  intro E G M N σ H C xs ds rx Q Qc h k
  unfold fMax2 at h
  split at h
  · obtain ⟨v, w, rfl, r, r2⟩ := rel2 rx
    cases r; cases r2
    exact ⟨_, _, rfl, k.at C h (.int _)⟩
  · exact h.elim
def fMin2 : VL := fun ds M Q => match ds with
  | [.int i, .int j] => Q (.int (if j < i then j else i)) M
  | _ => False
theorem sl_min2 : SL K (fun xs H Q => ∃ i j, xs = [.int i, .int j] ∧ Q (.int (if j < i then j else i)) H) fMin2 := by
  intro E G M N σ H C xs ds rx Q Qc h k
  unfold fMin2 at h
  split at h
  · obtain ⟨v, w, rfl, r, r2⟩ := rel2 rx
    cases r; cases r2
    exact ⟨_, _, rfl, k.at C h (.int _)⟩
  · exact h.elim
/-- len(x): a text, a list, a tuple, a dict with int and text keys -/
def fLen : VL := fun ds M Q => match ds with
  | [d] => (match itemsM M d with
    | some xs => Q (.int (xs.length : Nat)) M
    | none => (match d with
      | .str z => z.length ≤ 1000000 ∧ Q (.int (z.length : Nat)) M
      | .dK gs => Q (.int (gs.length : Nat)) M
      | .ref a => (match M a with | some (.dK gs) => Q (.int (gs.length : Nat)) M | _ => False)
      | _ => False))
  | _ => False
def rLenD : List V → Hp → VK → Prop := fun xs H Q => ∃ a kvs, xs = [.ref a] ∧ Rd H a (.dK kvs) ∧ Q (.int (kvs.length : Nat)) H
theorem call_lenDd : CallR X (.builtin "len") rLenD := by
  intro pins s σ H xs us Q I r h
  obtain ⟨a, kvs, rfl, hd, q⟩ := h
  obtain rfl := r.ref1
  exact d_len I hd fun t s' I' => ⟨.int kvs.length, H, I', ⟨_, rfl⟩, q⟩
def rLenA (K : PySem.W.Frag) : List V → Hp → VK → Prop := fun xs H Q => (fun xs H Q => ∃ p ys, xs = [.ref p] ∧ (SqL K H p ys ∨ SqT K H p ys) ∧ Q (.int ys.length) H) xs H Q ∨ (fun xs H Q => (∃ z, xs = [.str z] ∧ z.length ≤ sizeLine ∧ Q (.int z.length) H) ∨ rLenD xs H Q) xs H Q
theorem call_lenA : CallR X (.builtin "len") (rLenA X.K) := CallR.or call_len_seq (CallR.or call_len_str call_lenDd)
theorem sl_len : SL K (rLenA K) fLen := by
  intro E G M N σ H C xs ds rx Q Qc h k
  unfold fLen at h
  split at h
  · rename_i d
    obtain ⟨v, rfl, r⟩ := rel1 rx
    split at h
    · rename_i ys hi
      obtain ⟨a, vs, rfl, r2, h4⟩ := rel_itemsM C.cm r hi
      refine .inl ⟨a, vs, rfl, ?_, ?_⟩
      · rcases h4 with ⟨_, h4⟩ | ⟨_, h4⟩
        · exact .inl h4
        · exact .inr h4
      · rw [r2.length]
        exact k.at C h (.int _)
    · split at h
      · cases r
        exact .inr (.inl ⟨_, rfl, big_le h.1, k.at C h.2 (.int _)⟩)
      · cases r with | dK h1 r1 =>
        refine .inr (.inr ⟨_, _, rfl, .of (C.cm.sm _ _ h1), ?_⟩)
        rw [r1.length]
        exact k.at C h (.int _)
      · split at h
        · rename_i a gs e
          have e3 := rel_ref r
          subst e3
          obtain ⟨kvs, h1, r1⟩ := C.cm.dKs e
          refine .inr (.inr ⟨_, _, rfl, .of h1, ?_⟩)
          rw [r1.length]
          exact k.at C h (.int _)
        · exact h.elim
      · exact h.elim
  · exact h.elim
/-- list(x), tuple(x) of a list or a tuple -/
def fList : VL := fun ds M Q => match ds with
  | [d] => (match itemsM M d with | some xs => Q (.list xs) M | none => False)
  | _ => False
def fListM : VL := fun ds M Q => match ds with
  | [d] => (match itemsM M d with | some xs => ∀ p, M p = none → Q (.ref p) (mupd M p (.lst xs)) | none => False)
  | _ => False
def fTuple : VL := fun ds M Q => match ds with
  | [d] => (match itemsM M d with | some xs => Q (if isLM d then .tup xs else d) M | none => False)
  | _ => False
theorem sl_list : SL K (fun xs H Q => ∃ p ys, xs = [.ref p] ∧ (SqL K H p ys ∨ SqT K H p ys) ∧ ∀ l, H l = none → Q (.ref l) (upd H l (.lst ys))) fList := by
  intro E G M N σ H C xs ds rx Q Qc h k
  unfold fList at h
  split at h
  · obtain ⟨v, rfl, r⟩ := rel1 rx
    split at h
    · rename_i ys hi
      obtain ⟨a, vs, rfl, r2, h4⟩ := rel_itemsM C.cm r hi
      refine ⟨a, vs, rfl, ?_, fun l hl => k.new C hl h fun N' s e => .list e (r2.mono s)⟩
      rcases h4 with ⟨_, h4⟩ | ⟨_, h4⟩
      · exact .inl h4
      · exact .inr h4
    · exact h.elim
  · exact h.elim
theorem sl_listM : SL K (fun xs H Q => ∃ p ys, xs = [.ref p] ∧ (SqL K H p ys ∨ SqT K H p ys) ∧ ∀ l, H l = none → Q (.ref l) (upd H l (.lst ys))) fListM := by
  intro E G M N σ H C xs ds rx Q Qc h k
  unfold fListM at h
  split at h
  · obtain ⟨v, rfl, r⟩ := rel1 rx
    split at h
    · rename_i ys hi
      obtain ⟨a, vs, rfl, r2, h4⟩ := rel_itemsM C.cm r hi
      refine ⟨a, vs, rfl, ?_, fun l hl => k.newM C hl (hasL upd_same r2) (h l (C.cm.noneM hl))⟩
      rcases h4 with ⟨_, h4⟩ | ⟨_, h4⟩
      · exact .inl h4
      · exact .inr h4
    · exact h.elim
  · exact h.elim
theorem sl_tuple : SL K (fun xs H Q => ∃ p ys, xs = [.ref p] ∧ ((SqL K H p ys ∧ ∀ l, H l = none → Q (.ref l) (upd H l (.tup ys))) ∨ (SqT K H p ys ∧ Q (.ref p) H))) fTuple := by
  intro E G M N σ H C xs ds rx Q Qc h k
  unfold fTuple at h
  split at h
  · rename_i d
    obtain ⟨v, rfl, r⟩ := rel1 rx
    split at h
    · rename_i ys hi
      obtain ⟨a, vs, rfl, r2, h4⟩ := rel_itemsM C.cm r hi
      refine ⟨a, vs, rfl, ?_⟩
      rcases h4 with ⟨e, h4⟩ | ⟨e, h4⟩
      · rw [e, if_pos rfl] at h
        exact .inl ⟨h4, fun l hl => k.new C hl h fun N' s e => .tup e (r2.mono s)⟩
      · rw [e, if_neg Bool.false_ne_true] at h
        exact .inr ⟨h4, k.at C h r⟩
    · exact h.elim
  · exact h.elim
/-- all(xs), any(xs) of a list of bools -/
def bools : List D → Option (List Bool)
  | [] => some []
  | .bl b :: r => (bools r).map (b :: ·)
  | _ :: _ => none
theorem bools_rel {N : Hp} : ∀ {vs : List V} {ds : List D} {bs : List Bool}, RelL K N vs ds → bools ds = some bs → vs = bs.map V.bl
  | _, _, bs, .nil, h => by simp [bools] at h; subst h; rfl
  | _, _, bs, .cons h1 r, h => by
    cases h1 <;> simp [bools] at h
    obtain ⟨bs', h2, rfl⟩ := h
    rw [bools_rel r h2]
    rfl
def fAll : VL := fun ds M Q => match ds with
  | [d] => isLM d = true ∧ (match (itemsM M d).bind bools with | some bs => Q (.bl (bs.all _root_.id)) M | none => False)
  | _ => False
def fAny : VL := fun ds M Q => match ds with
  | [d] => isLM d = true ∧ (match (itemsM M d).bind bools with | some bs => Q (.bl (bs.any _root_.id)) M | none => False)
  | _ => False
theorem sl_all : SL K (rAll K) fAll := by
  intro E G M N σ H C xs ds rx Q Qc h k
  unfold fAll at h
  split at h
  · obtain ⟨v, rfl, r⟩ := rel1 rx
    obtain ⟨h0, h⟩ := h
    split at h
    · rename_i bs hb
      obtain ⟨ys, hi, hb⟩ := Option.bind_eq_some_iff.mp hb
      obtain ⟨a, vs, rfl, r2, h4⟩ := rel_itemsM C.cm r hi
      rw [h0] at h4
      have e := bools_rel r2 hb
      subst e
      rcases h4 with ⟨_, h4⟩ | ⟨e, _⟩
      · exact ⟨a, bs, rfl, h4, k.at C h (.bl _)⟩
      · cases e
    · exact h.elim
  · exact h.elim
theorem sl_any : SL K (rAny K) fAny := by
  intro E G M N σ H C xs ds rx Q Qc h k
  unfold fAny at h
  split at h
  · obtain ⟨v, rfl, r⟩ := rel1 rx
    obtain ⟨h0, h⟩ := h
    split at h
    · rename_i bs hb
      obtain ⟨ys, hi, hb⟩ := Option.bind_eq_some_iff.mp hb
      obtain ⟨a, vs, rfl, r2, h4⟩ := rel_itemsM C.cm r hi
      rw [h0] at h4
      have e := bools_rel r2 hb
      subst e
      rcases h4 with ⟨_, h4⟩ | ⟨e, _⟩
      · exact ⟨a, bs, rfl, h4, k.at C h (.bl _)⟩
      · cases e
    · exact h.elim
  · exact h.elim
/-- sum, max, min of a list of intsD -/
def intsD : List D → Option (List Int)
  | [] => some []
  | .int b :: r => (intsD r).map (b :: ·)
  | _ :: _ => none
theorem ints_rel {N : Hp} : ∀ {vs : List V} {ds : List D} {bs : List Int}, RelL K N vs ds → intsD ds = some bs → vs = bs.map V.int
  | _, _, bs, .nil, h => by simp [intsD] at h; subst h; rfl
  | _, _, bs, .cons h1 r, h => by
    cases h1 <;> simp [intsD] at h
    obtain ⟨bs', h2, rfl⟩ := h
    rw [ints_rel r h2]
    rfl
def fSum : VL := fun ds M Q => match ds with
  | [d] => isLM d = true ∧ (match (itemsM M d).bind intsD with | some bs => Q (.int bs.sum) M | none => False)
  | _ => False
def fMax : VL := fun ds M Q => match ds with
  | [d] => isLM d = true ∧ (match (itemsM M d).bind intsD with | some bs => 0 < bs.length ∧ ∀ m, m ∈ bs → (∀ y, y ∈ bs → y ≤ m) → Q (.int m) M | none => False)
  | _ => False
def fMin : VL := fun ds M Q => match ds with
  | [d] => isLM d = true ∧ (match (itemsM M d).bind intsD with | some bs => 0 < bs.length ∧ ∀ m, m ∈ bs → (∀ y, y ∈ bs → m ≤ y) → Q (.int m) M | none => False)
  | _ => False
theorem sl_sum : SL K (rSum K) fSum := by
  intro E G M N σ H C xs ds rx Q Qc h k
  unfold fSum at h
  split at h
  · obtain ⟨v, rfl, r⟩ := rel1 rx
    obtain ⟨h0, h⟩ := h
    split at h
    · rename_i bs hb
      obtain ⟨ys, hi, hb⟩ := Option.bind_eq_some_iff.mp hb
      obtain ⟨a, vs, rfl, r2, h4⟩ := rel_itemsM C.cm r hi
      rw [h0] at h4
      have e := ints_rel r2 hb
      subst e
      rcases h4 with ⟨_, h4⟩ | ⟨e, _⟩
      · exact ⟨a, bs, rfl, h4, k.at C h (.int _)⟩
      · cases e
    · exact h.elim
  · exact h.elim
theorem sl_max : SL K (rMax K) fMax := by
  intro E G M N σ H C xs ds rx Q Qc h k
  unfold fMax at h
  split at h
  · obtain ⟨v, rfl, r⟩ := rel1 rx
    obtain ⟨h0, h⟩ := h
    split at h
    · rename_i bs hb
      obtain ⟨ys, hi, hb⟩ := Option.bind_eq_some_iff.mp hb
      obtain ⟨a, vs, rfl, r2, h4⟩ := rel_itemsM C.cm r hi
      rw [h0] at h4
      have e := ints_rel r2 hb
      subst e
      rcases h4 with ⟨_, h4⟩ | ⟨e, _⟩
      · exact ⟨a, bs, rfl, h4, h.1, fun m h1 h2 => k.at C (h.2 m h1 h2) (.int _)⟩
      · cases e
    · exact h.elim
  · exact h.elim
theorem sl_min : SL K (rMin K) fMin := by
  intro E G M N σ H C xs ds rx Q Qc h k
  unfold fMin at h
  split at h
  · obtain ⟨v, rfl, r⟩ := rel1 rx
    obtain ⟨h0, h⟩ := h
    split at h
    · rename_i bs hb
      obtain ⟨ys, hi, hb⟩ := Option.bind_eq_some_iff.mp hb
      obtain ⟨a, vs, rfl, r2, h4⟩ := rel_itemsM C.cm r hi
      rw [h0] at h4
      have e := ints_rel r2 hb
      subst e
      rcases h4 with ⟨_, h4⟩ | ⟨e, _⟩
      · exact ⟨a, bs, rfl, h4, h.1, fun m h1 h2 => k.at C (h.2 m h1 h2) (.int _)⟩
      · cases e
    · exact h.elim
  · exact h.elim
end
end DL

set_option Elab.async false
set_option linter.all false
set_option maxRecDepth 100000
namespace DL
open PySem PySem.Spec PyProof.Rows L2
section
variable {X : Cx} {K : PySem.W.Frag} {e a b c o : Expr} {es : List Expr} {te ta tb tc to : TE} {t : TA} {ae aa ab ac ao : aE} {at1 : aA} {pos : Pos}
/-! ### methods of built-in types -/
/-- the type of a datum -/
def tyD (M : Mp) (d : D) : Option String := match d with
  | .non => some "NoneType" | .bl _ => some "bool" | .int _ => some "int" | .str _ => some "str"
  | .list _ => some "list" | .rol _ => some "list" | .tup _ => some "tuple" | .rot _ => some "tuple"
  | .dK _ => some "dict" | .dT _ => some "dict"
  | .ref a => (match M a with
    | some (.lst _) => some "list"
    | some (.dK _) => some "dict"
    | some (.dT _) => some "dict"
    | _ => none)
  | _ => none
abbrev VM := D → List D → Mp → QD → Prop
def SM (K : PySem.W.Frag) (T : String) (r : V → List V → Hp → VK → Prop) (f : VM) : Prop := ∀ E G M N σ H, CC K E G M N σ H → ∀ x d xs ds, RelD K N x d → RelL K N xs ds → ∀ Q Qc, f d ds M Q → Co K E G N σ Q Qc → r x xs H Qc
/-- o.m(..): the receiver's type is looked at before the arguments -/
def aBM (T : String) (f : VM) (x : aE) (y : aA) : aE := fun G M Q => x G M fun d M1 => tyD M1 d = some T ∧ y G M1 fun ds M2 => f d ds M2 Q
def aBM0 (T : String) (f : VM) (x : aE) : aE := fun G M Q => x G M fun d M1 => tyD M1 d = some T ∧ f d [] M1 Q
theorem tyV_rel {M : Mp} {N H : Hp} {v : V} {d : D} {T : String} (hT : T = "list" ∨ T = "dict" ∨ T = "str" ∨ T = "int") (c : CM K M N H) (r : RelD K N v d) (h : tyD M d = some T) : tyV K T v H := by
  cases r <;> simp only [tyD] at h
  case non => cases h; rcases hT with h | h | h | h <;> simp at h
  case bl => cases h; rcases hT with h | h | h | h <;> simp at h
  case int => cases h; rfl
  case str => cases h; rfl
  case ty => cases h
  case list h1 r1 => cases h; exact .inl ⟨rfl, _, .of (c.sm _ _ h1)⟩
  case rol h1 r1 => cases h; exact .inl ⟨rfl, _, c.sm.seq h1⟩
  case tup => cases h; rcases hT with h | h | h | h <;> simp at h
  case rot => cases h; rcases hT with h | h | h | h <;> simp at h
  case obj => cases h
  case dK h1 r1 => cases h; exact .inr (.inr (.inl ⟨rfl, .inl ⟨_, c.sm _ _ h1⟩⟩))
  case dT h1 r1 => cases h; exact .inr (.inr (.inl ⟨rfl, .inr ⟨_, c.sm _ _ h1⟩⟩))
  case ref a =>
    split at h
    · rename_i e
      cases h
      obtain ⟨xs, h1, _⟩ := c.lst e
      exact .inl ⟨rfl, _, .of h1⟩
    · rename_i e
      cases h
      obtain ⟨xs, h1, _⟩ := c.dKs e
      exact .inr (.inr (.inl ⟨rfl, .inl ⟨_, h1⟩⟩))
    · rename_i e
      cases h
      obtain ⟨xs, h1, _⟩ := c.dTs e
      exact .inr (.inr (.inl ⟨rfl, .inr ⟨_, h1⟩⟩))
    · cases h
variable {name : Str} {apos cpos : Pos} {T id : String} {r : V → List V → Hp → VK → Prop} {f : VM}
theorem de_bm0 (pa : PlainAttrs T) (slot : Slot T name id) (hty : typeOf (.builtin id) = pure (.type "method_descriptor")) (hm : MtR X id r) (hs : SM X.K T r f) (hT : T = "list" ∨ T = "dict" ∨ T = "str" ∨ T = "int") (ho : DE X o to ao)
    (hbase : attributeBase o name X.env (eval o X.env) = eval o X.env := by rfl) (hline : (apos.endLine == cpos.line) = true := by rfl) : DE X (.Call (.Attribute o name apos) [] [] cpos) (tBM0 X.K T r to) (aBM0 T f ao) :=
  ⟨pe_bm0 pa slot hty hm ho.pe hbase hline, by
    intro E G M N σ H C Q Qc q k
    refine ho.se E G M N σ H C _ _ q fun d v M1 N1 H1 h1 C1 s1 r1 => ⟨tyV_rel hT C1.cm r1 h1.1, ?_⟩
    exact hs E G M1 N1 σ H1 C1 v d [] [] r1 .nil Q Qc h1.2 (k.from s1)⟩
theorem de_bm (pa : PlainAttrs T) (slot : Slot T name id) (hty : typeOf (.builtin id) = pure (.type "method_descriptor")) (hm : MtR X id r) (hs : SM X.K T r f) (hT : T = "list" ∨ T = "dict" ∨ T = "str" ∨ T = "int") (ho : DE X o to ao) (ha : DA X (e :: es) t at1)
    (hbase : attributeBase o name X.env (eval o X.env) = eval o X.env := by rfl)
    (hfew : ((backTo cpos (starEach (e :: es) X.env)).all (fun x => !x.1) && (backToKw cpos (keywordEach [] X.env)).all (fun x => x.1.isSome)
      && decide ((e :: es).length + ([] : List Keyword).length + (if ([] : List Keyword).isEmpty then 0 else 1) < 30)) = true := by rfl)
    (hline : (apos.endLine == cpos.line) = true := by rfl) (hss : starEach (e :: es) X.env = (false, eval e X.env) :: starEach es X.env := by rfl) (hplain : (backTo cpos (starEach es X.env)).any (·.1) = false := by rfl) :
    DE X (.Call (.Attribute o name apos) (e :: es) [] cpos) (tBM X.K T r to t) (aBM T f ao at1) :=
  ⟨pe_bm pa slot hty hm ho.pe ha.pa hbase hfew hline hss hplain, by
    intro E G M N σ H C Q Qc q k
    refine ho.se E G M N σ H C _ _ q fun d v M1 N1 H1 h1 C1 s1 r1 => ⟨tyV_rel hT C1.cm r1 h1.1, ?_⟩
    refine ha.sa E G M1 N1 σ H1 C1 _ _ h1.2 fun ds vs M2 N2 H2 h2 C2 s2 r2 => ?_
    exact hs E G M2 N2 σ H2 C2 v d vs ds (r1.mono s2) r2 Q Qc h2 (k.from (s1.trans s2))⟩
/-- list.append -/
def fAppend : VM := fun d ds M Q => match d, ds with
  | .ref a, [x] => (match M a with | some (.lst xs) => xs.length < 1000000 ∧ Q .non (mupd M a (.lst (xs ++ [x]))) | _ => False)
  | _, _ => False
theorem sm_append : SM K "list" rAppend fAppend := by
  intro E G M N σ H C x d xs ds rx rs Q Qc h k
  unfold fAppend at h
  split at h
  · rename_i a y
    have e := rel_ref rx
    subst e
    obtain ⟨v, rfl, r⟩ := rel1 rs
    split at h
    · rename_i zs e
      obtain ⟨ws, h1, r1⟩ := C.cm.lst e
      refine ⟨a, ws, v, rfl, rfl, h1, by rw [r1.length]; exact big_lt (Nat.le_of_lt h.1), ?_⟩
      exact k.mut C e (hasL upd_same (r1.append (.cons r .nil))) h.2 .non
    · exact h.elim
  · exact h.elim
/-- list.pop() -/
def fPop : VM := fun d ds M Q => match d, ds with
  | .ref a, [] => (match M a with | some (.lst xs) => (match xs[xs.length - 1]? with | some y => Q y (mupd M a (.lst xs.dropLast)) | none => False) | _ => False)
  | _, _ => False
theorem sm_pop : SM K "list" rPop fPop := by
  intro E G M N σ H C x d xs ds rx rs Q Qc h k
  unfold fPop at h
  split at h
  · rename_i a
    have e := rel_ref rx
    subst e
    cases rs
    split at h
    · rename_i zs e
      obtain ⟨ws, h1, r1⟩ := C.cm.lst e
      split at h
      · rename_i y hy
        obtain ⟨w, hw, rw'⟩ := r1.getR hy
        refine ⟨a, ws, w, rfl, rfl, h1, by rw [r1.length]; exact hw, ?_⟩
        exact k.mut C e (hasL upd_same r1.dropLast) h rw'
      · exact h.elim
    · exact h.elim
  · exact h.elim
/-- list.extend of a list -/
def fExtend : VM := fun d ds M Q => match d, ds with
  | .ref a, [e] => (match M a, e with
    | some (.lst xs), .list ys => xs.length + ys.length ≤ 1000000 ∧ Q .non (mupd M a (.lst (xs ++ ys)))
    | _, _ => False)
  | _, _ => False
theorem sm_extend : SM K "list" rExtend fExtend := by
  intro E G M N σ H C x d xs ds rx rs Q Qc h k
  unfold fExtend at h
  split at h
  · rename_i a y
    have e := rel_ref rx
    subst e
    obtain ⟨v, rfl, r⟩ := rel1 rs
    split at h
    · rename_i zs ys e
      obtain ⟨ws, h1, r1⟩ := C.cm.lst e
      obtain ⟨q, us, rfl, h2, r2⟩ := rel_list r
      refine ⟨a, q, ws, us, rfl, rfl, h1, C.cm.sm _ _ h2, by rw [r1.length, r2.length]; exact big_le h.1, ?_⟩
      exact k.mut C e (hasL upd_same (r1.append r2)) h.2 .non
    · exact h.elim
  · exact h.elim

/-! ### attributes, own calls -/
def aFld (K : PySem.W.Frag) (x : aE) (f : Str) : aE := fun G M Q => x G M fun d M1 => match d with
  | .obj C gs => Cls K C ∧ NoAttr K C f ∧ (match gs.lookup f with | some y => Q y M1 | none => False)
  | .ref p => (match M1 p with
    | some (.ins C gs) => Cls K C ∧ NoAttr K C f ∧ (match gs.lookup f with | some y => Q y M1 | none => False)
    | _ => False)
  | _ => False
theorem se_fld {f : Str} (h : SE K ta aa) : SE K (tFld K ta f) (aFld K aa f) := by
  intro E G M N σ H C Q Qc q k
  refine h E G M N σ H C _ _ q fun d v M1 N1 H1 h1 C1 s1 r1 => ?_
  split at h1
  · obtain ⟨p, dx, fs, rfl, ho, r2⟩ := rel_obj r1
    obtain ⟨hc, hn, h1⟩ := h1
    split at h1
    · rename_i y hy
      obtain ⟨w, e1, e2⟩ := r2.lookup hy
      exact ⟨p, _, dx, fs, w, rfl, C1.cm.sm _ _ ho, hc, hn, e1, (k.from s1).at C1 h1 e2⟩
    · exact h1.elim
  · have e := rel_ref r1
    subst e
    split at h1
    · rename_i p _ C gs e
      obtain ⟨dx, fs, ho, r2⟩ := C1.cm.inst e
      obtain ⟨hc, hn, h1⟩ := h1
      split at h1
      · rename_i y hy
        obtain ⟨w, e1, e2⟩ := r2.lookup hy
        exact ⟨_, _, dx, fs, w, rfl, ho, hc, hn, e1, (k.from s1).at C1 h1 e2⟩
      · exact h1.elim
    · exact h1.elim
  · exact h1.elim
theorem de_fld {f : Str} (he : DE X e ta aa) (hb : attributeBase e f X.env (eval e X.env) = eval e X.env := by rfl) : DE X (.Attribute e f pos) (tFld X.K ta f) (aFld X.K aa f) := ⟨pe_fld he.pe hb, se_fld he.se⟩
/-- a def's promise over data -/
abbrev aSp := List D → Mp → QD → Prop
def lift (K : PySem.W.Frag) (n : Nat) (sp : aSp) : Sp := fun vs H Q _ => ∃ ds M N Q', ds.length = n ∧ CM K M N H ∧ RelL K N vs ds ∧ sp ds M Q' ∧
  ∀ d v M' N' H', Q' d M' → Fr M N H M' N' H' → CM K M' N' H' → RelD K N' v d → Q v H'
def aCall (n : Nat) (sp : aSp) (x : aA) : aE := fun G M Q => x G M fun ds M1 => ds.length = n ∧ sp ds M1 Q
theorem se_call {n : Nat} {sp : aSp} {E0' : XK} (h : SA K t at1) : SE K (tCall (lift K n sp) [] E0' t) (aCall n sp at1) := by
  intro E G M N σ H C Q Qc q k
  refine h E G M N σ H C _ _ q fun ds vs M1 N1 H1 h1 C1 s1 r1 => ?_
  rw [List.append_nil]
  exact ⟨ds, M1, N1, Q, h1.1, C1.cm, r1, h1.2, fun d v M' N' H' q' fr cm r => (k.from s1) d v M' N' H' q' (C1.step fr cm) fr.nn r⟩
variable {CX : CXT} {k n : Nat} {g C : Addr} {fd : FuncData} {ps : List Str} {sp : aSp} {x m : Str} {p : Pos} {E0' : XK}
theorem de_call (F : FnOk X.prog X.w X.K X.mg X.base CX k g fd ps (lift X.K n sp)) (hr : Room k X.A) (hg : Gl X x) (hm : X.mg x = some (.ref g)) (hk : PySem.W.keepIn X.K (.ref g) = true) (hb : Binds X.K fd ps []) (hx : Passes CX X E0')
    (ha : DA X (e :: es) t at1) (hdb : (x == ("__debug__" : Str)) = false := by decide) (he : starEach (e :: es) X.env = (false, eval e X.env) :: starEach es X.env := by rfl) (hpl : (backTo pos (starEach es X.env)).any (·.1) = false := by rfl) :
    DE X (.Call (.Name x p) (e :: es) [] pos) (tCall (lift X.K n sp) [] E0' t) (aCall n sp at1) := ⟨pe_call F hr hg hm hk hb .nil hx ha.pa hdb he hpl, se_call ha.sa⟩
theorem de_call0 (F : FnOk X.prog X.w X.K X.mg X.base CX k g fd ps (lift X.K n sp)) (hr : Room k X.A) (hg : Gl X x) (hm : X.mg x = some (.ref g)) (hk : PySem.W.keepIn X.K (.ref g) = true) (hb : Binds X.K fd ps []) (hx : Passes CX X E0')
    (hdb : (x == ("__debug__" : Str)) = false := by decide) : DE X (.Call (.Name x p) [] [] pos) (tCall (lift X.K n sp) [] E0' tNil) (aCall n sp aNil) := ⟨pe_call0 F hr hg hm hk hb .nil hx hdb, se_call sa_nil⟩
/-- keywords: gD puts the values in the parameters' order -/
def aCallK (n : Nat) (sp : aSp) (gD : List D → List D → List D) (x y : aA) : aE := fun G M Q => x G M fun ds M1 => y G M1 fun es M2 => (gD ds es).length = n ∧ sp (gD ds es) M2 Q
structure DK (X : Cx) (kws : List Keyword) (ta : TA) (aa : aA) : Prop where
  pk : PK X kws ta
  sa : SA X.K ta aa
theorem dk_nil : DK X [] tNil aNil := ⟨pk_nil, sa_nil⟩
theorem dk_cons {kws : List Keyword} {nm : Option Str} {kpos : Pos} (ha : DE X e te ae) (hr : DK X kws t at1) : DK X (⟨nm, e, kpos⟩ :: kws) (tCons te t) (aCons ae at1) := ⟨pk_cons ha.pe hr.pk, sa_cons ha.se hr.sa⟩
theorem de_callK {ks : List Str} {kws : List Keyword} {tk : TA} {ak : aA} {gV' : List Value → List Value → List Value} {gV : List V → List V → List V} {gD : List D → List D → List D}
    (hgd : ∀ (N : Hp) vs ds ws es, RelL X.K N vs ds → RelL X.K N ws es → RelL X.K N (gV vs ws) (gD ds es))
    (F : FnOk X.prog X.w X.K X.mg X.base CX k g fd ps (lift X.K n sp)) (hr : Room k X.A) (hg : Gl X x) (hm : X.mg x = some (.ref g)) (hk : PySem.W.keepIn X.K (.ref g) = true) (hb : KBinds X.K fd ps ks gV' gV) (hx : Passes CX X E0')
    (ha : DA X (e :: es) t at1) (hkw : DK X kws tk ak) (hall : (backToKw pos (keywordEach kws X.env)).all (·.1.isSome) = true := by rfl) (hks : (backToKw pos (keywordEach kws X.env)).filterMap (·.1) = ks := by rfl)
    (hdb : (x == ("__debug__" : Str)) = false := by decide) (he : starEach (e :: es) X.env = (false, eval e X.env) :: starEach es X.env := by rfl)
    (hpl : ((backTo pos (starEach (e :: es) X.env)).any (·.1) || (backToKw pos (keywordEach kws X.env)).any (·.1.isNone)) = false := by rfl) :
    DE X (.Call (.Name x p) (e :: es) kws pos) (tCallK (lift X.K n sp) gV E0' t tk) (aCallK n sp gD at1 ak) := ⟨pe_callK F hr hg hm hk hb hx ha.pa hkw.pk hall hks hdb he hpl, by
  intro E G M N σ H C Q Qc q k
  refine ha.sa E G M N σ H C _ _ q fun ds vs M1 N1 H1 h1 C1 s1 r1 => ?_
  refine hkw.sa E G M1 N1 σ H1 C1 _ _ h1 fun es ws M2 N2 H2 h2 C2 s2 r2 => ?_
  exact ⟨gD ds es, M2, N2, Q, h2.1, C2.cm, hgd _ _ _ _ _ (r1.mono s2) r2, h2.2, fun d v M' N' H' q' fr cm r => (k.from (s1.trans s2)) d v M' N' H' q' (C2.step fr cm) fr.nn r⟩⟩
/-- o.m(..) of an instance of the class at C -/
def aMeth (C : Addr) (m : Str) (n : Nat) (sp : aSp) (x : aE) (y : aA) : aE := fun G M Q => x G M fun d M1 => (match d with
  | .obj C' gs => C' = C ∧ gs.lookup m = none
  | .ref p => (match M1 p with | some (.ins C' gs) => C' = C ∧ gs.lookup m = none | _ => False)
  | _ => False) ∧ y G M1 fun ds M2 => ds.length + 1 = n ∧ sp (d :: ds) M2 Q
theorem se_meth (hta : SE K ta aa) (h : SA K t at1) : SE K (tMeth C m (lift K n sp) [] E0' ta t) (aMeth C m n sp aa at1) := by
  intro E G M N σ H CC' Q Qc q k
  refine hta E G M N σ H CC' _ _ q fun d v M1 N1 H1 h1 C1 s1 r1 => ?_
  have go : ∃ a dx fs, v = .ref a ∧ H1 a = some (.ins C dx fs) ∧ fs.lookup m = none := by
    have h0 := h1.1
    split at h0
    · obtain ⟨p, dx, fs, rfl, ho, r2⟩ := rel_obj r1
      obtain ⟨rfl, h0⟩ := h0
      exact ⟨p, dx, fs, rfl, C1.cm.sm _ _ ho, r2.lookup_none h0⟩
    · have e := rel_ref r1
      subst e
      split at h0
      · rename_i e
        obtain ⟨dx, fs, ho, r2⟩ := C1.cm.inst e
        obtain ⟨rfl, h0⟩ := h0
        exact ⟨_, dx, fs, rfl, ho, r2.lookup_none h0⟩
      · exact h0.elim
    · exact h0.elim
  obtain ⟨a, dx, fs, rfl, ho, hl⟩ := go
  refine ⟨a, dx, fs, rfl, ho, hl, ?_⟩
  refine h E G M1 N1 σ H1 C1 _ _ h1.2 fun ds vs M2 N2 H2 h2 C2 s2 r2 => ?_
  rw [List.append_nil]
  exact ⟨d :: ds, M2, N2, Q, by rw [List.length_cons]; exact h2.1, C2.cm, .cons (r1.mono s2) r2, h2.2, fun d v M' N' H' q' fr cm r => (k.from (s1.trans s2)) d v M' N' H' q' (C2.step fr cm) fr.nn r⟩
theorem de_meth {pl : Sem Bool} (he : DE X o ta aa) (c : Cls X.K C) (hm : Meth X.K C m g) (F : FnOk X.prog X.w X.K X.mg X.base CX k g fd ps (lift X.K n sp)) (hr : Room k X.A) (hb : Binds X.K fd ps []) (hx : Passes CX X E0') (ha : DA X (e :: es) t at1)
    (hst : starEach (e :: es) X.env = (false, eval e X.env) :: starEach es X.env := by rfl) (hpl : (backTo pos (starEach es X.env)).any (·.1) = false := by rfl)
    (ht : eval (.Call (.Attribute o m apos) (e :: es) [] pos) X.env = (do
      let ov ← eval o X.env
      standAt apos.atName
      let (f, first) ← holding [ov] (getMethod ov m pl)
      callWith pos f first (backTo pos (starEach (e :: es) X.env)) (backToKw pos (keywordEach [] X.env))) := by rfl) :
    DE X (.Call (.Attribute o m apos) (e :: es) [] pos) (tMeth C m (lift X.K n sp) [] E0' ta t) (aMeth C m n sp aa at1) := ⟨pe_meth he.pe c hm F hr hb .nil hx ha.pa hst hpl ht, se_meth he.se ha.sa⟩
theorem de_meth0 {pl : Sem Bool} (he : DE X o ta aa) (c : Cls X.K C) (hm : Meth X.K C m g) (F : FnOk X.prog X.w X.K X.mg X.base CX k g fd ps (lift X.K n sp)) (hr : Room k X.A) (hb : Binds X.K fd ps []) (hx : Passes CX X E0')
    (ht : eval (.Call (.Attribute o m apos) [] [] pos) X.env = (do
      let ov ← eval o X.env
      standAt apos.atName
      let (f, first) ← holding [ov] (getMethod ov m pl)
      callWith pos f first (backTo pos (starEach [] X.env)) (backToKw pos (keywordEach [] X.env))) := by rfl) :
    DE X (.Call (.Attribute o m apos) [] [] pos) (tMeth C m (lift X.K n sp) [] E0' ta tNil) (aMeth C m n sp aa aNil) := ⟨pe_meth0 he.pe c hm F hr hb .nil hx ht, se_meth he.se sa_nil⟩
/-- C(..): an instance that stands still behind its __init__ -/
def aMake (C : Addr) (n : Nat) (sp : aSp) (y : aA) : aE := fun G M Q => y G M fun ds M1 => ds.length + 1 = n ∧ ∀ x, M1 x = none →
  sp (.ref x :: ds) (mupd M1 x (.ins C [])) fun r M2 => r = .non ∧ ∃ gs, M2 x = some (.ins C gs) ∧ Q (.obj C gs) (mdel M2 x)
/-- .. that may change -/
def aMakeM (C : Addr) (n : Nat) (sp : aSp) (y : aA) : aE := fun G M Q => y G M fun ds M1 => ds.length + 1 = n ∧ ∀ x, M1 x = none →
  sp (.ref x :: ds) (mupd M1 x (.ins C [])) fun r M2 => r = .non ∧ Q (.ref x) M2
/-- an object of ours stands still from now on -/
theorem CC.freeze {E : En} {G : Gm} {M : Mp} {N H : Hp} {σ : L2.St} {a : Addr} {o : HO} (c : CC K E G M N σ H) (hN : N a = none) (ha : H a = some o) (h0 : E.H a = none) : CC K E G (mdel M a) (upd N a o) σ H where
  fr := ⟨c.fr.nn.trans (same_new hN), fun b u e m => by
    obtain ⟨h1, h2⟩ := c.fr.keep b u e m
    refine ⟨h1, ?_⟩
    unfold mdel
    split
    · rfl
    · exact h2, fun b u e n => by
    have q : b ≠ a := ne_of_none e h0
    rw [upd_ne q]
    exact c.fr.new b u e n, c.fr.dom⟩
  cm := ⟨fun b u e => by
    by_cases q : b = a
    · subst q; rw [upd_same] at e; cases e; exact ha
    · rw [upd_ne q] at e; exact c.cm.sm _ _ e, fun b x e => by
    by_cases q : b = a
    · subst q; unfold mdel at e; rw [if_pos rfl] at e; cases e
    · unfold mdel at e
      rw [if_neg q] at e
      obtain ⟨h1, h2⟩ := c.cm.hm b x e
      exact ⟨by rw [upd_ne q]; exact h1, h2.mono (same_new hN) fun _ e => e⟩⟩
  sl := c.sl.mono (same_new hN)
theorem se_make (h : SA K t at1) : SE K (tMake C (lift K n sp) [] E0' t) (aMake C n sp at1) := by
  intro E G M N σ H CC' Q Qc q k
  refine h E G M N σ H CC' _ _ q fun ds vs M1 N1 H1 h1 C1 s1 r1 => ?_
  intro x dx hx hdx hne
  rw [List.append_nil]
  obtain ⟨hN, hM⟩ := C1.cm.none hx
  -- the own dict is not known; the instance may change
  have c2 : CM K (mupd M1 x (.ins C [])) N1 (upd (upd H1 dx (.own x)) x (.ins C dx [])) := by
    refine cm_put (M := M1) (N := N1) (H := upd H1 dx (.own x)) ?_ hN (hasI upd_same .nil)
    exact ⟨fun a u e => by rw [upd_ne (ne_of_none (C1.cm.sm _ _ e) hdx)]; exact C1.cm.sm _ _ e, fun a c e => by
      obtain ⟨h2, h3⟩ := C1.cm.hm a c e
      exact ⟨h2, h3.mono (Same.refl _) fun o e => by rw [upd_ne (ne_of_none e hdx)]; exact e⟩⟩
  have f2 : Fr M1 N1 H1 (mupd M1 x (.ins C [])) N1 (upd (upd H1 dx (.own x)) x (.ins C dx [])) := by
    refine ⟨Same.refl _, fun a u e m => ?_, fun a u e n => n, fun a u e => ?_⟩
    · have q1 : a ≠ x := ne_of_none e hx
      have q2 : a ≠ dx := ne_of_none e hdx
      exact ⟨by rw [upd_ne q1, upd_ne q2]; exact e, by rw [mupd_ne q1]; exact m⟩
    · have q1 : a ≠ x := ne_of_none e hx
      have q2 : a ≠ dx := ne_of_none e hdx
      exact ⟨u, by rw [upd_ne q1, upd_ne q2]; exact e⟩
  refine ⟨.ref x :: ds, _, N1, _, by rw [List.length_cons]; exact h1.1, c2, .cons (.ref x) r1, h1.2 x hM, ?_⟩
  intro d v M' N' H' q' fr cm r
  obtain ⟨rfl, gs, e, q'⟩ := q'
  cases r
  refine ⟨rfl, ?_⟩
  have C3 : CC K E G M' N' σ H' := C1.step (f2.trans fr) cm
  obtain ⟨hn, dx', fs, ho, rf⟩ := cm.hm x _ e
  have h0 : E.H x = none := by
    cases w : E.H x with
    | none => rfl
    | some o =>
      obtain ⟨o', e'⟩ := C1.fr.dom x o w
      rw [e'] at hx; cases hx
  have C4 := C3.freeze hn ho h0
  exact (k.from (s1.trans (fr.nn.trans (same_new hn)))).at C4 q' (.obj upd_same (rf.mono (same_new hn)))
theorem de_make (M : Mk X.K C g) (F : FnOk X.prog X.w X.K X.mg X.base CX k g fd ps (lift X.K n sp)) (hr : Room (k + 1) X.A) (hg : Gl X x) (hm : X.mg x = some (.ref C)) (hb : Binds X.K fd ps []) (hx : Passes CX X E0')
    (ha : DA X (e :: es) t at1) (hdb : (x == ("__debug__" : Str)) = false := by decide) (he : starEach (e :: es) X.env = (false, eval e X.env) :: starEach es X.env := by rfl) (hpl : (backTo pos (starEach es X.env)).any (·.1) = false := by rfl) :
    DE X (.Call (.Name x p) (e :: es) [] pos) (tMake C (lift X.K n sp) [] E0' t) (aMake C n sp at1) := ⟨pe_make M F hr hg hm hb .nil hx ha.pa hdb he hpl, se_make ha.sa⟩
end
end DL

set_option Elab.async false
set_option linter.all false
set_option maxRecDepth 100000
namespace DL
open PySem PySem.Spec PyProof.Rows L2
section
variable {X : Cx} {K : PySem.W.Frag} {e a b c o i : Expr} {es : List Expr} {te ta tb tc to ti : TE} {t : TA} {ae aa ab ac ao ai : aE} {at1 : aA} {pos : Pos} {st : Stmt} {rest : List Stmt} {ts tu : TS} {as au : aS}
/-! ### blocks -/
def asNext : aS := fun A G M => A.nx G M
/-- what is known may be told in another way -/
def Cvt (m0 : Mp) (G : Gm) (M : Mp) (G' : Gm) (M' : Mp) : Prop := ∀ K E N σ H, E.M = m0 → CC K E G M N σ H → ∃ N', CC K E G' M' N' σ H ∧ Same N N'
theorem Cvt.refl {m0 : Mp} {G : Gm} {M : Mp} : Cvt m0 G M G M := fun K E N σ H e C => ⟨N, C, Same.refl N⟩
theorem Cvt.trans {m0 : Mp} {G G1 G2 : Gm} {M M1 M2 : Mp} (h : Cvt m0 G M G1 M1) (h' : Cvt m0 G1 M1 G2 M2) : Cvt m0 G M G2 M2 := fun K E N σ H e C => by
  obtain ⟨N1, C1, s1⟩ := h K E N σ H e C
  obtain ⟨N2, C2, s2⟩ := h' K E N1 σ H e C1
  exact ⟨N2, C2, s1.trans s2⟩
def cvU (u : aS) : aS := fun A G M => ∃ G' M', Cvt A.m0 G M G' M' ∧ u A G' M'
def asSeq (t u : aS) : aS := fun A G M => t { A with nx := cvU u A } G M
theorem ss_next : SS K tNext asNext := fun E G M N σ H C A B m0 q k => k.nx G M N σ H q C (Same.refl N)
theorem ss_seq (h : SS K ts as) (h2 : SS K tu au) : SS K (tSeq ts tu) (asSeq as au) := by
  intro E G M N σ H C A B m0 q k
  refine h E G M N σ H C { A with nx := cvU au A } { B with nx := tu B } m0 q ⟨fun G' M' N' σ' H' ⟨G2, M2, cv, q'⟩ C' s' => ?_, k.rt, k.bk, k.ct⟩
  obtain ⟨N2, C2, s2⟩ := cv K E N' σ' H' m0.symm C'
  exact h2 E G2 M2 N2 σ' H' C2 A B m0 q' (k.from (s'.trans s2))
theorem dss_nil : DSs X [] tNext asNext := ⟨pss_nil, ss_next⟩
theorem dss_cons (h1 : DS X st ts as) (h2 : DSs X rest tu au) : DSs X (st :: rest) (tSeq ts tu) (asSeq as au) := ⟨pss_cons h1.ps h2.ps, ss_seq h1.ss h2.ss⟩
theorem dss_one (h1 : DS X st ts as) : DSs X [st] ts as := ⟨pss_one h1.ps, h1.ss⟩
def asBreak : aS := fun A G M => A.bk G M
def asCont : aS := fun A G M => A.ct G M
theorem ds_pass : DS X (.Pass pos) tNext asNext := ⟨ps_pass, ss_next⟩
theorem ds_break : DS X (.Break pos) tBreak asBreak := ⟨ps_break, fun E G M N σ H C A B m0 q k => k.bk G M N σ H q C (Same.refl N)⟩
theorem ds_continue : DS X (.Continue pos) tCont asCont := ⟨ps_continue, fun E G M N σ H C A B m0 q k => k.ct G M N σ H q C (Same.refl N)⟩
def asDrop (x : aE) : aS := fun A G M => x G M fun _ M1 => A.nx G M1
theorem ds_expr (he : DE X e te ae) (hs : swapsWith e none pos.line X.env = pure false := by rfl) : DS X (.Expr e pos) (tDrop te) (asDrop ae) := ⟨ps_expr he.pe hs, by
  intro E G M N σ H C A B m0 q k
  exact he.se E G M N σ H C _ _ q fun d v M' N' H' q' C' s' r' => k.nx G M' N' σ H' q' C' s'⟩
def asRet (x : aE) : aS := fun A G M => x G M A.rt
theorem ds_ret (he : DE X e te ae) : DS X (.Return (some e) pos) (tRet te) (asRet ae) := ⟨ps_ret he.pe, by
  intro E G M N σ H C A B m0 q k
  exact he.se E G M N σ H C _ _ q fun d v M' N' H' q' C' s' r' => k.rt d v G M' N' σ H' q' C' s' r'⟩
def asRetN : aS := fun A _ M => A.rt .non M
theorem ds_retN : DS X (.Return none pos) tRetN asRetN := ⟨ps_retN, fun E G M N σ H C A B m0 q k => k.rt .non .non G M N σ H q C (Same.refl N) .non⟩
variable {tt : TT} {aT' : aT} {s1' s2' : List Stmt} {u1 u2 : TS} {w1 w2 : aS}
def asIf (c : aT) (t u : aS) : aS := fun A G M => c G M fun b M1 => if b = true then t A G M1 else u A G M1
theorem ds_if (hc : DT X c tt aT') (ha : DSs X s1' u1 w1) (hb : DSs X s2' u2 w2) : DS X (.If c s1' s2' pos) (tIfS tt u1 u2) (asIf aT' w1 w2) := ⟨ps_if hc.pt ha.ps hb.ps, by
  intro E G M N σ H C A B m0 q k
  refine hc.st E G M N σ H C _ _ q fun b M1 N1 H1 h1 C1 s1 => ?_
  cases b with
  | true =>
    rw [if_pos rfl] at h1 ⊢
    exact ha.ss E G M1 N1 σ H1 C1 A B m0 h1 (k.from s1)
  | false =>
    rw [if_neg Bool.false_ne_true] at h1 ⊢
    exact hb.ss E G M1 N1 σ H1 C1 A B m0 h1 (k.from s1)⟩
/-- a statement that the proof never comes to -/
theorem ds_never : DS X st tNever (fun _ _ _ => False) := ⟨ps_never, fun E G M N σ H C A B m0 q k => q⟩

/-! ### targets -/
abbrev aG := D → Gm → Mp → (Gm → Mp → Prop) → Prop
abbrev aGs := List D → Gm → Mp → (Gm → Mp → Prop) → Prop
def CoG (K : PySem.W.Frag) (E : En) (N : Hp) (Q : Gm → Mp → Prop) (Qc : L2.St → Hp → Prop) : Prop := ∀ G' M' N' σ' H', Q G' M' → CC K E G' M' N' σ' H' → Same N N' → Qc σ' H'
def SG (K : PySem.W.Frag) (g : TG) (ag : aG) : Prop := ∀ E G M N σ H, CC K E G M N σ H → ∀ v d, RelD K N v d → ∀ Q Qc, ag d G M Q → CoG K E N Q Qc → g v σ H Qc
def SGs (K : PySem.W.Frag) (g : TGs) (ag : aGs) : Prop := ∀ E G M N σ H, CC K E G M N σ H → ∀ vs ds, RelL K N vs ds → ∀ Q Qc, ag ds G M Q → CoG K E N Q Qc → g vs σ H Qc
structure DG (X : Cx) (tg : Expr) (g : TG) (ag : aG) : Prop where
  pg : PG X tg g
  sg : SG X.K g ag
structure DGs (X : Cx) (tgs : List Expr) (g : TGs) (ag : aGs) : Prop where
  pg : PGs X tgs g
  sg : SGs X.K g ag
theorem CoG.from {E : En} {N N' : Hp} {Q : Gm → Mp → Prop} {Qc : L2.St → Hp → Prop} (k : CoG K E N Q Qc) (s : Same N N') : CoG K E N' Q Qc := fun g m n t h q c s1 => k g m n t h q c (s.trans s1)
def agName (j : Nat) : aG := fun d G M Q => Q (G.set j (some d)) M
theorem sg_name {j : Nat} : SG K (gName j) (agName j) := by
  intro E G M N σ H C v d r Q Qc q k
  exact k _ M N _ H q (C.slots (C.sl.set r)) (Same.refl N)
theorem dg_name {j : Nat} {x : Str} (hN : X.N.Nodup) (hi : X.N[j]? = some x) (hx : Loc X.env.scope x) (hf : X.fn x = true ∨ X.env.scope.names.lookup x = some .local := by first | exact .inl rfl | exact .inr rfl | assumption) : DG X (.Name x pos) (gName j) (agName j) := ⟨pg_name hN hi hx hf, sg_name⟩
def agNil : aGs := fun ds G M Q => ds = [] ∧ Q G M
def agCons (g : aG) (r : aGs) : aGs := fun ds G M Q => match ds with
  | d :: ds => g d G M fun G' M' => r ds G' M' Q
  | [] => False
variable {tg : Expr} {tgs : List Expr} {g : TG} {gs : TGs} {ag : aG} {ags : aGs}
theorem dgs_nil : DGs X [] gNil agNil := ⟨pgs_nil, by
  intro E G M N σ H C vs ds r Q Qc q k
  obtain ⟨rfl, q⟩ := q
  cases r
  exact ⟨rfl, k G M N σ H q C (Same.refl N)⟩⟩
theorem dgs_cons (h1 : DG X tg g ag) (h2 : DGs X tgs gs ags) (hs : (assignEach (tg :: tgs) X.env).map (·.2) = assign tg X.env :: (assignEach tgs X.env).map (·.2) := by rfl) : DGs X (tg :: tgs) (gCons g gs) (agCons ag ags) := ⟨pgs_cons h1.pg h2.pg hs, by
  intro E G M N σ H C vs ds r Q Qc q k
  cases r with
  | nil => exact q.elim
  | cons hd hr =>
    refine ⟨_, _, rfl, ?_⟩
    refine h1.sg E G M N σ H C _ _ hd _ _ q fun G' M' N' σ' H' q' C' s' => ?_
    exact h2.sg E G' M' N' σ' H' C' _ _ (hr.mono s') Q Qc q' (k.from s')⟩
def agTup (n : Nat) (r : aGs) : aG := fun d G M Q => match d with
  | .tup ds => ds.length = n ∧ r ds G M Q
  | .rot ds => ds.length = n ∧ r ds G M Q
  | _ => False
theorem dg_tup {k n : Nat} (h : DGs X tgs gs ags) (hc : X.calm = true := by rfl) (hn : (assignEach tgs X.env).length = n := by rfl) (hst : (assignEach tgs X.env).findIdx? (·.1) = none := by rfl) : DG X (.Tuple tgs k pos) (gTup X.K n gs) (agTup n ags) := ⟨pg_tup hc h.pg hn hst, by
  intro E G M N σ H C v d r Q Qc q k
  unfold agTup at q
  split at q
  · cases r with | tup h1 r1 =>
    exact ⟨_, _, rfl, .of (C.cm.sm _ _ h1), by rw [r1.length]; exact q.1, h.sg E G M N σ H C _ _ r1 Q Qc q.2 k⟩
  · cases r with | rot h1 r1 =>
    exact ⟨_, _, rfl, same_seqT C.cm.sm h1, by rw [r1.length]; exact q.1, h.sg E G M N σ H C _ _ r1 Q Qc q.2 k⟩
  · exact q.elim⟩
/-- xs[i] = v of a list that may change -/
def agSubL (o i : aE) : aG := fun d G M Q => o G M fun x M1 => i G M1 fun y M2 => match x, y with
  | .ref p, .int z => (match M2 p with
    | some (.lst ds) => (match ixN ds.length z with | some j => Q G (mupd M2 p (.lst (ds.set j d))) | none => False)
    | _ => False)
  | _, _ => False
theorem dg_subL (ho : DE X o to ao) (hi : DE X i ti ai) (ha : ∀ v, assign (.Subscript o i pos) X.env v = (do
      let ov ← holding [v] (eval o X.env)
      let iv ← holding [v, ov] (eval i X.env)
      standAt pos
      holding [v, ov, iv] (setItem ov iv v)
      release [v, ov, iv] []) := by intro _; rfl) : DG X (.Subscript o i pos) (gSub to ti rSetL) (agSubL ao ai) := ⟨pg_sub ho.pe hi.pe set_list ha, by
  intro E G M N σ H C v d r Q Qc q k
  refine ho.se E G M N σ H C _ _ q fun x xv M1 N1 H1 h1 C1 s1 r1 => ?_
  refine hi.se E G M1 N1 σ H1 C1 _ _ h1 fun y yv M2 N2 H2 h2 C2 s2 r2 => ?_
  split at h2
  · have e1 := rel_ref (r1.mono s2)
    subst e1
    cases r2
    split at h2
    · rename_i ds e
      obtain ⟨xs, h3, r3⟩ := C2.cm.lst e
      split at h2
      · rename_i j hj
        refine ⟨_, xs, _, j, rfl, rfl, h3, by rw [r3.length]; exact hj, ?_⟩
        exact k _ _ N2 σ _ h2 (C2.mut e (hasL upd_same (r3.set ((r.mono s1).mono s2) j))) (s1.trans s2)
      · exact h2.elim
    · exact h2.elim
  · exact h2.elim⟩

/-! ### assignments -/
def asAsg (x : aE) (g : aG) : aS := fun A G M => x G M fun d M1 => g d G M1 A.nx
theorem ss_asg (he : SE K te ae) (hg : SG K g ag) : SS K (tAsg te g) (asAsg ae ag) := by
  intro E G M N σ H C A B m0 q k
  refine he E G M N σ H C _ _ q fun d v M1 N1 H1 h1 C1 s1 r1 => ?_
  exact hg E G M1 N1 σ H1 C1 v d r1 _ _ h1 fun G' M' N' σ' H' q' C' s' => k.nx G' M' N' σ' H' q' C' (s1.trans s')
theorem ds_asg (he : DE X e te ae) (hg : DG X tg g ag) (hs : swapsWithSole [tg] e pos.line X.env = pure false := by rfl) (hw : swappedStores [tg] e X.env = pure none := by rfl)
    (h1 : (assignEach [tg] X.env).map (·.2) = [assign tg X.env] := by rfl) : DS X (.Assign [tg] e pos) (tAsg te g) (asAsg ae ag) := ⟨ps_asg he.pe hg.pg hs hw h1, ss_asg he.se hg.sg⟩
theorem ds_set {j : Nat} {x : Str} {pos' : Pos} (hN : X.N.Nodup) (hi : X.N[j]? = some x) (hx : Loc X.env.scope x) (he : DE X e te ae) (hs : swapsWith e (some (.Name x pos')) pos.line X.env = pure false := by rfl) (hf : X.fn x = true ∨ X.env.scope.names.lookup x = some .local := by first | exact .inl rfl | exact .inr rfl | assumption) :
    DS X (.Assign [.Name x pos'] e pos) (tAsg te (gName j)) (asAsg ae (agName j)) := ⟨ps_set hN hi hx he.pe hs hf, ss_asg he.se sg_name⟩
/-- a, b = x, y with plain local names -/
def asPar (i j : Nat) (x : aA) : aS := fun A G M => x G M fun ds M1 => match ds with
  | [d, e] => A.nx ((G.set i (some d)).set j (some e)) M1
  | _ => False
theorem ds_par {i j : Nat} {x y : Str} {a b : Expr} {px py pt : Pos} {kt k2 pt2} (hN : X.N.Nodup) (hi : X.N[i]? = some x) (hj : X.N[j]? = some y) (ha : DA X [a, b] t at1) (hij : i ≠ j := by decide)
    (hx : X.env.scope.names.lookup x = some .local := by rfl) (hy : X.env.scope.names.lookup y = some .local := by rfl) (hc : X.calm = true := by rfl)
    (hw : swappedStores [.Tuple [.Name x px, .Name y py] kt pt] (.Tuple [a, b] k2 pt2) X.env = pure (some [x, y]) := by rfl)
    (hs : swapsWithSole [.Tuple [.Name x px, .Name y py] kt pt] (.Tuple [a, b] k2 pt2) pos.line X.env = pure false := by rfl) :
    DS X (.Assign [.Tuple [.Name x px, .Name y py] kt pt] (.Tuple [a, b] k2 pt2) pos) (tPar i j t) (asPar i j at1) := ⟨ps_par hc hN hi hj hij hx hy ha.pa hw hs, by
  intro E G M N σ H C A B m0 q k
  refine ha.sa E G M N σ H C _ _ q fun ds vs M1 N1 H1 h1 C1 s1 r1 => ?_
  split at h1
  · obtain ⟨v, w, rfl, r2, r3⟩ := rel2 r1
    exact ⟨v, w, rfl, k.nx _ M1 N1 _ H1 h1 (C1.slots ((C1.sl.set r2).set r3)) s1⟩
  · exact h1.elim⟩
theorem rel3 {N : Hp} {vs : List V} {d e f : D} (r : RelL K N vs [d, e, f]) : ∃ u v w, vs = [u, v, w] ∧ RelD K N u d ∧ RelD K N v e ∧ RelD K N w f := by
  cases r with | cons h r => cases r with | cons h2 r => cases r with | cons h3 r => cases r; exact ⟨_, _, _, rfl, h, h2, h3⟩
def asPar3 (i j l : Nat) (x : aA) : aS := fun A G M => x G M fun ds M1 => match ds with
  | [d, e, f] => A.nx (((G.set i (some d)).set j (some e)).set l (some f)) M1
  | _ => False
theorem ds_par3 {i j l : Nat} {x y z : Str} {a b c : Expr} {px py pz pt : Pos} {kt k2 pt2} (hN : X.N.Nodup) (hi : X.N[i]? = some x) (hj : X.N[j]? = some y) (hl : X.N[l]? = some z) (ha : DA X [a, b, c] t at1) (hij : i ≠ j := by decide) (hil : i ≠ l := by decide) (hjl : j ≠ l := by decide)
    (hx : X.env.scope.names.lookup x = some .local := by rfl) (hy : X.env.scope.names.lookup y = some .local := by rfl) (hz : X.env.scope.names.lookup z = some .local := by rfl) (hc : X.calm = true := by rfl)
    (hw : swappedStores [.Tuple [.Name x px, .Name y py, .Name z pz] kt pt] (.Tuple [a, b, c] k2 pt2) X.env = pure (some [x, y, z]) := by rfl)
    (hs : swapsWithSole [.Tuple [.Name x px, .Name y py, .Name z pz] kt pt] (.Tuple [a, b, c] k2 pt2) pos.line X.env = pure false := by rfl) :
    DS X (.Assign [.Tuple [.Name x px, .Name y py, .Name z pz] kt pt] (.Tuple [a, b, c] k2 pt2) pos) (tPar3 i j l t) (asPar3 i j l at1) := ⟨ps_par3 hc hN hi hj hl hij hil hjl hx hy hz ha.pa hw hs, by
  intro E G M N σ H C A B m0 q k
  refine ha.sa E G M N σ H C _ _ q fun ds vs M1 N1 H1 h1 C1 s1 r1 => ?_
  split at h1
  · obtain ⟨u, v, w, rfl, r2, r3, r4⟩ := rel3 r1
    exact ⟨u, v, w, rfl, k.nx _ M1 N1 _ H1 h1 (C1.slots (((C1.sl.set r2).set r3).set r4)) s1⟩
  · exact h1.elim⟩
/-- x += e, x -= e (ints), at a name -/
def asAug (j : Nat) (x : aE) (f : V2) : aS := fun A G M => match G[j]? with
  | some (some d) => x G M fun e M1 => f d e M1 fun z M2 => A.nx (G.set j (some z)) M2
  | _ => False
theorem ds_aug {j : Nat} {x : Str} {op : Operator} {r : R2} {f : V2} {pos' : Pos} (ho : OpR X (inplaceOp op) r) (hs : S2 X.K r f) (hN : X.N.Nodup) (hi : X.N[j]? = some x) (hx : Loc X.env.scope x) (he : DE X e te ae) (hf : X.fn x = true ∨ X.env.scope.names.lookup x = some .local := by first | exact .inl rfl | exact .inr rfl | assumption) :
    DS X (.AugAssign (.Name x pos') op e pos) (tAug j te r) (asAug j ae f) := ⟨ps_aug hN hi hx he.pe ho hf, by
  intro E G M N σ H C A B m0 q k
  unfold asAug at q
  split at q
  · rename_i d hd
    obtain ⟨v, h1, r1⟩ := C.sl.2 j d hd
    refine ⟨v, h1, ?_⟩
    refine he.se E G M N σ H C _ _ q fun d' v' M1 N1 H1 h1 C1 s1 r2 => ?_
    refine hs E G M1 N1 σ H1 C1 v v' _ _ (r1.mono s1) r2 _ _ h1 fun z w M2 N2 H2 h2 C2 s2 r3 => ?_
    exact k.nx _ M2 N2 _ H2 h2 (C2.slots (C2.sl.set r3)) (s1.trans s2)
  · exact q.elim⟩
/-- o.f = e of an instance that may change -/
def asFld (K : PySem.W.Frag) (x v : aE) (f : Str) : aS := fun A G M => v G M fun y M1 => x G M1 fun d M2 => match d with
  | .ref p => (match M2 p with
    | some (.ins C gs) => Cls K C ∧ NoAttr K C f ∧ gs.length < 1000 ∧ A.nx G (mupd M2 p (.ins C (putG f y gs)))
    | _ => False)
  | _ => False
where putG (f : Str) (v : D) : List (Str × D) → List (Str × D)
  | [] => [(f, v)]
  | (g, x) :: r => if g = f then (g, v) :: r else (g, x) :: putG f v r
theorem putG_rel {N : Hp} {f : Str} {v : V} {d : D} (h : RelD K N v d) : ∀ {xs : List (Str × V)} {gs : List (Str × D)}, RelF K N xs gs → RelF K N (putF f v xs) (asFld.putG f d gs)
  | _, _, .nil => .cons h .nil
  | _, _, .cons (x := g) h1 r => by
    unfold putF asFld.putG
    by_cases q : g = f
    · rw [if_pos q, if_pos q]; exact .cons h r
    · rw [if_neg q, if_neg q]; exact .cons h1 (putG_rel h r)
theorem ds_fld {f : Str} {pos' : Pos} {tv : TE} {av : aE} {value : Expr} (ha : DE X o ta aa) (hv : DE X value tv av) (hs : swapsWith value (some (.Attribute o f pos')) pos.line X.env = pure false := by rfl) : DS X (.Assign [.Attribute o f pos'] value pos) (sFld X.K ta tv f) (asFld X.K aa av f) := ⟨ps_fld ha.pe hv.pe hs, by
  intro E G M N σ H C A B m0 q k
  refine hv.se E G M N σ H C _ _ q fun y yv M1 N1 H1 h1 C1 s1 r1 => ?_
  refine ha.se E G M1 N1 σ H1 C1 _ _ h1 fun d v M2 N2 H2 h2 C2 s2 r2 => ?_
  split at h2
  · have e := rel_ref r2
    subst e
    split at h2
    · rename_i p _ Cc gs e
      obtain ⟨dx, fs, ho, rf⟩ := C2.cm.inst e
      obtain ⟨hc, hn, hl, h2⟩ := h2
      refine ⟨_, _, dx, fs, rfl, ho, hc, hn, by rw [rf.length]; exact hl, ?_⟩
      exact k.nx _ _ N2 _ _ h2 (C2.mut e (hasI upd_same (putG_rel (r1.mono s2) rf))) (s1.trans s2)
    · exact h2.elim
  · exact h2.elim⟩
/-- d[k] = v of a dict that may change -/
def putDk (M : Mp) (p : Addr) (key v : D) : Option MC := match M p with
  | some (.dK gs) => if gs.length < 1000000 then (keyOf key).map fun k => .dK (putD gs k v) else none
  | some (.dT gs) => if gs.length < 1000000 then (keyT key).map fun k => .dT (putD gs k v) else none
  | _ => none
def asDPut (d y v : aE) : aS := fun A G M => v G M fun v M1 => d G M1 fun d M2 => y G M2 fun k M3 => match d with
  | .ref p => (match putDk M3 p k v with | some c => A.nx G (mupd M3 p c) | none => False)
  | _ => False
theorem ds_dput {pos' : Pos} {td ty tv : TE} {ad ay av : aE} {value : Expr} (hu : X.A.units + 1 < cLine) (ho : DE X o td ad) (hi : DE X i ty ay) (hv : DE X value tv av) (hs : swapsWith value (some (.Subscript o i pos')) pos.line X.env = pure false := by rfl) :
    DS X (.Assign [.Subscript o i pos'] value pos) (sDPut td ty tv) (asDPut ad ay av) := ⟨ps_dput hu ho.pe hi.pe hv.pe hs, by
  intro E G M N σ H C A B m0 q k
  refine hv.se E G M N σ H C _ _ q fun z zv M1 N1 H1 h1 C1 s1 r1 => ?_
  refine ho.se E G M1 N1 σ H1 C1 _ _ h1 fun d v M2 N2 H2 h2 C2 s2 r2 => ?_
  refine hi.se E G M2 N2 σ H2 C2 _ _ h2 fun y yv M3 N3 H3 h3 C3 s3 r3 => ?_
  split at h3
  · have e := rel_ref (r2.mono s3)
    subst e
    split at h3
    · rename_i p _ c hc
      unfold putDk at hc
      split at hc
      · rename_i gs e
        split at hc
        · rename_i hl
          obtain ⟨kk, e1, rfl⟩ := Option.map_eq_some_iff.mp hc
          obtain ⟨kvs, hd, rf⟩ := C3.cm.dKs e
          have e3 := key_rel r3 e1
          subst e3
          refine ⟨_, _, rfl, .k hd (by rw [rf.length]; exact big_lt (Nat.le_of_lt hl)), ?_⟩
          exact k.nx _ _ N3 _ _ h3 (C3.mut e (hasK upd_same (rf.put kk ((r1.mono s2).mono s3)))) (s1.trans (s2.trans s3))
        · cases hc
      · rename_i gs e
        split at hc
        · rename_i hl
          obtain ⟨kk, e1, rfl⟩ := Option.map_eq_some_iff.mp hc
          obtain ⟨kvs, hd, rf⟩ := C3.cm.dTs e
          obtain ⟨b, rfl, hb⟩ := keyT_rel r3 e1
          refine ⟨_, _, rfl, .t hd (C3.cm.sm _ _ hb) (by rw [rf.length]; exact big_lt (Nat.le_of_lt hl)), ?_⟩
          exact k.nx _ _ N3 _ _ h3 (C3.mut e (hasT upd_same (rf.put kk ((r1.mono s2).mono s3)))) (s1.trans (s2.trans s3))
        · cases hc
      · cases hc
    · exact h3.elim
  · exact h3.elim⟩

/-! ### while -/
def asWhile (c : aT) (b : aS) : aS := fun A G M => ∃ W : Nat → Gm → Mp → Prop, (∃ m, W m G M) ∧ ∀ m G M, W m G M →
  c G M fun k M1 => if k = true then b { A with nx := fun G' M' => ∃ m', m' < m ∧ W m' G' M', ct := fun G' M' => ∃ m', m' < m ∧ W m' G' M', bk := A.nx } G M1 else A.nx G M1
theorem ds_while {body : List Stmt} (hc : DT X c tt aT') (hb : DSs X body u1 w1) (hp : PassesOwn (model X.prog X.w) X.A X.env X.xe) : DS X (.While c body [] pos) (tWhile tt u1) (asWhile aT' w1) := ⟨ps_while hp hc.pt hb.ps, by
  intro E G M N σ H C A B m0 q k
  obtain ⟨W, ⟨m, hm⟩, hW⟩ := q
  refine ⟨fun m σ H => ∃ G M N', CC X.K E G M N' σ H ∧ Same N N' ∧ W m G M, ⟨m, G, M, N, C, Same.refl N, hm⟩, ?_⟩
  rintro m σ H ⟨G, M, N', C', s', hw⟩
  refine hc.st E G M N' σ H C' _ _ (hW m G M hw) fun b M1 N1 H1 h1 C1 s1 => ?_
  cases b with
  | true =>
    rw [if_pos rfl] at h1 ⊢
    refine ⟨fun σ' H' => ∃ m', m' < m ∧ ∃ G M N', CC X.K E G M N' σ' H' ∧ Same N N' ∧ W m' G M, fun σ' H' h => h, ?_⟩
    refine hb.ss E G M1 N1 σ H1 C1 _ _ ?_ h1 ⟨?_, ?_, ?_, ?_⟩
    · exact m0
    · rintro G' M' N2 σ' H' ⟨m', l, w'⟩ C2 s2
      exact ⟨m', l, G', M', N2, C2, s'.trans (s1.trans s2), w'⟩
    · exact fun d v G' M' N2 σ' H' q' C2 s2 r2 => k.rt d v G' M' N2 σ' H' q' C2 (s'.trans (s1.trans s2)) r2
    · exact fun G' M' N2 σ' H' q' C2 s2 => k.nx G' M' N2 σ' H' q' C2 (s'.trans (s1.trans s2))
    · rintro G' M' N2 σ' H' ⟨m', l, w'⟩ C2 s2
      exact ⟨m', l, G', M', N2, C2, s'.trans (s1.trans s2), w'⟩
  | false =>
    rw [if_neg Bool.false_ne_true] at h1 ⊢
    exact k.nx G M1 N1 σ H1 h1 C1 (s'.trans s1)⟩

/-! ### what a loop walks -/
def Drv (K : PySem.W.Frag) (J : It) (ds : List D) (N1 : Hp) : Prop := ∀ E G M N σ H, CC K E G M N σ H → Same N1 N → ∀ i : Nat,
  (ds.length ≤ i → J.stop i H) ∧ ∀ d, ds[i]? = some d → J.go i H ∧ ∀ x H', J.yld i H x H' → ∃ N', Same N N' ∧ Fr M N H M N' H' ∧ CM K M N' H' ∧ RelD K N' x d
def SI (K : PySem.W.Frag) (wi : TI) (ai : aA) : Prop := ∀ E G M N σ H, CC K E G M N σ H → ∀ (Q : List D → Mp → Prop) (R : It → Hp → Prop), ai G M Q → (∀ ds M' N' H' J, Q ds M' → CC K E G M' N' σ H' → Same N N' → Drv K J ds N' → R J H') → wi σ H R
structure DI (X : Cx) (tg iter : Expr) (wi : TI) (ai : aA) : Prop where
  pi : PI X tg iter wi
  si : SI X.K wi ai
/-- over a list or a tuple that stands still -/
def aiSeq (x : aE) : aA := fun G M Q => x G M fun d M1 => match items d with | some ds => Q ds M1 | none => False
def iSeq (K : PySem.W.Frag) (tl : TE) : TI := fun σ H R => tl σ H fun x H1 => ∃ a, x = .ref a ∧ (((∃ xs, SqL K H1 a xs) ∧ R (Itl K a) H1) ∨ ((∃ xs, SqT K H1 a xs) ∧ R (Itt K a) H1))
/-- an iterator of one record, just laid -/
theorem iter_one {pins : List (Addr × Obj)} {σ : L2.St} {H : Hp} {s : Shared} {R : It → Hp → Prop} {J : It} {tn : Nat → Heap → Prop} {ob : Obj} (I : Inv X pins σ H s) (T : Turn X.prog X.w X.K tg J [s.heap.objs.size] s.heap.objs.size tn) (t0 : tn 0 (s.heap.push ob)) (q : R J H) :
    PIE X pins σ tg R (.ref s.heap.objs.size) { s with heap := s.heap.push ob } :=
  ⟨_, _, _, _, H, rfl, I.kept (t' := s.toks) fun _ _ e => Heap.get?_push_of_some _ e, T, t0, fun b hb => by
    cases List.mem_singleton.mp hb
    exact I.fpOk (Nat.le_refl _) (I.hok.fresh (Nat.le_refl _)), q⟩
theorem iter_seq {pins : List (Addr × Obj)} {σ : L2.St} {H : Hp} {s : Shared} {R : It → Hp → Prop} {a : Addr} (I : Inv X pins σ H s) (h : ((∃ xs, SqL X.K H a xs) ∧ R (Itl X.K a) H) ∨ ((∃ xs, SqT X.K H a xs) ∧ R (Itt X.K a) H)) :
    wpAny (model X.prog X.w) X.A (pyIter (.ref a)) (PIE X pins σ tg R) X.xe s := by
  rcases h with ⟨⟨xs, h⟩, q⟩ | ⟨⟨xs, h⟩, q⟩
  · obtain ⟨us, _, p, _⟩ := I.list h
    exact wpAny_pyIter_list p.isList (iter_one I (turn_list a _) ⟨_, Heap.get?_push_size _ rfl, rfl, rfl⟩ q)
  · obtain ⟨us, _, p, _⟩ := I.tuple h
    exact wpAny_pyIter_tuple (show s.heap.IsTuple a us.toArray from p) (iter_one I (turn_tuple a _) ⟨_, Heap.get?_push_size _ rfl, rfl, rfl⟩ q)
theorem pi_seq {l : Expr} {tl : TE} (hl : PE X l tl) : PI X tg l (iSeq X.K tl) := by
  refine ⟨fun pins s σ H R I h => ?_⟩
  refine thn (hl.run pins s σ H _ I h) fun v s1 ⟨x, H1, I1, r1, a, ex, q⟩ => ?_
  subst ex
  obtain rfl : v = Value.ref a := r1
  exact iter_seq I1 q
theorem drv_list {N1 : Hp} {p : Addr} {xs : List V} {ds : List D} (h : SqL K N1 p xs) (r : RelL K N1 xs ds) : Drv K (Itl K p) ds N1 := fun E G M N σ H C s1 i =>
  have hs : SqL K H p xs := C.cm.sm.seq (s1.seq h)
  ⟨fun hi => ⟨xs, hs, by rw [r.length]; exact hi⟩, fun d hd => by
    obtain ⟨x, hx, rx⟩ := r.getR hd
    refine ⟨⟨xs, x, hs, hx⟩, fun y H' hy => ?_⟩
    obtain ⟨rfl, hy⟩ := hy
    obtain rfl : x = y := Option.some.inj (hx.symm.trans (hy xs hs))
    exact ⟨N, Same.refl N, .refl, C.cm, rx.mono s1⟩⟩
theorem drv_tup {N1 : Hp} {p : Addr} {xs : List V} {ds : List D} (h : SqT K N1 p xs) (r : RelL K N1 xs ds) : Drv K (Itt K p) ds N1 := fun E G M N σ H C s1 i =>
  have hs : SqT K H p xs := same_seqT C.cm.sm (same_seqT s1 h)
  ⟨fun hi => ⟨xs, hs, by rw [r.length]; exact hi⟩, fun d hd => by
    obtain ⟨x, hx, rx⟩ := r.getR hd
    refine ⟨⟨xs, x, hs, hx⟩, fun y H' hy => ?_⟩
    obtain ⟨rfl, hy⟩ := hy
    obtain rfl : x = y := Option.some.inj (hx.symm.trans (hy xs hs))
    exact ⟨N, Same.refl N, .refl, C.cm, rx.mono s1⟩⟩
theorem di_seq {l : Expr} {tl : TE} {al : aE} (hl : DE X l tl al) : DI X tg l (iSeq X.K tl) (aiSeq al) := ⟨pi_seq hl.pe, by
  intro E G M N σ H C Q R q k
  refine hl.se E G M N σ H C _ _ q fun d v M1 N1 H1 h1 C1 s1 r1 => ?_
  split at h1
  · rename_i ds hi
    obtain ⟨p, xs, rfl, r2, h4⟩ := rel_items r1 hi
    refine ⟨p, rfl, ?_⟩
    rcases h4 with ⟨_, h4⟩ | ⟨_, h4⟩
    · exact .inl ⟨⟨xs, C1.cm.sm.seq h4⟩, k ds M1 N1 H1 _ h1 C1 s1 (drv_list h4 r2)⟩
    · exact .inr ⟨⟨xs, same_seqT C1.cm.sm h4⟩, k ds M1 N1 H1 _ h1 C1 s1 (drv_tup h4 r2)⟩
  · exact h1.elim⟩
/-- lo, lo + 1, .. -/
def rng (lo : Int) (n : Nat) : List D := (List.range n).map fun (j : Nat) => .int (lo + (j : Int))
theorem drv_range {N1 : Hp} {lo : Int} {n : Nat} : Drv K (Itr lo n) (rng lo n) N1 := fun E G M N σ H C s1 i =>
  ⟨fun hi => by
    show n ≤ i
    simpa [rng] using hi, fun d hd => by
    have hi : i < n := by
      have := (List.getElem?_eq_some_iff.mp hd).1
      simpa [rng] using this
    have e : d = .int (lo + (i : Int)) := by
      unfold rng at hd
      rw [List.getElem?_map, List.getElem?_range hi] at hd
      cases hd
      rfl
    subst e
    refine ⟨hi, fun y H' hy => ?_⟩
    obtain ⟨rfl, rfl⟩ := hy
    exact ⟨N, Same.refl N, .refl, C.cm, .int _⟩⟩
def aiRng1 (x : aA) : aA := fun G M Q => x G M fun ds M1 => match ds with
  | [.int j] => j ≤ 1000000 ∧ -1000000 ≤ j ∧ Q (rng 0 j.toNat) M1
  | _ => False
def aiRng2 (x : aA) : aA := fun G M Q => x G M fun ds M1 => match ds with
  | [.int i, .int j] => (j ≤ 1000000 ∧ -1000000 ≤ j ∧ i ≤ 1000000 ∧ -1000000 ≤ i) ∧ Q (rng i (j - i).toNat) M1
  | _ => False
theorem di_range1 {p : Pos} (hg : Gl X "range") (hm : X.mg "range" = none) (ha : DA X [a] t at1) (hs : starEach [a] X.env = [(false, eval a X.env)] := by rfl) : DI X tg (.Call (.Name "range" p) [a] [] pos) (iRng1 t) (aiRng1 at1) := ⟨pi_range1 hg hm ha.pa hs, by
  intro E G M N σ H C Q R q k
  refine ha.sa E G M N σ H C _ _ q fun ds vs M1 N1 H1 h1 C1 s1 r1 => ?_
  split at h1
  · obtain ⟨v, rfl, r2⟩ := rel1 r1
    cases r2
    exact ⟨_, rfl, by omega, by omega, k _ M1 N1 H1 _ h1.2.2 C1 s1 drv_range⟩
  · exact h1.elim⟩
theorem di_range2 {p : Pos} (hg : Gl X "range") (hm : X.mg "range" = none) (ha : DA X [a, b] t at1) (hs : starEach [a, b] X.env = [(false, eval a X.env), (false, eval b X.env)] := by rfl) (hs2 : starEach [b] X.env = [(false, eval b X.env)] := by rfl) :
    DI X tg (.Call (.Name "range" p) [a, b] [] pos) (iRng2 t) (aiRng2 at1) := ⟨pi_range2 hg hm ha.pa hs hs2, by
  intro E G M N σ H C Q R q k
  refine ha.sa E G M N σ H C _ _ q fun ds vs M1 N1 H1 h1 C1 s1 r1 => ?_
  split at h1
  · obtain ⟨v, w, rfl, r2, r3⟩ := rel2 r1
    cases r2; cases r3
    exact ⟨_, _, rfl, ⟨by omega, by omega, by omega, by omega⟩, k _ M1 N1 H1 _ h1.2 C1 s1 drv_range⟩
  · exact h1.elim⟩
/-- zip of two lists, of two tuples, that stand still -/
def zipD (ds es : List D) : List D := (ds.zip es).map fun p => .tup [p.1, p.2]
def aiZip (x : aA) : aA := fun G M Q => x G M fun ds M1 => match ds with
  | [d, e] => isL d = isL e ∧ (match items d, items e with | some xs, some ys => Q (zipD xs ys) M1 | _, _ => False)
  | _ => False
theorem zipD_get {ds es : List D} {i : Nat} {d : D} (h : (zipD ds es)[i]? = some d) : ∃ x y, ds[i]? = some x ∧ es[i]? = some y ∧ d = .tup [x, y] := by
  unfold zipD at h
  rw [List.getElem?_map] at h
  obtain ⟨⟨x, y⟩, h1, rfl⟩ := Option.map_eq_some_iff.mp h
  obtain ⟨h2, h3⟩ := List.getElem?_zip_eq_some.mp h1
  exact ⟨x, y, h2, h3, rfl⟩
theorem drv_zipL {N1 : Hp} {p q : Addr} {xs ys : List V} {ds es : List D} (h : SqL K N1 p xs) (r : RelL K N1 xs ds) (h' : SqL K N1 q ys) (r' : RelL K N1 ys es) : Drv K (Itz K p q) (zipD ds es) N1 := fun E G M N σ H C s1 i =>
  have hs : SqL K H p xs := C.cm.sm.seq (s1.seq h)
  have hs' : SqL K H q ys := C.cm.sm.seq (s1.seq h')
  ⟨fun hi => ⟨xs, ys, hs, hs', by rw [r.length, r'.length]; simp only [zipD, List.length_map, List.length_zip] at hi; omega⟩, fun d hd => by
    obtain ⟨d1, d2, e1, e2, rfl⟩ := zipD_get hd
    obtain ⟨x, hx, rx⟩ := r.getR e1
    obtain ⟨y, hy, ry⟩ := r'.getR e2
    refine ⟨⟨xs, ys, x, y, hs, hs', hx, hy⟩, fun v H' hv => ?_⟩
    obtain ⟨T, x', y', rfl, hT, rfl, f1, f2⟩ := hv
    obtain rfl : x = x' := Option.some.inj (hx.symm.trans (f1 xs hs))
    obtain rfl : y = y' := Option.some.inj (hy.symm.trans (f2 ys hs'))
    have s := same_new (o := .tup [x, y]) (C.cm.none hT).1
    exact ⟨_, s, fr_new hT (C.cm.none hT).1, cm_new C.cm hT, .tup upd_same (.cons ((rx.mono s1).mono s) (.cons ((ry.mono s1).mono s) .nil))⟩⟩
theorem drv_zipT {N1 : Hp} {p q : Addr} {xs ys : List V} {ds es : List D} (h : SqT K N1 p xs) (r : RelL K N1 xs ds) (h' : SqT K N1 q ys) (r' : RelL K N1 ys es) : Drv K (RZ.ItzT K p q) (zipD ds es) N1 := fun E G M N σ H C s1 i =>
  have hs : SqT K H p xs := same_seqT C.cm.sm (same_seqT s1 h)
  have hs' : SqT K H q ys := same_seqT C.cm.sm (same_seqT s1 h')
  ⟨fun hi => ⟨xs, ys, hs, hs', by rw [r.length, r'.length]; simp only [zipD, List.length_map, List.length_zip] at hi; omega⟩, fun d hd => by
    obtain ⟨d1, d2, e1, e2, rfl⟩ := zipD_get hd
    obtain ⟨x, hx, rx⟩ := r.getR e1
    obtain ⟨y, hy, ry⟩ := r'.getR e2
    refine ⟨⟨xs, ys, x, y, hs, hs', hx, hy⟩, fun v H' hv => ?_⟩
    obtain ⟨T, x', y', rfl, hT, rfl, f1, f2⟩ := hv
    obtain rfl : x = x' := Option.some.inj (hx.symm.trans (f1 xs hs))
    obtain rfl : y = y' := Option.some.inj (hy.symm.trans (f2 ys hs'))
    have s := same_new (o := .tup [x, y]) (C.cm.none hT).1
    exact ⟨_, s, fr_new hT (C.cm.none hT).1, cm_new C.cm hT, .tup upd_same (.cons ((rx.mono s1).mono s) (.cons ((ry.mono s1).mono s) .nil))⟩⟩
theorem di_zip {p tpos : Pos} {elts : List Expr} {kk : Nat} (hg : Gl X "zip") (hm : X.mg "zip" = none) (ha : DA X [a, b] t at1)
    (hs : starEach [a, b] X.env = (false, eval a X.env) :: starEach [b] X.env := by rfl) (hpl : (backTo pos (starEach [b] X.env)).any (·.1) = false := by rfl) :
    DI X (.Tuple elts kk tpos) (.Call (.Name "zip" p) [a, b] [] pos) (RZ.iZipA X.K t) (aiZip at1) := ⟨RZ.pi_zipA hg hm ha.pa hs hpl, by
  intro E G M N σ H C Q R q k
  refine ha.sa E G M N σ H C _ _ q fun ds vs M1 N1 H1 h1 C1 s1 r1 => ?_
  split at h1
  · obtain ⟨v, w, rfl, r2, r3⟩ := rel2 r1
    obtain ⟨h0, h1⟩ := h1
    split at h1
    · rename_i xs ys hx hy
      obtain ⟨p1, us, rfl, q2, h4⟩ := rel_items r2 hx
      obtain ⟨p2, ws, rfl, q3, h5⟩ := rel_items r3 hy
      refine ⟨p1, p2, us, ws, rfl, ?_⟩
      rcases h4 with ⟨e4, h4⟩ | ⟨e4, h4⟩
      · rcases h5 with ⟨e5, h5⟩ | ⟨e5, h5⟩
        · exact .inl ⟨C1.cm.sm.seq h4, C1.cm.sm.seq h5, k _ M1 N1 H1 _ h1 C1 s1 (drv_zipL h4 q2 h5 q3)⟩
        · rw [e4, e5] at h0; cases h0
      · rcases h5 with ⟨e5, h5⟩ | ⟨e5, h5⟩
        · rw [e4, e5] at h0; cases h0
        · exact .inr ⟨same_seqT C1.cm.sm h4, same_seqT C1.cm.sm h5, k _ M1 N1 H1 _ h1 C1 s1 (drv_zipT h4 q2 h5 q3)⟩
    · exact h1.elim
  · exact h1.elim⟩
/-- enumerate of a list that stands still -/
def enumD (ds : List D) : List D := (ds.zip (List.range ds.length)).map fun p => .tup [.int (p.2 : Nat), p.1]
theorem enumD_get {ds : List D} {i : Nat} {d : D} (h : (enumD ds)[i]? = some d) : ∃ x, ds[i]? = some x ∧ d = .tup [.int (i : Nat), x] := by
  unfold enumD at h
  rw [List.getElem?_map] at h
  obtain ⟨⟨x, y⟩, h1, rfl⟩ := Option.map_eq_some_iff.mp h
  obtain ⟨h2, h3⟩ := List.getElem?_zip_eq_some.mp h1
  have hi := (List.getElem?_eq_some_iff.mp h3).1
  rw [List.length_range] at hi
  rw [List.getElem?_range hi] at h3
  cases h3
  exact ⟨x, h2, rfl⟩
def aiEnum (x : aA) : aA := fun G M Q => x G M fun ds M1 => match ds with
  | [d] => isL d = true ∧ (match items d with | some xs => Q (enumD xs) M1 | _ => False)
  | _ => False
theorem drv_enum {N1 : Hp} {p : Addr} {xs : List V} {ds : List D} (h : SqL K N1 p xs) (r : RelL K N1 xs ds) : Drv K (Ite K p) (enumD ds) N1 := fun E G M N σ H C s1 i =>
  have hs : SqL K H p xs := C.cm.sm.seq (s1.seq h)
  ⟨fun hi => ⟨xs, hs, by rw [r.length]; simp only [enumD, List.length_map, List.length_zip, List.length_range] at hi; omega⟩, fun d hd => by
    obtain ⟨d1, e1, rfl⟩ := enumD_get hd
    obtain ⟨x, hx, rx⟩ := r.getR e1
    refine ⟨⟨xs, x, hs, hx⟩, fun v H' hv => ?_⟩
    obtain ⟨T, x', rfl, hT, rfl, f1⟩ := hv
    obtain rfl : x = x' := Option.some.inj (hx.symm.trans (f1 xs hs))
    have s := same_new (o := .tup [.int (i : Nat), x]) (C.cm.none hT).1
    exact ⟨_, s, fr_new hT (C.cm.none hT).1, cm_new C.cm hT, .tup upd_same (.cons (.int _) (.cons ((rx.mono s1).mono s) .nil))⟩⟩
theorem di_enum {p tpos : Pos} {elts : List Expr} {kk : Nat} (hg : Gl X "enumerate") (hm : X.mg "enumerate" = none) (ha : DA X [a] t at1) (hs : starEach [a] X.env = [(false, eval a X.env)] := by rfl) :
    DI X (.Tuple elts kk tpos) (.Call (.Name "enumerate" p) [a] [] pos) (iEnum X.K t) (aiEnum at1) := ⟨pi_enum hg hm ha.pa hs, by
  intro E G M N σ H C Q R q k
  refine ha.sa E G M N σ H C _ _ q fun ds vs M1 N1 H1 h1 C1 s1 r1 => ?_
  split at h1
  · obtain ⟨v, rfl, r2⟩ := rel1 r1
    obtain ⟨h0, h1⟩ := h1
    split at h1
    · rename_i xs hx
      obtain ⟨p1, us, rfl, q2, h4⟩ := rel_items r2 hx
      rcases h4 with ⟨e4, h4⟩ | ⟨e4, h4⟩
      · exact ⟨p1, us, rfl, C1.cm.sm.seq h4, k _ M1 N1 H1 _ h1 C1 s1 (drv_enum h4 q2)⟩
      · rw [e4] at h0; cases h0
    · exact h1.elim
  · exact h1.elim⟩
/-- the signs of a text -/
def signsD (x : Str) : List D := x.cps.toList.map fun c => .str ⟨#[c]⟩
def aiStr (x : aE) : aA := fun G M Q => x G M fun d M1 => match d with | .str z => Q (signsD z) M1 | _ => False
theorem drv_str {N1 : Hp} {z : Str} : Drv K (Its z) (signsD z) N1 := fun E G M N σ H C s1 i =>
  ⟨fun hi => by
    show z.cps.size ≤ i
    simpa [signsD] using hi, fun d hd => by
    have hi : i < z.cps.size := by
      have := (List.getElem?_eq_some_iff.mp hd).1
      simpa [signsD] using this
    refine ⟨hi, fun y H' hy => ?_⟩
    obtain ⟨rfl, c, hc, rfl⟩ := hy
    unfold signsD at hd
    rw [List.getElem?_map, Array.getElem?_toList, hc] at hd
    cases hd
    exact ⟨N, Same.refl N, .refl, C.cm, .str _⟩⟩
theorem di_str {l : Expr} {tl : TE} {al : aE} (hl : DE X l tl al) : DI X tg l (iStr tl) (aiStr al) := ⟨pi_str hl.pe, by
  intro E G M N σ H C Q R q k
  refine hl.se E G M N σ H C _ _ q fun d v M1 N1 H1 h1 C1 s1 r1 => ?_
  split at h1
  · cases r1
    exact ⟨_, rfl, k _ M1 N1 H1 _ h1 C1 s1 drv_str⟩
  · exact h1.elim⟩

/-! ### for -/
def forGo (g : aG) (b : aS) : List D → aS
  | [], A, G, M => A.nx G M
  | d :: ds, A, G, M => g d G M fun G' M' => b { A with nx := forGo g b ds A, ct := forGo g b ds A, bk := A.nx } G' M'
def asFor (src : aA) (g : aG) (b : aS) : aS := fun A G M => src G M fun ds M1 => forGo g b ds A G M1
theorem ds_for {iter : Expr} {body : List Stmt} {wi : TI} {awi : aA} (hi : DI X tg iter wi awi) (hg : DG X tg g ag) (hb : DSs X body tu au) (hp : PassesOwn (model X.prog X.w) X.A X.env X.xe) (hc : X.calm = true := by rfl)
    (hs : ∀ x, foldedSetIterable iter X.env x = pure x := by intro _; rfl) : DS X (.For tg iter body [] pos) (tFor wi g tu) (asFor awi ag au) := ⟨ps_for hp hc hi.pi hg.pg hb.ps hs, by
  intro E G M N σ H C A B m0 q k
  refine hi.si E G M N σ H C _ _ q fun ds M1 N1 H1 J h1 C1 s1 dr => ?_
  refine ⟨fun i m σ H => ∃ G M N', CC X.K E G M N' σ H ∧ Same N1 N' ∧ m = ds.length - i ∧ forGo ag au (ds.drop i) A G M, ⟨_, G, M1, N1, C1, Same.refl _, rfl, h1⟩, ?_⟩
  rintro i m σ H ⟨G, M, N', C', s', rfl, hf⟩
  obtain ⟨d1, d2⟩ := dr E G M N' σ H C' s' i
  by_cases hl : ds.length ≤ i
  · rw [List.drop_eq_nil_of_le hl] at hf
    exact .inl ⟨d1 hl, k.nx G M N' σ H hf C' (s1.trans s')⟩
  · have hl : i < ds.length := by omega
    rw [List.drop_eq_getElem_cons hl] at hf
    obtain ⟨g1, g2⟩ := d2 ds[i] (List.getElem?_eq_getElem hl)
    refine .inr ⟨g1, fun σ' H' => ∃ G M N', CC X.K E G M N' σ' H' ∧ Same N1 N' ∧ forGo ag au (ds.drop (i + 1)) A G M, fun σ' H' ⟨G, M, N', c, s, f⟩ => ⟨ds.length - (i + 1), by omega, G, M, N', c, s, rfl, f⟩, fun x H' hy => ?_⟩
    obtain ⟨N2, s2, f2, c2, r2⟩ := g2 x H' hy
    refine hg.sg E G M N2 σ H' (C'.step f2 c2) x _ r2 _ _ hf fun G3 M3 N3 σ3 H3 h3 C3 s3 => ?_
    have s4 : Same N1 N3 := s'.trans (s2.trans s3)
    refine hb.ss E G3 M3 N3 σ3 H3 C3 _ _ ?_ h3 ⟨?_, ?_, ?_, ?_⟩
    · exact m0
    · exact fun G' M' N4 σ' H' q' C4 s5 => ⟨G', M', N4, C4, s4.trans s5, q'⟩
    · exact fun d v G' M' N4 σ' H' q' C4 s5 r5 => k.rt d v G' M' N4 σ' H' q' C4 (s1.trans (s4.trans s5)) r5
    · exact fun G' M' N4 σ' H' q' C4 s5 => k.nx G' M' N4 σ' H' q' C4 (s1.trans (s4.trans s5))
    · exact fun G' M' N4 σ' H' q' C4 s5 => ⟨G', M', N4, C4, s4.trans s5, q'⟩⟩
end
end DL

set_option Elab.async false
set_option linter.all false
set_option maxRecDepth 100000
namespace DL
open PySem PySem.Spec PyProof.Rows L2
/-! ### wiped slots -/
theorem wipe_get (σ : L2.St) (j : Nat) : ∀ vs : List Nat, (wipe σ vs)[j]? = if j ∈ vs then σ[j]?.map (fun _ => none) else σ[j]?
  | [] => by simp [wipe]
  | v :: vs => by
    have ih := wipe_get σ j vs
    unfold wipe
    by_cases q : v = j
    · subst q
      rw [if_pos (by simp)]
      by_cases l : v < (wipe σ vs).length
      · rw [List.getElem?_set_self l]
        rw [wipe_length] at l
        rw [List.getElem?_eq_getElem l]
        rfl
      · rw [List.getElem?_eq_none (by simpa using l)]
        rw [wipe_length] at l
        rw [List.getElem?_eq_none (by omega)]
        rfl
    · rw [List.getElem?_set_ne q, ih]
      have e : (j ∈ v :: vs) = (j ∈ vs) := by simp [Ne.symm q]
      simp only [e]
theorem wipe_set (σ : L2.St) (j : Nat) (x : Option V) (vs : List Nat) (h : j ∈ vs) : wipe (σ.set j x) vs = wipe σ vs := by
  apply List.ext_getElem?
  intro i
  rw [wipe_get, wipe_get]
  by_cases q : j = i
  · subst q
    rw [if_pos h, if_pos h]
    by_cases l : j < σ.length
    · rw [List.getElem?_set_self l, List.getElem?_eq_getElem l]; rfl
    · rw [List.getElem?_eq_none (by simpa using l), List.getElem?_eq_none (by omega)]
  · rw [List.getElem?_set_ne q]
theorem wipe_wipe (σ : L2.St) (vs : List Nat) : wipe (wipe σ vs) vs = wipe σ vs := by
  apply List.ext_getElem?
  intro i
  rw [wipe_get, wipe_get]
  split
  · rw [Option.map_map]; rfl
  · rfl
/-- a target that stores in these slots alone -/
def OwnG (vs : List Nat) (g : TG) : Prop := ∀ v σ H Q, g v σ H Q → g v σ H fun σ2 H2 => wipe σ2 vs = wipe σ vs ∧ Q σ2 H2
def OwnGs (vs : List Nat) (g : TGs) : Prop := ∀ v σ H Q, g v σ H Q → g v σ H fun σ2 H2 => wipe σ2 vs = wipe σ vs ∧ Q σ2 H2
theorem own_name {vs : List Nat} {j : Nat} (h : j ∈ vs := by decide) : OwnG vs (gName j) := fun v σ H Q q => ⟨wipe_set σ j _ vs h, q⟩
theorem own_nil {vs : List Nat} : OwnGs vs gNil := fun v σ H Q q => ⟨q.1, rfl, q.2⟩
def MonoG (g : TG) : Prop := ∀ v σ H Q Q', (∀ σ H, Q σ H → Q' σ H) → g v σ H Q → g v σ H Q'
def MonoGs (g : TGs) : Prop := ∀ v σ H Q Q', (∀ σ H, Q σ H → Q' σ H) → g v σ H Q → g v σ H Q'
structure OwnM (vs : List Nat) (g : TG) : Prop where
  own : OwnG vs g
  mono : MonoG g
structure OwnMs (vs : List Nat) (g : TGs) : Prop where
  own : OwnGs vs g
  mono : MonoGs g
theorem om_name {vs : List Nat} {j : Nat} (h : j ∈ vs := by decide) : OwnM vs (gName j) := ⟨own_name h, fun v σ H Q Q' k q => k _ _ q⟩
theorem om_nil {vs : List Nat} : OwnMs vs gNil := ⟨own_nil, fun v σ H Q Q' k q => ⟨q.1, k _ _ q.2⟩⟩
theorem om_cons {vs : List Nat} {g : TG} {gs : TGs} (h1 : OwnM vs g) (h2 : OwnMs vs gs) : OwnMs vs (gCons g gs) where
  own := fun v σ H Q q => by
    obtain ⟨x, r, rfl, q⟩ := q
    refine ⟨x, r, rfl, h1.mono x σ H _ _ (fun σ1 H1 ⟨e1, q1⟩ => ?_) (h1.own x σ H _ q)⟩
    exact h2.mono r σ1 H1 _ _ (fun σ2 H2 ⟨e2, q2⟩ => ⟨e2.trans e1, q2⟩) (h2.own r σ1 H1 _ q1)
  mono := fun v σ H Q Q' k q => by
    obtain ⟨x, r, rfl, q⟩ := q
    exact ⟨x, r, rfl, h1.mono x σ H _ _ (fun σ1 H1 q1 => h2.mono r σ1 H1 _ _ k q1) q⟩
theorem om_tup {vs : List Nat} {K : PySem.W.Frag} {n : Nat} {gs : TGs} (h2 : OwnMs vs gs) : OwnM vs (gTup K n gs) where
  own := fun v σ H Q q => by
    obtain ⟨x, r, rfl, hs, hl, q⟩ := q
    exact ⟨x, r, rfl, hs, hl, h2.own r σ H _ q⟩
  mono := fun v σ H Q Q' k q => by
    obtain ⟨x, r, rfl, hs, hl, q⟩ := q
    exact ⟨x, r, rfl, hs, hl, h2.mono r σ H _ _ k q⟩
def wipeG (G : Gm) : List Nat → Gm
  | [] => G
  | v :: vs => (wipeG G vs).set v none
theorem wipeG_some {G : Gm} {i : Nat} {d : D} : ∀ {vs : List Nat}, (wipeG G vs)[i]? = some (some d) → G[i]? = some (some d) ∧ i ∉ vs
  | [], h => ⟨h, by simp⟩
  | v :: vs, h => by
    unfold wipeG at h
    by_cases q : v = i
    · subst q
      by_cases l : v < (wipeG G vs).length
      · rw [List.getElem?_set_self l] at h; cases h
      · rw [List.getElem?_eq_none (by simpa using l)] at h; cases h
    · rw [List.getElem?_set_ne q] at h
      obtain ⟨h1, h2⟩ := wipeG_some h
      exact ⟨h1, by simp [Ne.symm q, h2]⟩
theorem wipeG_length (G : Gm) : ∀ vs, (wipeG G vs).length = G.length
  | [] => rfl
  | v :: vs => by simp [wipeG, wipeG_length G vs]
theorem Sl.wipe {K : PySem.W.Frag} {N : Hp} {G : Gm} {σ : L2.St} (h : Sl K N G σ) (vs : List Nat) : Sl K N (wipeG G vs) (L2.wipe σ vs) := by
  refine ⟨by rw [wipe_length, wipeG_length, h.1], fun i d e => ?_⟩
  obtain ⟨h1, h2⟩ := wipeG_some e
  obtain ⟨v, h3, h4⟩ := h.2 i d h1
  exact ⟨v, by rw [wipe_get, if_neg h2]; exact h3, h4⟩

/-! ### comprehensions -/
def lcGo (g : aG) (t : aT) (x : aE) (G : Gm) : List D → List D → Mp → (List D → Mp → Prop) → Prop
  | [], acc, M, Q => Q acc M
  | d :: ds, acc, M, Q => g d G M fun G' M1 => t G' M1 fun b M2 => if b = true then x G' M2 fun y M3 => lcGo g t x G ds (acc ++ [y]) M3 Q else lcGo g t x G ds acc M2 Q
def aLc (src : aA) (g : aG) (t : aT) (x : aE) (vs : List Nat) : aE := fun G M Q => src G M fun ds M1 => ds.length ≤ 1000000 ∧ lcGo g t x (wipeG G vs) ds [] M1 fun acc M2 => Q (.list acc) M2
def aLcM (src : aA) (g : aG) (t : aT) (x : aE) (vs : List Nat) : aE := fun G M Q => src G M fun ds M1 => ds.length ≤ 1000000 ∧ lcGo g t x (wipeG G vs) ds [] M1 fun acc M2 => ∀ p, M2 p = none → Q (.ref p) (mupd M2 p (.lst acc))
section
variable {X : Cx} {K : PySem.W.Frag}
theorem lc_gen {wi : TI} {awi : aA} {g : TG} {ag : aG} {tt : TT} {at' : aT} {te : TE} {ae : aE} {vs : List Nat} (hi : SI K wi awi) (hg : SG K g ag) (ho : OwnM vs g) (ht : ST K tt at') (he : SE K te ae)
    {E : En} {G : Gm} {M : Mp} {N H : Hp} {σ : L2.St} (C : CC K E G M N σ H) {Qa : List D → Mp → Prop} {Qc : VK} (q : awi G M fun ds M1 => ds.length ≤ 1000000 ∧ lcGo ag at' ae (wipeG G vs) ds [] M1 Qa)
    (k : ∀ p acc accV M' N' H', Qa acc M' → CC K E G M' N' σ H' → Same N N' → H' p = some (.lst accV) → M' p = none → N' p = none → E.H p = none → RelL K N' accV acc → Qc (.ref p) H') : tLc wi g tt te vs σ H Qc := by
  refine hi E G M N σ H C _ _ q fun ds M1 N1 H1 J h1 C1 s1 dr => ?_
  intro p hp
  obtain ⟨hN, hM⟩ := C1.cm.none hp
  have h0 : E.H p = none := by
    cases w : E.H p with
    | none => rfl
    | some o =>
      obtain ⟨o', e'⟩ := C1.fr.dom p o w
      rw [e'] at hp; cases hp
  have first : Fr M1 N1 H1 M1 N1 (upd H1 p (.lst [])) := ⟨Same.refl _, fun a u e m => ⟨by rw [upd_ne (ne_of_none e hp)]; exact e, m⟩, fun a u e n => n, fun a u e => ⟨u, by rw [upd_ne (ne_of_none e hp)]; exact e⟩⟩
  have cm1 : CM K M1 N1 (upd H1 p (.lst [])) := ⟨fun a u e => by rw [upd_ne (ne_of_none e hN)]; exact C1.cm.sm _ _ e, fun a c e => by
    obtain ⟨x1, x2⟩ := C1.cm.hm a c e
    exact ⟨x1, x2.mono (Same.refl _) fun o e => by rw [upd_ne (ne_of_none e hp)]; exact e⟩⟩
  refine ⟨fun i m H => ∃ M N acc accV, Fr M1 N1 H1 M N H ∧ CM K M N H ∧ H p = some (.lst accV) ∧ M p = none ∧ N p = none ∧ RelL K N accV acc ∧ acc.length ≤ i ∧ m = ds.length - i ∧ lcGo ag at' ae (wipeG G vs) (ds.drop i) acc M Qa,
    ⟨_, M1, N1, [], [], first, cm1, upd_same, hM, hN, .nil, Nat.le_refl _, rfl, h1.2⟩, ?_⟩
  rintro i m H ⟨M, N, acc, accV, fr, cm, hH, hMp, hNp, ra, hai, rfl, hl⟩
  have C0 : CC K ⟨M, N, H⟩ (wipeG G vs) M N (wipe σ vs) H := ⟨.refl, cm, ((C1.sl.mono fr.nn).wipe vs)⟩
  obtain ⟨d1, d2⟩ := dr _ _ M N _ H C0 fr.nn i
  by_cases hlt : ds.length ≤ i
  · rw [List.drop_eq_nil_of_le hlt] at hl
    refine .inl ⟨d1 hlt, k p acc accV M N H hl ⟨C1.fr.trans fr, cm, C1.sl.mono fr.nn⟩ (s1.trans fr.nn) hH hMp hNp h0 ra⟩
  · have hlt : i < ds.length := by omega
    rw [List.drop_eq_getElem_cons hlt] at hl
    obtain ⟨g1, g2⟩ := d2 ds[i] (List.getElem?_eq_getElem hlt)
    refine .inr ⟨g1, fun H' => ∃ M N acc accV, Fr M1 N1 H1 M N H' ∧ CM K M N H' ∧ H' p = some (.lst accV) ∧ M p = none ∧ N p = none ∧ RelL K N accV acc ∧ acc.length ≤ i + 1 ∧ lcGo ag at' ae (wipeG G vs) (ds.drop (i + 1)) acc M Qa,
      fun H' ⟨M, N, acc, accV, x1, x2, x3, x4, x5, x6, x7, x8⟩ => ⟨ds.length - (i + 1), by omega, M, N, acc, accV, x1, x2, x3, x4, x5, x6, x7, rfl, x8⟩, fun x H' hy => ?_⟩
    obtain ⟨N2, s2, f2, c2, r2⟩ := g2 x H' hy
    have go : g x (wipe σ vs) H' fun σ2 H2 => tt σ2 H2 fun b H3 => if b = true then te σ2 H3 fun y H4 => ∃ acc, H4 p = some (.lst acc) ∧ acc.length < sizeLine ∧
        (∃ M N acc' accV, Fr M1 N1 H1 M N (upd H4 p (.lst (acc ++ [y]))) ∧ CM K M N (upd H4 p (.lst (acc ++ [y]))) ∧ (upd H4 p (.lst (acc ++ [y]))) p = some (.lst accV) ∧ M p = none ∧ N p = none ∧ RelL K N accV acc' ∧ acc'.length ≤ i + 1 ∧ lcGo ag at' ae (wipeG G vs) (ds.drop (i + 1)) acc' M Qa)
        else ∃ M N acc accV, Fr M1 N1 H1 M N H3 ∧ CM K M N H3 ∧ H3 p = some (.lst accV) ∧ M p = none ∧ N p = none ∧ RelL K N accV acc ∧ acc.length ≤ i + 1 ∧ lcGo ag at' ae (wipeG G vs) (ds.drop (i + 1)) acc M Qa := by
      refine hg _ _ M N2 _ H' (C0.step f2 c2) x _ r2 _ _ hl fun G3 M3 N3 σ3 H3 h3 C3 s3 => ?_
      refine ht _ _ M3 N3 σ3 H3 C3 _ _ h3 fun b M4 N4 H4 h4 C4 s4 => ?_
      cases b with
      | false =>
        rw [if_neg Bool.false_ne_true] at h4 ⊢
        obtain ⟨y1, y2⟩ := C4.fr.keep p _ hH hMp
        exact ⟨M4, N4, acc, accV, fr.trans C4.fr, C4.cm, y1, y2, C4.fr.new p _ hH hNp, ra.mono C4.fr.nn, by omega, h4⟩
      | true =>
        rw [if_pos rfl] at h4 ⊢
        refine he _ _ M4 N4 σ3 H4 C4 _ _ h4 fun dy y M5 N5 H5 h5 C5 s5 r5 => ?_
        obtain ⟨y1, y2⟩ := C5.fr.keep p _ hH hMp
        have y3 := C5.fr.new p _ hH hNp
        refine ⟨accV, y1, by rw [ra.length]; exact big_lt (by omega), M5, N5, acc ++ [dy], accV ++ [y], ?_, ?_, upd_same, y2, y3, (ra.mono C5.fr.nn).append (.cons r5 .nil), by simp; omega, h5⟩
        · have f5 := fr.trans C5.fr
          exact ⟨f5.nn, fun a u e m => by
            obtain ⟨z1, z2⟩ := f5.keep a u e m
            exact ⟨by rw [upd_ne (ne_of_none e hp)]; exact z1, z2⟩, f5.new, fun a u e => by
            obtain ⟨o, z⟩ := f5.dom a u e
            exact ⟨o, by rw [upd_ne (ne_of_none e hp)]; exact z⟩⟩
        · exact ⟨fun a u e => by rw [upd_ne (ne_of_none e y3)]; exact C5.cm.sm _ _ e, fun a c e => by
            obtain ⟨z1, z2⟩ := C5.cm.hm a c e
            have qn : a ≠ p := fun z => by subst z; rw [y2] at e; cases e
            exact ⟨z1, z2.mono (Same.refl _) fun o e => by rw [upd_ne qn]; exact e⟩⟩
    refine ho.mono x _ H' _ _ (fun σ2 H2 ⟨e2, q2⟩ => ?_) (ho.own x _ H' _ go)
    exact ⟨by rw [e2, wipe_wipe], q2⟩
variable {elt tg iter : Expr} {ifs : List Expr} {scope : Scope} {own : List (Str × Nat)} {pos : Pos} {wi : TI} {awi : aA} {g : TG} {ag : aG} {tt : TT} {at' : aT} {te : TE} {ae : aE}
structure DTs (X : Cx) (ifs : List Expr) (tt : TT) (at' : aT) : Prop where
  pt : PTs X ifs tt
  st : ST X.K tt at'
def atYes : aT := fun _ M Q => Q true M
theorem dts_nil : DTs X [] tYes atYes := ⟨pts_nil, fun E G M N σ H C Q Qc q k => k true M N H q C (Same.refl N)⟩
theorem dts_one {c : Expr} (h : DT X c tt at') : DTs X [c] tt at' := ⟨pts_one h.pt, h.st⟩
theorem se_lc {vs : List Nat} (hi : SI K wi awi) (hg : SG K g ag) (ho : OwnM vs g) (ht : ST K tt at') (he : SE K te ae) : SE K (tLc wi g tt te vs) (aLc awi ag at' ae vs) := by
  intro E G M N σ H C Q Qc q k
  refine lc_gen hi hg ho ht he C q fun p acc accV M' N' H' q' C' s' hH hM hN h0 r => ?_
  have e : mdel M' p = M' := by
    funext b
    unfold mdel
    split
    · rename_i h; subst h; exact hM.symm
    · rfl
  have C2 := C'.freeze hN hH h0
  rw [e] at C2
  exact (k.from (s'.trans (same_new hN))).at C2 q' (.list upd_same (r.mono (same_new hN)))
theorem se_lcM {vs : List Nat} (hi : SI K wi awi) (hg : SG K g ag) (ho : OwnM vs g) (ht : ST K tt at') (he : SE K te ae) : SE K (tLc wi g tt te vs) (aLcM awi ag at' ae vs) := by
  intro E G M N σ H C Q Qc q k
  refine lc_gen hi hg ho ht he C q fun p acc accV M' N' H' q' C' s' hH hM hN h0 r => ?_
  refine k (.ref p) (.ref p) _ N' H' (q' p hM) ⟨⟨C'.fr.nn, fun a o e m => ?_, C'.fr.new, C'.fr.dom⟩, ⟨C'.cm.sm, fun a c e => ?_⟩, C'.sl⟩ s' (.ref p)
  · obtain ⟨z1, z2⟩ := C'.fr.keep a o e m
    exact ⟨z1, by rw [mupd_ne (ne_of_none e h0)]; exact z2⟩
  · by_cases qa : a = p
    · subst qa
      rw [mupd_same] at e
      cases e
      exact ⟨hN, hasL hH r⟩
    · rw [mupd_ne qa] at e
      exact C'.cm.hm a c e
abbrev BV (α : Type _) := Shared → Hp → Addr → List (Str × Addr) → List Addr → α
theorem de_lc {g' : BV TG} {ag' : BV aG} {tt' : BV TT} {at'' : BV aT} {te' : BV TE} {ae' : BV aE} (hc : X.calm = true) (hN : X.N.Nodup) (hi : DI X tg iter wi awi) (ok : BlkOk X.N X.env.scope scope own)
    (hg : ∀ (s : Shared) (H : Hp) (C : Addr) (cl : List (Str × Addr)) (fp : List Addr), DG (X.blk s H scope (compEnvC scope cl C X.env) fp) tg (g' s H C cl fp) (ag' s H C cl fp)) (ht : ∀ (s : Shared) (H : Hp) (C : Addr) (cl : List (Str × Addr)) (fp : List Addr), DTs (X.blk s H scope (compEnvC scope cl C X.env) fp) ifs (tt' s H C cl fp) (at'' s H C cl fp))
    (he : ∀ (s : Shared) (H : Hp) (C : Addr) (cl : List (Str × Addr)) (fp : List Addr), DE (X.blk s H scope (compEnvC scope cl C X.env) fp) elt (te' s H C cl fp) (ae' s H C cl fp)) (ho : OwnM (own.map (·.2)) (g' X.s_0 X.H_0 0 [] [])) (hs : ∀ x, foldedSetIterable iter X.env x = pure x := by intro _; rfl)
    (eg : ∀ s H C cl fp, g' s H C cl fp = g' X.s_0 X.H_0 0 [] [] := by intro _ _ _ _ _; rfl) (et : ∀ s H C cl fp, tt' s H C cl fp = tt' X.s_0 X.H_0 0 [] [] := by intro _ _ _ _ _; rfl) (ee : ∀ s H C cl fp, te' s H C cl fp = te' X.s_0 X.H_0 0 [] [] := by intro _ _ _ _ _; rfl) :
    DE X (.ListComp elt [⟨tg, iter, ifs, 0⟩] scope pos) (tLc wi (g' X.s_0 X.H_0 0 [] []) (tt' X.s_0 X.H_0 0 [] []) (te' X.s_0 X.H_0 0 [] []) (own.map (·.2))) (aLc awi (ag' X.s_0 X.H_0 0 [] []) (at'' X.s_0 X.H_0 0 [] []) (ae' X.s_0 X.H_0 0 [] []) (own.map (·.2))) :=
  ⟨pe_lc hc hN hi.pi ok (fun s H C cl fp => by rw [← eg s H C cl fp]; exact (hg s H C cl fp).pg) (fun s H C cl fp => by rw [← et s H C cl fp]; exact (ht s H C cl fp).pt) (fun s H C cl fp => by rw [← ee s H C cl fp]; exact (he s H C cl fp).pe) hs, se_lc hi.si (hg X.s_0 X.H_0 0 [] []).sg ho (ht X.s_0 X.H_0 0 [] []).st (he X.s_0 X.H_0 0 [] []).se⟩
theorem de_lcM {g' : BV TG} {ag' : BV aG} {tt' : BV TT} {at'' : BV aT} {te' : BV TE} {ae' : BV aE} (hc : X.calm = true) (hN : X.N.Nodup) (hi : DI X tg iter wi awi) (ok : BlkOk X.N X.env.scope scope own)
    (hg : ∀ (s : Shared) (H : Hp) (C : Addr) (cl : List (Str × Addr)) (fp : List Addr), DG (X.blk s H scope (compEnvC scope cl C X.env) fp) tg (g' s H C cl fp) (ag' s H C cl fp)) (ht : ∀ (s : Shared) (H : Hp) (C : Addr) (cl : List (Str × Addr)) (fp : List Addr), DTs (X.blk s H scope (compEnvC scope cl C X.env) fp) ifs (tt' s H C cl fp) (at'' s H C cl fp))
    (he : ∀ (s : Shared) (H : Hp) (C : Addr) (cl : List (Str × Addr)) (fp : List Addr), DE (X.blk s H scope (compEnvC scope cl C X.env) fp) elt (te' s H C cl fp) (ae' s H C cl fp)) (ho : OwnM (own.map (·.2)) (g' X.s_0 X.H_0 0 [] [])) (hs : ∀ x, foldedSetIterable iter X.env x = pure x := by intro _; rfl)
    (eg : ∀ s H C cl fp, g' s H C cl fp = g' X.s_0 X.H_0 0 [] [] := by intro _ _ _ _ _; rfl) (et : ∀ s H C cl fp, tt' s H C cl fp = tt' X.s_0 X.H_0 0 [] [] := by intro _ _ _ _ _; rfl) (ee : ∀ s H C cl fp, te' s H C cl fp = te' X.s_0 X.H_0 0 [] [] := by intro _ _ _ _ _; rfl) :
    DE X (.ListComp elt [⟨tg, iter, ifs, 0⟩] scope pos) (tLc wi (g' X.s_0 X.H_0 0 [] []) (tt' X.s_0 X.H_0 0 [] []) (te' X.s_0 X.H_0 0 [] []) (own.map (·.2))) (aLcM awi (ag' X.s_0 X.H_0 0 [] []) (at'' X.s_0 X.H_0 0 [] []) (ae' X.s_0 X.H_0 0 [] []) (own.map (·.2))) :=
  ⟨pe_lc hc hN hi.pi ok (fun s H C cl fp => by rw [← eg s H C cl fp]; exact (hg s H C cl fp).pg) (fun s H C cl fp => by rw [← et s H C cl fp]; exact (ht s H C cl fp).pt) (fun s H C cl fp => by rw [← ee s H C cl fp]; exact (he s H C cl fp).pe) hs, se_lcM hi.si (hg X.s_0 X.H_0 0 [] []).sg ho (ht X.s_0 X.H_0 0 [] []).st (he X.s_0 X.H_0 0 [] []).se⟩
theorem ds_setLc {g' : BV TG} {ag' : BV aG} {tt' : BV TT} {at'' : BV aT} {te' : BV TE} {ae' : BV aE} {j : Nat} {y : Str} {py spos : Pos} (hc : X.calm = true) (hN : X.N.Nodup) (hy : X.N[j]? = some y) (hyl : X.env.scope.names.lookup y = some .local)
    (hsw : swapsWith (.ListComp elt [⟨tg, iter, ifs, 0⟩] scope pos) (some (.Name y py)) spos.line X.env = pure true) (hi : DI X tg iter wi awi) (ok : BlkOk X.N X.env.scope scope own)
    (hg : ∀ (s : Shared) (H : Hp) (C : Addr) (cl : List (Str × Addr)) (fp : List Addr), DG (X.blk s H scope (compEnvC scope cl C X.env) fp) tg (g' s H C cl fp) (ag' s H C cl fp)) (ht : ∀ (s : Shared) (H : Hp) (C : Addr) (cl : List (Str × Addr)) (fp : List Addr), DTs (X.blk s H scope (compEnvC scope cl C X.env) fp) ifs (tt' s H C cl fp) (at'' s H C cl fp))
    (he : ∀ (s : Shared) (H : Hp) (C : Addr) (cl : List (Str × Addr)) (fp : List Addr), DE (X.blk s H scope (compEnvC scope cl C X.env) fp) elt (te' s H C cl fp) (ae' s H C cl fp)) (ho : OwnM (own.map (·.2)) (g' X.s_0 X.H_0 0 [] [])) (hs : ∀ x, foldedSetIterable iter X.env x = pure x := by intro _; rfl)
    (eg : ∀ s H C cl fp, g' s H C cl fp = g' X.s_0 X.H_0 0 [] [] := by intro _ _ _ _ _; rfl) (et : ∀ s H C cl fp, tt' s H C cl fp = tt' X.s_0 X.H_0 0 [] [] := by intro _ _ _ _ _; rfl) (ee : ∀ s H C cl fp, te' s H C cl fp = te' X.s_0 X.H_0 0 [] [] := by intro _ _ _ _ _; rfl) :
    DS X (.Assign [.Name y py] (.ListComp elt [⟨tg, iter, ifs, 0⟩] scope pos) spos) (tAsg (tLc wi (g' X.s_0 X.H_0 0 [] []) (tt' X.s_0 X.H_0 0 [] []) (te' X.s_0 X.H_0 0 [] []) (own.map (·.2))) (gName j)) (asAsg (aLc awi (ag' X.s_0 X.H_0 0 [] []) (at'' X.s_0 X.H_0 0 [] []) (ae' X.s_0 X.H_0 0 [] []) (own.map (·.2))) (agName j)) :=
  ⟨ps_setLc hc hN hy hyl hsw hi.pi ok (fun s H C cl fp => by rw [← eg s H C cl fp]; exact (hg s H C cl fp).pg) (fun s H C cl fp => by rw [← et s H C cl fp]; exact (ht s H C cl fp).pt) (fun s H C cl fp => by rw [← ee s H C cl fp]; exact (he s H C cl fp).pe) hs, ss_asg (se_lc hi.si (hg X.s_0 X.H_0 0 [] []).sg ho (ht X.s_0 X.H_0 0 [] []).st (he X.s_0 X.H_0 0 [] []).se) sg_name⟩
theorem ds_setLcM {g' : BV TG} {ag' : BV aG} {tt' : BV TT} {at'' : BV aT} {te' : BV TE} {ae' : BV aE} {j : Nat} {y : Str} {py spos : Pos} (hc : X.calm = true) (hN : X.N.Nodup) (hy : X.N[j]? = some y) (hyl : X.env.scope.names.lookup y = some .local)
    (hsw : swapsWith (.ListComp elt [⟨tg, iter, ifs, 0⟩] scope pos) (some (.Name y py)) spos.line X.env = pure true) (hi : DI X tg iter wi awi) (ok : BlkOk X.N X.env.scope scope own)
    (hg : ∀ (s : Shared) (H : Hp) (C : Addr) (cl : List (Str × Addr)) (fp : List Addr), DG (X.blk s H scope (compEnvC scope cl C X.env) fp) tg (g' s H C cl fp) (ag' s H C cl fp)) (ht : ∀ (s : Shared) (H : Hp) (C : Addr) (cl : List (Str × Addr)) (fp : List Addr), DTs (X.blk s H scope (compEnvC scope cl C X.env) fp) ifs (tt' s H C cl fp) (at'' s H C cl fp))
    (he : ∀ (s : Shared) (H : Hp) (C : Addr) (cl : List (Str × Addr)) (fp : List Addr), DE (X.blk s H scope (compEnvC scope cl C X.env) fp) elt (te' s H C cl fp) (ae' s H C cl fp)) (ho : OwnM (own.map (·.2)) (g' X.s_0 X.H_0 0 [] [])) (hs : ∀ x, foldedSetIterable iter X.env x = pure x := by intro _; rfl)
    (eg : ∀ s H C cl fp, g' s H C cl fp = g' X.s_0 X.H_0 0 [] [] := by intro _ _ _ _ _; rfl) (et : ∀ s H C cl fp, tt' s H C cl fp = tt' X.s_0 X.H_0 0 [] [] := by intro _ _ _ _ _; rfl) (ee : ∀ s H C cl fp, te' s H C cl fp = te' X.s_0 X.H_0 0 [] [] := by intro _ _ _ _ _; rfl) :
    DS X (.Assign [.Name y py] (.ListComp elt [⟨tg, iter, ifs, 0⟩] scope pos) spos) (tAsg (tLc wi (g' X.s_0 X.H_0 0 [] []) (tt' X.s_0 X.H_0 0 [] []) (te' X.s_0 X.H_0 0 [] []) (own.map (·.2))) (gName j)) (asAsg (aLcM awi (ag' X.s_0 X.H_0 0 [] []) (at'' X.s_0 X.H_0 0 [] []) (ae' X.s_0 X.H_0 0 [] []) (own.map (·.2))) (agName j)) :=
  ⟨ps_setLc hc hN hy hyl hsw hi.pi ok (fun s H C cl fp => by rw [← eg s H C cl fp]; exact (hg s H C cl fp).pg) (fun s H C cl fp => by rw [← et s H C cl fp]; exact (ht s H C cl fp).pt) (fun s H C cl fp => by rw [← ee s H C cl fp]; exact (he s H C cl fp).pe) hs, ss_asg (se_lcM hi.si (hg X.s_0 X.H_0 0 [] []).sg ho (ht X.s_0 X.H_0 0 [] []).st (he X.s_0 X.H_0 0 [] []).se) sg_name⟩
end

/-! ### a def's promise -/
/-- what a value and the objects may be taken for -/
def Cv (K : PySem.W.Frag) (M0 : Mp) (d : D) (M : Mp) (d' : D) (M' : Mp) : Prop := ∀ N0 H0 N H v, Fr M0 N0 H0 M N H → CM K M N H → RelD K N v d → ∃ N', Fr M0 N0 H0 M' N' H ∧ CM K M' N' H ∧ RelD K N' v d'
def Fin (K : PySem.W.Frag) (M0 : Mp) (Q : QD) (d : D) (M : Mp) : Prop := ∃ d' M', Cv K M0 d M d' M' ∧ Q d' M'
section
variable {K : PySem.W.Frag} {M0 M M' : Mp} {d : D} {Q : QD}
theorem cv_refl : Cv K M0 d M d M := fun N0 H0 N H v f c r => ⟨N, f, c, r⟩
theorem Cv.trans {M1 M2 M3 : Mp} {d1 d2 d3 : D} (h : Cv K M0 d1 M1 d2 M2) (h' : Cv K M0 d2 M2 d3 M3) : Cv K M0 d1 M1 d3 M3 := fun N0 H0 N H v f c r => by
  obtain ⟨N1, f1, c1, r1⟩ := h N0 H0 N H v f c r
  exact h' N0 H0 N1 H v f1 c1 r1
theorem cv_sub (s : Sub M' M) : Cv K M0 d M d M' := fun N0 H0 N H v f c r => ⟨N, ⟨f.nn, fun a o h m => by
    obtain ⟨h1, h2⟩ := f.keep a o h m
    exact ⟨h1, s.none h2⟩, f.new, f.dom⟩, ⟨c.sm, fun a x h => c.hm a x (s _ _ h)⟩, r⟩
theorem Fr.h0 {N0 H0 N H : Hp} (f : Fr M0 N0 H0 M N H) {a : Addr} {c : MC} (h : M a = some c) (h0 : M0 a = none) : H0 a = none := by
  cases q : H0 a with
  | none => rfl
  | some o => rw [(f.keep a o q h0).2] at h; cases h
/-- a list of ours stands still from now on -/
theorem cv_list {a : Addr} {ds : List D} (h : M a = some (.lst ds)) (h0 : M0 a = none) : Cv K M0 (.ref a) M (.list ds) (mdel M a) := fun N0 H0 N H v f c r => by
  have e := rel_ref r
  subst e
  obtain ⟨hN, xs, hH, rx⟩ := c.hm a _ h
  have C : CC K ⟨M0, N0, H0⟩ [] M N [] H := ⟨f, c, rfl, fun i d e => by simp at e⟩
  have C2 := C.freeze hN hH (f.h0 h h0)
  exact ⟨_, C2.fr, C2.cm, .list upd_same (rx.mono (same_new hN))⟩
theorem Fin.of (h : Q d M) : Fin K M0 Q d M := ⟨d, M, cv_refl, h⟩
theorem Fin.sub (s : Sub M' M) (h : Q d M') : Fin K M0 Q d M := ⟨d, M', cv_sub s, h⟩
theorem Fin.list {a : Addr} {ds : List D} (h : M a = some (.lst ds)) (h0 : M0 a = none) (s : Sub M' (mdel M a)) (q : Q (.list ds) M') : Fin K M0 Q (.ref a) M := ⟨_, _, (cv_list h h0).trans (cv_sub s), q⟩
end
def startG (N : List Str) (ds : List D) : Gm := ds.map some ++ List.replicate (N.length - ds.length) none
theorem sl_start {K : PySem.W.Frag} {H : Hp} {N : List Str} {vs : List V} {ds : List D} (r : RelL K H vs ds) : Sl K H (startG N ds) (L2.start N vs) := by
  refine ⟨by simp [startG, L2.start, r.length], fun i d e => ?_⟩
  unfold startG at e
  unfold L2.start
  by_cases q : i < ds.length
  · rw [List.getElem?_append_left (by simpa using q), List.getElem?_map] at e
    obtain ⟨d', e1, e2⟩ := Option.map_eq_some_iff.mp e
    cases e2
    obtain ⟨v, h1, h2⟩ := r.getR e1
    exact ⟨v, by rw [List.getElem?_append_left (by simpa [r.length] using q), List.getElem?_map, h1]; rfl, h2⟩
  · rw [List.getElem?_append_right (by simpa using q), List.getElem?_replicate] at e
    split at e <;> cases e
section
variable {P : Program} {w : World} {K : PySem.W.Frag} {mg : Str → Option Value} {base : Heap}
theorem okD {x qual : Str} {st : Stmt} {f : Addr} {fd : FuncData} {N ps : List Str} {k n : Nat} {sp : aSp} (F : Fun K x qual st f fd) (S : FnScope N ps (defScope st)) (hn : n = ps.length)
    (hbody : ∀ (cdv : Value) (A : Around) (outer : List Env) (s : Shared) (H : Hp) (E : XK), Room k (A.deeper (envOfC qual (defScope st) s.heap.objs.size f cdv)) →
      ∃ ts as, DSs (cxOf CX0 P w K mg base N qual (defScope st) f cdv A outer s H E).nox (defBody st) ts as ∧ ∀ ds M Q, ds.length = n → sp ds M Q → as { m0 := M, nx := fun _ M' => Fin K M Q .non M', rt := Fin K M Q } (startG N ds) M) :
    FnOk P w K mg base CX0 (k + 1) f fd ps (lift K n sp) := by
  refine F.ok S (fun vs H Q E h => ?_) (fun cdv A outer s H vs Q E hr h => ?_)
  · obtain ⟨ds, M, N, Q', hl, _, r, _⟩ := h
    rw [r.length, hl, hn]
  · obtain ⟨ts, as, hd, hb⟩ := hbody cdv A outer s H E hr
    obtain ⟨ds, M, N', Q', hl, cm, r, hsp, k⟩ := h
    refine ⟨ts, hd.ps, hd.ss ⟨M, N', H⟩ _ M N' _ H ⟨.refl, cm, sl_start r⟩ _ _ rfl (hb ds M Q' hl hsp) ⟨?_, ?_, ?_, ?_⟩⟩
    · rintro G' M' N2 σ' H' ⟨d', M2, cv, q⟩ C' s'
      obtain ⟨N3, f3, c3, r3⟩ := cv _ _ _ _ V.non C'.fr C'.cm .non
      exact k _ _ _ _ _ q f3 c3 r3
    · rintro d v G' M' N2 σ' H' ⟨d', M2, cv, q⟩ C' s' r'
      obtain ⟨N3, f3, c3, r3⟩ := cv _ _ _ _ v C'.fr C'.cm r'
      exact k _ _ _ _ _ q f3 c3 r3
    · exact fun _ _ _ _ _ z _ _ => z.elim
    · exact fun _ _ _ _ _ z _ _ => z.elim
end
end DL

set_option Elab.async false
set_option linter.all false
set_option maxRecDepth 100000
namespace DL
open PySem PySem.Spec PyProof.Rows L2
/-! ### max, min of a tuple of ints -/
section
variable {prog : Program} {w : World} {A : Around} {E : Value → Shared → Prop} {s : Shared} {l : Addr} {its : List Value} {ns : List Int} {Q : Value → Shared → Prop}
theorem tup_old {xs : Array (Int × Tok)} {h' : Heap} (hk : ∀ b o, b ∉ [s.heap.objs.size] → (s.heap.push { cls := .type "tuple_iterator", data := .fields #[.ref l, .int 0 0] }).get? b = some o → h'.get? b = some o) :
    ∀ b o, s.heap.get? b = some o → h'.get? b = some o := fun b o e =>
  hk b o (fun hm => absurd (List.mem_singleton.mp hm ▸ Heap.lt_size e) (Nat.lt_irrefl _)) (Heap.get?_push_of_some _ e)
theorem tup_fp {l : Addr} (hlt : l < s.heap.objs.size) {o : Obj} : ∀ b ∈ [s.heap.objs.size, l], b < (s.heap.push o).objs.size := fun b hb => by
  rw [Heap.size_push]
  rcases List.mem_cons.mp hb with rfl | hb
  · exact Nat.lt_succ_self _
  · rw [List.mem_singleton.mp hb]; exact Nat.lt_succ_of_lt hlt
theorem max_tup {xs : Array (Int × Tok)} (hh : A.handled = none) (hl : s.heap.IsTuple l (intItems xs)) (hne : 0 < xs.size)
    (h : ∀ v h' tk, (intItems xs)[argBest (fun i j => decide (numAt xs i > numAt xs j)) (xs.size - 1)]? = some v → (∀ b o, s.heap.get? b = some o → h'.get? b = some o) → Q v { s with heap := h', toks := tk }) :
    wpAny (model prog w) A (call (.builtin "max") [.ref l]) Q E s := by
  have hlt : l < s.heap.objs.size := by obtain ⟨_, e, _⟩ := hl; exact Heap.lt_size e
  refine call_max_walk (wpAny_pyIter_tuple hl ?_)
  exact ⟨_, _, _, _, _, _, _, rfl, Walks.tuple (A := A.in1) hh _ l (Nat.ne_of_lt hlt) (intItems xs), ⟨⟨_, Heap.get?_push_size _ rfl, rfl, rfl⟩, hl.push _⟩, tup_fp hlt, by simpa [intItems] using hne, CmpOf.ints_gt (numAt xs) (fun _ _ => intItems_at),
    fun v h' tk hP hk => h v h' tk (by simpa [intItems] using hP) (tup_old (xs := xs) hk)⟩
theorem min_tup {xs : Array (Int × Tok)} (hh : A.handled = none) (hl : s.heap.IsTuple l (intItems xs)) (hne : 0 < xs.size)
    (h : ∀ v h' tk, (intItems xs)[argBest (fun i j => decide (numAt xs i < numAt xs j)) (xs.size - 1)]? = some v → (∀ b o, s.heap.get? b = some o → h'.get? b = some o) → Q v { s with heap := h', toks := tk }) :
    wpAny (model prog w) A (call (.builtin "min") [.ref l]) Q E s := by
  have hlt : l < s.heap.objs.size := by obtain ⟨_, e, _⟩ := hl; exact Heap.lt_size e
  refine call_min_walk (wpAny_pyIter_tuple hl ?_)
  exact ⟨_, _, _, _, _, _, _, rfl, Walks.tuple (A := A.in1) hh _ l (Nat.ne_of_lt hlt) (intItems xs), ⟨⟨_, Heap.get?_push_size _ rfl, rfl, rfl⟩, hl.push _⟩, tup_fp hlt, by simpa [intItems] using hne, CmpOf.ints_lt (numAt xs) (fun _ _ => intItems_at),
    fun v h' tk hP hk => h v h' tk (by simpa [intItems] using hP) (tup_old (xs := xs) hk)⟩
theorem maxT_raw (hh : A.handled = none) (hl : s.heap.IsTuple l its.toArray) (hi : IntsAre its ns) (hne : 0 < ns.length)
    (h : ∀ h' tk M t', (∀ b o, s.heap.get? b = some o → h'.get? b = some o) → M ∈ ns → (∀ a, a ∈ ns → a ≤ M) → Q (.int M t') { s with heap := h', toks := tk }) : wpAny (model prog w) A (call (.builtin "max") [.ref l]) Q E s := by
  obtain ⟨xs, e⟩ := hi.allInts.items
  have hn : numsOf (intItems xs).toList = ns := by rw [← e]; exact hi.numsOf
  rw [nums_intItems] at hn
  subst hn
  rw [e] at hl
  have hsz : 0 < xs.size := by simpa using hne
  refine max_tup hh hl hsz fun v h' tk hv hk => ?_
  obtain ⟨t, rfl⟩ := intItems_at hv
  obtain ⟨h1, h2⟩ := argBest_gt (numAt xs) (xs.size - 1)
  refine h h' tk _ t hk ?_ fun a ha => ?_
  · rw [numAt_eq]
    exact PySem.getD_mem (by rw [List.length_map, Array.length_toList]; omega)
  · obtain ⟨j, hj, rfl⟩ := mem_getD ha
    simp at hj
    rw [← numAt_eq]
    exact h2 j (by omega)
theorem minT_raw (hh : A.handled = none) (hl : s.heap.IsTuple l its.toArray) (hi : IntsAre its ns) (hne : 0 < ns.length)
    (h : ∀ h' tk M t', (∀ b o, s.heap.get? b = some o → h'.get? b = some o) → M ∈ ns → (∀ a, a ∈ ns → M ≤ a) → Q (.int M t') { s with heap := h', toks := tk }) : wpAny (model prog w) A (call (.builtin "min") [.ref l]) Q E s := by
  obtain ⟨xs, e⟩ := hi.allInts.items
  have hn : numsOf (intItems xs).toList = ns := by rw [← e]; exact hi.numsOf
  rw [nums_intItems] at hn
  subst hn
  rw [e] at hl
  have hsz : 0 < xs.size := by simpa using hne
  refine min_tup hh hl hsz fun v h' tk hv hk => ?_
  obtain ⟨t, rfl⟩ := intItems_at hv
  obtain ⟨h1, h2⟩ := argBest_lt (numAt xs) (xs.size - 1)
  refine h h' tk _ t hk ?_ fun a ha => ?_
  · rw [numAt_eq]
    exact PySem.getD_mem (by rw [List.length_map, Array.length_toList]; omega)
  · obtain ⟨j, hj, rfl⟩ := mem_getD ha
    simp at hj
    rw [← numAt_eq]
    exact h2 j (by omega)
end
section
variable {X : Cx} {K : PySem.W.Frag} {e a b c o : Expr} {es : List Expr} {te ta tb tc to : TE} {t : TA} {ae aa ab ac ao : aE} {at1 : aA} {pos : Pos}
def rMaxT (K : PySem.W.Frag) : List V → Hp → VK → Prop := fun vs H Q => ∃ (a : Addr) (ns : List Int), vs = [V.ref a] ∧ SqT K H a (ns.map V.int) ∧ 0 < ns.length ∧ ∀ m, m ∈ ns → (∀ y, y ∈ ns → y ≤ m) → Q (.int m) H
def rMinT (K : PySem.W.Frag) : List V → Hp → VK → Prop := fun vs H Q => ∃ (a : Addr) (ns : List Int), vs = [V.ref a] ∧ SqT K H a (ns.map V.int) ∧ 0 < ns.length ∧ ∀ m, m ∈ ns → (∀ y, y ∈ ns → m ≤ y) → Q (.int m) H
theorem cr_maxT (hc : X.calm = true) : CallR X (.builtin "max") (rMaxT X.K) := by
  intro pins s σ H vs us Q I r h
  obtain ⟨a, ns, rfl, hs, hne, q⟩ := h
  obtain ⟨its, rv, hl, _⟩ := I.tuple hs
  rw [Vals.ref1 r]
  exact maxT_raw (I.ok.hd hc) (show s.heap.IsTuple a its.toArray from hl) rv.ints hne fun h' tk m t' hk h1 h2 => ⟨.int _, H, I.kept hk, ⟨_, rfl⟩, q m h1 h2⟩
theorem cr_minT (hc : X.calm = true) : CallR X (.builtin "min") (rMinT X.K) := by
  intro pins s σ H vs us Q I r h
  obtain ⟨a, ns, rfl, hs, hne, q⟩ := h
  obtain ⟨its, rv, hl, _⟩ := I.tuple hs
  rw [Vals.ref1 r]
  exact minT_raw (I.ok.hd hc) (show s.heap.IsTuple a its.toArray from hl) rv.ints hne fun h' tk m t' hk h1 h2 => ⟨.int _, H, I.kept hk, ⟨_, rfl⟩, q m h1 h2⟩
def fMaxT : VL := fun ds M Q => match ds with
  | [d] => isL d = false ∧ (match (items d).bind intsD with | some bs => 0 < bs.length ∧ ∀ m, m ∈ bs → (∀ y, y ∈ bs → y ≤ m) → Q (.int m) M | none => False)
  | _ => False
def fMinT : VL := fun ds M Q => match ds with
  | [d] => isL d = false ∧ (match (items d).bind intsD with | some bs => 0 < bs.length ∧ ∀ m, m ∈ bs → (∀ y, y ∈ bs → m ≤ y) → Q (.int m) M | none => False)
  | _ => False
theorem sl_maxT : SL K (rMaxT K) fMaxT := by
  intro E G M N σ H C xs ds rx Q Qc h k
  unfold fMaxT at h
  split at h
  · obtain ⟨v, rfl, r⟩ := rel1 rx
    obtain ⟨h0, h⟩ := h
    split at h
    · rename_i bs hb
      obtain ⟨ys, hi, hb⟩ := Option.bind_eq_some_iff.mp hb
      obtain ⟨a, vs, rfl, r2, h4⟩ := rel_items r hi
      rw [h0] at h4
      have e := ints_rel r2 hb
      subst e
      rcases h4 with ⟨e, _⟩ | ⟨_, h4⟩
      · cases e
      · exact ⟨a, bs, rfl, same_seqT C.cm.sm h4, h.1, fun m h1 h2 => k.at C (h.2 m h1 h2) (.int _)⟩
    · exact h.elim
  · exact h.elim
theorem sl_minT : SL K (rMinT K) fMinT := by
  intro E G M N σ H C xs ds rx Q Qc h k
  unfold fMinT at h
  split at h
  · obtain ⟨v, rfl, r⟩ := rel1 rx
    obtain ⟨h0, h⟩ := h
    split at h
    · rename_i bs hb
      obtain ⟨ys, hi, hb⟩ := Option.bind_eq_some_iff.mp hb
      obtain ⟨a, vs, rfl, r2, h4⟩ := rel_items r hi
      rw [h0] at h4
      have e := ints_rel r2 hb
      subst e
      rcases h4 with ⟨e, _⟩ | ⟨_, h4⟩
      · cases e
      · exact ⟨a, bs, rfl, same_seqT C.cm.sm h4, h.1, fun m h1 h2 => k.at C (h.2 m h1 h2) (.int _)⟩
    · exact h.elim
  · exact h.elim

/-! ### chains -/
def aChain (f g : V2) (x y z : aE) : aE := fun G M Q => x G M fun d M1 => y G M1 fun e M2 => f d e M2 fun r M3 => match r with
  | .bl k => if k = true then z G M3 fun w M4 => g e w M4 Q else Q (.bl false) M3
  | _ => False
theorem se_chain {r r' : R2} {f g : V2} (hr : S2 K r f) (hr' : S2 K r' g) (ha : SE K ta aa) (hb : SE K tb ab) (hc : SE K tc ac) : SE K (tChain r r' ta tb tc) (aChain f g aa ab ac) := by
  intro E G M N σ H C Q Qc h k
  refine ha E G M N σ H C _ _ h fun d v M1 N1 H1 h1 C1 s1 r1 => ?_
  refine hb E G M1 N1 σ H1 C1 _ _ h1 fun e u M2 N2 H2 h2 C2 s2 r2 => ?_
  refine hr E G M2 N2 σ H2 C2 v u d e (r1.mono s2) r2 _ _ h2 fun z zv M3 N3 H3 h3 C3 s3 r3 => ?_
  split at h3
  · rename_i kk
    cases r3
    refine ⟨kk, rfl, ?_⟩
    cases kk with
    | true =>
      rw [if_pos rfl] at h3 ⊢
      refine hc E G M3 N3 σ H3 C3 _ _ h3 fun w wv M4 N4 H4 h4 C4 s4 r4 => ?_
      exact hr' E G M4 N4 σ H4 C4 u wv e w ((r2.mono s3).mono s4) r4 Q Qc h4 (k.from (s1.trans (s2.trans (s3.trans s4))))
    | false =>
      rw [if_neg Bool.false_ne_true] at h3 ⊢
      exact (k.from (s1.trans (s2.trans s3))).at C3 h3 (.bl _)
  · exact h3.elim
theorem de_chain {op op' : CmpOp} {r r' : R2} {f g : V2} (ho : OpR X (compareOp op) r) (hs : S2 X.K r f) (ho' : OpR X (compareOp op') r') (hs' : S2 X.K r' g) (ha : DE X a ta aa) (hb : DE X b tb ab) (hc : DE X c tc ac)
    (hm : lastMarks [op, op'] [b, c] = false := by with_unfolding_all rfl) : DE X (.Compare a [op, op'] [b, c] pos) (tChain r r' ta tb tc) (aChain f g aa ab ac) := ⟨pe_chain ho ho' ha.pe hb.pe hc.pe hm, se_chain hs hs' ha.se hb.se hc.se⟩
theorem dt_chain {op op' : CmpOp} {r r' : R2} {f g : V2} (ho : OpR X (compareOp op) r) (hs : S2 X.K r f) (ho' : OpR X (compareOp op') r') (hs' : S2 X.K r' g) (ha : DE X a ta aa) (hb : DE X b tb ab) (hc : DE X c tc ac)
    (hm : lastMarks [op, op'] [b, c] = false := by with_unfolding_all rfl) : DT X (.Compare a [op, op'] [b, c] pos) (tTest (tChain r r' ta tb tc)) (aTest (aChain f g aa ab ac)) := ⟨pt_chain ho ho' ha.pe hb.pe hc.pe hm, st_test (se_chain hs hs' ha.se hb.se hc.se)⟩

/-! ### slices -/
abbrev aO := Gm → Mp → (Option Int → Mp → Prop) → Prop
def SO (K : PySem.W.Frag) (to : TO) (ao : aO) : Prop := ∀ E G M N σ H, CC K E G M N σ H → ∀ (Q : Option Int → Mp → Prop) (Qc : Option Int → Hp → Prop), ao G M Q → (∀ o M' N' H', Q o M' → CC K E G M' N' σ H' → Same N N' → Qc o H') → to σ H Qc
structure DO (X : Cx) (e : Option Expr) (to : TO) (ao : aO) : Prop where
  po : PO X e to
  so : SO X.K to ao
def aoNone : aO := fun _ M Q => Q none M
def aoSome (x : aE) : aO := fun G M Q => x G M fun d M1 => match d with | .int i => Q (some i) M1 | _ => False
theorem do_none : DO X none tNoPart aoNone := ⟨po_none, fun E G M N σ H C Q Qc q k => k none M N H q C (Same.refl N)⟩
theorem do_some (h : DE X e te ae) : DO X (some e) (tPart te) (aoSome ae) := ⟨po_some h.pe, by
  intro E G M N σ H C Q Qc q k
  refine h.se E G M N σ H C _ _ q fun d v M1 N1 H1 h1 C1 s1 r1 => ?_
  split at h1
  · cases r1
    exact ⟨_, rfl, k _ M1 N1 H1 h1 C1 s1⟩
  · exact h1.elim⟩
def cutD (xs : List D) (lo hi : Option Int) : List D := (xs.drop (HT.sIx xs.length 0 lo)).take (HT.sIx xs.length xs.length hi - HT.sIx xs.length 0 lo)
/-- a slice of a list (a new list), of a text, of a tuple (not the whole of it: that one is the tuple itself) -/
def fSl (d : D) (lo hi : Option Int) (M : Mp) (Q : QD) : Prop := match d with
  | .str z => z.length ≤ 1000000 ∧ Q (.str (cutS z lo hi)) M
  | d => (match itemsM M d with
    | some xs => if isLM d = true then Q (.list (cutD xs lo hi)) M else ¬ (HT.sIx xs.length 0 lo = 0 ∧ HT.sIx xs.length xs.length hi = xs.length) ∧ Q (.tup (cutD xs lo hi)) M
    | none => False)
def fSlM (d : D) (lo hi : Option Int) (M : Mp) (Q : QD) : Prop := match itemsM M d with
  | some xs => isLM d = true ∧ ∀ p, M p = none → Q (.ref p) (mupd M p (.lst (cutD xs lo hi)))
  | none => False
def rSlA (K : PySem.W.Frag) : V → Option Int → Option Int → Hp → VK → Prop := fun x lo hi H Q => rSlL K x lo hi H Q ∨ (fun x lo hi H Q => rSlT K x lo hi H Q ∨ rSlS x lo hi H Q) x lo hi H Q
theorem sl_anyS : SlR X (rSlA X.K) := SlR.or L2.sl_list (SlR.or sl_tup sl_str)
abbrev aSl (f : D → Option Int → Option Int → Mp → QD → Prop) (x : aE) (l u : aO) : aE := fun G M Q => x G M fun d M1 => l G M1 fun lo M2 => u G M2 fun hi M3 => f d lo hi M3 Q
def S3 (K : PySem.W.Frag) (r : V → Option Int → Option Int → Hp → VK → Prop) (f : D → Option Int → Option Int → Mp → QD → Prop) : Prop := ∀ E G M N σ H, CC K E G M N σ H → ∀ x d lo hi, RelD K N x d → ∀ Q Qc, f d lo hi M Q → Co K E G N σ Q Qc → r x lo hi H Qc
theorem se_sl {r : V → Option Int → Option Int → Hp → VK → Prop} {f : D → Option Int → Option Int → Mp → QD → Prop} {tl th : TO} {al ah : aO} (hr : S3 K r f) (h : SE K te ae) (h1 : SO K tl al) (h2 : SO K th ah) : SE K (tSl r te tl th) (aSl f ae al ah) := by
  intro E G M N σ H C Q Qc q k
  refine h E G M N σ H C _ _ q fun d v M1 N1 H1 q1 C1 s1 r1 => ?_
  refine h1 E G M1 N1 σ H1 C1 _ _ q1 fun lo M2 N2 H2 q2 C2 s2 => ?_
  refine h2 E G M2 N2 σ H2 C2 _ _ q2 fun hi M3 N3 H3 q3 C3 s3 => ?_
  exact hr E G M3 N3 σ H3 C3 v d lo hi ((r1.mono s2).mono s3) Q Qc q3 (k.from (s1.trans (s2.trans s3)))
theorem s3_sl : S3 K (rSlA K) fSl := by
  intro E G M N σ H C x d lo hi rx Q Qc h k
  unfold fSl at h
  split at h
  · cases rx
    exact .inr (.inr ⟨_, rfl, big_le h.1, k.at C h.2 (.str _)⟩)
  · split at h
    · rename_i xs hx
      obtain ⟨p, vs, rfl, r2, h4⟩ := rel_itemsM C.cm rx hx
      rcases h4 with ⟨e4, h4⟩ | ⟨e4, h4⟩
      · rw [e4, if_pos rfl] at h
        exact .inl ⟨p, vs, rfl, h4, fun q hq => k.new C hq h fun N' s e => .list e ((r2.cut lo hi).mono s)⟩
      · rw [e4, if_neg Bool.false_ne_true] at h
        refine .inr (.inl ⟨p, vs, rfl, h4, by rw [r2.length]; exact h.1, fun q hq => k.new C hq h.2 fun N' s e => .tup e ((r2.cut lo hi).mono s)⟩)
    · exact h.elim
theorem s3_slM : S3 K (rSlA K) fSlM := by
  intro E G M N σ H C x d lo hi rx Q Qc h k
  unfold fSlM at h
  split at h
  · rename_i xs hx
    obtain ⟨p, vs, rfl, r2, h4⟩ := rel_itemsM C.cm rx hx
    rcases h4 with ⟨e4, h4⟩ | ⟨e4, h4⟩
    · exact .inl ⟨p, vs, rfl, h4, fun q hq => k.newM C hq (hasL upd_same (r2.cut lo hi)) (h.2 q (C.cm.noneM hq))⟩
    · rw [e4] at h; cases h.1
  · exact h.elim
variable {lo hi : Option Expr} {tl th : TO} {al ah : aO} {p2 : Pos}
theorem de_slice (he : DE X e te ae) (hl : DO X lo tl al) (hu : DO X hi th ah) : DE X (.Subscript e (.Slice lo hi none p2) pos) (tSl (rSlA X.K) te tl th) (aSl fSl ae al ah) := ⟨pe_slice sl_anyS he.pe hl.po hu.po, se_sl s3_sl he.se hl.so hu.so⟩
theorem de_sliceM (he : DE X e te ae) (hl : DO X lo tl al) (hu : DO X hi th ah) : DE X (.Subscript e (.Slice lo hi none p2) pos) (tSl (rSlA X.K) te tl th) (aSl fSlM ae al ah) := ⟨pe_slice sl_anyS he.pe hl.po hu.po, se_sl s3_slM he.se hl.so hu.so⟩

/-! ### isinstance -/
def tyIs (t n : String) : Bool := t == n || (t == "bool" && n == "int")
theorem kitB_is : ∀ t ∈ ["NoneType", "bool", "int", "str", "list", "tuple", "dict"], ∀ n ∈ ["bool", "int", "str", "list", "tuple", "dict"], kitB t n = some (tyIs t n) := by decide +kernel
/-- an instance of an own class: what isinstance by a built-in type says of it -/
structure ObT (K : PySem.W.Frag) (C : Addr) : Prop where
  cl : Cls K C
  ha : PySem.W.findIn K (.ref C) "__class__" = some (some (.builtin "object.__class__"))
  hn : PySem.W.specialIn K (.builtin "object.__class__") "__get__" = some (some (.builtin "getset_descriptor.__get__"))
  htk : PySem.W.takesIn K (.builtin "object.__class__") = some true
  hm : PySem.W.mroIn K C (.type "object") = some true
  no : ∀ n ∈ ["bool", "int", "str", "list", "tuple", "dict"], PySem.W.kitOne K (.ref C) (.type n) = some false
def tyNames : List String := ["bool", "int", "str", "list", "tuple", "dict"]
def isiD (K : PySem.W.Frag) (M : Mp) (d : D) (n : String) (Q : Bool → Prop) : Prop := n ∈ tyNames ∧ (match d with
  | .obj C _ => ObT K C ∧ Q false
  | d => (match tyD M d with | some t => Q (tyIs t n) | none => False))
theorem ty_rel {M : Mp} {N H : Hp} {v : V} {d : D} {t : String} (c : CM K M N H) (r : RelD K N v d) (h : tyD M d = some t) : TyX K H v (.type t) ∧ t ∈ ["NoneType", "bool", "int", "str", "list", "tuple", "dict"] := by
  have seqL : ∀ {a xs}, SqL K H a xs → TyX K H (.ref a) (.type "list") := fun {a xs} h => by
    rcases h with (h | ⟨o, h⟩) | ⟨o, its, n, h1, h2, _⟩
    · exact .base (.lst h)
    · exact .base (.frz h)
    · exact .kList h1 h2
  have seqT : ∀ {a xs}, SqT K H a xs → TyX K H (.ref a) (.type "tuple") := fun {a xs} h => by
    rcases h with (h | ⟨o, h⟩) | ⟨o, its, n, h1, h2, _⟩
    · exact .base (.tup h)
    · exact .fTuple h
    · exact .kTuple h1 h2
  cases r <;> simp only [tyD] at h
  case non => cases h; exact ⟨.base .non, by decide⟩
  case bl => cases h; exact ⟨.base (.bl _), by decide⟩
  case int => cases h; exact ⟨.base (.int _), by decide⟩
  case str => cases h; exact ⟨.base (.str _), by decide⟩
  case ty => cases h
  case list h1 r1 => cases h; exact ⟨.base (.lst (c.sm _ _ h1)), by decide⟩
  case rol h1 r1 => cases h; exact ⟨seqL (c.sm.seq h1), by decide⟩
  case tup h1 r1 => cases h; exact ⟨.base (.tup (c.sm _ _ h1)), by decide⟩
  case rot h1 r1 => cases h; exact ⟨seqT (same_seqT c.sm h1), by decide⟩
  case obj => cases h
  case dK h1 r1 => cases h; exact ⟨.base (.dK (c.sm _ _ h1)), by decide⟩
  case dT h1 r1 => cases h; exact ⟨.base (.dT (c.sm _ _ h1)), by decide⟩
  case ref a =>
    split at h
    · rename_i e
      cases h
      obtain ⟨xs, h1, _⟩ := c.lst e
      exact ⟨.base (.lst h1), by decide⟩
    · rename_i e
      cases h
      obtain ⟨xs, h1, _⟩ := c.dKs e
      exact ⟨.base (.dK h1), by decide⟩
    · rename_i e
      cases h
      obtain ⟨xs, h1, _⟩ := c.dTs e
      exact ⟨.base (.dT h1), by decide⟩
    · cases h
/-- the type and isinstance's answers for every built-in class -/
theorem isi_rel {M : Mp} {N H : Hp} {v : V} {d : D} {n : String} {Q : Bool → Prop} (c : CM K M N H) (r : RelD K N v d) (h : isiD K M d n Q) : ∃ t b, TyX K H v t ∧ PySem.W.kitOne K t (.type n) = some b ∧ Q b := by
  obtain ⟨hn, h⟩ := h
  split at h
  · obtain ⟨a, dx, fs, rfl, h1, r1⟩ := rel_obj r
    exact ⟨_, false, .base (.ins (c.sm _ _ h1) h.1.cl h.1.ha h.1.hn h.1.htk h.1.hm), h.1.no n hn, h.2⟩
  · split at h
    · rename_i t ht
      obtain ⟨h1, h2⟩ := ty_rel c r ht
      exact ⟨_, _, h1, kit_ty (kitB_is t h2 n hn), h⟩
    · exact h.elim
def fIsi (K : PySem.W.Frag) : VL := fun ds M Q => match ds with
  | [d, .ty n] => isiD K M d n fun b => Q (.bl b) M
  | _ => False
theorem sl_isi : SL K (rIsi K) (fIsi K) := by
  intro E G M N σ H C xs ds rx Q Qc h k
  unfold fIsi at h
  split at h
  · rename_i d n
    obtain ⟨v, w, rfl, r, r2⟩ := rel2 rx
    cases r2
    obtain ⟨t, b, h1, h2, h3⟩ := isi_rel C.cm r h
    exact ⟨v, .ty n, t, .type n, b, rfl, .ty n, h1, h2, k.at C h3 (.bl _)⟩
  · exact h.elim
def tysOf : List D → Option (List String)
  | [] => some []
  | .ty n :: r => (tysOf r).map (n :: ·)
  | _ :: _ => none
theorem tys_rel {N : Hp} : ∀ {vs : List V} {ds : List D} {ns : List String}, RelL K N vs ds → tysOf ds = some ns → vs = ns.map V.ty
  | _, _, ns, .nil, h => by simp [tysOf] at h; subst h; rfl
  | _, _, ns, .cons h1 r, h => by
    cases h1 <;> simp [tysOf] at h
    obtain ⟨ns', h2, rfl⟩ := h
    rw [tys_rel r h2]
    rfl
/-- isinstance(x, (T, ..)) by built-in types -/
def fIsiT (K : PySem.W.Frag) : VL := fun ds M Q => match ds with
  | [d, .tup ts] => (match tysOf ts with
    | some ns => ns.all (fun n => tyNames.contains n) = true ∧ (match d with
      | .obj C _ => ObT K C ∧ Q (.bl false) M
      | d => (match tyD M d with | some t => Q (.bl (ns.any fun n => tyIs t n)) M | none => False))
    | none => False)
  | _ => False
theorem clsVs : ∀ ns : List String, Paired ClsV (ns.map V.ty) (ns.map Value.type)
  | [] => .nil
  | n :: ns => .cons (.ty n) (clsVs ns)
theorem kitAny_tys {t : Value} {f : String → Bool} : ∀ (ns : List String), (∀ n ∈ ns, PySem.W.kitOne K t (.type n) = some (f n)) → PySem.W.kitAny K t (ns.map Value.type) = some (ns.any f)
  | [], _ => kitAny_nil
  | n :: ns, h => by
    refine kitAny_cons (h n (by simp)) (fun e => ?_) (fun e => by simp [e])
    rw [List.any_cons, e, Bool.false_or]
    exact kitAny_tys ns fun m hm => h m (by simp [hm])
theorem sl_isiT : SL K (rIsiT K) (fIsiT K) := by
  intro E G M N σ H C xs ds rx Q Qc h k
  unfold fIsiT at h
  split at h
  · rename_i d ts
    obtain ⟨v, w, rfl, r, r2⟩ := rel2 rx
    obtain ⟨a, cs, rfl, h1, r1⟩ := rel_tup r2
    split at h
    · rename_i ns hns
      have e := tys_rel r1 hns
      subst e
      obtain ⟨hall, h⟩ := h
      have hall' : ∀ n ∈ ns, n ∈ tyNames := fun n hn => by
        have := List.all_eq_true.mp hall n hn
        simpa using this
      split at h
      · obtain ⟨b, dx, fs, rfl, h2, r3⟩ := rel_obj r
        obtain ⟨ho, h⟩ := h
        refine ⟨_, a, _, _, _, false, rfl, C.cm.sm _ _ h1, clsVs ns, .base (.ins (C.cm.sm _ _ h2) ho.cl ho.ha ho.hn ho.htk ho.hm), ?_, k.at C h (.bl _)⟩
        rw [kitAny_tys (f := fun _ => false) ns fun n hn => ho.no n (hall' n hn)]
        simp
      · split at h
        · rename_i t ht
          obtain ⟨h3, h4⟩ := ty_rel C.cm r ht
          exact ⟨v, a, _, _, _, _, rfl, C.cm.sm _ _ h1, clsVs ns, h3, kitAny_tys ns fun n hn => kit_ty (kitB_is t h4 n (hall' n hn)), k.at C h (.bl _)⟩
        · exact h.elim
    · exact h.elim
  · exact h.elim
end
end DL

set_option Elab.async false
set_option linter.all false
set_option maxRecDepth 100000
namespace DL
open PySem PySem.Spec PyProof.Rows L2
/-! ### dict displays -/
def mergeT (kvs more : List (List Key × V)) : List (List Key × V) := more.foldl (fun acc kv => putK acc kv.1 kv.2) kvs
theorem length_mergeT : ∀ (more kvs : List (List Key × V)), (mergeT kvs more).length ≤ kvs.length + more.length
  | [], kvs => by simp [mergeT]
  | (k, v) :: more, kvs => by
    have h := length_mergeT more (putK kvs k v)
    have h2 := length_putK kvs k v
    show (mergeT (putK kvs k v) more).length ≤ _
    rw [List.length_cons]
    omega
/-- the pairs of a display, their keys tuples that stand -/
inductive PairsT (H : Hp) : List (V × V) → List (List Key × V) → Prop
  | nil : PairsT H [] []
  | cons {b : Addr} {k : List Key} {v : V} {ps : List (V × V)} {kvs : List (List Key × V)} : H b = some (.tup (k.map kV)) → PairsT H ps kvs → PairsT H ((.ref b, v) :: ps) ((k, v) :: kvs)
theorem PairsT.length {H : Hp} : ∀ {ps : List (V × V)} {kvs : List (List Key × V)}, PairsT H ps kvs → ps.length = kvs.length
  | _, _, .nil => rfl
  | _, _, .cons _ r => by simp [PairsT.length r]
theorem pairsT_carry {P : Program} {w : World} {H : Hp} {h : Heap} (ok : HOk P w H h) : ∀ {ps : List (V × V)} {kvs : List (List Key × V)} {ws : List (Value × Value)}, PairsT H ps kvs → VV ps ws →
    ∃ xs : List (List Key × Addr × Value), CarriesH (tupleKind (mixKind P w)) h ws xs ∧ KT H kvs xs
  | _, _, _, .nil, .nil => ⟨[], trivial, .nil⟩
  | _, _, _, .cons (b := b) (k := k) hb r, .cons (b := q) (l₂ := qs) hq rq => by
    obtain ⟨xs, c, t⟩ := pairsT_carry ok r rq
    obtain ⟨kv, vv⟩ := q
    obtain ⟨h1, h2⟩ := hq
    obtain rfl : kv = Value.ref b := h1
    exact ⟨(k, b, vv) :: xs, ⟨rfl, rfl, key_of ok hb, c⟩, .cons ⟨rfl, hb, h2⟩ t⟩
theorem KT.all {H : Hp} : ∀ {more : List (List Key × V)} {xs : List (List Key × Addr × Value)} {kvs : List (List Key × V)} {ys : List (List Key × Addr × Value)}, KT H more xs → KT H kvs ys → KT H (mergeT kvs more) (storedAllH ys xs)
  | _, _, _, _, .nil, r => r
  | _, _, kvs, ys, .cons (a := p) (b := q) (l₁ := more) (l₂ := xs) h t, r => by
    obtain ⟨k, v⟩ := p
    obtain ⟨k', b, u⟩ := q
    obtain ⟨rfl, hb, hv⟩ := h
    exact KT.all (kvs := putK kvs k v) (ys := storedH ys k b u) t (KT.put r k hb hv)
def tDispT (trs : List (TE × TE)) : TE := fun σ H Q => ∀ p, H p = none → tPairs trs σ (upd H p (.dT [])) fun ps H2 => H2 p = some (.dT []) ∧ ∃ kvs : List (List Key × V), PairsT H2 ps kvs ∧ kvs.length ≤ 15 ∧ Q (.ref p) (upd H2 p (.dT (mergeT [] kvs)))
theorem pe_dispT {X : Cx} {pos : Pos} {keys : List (Option Expr)} {values : List Expr} {trs : List (TE × TE)} (hu : X.A.units + 1 < cLine) (h : PPs X pos keys values trs) (hall : keys.all (·.isSome) = true := by rfl) (hl : keys.length = values.length := by rfl) (h0 : keys ≠ [] := by simp)
    (h15 : keys.length ≤ 15 := by decide) : PE X (.Dict keys values pos) (tDispT trs) := by
  refine ⟨fun pins s σ H Q I q => ?_⟩
  have hn := I.hok.fresh (Nat.le_refl s.heap.objs.size)
  have I1 := I.laid (a := s.heap.objs.size) (o := .dT []) (h' := s.heap.push { cls := .type "dict", data := .dict #[] }) (t' := s.toks) (fun _ _ q => Heap.get?_push_of_some _ q) (Nat.le_refl _) (dt_empty s.heap I.big)
  have hlen := pairTrees_length keys values X.env pos hall hl
  rw [arm_eval_Dict, zip_pairTrees keys values X.env pos hall hl, dictDisplay_pairs _ (fun e => h0 (List.length_eq_zero_iff.mp (by rw [← hlen, e]; rfl))) (by omega)]
  refine wpAny_bind (wpAny_standAt (wpAny_bind (wpAny_subDictH (knd := tupleKind (mixKind X.prog X.w)) (Q := fun d s' => wpAny (model X.prog X.w) X.A (pure (Value.ref d)) (EP X pins σ Q) X.xe s') (show X.A.units < cLine by omega) (by omega) ?_)))
  refine thn (h.run pins _ σ _ _ I1 (q _ hn)) fun ws s2 ⟨ps, H2, I2, rel, e, kvs, ep, lk, q2⟩ => ?_
  obtain ⟨xs, c, rk⟩ := pairsT_carry I2.hok ep rel
  obtain ⟨z, hd, ys, r0, dd⟩ := dt_of I2.hok e
  cases r0
  refine ⟨xs, c, dd, fun h' tk dd' hs => wpAny_pure ⟨.ref s.heap.objs.size, _, ?_, rfl, q2⟩⟩
  have hz : (mergeT [] kvs).length ≤ sizeLine := by
    have h1 := length_mergeT kvs []
    rw [List.length_nil] at h1
    rw [sizeLine_eq]; omega
  obtain ⟨o, es, ep', hq, h2, h3, h4, _, h5⟩ := dd'
  refine d_write I2 (by rw [e]; exact True.intro) hs ⟨o, hq⟩ ⟨hz, hd, _, ((KT.all rk .nil).keeps fun c ys ec => ?_), o, es, ep', hq, h2, h3, h4, h5⟩
  rw [upd_ne (ne_of ec e (fun z => nomatch z))]
  exact ec
/-! ### displays over data -/
def aPairs : List (aE × aE) → Gm → Mp → (List (D × D) → Mp → Prop) → Prop
  | [], _, M, Q => Q [] M
  | (x, y) :: r, G, M, Q => x G M fun d M1 => y G M1 fun e M2 => aPairs r G M2 fun ps M3 => Q ((d, e) :: ps) M3
inductive RelP (K : PySem.W.Frag) (N : Hp) : List (V × V) → List (D × D) → Prop
  | nil : RelP K N [] []
  | cons {x y : V} {d e : D} {ps : List (V × V)} {qs : List (D × D)} : RelD K N x d → RelD K N y e → RelP K N ps qs → RelP K N ((x, y) :: ps) ((d, e) :: qs)
section
variable {X : Cx} {K : PySem.W.Frag} {pos : Pos}
def SPs (K : PySem.W.Frag) (trs : List (TE × TE)) (as : List (aE × aE)) : Prop := ∀ E G M N σ H, CC K E G M N σ H → ∀ (Q : List (D × D) → Mp → Prop) (Qc : List (V × V) → Hp → Prop), aPairs as G M Q →
  (∀ ds ps M' N' H', Q ds M' → CC K E G M' N' σ H' → Same N N' → RelP K N' ps ds → Qc ps H') → tPairs trs σ H Qc
structure DPs (X : Cx) (pos : Pos) (keys : List (Option Expr)) (values : List Expr) (trs : List (TE × TE)) (as : List (aE × aE)) : Prop where
  pp : PPs X pos keys values trs
  sp : SPs X.K trs as
theorem dps_nil : DPs X pos [] [] [] [] := ⟨pps_nil, fun E G M N σ H C Q Qc q k => k [] [] M N H q C (Same.refl N) .nil⟩
theorem dps_cons {k v : Expr} {ks : List (Option Expr)} {vs : List Expr} {tk tv : TE} {ak av : aE} {trs : List (TE × TE)} {as : List (aE × aE)} (hk : DE X k tk ak) (hv : DE X v tv av) (hr : DPs X pos ks vs trs as) :
    DPs X pos (some k :: ks) (v :: vs) ((tk, tv) :: trs) ((ak, av) :: as) := ⟨pps_cons hk.pe hv.pe hr.pp, by
  intro E G M N σ H C Q Qc q k
  refine hk.se E G M N σ H C _ _ q fun d x M1 N1 H1 h1 C1 s1 r1 => ?_
  refine hv.se E G M1 N1 σ H1 C1 _ _ h1 fun e y M2 N2 H2 h2 C2 s2 r2 => ?_
  refine hr.sp E G M2 N2 σ H2 C2 _ _ h2 fun ds ps M3 N3 H3 h3 C3 s3 r3 => ?_
  exact k _ _ M3 N3 H3 h3 C3 (s1.trans (s2.trans s3)) (.cons ((r1.mono s2).mono s3) (r2.mono s3) r3)⟩
def keyPs : List (D × D) → Option (List (Key × D))
  | [] => some []
  | (d, e) :: r => match keyOf d, keyPs r with
    | some k, some ks => some ((k, e) :: ks)
    | _, _ => none
def keyTs : List (D × D) → Option (List (List Key × D))
  | [] => some []
  | (d, e) :: r => match keyT d, keyTs r with
    | some k, some ks => some ((k, e) :: ks)
    | _, _ => none
def mergeD {k : Type} [DecidableEq k] (gs more : List (k × D)) : List (k × D) := more.foldl (fun acc kv => putD acc kv.1 kv.2) gs
theorem RelF.merge {N : Hp} : ∀ {more : List (Key × V)} {ms : List (Key × D)} {kvs : List (Key × V)} {gs : List (Key × D)}, RelF K N more ms → RelF K N kvs gs → RelF K N (mergeK kvs more) (mergeD gs ms)
  | _, _, _, _, .nil, r => r
  | _, _, kvs, gs, .cons (x := x) (v := v) (d := d) (vs := vs) (ds := ds) h t, r => RelF.merge (kvs := putK kvs x v) (gs := putD gs x d) t (r.put x h)
theorem RelF.mergeT {N : Hp} : ∀ {more : List (List Key × V)} {ms : List (List Key × D)} {kvs : List (List Key × V)} {gs : List (List Key × D)}, RelF K N more ms → RelF K N kvs gs → RelF K N (DL.mergeT kvs more) (mergeD gs ms)
  | _, _, _, _, .nil, r => r
  | _, _, kvs, gs, .cons (x := x) (v := v) (d := d) (vs := vs) (ds := ds) h t, r => RelF.mergeT (kvs := putK kvs x v) (gs := putD gs x d) t (r.put x h)
theorem keyPs_rel {N : Hp} : ∀ {ps : List (V × V)} {qs : List (D × D)} {ms : List (Key × D)}, RelP K N ps qs → keyPs qs = some ms → ∃ kvs : List (Key × V), ps = kvs.map (fun kv => (kV kv.1, kv.2)) ∧ RelF K N kvs ms
  | _, _, ms, .nil, h => by simp [keyPs] at h; subst h; exact ⟨[], rfl, .nil⟩
  | _, _, ms, .cons h1 h2 r, h => by
    unfold keyPs at h
    split at h
    · rename_i k ks e1 e2
      cases h
      obtain ⟨kvs, rfl, r'⟩ := keyPs_rel r e2
      have e3 := key_rel h1 e1
      subst e3
      exact ⟨(k, _) :: kvs, rfl, .cons h2 r'⟩
    · cases h
theorem keyTs_rel {N H : Hp} (sm : Same N H) : ∀ {ps : List (V × V)} {qs : List (D × D)} {ms : List (List Key × D)}, RelP K N ps qs → keyTs qs = some ms → ∃ kvs : List (List Key × V), PairsT H ps kvs ∧ RelF K N kvs ms
  | _, _, ms, .nil, h => by simp [keyTs] at h; subst h; exact ⟨[], .nil, .nil⟩
  | _, _, ms, .cons h1 h2 r, h => by
    unfold keyTs at h
    split at h
    · rename_i k ks e1 e2
      cases h
      obtain ⟨kvs, q, r'⟩ := keyTs_rel sm r e2
      obtain ⟨b, rfl, hb⟩ := keyT_rel h1 e1
      exact ⟨(k, _) :: kvs, .cons (sm _ _ hb) q, .cons h2 r'⟩
    · cases h
def aDispKM (as : List (aE × aE)) : aE := fun G M Q => aPairs as G M fun qs M1 => match keyPs qs with
  | some ms => ms.length ≤ 15 ∧ ∀ p, M1 p = none → Q (.ref p) (mupd M1 p (.dK (mergeD [] ms)))
  | none => False
def aDispTM (as : List (aE × aE)) : aE := fun G M Q => aPairs as G M fun qs M1 => match keyTs qs with
  | some ms => ms.length ≤ 15 ∧ ∀ p, M1 p = none → Q (.ref p) (mupd M1 p (.dT (mergeD [] ms)))
  | none => False
/-- an object that nobody knows of stands behind a run as it stood -/
theorem foreign {E : En} {G : Gm} {M : Mp} {N H : Hp} {σ : L2.St} (C : CC K E G M N σ H) {p : Addr} (o : HO) (hp : H p = none) : CC K ⟨M, N, upd H p o⟩ G M N σ (upd H p o) ∧ Fr M N H M N (upd H p o) := by
  have hN := (C.cm.none hp).1
  refine ⟨⟨.refl, ⟨fun a u e => by rw [upd_ne (ne_of_none e hN)]; exact C.cm.sm _ _ e, fun a c e => ?_⟩, C.sl⟩, ⟨Same.refl _, fun a u e m => ⟨by rw [upd_ne (ne_of_none e hp)]; exact e, m⟩, fun a u e n => n, fun a u e => ⟨u, by rw [upd_ne (ne_of_none e hp)]; exact e⟩⟩⟩
  obtain ⟨x1, x2⟩ := C.cm.hm a c e
  exact ⟨x1, x2.mono (Same.refl _) fun o e => by rw [upd_ne (ne_of_none e hp)]; exact e⟩
theorem unforeign {E : En} {G : Gm} {M M' : Mp} {N N' H H' : Hp} {σ : L2.St} (C : CC K E G M N σ H) {p : Addr} {o o' : HO} {c : MC} (hp : H p = none) (C' : CC K ⟨M, N, upd H p o⟩ G M' N' σ H') (hc : HasM K N' (upd H' p o') p c) :
    CC K E G (mupd M' p c) N' σ (upd H' p o') ∧ H' p = some o := by
  obtain ⟨hN, hM⟩ := C.cm.none hp
  obtain ⟨y1, y2⟩ := C'.fr.keep p o upd_same hM
  have y3 := C'.fr.new p o upd_same hN
  have f0 := (foreign C o hp).2.trans C'.fr
  refine ⟨⟨C.fr.trans ⟨f0.nn, fun a u e m => ?_, f0.new, fun a u e => ?_⟩, cm_put C'.cm y3 hc, C'.sl⟩, y1⟩
  · have q := ne_of_none e hp
    obtain ⟨z1, z2⟩ := f0.keep a u e m
    exact ⟨by rw [upd_ne q]; exact z1, by rw [mupd_ne q]; exact z2⟩
  · have q := ne_of_none e hp
    obtain ⟨o2, z⟩ := f0.dom a u e
    exact ⟨o2, by rw [upd_ne q]; exact z⟩
variable {keys : List (Option Expr)} {values : List Expr} {trs : List (TE × TE)} {as : List (aE × aE)}
theorem de_dispK (h : DPs X pos keys values trs as) (hall : keys.all (·.isSome) = true := by rfl) (hl : keys.length = values.length := by rfl) (h0 : keys ≠ [] := by simp) (h15 : keys.length ≤ 15 := by decide) :
    DE X (.Dict keys values pos) (tDisp trs) (aDispKM as) := ⟨pe_disp h.pp hall hl h0 h15, by
  intro E G M N σ H C Q Qc q k p hp
  refine h.sp _ G M N σ _ (foreign C (.dK []) hp).1 _ _ q fun qs ps M1 N1 H1 h1 C1 s1 r1 => ?_
  split at h1
  · rename_i ms hms
    obtain ⟨kvs, rfl, rf⟩ := keyPs_rel r1 hms
    have r2 : RelF X.K N1 (mergeK [] kvs) (mergeD [] ms) := rf.merge .nil
    obtain ⟨C2, e2⟩ := unforeign C hp C1 (hasK (N := N1) (H := upd H1 p (.dK (mergeK [] kvs))) upd_same r2)
    refine ⟨e2, kvs, rfl, by rw [rf.length]; exact h1.1, ?_⟩
    exact k (.ref p) (.ref p) _ N1 _ (h1.2 p ((C1.fr.keep p _ upd_same (C.cm.none hp).2).2)) C2 s1 (.ref p)
  · exact h1.elim⟩
theorem de_dispT (hu : X.A.units + 1 < cLine) (h : DPs X pos keys values trs as) (hall : keys.all (·.isSome) = true := by rfl) (hl : keys.length = values.length := by rfl) (h0 : keys ≠ [] := by simp) (h15 : keys.length ≤ 15 := by decide) :
    DE X (.Dict keys values pos) (tDispT trs) (aDispTM as) := ⟨pe_dispT hu h.pp hall hl h0 h15, by
  intro E G M N σ H C Q Qc q k p hp
  refine h.sp _ G M N σ _ (foreign C (.dT []) hp).1 _ _ q fun qs ps M1 N1 H1 h1 C1 s1 r1 => ?_
  split at h1
  · rename_i ms hms
    obtain ⟨kvs, pt, rf⟩ := keyTs_rel C1.cm.sm r1 hms
    have r2 : RelF X.K N1 (DL.mergeT [] kvs) (mergeD [] ms) := rf.mergeT .nil
    obtain ⟨C2, e2⟩ := unforeign C hp C1 (hasT (N := N1) (H := upd H1 p (.dT (DL.mergeT [] kvs))) upd_same r2)
    refine ⟨e2, kvs, pt, by rw [rf.length]; exact h1.1, ?_⟩
    exact k (.ref p) (.ref p) _ N1 _ (h1.2 p ((C1.fr.keep p _ upd_same (C.cm.none hp).2).2)) C2 s1 (.ref p)
  · exact h1.elim⟩

/-! ### calls with keywords -/
variable {CX : CXT} {k n m : Nat} {g : Addr} {fd : FuncData} {ps ks : List Str} {sp : aSp} {x : Str} {p : Pos} {E0' : XK} {e : Expr} {es : List Expr} {kws : List Keyword} {t tk : TA} {at1 ak : aA}
theorem pe_callK0 {sp' : Sp} {gV' : List Value → List Value → List Value} {gV : List V → List V → List V} (F : FnOk X.prog X.w X.K X.mg X.base CX k g fd ps sp') (hr : Room k X.A) (hg : Gl X x) (hm : X.mg x = some (.ref g)) (hk : PySem.W.keepIn X.K (.ref g) = true) (hb : KBn X.K fd ps 0 ks gV' gV) (hx : Passes CX X E0')
    (hkw : PK X kws tk) (hall : (backToKw pos (keywordEach kws X.env)).all (·.1.isSome) = true := by rfl) (hks : (backToKw pos (keywordEach kws X.env)).filterMap (·.1) = ks := by rfl) (hdb : (x == ("__debug__" : Str)) = false := by decide)
    (hpl : ((backTo pos (starEach [] X.env)).any (·.1) || (backToKw pos (keywordEach kws X.env)).any (·.1.isNone)) = false := by rfl) :
    PE X (.Call (.Name x p) [] kws pos) (tCallN 0 ks.length sp' gV E0' tNil tk) := by
  refine ⟨fun pins s σ H Q I h => wpAny_Call_Name_kw (ld_glob I hg hm ?_ hdb)⟩
  refine PySem.W.callWith_KW0 (h₀ := X.base) I.ok.mod.kin hk hall (thn (hkw.run pos pins s σ H _ I h) fun ws s2 ⟨zs, H2, I2, rz, l1, l2, q2⟩ => ⟨I2.kIn, ?_⟩) hpl
  rw [hks]
  exact run_fnN (us := []) (vs := []) F hr hb hx I2 .nil rz rfl l2 q2
def aCallN (n m nn : Nat) (sp : aSp) (gD : List D → List D → List D) (x y : aA) : aE := fun G M Q => x G M fun ds M1 => y G M1 fun es M2 => ds.length = n ∧ es.length = m ∧ (gD ds es).length = nn ∧ sp (gD ds es) M2 Q
theorem se_callN {nn : Nat} {gV : List V → List V → List V} {gD : List D → List D → List D} (hgd : ∀ (N : Hp) vs ds ws es, RelL K N vs ds → RelL K N ws es → ds.length = n → es.length = m → RelL K N (gV vs ws) (gD ds es))
    (ha : SA K t at1) (hkw : SA K tk ak) : SE K (tCallN n m (lift K nn sp) gV E0' t tk) (aCallN n m nn sp gD at1 ak) := by
  intro E G M N σ H C Q Qc q k
  refine ha E G M N σ H C _ _ q fun ds vs M1 N1 H1 h1 C1 s1 r1 => ?_
  refine hkw E G M1 N1 σ H1 C1 _ _ h1 fun es ws M2 N2 H2 h2 C2 s2 r2 => ?_
  obtain ⟨l1, l2, l3, h2⟩ := h2
  refine ⟨by rw [r1.length]; exact l1, by rw [r2.length]; exact l2, ?_⟩
  exact ⟨gD ds es, M2, N2, Q, l3, C2.cm, hgd _ _ _ _ _ (r1.mono s2) r2 l1 l2, h2, fun d v M' N' H' q' fr cm r => (k.from (s1.trans s2)) d v M' N' H' q' (C2.step fr cm) fr.nn r⟩
theorem de_callK0 {nn : Nat} {gV' : List Value → List Value → List Value} {gV : List V → List V → List V} {gD : List D → List D → List D} (hgd : ∀ (N : Hp) vs ds ws es, RelL X.K N vs ds → RelL X.K N ws es → ds.length = 0 → es.length = ks.length → RelL X.K N (gV vs ws) (gD ds es))
    (F : FnOk X.prog X.w X.K X.mg X.base CX k g fd ps (lift X.K nn sp)) (hr : Room k X.A) (hg : Gl X x) (hm : X.mg x = some (.ref g)) (hk : PySem.W.keepIn X.K (.ref g) = true) (hb : KBn X.K fd ps 0 ks gV' gV) (hx : Passes CX X E0')
    (hkw : DK X kws tk ak) (hall : (backToKw pos (keywordEach kws X.env)).all (·.1.isSome) = true := by rfl) (hks : (backToKw pos (keywordEach kws X.env)).filterMap (·.1) = ks := by rfl) (hdb : (x == ("__debug__" : Str)) = false := by decide)
    (hpl : ((backTo pos (starEach [] X.env)).any (·.1) || (backToKw pos (keywordEach kws X.env)).any (·.1.isNone)) = false := by rfl) :
    DE X (.Call (.Name x p) [] kws pos) (tCallN 0 ks.length (lift X.K nn sp) gV E0' tNil tk) (aCallN 0 ks.length nn sp gD aNil ak) := ⟨pe_callK0 F hr hg hm hk hb hx hkw.pk hall hks hdb hpl, se_callN hgd sa_nil hkw.sa⟩
theorem de_callN {nn : Nat} {gV' : List Value → List Value → List Value} {gV : List V → List V → List V} {gD : List D → List D → List D} (hgd : ∀ (N : Hp) vs ds ws es, RelL X.K N vs ds → RelL X.K N ws es → ds.length = n → es.length = ks.length → RelL X.K N (gV vs ws) (gD ds es))
    (F : FnOk X.prog X.w X.K X.mg X.base CX k g fd ps (lift X.K nn sp)) (hr : Room k X.A) (hg : Gl X x) (hm : X.mg x = some (.ref g)) (hk : PySem.W.keepIn X.K (.ref g) = true) (hb : KBn X.K fd ps n ks gV' gV) (hx : Passes CX X E0')
    (ha : DA X (e :: es) t at1) (hkw : DK X kws tk ak) (hall : (backToKw pos (keywordEach kws X.env)).all (·.1.isSome) = true := by rfl) (hks : (backToKw pos (keywordEach kws X.env)).filterMap (·.1) = ks := by rfl)
    (hdb : (x == ("__debug__" : Str)) = false := by decide) (he : starEach (e :: es) X.env = (false, eval e X.env) :: starEach es X.env := by rfl)
    (hpl : ((backTo pos (starEach (e :: es) X.env)).any (·.1) || (backToKw pos (keywordEach kws X.env)).any (·.1.isNone)) = false := by rfl) :
    DE X (.Call (.Name x p) (e :: es) kws pos) (tCallN n ks.length (lift X.K nn sp) gV E0' t tk) (aCallN n ks.length nn sp gD at1 ak) := ⟨pe_callN F hr hg hm hk hb hx ha.pa hkw.pk hall hks hdb he hpl, se_callN hgd ha.sa hkw.sa⟩
end
end DL

set_option Elab.async false
set_option linter.all false
set_option maxRecDepth 100000
namespace DL
open PySem PySem.Spec PyProof.Rows L2
theorem atI_nn {α : Type} (xs : List α) {i : Int} (h : 0 ≤ i) : atI xs i = xs[i.toNat]? := by
  unfold atI ixN
  rw [if_pos h]
  by_cases q : i < xs.length
  · rw [if_pos q]; rfl
  · rw [if_neg q, List.getElem?_eq_none (by omega)]; rfl
theorem atI_c {α : Type} (xs : List α) (j : Nat) : atI xs (j : Int) = xs[j]? := by rw [atI_nn xs (Int.natCast_nonneg j)]; rfl
theorem atI_0 {α : Type} (xs : List α) : atI xs 0 = xs[0]? := atI_c xs 0
theorem atI_1 {α : Type} (xs : List α) : atI xs 1 = xs[1]? := atI_c xs 1
theorem atI_2 {α : Type} (xs : List α) : atI xs 2 = xs[2]? := atI_c xs 2
theorem atI_3 {α : Type} (xs : List α) : atI xs 3 = xs[3]? := atI_c xs 3
theorem atI_4 {α : Type} (xs : List α) : atI xs 4 = xs[4]? := atI_c xs 4
theorem atI_5 {α : Type} (xs : List α) : atI xs 5 = xs[5]? := atI_c xs 5
theorem ixN_c {n j : Nat} (h : j < n) : ixN n (j : Int) = some j := by
  unfold ixN
  rw [if_pos (Int.natCast_nonneg j), if_pos (by omega)]; rfl
theorem ixN_nn {n : Nat} {i : Int} (h : 0 ≤ i) (h' : i < n) : ixN n i = some i.toNat := by
  unfold ixN
  rw [if_pos h, if_pos h']
theorem snap_i (M : Mp) (i : Int) : snap M (.int i) = .int i := rfl
theorem snap_b (M : Mp) (i : Bool) : snap M (.bl i) = .bl i := rfl
theorem snap_s (M : Mp) (i : Str) : snap M (.str i) = .str i := rfl
theorem snap_n (M : Mp) : snap M .non = .non := rfl
theorem snap_l (M : Mp) (xs : List D) : snap M (.list xs) = .list xs := rfl
theorem snap_t (M : Mp) (xs : List D) : snap M (.tup xs) = .tup xs := rfl
theorem eqOk_i (i : Int) : eqOk 9 (.int i) = true := rfl
theorem eqOk_b (i : Bool) : eqOk 9 (.bl i) = true := rfl
theorem eqOk_n : eqOk 9 .non = true := rfl
theorem eqv_i (i j : Int) : eqv (.int i) (.int j) = (i == j) := rfl
theorem eqv_b (i j : Bool) : eqv (.bl i) (.bl j) = (i == j) := rfl
theorem eqv_s (i j : Str) : eqv (.str i) (.str j) = (i == j) := rfl
theorem RelL.split {K : PySem.W.Frag} {N : Hp} {vs : List V} {ds : List D} {n : Nat} (r : RelL K N vs ds) (h : ds.length = n + 1) : ∃ v vs' d ds', vs = v :: vs' ∧ ds = d :: ds' ∧ RelD K N v d ∧ RelL K N vs' ds' ∧ ds'.length = n := by
  cases r with
  | nil => simp at h
  | cons a b => exact ⟨_, _, _, _, rfl, rfl, a, b, by simpa using h⟩
theorem RelL.split0 {K : PySem.W.Frag} {N : Hp} {vs : List V} {ds : List D} (r : RelL K N vs ds) (h : ds.length = 0) : vs = [] ∧ ds = [] := by
  cases r with
  | nil => exact ⟨rfl, rfl⟩
  | cons a b => simp at h
end DL

set_option Elab.async false
set_option linter.all false
set_option maxRecDepth 100000
namespace DL
open PySem PySem.Spec PyProof.Rows L2
/-! ### continuations by name -/
def kPar (i j : Nat) (nx : Gm → Mp → Prop) (G : Gm) (ds : List D) (M : Mp) : Prop := match ds with
  | [d, e] => nx ((G.set i (some d)).set j (some e)) M
  | _ => False
def kPar3 (i j l : Nat) (nx : Gm → Mp → Prop) (G : Gm) (ds : List D) (M : Mp) : Prop := match ds with
  | [d, e, f] => nx (((G.set i (some d)).set j (some e)).set l (some f)) M
  | _ => False
def kSub (G : Gm) (d : D) (QG : Gm → Mp → Prop) (o i : D) (M : Mp) : Prop := match o, i with
  | .ref p, .int z => (match M p with
    | some (.lst ds) => (match ixN ds.length z with | some j => QG G (mupd M p (.lst (ds.set j d))) | none => False)
    | _ => False)
  | _, _ => False
def kTest (QT : Bool → Mp → Prop) (d : D) (M : Mp) : Prop := match d with
  | .bl k => QT k M
  | _ => False
def kTru (QT : Bool → Mp → Prop) (d : D) (M : Mp) : Prop := match truD M d with
  | some k => QT k M
  | none => False
def kAndV (G : Gm) (y : aE) (Q : QD) (d : D) (M : Mp) : Prop := match d with
  | .bl k => if k = true then y G M Q else Q (.bl false) M
  | _ => False
def kOrV (G : Gm) (y : aE) (Q : QD) (d : D) (M : Mp) : Prop := match d with
  | .bl k => if k = true then Q (.bl true) M else y G M Q
  | _ => False
def kItems (QA : List D → Mp → Prop) (d : D) (M : Mp) : Prop := match items d with | some ds => QA ds M | none => False
def kRng1 (QA : List D → Mp → Prop) (ds : List D) (M : Mp) : Prop := match ds with
  | [.int j] => j ≤ 1000000 ∧ -1000000 ≤ j ∧ QA (rng 0 j.toNat) M
  | _ => False
def kRng2 (QA : List D → Mp → Prop) (ds : List D) (M : Mp) : Prop := match ds with
  | [.int i, .int j] => (j ≤ 1000000 ∧ -1000000 ≤ j ∧ i ≤ 1000000 ∧ -1000000 ≤ i) ∧ QA (rng i (j - i).toNat) M
  | _ => False
def kZip (QA : List D → Mp → Prop) (ds : List D) (M : Mp) : Prop := match ds with
  | [d, e] => isL d = isL e ∧ (match items d, items e with | some xs, some ys => QA (zipD xs ys) M | _, _ => False)
  | _ => False
def kFld (K : PySem.W.Frag) (f : Str) (Q : QD) (d : D) (M : Mp) : Prop := match d with
  | .obj C gs => Cls K C ∧ NoAttr K C f ∧ (match gs.lookup f with | some y => Q y M | none => False)
  | .ref p => (match M p with
    | some (.ins C gs) => Cls K C ∧ NoAttr K C f ∧ (match gs.lookup f with | some y => Q y M | none => False)
    | _ => False)
  | _ => False
def kMeth (C : Addr) (m : Str) (d : D) (M : Mp) : Prop := match d with
  | .obj C' gs => C' = C ∧ gs.lookup m = none
  | .ref p => (match M p with | some (.ins C' gs) => C' = C ∧ gs.lookup m = none | _ => False)
  | _ => False
def kSetF (K : PySem.W.Frag) (f : Str) (G : Gm) (nx : Gm → Mp → Prop) (y d : D) (M : Mp) : Prop := match d with
  | .ref p => (match M p with
    | some (.ins C gs) => Cls K C ∧ NoAttr K C f ∧ gs.length < 1000 ∧ nx G (mupd M p (.ins C (asFld.putG f y gs)))
    | _ => False)
  | _ => False
def kDPut (G : Gm) (nx : Gm → Mp → Prop) (v d k : D) (M : Mp) : Prop := match d with
  | .ref p => (match putDk M p k v with | some c => nx G (mupd M p c) | none => False)
  | _ => False
def kDisK (Q : QD) (qs : List (D × D)) (M : Mp) : Prop := match keyPs qs with
  | some ms => ms.length ≤ 15 ∧ ∀ p, M p = none → Q (.ref p) (mupd M p (.dK (mergeD [] ms)))
  | none => False
def kDisT (Q : QD) (qs : List (D × D)) (M : Mp) : Prop := match keyTs qs with
  | some ms => ms.length ≤ 15 ∧ ∀ p, M p = none → Q (.ref p) (mupd M p (.dT (mergeD [] ms)))
  | none => False
def kPart (QO : Option Int → Mp → Prop) (d : D) (M : Mp) : Prop := match d with | .int i => QO (some i) M | _ => False
def kChain (G : Gm) (g : V2) (z : aE) (Q : QD) (e r : D) (M : Mp) : Prop := match r with
  | .bl k => if k = true then z G M fun w M4 => g e w M4 Q else Q (.bl false) M
  | _ => False
section
variable {m0 M : Mp} {nx bk ct : Gm → Mp → Prop} {rt Q : QD} {G : Gm} {t u : aS} {x y z : aE} {g : aG} {gs : aGs} {c c1 c2 : aT} {al a2 : aA} {i j l n m : Nat} {d e : D} {ds es : List D}
  {QT : Bool → Mp → Prop} {QA : List D → Mp → Prop} {QG : Gm → Mp → Prop} {a b : Addr} {k : Bool} {K : PySem.W.Frag}
/-! ### statements -/
theorem go_seq (h : t ⟨m0, cvU u ⟨m0, nx, rt, bk, ct⟩, rt, bk, ct⟩ G M) : asSeq t u ⟨m0, nx, rt, bk, ct⟩ G M := h
theorem go_sAsg (h : asAsg x g ⟨m0, cvU u ⟨m0, nx, rt, bk, ct⟩, rt, bk, ct⟩ G M) : asSeq (asAsg x g) u ⟨m0, nx, rt, bk, ct⟩ G M := h
theorem go_sDrop (h : asDrop x ⟨m0, cvU u ⟨m0, nx, rt, bk, ct⟩, rt, bk, ct⟩ G M) : asSeq (asDrop x) u ⟨m0, nx, rt, bk, ct⟩ G M := h
theorem go_sPar (h : asPar i j al ⟨m0, cvU u ⟨m0, nx, rt, bk, ct⟩, rt, bk, ct⟩ G M) : asSeq (asPar i j al) u ⟨m0, nx, rt, bk, ct⟩ G M := h
theorem go_sPar3 (h : asPar3 i j l al ⟨m0, cvU u ⟨m0, nx, rt, bk, ct⟩, rt, bk, ct⟩ G M) : asSeq (asPar3 i j l al) u ⟨m0, nx, rt, bk, ct⟩ G M := h
theorem go_sAug {f : V2} (h : asAug j x f ⟨m0, cvU u ⟨m0, nx, rt, bk, ct⟩, rt, bk, ct⟩ G M) : asSeq (asAug j x f) u ⟨m0, nx, rt, bk, ct⟩ G M := h
theorem go_sFld {f : Str} (h : asFld K x y f ⟨m0, cvU u ⟨m0, nx, rt, bk, ct⟩, rt, bk, ct⟩ G M) : asSeq (asFld K x y f) u ⟨m0, nx, rt, bk, ct⟩ G M := h
theorem go_sDPut (h : asDPut x y z ⟨m0, cvU u ⟨m0, nx, rt, bk, ct⟩, rt, bk, ct⟩ G M) : asSeq (asDPut x y z) u ⟨m0, nx, rt, bk, ct⟩ G M := h
/-- what follows a statement, by what is known ahead of it -/
theorem go_seqK {J : Gm → Mp → Prop} (h : ∀ nx', (∀ G M, J G M → nx' G M) → t ⟨m0, nx', rt, bk, ct⟩ G M) (h2 : ∀ G M, J G M → u ⟨m0, nx, rt, bk, ct⟩ G M) : asSeq t u ⟨m0, nx, rt, bk, ct⟩ G M := h _ fun G M j => ⟨G, M, .refl, h2 G M j⟩
/-- .. told in another way -/
theorem go_seqC {J : Gm → Mp → Prop} (h : ∀ nx', (∀ G M, (∃ G' M', Cvt m0 G M G' M' ∧ J G' M') → nx' G M) → t ⟨m0, nx', rt, bk, ct⟩ G M) (h2 : ∀ G M, J G M → u ⟨m0, nx, rt, bk, ct⟩ G M) : asSeq t u ⟨m0, nx, rt, bk, ct⟩ G M := h _ fun G M ⟨G', M', c, j⟩ => ⟨G', M', c, h2 _ _ j⟩
theorem go_cvU (h : u ⟨m0, nx, rt, bk, ct⟩ G M) : cvU u ⟨m0, nx, rt, bk, ct⟩ G M := ⟨G, M, .refl, h⟩
/-- for, by an invariant -/
theorem go_forI (I : Nat → Gm → Mp → Prop) (h0 : I 0 G M) (hs : ∀ i d G M nx', ds[i]? = some d → I i G M → (∀ G M, I (i + 1) G M → nx' G M) → g d G M fun G' M' => t ⟨m0, nx', rt, nx, nx'⟩ G' M') (hd : ∀ G M, I ds.length G M → nx G M) : forGo g t ds ⟨m0, nx, rt, bk, ct⟩ G M := by
  have main : ∀ (r : List D) (i : Nat) (G : Gm) (M : Mp), i ≤ ds.length → ds.drop i = r → I i G M → forGo g t r ⟨m0, nx, rt, bk, ct⟩ G M := by
    intro r
    induction r with
    | nil =>
      intro i G M hl e hi
      have h1 : ds.length ≤ i := List.drop_eq_nil_iff.mp e
      have q : i = ds.length := by omega
      subst q
      exact hd G M hi
    | cons d r ih =>
      intro i G M hl e hi
      have hlt : i < ds.length := by
        by_cases q : i < ds.length
        · exact q
        · rw [List.drop_eq_nil_of_le (by omega)] at e; cases e
      rw [List.drop_eq_getElem_cons hlt] at e
      injection e with e1 e2
      exact hs i d G M _ (by rw [List.getElem?_eq_getElem hlt, e1]) hi fun G M h => ih (i + 1) G M hlt e2 h
  exact main ds 0 G M (Nat.zero_le _) rfl h0
/-- a comprehension, by an invariant over the turn, what is made, the objects -/
theorem go_lcI {t : aT} (I : Nat → List D → Mp → Prop) (h0 : I 0 [] M) (hs : ∀ i d acc M (KY : D → Mp → Prop) (KN : Mp → Prop), ds[i]? = some d → I i acc M → (∀ y M, I (i + 1) (acc ++ [y]) M → KY y M) → (∀ M, I (i + 1) acc M → KN M) →
    g d G M fun G' M1 => t G' M1 fun b M2 => if b = true then x G' M2 KY else KN M2) (hd : ∀ acc M, I ds.length acc M → QA acc M) : lcGo g t x G ds [] M QA := by
  have main : ∀ (r : List D) (i : Nat) (acc : List D) (M : Mp), i ≤ ds.length → ds.drop i = r → I i acc M → lcGo g t x G r acc M QA := by
    intro r
    induction r with
    | nil =>
      intro i acc M hl e hi
      have h1 : ds.length ≤ i := List.drop_eq_nil_iff.mp e
      have q : i = ds.length := by omega
      subst q
      exact hd acc M hi
    | cons d r ih =>
      intro i acc M hl e hi
      have hlt : i < ds.length := by
        by_cases q : i < ds.length
        · exact q
        · rw [List.drop_eq_nil_of_le (by omega)] at e; cases e
      rw [List.drop_eq_getElem_cons hlt] at e
      injection e with e1 e2
      exact hs i d acc M _ _ (by rw [List.getElem?_eq_getElem hlt, e1]) hi (fun y M h => ih (i + 1) _ M hlt e2 h) (fun M h => ih (i + 1) acc M hlt e2 h)
  exact main ds 0 [] M (Nat.zero_le _) rfl h0
/-- a comprehension whose element and test are plain functions of the item -/
theorem go_lcP {t : aT} (p : D → Bool) (f : D → D) (h : ∀ (i : Nat) d (KY : D → Mp → Prop) (KN : Mp → Prop), ds[i]? = some d → (p d = true → KY (f d) M) → (p d = false → KN M) → g d G M fun G' M1 => t G' M1 fun b M2 => if b = true then x G' M2 KY else KN M2)
    (q : QA ((ds.filter p).map f) M) : lcGo g t x G ds [] M QA := by
  refine go_lcI (fun i acc M' => M' = M ∧ acc = ((ds.take i).filter p).map f) ⟨rfl, rfl⟩ (fun i d acc M' KY KN hd hI hY hN => ?_) (fun acc M' hI => ?_)
  · obtain ⟨rfl, rfl⟩ := hI
    refine h i d KY KN hd (fun hp => hY _ _ ⟨rfl, ?_⟩) (fun hp => hN _ ⟨rfl, ?_⟩)
    · rw [List.take_add_one, hd, List.filter_append, List.map_append]
      simp [hp]
    · rw [List.take_add_one, hd, List.filter_append, List.map_append]
      simp [hp]
  · obtain ⟨rfl, rfl⟩ := hI
    rw [List.take_length]
    exact q
/-- .. without a test -/
theorem go_lcM' {t : aT} (f : D → D) (h : ∀ (i : Nat) d (KY : D → Mp → Prop) (KN : Mp → Prop), ds[i]? = some d → KY (f d) M → g d G M fun G' M1 => t G' M1 fun b M2 => if b = true then x G' M2 KY else KN M2)
    (q : QA (ds.map f) M) : lcGo g t x G ds [] M QA := by
  refine go_lcP (fun _ => true) f (fun i d KY KN hd hY hN => h i d KY KN hd (hY rfl)) ?_
  rw [List.filter_eq_self.mpr fun _ _ => rfl]
  exact q
theorem go_whileI {W : Nat → Gm → Mp → Prop} (m : Nat) (h0 : W m G M) (hs : ∀ m G M nx', W m G M → (∀ m' G M, m' < m → W m' G M → nx' G M) → c G M fun k M1 => if k = true then t ⟨m0, nx', rt, nx, nx'⟩ G M1 else nx G M1) : asWhile c t ⟨m0, nx, rt, bk, ct⟩ G M :=
  ⟨W, ⟨m, h0⟩, fun m G M hw => hs m G M _ hw fun m' G M l h => ⟨m', l, h⟩⟩
theorem go_next (h : nx G M) : asNext ⟨m0, nx, rt, bk, ct⟩ G M := h
theorem go_break (h : bk G M) : asBreak ⟨m0, nx, rt, bk, ct⟩ G M := h
theorem go_cont (h : ct G M) : asCont ⟨m0, nx, rt, bk, ct⟩ G M := h
theorem go_drop (h : x G M fun _ M1 => nx G M1) : asDrop x ⟨m0, nx, rt, bk, ct⟩ G M := h
theorem go_ret (h : x G M rt) : asRet x ⟨m0, nx, rt, bk, ct⟩ G M := h
theorem go_retN (h : rt .non M) : asRetN ⟨m0, nx, rt, bk, ct⟩ G M := h
theorem go_if (h : c G M fun b M1 => if b = true then t ⟨m0, nx, rt, bk, ct⟩ G M1 else u ⟨m0, nx, rt, bk, ct⟩ G M1) : asIf c t u ⟨m0, nx, rt, bk, ct⟩ G M := h
theorem go_asg (h : x G M fun d M1 => g d G M1 nx) : asAsg x g ⟨m0, nx, rt, bk, ct⟩ G M := h
theorem go_par (h : al G M (kPar i j nx G)) : asPar i j al ⟨m0, nx, rt, bk, ct⟩ G M := h
theorem go_kpar {G1 G2 : Gm} (e1 : G.set i (some d) = G1) (e2 : G1.set j (some e) = G2) (h : nx G2 M) : kPar i j nx G [d, e] M := by subst e1; subst e2; exact h
theorem go_par3 (h : al G M (kPar3 i j l nx G)) : asPar3 i j l al ⟨m0, nx, rt, bk, ct⟩ G M := h
theorem go_kpar3 {f : D} {G1 G2 G3 : Gm} (e1 : G.set i (some d) = G1) (e2 : G1.set j (some e) = G2) (e3 : G2.set l (some f) = G3) (h : nx G3 M) : kPar3 i j l nx G [d, e, f] M := by subst e1; subst e2; subst e3; exact h
theorem go_aug {f : V2} (h : G[j]? = some (some d)) (q : x G M fun e M1 => f d e M1 fun z M2 => nx (G.set j (some z)) M2) : asAug j x f ⟨m0, nx, rt, bk, ct⟩ G M := by
  unfold asAug
  rw [h]
  exact q
theorem go_for {src : aA} (h : src G M fun ds M1 => forGo g t ds ⟨m0, nx, rt, bk, ct⟩ G M1) : asFor src g t ⟨m0, nx, rt, bk, ct⟩ G M := h
theorem go_forN (h : nx G M) : forGo g t [] ⟨m0, nx, rt, bk, ct⟩ G M := h
theorem go_forC (h : g d G M fun G' M' => t ⟨m0, forGo g t ds ⟨m0, nx, rt, bk, ct⟩, rt, nx, forGo g t ds ⟨m0, nx, rt, bk, ct⟩⟩ G' M') : forGo g t (d :: ds) ⟨m0, nx, rt, bk, ct⟩ G M := h
/-! ### targets -/
theorem go_name {G' : Gm} (e : G.set j (some d) = G') (h : QG G' M) : agName j d G M QG := by subst e; exact h
theorem go_tup (e : ds.length = n) (h : gs ds G M QG) : agTup n gs (.tup ds) G M QG := ⟨e, h⟩
theorem go_gcons (h : g d G M fun G' M' => gs ds G' M' QG) : agCons g gs (d :: ds) G M QG := h
theorem go_gnil (h : QG G M) : agNil [] G M QG := ⟨rfl, h⟩
theorem go_subL (h : x G M fun o M1 => y G M1 (kSub G d QG o)) : agSubL x y d G M QG := h
theorem go_ksub {z : Int} (h1 : M a = some (.lst ds)) (h2 : ixN ds.length z = some j) (e : ds.set j d = es) (h : QG G (mupd M a (.lst es))) : kSub G d QG (.ref a) (.int z) M := by
  subst e
  unfold kSub
  simp only [h1, h2]
  exact h
/-! ### expressions -/
theorem go_var (h : G[i]? = some (some d)) (q : Q d M) : aVar i G M Q := by
  unfold aVar
  rw [h]
  exact q
theorem go_c (q : Q d M) : aC d G M Q := q
theorem go_bin {f : V2} (h : x G M fun d M1 => y G M1 fun e M2 => f d e M2 Q) : aBin f x y G M Q := h
theorem go_un {f : V1} (h : x G M fun d M1 => f d M1 Q) : aUn f x G M Q := h
theorem go_anil (q : QA [] M) : aNil G M QA := q
theorem go_acons (h : x G M fun d M1 => al G M1 fun ds M2 => QA (d :: ds) M2) : aCons x al G M QA := h
theorem go_atup (h : al G M fun ds M1 => ds.length ≤ 1000000 ∧ Q (.tup ds) M1) : aTup al G M Q := h
theorem go_alst (h : al G M fun ds M1 => ds.length ≤ 1000000 ∧ Q (.list ds) M1) : aLst al G M Q := h
theorem go_alstM (h : al G M fun ds M1 => ds.length ≤ 1000000 ∧ ∀ p, M1 p = none → Q (.ref p) (mupd M1 p (.lst ds))) : aLstM al G M Q := h
theorem go_cb {f : VL} (h : al G M fun ds M1 => f ds M1 Q) : aCB f al G M Q := h
theorem go_bm {T : String} {f : VM} (h : x G M fun d M1 => tyD M1 d = some T ∧ al G M1 fun ds M2 => f d ds M2 Q) : aBM T f x al G M Q := h
theorem go_bm0 {T : String} {f : VM} (h : x G M fun d M1 => tyD M1 d = some T ∧ f d [] M1 Q) : aBM0 T f x G M Q := h
theorem go_call {sp : aSp} (h : al G M fun ds M1 => ds.length = n ∧ sp ds M1 Q) : aCall n sp al G M Q := h
theorem go_if' (h : c G M fun k M1 => if k = true then x G M1 Q else y G M1 Q) : aIf c x y G M Q := h
/-! ### tests -/
theorem go_test (h : x G M (kTest QT)) : aTest x G M QT := h
theorem go_ktest (q : QT k M) : kTest QT (.bl k) M := q
theorem go_tru (h : x G M (kTru QT)) : aTru x G M QT := h
theorem go_ktru (h : truD M d = some k) (q : QT k M) : kTru QT d M := by
  unfold kTru
  rw [h]
  exact q
theorem go_tand (h : c1 G M fun b M1 => if b = true then c2 G M1 QT else QT false M1) : atAnd c1 c2 G M QT := h
theorem go_tor (h : c1 G M fun b M1 => if b = true then QT true M1 else c2 G M1 QT) : atOr c1 c2 G M QT := h
theorem go_tnot (h : c1 G M fun b M1 => QT (!b) M1) : atNot c1 G M QT := h
theorem go_andV (h : x G M (kAndV G y Q)) : aAndV x y G M Q := h
theorem go_kandV (h : if k = true then y G M Q else Q (.bl false) M) : kAndV G y Q (.bl k) M := h
theorem go_orV (h : x G M (kOrV G y Q)) : aOrV x y G M Q := h
theorem go_korV (h : if k = true then Q (.bl true) M else y G M Q) : kOrV G y Q (.bl k) M := h
theorem go_tyes (q : QT true M) : atYes G M QT := q
/-! ### operations on values -/
theorem go_addI {i j : Int} (q : Q (.int (i + j)) M) : fAdd (.int i) (.int j) M Q := q
theorem go_addS {i j : Str} (h : i.length + j.length ≤ 1000000) (q : Q (.str (i ++ j)) M) : fAdd (.str i) (.str j) M Q := ⟨h, q⟩
theorem go_addL (h : ds.length + es.length ≤ 1000000) (q : Q (.list (ds ++ es)) M) : fAdd (.list ds) (.list es) M Q := ⟨h, q⟩
theorem go_fI0 {g : Int → Int → D} {i j : Int} (q : Q (g i j) M) : fI0 g (.int i) (.int j) M Q := q
theorem go_fI {C : Int → Int → Prop} {g : Int → Int → D} {i j : Int} (h : C i j) (q : Q (g i j) M) : fI C g (.int i) (.int j) M Q := ⟨h, q⟩
theorem go_mulI {i j : Int} (h : CMul i j) (q : Q (.int (i * j)) M) : fMul (.int i) (.int j) M Q := ⟨h, q⟩
theorem go_neg {i : Int} (q : Q (.int (-i)) M) : fNeg (.int i) M Q := q
theorem go_notB (q : Q (.bl (!k)) M) : fNot (.bl k) M Q := q
theorem go_eqI {i j : Int} (q : Q (.bl (i == j)) M) : fEq (.int i) (.int j) M Q := ⟨rfl, rfl, q⟩
theorem go_neI {i j : Int} (q : Q (.bl (!(i == j))) M) : fNe (.int i) (.int j) M Q := ⟨rfl, rfl, q⟩
theorem go_eqB {i j : Bool} (q : Q (.bl (i == j)) M) : fEq (.bl i) (.bl j) M Q := ⟨rfl, rfl, q⟩
theorem go_neB {i j : Bool} (q : Q (.bl (!(i == j))) M) : fNe (.bl i) (.bl j) M Q := ⟨rfl, rfl, q⟩
theorem go_is (q : Q (.bl (isNon d)) M) : fIs d .non M Q := q
theorem go_isnot (q : Q (.bl (!isNon d)) M) : fIsNot d .non M Q := q
theorem go_ix {i : Int} (h : itemsM M d = some ds) (h2 : atI ds i = some e) (q : Q e M) : fIx d (.int i) M Q := by
  unfold fIx
  simp only [h, h2]
  exact q
theorem itemsM_ref (h : M a = some (.lst ds)) : itemsM M (.ref a) = some ds := by simp only [itemsM, h]
theorem go_int {i : Int} (q : Q (.int i) M) : fInt [.int i] M Q := q
theorem go_abs {i : Int} (q : Q (.int (if i < 0 then -i else i)) M) : fAbs [.int i] M Q := q
theorem go_len (h : itemsM M d = some ds) (q : Q (.int (ds.length : Nat)) M) : fLen [d] M Q := by
  unfold fLen
  simp only [h]
  exact q
theorem go_lenS {z : Str} (h : z.length ≤ 1000000) (q : Q (.int (z.length : Nat)) M) : fLen [.str z] M Q := ⟨h, q⟩
theorem go_list (h : itemsM M d = some ds) (q : Q (.list ds) M) : fList [d] M Q := by
  unfold fList
  simp only [h]
  exact q
theorem go_listM (h : itemsM M d = some ds) (q : ∀ p, M p = none → Q (.ref p) (mupd M p (.lst ds))) : fListM [d] M Q := by
  unfold fListM
  simp only [h]
  exact q
theorem go_tuple (h : itemsM M d = some ds) (q : Q (if isLM d then .tup ds else d) M) : fTuple [d] M Q := by
  unfold fTuple
  simp only [h]
  exact q
theorem go_append (h : M a = some (.lst ds)) (h2 : ds.length < 1000000) (q : Q .non (mupd M a (.lst (ds ++ [d])))) : fAppend (.ref a) [d] M Q := by
  unfold fAppend
  simp only [h]
  exact ⟨h2, q⟩
theorem go_pop (h : M a = some (.lst ds)) (h2 : ds[ds.length - 1]? = some e) (q : Q e (mupd M a (.lst ds.dropLast))) : fPop (.ref a) [] M Q := by
  unfold fPop
  simp only [h, h2]
  exact q
theorem tyD_ref (h : M a = some (.lst ds)) : tyD M (.ref a) = some "list" := by simp only [tyD, h]
/-- a test whose answer is open -/
theorem go_ite {A B : Prop} (h1 : k = true → A) (h2 : k = false → B) : if k = true then A else B := by
  cases k with
  | true => rw [if_pos rfl]; exact h1 rfl
  | false => rw [if_neg Bool.false_ne_true]; exact h2 rfl
theorem go_iteT {A B : Prop} (h : k = true) (q : A) : if k = true then A else B := by rw [if_pos h]; exact q
theorem go_iteF {A B : Prop} (h : k = false) (q : B) : if k = true then A else B := by rw [h, if_neg Bool.false_ne_true]; exact q
/-! ### walks -/
theorem go_iseq (h : x G M (kItems QA)) : aiSeq x G M QA := h
theorem go_kitems (h : items d = some ds) (q : QA ds M) : kItems QA d M := by
  unfold kItems
  rw [h]
  exact q
theorem go_rng1 (h : al G M (kRng1 QA)) : aiRng1 al G M QA := h
theorem go_krng1 {j : Int} (h1 : j ≤ 1000000) (h2 : -1000000 ≤ j) (q : QA (rng 0 j.toNat) M) : kRng1 QA [.int j] M := ⟨h1, h2, q⟩
theorem go_rng2 (h : al G M (kRng2 QA)) : aiRng2 al G M QA := h
theorem go_krng2 {i j : Int} (h1 : j ≤ 1000000) (h2 : -1000000 ≤ j) (h3 : i ≤ 1000000) (h4 : -1000000 ≤ i) (q : QA (rng i (j - i).toNat) M) : kRng2 QA [.int i, .int j] M := ⟨⟨h1, h2, h3, h4⟩, q⟩
theorem go_zip (h : al G M (kZip QA)) : aiZip al G M QA := h
theorem go_kzip (h0 : isL d = isL e) (h1 : items d = some ds) (h2 : items e = some es) (q : QA (zipD ds es) M) : kZip QA [d, e] M := by
  unfold kZip
  simp only [h1, h2]
  exact ⟨h0, q⟩
theorem go_lc {src : aA} {t : aT} {vs : List Nat} {G1 : Gm} (e : wipeG G vs = G1) (h : src G M fun ds M1 => ds.length ≤ 1000000 ∧ lcGo g t x G1 ds [] M1 fun acc M2 => Q (.list acc) M2) : aLc src g t x vs G M Q := by subst e; exact h
theorem go_lcM {src : aA} {t : aT} {vs : List Nat} {G1 : Gm} (e : wipeG G vs = G1) (h : src G M fun ds M1 => ds.length ≤ 1000000 ∧ lcGo g t x G1 ds [] M1 fun acc M2 => ∀ p, M2 p = none → Q (.ref p) (mupd M2 p (.lst acc))) : aLcM src g t x vs G M Q := by subst e; exact h
theorem go_fld {f : Str} (h : x G M (kFld K f Q)) : aFld K x f G M Q := h
theorem go_kfldO {f : Str} {C : Addr} {gs : List (Str × D)} (h1 : Cls K C) (h2 : NoAttr K C f) (h3 : gs.lookup f = some d) (q : Q d M) : kFld K f Q (.obj C gs) M := by
  unfold kFld
  simp only [h3]
  exact ⟨h1, h2, q⟩
theorem go_kfldM {f : Str} {C : Addr} {gs : List (Str × D)} (h : M a = some (.ins C gs)) (h1 : Cls K C) (h2 : NoAttr K C f) (h3 : gs.lookup f = some d) (q : Q d M) : kFld K f Q (.ref a) M := by
  unfold kFld
  simp only [h, h3]
  exact ⟨h1, h2, q⟩
theorem go_meth {C : Addr} {mm : Str} {sp : aSp} (h : x G M fun d M1 => kMeth C mm d M1 ∧ al G M1 fun ds M2 => ds.length + 1 = n ∧ sp (d :: ds) M2 Q) : aMeth C mm n sp x al G M Q := h
theorem go_kmethO {C : Addr} {mm : Str} {gs : List (Str × D)} (h : gs.lookup mm = none) : kMeth C mm (.obj C gs) M := ⟨rfl, h⟩
theorem go_setF {f : Str} (h : y G M fun v M1 => x G M1 (kSetF K f G nx v)) : asFld K x y f ⟨m0, nx, rt, bk, ct⟩ G M := h
theorem go_ksetF {f : Str} {C : Addr} {gs gs' : List (Str × D)} (h : M a = some (.ins C gs)) (h1 : Cls K C) (h2 : NoAttr K C f) (h3 : gs.length < 1000) (e : asFld.putG f d gs = gs') (q : nx G (mupd M a (.ins C gs'))) : kSetF K f G nx d (.ref a) M := by
  subst e
  unfold kSetF
  simp only [h]
  exact ⟨h1, h2, h3, q⟩
theorem go_dput {v : aE} (h : v G M fun v M1 => x G M1 fun d M2 => y G M2 (kDPut G nx v d)) : asDPut x y v ⟨m0, nx, rt, bk, ct⟩ G M := h
theorem go_kdputK {gs : List (Key × D)} {kk : Key} {v : D} (h : M a = some (.dK gs)) (h1 : gs.length < 1000000) (h2 : keyOf d = some kk) (q : nx G (mupd M a (.dK (putD gs kk v)))) : kDPut G nx v (.ref a) d M := by
  unfold kDPut putDk
  simp only [h, if_pos h1, h2, Option.map_some]
  exact q
theorem go_kdputT {gs : List (List Key × D)} {kk : List Key} {v : D} (h : M a = some (.dT gs)) (h1 : gs.length < 1000000) (h2 : keyT d = some kk) (q : nx G (mupd M a (.dT (putD gs kk v)))) : kDPut G nx v (.ref a) d M := by
  unfold kDPut putDk
  simp only [h, if_pos h1, h2, Option.map_some]
  exact q
theorem go_make {C : Addr} {sp : aSp} (h : al G M fun ds M1 => ds.length + 1 = n ∧ ∀ x, M1 x = none →
  sp (.ref x :: ds) (mupd M1 x (.ins C [])) fun r M2 => r = .non ∧ ∃ gs, M2 x = some (.ins C gs) ∧ Q (.obj C gs) (mdel M2 x)) : aMake C n sp al G M Q := h
variable {QP : List (D × D) → Mp → Prop} {ps : List (aE × aE)} {QO : Option Int → Mp → Prop}
theorem go_pnil (q : QP [] M) : aPairs [] G M QP := q
theorem go_pcons (h : x G M fun d M1 => y G M1 fun e M2 => aPairs ps G M2 fun qs M3 => QP ((d, e) :: qs) M3) : aPairs ((x, y) :: ps) G M QP := h
theorem go_dispK (h : aPairs ps G M (kDisK Q)) : aDispKM ps G M Q := h
theorem go_dispT (h : aPairs ps G M (kDisT Q)) : aDispTM ps G M Q := h
theorem go_kdisK {qs : List (D × D)} {ms : List (Key × D)} (h : keyPs qs = some ms) (h2 : ms.length ≤ 15) (q : ∀ p, M p = none → Q (.ref p) (mupd M p (.dK (mergeD [] ms)))) : kDisK Q qs M := by
  unfold kDisK
  simp only [h]
  exact ⟨h2, q⟩
theorem go_kdisT {qs : List (D × D)} {ms : List (List Key × D)} (h : keyTs qs = some ms) (h2 : ms.length ≤ 15) (q : ∀ p, M p = none → Q (.ref p) (mupd M p (.dT (mergeD [] ms)))) : kDisT Q qs M := by
  unfold kDisT
  simp only [h]
  exact ⟨h2, q⟩
theorem go_sl {f : D → Option Int → Option Int → Mp → QD → Prop} {lo hi : aO} (h : x G M fun d M1 => lo G M1 fun lo M2 => hi G M2 fun hi M3 => f d lo hi M3 Q) : aSl f x lo hi G M Q := h
theorem go_onone (q : QO none M) : aoNone G M QO := q
theorem go_osome (h : x G M (kPart QO)) : aoSome x G M QO := h
theorem go_kpart {i : Int} (q : QO (some i) M) : kPart QO (.int i) M := q
theorem go_slL {lo hi : Option Int} (h : itemsM M d = some ds) (h2 : isLM d = true) (q : Q (.list (cutD ds lo hi)) M) : fSl d lo hi M Q := by
  cases d <;> first | (simp [isLM, isL] at h2; done) | (unfold fSl; simp only [h, h2, if_true]; exact q)
theorem go_chain {f g : V2} {z : aE} (h : x G M fun d M1 => y G M1 fun e M2 => f d e M2 (kChain G g z Q e)) : aChain f g x y z G M Q := h
theorem go_kchain {g : V2} {z : aE} (h : if k = true then z G M fun w M4 => g d w M4 Q else Q (.bl false) M) : kChain G g z Q d (.bl k) M := h
theorem go_inI {neg : Bool} {i : Int} (h : itemsM M e = some ds) (h2 : ds.all flatD = true) (q : Q (.bl (if neg then !memD (.int i) ds else memD (.int i) ds)) M) : fIn neg (.int i) e M Q := by
  unfold fIn
  simp only [h]
  exact ⟨rfl, h2, q⟩
theorem go_inD {neg : Bool} {o : Option D} (h0 : itemsM M e = none) (h : getDk M e d = some o) (q : Q (.bl (if neg then !o.isSome else o.isSome)) M) : fIn neg d e M Q := by
  unfold fIn
  simp only [h0, h]
  exact q
theorem itemsM_dT {gs : List (List Key × D)} (h : M a = some (.dT gs)) : itemsM M (.ref a) = none := by simp only [itemsM, h]
theorem itemsM_dK {gs : List (Key × D)} (h : M a = some (.dK gs)) : itemsM M (.ref a) = none := by simp only [itemsM, h]
theorem getDk_dT {gs : List (List Key × D)} {kk : List Key} (h : M a = some (.dT gs)) (h2 : keyT d = some kk) : getDk M (.ref a) d = some (valD gs kk) := by simp only [getDk, h, h2, Option.map_some]
theorem getDk_dK {gs : List (Key × D)} {kk : Key} (h : M a = some (.dK gs)) (h2 : keyOf d = some kk) : getDk M (.ref a) d = some (valD gs kk) := by simp only [getDk, h, h2, Option.map_some]
theorem go_maxT (h : items d = some ds) (h0 : isL d = false) {bs : List Int} (h2 : intsD ds = some bs) (h3 : 0 < bs.length) (q : ∀ mm, mm ∈ bs → (∀ y, y ∈ bs → y ≤ mm) → Q (.int mm) M) : fMaxT [d] M Q := by
  unfold fMaxT
  simp only [h, Option.bind_some, h2]
  exact ⟨h0, h3, q⟩
theorem go_all {bs : List Bool} (h : itemsM M d = some ds) (h0 : isLM d = true) (h2 : bools ds = some bs) (q : Q (.bl (bs.all _root_.id)) M) : fAll [d] M Q := by
  unfold fAll
  simp only [h, Option.bind_some, h2]
  exact ⟨h0, q⟩
theorem go_mulL {k : Int} (h0 : 0 ≤ k) (h1 : k ≤ 1000000) (h2 : ds.length * k.toNat ≤ 1000000) (q : Q (.list (List.replicate k.toNat ds).flatten) M) : fMul (.list ds) (.int k) M Q := ⟨h0, h1, h2, q⟩
theorem cmulL {i j : Int} (h1 : -18446744073709551616 < i) (h2 : i < 18446744073709551616) : CMul i j := .inl ⟨by omega, by omega⟩
theorem cmulR {i j : Int} (h1 : -18446744073709551616 < j) (h2 : j < 18446744073709551616) : CMul i j := .inr ⟨by omega, by omega⟩
end
end DL

set_option Elab.async false
set_option linter.all false
set_option maxRecDepth 100000
namespace DL
open PySem PySem.Spec PyProof.Rows L2
/-! ### lists within a value stand still from now on -/
mutual
inductive Dz (M : Mp) (L : List Addr) : D → D → Prop
  | same (d : D) : Dz M L d d
  | ref {a : Addr} {ds es : List D} : a ∈ L → M a = some (.lst ds) → Dzs M L ds es → Dz M L (.ref a) (.list es)
  | list {ds es : List D} : Dzs M L ds es → Dz M L (.list ds) (.list es)
  | tup {ds es : List D} : Dzs M L ds es → Dz M L (.tup ds) (.tup es)
inductive Dzs (M : Mp) (L : List Addr) : List D → List D → Prop
  | nil : Dzs M L [] []
  | cons {d e : D} {ds es : List D} : Dz M L d e → Dzs M L ds es → Dzs M L (d :: ds) (e :: es)
end
def mdelL (M : Mp) : List Addr → Mp
  | [] => M
  | a :: r => mdelL (mdel M a) r
theorem mdel_ne {M : Mp} {a b : Addr} (h : b ≠ a) : mdel M a b = M b := by unfold mdel; rw [if_neg h]
theorem mdel_same {M : Mp} {a : Addr} : mdel M a a = none := by unfold mdel; rw [if_pos rfl]
theorem mdelL_get {b : Addr} : ∀ {L : List Addr} {M : Mp}, mdelL M L b = if b ∈ L then none else M b
  | [], M => by simp [mdelL]
  | a :: r, M => by
    rw [mdelL, mdelL_get (L := r)]
    by_cases q : b = a
    · subst q; simp [mdel_same]
    · rw [mdel_ne q]; simp [q]
section
variable {K : PySem.W.Frag} {M0 M M' : Mp} {d : D} {Q : QD} {L : List Addr}
mutual
theorem dz_sound {N N' H : Hp} (s : Same N N') (hL : ∀ a ds, a ∈ L → M a = some (.lst ds) → ∃ xs, N' a = some (.lst xs) ∧ RelL K N xs ds) : ∀ {d e : D} {v : V}, Dz M L d e → RelD K N v d → RelD K N' v e
  | _, _, _, .same d, r => r.mono s
  | _, _, _, .ref ha hm z, r => by
    have e := rel_ref r
    subst e
    obtain ⟨xs, h1, h2⟩ := hL _ _ ha hm
    exact .list h1 (dzs_sound (H := H) s hL z h2)
  | _, _, _, .list z, r => by
    cases r with
    | list h1 h2 => exact .list (s _ _ h1) (dzs_sound (H := H) s hL z h2)
  | _, _, _, .tup z, r => by
    cases r with
    | tup h1 h2 => exact .tup (s _ _ h1) (dzs_sound (H := H) s hL z h2)
theorem dzs_sound {N N' H : Hp} (s : Same N N') (hL : ∀ a ds, a ∈ L → M a = some (.lst ds) → ∃ xs, N' a = some (.lst xs) ∧ RelL K N xs ds) : ∀ {d e : List D} {v : List V}, Dzs M L d e → RelL K N v d → RelL K N' v e
  | _, _, _, .nil, r => by cases r; exact .nil
  | _, _, _, .cons z zs, r => by
    cases r with
    | cons h1 h2 => exact .cons (dz_sound (H := H) s hL z h1) (dzs_sound (H := H) s hL zs h2)
end
/-- all lists of L are read as standing -/
theorem freezeL : ∀ (L : List Addr) {M : Mp} {N0 H0 N H : Hp}, L.Nodup → (∀ a, a ∈ L → (∃ ds, M a = some (.lst ds)) ∧ M0 a = none) → Fr M0 N0 H0 M N H → CM K M N H →
    ∃ N', Fr M0 N0 H0 (mdelL M L) N' H ∧ CM K (mdelL M L) N' H ∧ Same N N' ∧ ∀ a ds, a ∈ L → M a = some (.lst ds) → ∃ xs, N' a = some (.lst xs) ∧ RelL K N xs ds
  | [], M, N0, H0, N, H, _, _, f, c => ⟨N, f, c, Same.refl N, fun a ds h => by simp at h⟩
  | a :: r, M, N0, H0, N, H, nd, h, f, c => by
    obtain ⟨⟨ds, ha⟩, h0⟩ := h a (by simp)
    obtain ⟨hn, hr⟩ := List.nodup_cons.mp nd
    obtain ⟨hN, xs, hH, rx⟩ := c.hm a _ ha
    have C : CC K ⟨M0, N0, H0⟩ [] M N [] H := ⟨f, c, rfl, fun i d e => by simp at e⟩
    have C2 := C.freeze hN hH (f.h0 ha h0)
    obtain ⟨N', f', c', s', k'⟩ := freezeL r (M := mdel M a) hr (fun b hb => by
      have hne : b ≠ a := fun e => hn (e ▸ hb)
      rw [mdel_ne hne]
      exact h b (by simp [hb])) C2.fr C2.cm
    refine ⟨N', f', c', (same_new hN).trans s', fun b es hb hm => ?_⟩
    rcases List.mem_cons.mp hb with rfl | hb
    · rw [ha] at hm
      cases hm
      exact ⟨xs, s' _ _ upd_same, rx⟩
    · have hne : b ≠ a := fun e => hn (e ▸ hb)
      obtain ⟨N1, hx, rz⟩ := c.hm b _ hm
      obtain ⟨ys, h1, h2⟩ := k' b es hb (by rw [mdel_ne hne]; exact hm)
      obtain ⟨h3, h4⟩ := rz
      have := c'.sm _ _ h1
      rw [h3] at this
      cases this
      exact ⟨_, h1, h4⟩
theorem cv_deep {d d' : D} (z : Dz M L d d') (hn : L.Nodup) (h : ∀ a, a ∈ L → (∃ ds, M a = some (.lst ds)) ∧ M0 a = none) : Cv K M0 d M d' (mdelL M L) := fun N0 H0 N H v f c r => by
  obtain ⟨N', f', c', s', k'⟩ := freezeL L hn h f c
  exact ⟨N', f', c', dz_sound (H := H) s' k' z r⟩
theorem Fin.deep {d d' : D} (z : Dz M L d d') (hn : L.Nodup) (h : ∀ a, a ∈ L → (∃ ds, M a = some (.lst ds)) ∧ M0 a = none) (s : Sub M' (mdelL M L)) (q : Q d' M') : Fin K M0 Q d M := ⟨_, _, (cv_deep z hn h).trans (cv_sub s), q⟩
end
end DL
namespace DL
open PySem PySem.Spec PyProof.Rows L2
theorem length_rng {lo : Int} {n : Nat} : (rng lo n).length = n := by simp [rng]
theorem rng_get {lo : Int} {n i : Nat} {d : D} (h : (rng lo n)[i]? = some d) : i < n ∧ d = .int (lo + (i : Int)) := by
  unfold rng at h
  rw [List.getElem?_map] at h
  obtain ⟨j, h1, h2⟩ := Option.map_eq_some_iff.mp h
  rw [List.getElem?_range (by
    by_cases q : i < n
    · exact q
    · rw [List.getElem?_eq_none (by simp; omega)] at h1; cases h1)] at h1
  cases h1
  refine ⟨?_, h2.symm⟩
  by_cases q : i < n
  · exact q
  · rw [List.getElem?_eq_none (by simp; omega)] at h; cases h
theorem length_zipD {ds es : List D} : (zipD ds es).length = min ds.length es.length := by simp [zipD]
theorem dzs_same {M : Mp} {L : List Addr} : ∀ ds : List D, Dzs M L ds ds
  | [] => .nil
  | d :: r => .cons (.same d) (dzs_same r)
end DL
namespace DL
open PySem PySem.Spec PyProof.Rows L2
section
variable {M : Mp} {G : Gm} {x : aE} {g : aG} {t : aT} {ds : List D} {QA : List D → Mp → Prop}
/-- a comprehension that only picks -/
theorem go_lcF (p : D → Bool) (h : ∀ (i : Nat) d (KY : D → Mp → Prop) (KN : Mp → Prop), ds[i]? = some d → (p d = true → KY d M) → (p d = false → KN M) → g d G M fun G' M1 => t G' M1 fun b M2 => if b = true then x G' M2 KY else KN M2)
    (q : QA (ds.filter p) M) : lcGo g t x G ds [] M QA := go_lcP p (fun d => d) h (by rw [List.map_id']; exact q)
/-- a pick from a range -/
theorem go_lcR {n : Nat} (P : Int → Prop) (h : ∀ (i : Int) (KY : D → Mp → Prop) (KN : Mp → Prop), 0 ≤ i → i < n → (P i → KY (.int i) M) → (¬ P i → KN M) → g (.int i) G M fun G' M1 => t G' M1 fun b M2 => if b = true then x G' M2 KY else KN M2)
    (q : ∀ ns : List Int, (∀ i, i ∈ ns ↔ 0 ≤ i ∧ i < n ∧ P i) → ns.length ≤ n → QA (ns.map .int) M) : lcGo g t x G (rng 0 n) [] M QA := by
  refine go_lcI (fun i acc M' => M' = M ∧ ∃ ns : List Int, acc = ns.map .int ∧ ns.length ≤ i ∧ ∀ j, j ∈ ns ↔ 0 ≤ j ∧ j < i ∧ P j) ⟨rfl, [], rfl, by simp, fun j => ⟨fun h => by simp at h, fun h => by omega⟩⟩ (fun i d acc M' KY KN hd hI hY hN => ?_) (fun acc M' hI => ?_)
  · obtain ⟨rfl, ns, rfl, hl, hm⟩ := hI
    obtain ⟨hlt, rfl⟩ := rng_get hd
    refine h _ KY KN (by omega) (by omega) (fun hp => hY _ _ ⟨rfl, ns ++ [0 + (i : Int)], by simp, by simp; omega, fun j => ?_⟩) (fun hp => hN _ ⟨rfl, ns, rfl, by omega, fun j => ?_⟩)
    · rw [List.mem_append, hm, List.mem_singleton]
      constructor
      · rintro (⟨h1, h2, h3⟩ | rfl)
        · exact ⟨h1, by omega, h3⟩
        · exact ⟨by omega, by omega, hp⟩
      · rintro ⟨h1, h2, h3⟩
        by_cases q : j = 0 + (i : Int)
        · exact .inr q
        · exact .inl ⟨h1, by omega, h3⟩
    · rw [hm]
      constructor
      · rintro ⟨h1, h2, h3⟩; exact ⟨h1, by omega, h3⟩
      · rintro ⟨h1, h2, h3⟩
        by_cases q : j = 0 + (i : Int)
        · subst q; exact absurd h3 hp
        · exact ⟨h1, by omega, h3⟩
  · obtain ⟨rfl, ns, rfl, hl, hm⟩ := hI
    rw [length_rng] at hl hm
    exact q ns hm hl
end
end DL
namespace DL
open PySem PySem.Spec PyProof.Rows L2
section
variable {K : PySem.W.Frag} {M : Mp} {d : D} {Q : QD} {n t : String} {b : Bool} {ts : List D} {ns : List String}
theorem go_isi (hn : n ∈ tyNames) (ht : tyD M d = some t) (hb : tyIs t n = b) (q : Q (.bl b) M) : fIsi K [d, .ty n] M Q := by
  subst hb
  refine ⟨hn, ?_⟩
  split
  · cases ht
  · rw [ht]; exact q
theorem go_isiC {C : Addr} {gs : List (Str × D)} (hn : n ∈ tyNames) (ho : ObT K C) (q : Q (.bl false) M) : fIsi K [.obj C gs, .ty n] M Q := ⟨hn, ho, q⟩
theorem go_isiT (h0 : tysOf ts = some ns) (hn : (ns.all fun n => tyNames.contains n) = true) (ht : tyD M d = some t) (hb : (ns.any fun n => tyIs t n) = b) (q : Q (.bl b) M) : fIsiT K [d, .tup ts] M Q := by
  subst hb
  unfold fIsiT
  simp only [h0]
  refine ⟨hn, ?_⟩
  split
  · cases ht
  · rw [ht]; exact q
end
/-- a promise that is never used -/
theorem ok_never {P : Program} {w : World} {K : PySem.W.Frag} {mg : Str → Option Value} {base : Heap} {CX : CXT} {k : Nat} {f : Addr} {fd : FuncData} {ps : List Str} {n : Nat} {sp : aSp} (h : ∀ ds M Q, ¬ sp ds M Q) : FnOk P w K mg base CX k f fd ps (lift K n sp) :=
  ⟨fun _ _ _ _ ⟨_, _, _, _, _, _, _, z, _⟩ => (h _ _ _ z).elim, fun _ _ _ _ _ _ _ _ _ _ _ _ _ ⟨_, _, _, _, _, _, _, z, _⟩ => (h _ _ _ z).elim⟩
end DL
namespace DL
open PySem PySem.Spec PyProof.Rows L2
theorem go_isB {M : Mp} {d : D} {Q : QD} {b : Bool} (h : isNon d = b) (q : Q (.bl b) M) : fIs d .non M Q := by subst h; exact q
theorem go_isnotB {M : Mp} {d : D} {Q : QD} {b : Bool} (h : isNon d = b) (q : Q (.bl (!b)) M) : fIsNot d .non M Q := by subst h; exact q
end DL
namespace DL
open PySem PySem.Spec PyProof.Rows L2
theorem go_eqS {M : Mp} {i j : Str} {Q : QD} (h : PyData.strOk i = true) (h2 : PyData.strOk j = true) (q : Q (.bl (i == j)) M) : fEq (.str i) (.str j) M Q := ⟨h, h2, q⟩
end DL
namespace DL
open PySem PySem.Spec PyProof.Rows L2
theorem truD_ref {M : Mp} {a : Addr} {ds : List D} (h : M a = some (.lst ds)) : truD M (.ref a) = some (!ds.isEmpty) := by simp only [truD, h]
end DL
namespace DL
open PySem PySem.Spec PyProof.Rows L2
inductive Dzg (M : Mp) (L : List Addr) : Gm → Gm → Prop
  | nil : Dzg M L [] []
  | non {G G' : Gm} : Dzg M L G G' → Dzg M L (none :: G) (none :: G')
  | drop {d : D} {G G' : Gm} : Dzg M L G G' → Dzg M L (some d :: G) (none :: G')
  | cons {d e : D} {G G' : Gm} : Dz M L d e → Dzg M L G G' → Dzg M L (some d :: G) (some e :: G')
theorem Dzg.len {M : Mp} {L : List Addr} : ∀ {G G' : Gm}, Dzg M L G G' → G.length = G'.length
  | _, _, .nil => rfl
  | _, _, .non h => by simp [h.len]
  | _, _, .drop h => by simp [h.len]
  | _, _, .cons _ h => by simp [h.len]
theorem Dzg.get {M : Mp} {L : List Addr} : ∀ {G G' : Gm} {i : Nat} {e : D}, Dzg M L G G' → G'[i]? = some (some e) → ∃ d, G[i]? = some (some d) ∧ Dz M L d e
  | _, _, _, _, .nil, h => by simp at h
  | _, _, 0, _, .non _, h => by simp at h
  | _, _, 0, _, .drop _, h => by simp at h
  | _, _, 0, _, .cons z _, h => by simp at h; subst h; exact ⟨_, rfl, z⟩
  | _, _, i + 1, _, .non z, h => by simp at h; simpa using z.get h
  | _, _, i + 1, _, .drop z, h => by simp at h; simpa using z.get h
  | _, _, i + 1, _, .cons _ z, h => by simp at h; simpa using z.get h
theorem Dzg.same {M : Mp} {L : List Addr} : ∀ G : Gm, Dzg M L G G
  | [] => .nil
  | none :: G => .non (Dzg.same G)
  | some d :: G => .cons (.same d) (Dzg.same G)
/-- lists of ours stand still from now on, wherever they are held -/
theorem Cvt.freeze {m0 M M' : Mp} {G G' : Gm} {L : List Addr} (hn : L.Nodup) (h : ∀ a, a ∈ L → (∃ ds, M a = some (.lst ds)) ∧ m0 a = none) (hg : Dzg M L G G')
    (hM : ∀ x c, M' x = some c → x ∉ L ∧ (M x = some c ∨ ∃ ds es, M x = some (.lst ds) ∧ c = .lst es ∧ Dzs M L ds es)) : Cvt m0 G M G' M' := by
  intro K E N σ H e C
  subst e
  obtain ⟨N', f', c', s', k'⟩ := freezeL L hn h C.fr C.cm
  refine ⟨N', ⟨⟨f'.nn, fun a o h1 h2 => ?_, f'.new, f'.dom⟩, ⟨c'.sm, fun x c hx => ?_⟩, ?_⟩, s'⟩
  · obtain ⟨h3, h4⟩ := C.fr.keep a o h1 h2
    refine ⟨h3, ?_⟩
    cases q : M' a with
    | none => rfl
    | some c =>
      rcases (hM a c q).2 with h5 | ⟨_, _, h5, _⟩ <;> (rw [h4] at h5; cases h5)
  · obtain ⟨h1, h2⟩ := hM x c hx
    have hd : ∀ c0, M x = some c0 → mdelL M L x = some c0 := fun c0 e => by rw [mdelL_get, if_neg h1]; exact e
    rcases h2 with h2 | ⟨ds, es, h2, rfl, z⟩
    · exact c'.hm x c (hd _ h2)
    · obtain ⟨n1, _⟩ := c'.hm x _ (hd _ h2)
      obtain ⟨_, xs, h3, h4⟩ := C.cm.hm x _ h2
      exact ⟨n1, xs, h3, dzs_sound (H := H) s' k' z h4⟩
  · refine ⟨by rw [C.sl.1, hg.len], fun i d hi => ?_⟩
    obtain ⟨d0, h1, h2⟩ := hg.get hi
    obtain ⟨v, h3, h4⟩ := C.sl.2 i d0 h1
    exact ⟨v, h3, dz_sound (H := H) s' k' h2 h4⟩
end DL
namespace DL
open PySem PySem.Spec PyProof.Rows L2
theorem go_callN {n m nn : Nat} {sp : aSp} {gD : List D → List D → List D} {al a2 : aA} {G : Gm} {M : Mp} {Q : QD} (h : al G M fun ds M1 => a2 G M1 fun es M2 => ds.length = n ∧ es.length = m ∧ (gD ds es).length = nn ∧ sp (gD ds es) M2 Q) : aCallN n m nn sp gD al a2 G M Q := h
end DL

set_option Elab.async false
set_option linter.all false
set_option maxRecDepth 100000
namespace DL
open PySem PySem.Spec PyProof.Rows L2
/-! ### slices with a step -/
def stIx (n : Nat) (lo hi st : Option Int) : List Nat := sliceRange (sliceBounds lo hi st n).1 (sliceBounds lo hi st n).2.1 (sliceBounds lo hi st n).2.2
def pickL {t : Type} (xs : List t) (lo hi st : Option Int) : List t := (stIx xs.length lo hi st).filterMap (xs[·]?)
theorem pickL_mem {t : Type} {xs : List t} {lo hi st : Option Int} {x : t} (h : x ∈ pickL xs lo hi st) : x ∈ xs := by
  obtain ⟨i, _, h2⟩ := List.mem_filterMap.mp h
  exact List.mem_of_getElem? h2
theorem vals_pick {xs : List V} {us : List Value} (r : Vals xs us) : ∀ ix : List Nat, Vals (ix.filterMap (xs[·]?)) (ix.filterMap (us[·]?))
  | [] => .nil
  | i :: ix => by
    have ih := vals_pick r ix
    rw [List.filterMap_cons, List.filterMap_cons]
    by_cases h : i < xs.length
    · have e1 : xs[i]? = some (xs[i]'h) := List.getElem?_eq_getElem h
      obtain ⟨u, e2, r2⟩ := r.get e1
      simp only [e1, e2]
      exact .cons r2 ih
    · have e1 : xs[i]? = none := List.getElem?_eq_none (by omega)
      have e2 : us[i]? = none := List.getElem?_eq_none (by have := r.length; omega)
      simp only [e1, e2]
      exact ih
theorem rel_pick {K : PySem.W.Frag} {N : Hp} {xs : List V} {ds : List D} (r : RelL K N xs ds) : ∀ ix : List Nat, RelL K N (ix.filterMap (xs[·]?)) (ix.filterMap (ds[·]?))
  | [] => .nil
  | i :: ix => by
    have ih := rel_pick r ix
    rw [List.filterMap_cons, List.filterMap_cons]
    by_cases h : i < xs.length
    · have e1 : xs[i]? = some (xs[i]'h) := List.getElem?_eq_getElem h
      obtain ⟨u, e2, r2⟩ := r.get e1
      simp only [e1, e2]
      exact .cons r2 ih
    · have e1 : xs[i]? = none := List.getElem?_eq_none (by omega)
      have e2 : ds[i]? = none := List.getElem?_eq_none (by have := r.length; omega)
      simp only [e1, e2]
      exact ih
def tSl3 (K : PySem.W.Frag) (te : TE) (tl th ts : TO) : TE := fun σ H Q => te σ H fun x H1 => tl σ H1 fun l H2 => th σ H2 fun u H3 => ts σ H3 fun o H4 => ∃ a xs, x = .ref a ∧ SqL K H4 a xs ∧ o ≠ some 0 ∧ ∀ p, H4 p = none → Q (.ref p) (upd H4 p (.lst (pickL xs l u o)))
theorem pe_sl3 {X : Cx} {e st : Expr} {lo hi : Option Expr} {te : TE} {tl th ts : TO} {p3 pos : Pos} (he : PE X e te) (hl : PO X lo tl) (hu : PO X hi th) (hs : PO X (some st) ts) : PE X (.Subscript e (.Slice lo hi (some st) p3) pos) (tSl3 X.K te tl th ts) := by
  refine ⟨fun pins s σ H Q I h => ?_⟩
  refine Subscript_ (thn (he.run pins s σ H _ I h) fun v s1 ⟨x, H1, I1, r1, q1⟩ => ?_)
  refine wpAny_Slice (thn (hl.run pins s1 σ H1 _ I1 q1) fun vl s2 ⟨l, H2, I2, pl, q2⟩ => thn (hu.run pins s2 σ H2 _ I2 q2) fun vu s3 ⟨u, H3, I3, pu, q3⟩ => thn (hs.run pins s3 σ H3 _ I3 q3) fun vs s4 ⟨o, H4, I4, ps, q4⟩ => ?_)
  obtain ⟨a, xs, ex, hx, h0, q⟩ := q4
  subst ex
  obtain rfl : v = Value.ref a := r1
  have I5 : Inv X pins σ H4 { s4 with heap := s4.heap.push { cls := .type "slice", data := .fields #[vl, vu, vs] } } := I4.kept (t' := s4.toks) fun b ob q => Heap.get?_push_of_some _ q
  obtain ⟨its, r, ht, hz⟩ := I5.list hx
  have hlen := r.length
  have hzz : its.toArray.size ≤ sizeLine := by rw [List.size_toArray]; omega
  show wpAny (model X.prog X.w) X.A (subscriptTail e (.Slice lo hi (some st) p3) (.ref a) (.ref s4.heap.objs.size)) (EP X pins σ Q) X.xe { s4 with heap := s4.heap.push { cls := .type "slice", data := .fields #[vl, vu, vs] } }
  refine tail_any (ops := [.ref a, .ref s4.heap.objs.size]) ht.isList.typeIs (PySem.slot_list_getitem.lookup) ?_ (by with_unfolding_all rfl)
  refine wpAny_getItem_list_slice ht.isList (Heap.IsSliceOf.new _ vl vu vs) pl pu ps h0 ?_ hzz
  have ep : slicePick its.toArray l u o = (pickL its l u o).toArray := by
    unfold slicePick pickL stIx
    rw [List.size_toArray]
    simp only [List.getElem?_toArray]
  have rv : Vals (pickL xs l u o) (pickL its l u o) := by
    unfold pickL
    rw [hlen]
    exact vals_pick r _
  have hz2 := slicePick_size_le its.toArray l u o
  rw [ep, List.size_toArray] at hz2
  rw [ep]
  refine ⟨.ref _, _, I5.laid (t' := s4.toks) (o := .lst (pickL xs l u o)) (fun b ob q => Heap.get?_push_of_some _ q) (Nat.le_refl _) ?_, rfl, q _ (I5.hok.fresh (Nat.le_refl _))⟩
  exact ⟨by rw [rv.length]; exact Nat.le_trans hz2 hzz, _, 0, rv, Heap.get?_push_size _ rfl⟩
def kSl3 (Q : QD) (d : D) (lo hi st : Option Int) (M : Mp) : Prop := match itemsM M d with
  | some xs => isLM d = true ∧ st ≠ some 0 ∧ Q (.list (pickL xs lo hi st)) M
  | none => False
def aSl3 (x : aE) (l u s : aO) : aE := fun G M Q => x G M fun d M1 => l G M1 fun lo M2 => u G M2 fun hi M3 => s G M3 fun st M4 => kSl3 Q d lo hi st M4
section
variable {X : Cx} {K : PySem.W.Frag} {e st : Expr} {lo hi : Option Expr} {te : TE} {tl th ts : TO} {ae : aE} {al ah as : aO} {p3 pos : Pos}
theorem se_sl3 (h : SE K te ae) (h1 : SO K tl al) (h2 : SO K th ah) (h3 : SO K ts as) : SE K (tSl3 K te tl th ts) (aSl3 ae al ah as) := by
  intro E G M N σ H C Q Qc q k
  refine h E G M N σ H C _ _ q fun d v M1 N1 H1 q1 C1 s1 r1 => ?_
  refine h1 E G M1 N1 σ H1 C1 _ _ q1 fun lo M2 N2 H2 q2 C2 s2 => ?_
  refine h2 E G M2 N2 σ H2 C2 _ _ q2 fun hi M3 N3 H3 q3 C3 s3 => ?_
  refine h3 E G M3 N3 σ H3 C3 _ _ q3 fun st M4 N4 H4 q4 C4 s4 => ?_
  have r4 := ((r1.mono s2).mono s3).mono s4
  have k4 := k.from (s1.trans (s2.trans (s3.trans s4)))
  unfold kSl3 at q4
  split at q4
  · rename_i xs hx
    obtain ⟨p, vs, rfl, r5, h5⟩ := rel_itemsM C4.cm r4 hx
    rcases h5 with ⟨_, h5⟩ | ⟨e5, h5⟩
    · refine ⟨p, vs, rfl, h5, q4.2.1, fun q hq => k4.new C4 hq q4.2.2 fun N' s e => .list e ?_⟩
      unfold pickL
      rw [← r5.length]
      exact (rel_pick r5 _).mono s
    · rw [e5] at q4; cases q4.1
  · exact q4.elim
theorem de_slice3 (he : DE X e te ae) (hl : DO X lo tl al) (hu : DO X hi th ah) (hs : DO X (some st) ts as) : DE X (.Subscript e (.Slice lo hi (some st) p3) pos) (tSl3 X.K te tl th ts) (aSl3 ae al ah as) := ⟨pe_sl3 he.pe hl.po hu.po hs.po, se_sl3 he.se hl.so hu.so hs.so⟩
end
theorem go_sl3 {x : aE} {l u s : aO} {G : Gm} {M : Mp} {Q : QD} (h : x G M fun d M1 => l G M1 fun lo M2 => u G M2 fun hi M3 => s G M3 fun st M4 => kSl3 Q d lo hi st M4) : aSl3 x l u s G M Q := h
theorem go_ksl3 {d : D} {ds : List D} {lo hi st : Option Int} {M : Mp} {Q : QD} (h : itemsM M d = some ds) (h2 : isLM d = true) (h3 : st ≠ some 0) (q : Q (.list (pickL ds lo hi st)) M) : kSl3 Q d lo hi st M := by
  unfold kSl3
  rw [h]
  exact ⟨h2, h3, q⟩
theorem range_all {t : Type} : ∀ ds : List t, (List.range ds.length).filterMap (ds[·]?) = ds := fun ds => by
  apply List.ext_getElem?
  intro i
  have : (List.range ds.length).filterMap (ds[·]?) = ds := by
    induction ds with
    | nil => rfl
    | cons a r ih =>
      rw [List.length_cons, List.range_succ_eq_map, List.filterMap_cons]
      simp only [List.getElem?_cons_zero, List.filterMap_map]
      congr 1
  rw [this]
theorem pick_rev {t : Type} (ds : List t) : pickL ds none none (some (-1)) = ds.reverse := by
  unfold pickL stIx
  have hb := PySem.W.krv_bounds ds.length
  rw [hb]
  show (sliceRange ((ds.length : Int) - 1) (-1) (-1)).filterMap (ds[·]?) = _
  rw [PySem.W.krv_sliceRange, PySem.W.krv_range, List.filterMap_reverse, range_all]
end DL
namespace DL
open PySem PySem.Spec PyProof.Rows L2
/-! ### the keys of a dict that changes, as a list -/
def keyD : Key → D
  | .inl i => .int i
  | .inr x => .str x
theorem keyD_rel {K : PySem.W.Frag} {N : Hp} : ∀ k : Key, RelD K N (kV k) (keyD k)
  | .inl i => .int i
  | .inr x => .str x
theorem keysD_rel {K : PySem.W.Frag} {N : Hp} : ∀ {kvs : List (Key × V)} {gs : List (Key × D)}, RelF K N kvs gs → RelL K N (kvs.map fun kv => kV kv.1) (gs.map fun kv => keyD kv.1)
  | _, _, .nil => .nil
  | _, _, .cons (x := x) _ r => .cons (keyD_rel x) (keysD_rel r)
def fListD : VL := fun ds M Q => match ds with
  | [.ref a] => (match M a with | some (.dK gs) => Q (.list (gs.map fun kv => keyD kv.1)) M | _ => False)
  | _ => False
theorem sl_listD {K : PySem.W.Frag} : SL K rListD fListD := by
  intro E G M N σ H C xs ds rx Q Qc h k
  unfold fListD at h
  split at h
  · rename_i a
    obtain ⟨v, rfl, r⟩ := rel1 rx
    have e := rel_ref r
    subst e
    split at h
    · rename_i gs e
      obtain ⟨kvs, hd, rf⟩ := C.cm.dKs e
      unfold rListD
      exact ⟨a, kvs, rfl, hd, fun q hq => k.new C hq h fun N' s e => .list e ((keysD_rel rf).mono s)⟩
    · exact h.elim
  · exact h.elim
theorem go_listD {a : Addr} {gs : List (Key × D)} {M : Mp} {Q : QD} (h : M a = some (.dK gs)) (q : Q (.list (gs.map fun kv => keyD kv.1)) M) : fListD [.ref a] M Q := by
  unfold fListD
  simp only [h]
  exact q
/-! ### dicts that only tell what was seen -/
def dSeen {k : Type} (F : List k) : List (k × D) := F.map fun q => (q, .bl true)
theorem valD_dSeen {k : Type} [DecidableEq k] (q : k) : ∀ F : List k, (valD (dSeen F) q).isSome = decide (q ∈ F)
  | [] => by simp [dSeen, valD]
  | p :: F => by
    have ih := valD_dSeen q F
    unfold dSeen valD at *
    rw [List.map_cons, List.find?_cons]
    by_cases h : p = q
    · subst h; simp
    · simp only [h, decide_false]
      rw [ih]
      simp [Ne.symm h]
theorem putD_new {k : Type} [DecidableEq k] {q : k} {F : List k} (h : q ∉ F) : putD (dSeen F) q (.bl true) = dSeen (F ++ [q]) := by
  unfold putD
  rw [if_neg]
  · simp [dSeen]
  · intro e
    obtain ⟨kv, h1, h2⟩ := List.any_eq_true.mp e
    obtain ⟨p, hp, rfl⟩ := List.mem_map.mp h1
    have := of_decide_eq_true h2
    subst this
    exact h hp
theorem putD_old {k : Type} [DecidableEq k] {q : k} {F : List k} (h : q ∈ F) : putD (dSeen F) q (.bl true) = dSeen F := by
  unfold putD
  have e : ((dSeen F).any fun kv => decide (kv.1 = q)) = true := List.any_eq_true.mpr ⟨(q, .bl true), List.mem_map.mpr ⟨q, h, rfl⟩, by simp⟩
  rw [if_pos e]
  unfold dSeen
  rw [List.map_map]
  apply List.map_congr_left
  intro p hp
  simp only [Function.comp]
  split <;> rfl
theorem putD_seen' {k : Type} [DecidableEq k] (q : k) (F : List k) : ∃ F', putD (dSeen F) q (.bl true) = dSeen F' ∧ (∀ p, p ∈ F' ↔ p ∈ F ∨ p = q) ∧ F'.length ≤ F.length + 1 := by
  by_cases h : q ∈ F
  · exact ⟨F, putD_old h, fun p => ⟨.inl, fun z => z.elim (fun y => y) (fun e => e ▸ h)⟩, by omega⟩
  · exact ⟨F ++ [q], putD_new h, fun p => by simp, by simp⟩
theorem keys_dSeen (F : List Int) : (dSeen (F.map Sum.inl : List Key)).map (fun kv => keyD kv.1) = F.map D.int := by
  unfold dSeen
  rw [List.map_map, List.map_map]
  rfl
/-! ### more forms -/
theorem go_extend {a : Addr} {xs ys : List D} {M : Mp} {Q : QD} (h : M a = some (.lst xs)) (h2 : xs.length + ys.length ≤ 1000000) (q : Q .non (mupd M a (.lst (xs ++ ys)))) : fExtend (.ref a) [.list ys] M Q := by
  unfold fExtend
  simp only [h]
  exact ⟨h2, q⟩
def kEnum (QA : List D → Mp → Prop) (ds : List D) (M : Mp) : Prop := match ds with
  | [d] => isL d = true ∧ (match items d with | some xs => QA (enumD xs) M | _ => False)
  | _ => False
theorem go_enum {al : aA} {G : Gm} {M : Mp} {QA : List D → Mp → Prop} (h : al G M (kEnum QA)) : aiEnum al G M QA := h
theorem go_kenum {d : D} {ds : List D} {M : Mp} {QA : List D → Mp → Prop} (h : items d = some ds) (h0 : isL d = true) (q : QA (enumD ds) M) : kEnum QA [d] M := by
  unfold kEnum
  simp only [h]
  exact ⟨h0, q⟩
theorem length_enumD {ds : List D} : (enumD ds).length = ds.length := by simp [enumD]
theorem eqOks_ints : ∀ (n : Nat) (cs : List Int), eqOks n (cs.map D.int) = true
  | _, [] => by simp [eqOks]
  | n, c :: cs => by
    simp only [List.map_cons, eqOks, Bool.and_eq_true]
    exact ⟨by simp [eqOk], eqOks_ints n cs⟩
end DL
namespace DL
open PySem PySem.Spec PyProof.Rows L2
/-! ### a, b = a list -/
def agUnl (n : Nat) (r : aGs) : aG := fun d G M Q => match d with
  | .list ds => ds.length = n ∧ r ds G M Q
  | _ => False
theorem dg_unl {X : Cx} {tgs : List Expr} {gs : TGs} {ags : aGs} {pos : Pos} {k n : Nat} (h : DGs X tgs gs ags) (hc : X.calm = true := by rfl) (hn : (assignEach tgs X.env).length = n := by rfl) (hst : (assignEach tgs X.env).findIdx? (·.1) = none := by rfl) :
    DG X (.Tuple tgs k pos) (gUnl X.K n gs) (agUnl n ags) := ⟨pg_unl hc h.pg hn hst, by
  intro E G M N σ H C v d r Q Qc q k
  unfold agUnl at q
  split at q
  · cases r with | list h1 r1 =>
    exact ⟨_, _, rfl, C.cm.sm.seq (.inl (.inl h1)), by rw [r1.length]; exact q.1, h.sg E G M N σ H C _ _ r1 Q Qc q.2 k⟩
  · exact q.elim⟩
theorem go_unl {n : Nat} {gs : aGs} {ds : List D} {G : Gm} {M : Mp} {QG : Gm → Mp → Prop} (e : ds.length = n) (h : gs ds G M QG) : agUnl n gs (.list ds) G M QG := ⟨e, h⟩
end DL

set_option Elab.async false
set_option linter.all false
set_option maxRecDepth 100000
namespace DL
open PySem PySem.Spec PyProof.Rows L2
/-! ### a list many times, as a list that may change -/
section
variable {X : Cx} {K : PySem.W.Frag} {a b : Expr} {ta tb : TE} {aa ab : aE} {pos : Pos}
def fMulM : V2 := fun d e M Q => match d, e with
  | .list xs, .int k => 0 ≤ k ∧ k ≤ 1000000 ∧ xs.length * k.toNat ≤ 1000000 ∧ ∀ p, M p = none → Q (.ref p) (mupd M p (.lst (List.replicate k.toNat xs).flatten))
  | _, _ => False
theorem s2_mulM : S2 K rMulA fMulM := by
  intro E G M N σ H C x y d e rx ry Q Qc h k
  unfold fMulM at h
  split at h
  · cases rx with | list h1 r1 => cases ry with | int z =>
    obtain ⟨z0, z1, z2, z3⟩ := h
    refine .inr ⟨_, _, _, rfl, rfl, C.cm.sm _ _ h1, by omega, by omega, ?_, fun p hp => ?_⟩
    · rw [r1.length]; exact big_le z2
    · exact k.newM C hp (hasL upd_same (r1.rep _)) (z3 p (C.cm.noneM hp))
  · exact h.elim
theorem de_mulM (ha : DE X a ta aa) (hb : DE X b tb ab) : DE X (.BinOp a .Mult b pos) (tOp rMulA ta tb) (aBin fMulM aa ab) := ⟨pe_op (OpR.or op_mul op_rep) ha.pe hb.pe, se_op s2_mulM ha.se hb.se⟩
theorem go_mulM {M : Mp} {Q : QD} {ds : List D} {k : Int} (h0 : 0 ≤ k) (h1 : k ≤ 1000000) (h2 : ds.length * k.toNat ≤ 1000000) (q : ∀ p, M p = none → Q (.ref p) (mupd M p (.lst (List.replicate k.toNat ds).flatten))) : fMulM (.list ds) (.int k) M Q := ⟨h0, h1, h2, q⟩
end
/-! ### a value equals itself -/
theorem eqv_self {d : D} {n : Nat} (h : eqOk n d = true) : eqv d d = true := PySem.SeqAt.eqv_refl _ (shaped_of n d h).1
theorem go_neSame {M : Mp} {d : D} {Q : QD} (hs : snap M d = d) (h : eqOk 9 d = true) (q : Q (.bl false) M) : fNe d d M Q := by
  refine ⟨by rw [hs]; exact h, by rw [hs]; exact h, ?_⟩
  rw [hs, eqv_self h]
  exact q
theorem go_eqSame {M : Mp} {d : D} {Q : QD} (hs : snap M d = d) (h : eqOk 9 d = true) (q : Q (.bl true) M) : fEq d d M Q := by
  refine ⟨by rw [hs]; exact h, by rw [hs]; exact h, ?_⟩
  rw [hs, eqv_self h]
  exact q
end DL

section
open PySem PySem.Spec PyProof.Rows L2 DL
local macro_rules | `(tactic| walk_at "ne") => `(tactic| first
  | assumption
  | exact Ne.symm (by assumption)
  | exact mne (by assumption) (by assumption)
  | exact Ne.symm (mne (by assumption) (by assumption)))
local macro_rules | `(tactic| walk_at "look") => `(tactic| first
  | assumption
  | exact mupd_same
  | (refine (mupd_ne ?k1).trans ?k2; (case k1 => walk_at "ne"); (case k2 => walk_at "look")))
local macro_rules | `(tactic| walk_at "itm") => `(tactic| first
  | exact rfl
  | exact itemsM_ref (by walk_at "look"))
local macro_rules | `(tactic| walk_at "lia") => `(tactic| first
  | omega
  | (simp only [List.length_cons, List.length_nil, List.length_map, List.length_append, List.length_set, length_rng, length_zipD, length_enumD]; omega))
local macro_rules | `(tactic| walk_at "cnd") => `(tactic| first
  | assumption
  | omega
  | (simp only [List.length_cons, List.length_nil, List.length_map, List.length_append, List.length_set, length_rng, length_zipD, length_enumD]; omega)
  | exact cmulR (by omega) (by omega)
  | exact cmulL (by omega) (by omega)
  | exact ⟨by omega, by omega⟩
  | exact ⟨by decide, by decide, by decide⟩)
local macro_rules | `(tactic| walk_at "go1") => `(tactic| first
  | (with_reducible refine' go_cvU ?_)
  | (with_reducible refine' go_sAsg ?_) | (with_reducible refine' go_sDrop ?_) | (with_reducible refine' go_sPar ?_) | (with_reducible refine' go_sPar3 ?_) | (with_reducible refine' go_sAug ?_) | (with_reducible refine' go_sFld ?_) | (with_reducible refine' go_sDPut ?_) | (with_reducible refine' go_next ?_) | (with_reducible refine' go_break ?_) | (with_reducible refine' go_cont ?_)
  | (with_reducible refine' go_drop ?_) | (with_reducible refine' go_ret ?_) | (with_reducible refine' go_retN ?_) | (with_reducible refine' go_if ?_) | (with_reducible refine' go_asg ?_)
  | (with_reducible refine' go_par ?_) | ((with_reducible refine' go_kpar ?k1 ?k2 ?_); (case k1 => simp only [List.set_cons_zero, List.set_cons_succ]; exact rfl); (case k2 => simp only [List.set_cons_zero, List.set_cons_succ]; exact rfl))
  | (with_reducible refine' go_par3 ?_) | ((with_reducible refine' go_kpar3 ?k1 ?k2 ?k3 ?_); (case k1 => simp only [List.set_cons_zero, List.set_cons_succ]; exact rfl); (case k2 => simp only [List.set_cons_zero, List.set_cons_succ]; exact rfl); (case k3 => simp only [List.set_cons_zero, List.set_cons_succ]; exact rfl))
  | ((with_reducible refine' go_aug ?k1 ?_); (case k1 => exact rfl)) | (with_reducible refine' go_for ?_)
  | ((with_reducible refine' go_name ?k1 ?_); (case k1 => simp only [List.set_cons_zero, List.set_cons_succ]; exact rfl))
  | ((with_reducible refine' go_tup ?k1 ?_); (case k1 => exact rfl)) | ((with_reducible refine' go_unl ?k1 ?_); (case k1 => exact rfl)) | (with_reducible refine' go_gcons ?_) | (with_reducible refine' go_gnil ?_)
  | (with_reducible refine' go_subL ?_) | ((with_reducible refine' go_ksub ?k1 ?k2 ?k3 ?_); (case k1 => walk_at "look"); (first | (case k2 => exact rfl) | (case' k2 => skip)); (first | (case k3 => first | (simp only [Int.reduceToNat, List.set_cons_zero, List.set_cons_succ]; exact rfl) | exact rfl) | (case' k3 => skip)))
  | ((with_reducible refine' go_var ?k1 ?_); (case k1 => exact rfl)) | (with_reducible refine' go_c ?_) | (with_reducible refine' go_bin ?_) | (with_reducible refine' go_un ?_)
  | (with_reducible refine' go_anil ?_) | (with_reducible refine' go_acons ?_)
  | (with_reducible refine' go_atup ?_) | (with_reducible refine' go_alst ?_) | (with_reducible refine' go_alstM ?_) | (with_reducible refine' go_cb ?_)
  | (with_reducible refine' go_bm ?_) | (with_reducible refine' go_bm0 ?_) | (with_reducible refine' go_call ?_) | (with_reducible refine' go_callN ?_) | (with_reducible refine' go_if' ?_)
  | (with_reducible refine' go_test ?_) | (with_reducible refine' go_ktest ?_) | (with_reducible refine' go_tru ?_) | ((with_reducible refine' go_ktru ?k1 ?_); (case k1 => first | exact rfl | exact truD_ref (by walk_at "look")))
  | (with_reducible refine' go_tand ?_) | (with_reducible refine' go_tor ?_) | (with_reducible refine' go_tnot ?_) | (with_reducible refine' go_andV ?_) | (with_reducible refine' go_kandV ?_) | (with_reducible refine' go_orV ?_) | (with_reducible refine' go_korV ?_) | (with_reducible refine' go_tyes ?_)
  | (with_reducible refine' go_addI ?_) | ((with_reducible refine' go_addL ?k1 ?_); (first | (case k1 => walk_at "lia") | (case' k1 => skip))) | ((with_reducible refine' go_addS ?k1 ?_); (first | (case k1 => walk_at "lia") | (case' k1 => skip)))
  | ((with_reducible refine' go_mulI ?k1 ?_); (first | (case k1 => walk_at "cnd") | (case' k1 => skip))) | ((with_reducible refine' go_mulL ?k1 ?k2 ?k3 ?_); (first | (case k1 => walk_at "lia") | (case' k1 => skip)); (first | (case k2 => walk_at "lia") | (case' k2 => skip)); (first | (case k3 => walk_at "lia") | (case' k3 => skip)))
  | ((with_reducible refine' go_mulM ?k1 ?k2 ?k3 ?_); (first | (case k1 => walk_at "lia") | (case' k1 => skip)); (first | (case k2 => walk_at "lia") | (case' k2 => skip)); (first | (case k3 => walk_at "lia") | (case' k3 => skip)))
  | (with_reducible refine' go_fI0 ?_) | ((with_reducible refine' go_fI ?k1 ?_); (first | (case k1 => walk_at "cnd") | (case' k1 => skip)))
  | (with_reducible refine' go_neg ?_) | (with_reducible refine' go_notB ?_) | (with_reducible refine' go_eqI ?_) | (with_reducible refine' go_neI ?_) | (with_reducible refine' go_eqB ?_) | (with_reducible refine' go_neB ?_) | ((with_reducible refine' go_isB (b := false) ?k1 ?_); (case k1 => exact rfl)) | ((with_reducible refine' go_isB (b := true) ?k1 ?_); (case k1 => exact rfl)) | ((with_reducible refine' go_isnotB (b := false) ?k1 ?_); (case k1 => exact rfl)) | ((with_reducible refine' go_isnotB (b := true) ?k1 ?_); (case k1 => exact rfl)) | (with_reducible refine' go_is ?_) | (with_reducible refine' go_isnot ?_)
  | ((with_reducible refine' go_ix ?k1 ?k2 ?_); (case k1 => walk_at "itm"); (first | (case k2 => first | exact rfl | assumption) | (case' k2 => skip)))
  | (with_reducible refine' go_int ?_) | (with_reducible refine' go_abs ?_) | ((with_reducible refine' go_len ?k1 ?_); (case k1 => walk_at "itm")) | ((with_reducible refine' go_list ?k1 ?_); (case k1 => walk_at "itm")) | ((with_reducible refine' go_listM ?k1 ?_); (case k1 => walk_at "itm")) | ((with_reducible refine' go_tuple ?k1 ?_); (case k1 => walk_at "itm"))
  | ((with_reducible refine' go_append ?k1 ?k2 ?_); (case k1 => walk_at "look"); (first | (case k2 => walk_at "lia") | (case' k2 => skip))) | ((with_reducible refine' go_pop ?k1 ?k2 ?_); (case k1 => walk_at "look"); (first | (case k2 => first | assumption | exact rfl) | (case' k2 => skip)))
  | ((with_reducible refine' go_isi (b := true) ?k1 ?k2 ?k3 ?_); (case k1 => decide +kernel); (case k2 => first | exact rfl | exact tyD_ref (by walk_at "look")); (case k3 => decide +kernel))
  | ((with_reducible refine' go_isi (b := false) ?k1 ?k2 ?k3 ?_); (case k1 => decide +kernel); (case k2 => first | exact rfl | exact tyD_ref (by walk_at "look")); (case k3 => decide +kernel))
  | ((with_reducible refine' go_isiT (b := true) ?k1 ?k2 ?k3 ?k4 ?_); (case k1 => exact rfl); (case k2 => decide +kernel); (case k3 => first | exact rfl | exact tyD_ref (by walk_at "look")); (case k4 => decide +kernel))
  | ((with_reducible refine' go_isiT (b := false) ?k1 ?k2 ?k3 ?k4 ?_); (case k1 => exact rfl); (case k2 => decide +kernel); (case k3 => first | exact rfl | exact tyD_ref (by walk_at "look")); (case k4 => decide +kernel))
  | (with_reducible refine' go_iteT (k := true) rfl ?_) | (with_reducible refine' go_iteF (k := false) rfl ?_)
  | ((with_reducible refine' go_iteT ?k1 ?_); (case k1 => exact rfl)) | ((with_reducible refine' go_iteF ?k1 ?_); (case k1 => exact rfl))
  | (with_reducible refine' go_iseq ?_) | ((with_reducible refine' go_kitems ?k1 ?_); (case k1 => first | exact rfl | assumption)) | (with_reducible refine' go_rng1 ?_) | (with_reducible refine' go_rng2 ?_)
  | ((with_reducible refine' go_krng1 ?k1 ?k2 ?_); (first | (case k1 => walk_at "lia") | (case' k1 => skip)); (first | (case k2 => walk_at "lia") | (case' k2 => skip))) | ((with_reducible refine' go_krng2 ?k1 ?k2 ?k3 ?k4 ?_); (first | (case k1 => walk_at "lia") | (case' k1 => skip)); (first | (case k2 => walk_at "lia") | (case' k2 => skip)); (first | (case k3 => walk_at "lia") | (case' k3 => skip)); (first | (case k4 => walk_at "lia") | (case' k4 => skip)))
  | (with_reducible refine' go_zip ?_) | ((with_reducible refine' go_kzip ?k1 ?k2 ?k3 ?_); (case k1 => exact rfl); (case k2 => exact rfl); (case k3 => exact rfl))
  | ((with_reducible refine' go_lc ?k1 ?_); (case k1 => simp only [wipeG, List.set_cons_zero, List.set_cons_succ]; exact rfl)) | ((with_reducible refine' go_lcM ?k1 ?_); (case k1 => simp only [wipeG, List.set_cons_zero, List.set_cons_succ]; exact rfl))
  | (with_reducible refine' go_fld ?_) | ((with_reducible refine' go_kfldO ?k1 ?k2 ?k3 ?_); (first | (case k1 => assumption) | (case' k1 => skip)); (first | (case k2 => assumption) | (case' k2 => skip)); (first | (case k3 => exact rfl) | (case' k3 => skip))) | (with_reducible refine' go_meth ?_) | (with_reducible refine' go_setF ?_) | (with_reducible refine' go_dput ?_) | (with_reducible refine' go_make ?_)
  | (with_reducible refine' go_pnil ?_) | (with_reducible refine' go_pcons ?_) | (with_reducible refine' go_dispK ?_) | (with_reducible refine' go_dispT ?_) | ((with_reducible refine' go_kdisK ?k1 ?k2 ?_); (case k1 => exact rfl); (case k2 => decide)) | ((with_reducible refine' go_kdisT ?k1 ?k2 ?_); (case k1 => exact rfl); (case k2 => exact Nat.le_of_ble_eq_true rfl))
  | (with_reducible refine' go_sl ?_) | (with_reducible refine' go_onone ?_) | (with_reducible refine' go_osome ?_) | (with_reducible refine' go_kpart ?_) | ((with_reducible refine' go_slL ?k1 ?k2 ?_); (case k1 => walk_at "itm"); (case k2 => exact rfl))
  | (with_reducible refine' go_sl3 ?_) | ((with_reducible refine' go_ksl3 ?k1 ?k2 ?k3 ?_); (case k1 => walk_at "itm"); (case k2 => exact rfl); (case k3 => simp))
  | ((with_reducible refine' go_listD ?k1 ?_); (case k1 => walk_at "look"))
  | ((with_reducible refine' go_extend ?k1 ?k2 ?_); (case k1 => walk_at "look"); (first | (case k2 => walk_at "lia") | (case' k2 => skip)))
  | (with_reducible refine' go_enum ?_) | ((with_reducible refine' go_kenum ?k1 ?k2 ?_); (case k1 => exact rfl); (case k2 => exact rfl))
  | (with_reducible refine' go_chain ?_) | (with_reducible refine' go_kchain ?_)
  | ((with_reducible refine' (⟨?k1, ?_⟩ : _ ≤ 1000000 ∧ _)); (case k1 => walk_at "lia"))
  | ((with_reducible refine' (⟨?k1, ?_⟩ : List.length _ = _ ∧ _)); (case k1 => exact rfl))
  | ((with_reducible refine' (⟨?k1, ?_⟩ : List.length _ + 1 = _ ∧ _)); (case k1 => exact rfl))
  | ((with_reducible refine' (⟨?k1, ?_⟩ : kMeth _ _ _ _ ∧ _)); (case k1 => exact go_kmethO rfl))
  | ((with_reducible refine' (⟨?k1, ?_⟩ : tyD _ _ = some _ ∧ _)); (case k1 => first | exact rfl | exact tyD_ref (by walk_at "look"))))
local macro_rules | `(tactic| walk_at "go") => `(tactic| repeat walk_at "go1")
local macro_rules | `(tactic| walk_at "goS") => `(tactic| repeat (first | walk_at "go1" | (with_reducible refine' go_seq ?_)))
local macro_rules | `(tactic| walk_at "start") => `(tactic| simp only [startG, List.map_cons, List.map_nil, List.cons_append, List.nil_append, List.length_cons, List.length_nil, List.replicate, Nat.zero_add, Nat.reduceAdd, Nat.reduceSub])


set_option Elab.async false
set_option linter.all false
set_option maxRecDepth 100000
set_option maxHeartbeats 4000000
namespace L29
open PySem PySem.Spec PyProof.Rows L2 DL
def topS (i : Nat) : Stmt := PySem.Challenge.pw_sameforever_k35_whole_held_rows.main.body.getD i (.Pass ⟨0, 0, 0, 0⟩)
abbrev s_walked : Stmt := topS 1
theorem sc_walked : FnScope ["after", "start", "letters", "letter"] ["after", "start", "letters"] (defScope s_walked) := ⟨rfl, rfl, rfl, by decide +kernel, rfl, by decide +kernel, by decide +kernel⟩

abbrev s_stepped : Stmt := topS 6
theorem sc_stepped : FnScope ["rooms", "alive", "letters", "letter", "kept", "room", "target"] ["rooms", "alive", "letters"] (defScope s_stepped) := ⟨rfl, rfl, rfl, by decide +kernel, rfl, by decide +kernel, by decide +kernel⟩

abbrev s_holds_row : Stmt := topS 7
theorem sc_holds_row : FnScope ["walker", "rooms", "at_class", "beginning", "period", "here", "seen", "letters", "there", "alive", "_", "room", "kind", "steps"] ["walker", "rooms", "at_class", "beginning", "period"] (defScope s_holds_row) := ⟨rfl, rfl, rfl, by decide +kernel, rfl, by decide +kernel, by decide +kernel⟩

abbrev s_RoomBook___init__ : Stmt := inClass (topS 11) 0
theorem sc_RoomBook___init__ : FnScope ["self", "walker", "rooms", "row", "kind", "steps"] ["self", "walker", "rooms"] (defScope s_RoomBook___init__) := ⟨rfl, rfl, rfl, by decide +kernel, rfl, by decide +kernel, by decide +kernel⟩

abbrev s_RoomBook_walker : Stmt := inClass (topS 11) 1
theorem sc_RoomBook_walker : FnScope ["self", "row"] ["self"] (defScope s_RoomBook_walker) := ⟨rfl, rfl, rfl, by decide +kernel, rfl, by decide +kernel, by decide +kernel⟩

abbrev s_RoomBook_rooms : Stmt := inClass (topS 11) 2
theorem sc_RoomBook_rooms : FnScope ["self"] ["self"] (defScope s_RoomBook_rooms) := ⟨rfl, rfl, rfl, by decide +kernel, rfl, by decide +kernel, by decide +kernel⟩

abbrev s_is_held : Stmt := topS 12
theorem sc_is_held : FnScope ["book", "at_class", "beginning", "period"] ["book", "at_class", "beginning", "period"] (defScope s_is_held) := ⟨rfl, rfl, rfl, by decide +kernel, rfl, by decide +kernel, by decide +kernel⟩

abbrev s__law_bag : Stmt := topS 14
theorem sc__law_bag : FnScope ["script", "mixed", "cell"] ["script"] (defScope s__law_bag) := ⟨rfl, rfl, rfl, by decide +kernel, rfl, by decide +kernel, by decide +kernel⟩

abbrev s__law_draw : Stmt := topS 15
theorem sc__law_draw : FnScope ["bag", "sides", "cell", "digit", "mixed"] ["bag", "sides"] (defScope s__law_draw) := ⟨rfl, rfl, rfl, by decide +kernel, rfl, by decide +kernel, by decide +kernel⟩

abbrev s__law_of : Stmt := topS 16
theorem sc__law_of : FnScope ["bag", "things"] ["bag", "things"] (defScope s__law_of) := ⟨rfl, rfl, rfl, by decide +kernel, rfl, by decide +kernel, by decide +kernel⟩

abbrev s__law_along : Stmt := topS 17
theorem sc__law_along : FnScope ["web", "spot", "path", "here", "x"] ["web", "spot", "path"] (defScope s__law_along) := ⟨rfl, rfl, rfl, by decide +kernel, rfl, by decide +kernel, by decide +kernel⟩

abbrev s__law_held : Stmt := topS 18
theorem sc__law_held : FnScope ["web", "cells", "spot", "lead", "turn", "here", "seen", "k", "at", "x"] ["web", "cells", "spot", "lead", "turn"] (defScope s__law_held) := ⟨rfl, rfl, rfl, by decide +kernel, rfl, by decide +kernel, by decide +kernel⟩

abbrev s__law_class_web : Stmt := topS 19
theorem sc__law_class_web : FnScope ["bag", "many", "size", "shift", "web", "row", "k", "x"] ["bag", "many"] (defScope s__law_class_web) := ⟨rfl, rfl, rfl, by decide +kernel, rfl, by decide +kernel, by decide +kernel⟩

abbrev s__law_cells : Stmt := topS 20
theorem sc__law_cells : FnScope ["bag", "web", "count", "spots", "found", "k", "row", "there", "lot", "lack", "pick", "q"] ["bag", "web", "count"] (defScope s__law_cells) := ⟨rfl, rfl, rfl, by decide +kernel, rfl, by decide +kernel, by decide +kernel⟩

abbrev s__law_like : Stmt := topS 21
theorem sc__law_like : FnScope ["found", "due", "mark", "mine", "yours"] ["found", "due"] (defScope s__law_like) := ⟨rfl, rfl, rfl, by decide +kernel, rfl, by decide +kernel, by decide +kernel⟩

abbrev s__law_paths : Stmt := topS 22
theorem sc__law_paths : FnScope ["many", "size", "found", "k", "longer", "path", "x"] ["many", "size"] (defScope s__law_paths) := ⟨rfl, rfl, rfl, by decide +kernel, rfl, by decide +kernel, by decide +kernel⟩

abbrev s__law_rows : Stmt := topS 23
theorem sc__law_rows : FnScope ["bag", "many", "count", "found", "size", "path", "cut", "k", "lead", "x"] ["bag", "many", "count"] (defScope s__law_rows) := ⟨rfl, rfl, rfl, by decide +kernel, rfl, by decide +kernel, by decide +kernel⟩

abbrev s__law_writings : Stmt := topS 24
theorem sc__law_writings : FnScope ["bag", "web", "spot", "lead", "turn", "cut", "found"] ["bag", "web", "spot", "lead", "turn"] (defScope s__law_writings) := ⟨rfl, rfl, rfl, by decide +kernel, rfl, by decide +kernel, by decide +kernel⟩

abbrev s__law_longer : Stmt := topS 25
theorem sc__law_longer : FnScope ["bag", "many", "count", "lead", "x"] ["bag", "many", "count"] (defScope s__law_longer) := ⟨rfl, rfl, rfl, by decide +kernel, rfl, by decide +kernel, by decide +kernel⟩

abbrev s__law_asked : Stmt := topS 26
theorem sc__law_asked : FnScope ["bag", "web", "tome", "cells", "lead", "turn", "spot", "due", "place", "head", "round_of", "kept"] ["bag", "web", "tome", "cells", "lead", "turn"] (defScope s__law_asked) := ⟨rfl, rfl, rfl, by decide +kernel, rfl, by decide +kernel, by decide +kernel⟩

abbrev s__law_ring : Stmt := topS 27
theorem sc__law_ring : FnScope ["bag", "web", "many", "path", "here", "found", "at", "row", "x"] ["bag", "web", "many"] (defScope s__law_ring) := ⟨rfl, rfl, rfl, by decide +kernel, rfl, by decide +kernel, by decide +kernel⟩

abbrev s_law : Stmt := topS 28
theorem sc_law : FnScope ["script", "bag", "many", "web", "cells", "tome", "lead", "turn"] ["script"] (defScope s_law) := ⟨rfl, rfl, rfl, by decide +kernel, rfl, by decide +kernel, by decide +kernel⟩

structure Ad where
  f_walked : Addr
  fd_walked : FuncData
  f_stepped : Addr
  fd_stepped : FuncData
  f_holds_row : Addr
  fd_holds_row : FuncData
  f_RoomBook___init__ : Addr
  fd_RoomBook___init__ : FuncData
  f_RoomBook_walker : Addr
  fd_RoomBook_walker : FuncData
  f_RoomBook_rooms : Addr
  fd_RoomBook_rooms : FuncData
  f_is_held : Addr
  fd_is_held : FuncData
  f__law_bag : Addr
  fd__law_bag : FuncData
  f__law_draw : Addr
  fd__law_draw : FuncData
  f__law_of : Addr
  fd__law_of : FuncData
  f__law_along : Addr
  fd__law_along : FuncData
  f__law_held : Addr
  fd__law_held : FuncData
  f__law_class_web : Addr
  fd__law_class_web : FuncData
  f__law_cells : Addr
  fd__law_cells : FuncData
  f__law_like : Addr
  fd__law_like : FuncData
  f__law_paths : Addr
  fd__law_paths : FuncData
  f__law_rows : Addr
  fd__law_rows : FuncData
  f__law_writings : Addr
  fd__law_writings : FuncData
  f__law_longer : Addr
  fd__law_longer : FuncData
  f__law_asked : Addr
  fd__law_asked : FuncData
  f__law_ring : Addr
  fd__law_ring : FuncData
  f_law : Addr
  fd_law : FuncData
  C_RoomBook : Addr
def kg_is_held_k_0_period_beginning_at_class_book {t : Type} : List t → List t → List t
  | [], [k0, k1, k2, k3] => [k3, k2, k1, k0]
  | _, _ => []
theorem kr_is_held_k_0_period_beginning_at_class_book {K : PySem.W.Frag} : ∀ (N : Hp) vs ds ws es, RelL K N vs ds → RelL K N ws es → ds.length = 0 → es.length = ["period", "beginning", "at_class", "book"].length → RelL K N (kg_is_held_k_0_period_beginning_at_class_book vs ws) (kg_is_held_k_0_period_beginning_at_class_book ds es) := by
  intro N vs ds ws es r1 r2 l1 l2
  obtain ⟨rfl, rfl⟩ := r1.split0 l1
  obtain ⟨vk0, ws, dk0, es, rfl, rfl, b0, r2, l2⟩ := r2.split l2
  obtain ⟨vk1, ws, dk1, es, rfl, rfl, b1, r2, l2⟩ := r2.split l2
  obtain ⟨vk2, ws, dk2, es, rfl, rfl, b2, r2, l2⟩ := r2.split l2
  obtain ⟨vk3, ws, dk3, es, rfl, rfl, b3, r2, l2⟩ := r2.split l2
  obtain ⟨rfl, rfl⟩ := r2.split0 l2
  exact (.cons b3 (.cons b2 (.cons b1 (.cons b0 .nil))))
structure TX (K : PySem.W.Frag) (mg : Str → Option Value) (a : Ad) : Prop where
  fn_walked : Fun K "walked" "walked" s_walked a.f_walked a.fd_walked
  bd_walked : Binds K a.fd_walked ["after", "start", "letters"] []
  mg_walked : mg "walked" = some (.ref a.f_walked)
  kp_walked : PySem.W.keepIn K (.ref a.f_walked) = true
  fn_stepped : Fun K "stepped" "stepped" s_stepped a.f_stepped a.fd_stepped
  bd_stepped : Binds K a.fd_stepped ["rooms", "alive", "letters"] []
  mg_stepped : mg "stepped" = some (.ref a.f_stepped)
  kp_stepped : PySem.W.keepIn K (.ref a.f_stepped) = true
  fn_holds_row : Fun K "holds_row" "holds_row" s_holds_row a.f_holds_row a.fd_holds_row
  bd_holds_row : Binds K a.fd_holds_row ["walker", "rooms", "at_class", "beginning", "period"] []
  mg_holds_row : mg "holds_row" = some (.ref a.f_holds_row)
  kp_holds_row : PySem.W.keepIn K (.ref a.f_holds_row) = true
  fn_RoomBook___init__ : Fun K "__init__" "RoomBook.__init__" s_RoomBook___init__ a.f_RoomBook___init__ a.fd_RoomBook___init__
  bd_RoomBook___init__ : Binds K a.fd_RoomBook___init__ ["self", "walker", "rooms"] []
  fn_RoomBook_walker : Fun K "walker" "RoomBook.walker" s_RoomBook_walker a.f_RoomBook_walker a.fd_RoomBook_walker
  bd_RoomBook_walker : Binds K a.fd_RoomBook_walker ["self"] []
  me_RoomBook_walker : Meth K a.C_RoomBook "walker" a.f_RoomBook_walker
  fn_RoomBook_rooms : Fun K "rooms" "RoomBook.rooms" s_RoomBook_rooms a.f_RoomBook_rooms a.fd_RoomBook_rooms
  bd_RoomBook_rooms : Binds K a.fd_RoomBook_rooms ["self"] []
  me_RoomBook_rooms : Meth K a.C_RoomBook "rooms" a.f_RoomBook_rooms
  fn_is_held : Fun K "is_held" "is_held" s_is_held a.f_is_held a.fd_is_held
  bd_is_held : Binds K a.fd_is_held ["book", "at_class", "beginning", "period"] []
  mg_is_held : mg "is_held" = some (.ref a.f_is_held)
  kp_is_held : PySem.W.keepIn K (.ref a.f_is_held) = true
  fn__law_bag : Fun K "_law_bag" "_law_bag" s__law_bag a.f__law_bag a.fd__law_bag
  bd__law_bag : Binds K a.fd__law_bag ["script"] []
  mg__law_bag : mg "_law_bag" = some (.ref a.f__law_bag)
  kp__law_bag : PySem.W.keepIn K (.ref a.f__law_bag) = true
  fn__law_draw : Fun K "_law_draw" "_law_draw" s__law_draw a.f__law_draw a.fd__law_draw
  bd__law_draw : Binds K a.fd__law_draw ["bag", "sides"] []
  mg__law_draw : mg "_law_draw" = some (.ref a.f__law_draw)
  kp__law_draw : PySem.W.keepIn K (.ref a.f__law_draw) = true
  fn__law_of : Fun K "_law_of" "_law_of" s__law_of a.f__law_of a.fd__law_of
  bd__law_of : Binds K a.fd__law_of ["bag", "things"] []
  mg__law_of : mg "_law_of" = some (.ref a.f__law_of)
  kp__law_of : PySem.W.keepIn K (.ref a.f__law_of) = true
  fn__law_along : Fun K "_law_along" "_law_along" s__law_along a.f__law_along a.fd__law_along
  bd__law_along : Binds K a.fd__law_along ["web", "spot", "path"] []
  mg__law_along : mg "_law_along" = some (.ref a.f__law_along)
  kp__law_along : PySem.W.keepIn K (.ref a.f__law_along) = true
  fn__law_held : Fun K "_law_held" "_law_held" s__law_held a.f__law_held a.fd__law_held
  bd__law_held : Binds K a.fd__law_held ["web", "cells", "spot", "lead", "turn"] []
  mg__law_held : mg "_law_held" = some (.ref a.f__law_held)
  kp__law_held : PySem.W.keepIn K (.ref a.f__law_held) = true
  fn__law_class_web : Fun K "_law_class_web" "_law_class_web" s__law_class_web a.f__law_class_web a.fd__law_class_web
  bd__law_class_web : Binds K a.fd__law_class_web ["bag", "many"] []
  mg__law_class_web : mg "_law_class_web" = some (.ref a.f__law_class_web)
  kp__law_class_web : PySem.W.keepIn K (.ref a.f__law_class_web) = true
  fn__law_cells : Fun K "_law_cells" "_law_cells" s__law_cells a.f__law_cells a.fd__law_cells
  bd__law_cells : Binds K a.fd__law_cells ["bag", "web", "count"] []
  mg__law_cells : mg "_law_cells" = some (.ref a.f__law_cells)
  kp__law_cells : PySem.W.keepIn K (.ref a.f__law_cells) = true
  fn__law_like : Fun K "_law_like" "_law_like" s__law_like a.f__law_like a.fd__law_like
  bd__law_like : Binds K a.fd__law_like ["found", "due"] []
  mg__law_like : mg "_law_like" = some (.ref a.f__law_like)
  kp__law_like : PySem.W.keepIn K (.ref a.f__law_like) = true
  fn__law_paths : Fun K "_law_paths" "_law_paths" s__law_paths a.f__law_paths a.fd__law_paths
  bd__law_paths : Binds K a.fd__law_paths ["many", "size"] []
  mg__law_paths : mg "_law_paths" = some (.ref a.f__law_paths)
  kp__law_paths : PySem.W.keepIn K (.ref a.f__law_paths) = true
  fn__law_rows : Fun K "_law_rows" "_law_rows" s__law_rows a.f__law_rows a.fd__law_rows
  bd__law_rows : Binds K a.fd__law_rows ["bag", "many", "count"] []
  mg__law_rows : mg "_law_rows" = some (.ref a.f__law_rows)
  kp__law_rows : PySem.W.keepIn K (.ref a.f__law_rows) = true
  fn__law_writings : Fun K "_law_writings" "_law_writings" s__law_writings a.f__law_writings a.fd__law_writings
  bd__law_writings : Binds K a.fd__law_writings ["bag", "web", "spot", "lead", "turn"] []
  mg__law_writings : mg "_law_writings" = some (.ref a.f__law_writings)
  kp__law_writings : PySem.W.keepIn K (.ref a.f__law_writings) = true
  fn__law_longer : Fun K "_law_longer" "_law_longer" s__law_longer a.f__law_longer a.fd__law_longer
  bd__law_longer : Binds K a.fd__law_longer ["bag", "many", "count"] []
  mg__law_longer : mg "_law_longer" = some (.ref a.f__law_longer)
  kp__law_longer : PySem.W.keepIn K (.ref a.f__law_longer) = true
  fn__law_asked : Fun K "_law_asked" "_law_asked" s__law_asked a.f__law_asked a.fd__law_asked
  bd__law_asked : Binds K a.fd__law_asked ["bag", "web", "tome", "cells", "lead", "turn"] []
  mg__law_asked : mg "_law_asked" = some (.ref a.f__law_asked)
  kp__law_asked : PySem.W.keepIn K (.ref a.f__law_asked) = true
  fn__law_ring : Fun K "_law_ring" "_law_ring" s__law_ring a.f__law_ring a.fd__law_ring
  bd__law_ring : Binds K a.fd__law_ring ["bag", "web", "many"] []
  mg__law_ring : mg "_law_ring" = some (.ref a.f__law_ring)
  kp__law_ring : PySem.W.keepIn K (.ref a.f__law_ring) = true
  fn_law : Fun K "law" "law" s_law a.f_law a.fd_law
  bd_law : Binds K a.fd_law ["script"] []
  mg_law : mg "law" = some (.ref a.f_law)
  kp_law : PySem.W.keepIn K (.ref a.f_law) = true
  mg_RoomBook : mg "RoomBook" = some (.ref a.C_RoomBook)
  cl_RoomBook : Cls K a.C_RoomBook
  mk_RoomBook : Mk K a.C_RoomBook a.f_RoomBook___init__
  na_RoomBook__walker : NoAttr K a.C_RoomBook "_walker"
  na_RoomBook__rooms : NoAttr K a.C_RoomBook "_rooms"
  b_abs : mg "abs" = none
  b_all : mg "all" = none
  b_bool : mg "bool" = none
  b_dict : mg "dict" = none
  b_enumerate : mg "enumerate" = none
  b_int : mg "int" = none
  b_isinstance : mg "isinstance" = none
  b_len : mg "len" = none
  b_list : mg "list" = none
  b_range : mg "range" = none
  b_str : mg "str" = none
  b_tuple : mg "tuple" = none
  b_zip : mg "zip" = none
  kb_is_held_k_0_period_beginning_at_class_book : KBn K a.fd_is_held ["book", "at_class", "beginning", "period"] 0 ["period", "beginning", "at_class", "book"] kg_is_held_k_0_period_beginning_at_class_book kg_is_held_k_0_period_beginning_at_class_book
end L29

set_option Elab.async false
set_option linter.all false
set_option maxRecDepth 100000
set_option maxHeartbeats 4000000
namespace L29
open PySem PySem.Spec PyProof.Rows L2 DL
def GoodBag (c : MC) : Prop := ∃ (cs : List Int) (i r m c' : Int), c = .lst [.list (cs.map D.int), .int i, .int r, .int m, .int c'] ∧ 0 ≤ i ∧ 0 ≤ r ∧ 0 ≤ m ∧ m < 2147483648
def Bag (M : Mp) (b : Addr) : Prop := ∃ c, M b = some c ∧ GoodBag c
def sp__law_draw : aSp := fun ds M Q => ∃ b n, ds = [.ref b, .int n] ∧ 0 < n ∧ n < 1073741824 ∧ Bag M b ∧ ∀ (i : Int) c, 0 ≤ i → i < n → GoodBag c → Q (.int i) (mupd M b c)
theorem ints_at (cs : List Int) {i : Int} (h : 0 ≤ i) (h2 : i < (cs.map D.int).length) : ∃ x, atI (cs.map D.int) i = some (.int x) := by
  rw [List.length_map] at h2
  refine ⟨cs[i.toNat]'(by omega), ?_⟩
  rw [atI_nn _ h, List.getElem?_map, List.getElem?_eq_getElem (by omega)]
  rfl
section
variable {P : Program} {w : World} {K : PySem.W.Frag} {mg : Str → Option Value} {base : Heap} {a : Ad}
theorem ok__law_draw (T : TX K mg a) : FnOk P w K mg base CX0 1 a.f__law_draw a.fd__law_draw ["bag", "sides"] (lift K 2 sp__law_draw) := by
  refine okD (k := 0) T.fn__law_draw sc__law_draw rfl fun cdv A outer s H E hr => ⟨_, _, (dss_cons (ds_asg (de_add (de_ix (hu_of hr) (dv 0) de_int (fun _ _ => rfl)) de_int) (dg_subL (dv 0) de_int))
      (dss_cons (ds_if (DW.dt (dw_and (dt_cmp (op_eqD hr.units) s2_eq (de_ix (hu_of hr) (dv 0) de_int (fun _ _ => rfl)) de_int (nomark _)) (dw_and1 (dt_cmp op_lt s2_lt (de_ix (hu_of hr) (dv 0) de_int (fun _ _ => rfl)) (de_callB call_lenA sl_len (by rfl) T.b_len (by decide +kernel) (da_cons (de_ix (hu_of hr) (dv 0) de_int (fun _ _ => rfl)) da_nil)) (nomark _))))) (dss_cons (ds_set (j := 2) sc__law_draw.nd rfl (by first | exact .inl rfl | exact .inr rfl) (de_callB call_abs sl_abs (by rfl) T.b_abs (by decide +kernel) (da_cons (de_callTy call_int1 sl_int (by rfl) T.b_int (by decide +kernel) (da_cons (de_ix (hu_of hr) (de_ix (hu_of hr) (dv 0) de_int (fun _ _ => rfl)) (de_ix (hu_of hr) (dv 0) de_int (fun _ _ => rfl)) (fun _ _ => rfl)) da_nil)) da_nil)))
      (dss_cons (ds_asg (de_add (de_ix (hu_of hr) (dv 0) de_int (fun _ _ => rfl)) de_int) (dg_subL (dv 0) de_int))
      (dss_one (ds_if (dt_cmp op_ge s2_ge (dv 2) (de_pow de_int de_int) (nomark _)) (dss_one (ds_asg (dv 2) (dg_subL (dv 0) de_int))) (dss_one (ds_asg (de_mod (de_callTy call_int1 sl_int (by rfl) T.b_int (by decide +kernel) (da_cons (de_add (de_add (de_mul (de_ix (hu_of hr) (dv 0) de_int (fun _ _ => rfl)) de_int) (de_mul (de_mod (de_callTy call_int1 sl_int (by rfl) T.b_int (by decide +kernel) (da_cons (dv 2) da_nil)) de_int) de_int)) de_int) da_nil)) de_int) (dg_subL (dv 0) de_int))))))) dss_nil)
      (dss_cons (ds_if (dt_cmp op_gt s2_gt (de_ix (hu_of hr) (dv 0) de_int (fun _ _ => rfl)) de_int (nomark _)) (dss_cons (ds_set (j := 3) sc__law_draw.nd rfl (by first | exact .inl rfl | exact .inr rfl) (de_mod (de_callTy call_int1 sl_int (by rfl) T.b_int (by decide +kernel) (da_cons (de_ix (hu_of hr) (dv 0) de_int (fun _ _ => rfl)) da_nil)) (dv 1)))
      (dss_cons (ds_asg (de_div (de_ix (hu_of hr) (dv 0) de_int (fun _ _ => rfl)) (dv 1)) (dg_subL (dv 0) de_int))
      (dss_one (ds_ret (dv 3))))) dss_nil)
      (dss_cons (ds_set (j := 4) sc__law_draw.nd rfl (by first | exact .inl rfl | exact .inr rfl) (de_callTy call_int1 sl_int (by rfl) T.b_int (by decide +kernel) (da_cons (de_ix (hu_of hr) (dv 0) de_int (fun _ _ => rfl)) da_nil)))
      (dss_cons (ds_asg (de_mod (de_callTy call_int1 sl_int (by rfl) T.b_int (by decide +kernel) (da_cons (de_add (de_add (de_add (de_mul (de_mul (dv 4) (dv 4)) de_int) (de_mul (dv 4) de_int)) (de_mul (de_ix (hu_of hr) (dv 0) de_int (fun _ _ => rfl)) de_int)) de_int) da_nil)) de_int) (dg_subL (dv 0) de_int))
      (dss_one (ds_ret (de_mod (de_callTy call_int1 sl_int (by rfl) T.b_int (by decide +kernel) (da_cons (de_add (de_div (de_ix (hu_of hr) (dv 0) de_int (fun _ _ => rfl)) de_int) (de_mul (de_mod (de_callTy call_int1 sl_int (by rfl) T.b_int (by decide +kernel) (da_cons (de_ix (hu_of hr) (dv 0) de_int (fun _ _ => rfl)) da_nil)) de_int) de_int)) da_nil)) (dv 1))))))))), fun ds M Q hl h => ?_⟩
  obtain ⟨b, n, rfl, h0, h1, ⟨c, hb, cs, i, r, m, c', rfl, hi, hr0, hm0, hm1⟩, q⟩ := h
  simp only [startG, List.map_cons, List.map_nil, List.cons_append, List.nil_append, List.length_cons, List.length_nil, List.replicate, Nat.zero_add, Nat.reduceAdd, Nat.reduceSub]
  walk_at "go"
  refine go_seqK (J := fun G' M' => ∃ (x : Option D) (cs : List Int) (i r m c' : Int), G' = [some (.ref b), some (.int n), x, none, none] ∧ M' = mupd M b (.lst [.list (cs.map D.int), .int i, .int r, .int m, .int c']) ∧ 0 ≤ i ∧ 0 ≤ r ∧ 0 ≤ m ∧ m < 2147483648) (fun nx hk => ?_) (fun G' M' hJ => ?_)
  · walk_at "go"
    refine go_ite (fun e1 => ?_) (fun e1 => ?_)
    · walk_at "go"
      refine go_ite (fun e2 => ?_) (fun e2 => ?_)
      · have e2 := of_decide_eq_true e2
        obtain ⟨x, hx⟩ := ints_at cs hi e2
        walk_at "go"
        refine go_ite (fun e3 => ?_) (fun e3 => ?_)
        · walk_at "go"
          rw [mupd_mupd, mupd_mupd]
          exact hk _ _ ⟨_, cs, i + 1, _, m, c' + 1, rfl, rfl, by omega, by split <;> omega, hm0, hm1⟩
        · walk_at "go"
          rw [mupd_mupd, mupd_mupd]
          exact hk _ _ ⟨_, cs, i + 1, r, _, c' + 1, rfl, rfl, by omega, by omega, Int.emod_nonneg _ (by decide), by have := Int.emod_lt_of_pos (if x < 0 then -x else x) (show (0:Int) < 2147483587 by decide); omega⟩
      · walk_at "go"
        exact hk _ _ ⟨_, cs, i, r, m, c' + 1, rfl, rfl, hi, hr0, hm0, hm1⟩
    · walk_at "go"
      exact hk _ _ ⟨_, cs, i, r, m, c' + 1, rfl, rfl, hi, hr0, hm0, hm1⟩
  · obtain ⟨x, cs, i, r, m, c', rfl, rfl, hi, hr0, hm0, hm1⟩ := hJ
    refine go_seq ?_
    walk_at "go"
    refine go_ite (fun e1 => ?_) (fun e1 => ?_)
    · have e1 := of_decide_eq_true e1
      walk_at "go"
      rw [mupd_mupd]
      exact Fin.of (q _ _ (Int.emod_nonneg _ (by omega)) (Int.emod_lt_of_pos _ h0) ⟨cs, i, _, m, c', rfl, hi, Int.ediv_nonneg hr0 (by omega), hm0, hm1⟩)
    · walk_at "go"
      rw [mupd_mupd]
      have z := Int.emod_nonneg (m * m * 29 + m * 45013 + c' * 104743 + 50023) (show (2147483549 : Int) ≠ 0 by decide)
      have z2 := Int.emod_lt_of_pos (m * m * 29 + m * 45013 + c' * 104743 + 50023) (show (0 : Int) < 2147483549 by decide)
      exact Fin.of (q _ _ (Int.emod_nonneg _ (by omega)) (Int.emod_lt_of_pos _ h0) ⟨cs, i, r, _, c', rfl, hi, hr0, z, by omega⟩)
end
end L29

set_option Elab.async false
set_option linter.all false
set_option maxRecDepth 100000
set_option maxHeartbeats 4000000
namespace L29
open PySem PySem.Spec PyProof.Rows L2 DL
def sp__law_bag : aSp := fun ds M Q => ∃ ns : List Int, ds = [.rol (ns.map .int)] ∧ ns.length ≤ 63 ∧ ∀ b c, M b = none → GoodBag c → Q (.ref b) (mupd M b c)
def sp__law_of : aSp := fun ds M Q => ∃ b things, ds = [.ref b, .list things] ∧ things ≠ [] ∧ things.length < 1073741824 ∧ Bag M b ∧ ∀ d c, d ∈ things → GoodBag c → Q d (mupd M b c)
theorem cut63 (ns : List Int) : DL.cutD (ns.map D.int) none (some 63) = (ns.take 63).map D.int := by
  unfold DL.cutD
  rw [HT.sIx_none, List.drop_zero, show (some (63 : Int)) = some ((63 : Nat) : Int) from rfl, HT.sIx_nat, List.length_map, Nat.sub_zero, List.map_take]
  by_cases h : 63 ≤ ns.length
  · rw [Nat.min_eq_left h]
  · rw [Nat.min_eq_right (by omega), List.take_of_length_le (by simp), List.take_of_length_le (by simp; omega)]
section
variable {P : Program} {w : World} {K : PySem.W.Frag} {mg : Str → Option Value} {base : Heap} {a : Ad}
theorem ok__law_bag (T : TX K mg a) : FnOk P w K mg base CX0 1 a.f__law_bag a.fd__law_bag ["script"] (lift K 1 sp__law_bag) := by
  refine okD (k := 0) T.fn__law_bag sc__law_bag rfl fun cdv A outer s H E hr => ⟨_, _, (dss_cons (ds_set (j := 1) sc__law_bag.nd rfl (by first | exact .inl rfl | exact .inr rfl) de_int)
      (dss_cons (ds_for (di_seq (de_slice (dv 0) do_none (do_some de_int))) (dg_name (j := 2) sc__law_bag.nd rfl (by first | exact .inl rfl | exact .inr rfl)) (dss_one (ds_set (j := 1) sc__law_bag.nd rfl (by first | exact .inl rfl | exact .inr rfl) (de_mod (de_callTy call_int1 sl_int (by rfl) T.b_int (by decide +kernel) (da_cons (de_add (de_add (de_mul (dv 1) de_int) (de_mul (de_mod (de_callTy call_int1 sl_int (by rfl) T.b_int (by decide +kernel) (da_cons (dv 2) da_nil)) de_int) de_int)) de_int) da_nil)) de_int))) PassesOwn.never)
      (dss_one (ds_ret (de_lstM (da_cons (de_callTy call_list_of sl_list (by rfl) T.b_list (by decide +kernel) (da_cons (de_slice (dv 0) do_none (do_some de_int)) da_nil)) (da_cons de_int (da_cons de_int (da_cons (dv 1) (da_cons de_int da_nil)))))))))), fun ds M Q hl h => ?_⟩
  obtain ⟨ns, rfl, hns, q⟩ := h
  walk_at "start"
  walk_at "go"
  refine go_seqK (J := fun G' M' => ∃ (m : Int) (x : Option D), G' = [some (.rol (ns.map .int)), some (.int m), x] ∧ M' = M ∧ 0 ≤ m ∧ m < 2147483648) (fun nx hk => ?_) (fun G' M' hJ => ?_)
  · walk_at "go"
    rw [cut63]
    refine go_forI (fun i G' M' => ∃ (m : Int) (x : Option D), G' = [some (.rol (ns.map .int)), some (.int m), x] ∧ M' = M ∧ 0 ≤ m ∧ m < 2147483648) ⟨20113979, none, rfl, rfl, by decide, by decide⟩ (fun i d G' M' nx' hd hI hn => ?_) (fun G' M' hI => hk G' M' hI)
    obtain ⟨m, x, rfl, rfl, hm0, hm1⟩ := hI
    rw [List.getElem?_map] at hd
    obtain ⟨z, _, rfl⟩ := Option.map_eq_some_iff.mp hd
    walk_at "go"
    exact hn _ _ ⟨_, _, rfl, rfl, Int.emod_nonneg _ (by decide), by have := Int.emod_lt_of_pos (m * 52433 + z % 1000621 * 887 + 59) (show (0:Int) < 2147483563 by decide); omega⟩
  · obtain ⟨m, x, rfl, rfl, hm0, hm1⟩ := hJ
    walk_at "go"
    intro p hp
    rw [cut63]
    exact Fin.of (q p _ hp ⟨ns.take 63, 0, 0, m, 0, rfl, by decide, by decide, hm0, hm1⟩)
theorem ok__law_of (T : TX K mg a) : FnOk P w K mg base CX0 2 a.f__law_of a.fd__law_of ["bag", "things"] (lift K 2 sp__law_of) := by
  refine okD (k := 1) T.fn__law_of sc__law_of rfl fun cdv A outer s H E hr => ⟨_, _, (dss_one (ds_ret (de_ix (hu_of hr) (dv 1) (de_call (ok__law_draw T) (hr.mono (by decide)) (by rfl) T.mg__law_draw T.kp__law_draw T.bd__law_draw pass0 (da_cons (dv 0) (da_cons (de_callB call_lenA sl_len (by rfl) T.b_len (by decide +kernel) (da_cons (dv 1) da_nil)) da_nil))) (fun _ _ => rfl)))), fun ds M Q hl h => ?_⟩
  obtain ⟨b, things, rfl, h0, h1, hb, q⟩ := h
  walk_at "start"
  walk_at "go"
  have hl : 0 < things.length := List.length_pos_iff.mpr h0
  refine ⟨b, (things.length : Int), rfl, by omega, by omega, hb, fun i c hi0 hi1 hc => ?_⟩
  walk_at "go"
  · rw [atI_nn _ hi0]
    exact List.getElem?_eq_getElem (by omega)
  exact Fin.of (q _ c (List.getElem_mem _) hc)
end
end L29

set_option Elab.async false
set_option linter.all false
set_option maxRecDepth 100000
set_option maxHeartbeats 4000000
namespace L29
open PySem PySem.Spec PyProof.Rows L2 DL
/-- the bag stands, what was there stands -/
def Kp (M : Mp) (b : Addr) (M' : Mp) : Prop := Bag M' b ∧ ∀ a x, a ≠ b → M a = some x → M' a = some x
theorem Kp.bag {M M' : Mp} {b : Addr} (k : Kp M b M') : Bag M' b := k.1
theorem Kp.refl {M : Mp} {b : Addr} (k : Bag M b) : Kp M b M := ⟨k, fun _ _ _ h => h⟩
theorem Kp.draw {M M' : Mp} {b : Addr} {c : MC} (k : Kp M b M') (g : GoodBag c) : Kp M b (mupd M' b c) := ⟨⟨c, mupd_same, g⟩, fun a x h e => by rw [mupd_ne h]; exact k.2 a x h e⟩
theorem Kp.ne {M M' : Mp} {b p : Addr} (k : Kp M b M') (h : M' p = none) : p ≠ b := by
  intro e; subst e
  obtain ⟨c, h1, _⟩ := k.1
  rw [h] at h1; cases h1
theorem Kp.fresh {M M' : Mp} {b p : Addr} (k : Kp M b M') (h : M' p = none) : M p = none := by
  cases e : M p with
  | none => rfl
  | some x => rw [k.2 p x (k.ne h) e] at h; cases h
theorem Kp.mut {M M' : Mp} {b p : Addr} {c : MC} (k : Kp M b M') (h : M p = none) (hn : p ≠ b) : Kp M b (mupd M' p c) := by
  refine ⟨?_, fun a x ha e => ?_⟩
  · obtain ⟨c', h1, h2⟩ := k.1
    exact ⟨c', by rw [mupd_ne (Ne.symm hn)]; exact h1, h2⟩
  · have : a ≠ p := fun z => by subst z; rw [h] at e; cases e
    rw [mupd_ne this]
    exact k.2 a x ha e
theorem Kp.new {M M' : Mp} {b p : Addr} {c : MC} (k : Kp M b M') (h : M' p = none) : Kp M b (mupd M' p c) := k.mut (k.fresh h) (k.ne h)
theorem Kp.sub {M M' : Mp} {b : Addr} (k : Kp M b M') : ∃ c, GoodBag c ∧ Sub (mupd M b c) M' := by
  obtain ⟨⟨c, h1, h2⟩, h3⟩ := k
  refine ⟨c, h2, fun a x e => ?_⟩
  by_cases q : a = b
  · subst q
    rw [mupd_same] at e
    cases e
    exact h1
  · rw [mupd_ne q] at e
    exact h3 a x q e
/-- .. also where lists are read as standing -/
theorem Kp.subL {M M' : Mp} {b : Addr} (k : Kp M b M') {L : List Addr} (hL : ∀ p ∈ L, M p = none ∧ p ≠ b) : ∃ c, GoodBag c ∧ Sub (mupd M b c) (mdelL M' L) := by
  obtain ⟨c, h1, h2⟩ := k.sub
  refine ⟨c, h1, fun a x e => ?_⟩
  rw [mdelL_get]
  by_cases q : a ∈ L
  · obtain ⟨h3, h4⟩ := hL a q
    rw [mupd_ne h4, h3] at e
    cases e
  · rw [if_neg q]
    exact h2 a x e
theorem draw_go {M M' : Mp} {b : Addr} {n : Int} {Q : QD} (k : Kp M b M') (h0 : 0 < n) (h1 : n < 1073741824) (q : ∀ (i : Int) c, 0 ≤ i → i < n → GoodBag c → Kp M b (mupd M' b c) → Q (.int i) (mupd M' b c)) : sp__law_draw [.ref b, .int n] M' Q :=
  ⟨b, n, rfl, h0, h1, k.bag, fun i c a1 a2 g => q i c a1 a2 g (k.draw g)⟩
theorem of_go {M M' : Mp} {b : Addr} {things : List D} {Q : QD} (k : Kp M b M') (h0 : things ≠ []) (h1 : things.length < 1073741824) (q : ∀ d c, d ∈ things → GoodBag c → Kp M b (mupd M' b c) → Q d (mupd M' b c)) : sp__law_of [.ref b, .list things] M' Q :=
  ⟨b, things, rfl, h0, h1, k.bag, fun i c a1 g => q i c a1 g (k.draw g)⟩
/-- rows that are lists of ints, of one length, our own -/
def Rw (M : Mp) (b : Addr) (sz n : Int) (M' : Mp) (ps : List Addr) : Prop := ∀ p ∈ ps, (M p = none ∧ p ≠ b) ∧ ∃ r : List Int, ((r.length : Int) = n ∧ ∀ t ∈ r, 0 ≤ t ∧ t < sz) ∧ M' p = some (.lst (r.map .int))
theorem Rw.oth {M M' : Mp} {b x : Addr} {sz n : Int} {ps : List Addr} {c : MC} (h : Rw M b sz n M' ps) (hx : x ∉ ps) : Rw M b sz n (mupd M' x c) ps := fun p hp => by
  obtain ⟨h1, r, h2, h3⟩ := h p hp
  exact ⟨h1, r, h2, by rw [mupd_ne (fun e => by subst e; exact hx hp)]; exact h3⟩
theorem Rw.put {M M' : Mp} {b x : Addr} {sz n : Int} {ps : List Addr} (h : Rw M b sz n M' ps) {r : List Int} (hr : (r.length : Int) = n ∧ ∀ t ∈ r, 0 ≤ t ∧ t < sz) : Rw M b sz n (mupd M' x (.lst (r.map .int))) ps := fun p hp => by
  obtain ⟨h1, r', h2, h3⟩ := h p hp
  by_cases q : p = x
  · subst q
    exact ⟨h1, r, hr, mupd_same⟩
  · exact ⟨h1, r', h2, by rw [mupd_ne q]; exact h3⟩
theorem Rw.fresh {M M' : Mp} {b x : Addr} {sz n : Int} {ps : List Addr} (h : Rw M b sz n M' ps) (hx : M' x = none) : x ∉ ps := fun hp => by
  obtain ⟨h1, r, h2, h3⟩ := h x hp
  rw [hx] at h3; cases h3
theorem Rw.nb {M M' : Mp} {b : Addr} {sz n : Int} {ps : List Addr} (h : Rw M b sz n M' ps) : b ∉ ps := fun hp => (h b hp).1.2 rfl
theorem Rw.dz {M M' : Mp} {b : Addr} {sz n : Int} {L : List Addr} : ∀ {ps : List Addr}, Rw M b sz n M' ps → (∀ p ∈ ps, p ∈ L) → ∃ web : List (List Int), web.length = ps.length ∧ (∀ r ∈ web, (r.length : Int) = n ∧ ∀ t ∈ r, 0 ≤ t ∧ t < sz) ∧ Dzs M' L (ps.map .ref) (web.map fun r => .list (r.map .int))
  | [], _, _ => ⟨[], rfl, by simp, .nil⟩
  | p :: ps, h, hl => by
    obtain ⟨_, r, h2, h3⟩ := h p (by simp)
    obtain ⟨web, e1, e2, e3⟩ := Rw.dz (ps := ps) (fun q hq => h q (by simp [hq])) (fun q hq => hl q (by simp [hq]))
    refine ⟨r :: web, by simp [e1], fun x hx => ?_, .cons (.ref (hl p (by simp)) h3 (dzs_same _)) e3⟩
    rcases List.mem_cons.mp hx with rfl | hx
    · exact h2
    · exact e2 x hx
def sp__law_class_web : aSp := fun ds M Q => ∃ b many, ds = [.ref b, .int many] ∧ 0 < many ∧ many < 1000 ∧ Bag M b ∧ ∀ web : List (List Int), ∀ c, web ≠ [] → web.length ≤ 3 → (∀ r ∈ web, (r.length : Int) = many ∧ ∀ t ∈ r, 0 ≤ t ∧ t < (web.length : Int)) → GoodBag c → Q (.list (web.map fun r => .list (r.map .int))) (mupd M b c)
section
variable {P : Program} {w : World} {K : PySem.W.Frag} {mg : Str → Option Value} {base : Heap} {a : Ad}
theorem ok__law_class_web (T : TX K mg a) : FnOk P w K mg base CX0 3 a.f__law_class_web a.fd__law_class_web ["bag", "many"] (lift K 2 sp__law_class_web) := by
  refine okD (k := 2) T.fn__law_class_web sc__law_class_web rfl fun cdv A outer s H E hr => ⟨_, _, (dss_cons (ds_asg (de_tup (da_cons (de_call (ok__law_of T) (hr.mono (by decide)) (by rfl) T.mg__law_of T.kp__law_of T.bd__law_of pass0 (da_cons (dv 0) (da_cons (de_lst (da_cons de_int (da_cons de_int (da_cons de_int (da_cons de_int (da_cons de_int da_nil)))))) da_nil))) (da_cons (de_call (ok__law_draw T) (hr.mono (by decide)) (by rfl) T.mg__law_draw T.kp__law_draw T.bd__law_draw pass0 (da_cons (dv 0) (da_cons (dv 1) da_nil))) da_nil))) (dg_tup (dgs_cons (dg_name (j := 2) sc__law_class_web.nd rfl (by first | exact .inl rfl | exact .inr rfl)) (dgs_cons (dg_name (j := 3) sc__law_class_web.nd rfl (by first | exact .inl rfl | exact .inr rfl)) dgs_nil))))
      (dss_cons (ds_setLc (j := 4) (own := [("k", 6)]) rfl sc__law_class_web.nd rfl rfl (sw_true rfl rfl rfl (by decide +kernel)) (di_range1 (by rfl) T.b_range (da_cons (dv 2) da_nil)) (blkOk_by (by rfl)) (fun _ _ _ _ _ => (dg_name (j := 6) sc__law_class_web.nd rfl (by first | exact .inl rfl | exact .inr rfl))) (fun _ _ _ _ _ => dts_nil) (fun _ _ _ _ _ => (de_lcM (own := [("x", 7)]) rfl sc__law_class_web.nd (di_range1 (by rfl) T.b_range (da_cons (dv 1) da_nil)) (blkOk_by (by rfl)) (fun _ _ _ _ _ => (dg_name (j := 7) sc__law_class_web.nd rfl (by first | exact .inl rfl | exact .inr rfl))) (fun _ _ _ _ _ => dts_nil) (fun _ _ _ _ _ => (de_call (ok__law_draw T) (hr.mono (by decide)) (by rfl) T.mg__law_draw T.kp__law_draw T.bd__law_draw pass0 (da_cons (dv 0) (da_cons (dv 2) da_nil)))) om_name)) om_name)
      (dss_cons (ds_set (j := 5) sc__law_class_web.nd rfl (by first | exact .inl rfl | exact .inr rfl) (de_ix (hu_of hr) (dv 4) de_int (fun _ _ => rfl)))
      (dss_cons (ds_for (di_range2 (by rfl) T.b_range (da_cons de_int (da_cons (dv 2) da_nil))) (dg_name (j := 6) sc__law_class_web.nd rfl (by first | exact .inl rfl | exact .inr rfl)) (dss_one (ds_asg (dv 6) (dg_subL (dv 5) (de_mod (de_callTy call_int1 sl_int (by rfl) T.b_int (by decide +kernel) (da_cons (de_add (de_sub (dv 6) de_int) (dv 3)) da_nil)) (dv 1))))) PassesOwn.never)
      (dss_one (ds_ret (dv 4))))))), fun ds M Q hl h => ?_⟩
  obtain ⟨b, many, rfl, h0, h1, hb, q⟩ := h
  walk_at "start"
  walk_at "go"
  refine of_go (.refl hb) (by simp) (by decide) (fun d c hd hc k => ?_)
  obtain ⟨size, rfl, hs0, hs1⟩ : ∃ n : Int, d = .int n ∧ 1 ≤ n ∧ n ≤ 3 := by
    simp at hd
    rcases hd with rfl | rfl | rfl | rfl | rfl <;> exact ⟨_, rfl, by decide, by decide⟩
  walk_at "go"
  refine draw_go k h0 (by omega) (fun shift c2 i0 i1 hc2 k2 => ?_)
  walk_at "go"
  refine go_lcI (fun i acc M' => ∃ ps : List Addr, acc = ps.map .ref ∧ ps.length = i ∧ ps.Nodup ∧ Rw M b size many M' ps ∧ Kp M b M') ⟨[], rfl, rfl, .nil, fun p hp => by simp at hp, k2⟩ (fun i d acc M' KY KN hd hI hY hN => ?_) (fun acc M' hI => ?_)
  · obtain ⟨ps, rfl, hl, hn, hr, kk⟩ := hI
    walk_at "go"
    refine go_lcI (fun i acc M' => ∃ r : List Int, acc = r.map .int ∧ (r.length = i ∧ ∀ t ∈ r, 0 ≤ t ∧ t < size) ∧ Rw M b size many M' ps ∧ Kp M b M') ⟨[], rfl, ⟨rfl, by simp⟩, hr, kk⟩ (fun i d acc M' KY2 KN2 hd2 hI2 hY2 hN2 => ?_) (fun acc M' hI2 => ?_)
    · obtain ⟨r, rfl, hl2, hr2, kk2⟩ := hI2
      walk_at "go"
      refine draw_go kk2 (by omega) (by omega) (fun x c3 j0 j1 hc3 k3 => ?_)
      exact hY2 _ _ ⟨r ++ [x], by simp, ⟨by simp [hl2.1], fun t ht => by
        rcases List.mem_append.mp ht with ht | ht
        · exact hl2.2 t ht
        · rcases List.mem_singleton.mp ht with rfl
          exact ⟨j0, j1⟩⟩, hr2.oth hr.nb, k3⟩
    · obtain ⟨r, rfl, hl2, hr2, kk2⟩ := hI2
      intro p hp
      refine hY _ _ ⟨ps ++ [p], by simp, by simp [hl], ?_, ?_, kk2.new hp⟩
      · exact List.nodup_append.mpr ⟨hn, by simp, fun x hx y hy => by
          rcases List.mem_singleton.mp hy with rfl
          intro e
          subst e
          exact hr2.fresh hp hx⟩
      · intro x hx
        rcases List.mem_append.mp hx with hx | hx
        · exact hr2.oth (hr2.fresh hp) x hx
        · rcases List.mem_singleton.mp hx with rfl
          refine ⟨⟨kk2.fresh hp, kk2.ne hp⟩, r, ?_, mupd_same⟩
          refine ⟨?_, hl2.2⟩
          rw [hl2.1, length_rng]
          omega
  · obtain ⟨ps, rfl, hl, hn, hr, kk⟩ := hI
    rw [length_rng] at hl
    obtain _ | ⟨p0, ps⟩ := ps
    · simp at hl; omega
    walk_at "go"
    · rw [atI_nn _ (by decide)]
      exact rfl
    walk_at "go"
    refine go_seqK (J := fun G' M' => ∃ x : Option D, G' = [some (.ref b), some (.int many), some (.int size), some (.int shift), some (.list ((p0 :: ps).map .ref)), some (.ref p0), x, none] ∧ Rw M b size many M' (p0 :: ps) ∧ Kp M b M') (fun nx hk => ?_) (fun G' M' hJ => ?_)
    · walk_at "go"
      refine go_forI (fun i G' M' => ∃ x : Option D, G' = [some (.ref b), some (.int many), some (.int size), some (.int shift), some (.list ((p0 :: ps).map .ref)), some (.ref p0), x, none] ∧ Rw M b size many M' (p0 :: ps) ∧ Kp M b M') ⟨none, rfl, hr, kk⟩ (fun i d G' M' nx' hd hI hn => ?_) (fun G' M' hI => hk G' M' hI)
      obtain ⟨x, rfl, hr, kk⟩ := hI
      obtain ⟨hlt, rfl⟩ := rng_get hd
      obtain ⟨⟨a1, a2⟩, r, a3, a4⟩ := hr p0 (by simp)
      walk_at "go"
      · exact ixN_nn (Int.emod_nonneg _ (by omega)) (by rw [List.length_map, a3.1]; exact Int.emod_lt_of_pos _ h0)
      walk_at "go"
      rw [← List.map_set]
      exact hn _ _ ⟨_, rfl, hr.put (by
        refine ⟨by rw [List.length_set]; exact a3.1, fun t ht => ?_⟩
        rcases List.mem_or_eq_of_mem_set ht with ht | rfl
        · exact a3.2 t ht
        · omega), kk.mut a1 a2⟩
    · obtain ⟨x, rfl, hr, kk⟩ := hJ
      walk_at "go"
      obtain ⟨web, e1, e2, e3⟩ := hr.dz (L := p0 :: ps) (fun _ h => h)
      obtain ⟨c', g1, g2⟩ := kk.subL (L := p0 :: ps) (fun p hp => (hr p hp).1)
      refine Fin.deep (L := p0 :: ps) (.list e3) hn (fun p hp => ?_) g2 (q web c' ?_ ?_ (fun r hr => ⟨(e2 r hr).1, fun t ht => by have := (e2 r hr).2 t ht; omega⟩) g1)
      · obtain ⟨h1, r, h2, h3⟩ := hr p hp
        exact ⟨⟨_, h3⟩, h1.1⟩
      · intro e; subst e; simp at e1
      · rw [e1]; omega
end
end L29

set_option Elab.async false
set_option linter.all false
set_option maxRecDepth 100000
set_option maxHeartbeats 4000000
namespace L29
open PySem PySem.Spec PyProof.Rows L2 DL
abbrev Rm := Int × List Int
abbrev dInts (r : List Int) : List D := r.map .int
abbrev dWeb (web : List (List Int)) : D := .list (web.map fun r => .list (r.map .int))
abbrev dRoom (r : Rm) : D := .tup [.int r.1, .tup (r.2.map .int)]
abbrev dRooms (rs : List Rm) : List D := rs.map dRoom
structure GoodWeb (web : List (List Int)) (many : Int) : Prop where
  ne : web ≠ []
  le : web.length ≤ 3
  row : ∀ r ∈ web, (r.length : Int) = many ∧ ∀ t ∈ r, 0 ≤ t ∧ t < (web.length : Int)
  pos : 0 < many
  le2 : many < 1000
/-- the class behind a letter -/
def stepW (web : List (List Int)) (c x : Int) : Int := (web.getD c.toNat []).getD x.toNat 0
/-- a room: its steps lead to rooms of the class behind the letter -/
structure GoodR (web : List (List Int)) (many : Int) (spots : List Int) (r : Rm) : Prop where
  lo : 0 ≤ r.1
  hi : r.1 < (web.length : Int)
  len : (r.2.length : Int) = many
  tgt : ∀ (x : Nat) t, r.2[x]? = some t → 0 ≤ t → t < (spots.length : Int) ∧ spots.getD t.toNat 0 = stepW web r.1 (x : Int)
def GoodRs (web : List (List Int)) (many : Int) (rs : List Rm) : Prop := ∀ r ∈ rs, GoodR web many (rs.map (·.1)) r
theorem web_at {web : List (List Int)} {many : Int} (g : GoodWeb web many) {i : Int} (h0 : 0 ≤ i) (h1 : i < (web.length : Int)) : ∃ r : List Int, web.getD i.toNat [] = r ∧ r ∈ web ∧ (r.length : Int) = many ∧ atI (web.map fun r => D.list (r.map .int)) i = some (.list (r.map .int)) := by
  have h : web[i.toNat]? = some (web[i.toNat]'(by omega)) := List.getElem?_eq_getElem (by omega)
  refine ⟨web[i.toNat]'(by omega), by rw [List.getD_eq_getElem?_getD, h]; rfl, List.getElem_mem _, (g.row _ (List.getElem_mem _)).1, ?_⟩
  rw [atI_nn _ h0, List.getElem?_map, h]
  rfl
theorem int_at {cs : List Int} {i : Int} (h : 0 ≤ i) (h2 : i < (cs.length : Int)) : ∃ x, cs[i.toNat]? = some x ∧ x ∈ cs ∧ atI (cs.map D.int) i = some (.int x) := by
  have e : cs[i.toNat]? = some (cs[i.toNat]'(by omega)) := List.getElem?_eq_getElem (by omega)
  refine ⟨_, e, List.getElem_mem _, ?_⟩
  rw [atI_nn _ h, List.getElem?_map, e]
  rfl
theorem getD_of {cs : List Int} {n : Nat} {x d : Int} (h : cs[n]? = some x) : cs.getD n d = x := by rw [List.getD_eq_getElem?_getD, h]; rfl
theorem stepW_in {web : List (List Int)} {many : Int} (g : GoodWeb web many) {c x : Int} (h0 : 0 ≤ c) (h1 : c < (web.length : Int)) (x0 : 0 ≤ x) (x1 : x < many) : 0 ≤ stepW web c x ∧ stepW web c x < (web.length : Int) := by
  obtain ⟨r, e, hm, hl, _⟩ := web_at g h0 h1
  obtain ⟨t, ht, htm, _⟩ := int_at (cs := r) x0 (by omega)
  unfold stepW
  rw [e, getD_of ht]
  exact (g.row r hm).2 t htm
def Tgt (web : List (List Int)) (spots : List Int) (sp : Int) (ts : List Int) : Prop := ∀ (x : Nat) t, ts[x]? = some t → 0 ≤ t → t < (spots.length : Int) ∧ spots.getD t.toNat 0 = stepW web sp (x : Int)
theorem Tgt.snoc {web : List (List Int)} {spots : List Int} {sp : Int} {ts : List Int} (h : Tgt web spots sp ts) {v : Int} (hv : 0 ≤ v → v < (spots.length : Int) ∧ spots.getD v.toNat 0 = stepW web sp (ts.length : Int)) : Tgt web spots sp (ts ++ [v]) := fun x t hx ht => by
  by_cases q : x < ts.length
  · rw [List.getElem?_append_left q] at hx
    exact h x t hx ht
  · rw [List.getElem?_append_right (by omega)] at hx
    have : x - ts.length = 0 := by
      by_cases z : x - ts.length = 0
      · exact z
      · rw [List.getElem?_eq_none (by simp; omega)] at hx; cases hx
    rw [this] at hx
    cases hx
    have : x = ts.length := by omega
    subst this
    exact hv ht
def sp__law_cells : aSp := fun ds M Q => ∃ b web many count, ds = [.ref b, dWeb web, .int count] ∧ GoodWeb web many ∧ 0 ≤ count ∧ count ≤ 100 ∧ Bag M b ∧
  ∀ cells : List Rm, ∀ c, (cells.length : Int) = count → GoodRs web many cells → GoodBag c → Q (.list (dRooms cells)) (mupd M b c)
section
variable {P : Program} {w : World} {K : PySem.W.Frag} {mg : Str → Option Value} {base : Heap} {a : Ad}
theorem ok__law_cells (T : TX K mg a) : FnOk P w K mg base CX0 2 a.f__law_cells a.fd__law_cells ["bag", "web", "count"] (lift K 3 sp__law_cells) := by
  refine okD (k := 1) T.fn__law_cells sc__law_cells rfl fun cdv A outer s H E hr => ⟨_, _, (dss_cons (ds_asg (de_tup (da_cons (de_lc (own := [("k", 5)]) rfl sc__law_cells.nd (di_range1 (by rfl) T.b_range (da_cons (dv 2) da_nil)) (blkOk_by (by rfl)) (fun _ _ _ _ _ => (dg_name (j := 5) sc__law_cells.nd rfl (by first | exact .inl rfl | exact .inr rfl))) (fun _ _ _ _ _ => dts_nil) (fun _ _ _ _ _ => (de_call (ok__law_draw T) (hr.mono (by decide)) (by rfl) T.mg__law_draw T.kp__law_draw T.bd__law_draw pass0 (da_cons (dv 0) (da_cons (de_callB call_lenA sl_len (by rfl) T.b_len (by decide +kernel) (da_cons (dv 1) da_nil)) da_nil)))) om_name) (da_cons (de_lstM da_nil) da_nil))) (dg_tup (dgs_cons (dg_name (j := 3) sc__law_cells.nd rfl (by first | exact .inl rfl | exact .inr rfl)) (dgs_cons (dg_name (j := 4) sc__law_cells.nd rfl (by first | exact .inl rfl | exact .inr rfl)) dgs_nil))))
      (dss_cons (ds_for (di_range1 (by rfl) T.b_range (da_cons (dv 2) da_nil)) (dg_name (j := 5) sc__law_cells.nd rfl (by first | exact .inl rfl | exact .inr rfl)) (dss_cons (ds_set (j := 6) sc__law_cells.nd rfl (by first | exact .inl rfl | exact .inr rfl) (de_lstM da_nil))
      (dss_cons (ds_for (di_seq (de_ix (hu_of hr) (dv 1) (de_ix (hu_of hr) (dv 3) (dv 5) (fun _ _ => rfl)) (fun _ _ => rfl))) (dg_name (j := 7) sc__law_cells.nd rfl (by first | exact .inl rfl | exact .inr rfl)) (dss_cons (ds_setLc (j := 8) (own := [("q", 11)]) rfl sc__law_cells.nd rfl rfl (sw_true rfl rfl rfl (by decide +kernel)) (di_range1 (by rfl) T.b_range (da_cons (dv 2) da_nil)) (blkOk_by (by rfl)) (fun _ _ _ _ _ => (dg_name (j := 11) sc__law_cells.nd rfl (by first | exact .inl rfl | exact .inr rfl))) (fun _ _ _ _ _ => (dts_one (dt_cmp (op_eqD hr.units) s2_eq (de_ix (hu_of hr) (dv 3) (dv 11) (fun _ _ => rfl)) (dv 7) (nomark _)))) (fun _ _ _ _ _ => (dv 11)) om_name)
      (dss_cons (ds_par (i := 9) (j := 10) sc__law_cells.nd rfl rfl (da_cons (de_call (ok__law_draw T) (hr.mono (by decide)) (by rfl) T.mg__law_draw T.kp__law_draw T.bd__law_draw pass0 (da_cons (dv 0) (da_cons de_int da_nil))) (da_cons (de_call (ok__law_draw T) (hr.mono (by decide)) (by rfl) T.mg__law_draw T.kp__law_draw T.bd__law_draw pass0 (da_cons (dv 0) (da_cons (dv 2) da_nil))) da_nil)))
      (dss_one (ds_expr (de_bm PySem.F.plainAttrs_list PySem.F.slot_list_append PySem.F.type_list_append mt_append sm_append (.inl rfl) (dv 6) (da_cons (de_ifExp (DW.dt (dw_and (dt_tru (dv 8)) (dw_and1 (dt_cmp op_gt s2_gt (dv 9) de_int (nomark _))))) (de_ix (hu_of hr) (dv 8) (de_mod (de_callTy call_int1 sl_int (by rfl) T.b_int (by decide +kernel) (da_cons (dv 10) da_nil)) (de_callB call_lenA sl_len (by rfl) T.b_len (by decide +kernel) (da_cons (dv 8) da_nil))) (fun _ _ => rfl)) (de_neg de_int)) da_nil)))))) PassesOwn.never)
      (dss_one (ds_expr (de_bm PySem.F.plainAttrs_list PySem.F.slot_list_append PySem.F.type_list_append mt_append sm_append (.inl rfl) (dv 4) (da_cons (de_tup (da_cons (de_ix (hu_of hr) (dv 3) (dv 5) (fun _ _ => rfl)) (da_cons (de_callTy call_tuple_of sl_tuple (by rfl) T.b_tuple (by decide +kernel) (da_cons (dv 6) da_nil)) da_nil))) da_nil)))))) PassesOwn.never)
      (dss_one (ds_ret (dv 4))))), fun ds M Q hl h => ?_⟩
  obtain ⟨b, web, many, count, rfl, gw, h0, h1, hb, q⟩ := h
  have gl := gw.le
  have gn : 0 < web.length := List.length_pos_iff.mpr gw.ne
  walk_at "start"
  walk_at "go"
  refine go_lcI (fun i acc M' => ∃ ps : List Int, acc = dInts ps ∧ ps.length = i ∧ (∀ p ∈ ps, 0 ≤ p ∧ p < web.length) ∧ Kp M b M') ⟨[], rfl, rfl, by simp, .refl hb⟩ (fun i d acc M' KY KN hd hI hY hN => ?_) (fun acc M' hI => ?_)
  · obtain ⟨ps, rfl, hl, hp, kk⟩ := hI
    walk_at "go"
    refine draw_go kk (by simp only [List.length_map]; omega) (by simp only [List.length_map]; omega) (fun x c2 i0 i1 hc2 k2 => ?_)
    exact hY _ _ ⟨ps ++ [x], by simp [dInts], by simp [hl], fun p hp' => by
      rcases List.mem_append.mp hp' with hp' | hp'
      · exact hp p hp'
      · rcases List.mem_singleton.mp hp' with rfl
        simp only [List.length_map] at i1
        exact ⟨i0, i1⟩, k2⟩
  obtain ⟨spots, rfl, hl, hs, kk⟩ := hI
  rw [length_rng] at hl
  walk_at "go"
  intro pf hpf
  walk_at "go"
  refine go_seqK (J := fun G' M' => ∃ (x1 x2 x3 x4 x5 x6 : Option D), G' = [some (.ref b), some (dWeb web), some (.int count), some (.list (dInts spots)), some (.ref pf), x1, x2, x3, x4, x5, x6, none] ∧ (M pf = none ∧ pf ≠ b) ∧ Kp M b M' ∧
    ∃ cells : List Rm, cells.map (·.1) = spots ∧ (∀ r ∈ cells, GoodR web many spots r) ∧ M' pf = some (.lst (dRooms cells))) (fun nx hk => ?_) (fun G' M' hJ => ?_)
  · walk_at "go"
    refine go_forI (fun i G' M' => ∃ (x1 x2 x3 x4 x5 x6 : Option D), G' = [some (.ref b), some (dWeb web), some (.int count), some (.list (dInts spots)), some (.ref pf), x1, x2, x3, x4, x5, x6, none] ∧ (M pf = none ∧ pf ≠ b) ∧ Kp M b M' ∧
      ∃ cells : List Rm, cells.map (·.1) = spots.take i ∧ (∀ r ∈ cells, GoodR web many spots r) ∧ M' pf = some (.lst (dRooms cells))) ⟨_, _, _, _, _, _, rfl, ⟨kk.fresh hpf, kk.ne hpf⟩, kk.new hpf, [], rfl, by simp, mupd_same⟩ (fun i d G' M' nx' hd hI hn => ?_) (fun G' M' hI => ?_)
    · obtain ⟨x1, x2, x3, x4, x5, x6, rfl, hm, kk, cells, hc1, hc2, hc3⟩ := hI
      obtain ⟨hlt, rfl⟩ := rng_get hd
      walk_at "go"
      intro pr hpr
      have kk0 := kk
      obtain ⟨sp, esp, hsm, es⟩ := int_at (cs := spots) (i := 0 + (i : Int)) (by omega) (by omega)
      obtain ⟨r, hre, hrm, hr1, er⟩ := web_at gw (hs sp hsm).1 (hs sp hsm).2
      walk_at "go"
      refine go_seqK (J := fun G' M' => ∃ (x3 x4 x5 x6 : Option D), G' = [some (.ref b), some (dWeb web), some (.int count), some (.list (dInts spots)), some (.ref pf), some (.int (0 + (i : Int))), some (.ref pr), x3, x4, x5, x6, none] ∧ (M pf = none ∧ pf ≠ b) ∧ Kp M b M' ∧
        M' pf = some (.lst (dRooms cells)) ∧ (M pr = none ∧ pr ≠ b ∧ pr ≠ pf) ∧ ∃ ts : List Int, (ts.length : Int) = many ∧ Tgt web spots sp ts ∧ M' pr = some (.lst (dInts ts))) (fun nx2 hk2 => ?_) (fun G' M' hJ => ?_)
      · walk_at "go"
        refine go_forI (fun j G' M' => ∃ (x3 x4 x5 x6 : Option D), G' = [some (.ref b), some (dWeb web), some (.int count), some (.list (dInts spots)), some (.ref pf), some (.int (0 + (i : Int))), some (.ref pr), x3, x4, x5, x6, none] ∧ Kp M b M' ∧
          M' pf = some (.lst (dRooms cells)) ∧ ∃ ts : List Int, ts.length = j ∧ Tgt web spots sp ts ∧ M' pr = some (.lst (dInts ts))) ⟨_, _, _, _, rfl, kk.new hpr, by rw [mupd_ne (mne hc3 hpr)]; exact hc3, [], rfl, fun x t hx => by simp at hx, mupd_same⟩ (fun j d G' M' nx' hd hI hn => ?_) (fun G' M' hI => ?_)
        · obtain ⟨x3, x4, x5, x6, rfl, kk, c3, ts, t1, t2, t3⟩ := hI
          rw [List.getElem?_map] at hd
          obtain ⟨there, hth, rfl⟩ := Option.map_eq_some_iff.mp hd
          walk_at "go"
          refine go_lcR (fun q => spots[q.toNat]? = some there) (fun q KY KN q0 q1 hY hN => ?_) (fun lot hlot hlen => ?_)
          · obtain ⟨sq, e0, hsq, eq2⟩ := int_at (cs := spots) (i := q) q0 (by omega)
            walk_at "go"
            refine go_ite (fun e => ?_) (fun e => ?_)
            · walk_at "go"
              exact hY (by rw [e0, eq_of_beq e])
            · exact hN (fun z => by rw [e0] at z; cases z; simp at e)
          walk_at "go"
          refine draw_go kk (by decide) (by decide) (fun lack c4 j0 j1 hc4 k4 => ?_)
          walk_at "go"
          refine draw_go k4 (by omega) (by omega) (fun pick c5 j2 j3 hc5 k5 => ?_)
          have npr := kk0.ne hpr
          have c35 : (mupd (mupd M' b c4) b c5) pf = some (.lst (dRooms cells)) := by rw [mupd_ne hm.2, mupd_ne hm.2]; exact c3
          have t35 : (mupd (mupd M' b c4) b c5) pr = some (.lst (dInts ts)) := by rw [mupd_ne npr, mupd_ne npr]; exact t3
          have hj : j < r.length := (List.getElem?_eq_some_iff.mp hth).1
          have gl2 := gw.le2
          have hst : stepW web sp (ts.length : Int) = there := by
            unfold stepW
            rw [hre, t1]
            exact getD_of (by simpa using hth)
          have out : ∀ v : Int, (0 ≤ v → v < (spots.length : Int) ∧ spots.getD v.toNat 0 = there) → Tgt web spots sp (ts ++ [v]) := fun v hv => t2.snoc (by rw [hst]; exact hv)
          walk_at "go"
          refine go_ite (fun e => ?_) (fun e => ?_)
          · have hne : 0 < lot.length := by
              cases lot with
              | nil => simp at e
              | cons => simp
            walk_at "go"
            refine go_ite (fun e => ?_) (fun e => ?_)
            · obtain ⟨v, _, hv, ev⟩ := int_at (cs := lot) (i := pick % (lot.length : Int)) (Int.emod_nonneg _ (by omega)) (Int.emod_lt_of_pos _ (by omega))
              walk_at "go"
              · rw [List.length_map]
                exact ev
              walk_at "go"
              exact hn _ _ ⟨_, _, _, _, rfl, k5.mut (kk0.fresh hpr) npr, by rw [mupd_ne (mne hc3 hpr)]; exact c35, ts ++ [v], by simp; omega, out v (fun v0 => by have h := (hlot v).mp hv; exact ⟨by omega, getD_of h.2.2⟩), by rw [mupd_same]; simp [dInts]⟩
            · walk_at "go"
              exact hn _ _ ⟨_, _, _, _, rfl, k5.mut (kk0.fresh hpr) npr, by rw [mupd_ne (mne hc3 hpr)]; exact c35, ts ++ [-1], by simp; omega, out (-1) (fun h => absurd h (by decide)), by rw [mupd_same]; simp [dInts]⟩
          · walk_at "go"
            exact hn _ _ ⟨_, _, _, _, rfl, k5.mut (kk0.fresh hpr) npr, by rw [mupd_ne (mne hc3 hpr)]; exact c35, ts ++ [-1], by simp; omega, out (-1) (fun h => absurd h (by decide)), by rw [mupd_same]; simp [dInts]⟩
        · obtain ⟨x3, x4, x5, x6, rfl, kk, c3, ts, t1, t2, t3⟩ := hI
          rw [List.length_map] at t1
          exact hk2 _ _ ⟨x3, x4, x5, x6, rfl, hm, kk, c3, ⟨kk0.fresh hpr, kk0.ne hpr, Ne.symm (mne hc3 hpr)⟩, ts, by omega, t2, t3⟩
      · obtain ⟨x3, x4, x5, x6, rfl, hm, kk, c3, npr, ts, t1, t2, t3⟩ := hJ
        have hcl : cells.length ≤ 100 := by
          have := congrArg List.length hc1
          rw [List.length_map, List.length_take] at this
          omega
        walk_at "go"
        rw [show (dRooms cells ++ [D.tup [D.int sp, if isLM (D.ref pr) = true then D.tup (dInts ts) else D.ref pr]]) = dRooms (cells ++ [(sp, ts)]) by simp [dRooms, isLM]]
        refine hn _ _ ⟨_, _, _, _, _, _, rfl, hm, kk.mut hm.1 hm.2, cells ++ [(sp, ts)], ?_, fun r hr => ?_, mupd_same⟩
        · rw [List.map_append, hc1, List.take_add_one, show spots[i]? = some sp by simpa using esp]
          rfl
        · rcases List.mem_append.mp hr with hr | hr
          · exact hc2 r hr
          · rcases List.mem_singleton.mp hr with rfl
            exact ⟨(hs sp hsm).1, (hs sp hsm).2, t1, t2⟩
    · obtain ⟨x1, x2, x3, x4, x5, x6, rfl, hm, kk, cells, hc1, hc2, hc3⟩ := hI
      rw [length_rng, List.take_of_length_le (by omega)] at hc1
      exact hk _ _ ⟨x1, x2, x3, x4, x5, x6, rfl, hm, kk, cells, hc1, hc2, hc3⟩
  · obtain ⟨x1, x2, x3, x4, x5, x6, rfl, hm, kk, cells, hc1, hc2, hc3⟩ := hJ
    walk_at "go"
    obtain ⟨c', g1, g2⟩ := kk.subL (L := [pf]) (fun p hp => by rcases List.mem_singleton.mp hp with rfl; exact hm)
    have hlc := congrArg List.length hc1
    rw [List.length_map] at hlc
    exact Fin.list hc3 hm.1 g2 (q cells c' (by omega) (by unfold GoodRs; rw [hc1]; exact hc2) g1)
end
end L29

set_option Elab.async false
set_option linter.all false
set_option maxRecDepth 100000
set_option maxHeartbeats 4000000
namespace L29
open PySem PySem.Spec PyProof.Rows L2 DL
/-! ### books of rooms -/
abbrev dBook (a : Ad) (web : List (List Int)) (rs : List Rm) : D := .obj a.C_RoomBook [("_walker", dWeb web), ("_rooms", .list (dRooms rs))]
def sp_RoomBook___init__ (a : Ad) : aSp := fun ds M Q => ∃ x web rs, ds = [.ref x, dWeb web, .list (dRooms rs)] ∧ web.length ≤ 1000 ∧ rs.length ≤ 1000 ∧ M x = some (.ins a.C_RoomBook []) ∧ Q .non (mupd M x (.ins a.C_RoomBook [("_walker", dWeb web), ("_rooms", .list (dRooms rs))]))
def sp_RoomBook_rooms (a : Ad) : aSp := fun ds M Q => ∃ web rs, ds = [dBook a web rs] ∧ Q (.list (dRooms rs)) M
def sp_RoomBook_walker (a : Ad) : aSp := fun ds M Q => ∃ web rs, ds = [dBook a web rs] ∧ web.length ≤ 1000 ∧ Q (dWeb web) M
theorem room_at {rs : List Rm} {i : Int} (h0 : 0 ≤ i) (h1 : i < rs.length) : ∃ r : Rm, rs[i.toNat]? = some r ∧ r ∈ rs ∧ atI (dRooms rs) i = some (dRoom r) := by
  have h : rs[i.toNat]? = some (rs[i.toNat]'(by omega)) := List.getElem?_eq_getElem (by omega)
  refine ⟨_, h, List.getElem_mem _, ?_⟩
  rw [atI_nn _ h0, List.getElem?_map, h]
  rfl
section
variable {P : Program} {w : World} {K : PySem.W.Frag} {mg : Str → Option Value} {base : Heap} {a : Ad}
theorem ok_RoomBook___init__ (T : TX K mg a) : FnOk P w K mg base CX0 1 a.f_RoomBook___init__ a.fd_RoomBook___init__ ["self", "walker", "rooms"] (lift K 3 (sp_RoomBook___init__ a)) := by
  refine okD (k := 0) T.fn_RoomBook___init__ sc_RoomBook___init__ rfl fun cdv A outer s H E hr => ⟨_, _, (dss_cons (ds_fld (dv 0) (de_lc (own := [("row", 3)]) rfl sc_RoomBook___init__.nd (di_seq (dv 1)) (blkOk_by (by rfl)) (fun _ _ _ _ _ => (dg_name (j := 3) sc_RoomBook___init__.nd rfl (by first | exact .inl rfl | exact .inr rfl))) (fun _ _ _ _ _ => dts_nil) (fun _ _ _ _ _ => (de_callTy call_list_of sl_list (by rfl) T.b_list (by decide +kernel) (da_cons (dv 3) da_nil))) om_name))
      (dss_one (ds_fld (dv 0) (de_lc (own := [("kind", 4), ("steps", 5)]) rfl sc_RoomBook___init__.nd (di_seq (dv 2)) (blkOk_by (by rfl)) (fun _ _ _ _ _ => (dg_tup (dgs_cons (dg_name (j := 4) sc_RoomBook___init__.nd rfl (by first | exact .inl rfl | exact .inr rfl)) (dgs_cons (dg_name (j := 5) sc_RoomBook___init__.nd rfl (by first | exact .inl rfl | exact .inr rfl)) dgs_nil)))) (fun _ _ _ _ _ => dts_nil) (fun _ _ _ _ _ => (de_tup (da_cons (dv 4) (da_cons (de_callTy call_tuple_of sl_tuple (by rfl) T.b_tuple (by decide +kernel) (da_cons (dv 5) da_nil)) da_nil)))) (om_tup (om_cons om_name (om_cons om_name om_nil))))))), fun ds M Q hl h => ?_⟩
  obtain ⟨x, web, rs, rfl, h1, h2, hx, q⟩ := h
  walk_at "start"
  walk_at "go"
  refine go_lcM' (fun d => d) (fun i d KY KN hd hY => ?_) ?_
  · rw [List.getElem?_map] at hd
    obtain ⟨r, _, rfl⟩ := Option.map_eq_some_iff.mp hd
    walk_at "go"
    exact hY
  rw [List.map_id']
  walk_at "go"
  refine go_ksetF hx T.cl_RoomBook T.na_RoomBook__walker (by decide) rfl ?_
  walk_at "go"
  refine go_lcM' (fun d => d) (fun i d KY KN hd hY => ?_) ?_
  · rw [List.getElem?_map] at hd
    obtain ⟨r, _, rfl⟩ := Option.map_eq_some_iff.mp hd
    walk_at "go"
    exact hY
  rw [List.map_id']
  walk_at "go"
  refine go_ksetF mupd_same T.cl_RoomBook T.na_RoomBook__rooms (Nat.le_of_ble_eq_true rfl) rfl ?_
  rw [mupd_mupd]
  exact Fin.of q
theorem ok_RoomBook_rooms (T : TX K mg a) : FnOk P w K mg base CX0 1 a.f_RoomBook_rooms a.fd_RoomBook_rooms ["self"] (lift K 1 (sp_RoomBook_rooms a)) := by
  refine okD (k := 0) T.fn_RoomBook_rooms sc_RoomBook_rooms rfl fun cdv A outer s H E hr => ⟨_, _, (dss_one (ds_ret (de_callTy call_list_of sl_list (by rfl) T.b_list (by decide +kernel) (da_cons (de_fld (dv 0)) da_nil)))), fun ds M Q hl h => ?_⟩
  obtain ⟨web, rs, rfl, q⟩ := h
  have hc := T.cl_RoomBook
  have hf := T.na_RoomBook__rooms
  walk_at "start"
  walk_at "go"
  exact Fin.of q
theorem ok_RoomBook_walker (T : TX K mg a) : FnOk P w K mg base CX0 1 a.f_RoomBook_walker a.fd_RoomBook_walker ["self"] (lift K 1 (sp_RoomBook_walker a)) := by
  refine okD (k := 0) T.fn_RoomBook_walker sc_RoomBook_walker rfl fun cdv A outer s H E hr => ⟨_, _, (dss_one (ds_ret (de_lc (own := [("row", 1)]) rfl sc_RoomBook_walker.nd (di_seq (de_fld (dv 0))) (blkOk_by (by rfl)) (fun _ _ _ _ _ => (dg_name (j := 1) sc_RoomBook_walker.nd rfl (by first | exact .inl rfl | exact .inr rfl))) (fun _ _ _ _ _ => dts_nil) (fun _ _ _ _ _ => (de_callTy call_list_of sl_list (by rfl) T.b_list (by decide +kernel) (da_cons (dv 1) da_nil))) om_name))), fun ds M Q hl h => ?_⟩
  obtain ⟨web, rs, rfl, hl, q⟩ := h
  have hc := T.cl_RoomBook
  have hf := T.na_RoomBook__walker
  walk_at "start"
  walk_at "go"
  refine go_lcM' (fun d => d) (fun i d KY KN hd hY => ?_) ?_
  · rw [List.getElem?_map] at hd
    obtain ⟨r, _, rfl⟩ := Option.map_eq_some_iff.mp hd
    walk_at "go"
    exact hY
  rw [List.map_id']
  exact Fin.of q
end
end L29

set_option Elab.async false
set_option linter.all false
set_option maxRecDepth 100000
set_option maxHeartbeats 4000000
namespace L29
open PySem PySem.Spec PyProof.Rows L2 DL
/-! ### plain mathematics: steps again and again -/
def iter (h : Int → Int) : Nat → Int → Int
  | 0, k => k
  | n + 1, k => iter h n (h k)
theorem iter_add (h : Int → Int) : ∀ (a b : Nat) (k : Int), iter h (a + b) k = iter h b (iter h a k)
  | 0, b, k => by rw [Nat.zero_add]; rfl
  | a + 1, b, k => by
    rw [show a + 1 + b = (a + b) + 1 by omega]
    exact iter_add h a b (h k)
theorem iter_mul (h : Int → Int) (m : Nat) : ∀ (j : Nat) (k : Int), iter (iter h m) j k = iter h (m * j) k
  | 0, k => rfl
  | j + 1, k => by
    rw [show m * (j + 1) = m + m * j by rw [Nat.mul_add]; omega, iter_add h m (m * j)]
    exact iter_mul h m j (iter h m k)
theorem iter_neg {h : Int → Int} (hn : ∀ k, k < 0 → h k < 0) : ∀ (n : Nat) (k : Int), k < 0 → iter h n k < 0
  | 0, _, e => e
  | n + 1, k, e => iter_neg hn n (h k) (hn k e)
theorem iter_le {h : Int → Int} (hn : ∀ k, k < 0 → h k < 0) {a b : Nat} {k : Int} (hab : a ≤ b) (e : 0 ≤ iter h b k) : 0 ≤ iter h a k := by
  by_cases q : 0 ≤ iter h a k
  · exact q
  · have : iter h b k < 0 := by
      rw [show b = a + (b - a) by omega, iter_add]
      exact iter_neg hn _ _ (by omega)
    omega
theorem nodup_lt : ∀ (n : Nat) (l : List Nat), l.Nodup → (∀ x ∈ l, x < n) → l.length ≤ n
  | 0, l, _, h => by
    cases l with
    | nil => simp
    | cons a r => exact absurd (h a (by simp)) (by omega)
  | n + 1, l, hn, h => by
    have h1 : (l.filter fun x => decide (x ≠ n)).length ≤ n := nodup_lt n _ (hn.filter _) fun x hx => by
      simp at hx
      have := h x hx.1
      omega
    have h2 : l.length ≤ (l.filter fun x => decide (x ≠ n)).length + 1 := by
      clear h1 h
      induction l with
      | nil => simp
      | cons a r ih =>
        have hr := (List.nodup_cons.mp hn).2
        by_cases q : a = n
        · subst q
          have e : r.filter (fun x => decide (x ≠ a)) = r := List.filter_eq_self.mpr fun x hx => by
            simp
            intro z
            subst z
            exact (List.nodup_cons.mp hn).1 hx
          rw [List.filter_cons_of_neg (by simp), e]
          simp
        · rw [List.filter_cons_of_pos (by simp [q]), List.length_cons, List.length_cons]
          have := ih hr
          omega
    omega
theorem nodup_sub {t : Type} [DecidableEq t] {l S : List t} (hn : l.Nodup) (hs : ∀ x ∈ l, x ∈ S) : l.length ≤ S.length := by
  have h1 : (l.map S.idxOf).Nodup := by
    unfold List.Nodup at *
    rw [List.pairwise_map]
    refine hn.imp_of_mem fun {a b} ha hb hne e => hne ?_
    have qa := List.getElem_idxOf (List.idxOf_lt_length_of_mem (hs a ha))
    have qb := List.getElem_idxOf (List.idxOf_lt_length_of_mem (hs b hb))
    rw [← qa, ← qb]
    congr 1
  have h2 := nodup_lt S.length _ h1 (fun x hx => by
    obtain ⟨q, hq, rfl⟩ := List.mem_map.mp hx
    exact List.idxOf_lt_length_of_mem (hs q hq))
  rwa [List.length_map] at h2
/-- who stays n steps among n comes again, and so for ever -/
theorem forever {h : Int → Int} (hn : ∀ k, k < 0 → h k < 0) {S : List Int} (hS : ∀ x ∈ S, 0 ≤ x) {k : Int} (hi : ∀ i, i ≤ S.length → iter h i k ∈ S) (j : Nat) : 0 ≤ iter h j k := by
  have h1 : ¬ ((List.range (S.length + 1)).map fun i => iter h i k).Nodup := fun nd => by
    have := nodup_sub nd (S := S) (fun x hx => by
      obtain ⟨i, hi', rfl⟩ := List.mem_map.mp hx
      exact hi i (by have := List.mem_range.mp hi'; omega))
    simp at this
    omega
  have h2 : ∃ a b, a < b ∧ b ≤ S.length ∧ iter h a k = iter h b k := by
    refine Classical.byContradiction fun no => h1 ?_
    unfold List.Nodup
    rw [List.pairwise_map]
    refine (List.pairwise_lt_range (n := S.length + 1)).imp_of_mem fun {a b} ha hb hlt e => no ⟨a, b, hlt, ?_, e⟩
    have := List.mem_range.mp hb
    omega
  obtain ⟨a, b, hab, hb, e⟩ := h2
  induction j using Nat.strongRecOn with
  | _ j ih =>
    by_cases q : j ≤ S.length
    · exact hS _ (hi j q)
    · have e2 : iter h j k = iter h (a + (j - b)) k := by
        rw [show j = b + (j - b) by omega, iter_add, ← e, ← iter_add]
        congr 1
        omega
      rw [e2]
      exact ih _ (by omega)
end L29

set_option Elab.async false
set_option linter.all false
set_option maxRecDepth 100000
set_option maxHeartbeats 4000000
namespace L29
open PySem PySem.Spec PyProof.Rows L2 DL
def runW (web : List (List Int)) (c : Int) (w : List Int) : Int := w.foldl (stepW web) c
def clsR (rs : List Rm) (k : Int) : Int := (rs.map (·.1)).getD k.toNat 0
def stepR (rs : List Rm) (k x : Int) : Int := if 0 ≤ k then ((rs.map (·.2)).getD k.toNat []).getD x.toNat (-1) else -1
def runR (rs : List Rm) (k : Int) (w : List Int) : Int := w.foldl (stepR rs) k
theorem runR_app {rs : List Rm} {k : Int} {v w : List Int} : runR rs k (v ++ w) = runR rs (runR rs k v) w := List.foldl_append ..
theorem runW_app {web : List (List Int)} {k : Int} {v w : List Int} : runW web k (v ++ w) = runW web (runW web k v) w := List.foldl_append ..
theorem runR_rep {rs : List Rm} {w : List Int} : ∀ (n : Nat) (k : Int), runR rs k (List.replicate n w).flatten = iter (fun k => runR rs k w) n k
  | 0, k => rfl
  | n + 1, k => by
    rw [List.replicate_succ, List.flatten_cons, runR_app]
    exact runR_rep n _
theorem runW_rep {web : List (List Int)} {w : List Int} : ∀ (n : Nat) (k : Int), runW web k (List.replicate n w).flatten = iter (fun k => runW web k w) n k
  | 0, k => rfl
  | n + 1, k => by
    rw [List.replicate_succ, List.flatten_cons, runW_app]
    exact runW_rep n _
theorem stepR_neg {rs : List Rm} {k : Int} (h : k < 0) (x : Int) : stepR rs k x < 0 := by
  unfold stepR
  rw [if_neg (by omega)]
  decide
theorem runR_neg {rs : List Rm} : ∀ (w : List Int) (k : Int), k < 0 → runR rs k w < 0
  | [], k, h => h
  | x :: w, k, h => runR_neg w _ (stepR_neg h x)
theorem runW_in {web : List (List Int)} {many : Int} (g : GoodWeb web many) : ∀ (w : List Int) (c : Int), (∀ x ∈ w, 0 ≤ x ∧ x < many) → 0 ≤ c → c < (web.length : Int) → 0 ≤ runW web c w ∧ runW web c w < (web.length : Int)
  | [], c, _, h0, h1 => ⟨h0, h1⟩
  | x :: w, c, hw, h0, h1 => by
    obtain ⟨a, b⟩ := hw x (by simp)
    obtain ⟨p, q⟩ := stepW_in g h0 h1 a b
    exact runW_in g w _ (fun y hy => hw y (by simp [hy])) p q
theorem stepR_ok {web : List (List Int)} {many : Int} {rs : List Rm} (g : GoodRs web many rs) {k x : Int} (k0 : 0 ≤ k) (k1 : k < (rs.length : Int)) (x0 : 0 ≤ x) (h : 0 ≤ stepR rs k x) : stepR rs k x < (rs.length : Int) ∧ clsR rs (stepR rs k x) = stepW web (clsR rs k) x := by
  have e1 : rs[k.toNat]? = some (rs[k.toNat]'(by omega)) := List.getElem?_eq_getElem (by omega)
  have gr := g _ (List.getElem_mem (show k.toNat < rs.length by omega))
  generalize rs[k.toNat]'(by omega) = r at e1 gr
  have e2 : (rs.map (·.2)).getD k.toNat [] = r.2 := by rw [List.getD_eq_getElem?_getD, List.getElem?_map, e1]; rfl
  have e3 : clsR rs k = r.1 := by unfold clsR; rw [List.getD_eq_getElem?_getD, List.getElem?_map, e1]; rfl
  have e4 : stepR rs k x = r.2.getD x.toNat (-1) := by unfold stepR; rw [if_pos k0, e2]
  rw [e4] at h ⊢
  by_cases q : x.toNat < r.2.length
  · have e5 : r.2[x.toNat]? = some (r.2[x.toNat]'q) := List.getElem?_eq_getElem q
    rw [getD_of e5] at h ⊢
    obtain ⟨a, b⟩ := gr.tgt x.toNat _ e5 h
    rw [List.length_map] at a
    refine ⟨a, ?_⟩
    rw [e3]
    unfold clsR
    rw [b, show ((x.toNat : Nat) : Int) = x by omega]
  · rw [List.getD_eq_getElem?_getD, List.getElem?_eq_none (by omega)] at h
    exact absurd h (by decide)
theorem runR_ok {web : List (List Int)} {many : Int} {rs : List Rm} (g : GoodRs web many rs) : ∀ (w : List Int) (k : Int), (∀ x ∈ w, 0 ≤ x ∧ x < many) → 0 ≤ k → k < (rs.length : Int) → 0 ≤ runR rs k w → runR rs k w < (rs.length : Int) ∧ clsR rs (runR rs k w) = runW web (clsR rs k) w
  | [], k, _, _, h1, _ => ⟨h1, rfl⟩
  | x :: w, k, hw, h0, h1, h => by
    obtain ⟨a, b⟩ := hw x (by simp)
    have hs : 0 ≤ stepR rs k x := by
      by_cases q : 0 ≤ stepR rs k x
      · exact q
      · have := runR_neg (rs := rs) w (stepR rs k x) (by omega)
        have e : runR rs k (x :: w) = runR rs (stepR rs k x) w := rfl
        omega
    obtain ⟨p, q⟩ := stepR_ok g h0 h1 a hs
    have r := runR_ok g w (stepR rs k x) (fun y hy => hw y (by simp [hy])) hs p h
    refine ⟨r.1, r.2.trans ?_⟩
    rw [q]
    rfl
/-- the class that comes again: what both programs reckon -/
def comeAgain (f : Int → Int) : Nat → List Int → Int → Int
  | 0, _, c => c
  | n + 1, seen, c => if c ∈ seen then c else comeAgain f n (seen ++ [c]) (f c)
/-- rooms that step a round again and again: told in two ways -/
theorem held_iff {web : List (List Int)} {many : Int} {rs : List Rm} (g : GoodRs web many rs) {turn : List Int} (ht : ∀ x ∈ turn, 0 ≤ x ∧ x < many) {here : Int} {m : Nat} (hm : 1 ≤ m) (hh : iter (fun c => runW web c turn) m here = here)
    {al : List Int} (hal : ∀ k, k ∈ al ↔ 0 ≤ k ∧ k < (rs.length : Int) ∧ clsR rs k = here) :
    (∃ k ∈ al, 0 ≤ iter (fun k => runR rs k (List.replicate m turn).flatten) al.length k) ↔ (∃ k, 0 ≤ k ∧ k < (rs.length : Int) ∧ clsR rs k = here ∧ 0 ≤ iter (fun k => runR rs k turn) (rs.length + 1) k) := by
  have hn : ∀ k, k < 0 → (fun k => runR rs k turn) k < 0 := fun k hk => runR_neg turn k hk
  have em : ∀ k, (fun k => runR rs k (List.replicate m turn).flatten) k = iter (fun k => runR rs k turn) m k := fun k => runR_rep m k
  have emf : (fun k => runR rs k (List.replicate m turn).flatten) = iter (fun k => runR rs k turn) m := funext em
  rw [emf]
  have okT : ∀ (n : Nat) (k : Int), 0 ≤ k → k < (rs.length : Int) → 0 ≤ iter (fun k => runR rs k turn) n k → iter (fun k => runR rs k turn) n k < (rs.length : Int) ∧ clsR rs (iter (fun k => runR rs k turn) n k) = iter (fun c => runW web c turn) n (clsR rs k) := fun n k k0 k1 h => by
    rw [← runR_rep] at h ⊢
    rw [← runW_rep]
    refine runR_ok g _ k (fun x hx => ?_) k0 k1 h
    obtain ⟨l, hl, hx⟩ := List.mem_flatten.mp hx
    rw [(List.mem_replicate.mp hl).2] at hx
    exact ht x hx
  constructor
  · rintro ⟨k, hk, h⟩
    obtain ⟨k0, k1, kc⟩ := (hal k).mp hk
    refine ⟨k, k0, k1, kc, ?_⟩
    have hnm : ∀ k, k < 0 → iter (fun k => runR rs k turn) m k < 0 := fun k hk => iter_neg hn m k hk
    have hc : ∀ j, iter (fun c => runW web c turn) (m * j) here = here := fun j => by
      induction j with
      | zero => rfl
      | succ j ih => rw [show m * (j + 1) = m + m * j by rw [Nat.mul_add]; omega, iter_add, hh, ih]
    have fe := forever hnm (S := al) (fun x hx => ((hal x).mp hx).1) (k := k) (fun i hi => by
      have hp : 0 ≤ iter (iter (fun k => runR rs k turn) m) i k := iter_le hnm hi h
      have := okT (m * i) k k0 k1 (by rw [← iter_mul]; exact hp)
      rw [iter_mul] at hp ⊢
      refine (hal _).mpr ⟨hp, this.1, ?_⟩
      rw [this.2, kc, hc]) (rs.length + 1)
    rw [iter_mul] at fe
    refine iter_le hn (b := m * (rs.length + 1)) ?_ fe
    exact Nat.le_mul_of_pos_left _ hm
  · rintro ⟨k, k0, k1, kc, h⟩
    refine ⟨k, (hal k).mpr ⟨k0, k1, kc⟩, ?_⟩
    rw [iter_mul]
    refine forever hn (S := (List.range rs.length).map fun (i : Nat) => (i : Int)) (fun x hx => ?_) (fun i hi => ?_) _
    · obtain ⟨i, _, rfl⟩ := List.mem_map.mp hx
      omega
    · rw [List.length_map, List.length_range] at hi
      have hp : 0 ≤ iter (fun k => runR rs k turn) i k := iter_le hn (by omega) h
      have := (okT i k k0 k1 hp).1
      refine List.mem_map.mpr ⟨(iter (fun k => runR rs k turn) i k).toNat, List.mem_range.mpr (by omega), by omega⟩
end L29

set_option Elab.async false
set_option linter.all false
set_option maxRecDepth 100000
set_option maxHeartbeats 4000000
namespace L29
open PySem PySem.Spec PyProof.Rows L2 DL
open Classical in
/-- some room behind the word, of the class that comes again, steps the round for ever -/
noncomputable def heldB (web : List (List Int)) (rs : List Rm) (c : Int) (lead turn : List Int) : Bool :=
  decide (∃ k, 0 ≤ k ∧ k < (rs.length : Int) ∧ clsR rs k = comeAgain (fun c => runW web c turn) (web.length + 1) [] (runW web c lead) ∧ 0 ≤ iter (fun k => runR rs k turn) (rs.length + 1) k)
def Ltr (many : Int) (w : List Int) : Prop := ∀ x ∈ w, 0 ≤ x ∧ x < many
def sp_walked : aSp := fun ds M Q => ∃ web many c w L, ds = [dWeb web, .int c, L] ∧ items L = some (dInts w) ∧ GoodWeb web many ∧ 0 ≤ c ∧ c < (web.length : Int) ∧ Ltr many w ∧ Q (.int (runW web c w)) M
def sp_stepped : aSp := fun ds M Q => ∃ web many rs al w L, ds = [.list (dRooms rs), .list (dInts al), L] ∧ items L = some (dInts w) ∧ GoodRs web many rs ∧ Ltr many w ∧ al.length ≤ 1000 ∧ (∀ k ∈ al, 0 ≤ k ∧ k < (rs.length : Int)) ∧
  ∀ out : List Int, out.length ≤ al.length → (∀ t, t ∈ out ↔ ∃ k ∈ al, runR rs k w = t ∧ 0 ≤ t) → Q (.list (dInts out)) M
theorem atStep {web : List (List Int)} {many : Int} (g : GoodWeb web many) {c x : Int} (h0 : 0 ≤ c) (h1 : c < (web.length : Int)) (x0 : 0 ≤ x) (x1 : x < many) : ∃ r : List Int, atI (web.map fun r => D.list (r.map .int)) c = some (.list (dInts r)) ∧ atI (dInts r) x = some (.int (stepW web c x)) := by
  obtain ⟨r, e, hm, hl, ea⟩ := web_at g h0 h1
  obtain ⟨t, ht, _, et⟩ := int_at (cs := r) x0 (by omega)
  refine ⟨r, ea, ?_⟩
  rw [et]
  unfold stepW
  rw [e, getD_of ht]
theorem atStepR {web : List (List Int)} {many : Int} {rs : List Rm} (g : GoodRs web many rs) {k x : Int} (k0 : 0 ≤ k) (k1 : k < (rs.length : Int)) (x0 : 0 ≤ x) (x1 : x < many) : ∃ r : Rm, atI (dRooms rs) k = some (dRoom r) ∧ atI (dInts r.2) x = some (.int (stepR rs k x)) ∧ clsR rs k = r.1 := by
  obtain ⟨r, e1, hm, ea⟩ := room_at k0 k1
  have gr := g r hm
  obtain ⟨t, ht, _, et⟩ := int_at (cs := r.2) x0 (by have := gr.len; omega)
  refine ⟨r, ea, ?_, by unfold clsR; rw [List.getD_eq_getElem?_getD, List.getElem?_map, e1]; rfl⟩
  rw [et]
  unfold stepR
  rw [if_pos k0, List.getD_eq_getElem?_getD (l := rs.map (·.2)), List.getElem?_map, e1]
  show _ = some (D.int (r.2.getD x.toNat (-1)))
  rw [getD_of ht]
theorem freeze1 {m0 M : Mp} {G G' : Gm} {p : Addr} {ds : List D} (h : M p = some (.lst ds)) (h0 : m0 p = none) (hg : Dzg M [p] G G') : Cvt m0 G M G' (mdel M p) :=
  Cvt.freeze (L := [p]) (by simp) (fun a ha => by rcases List.mem_singleton.mp ha with rfl; exact ⟨⟨_, h⟩, h0⟩) hg fun x c hx => by
    by_cases q : x = p
    · subst q; rw [mdel_same] at hx; cases hx
    · rw [mdel_ne q] at hx
      exact ⟨by simpa using q, .inl hx⟩
theorem Kp.del {M M' : Mp} {b p : Addr} (k : Kp M b M') (h : M p = none) (hn : p ≠ b) : Kp M b (mdel M' p) := by
  refine ⟨?_, fun a x ha e => ?_⟩
  · obtain ⟨c', h1, h2⟩ := k.1
    exact ⟨c', by rw [mdel_ne (Ne.symm hn)]; exact h1, h2⟩
  · have : a ≠ p := fun z => by subst z; rw [h] at e; cases e
    rw [mdel_ne this]
    exact k.2 a x ha e
theorem sub_mupd {M M' : Mp} {x : Addr} {c : MC} (h : Sub M M') (hx : M x = none) : Sub M (mupd M' x c) := fun y d e => by
  rw [mupd_ne (fun z => by subst z; rw [hx] at e; cases e)]
  exact h y d e
section
variable {P : Program} {w : World} {K : PySem.W.Frag} {mg : Str → Option Value} {base : Heap} {a : Ad}
theorem ok_walked (T : TX K mg a) : FnOk P w K mg base CX0 1 a.f_walked a.fd_walked ["after", "start", "letters"] (lift K 3 sp_walked) := by
  refine okD (k := 0) T.fn_walked sc_walked rfl fun cdv A outer s H E hr => ⟨_, _, (dss_cons (ds_for (di_seq (dv 2)) (dg_name (j := 3) sc_walked.nd rfl (by first | exact .inl rfl | exact .inr rfl)) (dss_one (ds_set (j := 1) sc_walked.nd rfl (by first | exact .inl rfl | exact .inr rfl) (de_ix (hu_of hr) (de_ix (hu_of hr) (dv 0) (dv 1) (fun _ _ => rfl)) (dv 3) (fun _ _ => rfl)))) PassesOwn.never)
      (dss_one (ds_ret (dv 1)))), fun ds M Q hl h => ?_⟩
  obtain ⟨web, many, c, w, L, rfl, hL, gw, c0, c1, hw, q⟩ := h
  walk_at "start"
  walk_at "go"
  refine go_seqK (J := fun G' M' => ∃ (x : Option D), G' = [some (dWeb web), some (.int (runW web c w)), some L, x] ∧ M = M') (fun nx hk => ?_) (fun G' M' hJ => ?_)
  · walk_at "go"
    refine go_forI (fun i G' M' => ∃ (x : Option D), G' = [some (dWeb web), some (.int (runW web c (w.take i))), some L, x] ∧ M = M') ⟨none, rfl, rfl⟩ (fun i d G' M' nx' hd hI hn => ?_) (fun G' M' hI => ?_)
    · obtain ⟨x, rfl, rfl⟩ := hI
      rw [List.getElem?_map] at hd
      obtain ⟨y, hy, rfl⟩ := Option.map_eq_some_iff.mp hd
      obtain ⟨y0, y1⟩ := hw y (List.mem_of_getElem? hy)
      obtain ⟨i0, i1⟩ := runW_in gw (w.take i) c (fun z hz => hw z (List.mem_of_mem_take hz)) c0 c1
      obtain ⟨r, er, et⟩ := atStep gw i0 i1 y0 y1
      walk_at "go"
      refine hn _ _ ⟨some (.int y), ?_, rfl⟩
      rw [List.take_add_one, hy, runW_app]
      rfl
    · obtain ⟨x, rfl, rfl⟩ := hI
      refine hk _ _ ⟨x, ?_, rfl⟩
      rw [List.length_map, List.take_length]
  · obtain ⟨x, rfl, rfl⟩ := hJ
    walk_at "go"
    exact Fin.of q
theorem ok_stepped (T : TX K mg a) : FnOk P w K mg base CX0 1 a.f_stepped a.fd_stepped ["rooms", "alive", "letters"] (lift K 3 sp_stepped) := by
  refine okD (k := 0) T.fn_stepped sc_stepped rfl fun cdv A outer s H E hr => ⟨_, _, (dss_cons (ds_for (di_seq (dv 2)) (dg_name (j := 3) sc_stepped.nd rfl (by first | exact .inl rfl | exact .inr rfl)) (dss_cons (ds_set (j := 4) sc_stepped.nd rfl (by first | exact .inl rfl | exact .inr rfl) de_dnewK)
      (dss_cons (ds_for (di_seq (dv 1)) (dg_name (j := 5) sc_stepped.nd rfl (by first | exact .inl rfl | exact .inr rfl)) (dss_cons (ds_set (j := 6) sc_stepped.nd rfl (by first | exact .inl rfl | exact .inr rfl) (de_ix (hu_of hr) (de_ix (hu_of hr) (de_ix (hu_of hr) (dv 0) (dv 5) (fun _ _ => rfl)) de_int (fun _ _ => rfl)) (dv 3) (fun _ _ => rfl)))
      (dss_one (ds_if (dt_cmp op_ge s2_ge (dv 6) de_int (nomark _)) (dss_one (ds_dput (hu_of hr) (dv 4) (dv 6) de_bl)) dss_nil))) PassesOwn.never)
      (dss_one (ds_set (j := 1) sc_stepped.nd rfl (by first | exact .inl rfl | exact .inr rfl) (de_callTy (call_list_dK rfl) sl_listD (by rfl) T.b_list (by decide +kernel) (da_cons (dv 4) da_nil)))))) PassesOwn.never)
      (dss_one (ds_ret (dv 1)))), fun ds M Q hl h => ?_⟩
  obtain ⟨web, many, rs, al, w, L, rfl, hL, gr, hw, hl, hal, q⟩ := h
  walk_at "start"
  walk_at "go"
  refine go_seqK (J := fun G' M' => ∃ (out : List Int) (x3 x4 x5 x6 : Option D), G' = [some (.list (dRooms rs)), some (.list (dInts out)), some L, x3, x4, x5, x6] ∧ Sub M M' ∧ out.length ≤ al.length ∧ ∀ t, t ∈ out ↔ ∃ k ∈ al, runR rs k w = t ∧ 0 ≤ t) (fun nx hk => ?_) (fun G' M' hJ => ?_)
  · walk_at "go"
    refine go_forI (fun i G' M' => ∃ (out : List Int) (x3 x4 x5 x6 : Option D), G' = [some (.list (dRooms rs)), some (.list (dInts out)), some L, x3, x4, x5, x6] ∧ Sub M M' ∧ out.length ≤ al.length ∧ ∀ t, t ∈ out ↔ ∃ k ∈ al, runR rs k (w.take i) = t ∧ 0 ≤ t) ⟨al, _, _, _, _, rfl, fun _ _ h => h, Nat.le_refl _, fun t => ⟨fun h => ⟨t, h, rfl, (hal t h).1⟩, fun ⟨k, h1, h2, _⟩ => h2 ▸ h1⟩⟩ (fun i d G' M' nx' hd hI hn => ?_) (fun G' M' hI => ?_)
    · obtain ⟨out, x3, x4, x5, x6, rfl, sb, hlo, hout⟩ := hI
      rw [List.getElem?_map] at hd
      obtain ⟨y, hy, rfl⟩ := Option.map_eq_some_iff.mp hd
      obtain ⟨y0, y1⟩ := hw y (List.mem_of_getElem? hy)
      walk_at "go"
      intro pk hpk
      have hMp : M pk = none := sb.none hpk
      walk_at "go"
      refine go_seqK (J := fun G' M2 => ∃ (F : List Int) (x5 x6 : Option D), G' = [some (.list (dRooms rs)), some (.list (dInts out)), some L, some (.int y), some (.ref pk), x5, x6] ∧ Sub M M2 ∧ F.length ≤ out.length ∧ M2 pk = some (.dK (dSeen (F.map Sum.inl))) ∧ ∀ t, t ∈ F ↔ ∃ r ∈ out, stepR rs r y = t ∧ 0 ≤ t) (fun nx2 hk2 => ?_) (fun G' M2 hJ => ?_)
      · walk_at "go"
        refine go_forI (fun j G' M2 => ∃ (F : List Int) (x5 x6 : Option D), G' = [some (.list (dRooms rs)), some (.list (dInts out)), some L, some (.int y), some (.ref pk), x5, x6] ∧ Sub M M2 ∧ F.length ≤ j ∧ M2 pk = some (.dK (dSeen (F.map Sum.inl))) ∧ ∀ t, t ∈ F ↔ ∃ r ∈ out.take j, stepR rs r y = t ∧ 0 ≤ t) ⟨[], _, _, rfl, sub_mupd sb hMp, Nat.le_refl _, mupd_same, by simp⟩ (fun j d G' M2 nx3 hd2 hI hn3 => ?_) (fun G' M2 hI => ?_)
        · obtain ⟨F, x5, x6, rfl, sb2, hlF, c2, hF⟩ := hI
          rw [List.getElem?_map] at hd2
          obtain ⟨r, hr, rfl⟩ := Option.map_eq_some_iff.mp hd2
          have hj := (List.getElem?_eq_some_iff.mp hr).1
          obtain ⟨k0, hk0, hk1, hk2'⟩ := (hout r).mp (List.mem_of_getElem? hr)
          have hrin : r < (rs.length : Int) := by
            have := (runR_ok gr (w.take i) k0 (fun z hz => hw z (List.mem_of_mem_take hz)) (hal k0 hk0).1 (hal k0 hk0).2 (by omega)).1
            omega
          obtain ⟨rm, er, et, _⟩ := atStepR gr hk2' hrin y0 y1
          walk_at "goS"
          refine go_ite (fun e => ?_) (fun e => ?_)
          · have e := of_decide_eq_true e
            walk_at "goS"
            refine go_kdputK (kk := .inl (stepR rs r y)) c2 (by simp only [dSeen, List.length_map]; omega) rfl ?_
            by_cases hm : stepR rs r y ∈ F
            · rw [putD_old (List.mem_map.mpr ⟨_, hm, rfl⟩)]
              refine hn3 _ _ ⟨F, _, _, rfl, sub_mupd sb2 hMp, by omega, mupd_same, fun t => ?_⟩
              rw [hF, List.take_add_one, hr]
              simp only [Option.toList_some, List.mem_append, List.mem_singleton]
              constructor
              · rintro ⟨r', h1, h2⟩; exact ⟨r', .inl h1, h2⟩
              · rintro ⟨r', h1 | rfl, h2⟩
                · exact ⟨r', h1, h2⟩
                · rw [← hF, ← h2.1]; exact hm
            · rw [putD_new (by simpa using hm)]
              refine hn3 _ _ ⟨F ++ [stepR rs r y], _, _, rfl, sub_mupd sb2 hMp, by simp; omega, by rw [mupd_same]; simp, fun t => ?_⟩
              rw [List.mem_append, hF, List.take_add_one, hr]
              simp only [Option.toList_some, List.mem_append, List.mem_singleton]
              constructor
              · rintro (⟨r', h1, h2⟩ | rfl)
                · exact ⟨r', .inl h1, h2⟩
                · exact ⟨r, .inr rfl, rfl, e⟩
              · rintro ⟨r', h1 | rfl, h2⟩
                · exact .inl ⟨r', h1, h2⟩
                · exact .inr h2.1.symm
          · have e := of_decide_eq_false e
            walk_at "goS"
            refine hn3 _ _ ⟨F, _, _, rfl, sb2, by omega, c2, fun t => ?_⟩
            rw [hF, List.take_add_one, hr]
            simp only [Option.toList_some, List.mem_append, List.mem_singleton]
            constructor
            · rintro ⟨r', h1, h2⟩; exact ⟨r', .inl h1, h2⟩
            · rintro ⟨r', h1 | rfl, h2⟩
              · exact ⟨r', h1, h2⟩
              · omega
        · obtain ⟨F, x5, x6, rfl, sb2, hlF, c2, hF⟩ := hI
          rw [List.length_map] at hlF hF
          rw [List.take_length] at hF
          exact hk2 _ _ ⟨F, _, _, rfl, sb2, hlF, c2, hF⟩
      · obtain ⟨F, x5, x6, rfl, sb2, hlF, c2, hF⟩ := hJ
        walk_at "goS"
        rw [keys_dSeen]
        refine hn _ _ ⟨F, _, _, _, _, rfl, sb2, by omega, fun t => ?_⟩
        rw [hF, List.take_add_one, hy]
        constructor
        · rintro ⟨r, h1, h2, h3⟩
          obtain ⟨k, h4, h5, h6⟩ := (hout r).mp h1
          refine ⟨k, h4, ?_, h3⟩
          rw [runR_app, h5]
          exact h2
        · rintro ⟨k, h4, h5, h6⟩
          rw [runR_app] at h5
          refine ⟨runR rs k (w.take i), (hout _).mpr ⟨k, h4, rfl, ?_⟩, h5, h6⟩
          by_cases q : 0 ≤ runR rs k (w.take i)
          · exact q
          · have := stepR_neg (rs := rs) (show runR rs k (w.take i) < 0 by omega) y
            have e : stepR rs (runR rs k (w.take i)) y = t := h5
            omega
    · obtain ⟨out, x3, x4, x5, x6, rfl, sb, hlo, hout⟩ := hI
      rw [List.length_map, List.take_length] at hout
      exact hk _ _ ⟨out, _, _, _, _, rfl, sb, hlo, hout⟩
  · obtain ⟨out, x3, x4, x5, x6, rfl, sb, hlo, hout⟩ := hJ
    walk_at "go"
    exact DL.Fin.sub sb (q out hlo hout)
end
end L29

set_option Elab.async false
set_option linter.all false
set_option maxRecDepth 100000
set_option maxHeartbeats 4000000
namespace L29
open PySem PySem.Spec PyProof.Rows L2 DL
def sp_holds_row : aSp := fun ds M Q => ∃ web many rs c lead turn L, ds = [dWeb web, .list (dRooms rs), .int c, L, .list (dInts turn)] ∧ items L = some (dInts lead) ∧ GoodWeb web many ∧ GoodRs web many rs ∧ rs.length ≤ 100 ∧ 0 ≤ c ∧ c < (web.length : Int) ∧ Ltr many lead ∧ Ltr many turn ∧ turn.length ≤ 1000 ∧ Q (.bl (heldB web rs c lead turn)) M
def sp_is_held (a : Ad) : aSp := fun ds M Q => ∃ web many rs c lead turn L, ds = [dBook a web rs, .int c, L, .list (dInts turn)] ∧ items L = some (dInts lead) ∧ GoodWeb web many ∧ GoodRs web many rs ∧ rs.length ≤ 100 ∧ 0 ≤ c ∧ c < (web.length : Int) ∧ Ltr many lead ∧ Ltr many turn ∧ turn.length ≤ 1000 ∧ Q (.bl (heldB web rs c lead turn)) M
/-- a class that was seen comes again -/
structure Come (web : List (List Int)) (f : Int → Int) (F : List Int) (h : Int) : Prop where
  nd : F.Nodup
  rg : ∀ x ∈ F, 0 ≤ x ∧ x < (web.length : Int)
  h0 : 0 ≤ h
  h1 : h < (web.length : Int)
  bk : ∀ x ∈ F, ∃ j, 1 ≤ j ∧ j ≤ F.length ∧ iter f j x = h
theorem Come.le {web : List (List Int)} {f : Int → Int} {F : List Int} {h : Int} (c : Come web f F h) : F.length ≤ web.length := by
  have := nodup_sub c.nd (S := (List.range web.length).map fun (i : Nat) => (i : Int)) (fun x hx => by
    obtain ⟨a, b⟩ := c.rg x hx
    exact List.mem_map.mpr ⟨x.toNat, List.mem_range.mpr (by omega), by omega⟩)
  simpa using this
theorem iter_succ (f : Int → Int) (n : Nat) (k : Int) : iter f (n + 1) k = f (iter f n k) := by rw [iter_add f n 1]; rfl
theorem Come.step {web : List (List Int)} {f : Int → Int} {F : List Int} {h : Int} (c : Come web f F h) (hn : h ∉ F) (a : 0 ≤ f h) (b : f h < (web.length : Int)) : Come web f (F ++ [h]) (f h) where
  nd := List.nodup_append.mpr ⟨c.nd, by simp, fun x hx y hy => by
    rcases List.mem_singleton.mp hy with rfl
    intro e
    subst e
    exact hn hx⟩
  rg := fun x hx => by
    rcases List.mem_append.mp hx with hx | hx
    · exact c.rg x hx
    · rcases List.mem_singleton.mp hx with rfl
      exact ⟨c.h0, c.h1⟩
  h0 := a
  h1 := b
  bk := fun x hx => by
    rcases List.mem_append.mp hx with hx | hx
    · obtain ⟨j, j0, j1, e⟩ := c.bk x hx
      exact ⟨j + 1, by omega, by simp; omega, by rw [iter_succ, e]⟩
    · rcases List.mem_singleton.mp hx with rfl
      exact ⟨1, by omega, by simp, rfl⟩
theorem comeAgain_in {f : Int → Int} {m : Nat} {F : List Int} {h : Int} (hm : 1 ≤ m) (hf : h ∈ F) : comeAgain f m F h = h := by
  obtain _ | m := m
  · omega
  · rw [comeAgain, if_pos hf]
theorem comeAgain_out {f : Int → Int} {m : Nat} {F : List Int} {h : Int} (hm : 1 ≤ m) (hf : h ∉ F) : comeAgain f m F h = comeAgain f (m - 1) (F ++ [h]) (f h) := by
  obtain _ | m := m
  · omega
  · rw [comeAgain, if_neg hf]
    rfl
open Classical in
theorem heldB_of {web : List (List Int)} {rs : List Rm} {c : Int} {lead turn : List Int} {b : Bool} (h : (∃ k, 0 ≤ k ∧ k < (rs.length : Int) ∧ clsR rs k = comeAgain (fun c => runW web c turn) (web.length + 1) [] (runW web c lead) ∧ 0 ≤ iter (fun k => runR rs k turn) (rs.length + 1) k) ↔ b = true) : heldB web rs c lead turn = b := by
  unfold heldB
  cases b with
  | false => exact decide_eq_false fun z => Bool.noConfusion (h.mp z)
  | true => exact decide_eq_true (h.mpr rfl)
theorem mem_inl {h : Int} {F : List Int} : (Sum.inl h : Key) ∈ F.map Sum.inl ↔ h ∈ F := by simp
theorem go_neInts {cs : List Int} {M : Mp} {Q : QD} (q : Q (.bl (!cs.isEmpty)) M) : fNe (.list (cs.map D.int)) (.list []) M Q := by
  refine ⟨eqOks_ints 8 cs, rfl, ?_⟩
  cases cs with
  | nil => exact q
  | cons => exact q
section
variable {P : Program} {w : World} {K : PySem.W.Frag} {mg : Str → Option Value} {base : Heap} {a : Ad}
theorem ok_holds_row (T : TX K mg a) : FnOk P w K mg base CX0 2 a.f_holds_row a.fd_holds_row ["walker", "rooms", "at_class", "beginning", "period"] (lift K 5 sp_holds_row) := by
  refine okD (k := 1) T.fn_holds_row sc_holds_row rfl fun cdv A outer s H E hr => ⟨_, _, (dss_cons (ds_set (j := 5) sc_holds_row.nd rfl (by first | exact .inl rfl | exact .inr rfl) (de_call (ok_walked T) (hr.mono (by decide)) (by rfl) T.mg_walked T.kp_walked T.bd_walked pass0 (da_cons (dv 0) (da_cons (dv 2) (da_cons (dv 3) da_nil)))))
      (dss_cons (ds_set (j := 6) sc_holds_row.nd rfl (by first | exact .inl rfl | exact .inr rfl) de_dnewK)
      (dss_cons (ds_while (dt_cmp (op_notInA (hu_of hr)) s2_in (dv 5) (dv 6) (by rfl)) (dss_cons (ds_dput (hu_of hr) (dv 6) (dv 5) de_bl)
      (dss_one (ds_set (j := 5) sc_holds_row.nd rfl (by first | exact .inl rfl | exact .inr rfl) (de_call (ok_walked T) (hr.mono (by decide)) (by rfl) T.mg_walked T.kp_walked T.bd_walked pass0 (da_cons (dv 0) (da_cons (dv 5) (da_cons (dv 4) da_nil))))))) PassesOwn.never)
      (dss_cons (ds_set (j := 7) sc_holds_row.nd rfl (by first | exact .inl rfl | exact .inr rfl) (de_callTy call_list_of sl_listM (by rfl) T.b_list (by decide +kernel) (da_cons (dv 4) da_nil)))
      (dss_cons (ds_set (j := 8) sc_holds_row.nd rfl (by first | exact .inl rfl | exact .inr rfl) (de_call (ok_walked T) (hr.mono (by decide)) (by rfl) T.mg_walked T.kp_walked T.bd_walked pass0 (da_cons (dv 0) (da_cons (dv 5) (da_cons (dv 4) da_nil)))))
      (dss_cons (ds_while (dt_cmp (op_neD hr.units) s2_ne (dv 8) (dv 5) (nomark _)) (dss_cons (ds_expr (de_bm PySem.F.plainAttrs_list PySem.F.slot_list_extend PySem.F.type_list_extend mt_extend sm_extend (.inl rfl) (dv 7) (da_cons (dv 4) da_nil)))
      (dss_one (ds_set (j := 8) sc_holds_row.nd rfl (by first | exact .inl rfl | exact .inr rfl) (de_call (ok_walked T) (hr.mono (by decide)) (by rfl) T.mg_walked T.kp_walked T.bd_walked pass0 (da_cons (dv 0) (da_cons (dv 8) (da_cons (dv 4) da_nil))))))) PassesOwn.never)
      (dss_cons (ds_setLc (j := 9) (own := [("room", 11), ("kind", 12), ("steps", 13)]) rfl sc_holds_row.nd rfl rfl (sw_true rfl rfl rfl (by decide +kernel)) (di_enum (by rfl) T.b_enumerate (da_cons (dv 1) da_nil)) (blkOk_by (by rfl)) (fun _ _ _ _ _ => (dg_tup (dgs_cons (dg_name (j := 11) sc_holds_row.nd rfl (by first | exact .inl rfl | exact .inr rfl)) (dgs_cons (dg_tup (dgs_cons (dg_name (j := 12) sc_holds_row.nd rfl (by first | exact .inl rfl | exact .inr rfl)) (dgs_cons (dg_name (j := 13) sc_holds_row.nd rfl (by first | exact .inl rfl | exact .inr rfl)) dgs_nil))) dgs_nil)))) (fun _ _ _ _ _ => (dts_one (dt_cmp (op_eqD hr.units) s2_eq (dv 12) (dv 5) (nomark _)))) (fun _ _ _ _ _ => (dv 11)) (om_tup (om_cons om_name (om_cons (om_tup (om_cons om_name (om_cons om_name om_nil))) om_nil))))
      (dss_cons (ds_for (di_range1 (by rfl) T.b_range (da_cons (de_callB call_lenA sl_len (by rfl) T.b_len (by decide +kernel) (da_cons (dv 9) da_nil)) da_nil)) (dg_name (j := 10) sc_holds_row.nd rfl (by first | exact .inl rfl | exact .inr rfl)) (dss_one (ds_set (j := 9) sc_holds_row.nd rfl (by first | exact .inl rfl | exact .inr rfl) (de_call (ok_stepped T) (hr.mono (by decide)) (by rfl) T.mg_stepped T.kp_stepped T.bd_stepped pass0 (da_cons (dv 1) (da_cons (dv 9) (da_cons (dv 7) da_nil)))))) PassesOwn.never)
      (dss_one (ds_ret (de_cmp (op_neD hr.units) s2_ne (dv 9) (de_lst da_nil) (nomark _)))))))))))), fun ds M Q hl h => ?_⟩
  obtain ⟨web, many, rs, c, lead, turn, L, rfl, hL, gw, gr, hrl, c0, c1, hle, ht, htl, q⟩ := h
  have gwl := gw.le
  obtain ⟨s0, s1⟩ := runW_in gw lead c hle c0 c1
  walk_at "start"
  walk_at "go"
  refine ⟨web, many, c, lead, L, rfl, hL, gw, c0, c1, hle, ?_⟩
  walk_at "go"
  intro ps hps
  walk_at "go"
  refine go_seqK (J := fun G' M' => ∃ R : Int, G' = [some (dWeb web), some (.list (dRooms rs)), some (.int c), some L, some (.list (dInts turn)), some (.int R), some (.ref ps), none, none, none, none, none, none, none] ∧ Sub M M' ∧
    R = comeAgain (fun c => runW web c turn) (web.length + 1) [] (runW web c lead) ∧ 0 ≤ R ∧ R < (web.length : Int) ∧ ∃ j, 1 ≤ j ∧ j ≤ 3 ∧ iter (fun c => runW web c turn) j R = R) (fun nx hk => ?_) (fun G' M' hJ => ?_)
  · refine go_whileI (W := fun m G' M' => ∃ (F : List Int) (h : Int), G' = [some (dWeb web), some (.list (dRooms rs)), some (.int c), some L, some (.list (dInts turn)), some (.int h), some (.ref ps), none, none, none, none, none, none, none] ∧ Sub M M' ∧
      M' ps = some (.dK (dSeen (F.map Sum.inl))) ∧ Come web (fun c => runW web c turn) F h ∧ comeAgain (fun c => runW web c turn) m F h = comeAgain (fun c => runW web c turn) (web.length + 1) [] (runW web c lead) ∧ m + F.length = web.length + 1) (web.length + 1) ?_ (fun m G' M' nx' hW hn => ?_)
    · exact ⟨[], _, rfl, sub_mupd (fun _ _ h => h) hps, mupd_same, ⟨.nil, by simp, s0, s1, by simp⟩, rfl, by simp⟩
    · obtain ⟨F, h, rfl, sb, c2, cm, hc, hm⟩ := hW
      have cl := cm.le
      obtain ⟨t0, t1⟩ := runW_in gw turn h ht cm.h0 cm.h1
      walk_at "goS"
      refine go_inD (itemsM_dK c2) (getDk_dK (kk := .inl h) c2 rfl) ?_
      rw [valD_dSeen]
      walk_at "goS"
      refine go_ite (fun e => ?_) (fun e => ?_)
      · have e : h ∉ F := fun z => by
          have := mem_inl.mpr z
          simp [this] at e
        walk_at "goS"
        refine go_kdputK (kk := .inl h) c2 (by simp only [dSeen, List.length_map]; omega) rfl ?_
        rw [putD_new (fun z => e (mem_inl.mp z))]
        walk_at "goS"
        refine ⟨web, many, h, turn, _, rfl, rfl, gw, cm.h0, cm.h1, ht, ?_⟩
        walk_at "goS"
        refine hn (m - 1) _ _ (by omega) ⟨F ++ [h], _, rfl, sub_mupd sb hps, by rw [mupd_same]; simp, cm.step e t0 t1, ?_, by simp; omega⟩
        rw [← hc, comeAgain_out (by omega) e]
      · have e : h ∈ F := by
          refine Classical.byContradiction fun z => ?_
          have : (Sum.inl h : Key) ∉ F.map Sum.inl := fun y => z (mem_inl.mp y)
          simp [this] at e
        obtain ⟨j, j0, j1, ej⟩ := cm.bk h e
        exact hk _ _ ⟨h, rfl, sb, by rw [← hc, comeAgain_in (by omega) e], cm.h0, cm.h1, j, j0, by omega, ej⟩
  obtain ⟨R, rfl, sb, hR, R0, R1, j, j0, j1, ej⟩ := hJ
  walk_at "go"
  intro pl hpl
  have hMl : M pl = none := sb.none hpl
  walk_at "go"
  refine ⟨web, many, R, turn, _, rfl, rfl, gw, R0, R1, ht, ?_⟩
  walk_at "go"
  refine go_seqC (J := fun G' M2 => ∃ (n : Nat) (x8 : Option D), G' = [some (dWeb web), some (.list (dRooms rs)), some (.int c), some L, some (.list (dInts turn)), some (.int R), some (.ref ps), some (.list (dInts (List.replicate n turn).flatten)), x8, none, none, none, none, none] ∧ Sub M M2 ∧ 1 ≤ n ∧ iter (fun c => runW web c turn) n R = R) (fun nx hk => ?_) (fun G' M2 hJ => ?_)
  · refine go_whileI (W := fun m G' M2 => ∃ (n : Nat), G' = [some (dWeb web), some (.list (dRooms rs)), some (.int c), some L, some (.list (dInts turn)), some (.int R), some (.ref ps), some (.ref pl), some (.int (iter (fun c => runW web c turn) n R)), none, none, none, none, none] ∧ Sub M M2 ∧
      M2 pl = some (.lst (dInts (List.replicate n turn).flatten)) ∧ 1 ≤ n ∧ m + n = j) (j - 1) ?_ (fun m G' M2 nx' hW hn => ?_)
    · exact ⟨1, rfl, sub_mupd sb hMl, by rw [mupd_same]; simp, by omega, by omega⟩
    · obtain ⟨n, rfl, sb2, c2, n1, hm⟩ := hW
      obtain ⟨t0, t1⟩ : 0 ≤ iter (fun c => runW web c turn) n R ∧ iter (fun c => runW web c turn) n R < (web.length : Int) := by
        rw [← runW_rep]
        refine runW_in gw _ R (fun x hx => ?_) R0 R1
        obtain ⟨l, hl, hx⟩ := List.mem_flatten.mp hx
        rw [(List.mem_replicate.mp hl).2] at hx
        exact ht x hx
      walk_at "goS"
      refine go_ite (fun e => ?_) (fun e => ?_)
      · have e : iter (fun c => runW web c turn) n R ≠ R := by simpa using e
        have hnj : n ≠ j := fun z => by subst z; exact e ej
        have hfl : ((List.replicate n turn).flatten).length ≤ 3000 := by
          rw [List.length_flatten, List.map_replicate, List.sum_replicate_nat]
          calc n * turn.length ≤ 3 * 1000 := Nat.mul_le_mul (by omega) htl
            _ ≤ 3000 := by decide
        walk_at "goS"
        refine ⟨web, many, _, turn, _, rfl, rfl, gw, t0, t1, ht, ?_⟩
        walk_at "goS"
        refine hn (m - 1) _ _ (by omega) ⟨n + 1, ?_, sub_mupd sb2 hMl, ?_, by omega, by omega⟩
        · rw [iter_succ]
        · rw [mupd_same, List.replicate_succ', List.flatten_append]
          simp [dInts]
      · have e : iter (fun c => runW web c turn) n R = R := by simpa using e
        exact hk _ _ ⟨_, _, freeze1 c2 hMl (.cons (.same _) (.cons (.same _) (.cons (.same _) (.cons (.same _) (.cons (.same _) (.cons (.same _) (.cons (.same _) (.cons (.ref (by simp) c2 (dzs_same _)) (Dzg.same _))))))))), n, _, rfl, fun x d hx => by
          have hx2 : x ≠ pl := fun z => by subst z; rw [hMl] at hx; cases hx
          rw [mdel_ne hx2]; exact sb2 x d hx, n1, e⟩
  obtain ⟨n, x8, rfl, sb2, n1, en⟩ := hJ
  have hlt : Ltr many (List.replicate n turn).flatten := fun x hx => by
    obtain ⟨l, hl, hx⟩ := List.mem_flatten.mp hx
    rw [(List.mem_replicate.mp hl).2] at hx
    exact ht x hx
  walk_at "go"
  refine go_lcI (fun i acc M3 => M2 = M3 ∧ ∃ al : List Int, acc = dInts al ∧ al.length ≤ i ∧ ∀ k, k ∈ al ↔ 0 ≤ k ∧ k < (i : Int) ∧ clsR rs k = R) ⟨rfl, [], rfl, Nat.le_refl _, fun k => ⟨fun h => by simp at h, fun h => by omega⟩⟩ (fun i d acc M3 KY KN hd hI hY hN => ?_) (fun acc M3 hI => ?_)
  · obtain ⟨rfl, al, rfl, hl, hal⟩ := hI
    obtain ⟨x, hx, rfl⟩ := enumD_get hd
    rw [List.getElem?_map] at hx
    obtain ⟨r, hr, rfl⟩ := Option.map_eq_some_iff.mp hx
    have hcl : clsR rs (i : Int) = r.1 := by unfold clsR; rw [List.getD_eq_getElem?_getD, List.getElem?_map, Int.toNat_natCast, hr]; rfl
    walk_at "go"
    refine go_ite (fun e => ?_) (fun e => ?_)
    · have e : r.1 = R := by simpa using e
      walk_at "go"
      refine hY (.int (i : Int)) _ ⟨rfl, al ++ [(i : Int)], by simp [dInts], by simp; omega, fun k => ?_⟩
      rw [List.mem_append, hal, List.mem_singleton]
      constructor
      · rintro (⟨h1, h2, h3⟩ | rfl)
        · exact ⟨h1, by omega, h3⟩
        · exact ⟨by omega, by omega, by rw [hcl, e]⟩
      · rintro ⟨h1, h2, h3⟩
        by_cases z : k = (i : Int)
        · exact .inr z
        · exact .inl ⟨h1, by omega, h3⟩
    · have e : r.1 ≠ R := by simpa using e
      refine hN _ ⟨rfl, al, rfl, by omega, fun k => ?_⟩
      rw [hal]
      constructor
      · rintro ⟨h1, h2, h3⟩; exact ⟨h1, by omega, h3⟩
      · rintro ⟨h1, h2, h3⟩
        by_cases z : k = (i : Int)
        · subst z; rw [hcl] at h3; exact absurd h3 e
        · exact ⟨h1, by omega, h3⟩
  obtain ⟨rfl, al, rfl, hl, hal⟩ := hI
  rw [length_enumD, List.length_map] at hl hal
  walk_at "go"
  refine go_seqK (J := fun G' M3 => ∃ (out : List Int) (x10 : Option D), G' = [some (dWeb web), some (.list (dRooms rs)), some (.int c), some L, some (.list (dInts turn)), some (.int R), some (.ref ps), some (.list (dInts (List.replicate n turn).flatten)), x8, some (.list (dInts out)), x10, none, none, none] ∧ Sub M M3 ∧
    ∀ t, t ∈ out ↔ ∃ k ∈ al, iter (fun k => runR rs k (List.replicate n turn).flatten) al.length k = t ∧ 0 ≤ t) (fun nx hk => ?_) (fun G' M3 hJ => ?_)
  · walk_at "go"
    refine go_forI (fun i G' M3 => ∃ (out : List Int) (x10 : Option D), G' = [some (dWeb web), some (.list (dRooms rs)), some (.int c), some L, some (.list (dInts turn)), some (.int R), some (.ref ps), some (.list (dInts (List.replicate n turn).flatten)), x8, some (.list (dInts out)), x10, none, none, none] ∧ Sub M M3 ∧
      out.length ≤ al.length ∧ ∀ t, t ∈ out ↔ ∃ k ∈ al, iter (fun k => runR rs k (List.replicate n turn).flatten) i k = t ∧ 0 ≤ t) ⟨al, none, rfl, sb2, Nat.le_refl _, fun t => ⟨fun h => ⟨t, h, rfl, ((hal t).mp h).1⟩, fun ⟨k, h1, h2, _⟩ => h2 ▸ h1⟩⟩ (fun i d G' M3 nx' hd hI hn => ?_) (fun G' M3 hI => ?_)
    · obtain ⟨out, x10, rfl, sb3, hlo, hout⟩ := hI
      walk_at "go"
      refine ⟨web, many, rs, out, _, _, rfl, rfl, gr, hlt, by omega, fun k hk => ?_, fun out2 ho1 ho2 => ?_⟩
      · obtain ⟨k', h1, h2, h3⟩ := (hout k).mp hk
        refine ⟨h3, ?_⟩
        rw [← runR_rep] at h2
        rw [← h2] at h3 ⊢
        refine (runR_ok gr _ k' (fun x hx => ?_) ((hal k').mp h1).1 ((hal k').mp h1).2.1 h3).1
        obtain ⟨l, hl, hx⟩ := List.mem_flatten.mp hx
        rw [(List.mem_replicate.mp hl).2] at hx
        exact hlt x hx
      · walk_at "go"
        refine hn _ _ ⟨out2, _, rfl, sb3, by omega, fun t => ?_⟩
        rw [ho2]
        constructor
        · rintro ⟨k', h1, h2, h3⟩
          obtain ⟨k, h4, h5, h6⟩ := (hout k').mp h1
          exact ⟨k, h4, by rw [iter_succ, h5]; exact h2, h3⟩
        · rintro ⟨k, h4, h5, h6⟩
          rw [iter_succ] at h5
          refine ⟨iter (fun k => runR rs k (List.replicate n turn).flatten) i k, (hout _).mpr ⟨k, h4, rfl, ?_⟩, h5, h6⟩
          by_cases z : 0 ≤ iter (fun k => runR rs k (List.replicate n turn).flatten) i k
          · exact z
          · have z2 := runR_neg (rs := rs) (List.replicate n turn).flatten (iter (fun k => runR rs k (List.replicate n turn).flatten) i k) (by omega)
            have h5' : runR rs (iter (fun k => runR rs k (List.replicate n turn).flatten) i k) (List.replicate n turn).flatten = t := h5
            omega
    · obtain ⟨out, x10, rfl, sb3, hlo, hout⟩ := hI
      rw [length_rng] at hout
      simp only [List.length_map, Int.toNat_natCast] at hout
      exact hk _ _ ⟨out, x10, rfl, sb3, hout⟩
  obtain ⟨out, x10, rfl, sb3, hout⟩ := hJ
  walk_at "go"
  refine go_neInts ?_
  have hb : heldB web rs c lead turn = !out.isEmpty := by
    have iff := held_iff gr ht n1 en hal
    refine heldB_of ?_
    rw [← hR, ← iff]
    cases out with
    | nil =>
      refine ⟨fun ⟨k, h1, h2⟩ => ?_, fun h => Bool.noConfusion h⟩
      have := (hout _).mpr ⟨k, h1, rfl, h2⟩
      simp at this
    | cons t r =>
      refine ⟨fun _ => rfl, fun _ => ?_⟩
      obtain ⟨k, h1, h2, h3⟩ := (hout t).mp (by simp)
      exact ⟨k, h1, by rw [h2]; exact h3⟩
  rw [hb] at q
  exact DL.Fin.sub sb3 q
theorem ok_is_held (T : TX K mg a) : FnOk P w K mg base CX0 3 a.f_is_held a.fd_is_held ["book", "at_class", "beginning", "period"] (lift K 4 (sp_is_held a)) := by
  refine okD (k := 2) T.fn_is_held sc_is_held rfl fun cdv A outer s H E hr => ⟨_, _, (dss_one (ds_ret (de_call (ok_holds_row T) (hr.mono (by decide)) (by rfl) T.mg_holds_row T.kp_holds_row T.bd_holds_row pass0 (da_cons (de_meth0 (dv 0) T.cl_RoomBook T.me_RoomBook_walker (ok_RoomBook_walker T) (hr.mono (by decide)) T.bd_RoomBook_walker pass0) (da_cons (de_meth0 (dv 0) T.cl_RoomBook T.me_RoomBook_rooms (ok_RoomBook_rooms T) (hr.mono (by decide)) T.bd_RoomBook_rooms pass0) (da_cons (dv 1) (da_cons (dv 2) (da_cons (dv 3) da_nil)))))))), fun ds M Q hl h => ?_⟩
  obtain ⟨web, many, rs, c, lead, turn, L, rfl, hL, gw, gr, hrl, c0, c1, hle, ht, htl, q⟩ := h
  have gwl := gw.le
  walk_at "start"
  walk_at "go"
  refine ⟨web, rs, rfl, by omega, ?_⟩
  walk_at "go"
  refine ⟨web, rs, rfl, ?_⟩
  walk_at "go"
  exact ⟨web, many, rs, c, lead, turn, L, rfl, hL, gw, gr, hrl, c0, c1, hle, ht, htl, Fin.of q⟩
end
end L29

set_option Elab.async false
set_option linter.all false
set_option maxRecDepth 100000
set_option maxHeartbeats 4000000
namespace L29
open PySem PySem.Spec PyProof.Rows L2 DL
mutual
/-- plain data, at most k deep -/
def plainN : Nat → D → Bool
  | _, .non => true
  | _, .bl _ => true
  | _, .int _ => true
  | _, .str x => PyData.strOk x
  | k + 1, .list ds => decide (ds.length ≤ 1000000) && plainsN k ds
  | k + 1, .tup ds => decide (ds.length ≤ 1000000) && plainsN k ds
  | _, _ => false
def plainsN : Nat → List D → Bool
  | _, [] => true
  | k, d :: ds => plainN k d && plainsN k ds
end
mutual
def likeD : D → D → Bool
  | .non, .non => true
  | .bl x, .bl y => x == y
  | .int x, .int y => x == y
  | .str x, .str y => x == y
  | .list xs, .list ys => likesD xs ys
  | .tup xs, .tup ys => likesD xs ys
  | _, _ => false
def likesD : List D → List D → Bool
  | [], [] => true
  | x :: xs, y :: ys => likeD x y && likesD xs ys
  | _, _ => false
end
theorem plains_get {k : Nat} : ∀ {ds : List D} {i : Nat} {d : D}, plainsN k ds = true → ds[i]? = some d → plainN k d = true
  | [], i, d, _, h => by simp at h
  | x :: xs, 0, d, h, e => by
    simp only [plainsN, Bool.and_eq_true] at h
    simp at e
    subst e
    exact h.1
  | x :: xs, i + 1, d, h, e => by
    simp only [plainsN, Bool.and_eq_true] at h
    simp at e
    exact plains_get h.2 e
theorem likes_len : ∀ {xs ys : List D}, xs.length ≠ ys.length → likesD xs ys = false
  | [], [], h => absurd rfl h
  | [], _ :: _, _ => rfl
  | _ :: _, [], _ => rfl
  | x :: xs, y :: ys, h => by
    simp only [likesD]
    rw [likes_len (by simpa using h), Bool.and_false]
def pairLike (d : D) : D := match d with
  | .tup [x, y] => .bl (likeD x y)
  | _ => .bl false
theorem likes_zip : ∀ {xs ys : List D}, xs.length = ys.length → ∃ bs : List Bool, bools ((zipD xs ys).map pairLike) = some bs ∧ bs.all _root_.id = likesD xs ys
  | [], [], _ => ⟨[], rfl, rfl⟩
  | [], _ :: _, h => by simp at h
  | _ :: _, [], h => by simp at h
  | x :: xs, y :: ys, h => by
    obtain ⟨bs, h1, h2⟩ := likes_zip (xs := xs) (ys := ys) (by simpa using h)
    refine ⟨likeD x y :: bs, ?_, ?_⟩
    · have e : zipD (x :: xs) (y :: ys) = .tup [x, y] :: zipD xs ys := rfl
      rw [e, List.map_cons]
      simp only [pairLike, bools, h1, Option.map_some]
    · simp only [List.all_cons, h2, likesD, _root_.id]
mutual
theorem like_same : ∀ (k : Nat) (d : D), plainN k d = true → likeD d d = true
  | _, .non, _ => rfl
  | _, .bl x, _ => by simp [likeD]
  | _, .int x, _ => by simp [likeD]
  | _, .str x, _ => by simp [likeD]
  | k + 1, .list ds, h => by
    simp only [plainN, Bool.and_eq_true] at h
    simp only [likeD]
    exact likes_same k ds h.2
  | k + 1, .tup ds, h => by
    simp only [plainN, Bool.and_eq_true] at h
    simp only [likeD]
    exact likes_same k ds h.2
theorem likes_same : ∀ (k : Nat) (d : List D), plainsN k d = true → likesD d d = true
  | _, [], _ => rfl
  | k, d :: ds, h => by
    simp only [plainsN, Bool.and_eq_true] at h
    simp only [likesD, Bool.and_eq_true]
    exact ⟨like_same k d h.1, likes_same k ds h.2⟩
end
def sp__law_like : Nat → aSp
  | 0 => fun _ _ _ => False
  | k + 1 => fun ds M Q => ∃ f d, ds = [f, d] ∧ plainN k f = true ∧ plainN k d = true ∧ Q (.bl (likeD f d)) M
section
variable {P : Program} {w : World} {K : PySem.W.Frag} {mg : Str → Option Value} {base : Heap} {a : Ad}
theorem ok__law_like (T : TX K mg a) (k : Nat) : FnOk P w K mg base CX0 k a.f__law_like a.fd__law_like ["found", "due"] (lift K 2 (sp__law_like k)) := by
  induction k with
  | zero => exact ok_never (fun _ _ _ h => h)
  | succ k IH => ?_
  refine okD (k := k) T.fn__law_like sc__law_like rfl fun cdv A outer s H E hr => ⟨_, _, (dss_cons (ds_if (dt_cmp op_isN s2_is (dv 1) de_non (nomark _)) (dss_one (ds_ret (de_cmp op_isN s2_is (dv 0) de_non (nomark _)))) dss_nil)
      (dss_cons (ds_if (dt_tru (de_callB call_isi sl_isi (by rfl) T.b_isinstance (by decide +kernel) (da_cons (dv 1) (da_cons (de_ty (n := "dict") (by rfl) T.b_dict) da_nil)))) (dss_cons (ds_if (DW.dt (dw_or (dt_not (dt_tru (de_callB call_isi sl_isi (by rfl) T.b_isinstance (by decide +kernel) (da_cons (dv 0) (da_cons (de_ty (n := "dict") (by rfl) T.b_dict) da_nil))))) (dw_or1 (dt_not (dt_tru (de_call IH (hr.mono (by first | decide | exact Nat.le_refl _)) (by rfl) T.mg__law_like T.kp__law_like T.bd__law_like pass0 (da_cons (de_callTy call_list_of sl_list (by rfl) T.b_list (by decide +kernel) (da_cons (dv 0) da_nil)) (da_cons (de_callTy call_list_of sl_list (by rfl) T.b_list (by decide +kernel) (da_cons (dv 1) da_nil)) da_nil)))))))) (dss_one (ds_ret de_bl)) dss_nil)
      (dss_one (ds_ret (de_callB (cr_all rfl) sl_all (by rfl) T.b_all (by decide +kernel) (da_cons (de_lc (own := [("mark", 2)]) rfl sc__law_like.nd (di_seq (dv 1)) (blkOk_by (by rfl)) (fun _ _ _ _ _ => (dg_name (j := 2) sc__law_like.nd rfl (by first | exact .inl rfl | exact .inr rfl))) (fun _ _ _ _ _ => dts_nil) (fun _ _ _ _ _ => (de_call IH (hr.mono (by first | decide | exact Nat.le_refl _)) (by rfl) T.mg__law_like T.kp__law_like T.bd__law_like pass0 (da_cons (de_ix (hu_of hr) (dv 0) (dv 2) (fun _ _ => rfl)) (da_cons (de_ix (hu_of hr) (dv 1) (dv 2) (fun _ _ => rfl)) da_nil)))) om_name) da_nil))))) dss_nil)
      (dss_cons (ds_if (dt_tru (de_callB call_isiT sl_isiT (by rfl) T.b_isinstance (by decide +kernel) (da_cons (dv 1) (da_cons (de_tup (da_cons (de_ty (n := "list") (by rfl) T.b_list) (da_cons (de_ty (n := "tuple") (by rfl) T.b_tuple) da_nil))) da_nil)))) (dss_cons (ds_if (DW.dt (dw_or (dt_cmp (op_neD hr.units) s2_ne (de_callB call_isi sl_isi (by rfl) T.b_isinstance (by decide +kernel) (da_cons (dv 1) (da_cons (de_ty (n := "list") (by rfl) T.b_list) da_nil))) (de_callB call_isi sl_isi (by rfl) T.b_isinstance (by decide +kernel) (da_cons (dv 0) (da_cons (de_ty (n := "list") (by rfl) T.b_list) da_nil))) (nomark _)) (dw_or1 (dt_cmp (op_neD hr.units) s2_ne (de_callB call_isi sl_isi (by rfl) T.b_isinstance (by decide +kernel) (da_cons (dv 1) (da_cons (de_ty (n := "tuple") (by rfl) T.b_tuple) da_nil))) (de_callB call_isi sl_isi (by rfl) T.b_isinstance (by decide +kernel) (da_cons (dv 0) (da_cons (de_ty (n := "tuple") (by rfl) T.b_tuple) da_nil))) (nomark _))))) (dss_one (ds_ret de_bl)) dss_nil)
      (dss_one (ds_ret (de_and (de_cmp (op_eqD hr.units) s2_eq (de_callB call_lenA sl_len (by rfl) T.b_len (by decide +kernel) (da_cons (dv 0) da_nil)) (de_callB call_lenA sl_len (by rfl) T.b_len (by decide +kernel) (da_cons (dv 1) da_nil)) (nomark _)) (de_one (de_callB (cr_all rfl) sl_all (by rfl) T.b_all (by decide +kernel) (da_cons (de_lc (own := [("mine", 3), ("yours", 4)]) rfl sc__law_like.nd (di_zip (by rfl) T.b_zip (da_cons (dv 0) (da_cons (dv 1) da_nil))) (blkOk_by (by rfl)) (fun _ _ _ _ _ => (dg_tup (dgs_cons (dg_name (j := 3) sc__law_like.nd rfl (by first | exact .inl rfl | exact .inr rfl)) (dgs_cons (dg_name (j := 4) sc__law_like.nd rfl (by first | exact .inl rfl | exact .inr rfl)) dgs_nil)))) (fun _ _ _ _ _ => dts_nil) (fun _ _ _ _ _ => (de_call IH (hr.mono (by first | decide | exact Nat.le_refl _)) (by rfl) T.mg__law_like T.kp__law_like T.bd__law_like pass0 (da_cons (dv 3) (da_cons (dv 4) da_nil)))) (om_tup (om_cons om_name (om_cons om_name om_nil)))) da_nil))))))) dss_nil)
      (dss_cons (ds_if (dt_tru (de_callB call_isi sl_isi (by rfl) T.b_isinstance (by decide +kernel) (da_cons (dv 1) (da_cons (de_ty (n := "str") (by rfl) T.b_str) da_nil)))) (dss_one (ds_ret (de_and (de_callB call_isi sl_isi (by rfl) T.b_isinstance (by decide +kernel) (da_cons (dv 0) (da_cons (de_ty (n := "str") (by rfl) T.b_str) da_nil))) (de_one (de_cmp (op_eqD hr.units) s2_eq (dv 0) (dv 1) (nomark _)))))) dss_nil)
      (dss_cons (ds_if (DW.dt (dw_or (dt_tru (de_callB call_isiT sl_isiT (by rfl) T.b_isinstance (by decide +kernel) (da_cons (dv 0) (da_cons (de_tup (da_cons (de_ty (n := "list") (by rfl) T.b_list) (da_cons (de_ty (n := "tuple") (by rfl) T.b_tuple) (da_cons (de_ty (n := "dict") (by rfl) T.b_dict) (da_cons (de_ty (n := "str") (by rfl) T.b_str) da_nil))))) da_nil)))) (dw_or1 (dt_cmp (op_neD hr.units) s2_ne (de_callB call_isi sl_isi (by rfl) T.b_isinstance (by decide +kernel) (da_cons (dv 1) (da_cons (de_ty (n := "bool") (by rfl) T.b_bool) da_nil))) (de_callB call_isi sl_isi (by rfl) T.b_isinstance (by decide +kernel) (da_cons (dv 0) (da_cons (de_ty (n := "bool") (by rfl) T.b_bool) da_nil))) (nomark _))))) (dss_one (ds_ret de_bl)) dss_nil)
      (dss_one (ds_ret (de_and (de_callB call_isi sl_isi (by rfl) T.b_isinstance (by decide +kernel) (da_cons (dv 0) (da_cons (de_ty (n := "int") (by rfl) T.b_int) da_nil))) (de_one (de_cmp (op_eqD hr.units) s2_eq (dv 0) (dv 1) (nomark _))))))))))), fun ds M Q hl h => ?_⟩
  obtain ⟨f, d, rfl, hf, hd, q⟩ := h
  walk_at "start"
  cases d <;> first | (cases k <;> (simp [plainN] at hd; done)) | skip
  case non => 
    cases f <;> first | (cases k <;> (simp [plainN] at hf; done)) | (walk_at "goS"; exact Fin.of q)
  case bl => 
    cases f <;> first | (cases k <;> (simp [plainN] at hf; done)) | (walk_at "goS"; exact Fin.of q)
  case int => 
    cases f <;> first | (cases k <;> (simp [plainN] at hf; done)) | (walk_at "goS"; exact Fin.of q)
  case str y => 
    have hy : PyData.strOk y = true := by cases k <;> simpa [plainN] using hd
    cases f <;> first | (cases k <;> (simp [plainN] at hf; done)) | (walk_at "goS"; exact Fin.of q) | skip
    case str x =>
      have hx : PyData.strOk x = true := by cases k <;> simpa [plainN] using hf
      walk_at "goS"
      refine go_eqS hx hy ?_
      exact Fin.of q
  case list ys => 
    cases f <;> first | (cases k <;> (simp [plainN] at hf; done)) | (walk_at "goS"; exact Fin.of q) | skip
    case list xs =>
      walk_at "goS"
      obtain _ | k := k
      · simp [plainN] at hf
      simp only [plainN, Bool.and_eq_true, decide_eq_true_eq] at hf hd
      refine go_ite (fun e => ?_) (fun e => ?_)
      · have e : xs.length = ys.length := Int.ofNat.inj (eq_of_beq e)
        walk_at "go"
        refine go_lcM' pairLike (fun i d KY KN hd2 hY => ?_) ?_
        · obtain ⟨x, y, h1, h2, rfl⟩ := zipD_get hd2
          walk_at "go"
          exact ⟨x, y, rfl, plains_get hf.2 h1, plains_get hd.2 h2, hY⟩
        walk_at "go"
        obtain ⟨bs, b1, b2⟩ := likes_zip e
        refine go_all rfl rfl b1 ?_
        rw [b2]
        exact Fin.of q
      · have e : xs.length ≠ ys.length := fun z => by rw [z] at e; simp at e
        rw [likeD, likes_len e] at q
        exact Fin.of q
  case tup ys => 
    cases f <;> first | (cases k <;> (simp [plainN] at hf; done)) | (walk_at "goS"; exact Fin.of q) | skip
    case tup xs =>
      walk_at "goS"
      obtain _ | k := k
      · simp [plainN] at hf
      simp only [plainN, Bool.and_eq_true, decide_eq_true_eq] at hf hd
      refine go_ite (fun e => ?_) (fun e => ?_)
      · have e : xs.length = ys.length := Int.ofNat.inj (eq_of_beq e)
        walk_at "go"
        refine go_lcM' pairLike (fun i d KY KN hd2 hY => ?_) ?_
        · obtain ⟨x, y, h1, h2, rfl⟩ := zipD_get hd2
          walk_at "go"
          exact ⟨x, y, rfl, plains_get hf.2 h1, plains_get hd.2 h2, hY⟩
        walk_at "go"
        obtain ⟨bs, b1, b2⟩ := likes_zip e
        refine go_all rfl rfl b1 ?_
        rw [b2]
        exact Fin.of q
      · have e : xs.length ≠ ys.length := fun z => by rw [z] at e; simp at e
        rw [likeD, likes_len e] at q
        exact Fin.of q
end
end L29

set_option Elab.async false
set_option linter.all false
set_option maxRecDepth 100000
set_option maxHeartbeats 4000000
namespace L29
open PySem PySem.Spec PyProof.Rows L2 DL
theorem rep_flat {n : Nat} {w : List Int} : (List.replicate n (dInts w)).flatten = dInts (List.replicate n w).flatten := by
  rw [dInts, dInts, List.map_flatten, List.map_replicate]
def sp__law_along : aSp := fun ds M Q => ∃ web many c w L, ds = [dWeb web, .int c, L] ∧ items L = some (dInts w) ∧ GoodWeb web many ∧ 0 ≤ c ∧ c < (web.length : Int) ∧ Ltr many w ∧ Q (.int (runW web c w)) M
def sp__law_held : aSp := fun ds M Q => ∃ web many rs c lead turn L, ds = [dWeb web, .list (dRooms rs), .int c, L, .list (dInts turn)] ∧ items L = some (dInts lead) ∧ GoodWeb web many ∧ GoodRs web many rs ∧ rs.length ≤ 100 ∧ 0 ≤ c ∧ c < (web.length : Int) ∧ Ltr many lead ∧ Ltr many turn ∧ turn.length ≤ 1000 ∧ Q (.bl (heldB web rs c lead turn)) M
section
variable {P : Program} {w : World} {K : PySem.W.Frag} {mg : Str → Option Value} {base : Heap} {a : Ad}
theorem ok__law_along (T : TX K mg a) : FnOk P w K mg base CX0 1 a.f__law_along a.fd__law_along ["web", "spot", "path"] (lift K 3 sp__law_along) := by
  refine okD (k := 0) T.fn__law_along sc__law_along rfl fun cdv A outer s H E hr => ⟨_, _, (dss_cons (ds_set (j := 3) sc__law_along.nd rfl (by first | exact .inl rfl | exact .inr rfl) (dv 1))
      (dss_cons (ds_for (di_seq (dv 2)) (dg_name (j := 4) sc__law_along.nd rfl (by first | exact .inl rfl | exact .inr rfl)) (dss_one (ds_set (j := 3) sc__law_along.nd rfl (by first | exact .inl rfl | exact .inr rfl) (de_ix (hu_of hr) (de_ix (hu_of hr) (dv 0) (dv 3) (fun _ _ => rfl)) (dv 4) (fun _ _ => rfl)))) PassesOwn.never)
      (dss_one (ds_ret (dv 3))))), fun ds M Q hl h => ?_⟩
  obtain ⟨web, many, c, w, L, rfl, hL, gw, c0, c1, hw, q⟩ := h
  walk_at "start"
  walk_at "go"
  refine go_seqK (J := fun G' M' => ∃ (x : Option D), G' = [some (dWeb web), some (.int c), some L, some (.int (runW web c w)), x] ∧ M = M') (fun nx hk => ?_) (fun G' M' hJ => ?_)
  · walk_at "go"
    refine go_forI (fun i G' M' => ∃ (x : Option D), G' = [some (dWeb web), some (.int c), some L, some (.int (runW web c (w.take i))), x] ∧ M = M') ⟨none, rfl, rfl⟩ (fun i d G' M' nx' hd hI hn => ?_) (fun G' M' hI => ?_)
    · obtain ⟨x, rfl, rfl⟩ := hI
      rw [List.getElem?_map] at hd
      obtain ⟨y, hy, rfl⟩ := Option.map_eq_some_iff.mp hd
      obtain ⟨y0, y1⟩ := hw y (List.mem_of_getElem? hy)
      obtain ⟨i0, i1⟩ := runW_in gw (w.take i) c (fun z hz => hw z (List.mem_of_mem_take hz)) c0 c1
      obtain ⟨r, er, et⟩ := atStep gw i0 i1 y0 y1
      walk_at "go"
      refine hn _ _ ⟨some (.int y), ?_, rfl⟩
      rw [List.take_add_one, hy, runW_app]
      rfl
    · obtain ⟨x, rfl, rfl⟩ := hI
      refine hk _ _ ⟨x, ?_, rfl⟩
      rw [List.length_map, List.take_length]
  · obtain ⟨x, rfl, rfl⟩ := hJ
    walk_at "go"
    exact Fin.of q
theorem ok__law_held (T : TX K mg a) : FnOk P w K mg base CX0 2 a.f__law_held a.fd__law_held ["web", "cells", "spot", "lead", "turn"] (lift K 5 sp__law_held) := by
  refine okD (k := 1) T.fn__law_held sc__law_held rfl fun cdv A outer s H E hr => ⟨_, _, (dss_cons (ds_par (i := 5) (j := 6) sc__law_held.nd rfl rfl (da_cons (de_call (ok__law_along T) (hr.mono (by decide)) (by rfl) T.mg__law_along T.kp__law_along T.bd__law_along pass0 (da_cons (dv 0) (da_cons (dv 2) (da_cons (dv 3) da_nil)))) (da_cons de_dnewK da_nil)))
      (dss_cons (ds_while (dt_cmp (op_notInA (hu_of hr)) s2_in (dv 5) (dv 6) (by rfl)) (dss_cons (ds_dput (hu_of hr) (dv 6) (dv 5) de_bl)
      (dss_one (ds_set (j := 5) sc__law_held.nd rfl (by first | exact .inl rfl | exact .inr rfl) (de_call (ok__law_along T) (hr.mono (by decide)) (by rfl) T.mg__law_along T.kp__law_along T.bd__law_along pass0 (da_cons (dv 0) (da_cons (dv 5) (da_cons (dv 4) da_nil))))))) PassesOwn.never)
      (dss_cons (ds_for (di_range1 (by rfl) T.b_range (da_cons (de_callB call_lenA sl_len (by rfl) T.b_len (by decide +kernel) (da_cons (dv 1) da_nil)) da_nil)) (dg_name (j := 7) sc__law_held.nd rfl (by first | exact .inl rfl | exact .inr rfl)) (dss_one (ds_if (dt_cmp (op_eqD hr.units) s2_eq (de_ix (hu_of hr) (de_ix (hu_of hr) (dv 1) (dv 7) (fun _ _ => rfl)) de_int (fun _ _ => rfl)) (dv 5) (nomark _)) (dss_cons (ds_set (j := 8) sc__law_held.nd rfl (by first | exact .inl rfl | exact .inr rfl) (dv 7))
      (dss_cons (ds_for (di_seq (de_mul (de_callTy call_list_of sl_list (by rfl) T.b_list (by decide +kernel) (da_cons (dv 4) da_nil)) (de_add (de_callB call_lenA sl_len (by rfl) T.b_len (by decide +kernel) (da_cons (dv 1) da_nil)) de_int))) (dg_name (j := 9) sc__law_held.nd rfl (by first | exact .inl rfl | exact .inr rfl)) (dss_one (ds_set (j := 8) sc__law_held.nd rfl (by first | exact .inl rfl | exact .inr rfl) (de_ifExp (dt_cmp op_ge s2_ge (dv 8) de_int (nomark _)) (de_ix (hu_of hr) (de_ix (hu_of hr) (de_ix (hu_of hr) (dv 1) (dv 8) (fun _ _ => rfl)) de_int (fun _ _ => rfl)) (dv 9) (fun _ _ => rfl)) (de_neg de_int)))) PassesOwn.never)
      (dss_one (ds_if (dt_cmp op_ge s2_ge (dv 8) de_int (nomark _)) (dss_one (ds_ret de_bl)) dss_nil)))) dss_nil)) PassesOwn.never)
      (dss_one (ds_ret de_bl))))), fun ds M Q hl h => ?_⟩
  obtain ⟨web, many, rs, c, lead, turn, L, rfl, hL, gw, gr, hrl, c0, c1, hle, ht, htl, q⟩ := h
  have gwl := gw.le
  obtain ⟨s0, s1⟩ := runW_in gw lead c hle c0 c1
  walk_at "start"
  walk_at "go"
  refine ⟨web, many, c, lead, L, rfl, hL, gw, c0, c1, hle, ?_⟩
  walk_at "go"
  intro ps hps
  walk_at "go"
  refine go_seqK (J := fun G' M' => ∃ R : Int, G' = [some (dWeb web), some (.list (dRooms rs)), some (.int c), some L, some (.list (dInts turn)), some (.int R), some (.ref ps), none, none, none] ∧ Sub M M' ∧
    R = comeAgain (fun c => runW web c turn) (web.length + 1) [] (runW web c lead)) (fun nx hk => ?_) (fun G' M' hJ => ?_)
  · refine go_whileI (W := fun m G' M' => ∃ (F : List Int) (h : Int), G' = [some (dWeb web), some (.list (dRooms rs)), some (.int c), some L, some (.list (dInts turn)), some (.int h), some (.ref ps), none, none, none] ∧ Sub M M' ∧
      M' ps = some (.dK (dSeen (F.map Sum.inl))) ∧ Come web (fun c => runW web c turn) F h ∧ comeAgain (fun c => runW web c turn) m F h = comeAgain (fun c => runW web c turn) (web.length + 1) [] (runW web c lead) ∧ m + F.length = web.length + 1) (web.length + 1) ?_ (fun m G' M' nx' hW hn => ?_)
    · exact ⟨[], _, rfl, sub_mupd (fun _ _ h => h) hps, mupd_same, ⟨.nil, by simp, s0, s1, by simp⟩, rfl, by simp⟩
    · obtain ⟨F, h, rfl, sb, c2, cm, hc, hm⟩ := hW
      have cl := cm.le
      obtain ⟨t0, t1⟩ := runW_in gw turn h ht cm.h0 cm.h1
      walk_at "goS"
      refine go_inD (itemsM_dK c2) (getDk_dK (kk := .inl h) c2 rfl) ?_
      rw [valD_dSeen]
      walk_at "goS"
      refine go_ite (fun e => ?_) (fun e => ?_)
      · have e : h ∉ F := fun z => by
          have := mem_inl.mpr z
          simp [this] at e
        walk_at "goS"
        refine go_kdputK (kk := .inl h) c2 (by simp only [dSeen, List.length_map]; omega) rfl ?_
        rw [putD_new (fun z => e (mem_inl.mp z))]
        walk_at "goS"
        refine ⟨web, many, h, turn, _, rfl, rfl, gw, cm.h0, cm.h1, ht, ?_⟩
        walk_at "goS"
        refine hn (m - 1) _ _ (by omega) ⟨F ++ [h], _, rfl, sub_mupd sb hps, by rw [mupd_same]; simp, cm.step e t0 t1, ?_, by simp; omega⟩
        rw [← hc, comeAgain_out (by omega) e]
      · have e : h ∈ F := by
          refine Classical.byContradiction fun z => ?_
          have : (Sum.inl h : Key) ∉ F.map Sum.inl := fun y => z (mem_inl.mp y)
          simp [this] at e
        exact hk _ _ ⟨h, rfl, sb, by rw [← hc, comeAgain_in (by omega) e]⟩
  obtain ⟨R, rfl, sb, hR⟩ := hJ
  walk_at "go"
  refine go_seqK (J := fun G' M2 => Sub M M2 ∧ ∀ k, 0 ≤ k → k < (rs.length : Int) → clsR rs k = R → iter (fun k => runR rs k turn) (rs.length + 1) k < 0) (fun nx hk => ?_) (fun G' M2 hJ => ?_)
  · walk_at "go"
    refine go_forI (fun i G' M2 => ∃ (x7 x8 x9 : Option D), G' = [some (dWeb web), some (.list (dRooms rs)), some (.int c), some L, some (.list (dInts turn)), some (.int R), some (.ref ps), x7, x8, x9] ∧ Sub M M2 ∧
      ∀ k, 0 ≤ k → k < (i : Int) → clsR rs k = R → iter (fun k => runR rs k turn) (rs.length + 1) k < 0) ⟨none, none, none, rfl, sb, fun k h0 h1 => by omega⟩ (fun i d G' M2 nx' hd hI hn => ?_) (fun G' M2 hI => ?_)
    · obtain ⟨x7, x8, x9, rfl, sb2, hno⟩ := hI
      obtain ⟨hlt, rfl⟩ := rng_get hd
      simp only [List.length_map, Int.toNat_natCast] at hlt
      obtain ⟨r, hr, hrm, er⟩ := room_at (rs := rs) (i := 0 + (i : Int)) (by omega) (by omega)
      have hcl : clsR rs (0 + (i : Int)) = r.1 := by unfold clsR; rw [List.getD_eq_getElem?_getD, List.getElem?_map, hr]; rfl
      have hsz : turn.length * (rs.length + 1) ≤ 1000 * 101 := Nat.mul_le_mul htl (by omega)
      walk_at "goS"
      refine go_ite (fun e => ?_) (fun e => ?_)
      · have e : r.1 = R := by simpa using e
        have hN : ((rs.length : Int) + 1).toNat = rs.length + 1 := by omega
        walk_at "goS"
        · rw [List.length_map, List.length_map, hN]
          omega
        walk_at "goS"
        rw [rep_flat]
        simp only [List.length_map, hN]
        have hlt : Ltr many (List.replicate (rs.length + 1) turn).flatten := fun x hx => by
          obtain ⟨l, hl, hx⟩ := List.mem_flatten.mp hx
          rw [(List.mem_replicate.mp hl).2] at hx
          exact ht x hx
        generalize hw : (List.replicate (rs.length + 1) turn).flatten = w at hlt ⊢
        refine go_seqK (J := fun G' M3 => ∃ (x9 : Option D), G' = [some (dWeb web), some (.list (dRooms rs)), some (.int c), some L, some (.list (dInts turn)), some (.int R), some (.ref ps), some (.int (0 + (i : Int))), some (.int (runR rs (0 + (i : Int)) w)), x9] ∧ Sub M M3) (fun nx2 hk2 => ?_) (fun G' M3 hJ => ?_)
        · refine go_forI (fun j G' M3 => ∃ (x9 : Option D), G' = [some (dWeb web), some (.list (dRooms rs)), some (.int c), some L, some (.list (dInts turn)), some (.int R), some (.ref ps), some (.int (0 + (i : Int))), some (.int (runR rs (0 + (i : Int)) (w.take j))), x9] ∧ Sub M M3) ⟨_, rfl, sb2⟩ (fun j d G' M3 nx3 hd2 hI hn3 => ?_) (fun G' M3 hI => ?_)
          · obtain ⟨x9, rfl, sb3⟩ := hI
            rw [List.getElem?_map] at hd2
            obtain ⟨y, hy, rfl⟩ := Option.map_eq_some_iff.mp hd2
            obtain ⟨y0, y1⟩ := hlt y (List.mem_of_getElem? hy)
            have step : runR rs (0 + (i : Int)) (w.take (j + 1)) = stepR rs (runR rs (0 + (i : Int)) (w.take j)) y := by
              rw [List.take_add_one, hy, runR_app]
              rfl
            walk_at "goS"
            refine go_ite (fun e1 => ?_) (fun e1 => ?_)
            · have e1 := of_decide_eq_true e1
              obtain ⟨rm, er2, et2, _⟩ := atStepR gr e1 (runR_ok gr (w.take j) (0 + (i : Int)) (fun z hz => hlt z (List.mem_of_mem_take hz)) (by omega) (by omega) e1).1 y0 y1
              walk_at "goS"
              exact hn3 _ _ ⟨_, by rw [step], sb3⟩
            · have e1 := of_decide_eq_false e1
              walk_at "goS"
              refine hn3 _ _ ⟨some (.int y), ?_, sb3⟩
              rw [step]
              unfold stepR
              rw [if_neg e1]
          · obtain ⟨x9, rfl, sb3⟩ := hI
            rw [List.length_map, List.take_length]
            exact hk2 _ _ ⟨_, rfl, sb3⟩
        · obtain ⟨x9, rfl, sb3⟩ := hJ
          have hit : runR rs (0 + (i : Int)) w = iter (fun k => runR rs k turn) (rs.length + 1) (0 + (i : Int)) := by rw [← hw, runR_rep]
          walk_at "goS"
          refine go_ite (fun e1 => ?_) (fun e1 => ?_)
          · have e1 := of_decide_eq_true e1
            walk_at "goS"
            rw [heldB_of (b := true) ⟨fun _ => rfl, fun _ => ⟨0 + (i : Int), by omega, by omega, by rw [hcl, e, hR], by rw [← hit]; exact e1⟩⟩] at q
            exact DL.Fin.sub sb3 q
          · have e1 := of_decide_eq_false e1
            walk_at "goS"
            refine hn _ _ ⟨_, _, _, rfl, sb3, fun k k0 k1 kc => ?_⟩
            by_cases z : k = 0 + (i : Int)
            · subst z; rw [← hit]; omega
            · exact hno k k0 (by omega) kc
      · have e : r.1 ≠ R := by simpa using e
        walk_at "goS"
        refine hn _ _ ⟨_, _, _, rfl, sb2, fun k k0 k1 kc => ?_⟩
        by_cases z : k = 0 + (i : Int)
        · subst z; rw [hcl] at kc; exact absurd kc e
        · exact hno k k0 (by omega) kc
    · obtain ⟨x7, x8, x9, rfl, sb2, hno⟩ := hI
      rw [length_rng] at hno
      simp only [List.length_map, Int.toNat_natCast] at hno
      exact hk _ _ ⟨sb2, hno⟩
  · obtain ⟨sb2, hno⟩ := hJ
    walk_at "go"
    rw [heldB_of (b := false) ⟨fun ⟨k, k0, k1, kc, kh⟩ => by have := hno k k0 k1 (by rw [kc, hR]); omega, fun h => Bool.noConfusion h⟩] at q
    exact DL.Fin.sub sb2 q
end
end L29

set_option Elab.async false
set_option linter.all false
set_option maxRecDepth 100000
set_option maxHeartbeats 4000000
namespace L29
open PySem PySem.Spec PyProof.Rows L2 DL
def sp__law_longer : aSp := fun ds M Q => ∃ b many count, ds = [.ref b, .int many, .int count] ∧ 0 < many ∧ many < 1000 ∧ 0 < count ∧ count ≤ 100 ∧ Bag M b ∧
  ∀ lead turn : List Int, ∀ c, Ltr many lead → Ltr many turn → lead.length ≤ 100 → turn.length ≤ 100 → GoodBag c → Q (.list [.list (dInts lead), .list (dInts turn)]) (mupd M b c)
/-- drawn letters -/
def Dr (M : Mp) (b : Addr) (many : Int) (i : Nat) (acc : List D) (M' : Mp) : Prop := ∃ r : List Int, acc = dInts r ∧ r.length = i ∧ Ltr many r ∧ Kp M b M'
theorem Dr.snoc {M M' : Mp} {b : Addr} {many x : Int} {i : Nat} {acc : List D} {c : MC} (h : Dr M b many i acc M') (x0 : 0 ≤ x) (x1 : x < many) (g : GoodBag c) : Dr M b many (i + 1) (acc ++ [.int x]) (mupd M' b c) := by
  obtain ⟨r, rfl, hl, hr, k⟩ := h
  refine ⟨r ++ [x], by simp, by simp [hl], fun y hy => ?_, k.draw g⟩
  rcases List.mem_append.mp hy with hy | hy
  · exact hr y hy
  · rcases List.mem_singleton.mp hy with rfl
    exact ⟨x0, x1⟩
theorem Dr.nil {M M' : Mp} {b : Addr} {many : Int} (k : Kp M b M') : Dr M b many 0 [] M' := ⟨[], rfl, rfl, fun _ h => by simp at h, k⟩
theorem Dr.kp {M M' : Mp} {b : Addr} {many : Int} {i : Nat} {acc : List D} (h : Dr M b many i acc M') : Kp M b M' := by
  obtain ⟨_, _, _, _, k⟩ := h
  exact k
section
variable {P : Program} {w : World} {K : PySem.W.Frag} {mg : Str → Option Value} {base : Heap} {a : Ad}
theorem ok__law_longer (T : TX K mg a) : FnOk P w K mg base CX0 2 a.f__law_longer a.fd__law_longer ["bag", "many", "count"] (lift K 3 sp__law_longer) := by
  refine okD (k := 1) T.fn__law_longer sc__law_longer rfl fun cdv A outer s H E hr => ⟨_, _, (dss_cons (ds_setLc (j := 3) (own := [("x", 4)]) rfl sc__law_longer.nd rfl rfl (sw_true rfl rfl rfl (by decide +kernel)) (di_range1 (by rfl) T.b_range (da_cons (de_call (ok__law_draw T) (hr.mono (by decide)) (by rfl) T.mg__law_draw T.kp__law_draw T.bd__law_draw pass0 (da_cons (dv 0) (da_cons (dv 2) da_nil))) da_nil)) (blkOk_by (by rfl)) (fun _ _ _ _ _ => (dg_name (j := 4) sc__law_longer.nd rfl (by first | exact .inl rfl | exact .inr rfl))) (fun _ _ _ _ _ => dts_nil) (fun _ _ _ _ _ => (de_call (ok__law_draw T) (hr.mono (by decide)) (by rfl) T.mg__law_draw T.kp__law_draw T.bd__law_draw pass0 (da_cons (dv 0) (da_cons (dv 1) da_nil)))) om_name)
      (dss_one (ds_ret (de_lst (da_cons (dv 3) (da_cons (de_lc (own := [("x", 4)]) rfl sc__law_longer.nd (di_range1 (by rfl) T.b_range (da_cons (de_add de_int (de_call (ok__law_draw T) (hr.mono (by decide)) (by rfl) T.mg__law_draw T.kp__law_draw T.bd__law_draw pass0 (da_cons (dv 0) (da_cons (dv 2) da_nil)))) da_nil)) (blkOk_by (by rfl)) (fun _ _ _ _ _ => (dg_name (j := 4) sc__law_longer.nd rfl (by first | exact .inl rfl | exact .inr rfl))) (fun _ _ _ _ _ => dts_nil) (fun _ _ _ _ _ => (de_call (ok__law_draw T) (hr.mono (by decide)) (by rfl) T.mg__law_draw T.kp__law_draw T.bd__law_draw pass0 (da_cons (dv 0) (da_cons (dv 1) da_nil)))) om_name) da_nil)))))), fun ds M Q hl h => ?_⟩
  obtain ⟨b, many, count, rfl, m0, m1, n0, n1, hb, q⟩ := h
  walk_at "start"
  walk_at "go"
  refine draw_go (.refl hb) n0 (by omega) (fun n c i0 i1 hc k1 => ?_)
  walk_at "go"
  refine go_lcI (Dr M b many) (Dr.nil k1) (fun i d acc M' KY KN hd hI hY hN => ?_) (fun acc M' hI => ?_)
  · walk_at "go"
    exact draw_go hI.kp m0 (by omega) (fun x c2 x0 x1 g _ => hY _ _ (hI.snoc x0 x1 g))
  obtain ⟨lead, rfl, hl, hlt, k2⟩ := hI
  rw [length_rng] at hl
  walk_at "go"
  refine draw_go k2 n0 (by omega) (fun n' c' j0 j1 hc' k3 => ?_)
  walk_at "go"
  refine go_lcI (Dr M b many) (Dr.nil k3) (fun i d acc M' KY KN hd hI hY hN => ?_) (fun acc M' hI => ?_)
  · walk_at "go"
    exact draw_go hI.kp m0 (by omega) (fun x c2 x0 x1 g _ => hY _ _ (hI.snoc x0 x1 g))
  obtain ⟨turn, rfl, hl2, hlt2, k4⟩ := hI
  rw [length_rng] at hl2
  walk_at "go"
  obtain ⟨c4, g1, g2⟩ := k4.sub
  exact DL.Fin.sub g2 (q lead turn c4 hlt hlt2 (by omega) (by omega) g1)
end
end L29

set_option Elab.async false
set_option linter.all false
set_option maxRecDepth 100000
set_option maxHeartbeats 4000000
namespace L29
open PySem PySem.Spec PyProof.Rows L2 DL
abbrev dPaths (ps : List (List Int)) : List D := ps.map fun p => D.list (dInts p)
def Paths (many : Int) (n : Nat) (ps : List (List Int)) : Prop := ∀ p ∈ ps, Ltr many p ∧ p.length = n
theorem Paths.app {many : Int} {n : Nat} {ps qs : List (List Int)} (h : Paths many n ps) (h2 : Paths many n qs) : Paths many n (ps ++ qs) := fun p hp => by
  rcases List.mem_append.mp hp with hp | hp
  · exact h p hp
  · exact h2 p hp
theorem Ltr.snoc {many x : Int} {p : List Int} (h : Ltr many p) (x0 : 0 ≤ x) (x1 : x < many) : Ltr many (p ++ [x]) := fun y hy => by
  rcases List.mem_append.mp hy with hy | hy
  · exact h y hy
  · rcases List.mem_singleton.mp hy with rfl
    exact ⟨x0, x1⟩
def sp__law_paths : aSp := fun ds M Q => ∃ many size, ds = [.int many, .int size] ∧ 0 < many ∧ many ≤ 4 ∧ 0 ≤ size ∧ size ≤ 4 ∧ ∀ ps, Paths many size.toNat ps → ps.length ≤ 4 ^ size.toNat → Q (.list (dPaths ps)) M
section
variable {P : Program} {w : World} {K : PySem.W.Frag} {mg : Str → Option Value} {base : Heap} {a : Ad}
theorem ok__law_paths (T : TX K mg a) : FnOk P w K mg base CX0 1 a.f__law_paths a.fd__law_paths ["many", "size"] (lift K 2 sp__law_paths) := by
  refine okD (k := 0) T.fn__law_paths sc__law_paths rfl fun cdv A outer s H E hr => ⟨_, _, (dss_cons (ds_set (j := 2) sc__law_paths.nd rfl (by first | exact .inl rfl | exact .inr rfl) (de_lst (da_cons (de_lst da_nil) da_nil)))
      (dss_cons (ds_for (di_range1 (by rfl) T.b_range (da_cons (dv 1) da_nil)) (dg_name (j := 3) sc__law_paths.nd rfl (by first | exact .inl rfl | exact .inr rfl)) (dss_cons (ds_set (j := 4) sc__law_paths.nd rfl (by first | exact .inl rfl | exact .inr rfl) (de_lst da_nil))
      (dss_cons (ds_for (di_seq (dv 2)) (dg_name (j := 5) sc__law_paths.nd rfl (by first | exact .inl rfl | exact .inr rfl)) (dss_one (ds_set (j := 4) sc__law_paths.nd rfl (by first | exact .inl rfl | exact .inr rfl) (de_add (dv 4) (de_lc (own := [("x", 6)]) rfl sc__law_paths.nd (di_range1 (by rfl) T.b_range (da_cons (dv 0) da_nil)) (blkOk_by (by rfl)) (fun _ _ _ _ _ => (dg_name (j := 6) sc__law_paths.nd rfl (by first | exact .inl rfl | exact .inr rfl))) (fun _ _ _ _ _ => dts_nil) (fun _ _ _ _ _ => (de_add (dv 5) (de_lst (da_cons (dv 6) da_nil)))) om_name)))) PassesOwn.never)
      (dss_one (ds_set (j := 2) sc__law_paths.nd rfl (by first | exact .inl rfl | exact .inr rfl) (dv 4))))) PassesOwn.never)
      (dss_one (ds_ret (dv 2))))), fun ds M Q hl h => ?_⟩
  obtain ⟨many, size, rfl, m0, m1, s0, s1, q⟩ := h
  have hpow : ∀ i : Nat, i ≤ 4 → 4 ^ i ≤ 256 := fun i hi => Nat.le_trans (Nat.pow_le_pow_right (by decide) hi) (by decide)
  walk_at "start"
  walk_at "go"
  refine go_seqK (J := fun G' M' => ∃ (ps : List (List Int)) (x3 x4 x5 x6 : Option D), G' = [some (.int many), some (.int size), some (.list (dPaths ps)), x3, x4, x5, x6] ∧ M = M' ∧ Paths many size.toNat ps ∧ ps.length ≤ 4 ^ size.toNat) (fun nx hk => ?_) (fun G' M' hJ => ?_)
  · walk_at "go"
    refine go_forI (fun i G' M' => ∃ (ps : List (List Int)) (x3 x4 x5 x6 : Option D), G' = [some (.int many), some (.int size), some (.list (dPaths ps)), x3, x4, x5, x6] ∧ M = M' ∧ Paths many i ps ∧ ps.length ≤ 4 ^ i) ⟨[[]], _, _, _, _, rfl, rfl, fun p hp => by rcases List.mem_singleton.mp hp with rfl; exact ⟨fun _ h => by simp at h, rfl⟩, by simp⟩ (fun i d G' M' nx' hd hI hn => ?_) (fun G' M' hI => ?_)
    · obtain ⟨ps, x3, x4, x5, x6, rfl, rfl, hp, hl⟩ := hI
      obtain ⟨hlt, rfl⟩ := rng_get hd
      have hi4 := hpow i (by omega)
      walk_at "go"
      refine go_seqK (J := fun G' M' => ∃ (qs : List (List Int)) (x3 x5 x6 : Option D), G' = [some (.int many), some (.int size), some (.list (dPaths ps)), x3, some (.list (dPaths qs)), x5, x6] ∧ M = M' ∧ Paths many (i + 1) qs ∧ qs.length ≤ 4 * ps.length) (fun nx2 hk2 => ?_) (fun G' M' hJ => ?_)
      · walk_at "go"
        refine go_forI (fun j G' M' => ∃ (qs : List (List Int)) (x3 x5 x6 : Option D), G' = [some (.int many), some (.int size), some (.list (dPaths ps)), x3, some (.list (dPaths qs)), x5, x6] ∧ M = M' ∧ Paths many (i + 1) qs ∧ qs.length ≤ 4 * j) ⟨[], _, _, _, rfl, rfl, fun p hp => by simp at hp, by simp⟩ (fun j d G' M' nx3 hd2 hI hn3 => ?_) (fun G' M' hI => ?_)
        · obtain ⟨qs, x3, x5, x6, rfl, rfl, hq, hql⟩ := hI
          rw [List.getElem?_map] at hd2
          obtain ⟨p, hpp, rfl⟩ := Option.map_eq_some_iff.mp hd2
          have hj := (List.getElem?_eq_some_iff.mp hpp).1
          obtain ⟨hpl, hpn⟩ := hp p (List.mem_of_getElem? hpp)
          walk_at "go"
          refine go_lcI (fun l acc M' => M = M' ∧ ∃ rs : List (List Int), acc = dPaths rs ∧ rs.length = l ∧ Paths many (i + 1) rs) ⟨rfl, [], rfl, rfl, fun p hp => by simp at hp⟩ (fun l d acc M' KY KN hd3 hI hY hN => ?_) (fun acc M' hI => ?_)
          · obtain ⟨rfl, rs, rfl, hrl, hr⟩ := hI
            obtain ⟨hlt3, rfl⟩ := rng_get hd3
            walk_at "go"
            rw [show dInts p ++ [D.int (0 + (l : Int))] = dInts (p ++ [0 + (l : Int)]) by simp [dInts]]
            refine hY _ _ ⟨rfl, rs ++ [p ++ [0 + (l : Int)]], by simp [dPaths], by simp [hrl], hr.app fun p' hp' => ?_⟩
            rcases List.mem_singleton.mp hp' with rfl
            exact ⟨hpl.snoc (by omega) (by omega), by simp [hpn]⟩
          · obtain ⟨rfl, rs, rfl, hrl, hr⟩ := hI
            rw [length_rng] at hrl
            walk_at "go"
            rw [show dPaths qs ++ dPaths rs = dPaths (qs ++ rs) by simp [dPaths]]
            exact hn3 _ _ ⟨qs ++ rs, _, _, _, rfl, rfl, hq.app hr, by simp; omega⟩
        · obtain ⟨qs, x3, x5, x6, rfl, rfl, hq, hql⟩ := hI
          rw [List.length_map] at hql
          exact hk2 _ _ ⟨qs, _, _, _, rfl, rfl, hq, hql⟩
      · obtain ⟨qs, x3, x5, x6, rfl, rfl, hq, hql⟩ := hJ
        walk_at "go"
        exact hn _ _ ⟨qs, _, _, _, _, rfl, rfl, hq, by rw [Nat.pow_succ]; omega⟩
    · obtain ⟨ps, x3, x4, x5, x6, rfl, rfl, hp, hl⟩ := hI
      rw [length_rng] at hp hl
      exact hk _ _ ⟨ps, _, _, _, _, rfl, rfl, hp, hl⟩
  · obtain ⟨ps, x3, x4, x5, x6, rfl, rfl, hp, hl⟩ := hJ
    walk_at "go"
    exact Fin.of (q ps hp hl)
end
end L29

set_option Elab.async false
set_option linter.all false
set_option maxRecDepth 100000
set_option maxHeartbeats 4000000
namespace L29
open PySem PySem.Spec PyProof.Rows L2 DL
abbrev Row := List Int × List Int
abbrev dRow (r : Row) : D := .tup [.list (dInts r.1), .list (dInts r.2)]
def RowOk (many : Int) (r : Row) : Prop := Ltr many r.1 ∧ Ltr many r.2 ∧ r.1.length ≤ 100 ∧ r.2.length ≤ 100
def sp__law_rows : aSp := fun ds M Q => ∃ b many count, ds = [.ref b, .int many, .int count] ∧ 2 ≤ many ∧ many ≤ 4 ∧ 0 ≤ count ∧ count ≤ 100 ∧ Bag M b ∧
  ∀ rows : List Row, ∀ c, (∀ r ∈ rows, RowOk many r) → rows.length ≤ 100000 → GoodBag c → Q (.list (rows.map dRow)) (mupd M b c)
theorem cut_at {cs : List Int} {k : Nat} (h : k ≤ cs.length) : DL.cutD (dInts cs) none (some (0 + (k : Int))) = dInts (cs.take k) ∧ DL.cutD (dInts cs) (some (0 + (k : Int))) none = dInts (cs.drop k) := by
  rw [Int.zero_add]
  unfold DL.cutD
  constructor
  · rw [HT.sIx_none, List.drop_zero, HT.sIx_nat, List.length_map, Nat.sub_zero, Nat.min_eq_left h, dInts, dInts, List.map_take]
  · rw [HT.sIx_nat, HT.sIx_none, List.length_map, Nat.min_eq_left h, dInts, dInts, ← List.map_drop, List.take_of_length_le (by simp)]
section
variable {P : Program} {w : World} {K : PySem.W.Frag} {mg : Str → Option Value} {base : Heap} {a : Ad}
theorem ok__law_rows (T : TX K mg a) : FnOk P w K mg base CX0 2 a.f__law_rows a.fd__law_rows ["bag", "many", "count"] (lift K 3 sp__law_rows) := by
  refine okD (k := 1) T.fn__law_rows sc__law_rows rfl fun cdv A outer s H E hr => ⟨_, _, (dss_cons (ds_set (j := 3) sc__law_rows.nd rfl (by first | exact .inl rfl | exact .inr rfl) (de_lstM da_nil))
      (dss_cons (ds_for (di_range2 (by rfl) T.b_range (da_cons de_int (da_cons (de_ifExp (dt_cmp (op_eqD hr.units) s2_eq (dv 1) de_int (nomark _)) de_int (de_ifExp (dt_cmp op_lt s2_lt (dv 1) de_int (nomark _)) de_int de_int)) da_nil))) (dg_name (j := 4) sc__law_rows.nd rfl (by first | exact .inl rfl | exact .inr rfl)) (dss_one (ds_for (di_seq (de_call (ok__law_paths T) (hr.mono (by decide)) (by rfl) T.mg__law_paths T.kp__law_paths T.bd__law_paths pass0 (da_cons (dv 1) (da_cons (dv 4) da_nil)))) (dg_name (j := 5) sc__law_rows.nd rfl (by first | exact .inl rfl | exact .inr rfl)) (dss_one (ds_for (di_range1 (by rfl) T.b_range (da_cons (dv 4) da_nil)) (dg_name (j := 6) sc__law_rows.nd rfl (by first | exact .inl rfl | exact .inr rfl)) (dss_one (ds_expr (de_bm PySem.F.plainAttrs_list PySem.F.slot_list_append PySem.F.type_list_append mt_append sm_append (.inl rfl) (dv 3) (da_cons (de_tup (da_cons (de_slice (dv 5) do_none (do_some (dv 6))) (da_cons (de_slice (dv 5) (do_some (dv 6)) do_none) da_nil))) da_nil)))) PassesOwn.never)) PassesOwn.never)) PassesOwn.never)
      (dss_cons (ds_for (di_range1 (by rfl) T.b_range (da_cons (dv 2) da_nil)) (dg_name (j := 7) sc__law_rows.nd rfl (by first | exact .inl rfl | exact .inr rfl)) (dss_cons (ds_setLc (j := 8) (own := [("x", 9)]) rfl sc__law_rows.nd rfl rfl (sw_true rfl rfl rfl (by decide +kernel)) (di_range1 (by rfl) T.b_range (da_cons (de_call (ok__law_draw T) (hr.mono (by decide)) (by rfl) T.mg__law_draw T.kp__law_draw T.bd__law_draw pass0 (da_cons (dv 0) (da_cons de_int da_nil))) da_nil)) (blkOk_by (by rfl)) (fun _ _ _ _ _ => (dg_name (j := 9) sc__law_rows.nd rfl (by first | exact .inl rfl | exact .inr rfl))) (fun _ _ _ _ _ => dts_nil) (fun _ _ _ _ _ => (de_call (ok__law_draw T) (hr.mono (by decide)) (by rfl) T.mg__law_draw T.kp__law_draw T.bd__law_draw pass0 (da_cons (dv 0) (da_cons (dv 1) da_nil)))) om_name)
      (dss_one (ds_expr (de_bm PySem.F.plainAttrs_list PySem.F.slot_list_append PySem.F.type_list_append mt_append sm_append (.inl rfl) (dv 3) (da_cons (de_tup (da_cons (dv 8) (da_cons (de_lc (own := [("x", 9)]) rfl sc__law_rows.nd (di_range1 (by rfl) T.b_range (da_cons (de_add de_int (de_call (ok__law_draw T) (hr.mono (by decide)) (by rfl) T.mg__law_draw T.kp__law_draw T.bd__law_draw pass0 (da_cons (dv 0) (da_cons de_int da_nil)))) da_nil)) (blkOk_by (by rfl)) (fun _ _ _ _ _ => (dg_name (j := 9) sc__law_rows.nd rfl (by first | exact .inl rfl | exact .inr rfl))) (fun _ _ _ _ _ => dts_nil) (fun _ _ _ _ _ => (de_call (ok__law_draw T) (hr.mono (by decide)) (by rfl) T.mg__law_draw T.kp__law_draw T.bd__law_draw pass0 (da_cons (dv 0) (da_cons (dv 1) da_nil)))) om_name) da_nil))) da_nil))))) PassesOwn.never)
      (dss_one (ds_ret (dv 3)))))), fun ds M Q hl h => ?_⟩
  obtain ⟨b, many, count, rfl, m0, m1, n0, n1, hb, q⟩ := h
  walk_at "start"
  walk_at "go"
  intro pf hpf
  have kb : Kp M b M := .refl hb
  have fb := kb.ne hpf
  walk_at "go"
  refine go_seqK (J := fun G' M' => ∃ (x4 x5 x6 x7 x8 x9 : Option D) (rows : List Row), G' = [some (.ref b), some (.int many), some (.int count), some (.ref pf), x4, x5, x6, x7, x8, x9] ∧ Kp M b M' ∧ M' pf = some (.lst (rows.map dRow)) ∧ (∀ r ∈ rows, RowOk many r) ∧ rows.length ≤ 5000) (fun nx hk => ?_) (fun G' M' hJ => ?_)
  · have key : ∀ (n : Nat), n ≤ 3 → ∀ (d : D) (i : Nat), (rng 1 n)[i]? = some d → i < 3 ∧ d = .int (1 + (i : Int)) := fun n hn d i h => by
      obtain ⟨h1, h2⟩ := rng_get h
      exact ⟨by omega, h2⟩
    walk_at "go"
    refine go_ite (fun _ => ?b1) (fun _ => ?b2)
    case' b2 =>
      walk_at "go"
      refine go_ite (fun _ => ?e1) (fun _ => ?e2)
    all_goals walk_at "go"
    all_goals
      refine go_forI (fun i G' M' => ∃ (x4 x5 x6 : Option D) (rows : List Row), G' = [some (.ref b), some (.int many), some (.int count), some (.ref pf), x4, x5, x6, none, none, none] ∧ Kp M b M' ∧ M' pf = some (.lst (rows.map dRow)) ∧ (∀ r ∈ rows, RowOk many r) ∧ rows.length ≤ i * 1100)
        ⟨_, _, _, [], rfl, kb.new hpf, mupd_same, fun r hr => by simp at hr, by simp⟩ (fun i d G' M' nx' hd hI hn => ?_) (fun G' M' hI => ?_)
      · obtain ⟨x4, x5, x6, rows, rfl, kk, c1, hr, hl⟩ := hI
        obtain ⟨hi, rfl⟩ := key _ (by decide) d i hd
        have hp4 : 4 ^ (1 + (i : Int)).toNat ≤ 64 := Nat.le_trans (Nat.pow_le_pow_right (by decide) (show (1 + (i : Int)).toNat ≤ 3 by omega)) (by decide)
        walk_at "go"
        refine ⟨many, _, rfl, by omega, by omega, by omega, by omega, fun ps hps hpl => ?_⟩
        walk_at "go"
        refine go_forI (fun j G' M' => ∃ (x5 x6 : Option D) (rows : List Row), G' = [some (.ref b), some (.int many), some (.int count), some (.ref pf), some (.int (1 + (i : Int))), x5, x6, none, none, none] ∧ Kp M b M' ∧ M' pf = some (.lst (rows.map dRow)) ∧ (∀ r ∈ rows, RowOk many r) ∧ rows.length ≤ i * 1100 + j * 4)
          ⟨_, _, rows, rfl, kk, c1, hr, by omega⟩ (fun j d G' M' nx2 hd2 hI hn2 => ?_) (fun G' M' hI => ?_)
        · obtain ⟨x5, x6, rows, rfl, kk, c1, hr, hl⟩ := hI
          rw [List.getElem?_map] at hd2
          obtain ⟨p, hpp, rfl⟩ := Option.map_eq_some_iff.mp hd2
          have hj := (List.getElem?_eq_some_iff.mp hpp).1
          obtain ⟨hpl2, hpn⟩ := hps p (List.mem_of_getElem? hpp)
          walk_at "go"
          refine go_forI (fun l G' M' => ∃ (x6 : Option D) (rows : List Row), G' = [some (.ref b), some (.int many), some (.int count), some (.ref pf), some (.int (1 + (i : Int))), some (.list (dInts p)), x6, none, none, none] ∧ Kp M b M' ∧ M' pf = some (.lst (rows.map dRow)) ∧ (∀ r ∈ rows, RowOk many r) ∧ rows.length ≤ i * 1100 + j * 4 + l)
            ⟨_, rows, rfl, kk, c1, hr, by omega⟩ (fun l d G' M' nx3 hd3 hI hn3 => ?_) (fun G' M' hI => ?_)
          · obtain ⟨x6, rows, rfl, kk, c1, hr, hl⟩ := hI
            obtain ⟨hl3, rfl⟩ := rng_get hd3
            obtain ⟨e1, e2⟩ := cut_at (cs := p) (k := l) (by omega)
            walk_at "go"
            rw [e1, e2]
            walk_at "go"
            refine hn3 _ _ ⟨_, rows ++ [(p.take l, p.drop l)], rfl, kk.mut hpf fb, by rw [mupd_same]; simp [dRow], fun r hr' => ?_, by simp; omega⟩
            rcases List.mem_append.mp hr' with hr' | hr'
            · exact hr r hr'
            · rcases List.mem_singleton.mp hr' with rfl
              exact ⟨fun x hx => hpl2 x (List.mem_of_mem_take hx), fun x hx => hpl2 x (List.mem_of_mem_drop hx), by simp; omega, by simp; omega⟩
          · obtain ⟨x6, rows, rfl, kk, c1, hr, hl⟩ := hI
            rw [length_rng] at hl
            exact hn2 _ _ ⟨_, _, rows, rfl, kk, c1, hr, by omega⟩
        · obtain ⟨x5, x6, rows, rfl, kk, c1, hr, hl⟩ := hI
          rw [List.length_map] at hl
          exact hn _ _ ⟨_, _, _, rows, rfl, kk, c1, hr, by omega⟩
      · obtain ⟨x4, x5, x6, rows, rfl, kk, c1, hr, hl⟩ := hI
        rw [length_rng] at hl
        exact hk _ _ ⟨_, _, _, _, _, _, rows, rfl, kk, c1, hr, Nat.le_trans hl (by decide)⟩
  · obtain ⟨x4, x5, x6, x7, x8, x9, rows, rfl, kk, c1, hr, hl⟩ := hJ
    refine go_seqK (J := fun G' M' => ∃ (x4 x5 x6 x7 x8 x9 : Option D) (rows : List Row), G' = [some (.ref b), some (.int many), some (.int count), some (.ref pf), x4, x5, x6, x7, x8, x9] ∧ Kp M b M' ∧ M' pf = some (.lst (rows.map dRow)) ∧ (∀ r ∈ rows, RowOk many r) ∧ rows.length ≤ 6000) (fun nx hk => ?_) (fun G' M' hJ => ?_)
    · walk_at "go"
      refine go_forI (fun i G' M' => ∃ (x4 x5 x6 x7 x8 x9 : Option D) (rows : List Row), G' = [some (.ref b), some (.int many), some (.int count), some (.ref pf), x4, x5, x6, x7, x8, x9] ∧ Kp M b M' ∧ M' pf = some (.lst (rows.map dRow)) ∧ (∀ r ∈ rows, RowOk many r) ∧ rows.length ≤ 5000 + i)
        ⟨_, _, _, _, _, _, rows, rfl, kk, c1, hr, by omega⟩ (fun i d G' M' nx' hd hI hn => ?_) (fun G' M' hI => ?_)
      · obtain ⟨x4, x5, x6, x7, x8, x9, rows, rfl, kk, c1, hr, hl⟩ := hI
        obtain ⟨hi, rfl⟩ := rng_get hd
        walk_at "go"
        refine draw_go kk (by decide) (by decide) (fun n c2 i0 i1 g2 k2 => ?_)
        have c2' : (mupd _ b c2) pf = some (.lst (rows.map dRow)) := (mupd_ne fb).trans c1
        walk_at "go"
        refine go_lcI (fun i acc M' => Dr M b many i acc M' ∧ M' pf = some (.lst (rows.map dRow))) ⟨Dr.nil k2, c2'⟩ (fun i d acc M' KY KN hd hI hY hN => ?_) (fun acc M' hI => ?_)
        · walk_at "go"
          exact draw_go hI.1.kp (by omega) (by omega) (fun x c3 x0 x1 g _ => hY _ _ ⟨hI.1.snoc x0 x1 g, (mupd_ne fb).trans hI.2⟩)
        obtain ⟨⟨lead, rfl, hl1, hlt, k3⟩, c3⟩ := hI
        rw [length_rng] at hl1
        walk_at "go"
        refine draw_go k3 (by decide) (by decide) (fun n' c4 j0 j1 g4 k4 => ?_)
        have c4' : (mupd _ b c4) pf = some (.lst (rows.map dRow)) := (mupd_ne fb).trans c3
        walk_at "go"
        refine go_lcI (fun i acc M' => Dr M b many i acc M' ∧ M' pf = some (.lst (rows.map dRow))) ⟨Dr.nil k4, c4'⟩ (fun i d acc M' KY KN hd hI hY hN => ?_) (fun acc M' hI => ?_)
        · walk_at "go"
          exact draw_go hI.1.kp (by omega) (by omega) (fun x c3 x0 x1 g _ => hY _ _ ⟨hI.1.snoc x0 x1 g, (mupd_ne fb).trans hI.2⟩)
        obtain ⟨⟨turn, rfl, hl2, hlt2, k5⟩, c5⟩ := hI
        rw [length_rng] at hl2
        walk_at "go"
        refine hn _ _ ⟨_, _, _, _, _, _, rows ++ [(lead, turn)], rfl, k5.mut hpf fb, by rw [mupd_same]; simp [dRow], fun r hr' => ?_, by simp; omega⟩
        rcases List.mem_append.mp hr' with hr' | hr'
        · exact hr r hr'
        · rcases List.mem_singleton.mp hr' with rfl
          exact ⟨hlt, hlt2, by show lead.length ≤ 100; omega, by show turn.length ≤ 100; omega⟩
      · obtain ⟨x4, x5, x6, x7, x8, x9, rows, rfl, kk, c1, hr, hl⟩ := hI
        rw [length_rng] at hl
        exact hk _ _ ⟨_, _, _, _, _, _, rows, rfl, kk, c1, hr, by omega⟩
    · obtain ⟨x4, x5, x6, x7, x8, x9, rows, rfl, kk, c1, hr, hl⟩ := hJ
      walk_at "go"
      obtain ⟨c', g1, g2⟩ := kk.subL (L := [pf]) (fun p hp => by rcases List.mem_singleton.mp hp with rfl; exact ⟨hpf, fb⟩)
      exact Fin.list c1 hpf g2 (q rows c' hr (by omega) g1)
end
end L29

set_option Elab.async false
set_option linter.all false
set_option maxRecDepth 100000
set_option maxHeartbeats 4000000
namespace L29
open PySem PySem.Spec PyProof.Rows L2 DL
/-! ### rows in other writings are held alike -/
theorem iter_conj {f g h : Int → Int} (e : ∀ k, h (f k) = f (g k)) : ∀ (j : Nat) (k : Int), iter h j (f k) = f (iter g j k)
  | 0, k => rfl
  | j + 1, k => by
    show iter h j (h (f k)) = f (iter g j (g k))
    rw [e, iter_conj e j]
/-- a room steps a round for ever -/
def Live (rs : List Rm) (k : Int) (v : List Int) : Prop := ∀ j, 0 ≤ iter (fun k => runR rs k v) j k
/-- some room of a class that is come to at the end of a round steps the round for ever -/
def HeldS (web : List (List Int)) (rs : List Rm) (c : Int) (lead turn : List Int) : Prop :=
  ∃ (n : Nat) (k : Int), 0 ≤ k ∧ k < (rs.length : Int) ∧ clsR rs k = iter (fun c => runW web c turn) n (runW web c lead) ∧ Live rs k turn
theorem runR_pre {rs : List Rm} {k : Int} {a b : List Int} (h : 0 ≤ runR rs k (a ++ b)) : 0 ≤ runR rs k a := by
  by_cases q : 0 ≤ runR rs k a
  · exact q
  · rw [runR_app] at h
    have := runR_neg (rs := rs) b (runR rs k a) (by omega)
    omega
theorem Live.pre {rs : List Rm} {k : Int} {a b : List Int} (h : Live rs k (a ++ b)) : 0 ≤ runR rs k a := runR_pre (h 1)
theorem Live.push {rs : List Rm} {k : Int} {a b : List Int} (h : Live rs k (a ++ b)) : Live rs (runR rs k a) (b ++ a) := fun j => by
  have e := iter_conj (f := fun k => runR rs k a) (g := fun k => runR rs k (a ++ b)) (h := fun k => runR rs k (b ++ a)) (fun k => by
    show runR rs (runR rs k a) (b ++ a) = runR rs (runR rs k (a ++ b)) a
    rw [← runR_app, ← runR_app, List.append_assoc]) j k
  show 0 ≤ iter (fun k => runR rs k (b ++ a)) j (runR rs k a)
  rw [show iter (fun k => runR rs k (b ++ a)) j (runR rs k a) = runR rs (iter (fun k => runR rs k (a ++ b)) j k) a from e]
  have h1 := h (j + 1)
  rw [iter_succ] at h1
  exact runR_pre h1
section
variable {web : List (List Int)} {many : Int} {rs : List Rm}
theorem heldS_from (gr : GoodRs web many rs) {turn : List Int} (ht : ∀ x ∈ turn, 0 ≤ x ∧ x < many) {x k : Int} (h0 : 0 ≤ k) (h1 : k < (rs.length : Int)) : ∀ (m n : Nat), clsR rs k = iter (fun c => runW web c turn) n x → Live rs k turn →
    ∃ k, 0 ≤ k ∧ k < (rs.length : Int) ∧ clsR rs k = iter (fun c => runW web c turn) (n + m) x ∧ Live rs k turn
  | 0, n, hc, hl => ⟨k, h0, h1, hc, hl⟩
  | m + 1, n, hc, hl => by
    obtain ⟨k', a0, a1, ac, al⟩ := heldS_from gr ht h0 h1 m n hc hl
    have p := Live.pre (a := turn) (b := []) (by rw [List.append_nil]; exact al)
    obtain ⟨p1, p2⟩ := runR_ok gr turn k' ht a0 a1 p
    refine ⟨runR rs k' turn, p, p1, ?_, ?_⟩
    · rw [p2, ac, ← Nat.add_assoc, iter_succ]
    · have := Live.push (a := turn) (b := []) (by rw [List.append_nil]; exact al)
      simpa using this
/-- the round turned -/
theorem heldS_rot (gr : GoodRs web many rs) {a b : List Int} (ha : ∀ x ∈ a, 0 ≤ x ∧ x < many) (hb : ∀ x ∈ b, 0 ≤ x ∧ x < many) {c : Int} {lead : List Int} : HeldS web rs c (lead ++ a) (b ++ a) ↔ HeldS web rs c lead (a ++ b) := by
  have conj : ∀ (a b : List Int) (n : Nat) (x : Int), iter (fun c => runW web c (b ++ a)) n (runW web x a) = runW web (iter (fun c => runW web c (a ++ b)) n x) a := fun a b n x =>
    iter_conj (f := fun k => runW web k a) (g := fun k => runW web k (a ++ b)) (h := fun k => runW web k (b ++ a)) (fun k => by
      show runW web (runW web k a) (b ++ a) = runW web (runW web k (a ++ b)) a
      rw [← runW_app, ← runW_app, List.append_assoc]) n x
  constructor
  · rintro ⟨n, k, k0, k1, kc, hl⟩
    have p := hl.pre
    obtain ⟨p1, p2⟩ := runR_ok gr b k hb k0 k1 p
    refine ⟨n + 1, runR rs k b, p, p1, ?_, hl.push⟩
    rw [p2, kc, iter_succ, runW_app, conj, ← runW_app]
  · rintro ⟨n, k, k0, k1, kc, hl⟩
    have p := hl.pre
    obtain ⟨p1, p2⟩ := runR_ok gr a k ha k0 k1 p
    refine ⟨n, runR rs k a, p, p1, ?_, hl.push⟩
    rw [p2, kc, runW_app, conj]
/-- the round several times -/
theorem heldS_rep (gr : GoodRs web many rs) {t : List Int} (ht : ∀ x ∈ t, 0 ≤ x ∧ x < many) {c : Int} {lead : List Int} {m : Nat} (hm : 1 ≤ m) : HeldS web rs c lead (List.replicate m t).flatten ↔ HeldS web rs c lead t := by
  have eW : (fun c => runW web c (List.replicate m t).flatten) = iter (fun c => runW web c t) m := funext fun c => runW_rep m c
  have eR : (fun k => runR rs k (List.replicate m t).flatten) = iter (fun k => runR rs k t) m := funext fun k => runR_rep m k
  unfold HeldS Live
  rw [eW, eR]
  constructor
  · rintro ⟨n, k, k0, k1, kc, hl⟩
    refine ⟨m * n, k, k0, k1, by rw [kc, iter_mul], fun j => ?_⟩
    have := hl j
    rw [iter_mul] at this
    exact iter_le (fun k hk => runR_neg t k hk) (Nat.le_mul_of_pos_left _ hm) this
  · rintro ⟨n, k, k0, k1, kc, hl⟩
    have hmn : n ≤ m * n := Nat.le_mul_of_pos_left _ hm
    obtain ⟨k', a0, a1, ac, al⟩ := heldS_from gr ht k0 k1 (m * n - n) n kc hl
    refine ⟨n, k', a0, a1, by rw [iter_mul, ac]; congr 1; omega, fun j => ?_⟩
    rw [iter_mul]
    exact al _
/-- the round ahead of the round -/
theorem heldS_lead (gr : GoodRs web many rs) {t : List Int} (ht : ∀ x ∈ t, 0 ≤ x ∧ x < many) {c : Int} {lead : List Int} : HeldS web rs c (lead ++ t) t ↔ HeldS web rs c lead t := by
  have := heldS_rot gr (a := t) (b := []) ht (by simp) (c := c) (lead := lead)
  simpa using this
theorem heldS_cls {c : Int} {u v t : List Int} : HeldS web rs (runW web c u) v t ↔ HeldS web rs c (u ++ v) t := by
  unfold HeldS
  rw [runW_app]
theorem comeAgain_is (gw : GoodWeb web many) {turn : List Int} (ht : ∀ x ∈ turn, 0 ≤ x ∧ x < many) (h0 : Int) : ∀ (m : Nat) (F : List Int) (h : Int), Come web (fun c => runW web c turn) F h → m + F.length = web.length + 1 → h = iter (fun c => runW web c turn) F.length h0 →
    ∃ n p, 1 ≤ p ∧ comeAgain (fun c => runW web c turn) m F h = iter (fun c => runW web c turn) n h0 ∧ iter (fun c => runW web c turn) p (comeAgain (fun c => runW web c turn) m F h) = comeAgain (fun c => runW web c turn) m F h
  | 0, F, h, cm, hm, _ => by
    have := cm.le
    omega
  | m + 1, F, h, cm, hm, he => by
    by_cases q : h ∈ F
    · rw [comeAgain_in (by omega) q]
      obtain ⟨j, j0, _, ej⟩ := cm.bk h q
      exact ⟨F.length, j, j0, he, ej⟩
    · rw [comeAgain_out (by omega) q]
      obtain ⟨t0, t1⟩ := runW_in gw turn h ht cm.h0 cm.h1
      exact comeAgain_is gw ht h0 m _ _ (cm.step q t0 t1) (by simp; omega) (by rw [List.length_append, List.length_singleton, iter_succ, ← he])
open Classical in
theorem heldB_iff (gw : GoodWeb web many) (gr : GoodRs web many rs) {c : Int} {lead turn : List Int} (c0 : 0 ≤ c) (c1 : c < (web.length : Int)) (hl : Ltr many lead) (ht : Ltr many turn) : heldB web rs c lead turn = true ↔ HeldS web rs c lead turn := by
  obtain ⟨s0, s1⟩ := runW_in gw lead c hl c0 c1
  obtain ⟨N, p, p1, eN, ep⟩ := comeAgain_is gw ht (runW web c lead) (web.length + 1) [] (runW web c lead) ⟨.nil, by simp, s0, s1, by simp⟩ (by simp) rfl
  unfold heldB
  rw [decide_eq_true_iff]
  generalize comeAgain (fun c => runW web c turn) (web.length + 1) [] (runW web c lead) = R at eN ep
  have per : ∀ j, iter (fun c => runW web c turn) (p * j) R = R := fun j => by
    induction j with
    | zero => rfl
    | succ j ih => rw [show p * (j + 1) = p + p * j by rw [Nat.mul_add]; omega, iter_add, ep, ih]
  constructor
  · rintro ⟨k, k0, k1, kc, h⟩
    refine ⟨N, k, k0, k1, by rw [kc, eN], fun j => ?_⟩
    refine forever (fun k hk => runR_neg turn k hk) (S := (List.range rs.length).map fun (i : Nat) => (i : Int)) (fun x hx => ?_) (fun i hi => ?_) _
    · obtain ⟨i, _, rfl⟩ := List.mem_map.mp hx
      omega
    · rw [List.length_map, List.length_range] at hi
      have hp : 0 ≤ iter (fun k => runR rs k turn) i k := iter_le (fun k hk => runR_neg turn k hk) (by omega) h
      have h3 : iter (fun k => runR rs k turn) i k < (rs.length : Int) := by
        rw [← runR_rep] at hp ⊢
        refine (runR_ok gr _ k (fun x hx => ?_) k0 k1 hp).1
        obtain ⟨l, hl, hx⟩ := List.mem_flatten.mp hx
        rw [(List.mem_replicate.mp hl).2] at hx
        exact ht x hx
      exact List.mem_map.mpr ⟨(iter (fun k => runR rs k turn) i k).toNat, List.mem_range.mpr (by omega), by omega⟩
  · rintro ⟨n, k, k0, k1, kc, h⟩
    have hge : n ≤ N + p * n := Nat.le_trans (Nat.le_mul_of_pos_left n p1) (Nat.le_add_left _ _)
    obtain ⟨k', a0, a1, ac, al⟩ := heldS_from gr ht k0 k1 (N + p * n - n) n kc h
    refine ⟨k', a0, a1, ?_, al _⟩
    rw [ac, show n + (N + p * n - n) = N + p * n by omega, iter_add, ← eN, per]
theorem heldB_like (gw : GoodWeb web many) (gr : GoodRs web many rs) {c c' : Int} {lead turn lead' turn' : List Int} (c0 : 0 ≤ c) (c1 : c < (web.length : Int)) (hl : Ltr many lead) (ht : Ltr many turn) (d0 : 0 ≤ c') (d1 : c' < (web.length : Int)) (hl' : Ltr many lead') (ht' : Ltr many turn')
    (h : HeldS web rs c lead turn ↔ HeldS web rs c' lead' turn') : heldB web rs c lead turn = heldB web rs c' lead' turn' := by
  have e1 := heldB_iff gw gr c0 c1 hl ht
  have e2 := heldB_iff gw gr d0 d1 hl' ht'
  cases h1 : heldB web rs c lead turn <;> cases h2 : heldB web rs c' lead' turn' <;> simp_all
end
end L29

set_option Elab.async false
set_option linter.all false
set_option maxRecDepth 100000
set_option maxHeartbeats 4000000
namespace L29
open PySem PySem.Spec PyProof.Rows L2 DL
theorem cut_I {cs : List Int} {i : Int} (h0 : 0 ≤ i) (h : i ≤ (cs.length : Int)) : DL.cutD (dInts cs) none (some i) = dInts (cs.take i.toNat) ∧ DL.cutD (dInts cs) (some i) none = dInts (cs.drop i.toNat) := by
  have := cut_at (cs := cs) (k := i.toNat) (by omega)
  rw [show (0 : Int) + (i.toNat : Int) = i by omega] at this
  exact this
abbrev Wr := Int × List Int × List Int
abbrev dWr (r : Wr) : D := .tup [.int r.1, .list (dInts r.2.1), .list (dInts r.2.2)]
structure WrOk (web : List (List Int)) (many spot : Int) (lead turn : List Int) (r : Wr) : Prop where
  lo : 0 ≤ r.1
  hi : r.1 < (web.length : Int)
  l1 : Ltr many r.2.1
  l2 : Ltr many r.2.2
  n1 : r.2.1.length ≤ 400
  n2 : r.2.2.length ≤ 400
  eq : ∀ rs, GoodRs web many rs → heldB web rs r.1 r.2.1 r.2.2 = heldB web rs spot lead turn
theorem Ltr.app {many : Int} {a b : List Int} (h : Ltr many a) (h2 : Ltr many b) : Ltr many (a ++ b) := fun x hx => by
  rcases List.mem_append.mp hx with hx | hx
  · exact h x hx
  · exact h2 x hx
theorem Ltr.take {many : Int} {a : List Int} (h : Ltr many a) (n : Nat) : Ltr many (a.take n) := fun x hx => h x (List.mem_of_mem_take hx)
theorem Ltr.drop {many : Int} {a : List Int} (h : Ltr many a) (n : Nat) : Ltr many (a.drop n) := fun x hx => h x (List.mem_of_mem_drop hx)
theorem Ltr.rep {many : Int} {a : List Int} (h : Ltr many a) (n : Nat) : Ltr many (List.replicate n a).flatten := fun x hx => by
  obtain ⟨l, hl, hx⟩ := List.mem_flatten.mp hx
  rw [(List.mem_replicate.mp hl).2] at hx
  exact h x hx
theorem Ltr.nil {many : Int} : Ltr many [] := fun x hx => by simp at hx
def sp__law_writings : aSp := fun ds M Q => ∃ b web many spot lead turn, ds = [.ref b, dWeb web, .int spot, .list (dInts lead), .list (dInts turn)] ∧ GoodWeb web many ∧ 0 ≤ spot ∧ spot < (web.length : Int) ∧ Ltr many lead ∧ Ltr many turn ∧ lead.length ≤ 100 ∧ turn.length ≤ 100 ∧ Bag M b ∧
  ∀ ws : List Wr, ∀ c, (∀ r ∈ ws, WrOk web many spot lead turn r) → GoodBag c → Q (.list (ws.map dWr)) (mupd M b c)
section
variable {P : Program} {w : World} {K : PySem.W.Frag} {mg : Str → Option Value} {base : Heap} {a : Ad}
theorem ok__law_writings (T : TX K mg a) : FnOk P w K mg base CX0 2 a.f__law_writings a.fd__law_writings ["bag", "web", "spot", "lead", "turn"] (lift K 5 sp__law_writings) := by
  refine okD (k := 1) T.fn__law_writings sc__law_writings rfl fun cdv A outer s H E hr => ⟨_, _, (dss_cons (ds_set (j := 5) sc__law_writings.nd rfl (by first | exact .inl rfl | exact .inr rfl) (de_call (ok__law_draw T) (hr.mono (by decide)) (by rfl) T.mg__law_draw T.kp__law_draw T.bd__law_draw pass0 (da_cons (dv 0) (da_cons (de_add (de_callB call_lenA sl_len (by rfl) T.b_len (by decide +kernel) (da_cons (dv 4) da_nil)) de_int) da_nil))))
      (dss_cons (ds_set (j := 6) sc__law_writings.nd rfl (by first | exact .inl rfl | exact .inr rfl) (de_lstM (da_cons (de_tup (da_cons (dv 2) (da_cons (de_add (dv 3) (de_slice (dv 4) do_none (do_some (dv 5)))) (da_cons (de_add (de_slice (dv 4) (do_some (dv 5)) do_none) (de_slice (dv 4) do_none (do_some (dv 5)))) da_nil)))) (da_cons (de_tup (da_cons (dv 2) (da_cons (dv 3) (da_cons (de_add (dv 4) (dv 4)) da_nil)))) (da_cons (de_tup (da_cons (dv 2) (da_cons (de_add (dv 3) (dv 4)) (da_cons (de_mul (dv 4) de_int) da_nil)))) da_nil)))))
      (dss_cons (ds_expr (de_bm PySem.F.plainAttrs_list PySem.F.slot_list_append PySem.F.type_list_append mt_append sm_append (.inl rfl) (dv 6) (da_cons (de_tup (da_cons (de_call (ok__law_along T) (hr.mono (by decide)) (by rfl) T.mg__law_along T.kp__law_along T.bd__law_along pass0 (da_cons (dv 1) (da_cons (dv 2) (da_cons (dv 3) da_nil)))) (da_cons (de_lst da_nil) (da_cons (dv 4) da_nil)))) da_nil)))
      (dss_cons (ds_expr (de_bm PySem.F.plainAttrs_list PySem.F.slot_list_append PySem.F.type_list_append mt_append sm_append (.inl rfl) (dv 6) (da_cons (de_tup (da_cons (de_call (ok__law_along T) (hr.mono (by decide)) (by rfl) T.mg__law_along T.kp__law_along T.bd__law_along pass0 (da_cons (dv 1) (da_cons (dv 2) (da_cons (de_add (dv 3) (de_slice (dv 4) do_none (do_some (dv 5)))) da_nil)))) (da_cons (de_slice (dv 4) (do_some (dv 5)) do_none) (da_cons (dv 4) da_nil)))) da_nil)))
      (dss_one (ds_ret (dv 6))))))), fun ds M Q hl h => ?_⟩
  obtain ⟨b, web, many, spot, lead, turn, rfl, gw, s0, s1, hle, ht, hll, htl, hb, q⟩ := h
  have gwl := gw.le
  walk_at "start"
  walk_at "go"
  refine draw_go (.refl hb) (by simp only [List.length_map]; omega) (by simp only [List.length_map]; omega) (fun cut c2 i0 i1 g2 k2 => ?_)
  simp only [List.length_map] at i1
  obtain ⟨e1, e2⟩ := cut_I (cs := turn) i0 (by omega)
  walk_at "go"
  · rw [e1]; simp only [List.length_map, List.length_take]; omega
  rw [e1]
  walk_at "go"
  · rw [e1, e2]; simp only [List.length_map, List.length_take, List.length_drop]; omega
  rw [e1, e2]
  walk_at "go"
  · rw [List.length_map]; show turn.length * 3 ≤ _; omega
  walk_at "go"
  intro pf hpf
  rw [rep_flat]
  simp only [← List.map_append]
  have kf := k2.fresh hpf
  have nf := k2.ne hpf
  have hcut : turn.take cut.toNat ++ turn.drop cut.toNat = turn := List.take_append_drop _ _
  obtain ⟨a0, a1⟩ := runW_in gw lead spot hle s0 s1
  obtain ⟨b0, b1⟩ := runW_in gw (lead ++ turn.take cut.toNat) spot (hle.app (ht.take _)) s0 s1
  walk_at "goS"
  refine ⟨web, many, spot, lead, _, rfl, rfl, gw, s0, s1, hle, ?_⟩
  walk_at "goS"
  · rw [e1]; simp only [List.length_map, List.length_take]; omega
  rw [e1, ← List.map_append]
  walk_at "goS"
  refine ⟨web, many, spot, _, _, rfl, rfl, gw, s0, s1, hle.app (ht.take _), ?_⟩
  walk_at "goS"
  rw [e2]
  simp only [mupd_mupd]
  refine Fin.list mupd_same kf (fun x d e => ?_) (q [(spot, lead ++ turn.take cut.toNat, turn.drop cut.toNat ++ turn.take cut.toNat), (spot, lead, turn ++ turn), (spot, lead ++ turn, (List.replicate (Int.toNat 3) turn).flatten), (runW web spot lead, [], turn), (runW web spot (lead ++ turn.take cut.toNat), turn.drop cut.toNat, turn)] c2 (fun r hr => ?_) g2)
  · have hx : x ≠ pf := fun z => by subst z; rw [hpf] at e; cases e
    rw [mdel_ne hx, mupd_ne hx]
    exact e
  · simp only [List.mem_cons, List.not_mem_nil, or_false] at hr
    rcases hr with rfl | rfl | rfl | rfl | rfl
    · refine ⟨s0, s1, hle.app (ht.take _), (ht.drop _).app (ht.take _), by simp; omega, by simp; omega, fun rs gr => heldB_like gw gr s0 s1 (hle.app (ht.take _)) ((ht.drop _).app (ht.take _)) s0 s1 hle ht ?_⟩
      rw [heldS_rot gr (ht.take _) (ht.drop _), hcut]
    · have e3 : turn ++ turn = (List.replicate 2 turn).flatten := by simp [List.replicate]
      refine ⟨s0, s1, hle, ht.app ht, by simp; omega, by simp; omega, fun rs gr => heldB_like gw gr s0 s1 hle (ht.app ht) s0 s1 hle ht ?_⟩
      show HeldS web rs spot lead (turn ++ turn) ↔ _
      rw [e3, heldS_rep gr ht (by decide)]
    · refine ⟨s0, s1, hle.app ht, ht.rep _, by simp; omega, by simp [List.replicate]; omega, fun rs gr => heldB_like gw gr s0 s1 (hle.app ht) (ht.rep _) s0 s1 hle ht ?_⟩
      show HeldS web rs spot (lead ++ turn) (List.replicate 3 turn).flatten ↔ _
      rw [heldS_rep gr ht (by decide), heldS_lead gr ht]
    · refine ⟨a0, a1, .nil, ht, by simp, by show turn.length ≤ 400; omega, fun rs gr => heldB_like gw gr a0 a1 .nil ht s0 s1 hle ht ?_⟩
      show HeldS web rs (runW web spot lead) [] turn ↔ _
      rw [heldS_cls, List.append_nil]
    · refine ⟨b0, b1, ht.drop _, ht, by simp; omega, by show turn.length ≤ 400; omega, fun rs gr => heldB_like gw gr b0 b1 (ht.drop _) ht s0 s1 hle ht ?_⟩
      show HeldS web rs (runW web spot (lead ++ turn.take cut.toNat)) (turn.drop cut.toNat) turn ↔ _
      rw [heldS_cls, List.append_assoc, hcut, heldS_lead gr ht]
end
end L29

set_option Elab.async false
set_option linter.all false
set_option maxRecDepth 100000
set_option maxHeartbeats 4000000
namespace L29
open PySem PySem.Spec PyProof.Rows L2 DL
def sp__law_ring : aSp := fun ds M Q => ∃ b web many, ds = [.ref b, dWeb web, .int many] ∧ GoodWeb web many ∧ Bag M b ∧
  ∀ cells : List Rm, ∀ c, cells.length ≤ 6 → GoodRs web many cells → GoodBag c → Q (.list (dRooms cells)) (mupd M b c)
def ringSpots (web : List (List Int)) (path : List Int) (n : Nat) : List Int := (List.range n).map fun j => runW web 0 (path.take j)
theorem ringSpots_at {web : List (List Int)} {path : List Int} {n j : Nat} (h : j < n) : (ringSpots web path n).getD j 0 = runW web 0 (path.take j) := by
  unfold ringSpots
  rw [List.getD_eq_getElem?_getD, List.getElem?_map, List.getElem?_range h]
  rfl
theorem ringSpots_len {web : List (List Int)} {path : List Int} {n : Nat} : (ringSpots web path n).length = n := by simp [ringSpots]
theorem ringSpots_succ {web : List (List Int)} {path : List Int} {n : Nat} : ringSpots web path (n + 1) = ringSpots web path n ++ [runW web 0 (path.take n)] := by simp [ringSpots, List.range_succ]
/-- one step alone -/
theorem one_step {web : List (List Int)} {spots : List Int} {sp : Int} {m : Nat} {y v : Int} (y0 : 0 ≤ y) (hv : 0 ≤ v → v < (spots.length : Int) ∧ spots.getD v.toNat 0 = stepW web sp y) : Tgt web spots sp ((List.replicate m (-1)).set y.toNat v) := fun x t hx ht => by
  by_cases q : y.toNat = x
  · subst q
    rw [List.getElem?_set_self'] at hx
    obtain ⟨_, _, e⟩ := Option.map_eq_some_iff.mp hx
    have e : v = t := e
    subst e
    obtain ⟨h1, h2⟩ := hv ht
    exact ⟨h1, by rw [h2]; congr 1; omega⟩
  · rw [List.getElem?_set_ne q, List.getElem?_replicate] at hx
    split at hx
    · cases hx; omega
    · cases hx
theorem rep_one {n : Nat} {k : Int} : (List.replicate n [D.int k]).flatten = dInts (List.replicate n k) := by
  induction n with
  | zero => rfl
  | succ n ih => rw [List.replicate_succ, List.flatten_cons, ih, List.replicate_succ]; rfl
section
variable {P : Program} {w : World} {K : PySem.W.Frag} {mg : Str → Option Value} {base : Heap} {a : Ad}
theorem ok__law_ring (T : TX K mg a) : FnOk P w K mg base CX0 2 a.f__law_ring a.fd__law_ring ["bag", "web", "many"] (lift K 3 sp__law_ring) := by
  refine okD (k := 1) T.fn__law_ring sc__law_ring rfl fun cdv A outer s H E hr => ⟨_, _, (dss_cons (ds_par3 (i := 3) (j := 4) (l := 5) sc__law_ring.nd rfl rfl rfl (da_cons (de_lc (own := [("x", 8)]) rfl sc__law_ring.nd (di_range1 (by rfl) T.b_range (da_cons (de_add de_int (de_call (ok__law_draw T) (hr.mono (by decide)) (by rfl) T.mg__law_draw T.kp__law_draw T.bd__law_draw pass0 (da_cons (dv 0) (da_cons de_int da_nil)))) da_nil)) (blkOk_by (by rfl)) (fun _ _ _ _ _ => (dg_name (j := 8) sc__law_ring.nd rfl (by first | exact .inl rfl | exact .inr rfl))) (fun _ _ _ _ _ => dts_nil) (fun _ _ _ _ _ => (de_call (ok__law_draw T) (hr.mono (by decide)) (by rfl) T.mg__law_draw T.kp__law_draw T.bd__law_draw pass0 (da_cons (dv 0) (da_cons (dv 2) da_nil)))) om_name) (da_cons de_int (da_cons (de_lstM da_nil) da_nil))))
      (dss_cons (ds_for (di_range1 (by rfl) T.b_range (da_cons (de_callB call_lenA sl_len (by rfl) T.b_len (by decide +kernel) (da_cons (dv 3) da_nil)) da_nil)) (dg_name (j := 6) sc__law_ring.nd rfl (by first | exact .inl rfl | exact .inr rfl)) (dss_cons (ds_set (j := 7) sc__law_ring.nd rfl (by first | exact .inl rfl | exact .inr rfl) (de_mulM (de_lst (da_cons (de_neg de_int) da_nil)) (dv 2)))
      (dss_cons (ds_asg (de_ifExp (dt_cmp op_lt s2_lt (de_add (dv 6) de_int) (de_callB call_lenA sl_len (by rfl) T.b_len (by decide +kernel) (da_cons (dv 3) da_nil)) (nomark _)) (de_add (dv 6) de_int) (de_ifExp (dt_cmp (op_eqD hr.units) s2_eq (de_call (ok__law_along T) (hr.mono (by decide)) (by rfl) T.mg__law_along T.kp__law_along T.bd__law_along pass0 (da_cons (dv 1) (da_cons de_int (da_cons (dv 3) da_nil)))) de_int (nomark _)) de_int (de_neg de_int))) (dg_subL (dv 7) (de_ix (hu_of hr) (dv 3) (dv 6) (fun _ _ => rfl))))
      (dss_cons (ds_expr (de_bm PySem.F.plainAttrs_list PySem.F.slot_list_append PySem.F.type_list_append mt_append sm_append (.inl rfl) (dv 5) (da_cons (de_tup (da_cons (dv 4) (da_cons (de_callTy call_tuple_of sl_tuple (by rfl) T.b_tuple (by decide +kernel) (da_cons (dv 7) da_nil)) da_nil))) da_nil)))
      (dss_one (ds_set (j := 4) sc__law_ring.nd rfl (by first | exact .inl rfl | exact .inr rfl) (de_ix (hu_of hr) (de_ix (hu_of hr) (dv 1) (dv 4) (fun _ _ => rfl)) (de_ix (hu_of hr) (dv 3) (dv 6) (fun _ _ => rfl)) (fun _ _ => rfl))))))) PassesOwn.never)
      (dss_one (ds_ret (dv 5))))), fun ds M Q hl h => ?_⟩
  obtain ⟨b, web, many, rfl, gw, hb, q⟩ := h
  have gwl := gw.le
  have gm := gw.pos
  have gm2 := gw.le2
  have gn : 0 < web.length := List.length_pos_iff.mpr gw.ne
  walk_at "start"
  walk_at "go"
  refine draw_go (.refl hb) (by decide) (by decide) (fun n c i0 i1 hc k1 => ?_)
  walk_at "go"
  refine go_lcI (Dr M b many) (Dr.nil k1) (fun i d acc M' KY KN hd hI hY hN => ?_) (fun acc M' hI => ?_)
  · walk_at "go"
    exact draw_go hI.kp gm (by omega) (fun x c2 x0 x1 g _ => hY _ _ (hI.snoc x0 x1 g))
  obtain ⟨path, rfl, hl, hlt, k2⟩ := hI
  rw [length_rng] at hl
  walk_at "go"
  intro pf hpf
  have kf := k2.fresh hpf
  have nf := k2.ne hpf
  have hn0 : 0 < path.length := by omega
  walk_at "go"
  refine go_seqK (J := fun G' M' => ∃ (x4 x6 x7 : Option D), G' = [some (.ref b), some (dWeb web), some (.int many), some (.list (dInts path)), x4, some (.ref pf), x6, x7, none] ∧ Kp M b M' ∧
    ∃ cells : List Rm, cells.map (·.1) = ringSpots web path path.length ∧ (∀ r ∈ cells, GoodR web many (ringSpots web path path.length) r) ∧ M' pf = some (.lst (dRooms cells))) (fun nx hk => ?_) (fun G' M' hJ => ?_)
  · walk_at "go"
    refine go_forI (fun i G' M' => ∃ (x6 x7 : Option D), G' = [some (.ref b), some (dWeb web), some (.int many), some (.list (dInts path)), some (.int (runW web 0 (path.take i))), some (.ref pf), x6, x7, none] ∧ Kp M b M' ∧
      ∃ cells : List Rm, cells.map (·.1) = ringSpots web path i ∧ (∀ r ∈ cells, GoodR web many (ringSpots web path path.length) r) ∧ M' pf = some (.lst (dRooms cells))) ⟨_, _, rfl, k2.new hpf, [], rfl, by simp, mupd_same⟩ (fun i d G' M' nx' hd hI hn => ?_) (fun G' M' hI => ?_)
    · obtain ⟨x6, x7, rfl, kk, cells, hc1, hc2, hc3⟩ := hI
      obtain ⟨hlt2, rfl⟩ := rng_get hd
      simp only [List.length_map, Int.toNat_natCast] at hlt2
      obtain ⟨y, hy, hym, ey⟩ := int_at (cs := path) (i := 0 + (i : Int)) (by omega) (by omega)
      obtain ⟨y0, y1⟩ := hlt y hym
      have hy' : path[i]? = some y := by simpa using hy
      have step : runW web 0 (path.take (i + 1)) = stepW web (runW web 0 (path.take i)) y := by
        rw [List.take_add_one, hy', runW_app]
        rfl
      obtain ⟨i0', i1'⟩ := runW_in gw (path.take i) 0 (fun z hz => hlt z (List.mem_of_mem_take hz)) (by omega) (by omega)
      obtain ⟨r, er, et⟩ := atStep gw i0' i1' y0 y1
      walk_at "goS"
      intro pr hpr
      rw [rep_one]
      have kr := kk.fresh hpr
      have nr := kk.ne hpr
      have npf : pr ≠ pf := Ne.symm (mne hc3 hpr)
      walk_at "go1"
      walk_at "go1"
      refine go_seqK (J := fun G' M2 => ∃ v : Int, G' = [some (.ref b), some (dWeb web), some (.int many), some (.list (dInts path)), some (.int (runW web 0 (path.take i))), some (.ref pf), some (.int (0 + (i : Int))), some (.ref pr), none] ∧ Kp M b M2 ∧ M2 pf = some (.lst (dRooms cells)) ∧
        M2 pr = some (.lst (dInts ((List.replicate many.toNat (-1)).set y.toNat v))) ∧ (0 ≤ v → v < (path.length : Int) ∧ (ringSpots web path path.length).getD v.toNat 0 = stepW web (runW web 0 (path.take i)) y)) (fun nx2 hk2 => ?_) (fun G' M2 hJ => ?_)
      · have fin : ∀ v : Int, (0 ≤ v → v < (path.length : Int) ∧ (ringSpots web path path.length).getD v.toNat 0 = stepW web (runW web 0 (path.take i)) y) →
            nx2 [some (.ref b), some (dWeb web), some (.int many), some (.list (dInts path)), some (.int (runW web 0 (path.take i))), some (.ref pf), some (.int (0 + (i : Int))), some (.ref pr), none] (mupd (mupd M' pr (MC.lst (dInts (List.replicate many.toNat (-1))))) pr (MC.lst ((dInts (List.replicate many.toNat (-1))).set y.toNat (.int v)))) := fun v hv => by
          rw [mupd_mupd]
          exact hk2 _ _ ⟨v, rfl, kk.mut kr nr, by rw [mupd_ne (Ne.symm npf)]; exact hc3, by rw [mupd_same, dInts, dInts, List.map_set], hv⟩
        have hix : ixN (dInts (List.replicate many.toNat (-1))).length y = some y.toNat := ixN_nn y0 (by rw [List.length_map, List.length_replicate]; omega)
        walk_at "go"
        refine go_ite (fun e => ?_) (fun e => ?_)
        · have e := of_decide_eq_true e
          simp only [List.length_map] at e
          walk_at "go"
          · exact hix
          exact fin (0 + (i : Int) + 1) (fun _ => ⟨e, by rw [show (0 + (i : Int) + 1).toNat = i + 1 by omega, ringSpots_at (by omega), step]⟩)
        · have e := of_decide_eq_false e
          simp only [List.length_map] at e
          walk_at "go"
          refine ⟨web, many, 0, path, _, rfl, rfl, gw, by omega, by omega, hlt, ?_⟩
          walk_at "go"
          refine go_ite (fun e2 => ?_) (fun e2 => ?_)
          · have e2 : runW web 0 path = 0 := by simpa using e2
            walk_at "go"
            · exact hix
            refine fin 0 (fun _ => ⟨by omega, ?_⟩)
            rw [← step, show i + 1 = path.length by omega, List.take_length, e2]
            exact ringSpots_at hn0
          · walk_at "go"
            · exact hix
            exact fin (-1) (fun h => absurd h (by decide))
      · obtain ⟨v, rfl, k3, c1, c2, hv⟩ := hJ
        have hcl : cells.length ≤ 100 := by
          have := congrArg List.length hc1
          rw [List.length_map, ringSpots_len] at this
          omega
        walk_at "goS"
        rw [show (dRooms cells ++ [D.tup [D.int (runW web 0 (path.take i)), if isLM (D.ref pr) = true then D.tup (dInts ((List.replicate many.toNat (-1)).set y.toNat v)) else D.ref pr]]) = dRooms (cells ++ [(runW web 0 (path.take i), (List.replicate many.toNat (-1)).set y.toNat v)]) by simp [dRooms, isLM]]
        refine hn _ _ ⟨_, _, by rw [step], k3.mut kf nf, cells ++ [(runW web 0 (path.take i), (List.replicate many.toNat (-1)).set y.toNat v)], ?_, fun r hr => ?_, mupd_same⟩
        · rw [List.map_append, hc1, ringSpots_succ]
          rfl
        · rcases List.mem_append.mp hr with hr | hr
          · exact hc2 r hr
          · rcases List.mem_singleton.mp hr with rfl
            exact ⟨i0', i1', by simp; omega, one_step y0 (by rw [ringSpots_len]; exact hv)⟩
    · obtain ⟨x6, x7, rfl, kk, cells, hc1, hc2, hc3⟩ := hI
      rw [length_rng] at hc1
      simp only [List.length_map, Int.toNat_natCast] at hc1
      exact hk _ _ ⟨_, _, _, rfl, kk, cells, hc1, hc2, hc3⟩
  · obtain ⟨x4, x6, x7, rfl, kk, cells, hc1, hc2, hc3⟩ := hJ
    walk_at "go"
    obtain ⟨c', g1, g2⟩ := kk.subL (L := [pf]) (fun p hp => by rcases List.mem_singleton.mp hp with rfl; exact ⟨kf, nf⟩)
    have hlc := congrArg List.length hc1
    rw [List.length_map, ringSpots_len] at hlc
    exact Fin.list hc3 kf g2 (q cells c' (by omega) (by unfold GoodRs; rw [hc1]; exact hc2) g1)
end
end L29

set_option Elab.async false
set_option linter.all false
set_option maxRecDepth 100000
set_option maxHeartbeats 4000000
namespace L29
open PySem PySem.Spec PyProof.Rows L2 DL
def sp__law_asked (a : Ad) : aSp := fun ds M Q => ∃ b web many cells lead turn, ds = [.ref b, dWeb web, dBook a web cells, .list (dRooms cells), .list (dInts lead), .list (dInts turn)] ∧ GoodWeb web many ∧ GoodRs web many cells ∧ cells.length ≤ 100 ∧ Ltr many lead ∧ Ltr many turn ∧ lead.length ≤ 100 ∧ turn.length ≤ 100 ∧ Bag M b ∧
  ∀ c, GoodBag c → Q (.bl true) (mupd M b c)
section
variable {P : Program} {w : World} {K : PySem.W.Frag} {mg : Str → Option Value} {base : Heap} {a : Ad}
theorem ok__law_asked (T : TX K mg a) : FnOk P w K mg base CX0 7 a.f__law_asked a.fd__law_asked ["bag", "web", "tome", "cells", "lead", "turn"] (lift K 6 (sp__law_asked a)) := by
  refine okD (k := 6) T.fn__law_asked sc__law_asked rfl fun cdv A outer s H E hr => ⟨_, _, (dss_cons (ds_for (di_range1 (by rfl) T.b_range (da_cons (de_callB call_lenA sl_len (by rfl) T.b_len (by decide +kernel) (da_cons (dv 1) da_nil)) da_nil)) (dg_name (j := 6) sc__law_asked.nd rfl (by first | exact .inl rfl | exact .inr rfl)) (dss_cons (ds_set (j := 7) sc__law_asked.nd rfl (by first | exact .inl rfl | exact .inr rfl) (de_call (ok__law_held T) (hr.mono (by decide)) (by rfl) T.mg__law_held T.kp__law_held T.bd__law_held pass0 (da_cons (dv 1) (da_cons (dv 3) (da_cons (dv 6) (da_cons (dv 4) (da_cons (dv 5) da_nil)))))))
      (dss_one (ds_if (dt_not (dt_tru (de_call (ok__law_like T 6) (hr.mono (by decide)) (by rfl) T.mg__law_like T.kp__law_like T.bd__law_like pass0 (da_cons (de_call (ok_is_held T) (hr.mono (by decide)) (by rfl) T.mg_is_held T.kp_is_held T.bd_is_held pass0 (da_cons (dv 2) (da_cons (dv 6) (da_cons (dv 4) (da_cons (dv 5) da_nil))))) (da_cons (dv 7) da_nil))))) (dss_one (ds_ret de_bl)) dss_nil))) PassesOwn.never)
      (dss_cons (ds_set (j := 6) sc__law_asked.nd rfl (by first | exact .inl rfl | exact .inr rfl) (de_call (ok__law_draw T) (hr.mono (by decide)) (by rfl) T.mg__law_draw T.kp__law_draw T.bd__law_draw pass0 (da_cons (dv 0) (da_cons (de_callB call_lenA sl_len (by rfl) T.b_len (by decide +kernel) (da_cons (dv 1) da_nil)) da_nil))))
      (dss_cons (ds_set (j := 7) sc__law_asked.nd rfl (by first | exact .inl rfl | exact .inr rfl) (de_call (ok__law_held T) (hr.mono (by decide)) (by rfl) T.mg__law_held T.kp__law_held T.bd__law_held pass0 (da_cons (dv 1) (da_cons (dv 3) (da_cons (dv 6) (da_cons (dv 4) (da_cons (dv 5) da_nil)))))))
      (dss_cons (ds_for (di_seq (de_call (ok__law_writings T) (hr.mono (by decide)) (by rfl) T.mg__law_writings T.kp__law_writings T.bd__law_writings pass0 (da_cons (dv 0) (da_cons (dv 1) (da_cons (dv 6) (da_cons (dv 4) (da_cons (dv 5) da_nil))))))) (dg_tup (dgs_cons (dg_name (j := 8) sc__law_asked.nd rfl (by first | exact .inl rfl | exact .inr rfl)) (dgs_cons (dg_name (j := 9) sc__law_asked.nd rfl (by first | exact .inl rfl | exact .inr rfl)) (dgs_cons (dg_name (j := 10) sc__law_asked.nd rfl (by first | exact .inl rfl | exact .inr rfl)) dgs_nil)))) (dss_cons (ds_set (j := 11) sc__law_asked.nd rfl (by first | exact .inl rfl | exact .inr rfl) (de_lst (da_cons (de_callTy call_list_of sl_list (by rfl) T.b_list (by decide +kernel) (da_cons (dv 9) da_nil)) (da_cons (de_callTy call_list_of sl_list (by rfl) T.b_list (by decide +kernel) (da_cons (dv 10) da_nil)) da_nil))))
      (dss_cons (ds_if (DW.dt (dw_or (dt_cmp (op_neD hr.units) s2_ne (de_call (ok__law_held T) (hr.mono (by decide)) (by rfl) T.mg__law_held T.kp__law_held T.bd__law_held pass0 (da_cons (dv 1) (da_cons (dv 3) (da_cons (dv 8) (da_cons (dv 9) (da_cons (dv 10) da_nil)))))) (dv 7) (nomark _)) (dw_or1 (dt_not (dt_tru (de_call (ok__law_like T 6) (hr.mono (by decide)) (by rfl) T.mg__law_like T.kp__law_like T.bd__law_like pass0 (da_cons (de_call (ok_is_held T) (hr.mono (by decide)) (by rfl) T.mg_is_held T.kp_is_held T.bd_is_held pass0 (da_cons (dv 2) (da_cons (dv 8) (da_cons (dv 9) (da_cons (dv 10) da_nil))))) (da_cons (dv 7) da_nil)))))))) (dss_one (ds_ret de_bl)) dss_nil)
      (dss_one (ds_if (dt_cmp (op_neD hr.units) s2_ne (de_lst (da_cons (dv 9) (da_cons (dv 10) da_nil))) (dv 11) (nomark _)) (dss_one (ds_ret de_bl)) dss_nil)))) PassesOwn.never)
      (dss_one (ds_ret (de_call (ok__law_like T 6) (hr.mono (by decide)) (by rfl) T.mg__law_like T.kp__law_like T.bd__law_like pass0 (da_cons (de_callK0 (kr_is_held_k_0_period_beginning_at_class_book) (ok_is_held T) (hr.mono (by decide)) (by rfl) T.mg_is_held T.kp_is_held T.kb_is_held_k_0_period_beginning_at_class_book pass0 (dk_cons (dv 5) (dk_cons (de_callTy call_tuple_of sl_tuple (by rfl) T.b_tuple (by decide +kernel) (da_cons (dv 4) da_nil)) (dk_cons (dv 6) (dk_cons (dv 2) dk_nil))))) (da_cons (dv 7) da_nil))))))))), fun ds M Q hl h => ?_⟩
  obtain ⟨b, web, many, cells, lead, turn, rfl, gw, gr, hcl, hle, ht, hll, htl, hb, q⟩ := h
  have gwl := gw.le
  have gn : 0 < web.length := List.length_pos_iff.mpr gw.ne
  walk_at "start"
  walk_at "go"
  refine go_seqK (J := fun G' M' => ∃ (x6 x7 : Option D), G' = [some (.ref b), some (dWeb web), some (dBook a web cells), some (.list (dRooms cells)), some (.list (dInts lead)), some (.list (dInts turn)), x6, x7, none, none, none, none] ∧ M = M') (fun nx hk => ?_) (fun G' M' hJ => ?_)
  · walk_at "go"
    refine go_forI (fun i G' M' => ∃ (x6 x7 : Option D), G' = [some (.ref b), some (dWeb web), some (dBook a web cells), some (.list (dRooms cells)), some (.list (dInts lead)), some (.list (dInts turn)), x6, x7, none, none, none, none] ∧ M = M') ⟨_, _, rfl, rfl⟩ (fun i d G' M' nx' hd hI hn => ?_) (fun G' M' hI => hk _ _ hI)
    obtain ⟨x6, x7, rfl, rfl⟩ := hI
    obtain ⟨hlt, rfl⟩ := rng_get hd
    simp only [List.length_map] at hlt
    walk_at "go"
    refine ⟨web, many, cells, _, lead, turn, _, rfl, rfl, gw, gr, hcl, by omega, by omega, hle, ht, by omega, ?_⟩
    walk_at "go"
    refine ⟨web, many, cells, _, lead, turn, _, rfl, rfl, gw, gr, hcl, by omega, by omega, hle, ht, by omega, ?_⟩
    walk_at "go"
    refine ⟨_, _, rfl, rfl, rfl, ?_⟩
    rw [like_same 5 (.bl _) rfl]
    walk_at "go"
    exact hn _ _ ⟨_, _, rfl, rfl⟩
  obtain ⟨x6, x7, rfl, rfl⟩ := hJ
  walk_at "go"
  refine draw_go (.refl hb) (by simp only [List.length_map]; omega) (by simp only [List.length_map]; omega) (fun spot c2 s0 s1 g2 k2 => ?_)
  simp only [List.length_map] at s1
  walk_at "goS"
  refine ⟨web, many, cells, _, lead, turn, _, rfl, rfl, gw, gr, hcl, s0, s1, hle, ht, by omega, ?_⟩
  walk_at "go"
  refine go_seqK (J := fun G' M' => ∃ (x8 x9 x10 x11 : Option D), G' = [some (.ref b), some (dWeb web), some (dBook a web cells), some (.list (dRooms cells)), some (.list (dInts lead)), some (.list (dInts turn)), some (.int spot), some (.bl (heldB web cells spot lead turn)), x8, x9, x10, x11] ∧ Kp M b M') (fun nx hk => ?_) (fun G' M' hJ => ?_)
  · walk_at "go"
    refine ⟨b, web, many, spot, lead, turn, rfl, gw, s0, s1, hle, ht, hll, htl, k2.bag, fun ws c3 hws g3 => ?_⟩
    walk_at "go"
    refine go_forI (fun i G' M' => ∃ (x8 x9 x10 x11 : Option D), G' = [some (.ref b), some (dWeb web), some (dBook a web cells), some (.list (dRooms cells)), some (.list (dInts lead)), some (.list (dInts turn)), some (.int spot), some (.bl (heldB web cells spot lead turn)), x8, x9, x10, x11] ∧ Kp M b M') ⟨_, _, _, _, rfl, k2.draw g3⟩ (fun i d G' M' nx' hd hI hn => ?_) (fun G' M' hI => hk _ _ hI)
    obtain ⟨x8, x9, x10, x11, rfl, k4⟩ := hI
    rw [List.getElem?_map] at hd
    obtain ⟨wr, hwr, rfl⟩ := Option.map_eq_some_iff.mp hd
    have ok := hws wr (List.mem_of_getElem? hwr)
    have on1 := ok.n1
    have on2 := ok.n2
    walk_at "goS"
    refine ⟨web, many, cells, _, wr.2.1, wr.2.2, _, rfl, rfl, gw, gr, hcl, ok.lo, ok.hi, ok.l1, ok.l2, by omega, ?_⟩
    rw [ok.eq cells gr]
    walk_at "goS"
    rw [show (!(heldB web cells spot lead turn == heldB web cells spot lead turn)) = false by simp]
    walk_at "goS"
    refine ⟨web, many, cells, _, wr.2.1, wr.2.2, _, rfl, rfl, gw, gr, hcl, ok.lo, ok.hi, ok.l1, ok.l2, by omega, ?_⟩
    rw [ok.eq cells gr]
    walk_at "goS"
    refine ⟨_, _, rfl, rfl, rfl, ?_⟩
    rw [like_same 5 (.bl _) rfl]
    walk_at "goS"
    refine go_neSame rfl (by simp [eqOk, eqOks, eqOks_ints]) ?_
    walk_at "goS"
    exact hn _ _ ⟨_, _, _, _, rfl, k4⟩
  obtain ⟨x8, x9, x10, x11, rfl, k4⟩ := hJ
  walk_at "goS"
  refine ⟨web, many, cells, spot, lead, turn, _, rfl, rfl, gw, gr, hcl, s0, s1, hle, ht, by omega, ?_⟩
  walk_at "goS"
  refine ⟨_, _, rfl, rfl, rfl, ?_⟩
  rw [like_same 5 (.bl _) rfl]
  walk_at "goS"
  obtain ⟨c, g1, g2⟩ := k4.sub
  exact DL.Fin.sub g2 (q c g1)
end
end L29

set_option Elab.async false
set_option linter.all false
set_option maxRecDepth 100000
set_option maxHeartbeats 4000000
namespace L29
open PySem PySem.Spec PyProof.Rows L2 DL
def sp_law : aSp := fun ds M Q => ∃ ns : List Int, ds = [.rol (ns.map .int)] ∧ ns.length ≤ 63 ∧ Q (.bl true) M
theorem mdel_new {M : Mp} {x : Addr} {c : MC} (h : M x = none) : mdel (mupd M x c) x = M := by
  funext y
  by_cases q : y = x
  · subst q; rw [mdel_same, h]
  · rw [mdel_ne q, mupd_ne q]
theorem plains_of {k : Nat} : ∀ {ds : List D}, (∀ d ∈ ds, plainN k d = true) → plainsN k ds = true
  | [], _ => rfl
  | d :: ds, h => by
    simp only [plainsN, Bool.and_eq_true]
    exact ⟨h d (by simp), plains_of fun e he => h e (by simp [he])⟩
theorem plain_rooms {k : Nat} {rs : List Rm} (h : ∀ r ∈ rs, (r.2.length : Int) ≤ 1000) : plainsN (k + 2) (dRooms rs) = true := plains_of fun d hd => by
  obtain ⟨r, hr, rfl⟩ := List.mem_map.mp hd
  have hi : plainsN k (dInts r.2) = true := plains_of fun d hd => by
    obtain ⟨t, _, rfl⟩ := List.mem_map.mp hd
    simp [plainN]
  have := h r hr
  have hl : (dInts r.2).length ≤ 1000000 := by rw [List.length_map]; omega
  simp only [plainN, plainsN, List.length_cons, List.length_nil, hi, hl, decide_true, Bool.and_true, Bool.true_and]
  rfl
section
variable {P : Program} {w : World} {K : PySem.W.Frag} {mg : Str → Option Value} {base : Heap} {a : Ad}
theorem ok_law (T : TX K mg a) : FnOk P w K mg base CX0 8 a.f_law a.fd_law ["script"] (lift K 1 sp_law) := by
  refine okD (k := 7) T.fn_law sc_law rfl fun cdv A outer s H E hr => ⟨_, _, (dss_cons (ds_set (j := 1) sc_law.nd rfl (by first | exact .inl rfl | exact .inr rfl) (de_call (ok__law_bag T) (hr.mono (by decide)) (by rfl) T.mg__law_bag T.kp__law_bag T.bd__law_bag pass0 (da_cons (dv 0) da_nil)))
      (dss_cons (ds_set (j := 2) sc_law.nd rfl (by first | exact .inl rfl | exact .inr rfl) (de_call (ok__law_of T) (hr.mono (by decide)) (by rfl) T.mg__law_of T.kp__law_of T.bd__law_of pass0 (da_cons (dv 1) (da_cons (de_lst (da_cons de_int (da_cons de_int (da_cons de_int (da_cons de_int (da_cons de_int (da_cons de_int da_nil))))))) da_nil))))
      (dss_cons (ds_set (j := 3) sc_law.nd rfl (by first | exact .inl rfl | exact .inr rfl) (de_call (ok__law_class_web T) (hr.mono (by decide)) (by rfl) T.mg__law_class_web T.kp__law_class_web T.bd__law_class_web pass0 (da_cons (dv 1) (da_cons (dv 2) da_nil))))
      (dss_cons (ds_for (di_seq (de_lst (da_cons (de_call (ok__law_cells T) (hr.mono (by decide)) (by rfl) T.mg__law_cells T.kp__law_cells T.bd__law_cells pass0 (da_cons (dv 1) (da_cons (dv 3) (da_cons (de_call (ok__law_of T) (hr.mono (by decide)) (by rfl) T.mg__law_of T.kp__law_of T.bd__law_of pass0 (da_cons (dv 1) (da_cons (de_lst (da_cons de_int (da_cons de_int (da_cons de_int (da_cons de_int (da_cons de_int (da_cons de_int (da_cons de_int da_nil)))))))) da_nil))) da_nil)))) (da_cons (de_call (ok__law_ring T) (hr.mono (by decide)) (by rfl) T.mg__law_ring T.kp__law_ring T.bd__law_ring pass0 (da_cons (dv 1) (da_cons (dv 3) (da_cons (dv 2) da_nil)))) da_nil)))) (dg_name (j := 4) sc_law.nd rfl (by first | exact .inl rfl | exact .inr rfl)) (dss_cons (ds_set (j := 5) sc_law.nd rfl (by first | exact .inl rfl | exact .inr rfl) (de_make T.mk_RoomBook (ok_RoomBook___init__ T) (hr.mono (by decide)) (by rfl) T.mg_RoomBook T.bd_RoomBook___init__ pass0 (da_cons (dv 3) (da_cons (dv 4) da_nil))))
      (dss_cons (ds_for (di_seq (de_slice3 (de_call (ok__law_rows T) (hr.mono (by decide)) (by rfl) T.mg__law_rows T.kp__law_rows T.bd__law_rows pass0 (da_cons (dv 1) (da_cons (dv 2) (da_cons de_int da_nil)))) (do_some (de_call (ok__law_draw T) (hr.mono (by decide)) (by rfl) T.mg__law_draw T.kp__law_draw T.bd__law_draw pass0 (da_cons (dv 1) (da_cons de_int da_nil)))) do_none (do_some de_int))) (dg_tup (dgs_cons (dg_name (j := 6) sc_law.nd rfl (by first | exact .inl rfl | exact .inr rfl)) (dgs_cons (dg_name (j := 7) sc_law.nd rfl (by first | exact .inl rfl | exact .inr rfl)) dgs_nil))) (dss_one (ds_if (dt_not (dt_tru (de_call (ok__law_asked T) (hr.mono (by decide)) (by rfl) T.mg__law_asked T.kp__law_asked T.bd__law_asked pass0 (da_cons (dv 1) (da_cons (dv 3) (da_cons (dv 5) (da_cons (dv 4) (da_cons (dv 6) (da_cons (dv 7) da_nil))))))))) (dss_one (ds_ret de_bl)) dss_nil)) PassesOwn.never)
      (dss_cons (ds_asg (de_call (ok__law_longer T) (hr.mono (by decide)) (by rfl) T.mg__law_longer T.kp__law_longer T.bd__law_longer pass0 (da_cons (dv 1) (da_cons (dv 2) (da_cons de_int da_nil)))) (dg_unl (dgs_cons (dg_name (j := 6) sc_law.nd rfl (by first | exact .inl rfl | exact .inr rfl)) (dgs_cons (dg_name (j := 7) sc_law.nd rfl (by first | exact .inl rfl | exact .inr rfl)) dgs_nil))))
      (dss_one (ds_if (DW.dt (dw_or (dt_not (dt_tru (de_call (ok__law_asked T) (hr.mono (by decide)) (by rfl) T.mg__law_asked T.kp__law_asked T.bd__law_asked pass0 (da_cons (dv 1) (da_cons (dv 3) (da_cons (dv 5) (da_cons (dv 4) (da_cons (dv 6) (da_cons (dv 7) da_nil))))))))) (dw_or1 (dt_not (dt_tru (de_call (ok__law_like T 6) (hr.mono (by decide)) (by rfl) T.mg__law_like T.kp__law_like T.bd__law_like pass0 (da_cons (de_meth0 (dv 5) T.cl_RoomBook T.me_RoomBook_rooms (ok_RoomBook_rooms T) (hr.mono (by decide)) T.bd_RoomBook_rooms pass0) (da_cons (dv 4) da_nil)))))))) (dss_one (ds_ret de_bl)) dss_nil))))) PassesOwn.never)
      (dss_one (ds_ret de_bl)))))), fun ds M Q hl h => ?_⟩
  obtain ⟨ns, rfl, hns, q⟩ := h
  walk_at "start"
  walk_at "go"
  refine ⟨ns, rfl, hns, fun b c hb0 hc => ?_⟩
  walk_at "go"
  have kk : Kp (mupd M b c) b (mupd M b c) := .refl ⟨c, mupd_same, hc⟩
  refine of_go kk (by simp) (by decide) (fun d c1 hd hc1 k1 => ?_)
  obtain ⟨many, rfl, hm0, hm1⟩ : ∃ n : Int, d = .int n ∧ 2 ≤ n ∧ n ≤ 4 := by
    simp at hd
    rcases hd with rfl | rfl | rfl | rfl | rfl | rfl <;> exact ⟨_, rfl, by decide, by decide⟩
  walk_at "go"
  refine ⟨b, many, rfl, by omega, by omega, k1.bag, fun web c2 w1 w2 w3 hc2 => ?_⟩
  have k2 := k1.draw hc2
  have gw : GoodWeb web many := ⟨w1, w2, w3, by omega, by omega⟩
  generalize mupd (mupd (mupd M b c) b c1) b c2 = M2 at k2 ⊢
  walk_at "go"
  have gwl := gw.le
  refine go_seqK (J := fun G' M' => Kp (mupd M b c) b M') (fun nx hk => ?_) (fun G' M' hJ => ?_)
  · walk_at "go"
    refine of_go k2 (by simp) (by decide) (fun d c3 hd3 hc3 k3 => ?_)
    obtain ⟨count, rfl, hn0, hn1⟩ : ∃ n : Int, d = .int n ∧ 0 ≤ n ∧ n ≤ 6 := by
      simp at hd3
      rcases hd3 with rfl | rfl | rfl | rfl | rfl | rfl | rfl <;> exact ⟨_, rfl, by decide, by decide⟩
    walk_at "go"
    refine ⟨b, web, many, count, rfl, gw, by omega, by omega, k3.bag, fun cells c4 hcl hcg hc4 => ?_⟩
    have k4 := k3.draw hc4
    walk_at "go"
    refine ⟨b, web, many, rfl, gw, k4.bag, fun ring c5 hrl hrg hc5 => ?_⟩
    have k5 := k4.draw hc5
    generalize mupd (mupd (mupd M2 b c3) b c4) b c5 = M5 at k5 ⊢
    walk_at "go"
    refine go_forI (fun i G' M' => ∃ (x4 x5 x6 x7 : Option D), G' = [some (.rol (ns.map .int)), some (.ref b), some (.int many), some (dWeb web), x4, x5, x6, x7] ∧ Kp (mupd M b c) b M') ⟨_, _, _, _, rfl, k5⟩ (fun i d G' M' nx' hd hI hn => ?_) (fun G' M' hI => ?_)
    · obtain ⟨x4, x5, x6, x7, rfl, k6⟩ := hI
      obtain ⟨cs, rfl, gcs, lcs⟩ : ∃ cs : List Rm, d = .list (dRooms cs) ∧ GoodRs web many cs ∧ cs.length ≤ 100 := by
        have := List.mem_of_getElem? hd
        simp at this
        rcases this with rfl | rfl
        · exact ⟨cells, rfl, hcg, by omega⟩
        · exact ⟨ring, rfl, hrg, by omega⟩
      walk_at "goS"
      intro x hx
      refine ⟨x, web, cs, rfl, by omega, by omega, mupd_same, rfl, _, mupd_same, ?_⟩
      rw [mupd_mupd, mdel_new hx]
      walk_at "go"
      refine go_seqK (J := fun G' M' => ∃ (x6 x7 : Option D), G' = [some (.rol (ns.map .int)), some (.ref b), some (.int many), some (dWeb web), some (.list (dRooms cs)), some (dBook a web cs), x6, x7] ∧ Kp (mupd M b c) b M') (fun nx2 hk2 => ?_) (fun G' M2 hJ => ?_)
      · walk_at "go"
        refine ⟨b, many, _, rfl, by omega, by omega, by omega, by omega, k6.bag, fun rows c7 hrows hrl2 hc7 => ?_⟩
        have k7 := k6.draw hc7
        walk_at "go"
        refine draw_go k7 (by decide) (by decide) (fun n1 c8 n10 n11 g8 k8 => ?_)
        walk_at "go"
        refine go_forI (fun i G' M' => ∃ (x6 x7 : Option D), G' = [some (.rol (ns.map .int)), some (.ref b), some (.int many), some (dWeb web), some (.list (dRooms cs)), some (dBook a web cs), x6, x7] ∧ Kp (mupd M b c) b M') ⟨_, _, rfl, k8⟩ (fun i d G' M' nx3 hd3 hI3 hn3 => ?_) (fun G' M' hI3 => hk2 _ _ hI3)
        obtain ⟨x6, x7, rfl, k9⟩ := hI3
        obtain ⟨r, hr, rfl⟩ := List.mem_map.mp (pickL_mem (List.mem_of_getElem? hd3))
        obtain ⟨r1, r2, r3, r4⟩ := hrows r hr
        walk_at "go"
        refine ⟨b, web, many, cs, r.1, r.2, rfl, gw, gcs, lcs, r1, r2, r3, r4, k9.bag, fun c10 g10 => ?_⟩
        walk_at "go"
        exact hn3 _ _ ⟨_, _, rfl, k9.draw g10⟩
      obtain ⟨x6, x7, rfl, k7⟩ := hJ
      walk_at "goS"
      refine ⟨b, many, _, rfl, by omega, by omega, by omega, by omega, k7.bag, fun lead turn c8 l1 l2 l3 l4 g8 => ?_⟩
      have k8 := k7.draw g8
      walk_at "go"
      refine ⟨b, web, many, cs, lead, turn, rfl, gw, gcs, lcs, l1, l2, l3, l4, k8.bag, fun c9 g9 => ?_⟩
      have k9 := k8.draw g9
      walk_at "go"
      refine ⟨web, cs, rfl, ?_⟩
      walk_at "go"
      have pl : plainN 5 (.list (dRooms cs)) = true := by
        have p1 := plain_rooms (k := 2) (rs := cs) (fun r hr => by have := (gcs r hr).len; omega)
        have l1 : (dRooms cs).length ≤ 1000000 := by rw [List.length_map]; omega
        simp only [plainN, p1, l1, decide_true, Bool.and_true]
      refine ⟨_, _, rfl, pl, pl, ?_⟩
      rw [like_same 5 _ pl]
      walk_at "go"
      exact hn _ _ ⟨_, _, _, _, rfl, k9⟩
    · obtain ⟨x4, x5, x6, x7, rfl, k6⟩ := hI
      exact hk _ _ k6
  · walk_at "go"
    refine DL.Fin.sub (fun x d e => ?_) q
    have hx : x ≠ b := fun z => by subst z; rw [hb0] at e; cases e
    exact hJ.2 x d hx (by rw [mupd_ne hx]; exact e)
end
end L29

set_option Elab.async false
set_option linter.all false
set_option maxRecDepth 100000
set_option maxHeartbeats 4000000
namespace L29
open PySem PySem.Spec PyProof.Rows L2 DL
theorem ints_in {K : PySem.W.Frag} {H : Hp} : ∀ ns : List Int, RelL K H (ns.map V.int) (ns.map D.int)
  | [] => .nil
  | n :: ns => .cons (.int n) (ints_in ns)
theorem law_in {K : PySem.W.Frag} {H : Hp} {a : Addr} {ns : List Int} (hl : ns.length ≤ 63) (_hO : Only H) (hS : SqL K H a (ns.map V.int)) : lift K 1 sp_law [.ref a] H (fun v _ => v = .bl true) fun _ _ _ => False :=
  ⟨[.rol (ns.map .int)], fun _ => none, H, fun d _ => d = .bl true, rfl, ⟨Same.refl H, fun _ _ h => by cases h⟩, .cons (.rol hS (ints_in ns)) .nil, ⟨ns, rfl, hl, rfl⟩, fun d v M' N' H' e _ _ r => by subst e; exact rel_bl r⟩
section
theorem kbn_is_held_k_0_period_beginning_at_class_book {K : PySem.W.Frag} {kV dc pm : Value} {an : Option Addr} {cd ct : Value} : KBn K (PySem.W.fnOf "is_held" "is_held" (defArgs s_is_held) (defBody s_is_held) (defScope s_is_held) .none kV dc pm an cd ct) ["book", "at_class", "beginning", "period"] 0 ["period", "beginning", "at_class", "book"] kg_is_held_k_0_period_beginning_at_class_book kg_is_held_k_0_period_beginning_at_class_book :=
  ⟨fun s us ws _ h1 h2 => match us, ws, h1, h2 with | [], [_, _, _, _], _, _ => .of_eq rfl, by
  intro vs us zs ws r1 r2
  cases r1 with
  | nil =>
    cases r2 with
    | nil => exact .nil
    | cons b0 r2 =>
      cases r2 with
      | nil => exact .nil
      | cons b1 r2 =>
        cases r2 with
        | nil => exact .nil
        | cons b2 r2 =>
          cases r2 with
          | nil => exact .nil
          | cons b3 r2 =>
            cases r2 with
            | nil => exact (.cons b3 (.cons b2 (.cons b1 (.cons b0 .nil))))
            | cons _ _ => exact .nil
  | cons _ _ => cases r2 <;> exact .nil⟩
set_option maxHeartbeats 0 in
theorem all_mk {l : PySem.W.OpenLaw} {w : World} {K : PySem.W.Frag} {h : Heap} {mg : Str → Option Value} {fa f0 f1 f2 f3 f4 f5 f6 f7 f8 f9 f10 f11 f12 f13 f14 f15 f16 f17 f18 f19 f20 f21 C_RoomBook : Addr} (X : K.In h) (G : h.Ns mainGlobals mg) (hfa : mg "law" = some (.ref fa))
    {od0 an0 od1 an1 od2 an2 od3 an3 od4 an4 od5 an5 od6 an6 od7 an7 od8 an8 od9 an9 od10 an10 od11 an11 od12 an12 od13 an13 od14 an14 od15 an15 od16 an16 od17 an17 od18 an18 od19 an19 od20 an20 od21 an21 : Option Addr} {sl0 sl1 sl2 sl3 sl4 sl5 sl6 sl7 sl8 sl9 sl10 sl11 sl12 sl13 sl14 sl15 sl16 sl17 sl18 sl19 sl20 sl21 : Array (Option Value)} {oc0 kV0 dc0 pm0 cd0 ct0 oc1 kV1 dc1 pm1 cd1 ct1 oc2 kV2 dc2 pm2 cd2 ct2 oc3 kV3 dc3 pm3 cd3 ct3 oc4 kV4 dc4 pm4 cd4 ct4 oc5 kV5 dc5 pm5 cd5 ct5 oc6 kV6 dc6 pm6 cd6 ct6 oc7 kV7 dc7 pm7 cd7 ct7 oc8 kV8 dc8 pm8 cd8 ct8 oc9 kV9 dc9 pm9 cd9 ct9 oc10 kV10 dc10 pm10 cd10 ct10 oc11 kV11 dc11 pm11 cd11 ct11 oc12 kV12 dc12 pm12 cd12 ct12 oc13 kV13 dc13 pm13 cd13 ct13 oc14 kV14 dc14 pm14 cd14 ct14 oc15 kV15 dc15 pm15 cd15 ct15 oc16 kV16 dc16 pm16 cd16 ct16 oc17 kV17 dc17 pm17 cd17 ct17 oc18 kV18 dc18 pm18 cd18 ct18 oc19 kV19 dc19 pm19 cd19 ct19 oc20 kV20 dc20 pm20 cd20 ct20 oc21 kV21 dc21 pm21 cd21 ct21 : Value}
    (aC_RoomBook : PySem.W.nsIn K mainGlobals "RoomBook" = some (some (.ref C_RoomBook)))
    (a0 : PySem.W.nsIn K mainGlobals "walked" = some (some (.ref f0)))
    (l0 : K.lookup f0 = some ⟨oc0, od0, .func (PySem.W.fnOf "walked" "walked" (defArgs s_walked) (defBody s_walked) (defScope s_walked) .none kV0 dc0 pm0 an0 cd0 ct0), sl0⟩)
    (c0 : PySem.W.codeIn K cd0 "walked" = true)
    (k0 : PySem.W.keepIn K (.ref f0) = true)
    (a1 : PySem.W.nsIn K mainGlobals "stepped" = some (some (.ref f1)))
    (l1 : K.lookup f1 = some ⟨oc1, od1, .func (PySem.W.fnOf "stepped" "stepped" (defArgs s_stepped) (defBody s_stepped) (defScope s_stepped) .none kV1 dc1 pm1 an1 cd1 ct1), sl1⟩)
    (c1 : PySem.W.codeIn K cd1 "stepped" = true)
    (k1 : PySem.W.keepIn K (.ref f1) = true)
    (a2 : PySem.W.nsIn K mainGlobals "holds_row" = some (some (.ref f2)))
    (l2 : K.lookup f2 = some ⟨oc2, od2, .func (PySem.W.fnOf "holds_row" "holds_row" (defArgs s_holds_row) (defBody s_holds_row) (defScope s_holds_row) .none kV2 dc2 pm2 an2 cd2 ct2), sl2⟩)
    (c2 : PySem.W.codeIn K cd2 "holds_row" = true)
    (k2 : PySem.W.keepIn K (.ref f2) = true)
    (a3 : PySem.W.findIn K (.ref C_RoomBook) "__init__" = some (some (.ref f3)))
    (i3 : PySem.W.isFn K (.ref f3) = true)
    (l3 : K.lookup f3 = some ⟨oc3, od3, .func (PySem.W.fnOf "__init__" "RoomBook.__init__" (defArgs s_RoomBook___init__) (defBody s_RoomBook___init__) (defScope s_RoomBook___init__) .none kV3 dc3 pm3 an3 cd3 ct3), sl3⟩)
    (c3 : PySem.W.codeIn K cd3 "RoomBook.__init__" = true)
    (k3 : PySem.W.keepIn K (.ref f3) = true)
    (a4 : PySem.W.findIn K (.ref C_RoomBook) "walker" = some (some (.ref f4)))
    (i4 : PySem.W.isFn K (.ref f4) = true)
    (l4 : K.lookup f4 = some ⟨oc4, od4, .func (PySem.W.fnOf "walker" "RoomBook.walker" (defArgs s_RoomBook_walker) (defBody s_RoomBook_walker) (defScope s_RoomBook_walker) .none kV4 dc4 pm4 an4 cd4 ct4), sl4⟩)
    (c4 : PySem.W.codeIn K cd4 "RoomBook.walker" = true)
    (k4 : PySem.W.keepIn K (.ref f4) = true)
    (a5 : PySem.W.findIn K (.ref C_RoomBook) "rooms" = some (some (.ref f5)))
    (i5 : PySem.W.isFn K (.ref f5) = true)
    (l5 : K.lookup f5 = some ⟨oc5, od5, .func (PySem.W.fnOf "rooms" "RoomBook.rooms" (defArgs s_RoomBook_rooms) (defBody s_RoomBook_rooms) (defScope s_RoomBook_rooms) .none kV5 dc5 pm5 an5 cd5 ct5), sl5⟩)
    (c5 : PySem.W.codeIn K cd5 "RoomBook.rooms" = true)
    (k5 : PySem.W.keepIn K (.ref f5) = true)
    (a6 : PySem.W.nsIn K mainGlobals "is_held" = some (some (.ref f6)))
    (l6 : K.lookup f6 = some ⟨oc6, od6, .func (PySem.W.fnOf "is_held" "is_held" (defArgs s_is_held) (defBody s_is_held) (defScope s_is_held) .none kV6 dc6 pm6 an6 cd6 ct6), sl6⟩)
    (c6 : PySem.W.codeIn K cd6 "is_held" = true)
    (k6 : PySem.W.keepIn K (.ref f6) = true)
    (a7 : PySem.W.nsIn K mainGlobals "_law_bag" = some (some (.ref f7)))
    (l7 : K.lookup f7 = some ⟨oc7, od7, .func (PySem.W.fnOf "_law_bag" "_law_bag" (defArgs s__law_bag) (defBody s__law_bag) (defScope s__law_bag) .none kV7 dc7 pm7 an7 cd7 ct7), sl7⟩)
    (c7 : PySem.W.codeIn K cd7 "_law_bag" = true)
    (k7 : PySem.W.keepIn K (.ref f7) = true)
    (a8 : PySem.W.nsIn K mainGlobals "_law_draw" = some (some (.ref f8)))
    (l8 : K.lookup f8 = some ⟨oc8, od8, .func (PySem.W.fnOf "_law_draw" "_law_draw" (defArgs s__law_draw) (defBody s__law_draw) (defScope s__law_draw) .none kV8 dc8 pm8 an8 cd8 ct8), sl8⟩)
    (c8 : PySem.W.codeIn K cd8 "_law_draw" = true)
    (k8 : PySem.W.keepIn K (.ref f8) = true)
    (a9 : PySem.W.nsIn K mainGlobals "_law_of" = some (some (.ref f9)))
    (l9 : K.lookup f9 = some ⟨oc9, od9, .func (PySem.W.fnOf "_law_of" "_law_of" (defArgs s__law_of) (defBody s__law_of) (defScope s__law_of) .none kV9 dc9 pm9 an9 cd9 ct9), sl9⟩)
    (c9 : PySem.W.codeIn K cd9 "_law_of" = true)
    (k9 : PySem.W.keepIn K (.ref f9) = true)
    (a10 : PySem.W.nsIn K mainGlobals "_law_along" = some (some (.ref f10)))
    (l10 : K.lookup f10 = some ⟨oc10, od10, .func (PySem.W.fnOf "_law_along" "_law_along" (defArgs s__law_along) (defBody s__law_along) (defScope s__law_along) .none kV10 dc10 pm10 an10 cd10 ct10), sl10⟩)
    (c10 : PySem.W.codeIn K cd10 "_law_along" = true)
    (k10 : PySem.W.keepIn K (.ref f10) = true)
    (a11 : PySem.W.nsIn K mainGlobals "_law_held" = some (some (.ref f11)))
    (l11 : K.lookup f11 = some ⟨oc11, od11, .func (PySem.W.fnOf "_law_held" "_law_held" (defArgs s__law_held) (defBody s__law_held) (defScope s__law_held) .none kV11 dc11 pm11 an11 cd11 ct11), sl11⟩)
    (c11 : PySem.W.codeIn K cd11 "_law_held" = true)
    (k11 : PySem.W.keepIn K (.ref f11) = true)
    (a12 : PySem.W.nsIn K mainGlobals "_law_class_web" = some (some (.ref f12)))
    (l12 : K.lookup f12 = some ⟨oc12, od12, .func (PySem.W.fnOf "_law_class_web" "_law_class_web" (defArgs s__law_class_web) (defBody s__law_class_web) (defScope s__law_class_web) .none kV12 dc12 pm12 an12 cd12 ct12), sl12⟩)
    (c12 : PySem.W.codeIn K cd12 "_law_class_web" = true)
    (k12 : PySem.W.keepIn K (.ref f12) = true)
    (a13 : PySem.W.nsIn K mainGlobals "_law_cells" = some (some (.ref f13)))
    (l13 : K.lookup f13 = some ⟨oc13, od13, .func (PySem.W.fnOf "_law_cells" "_law_cells" (defArgs s__law_cells) (defBody s__law_cells) (defScope s__law_cells) .none kV13 dc13 pm13 an13 cd13 ct13), sl13⟩)
    (c13 : PySem.W.codeIn K cd13 "_law_cells" = true)
    (k13 : PySem.W.keepIn K (.ref f13) = true)
    (a14 : PySem.W.nsIn K mainGlobals "_law_like" = some (some (.ref f14)))
    (l14 : K.lookup f14 = some ⟨oc14, od14, .func (PySem.W.fnOf "_law_like" "_law_like" (defArgs s__law_like) (defBody s__law_like) (defScope s__law_like) .none kV14 dc14 pm14 an14 cd14 ct14), sl14⟩)
    (c14 : PySem.W.codeIn K cd14 "_law_like" = true)
    (k14 : PySem.W.keepIn K (.ref f14) = true)
    (a15 : PySem.W.nsIn K mainGlobals "_law_paths" = some (some (.ref f15)))
    (l15 : K.lookup f15 = some ⟨oc15, od15, .func (PySem.W.fnOf "_law_paths" "_law_paths" (defArgs s__law_paths) (defBody s__law_paths) (defScope s__law_paths) .none kV15 dc15 pm15 an15 cd15 ct15), sl15⟩)
    (c15 : PySem.W.codeIn K cd15 "_law_paths" = true)
    (k15 : PySem.W.keepIn K (.ref f15) = true)
    (a16 : PySem.W.nsIn K mainGlobals "_law_rows" = some (some (.ref f16)))
    (l16 : K.lookup f16 = some ⟨oc16, od16, .func (PySem.W.fnOf "_law_rows" "_law_rows" (defArgs s__law_rows) (defBody s__law_rows) (defScope s__law_rows) .none kV16 dc16 pm16 an16 cd16 ct16), sl16⟩)
    (c16 : PySem.W.codeIn K cd16 "_law_rows" = true)
    (k16 : PySem.W.keepIn K (.ref f16) = true)
    (a17 : PySem.W.nsIn K mainGlobals "_law_writings" = some (some (.ref f17)))
    (l17 : K.lookup f17 = some ⟨oc17, od17, .func (PySem.W.fnOf "_law_writings" "_law_writings" (defArgs s__law_writings) (defBody s__law_writings) (defScope s__law_writings) .none kV17 dc17 pm17 an17 cd17 ct17), sl17⟩)
    (c17 : PySem.W.codeIn K cd17 "_law_writings" = true)
    (k17 : PySem.W.keepIn K (.ref f17) = true)
    (a18 : PySem.W.nsIn K mainGlobals "_law_longer" = some (some (.ref f18)))
    (l18 : K.lookup f18 = some ⟨oc18, od18, .func (PySem.W.fnOf "_law_longer" "_law_longer" (defArgs s__law_longer) (defBody s__law_longer) (defScope s__law_longer) .none kV18 dc18 pm18 an18 cd18 ct18), sl18⟩)
    (c18 : PySem.W.codeIn K cd18 "_law_longer" = true)
    (k18 : PySem.W.keepIn K (.ref f18) = true)
    (a19 : PySem.W.nsIn K mainGlobals "_law_asked" = some (some (.ref f19)))
    (l19 : K.lookup f19 = some ⟨oc19, od19, .func (PySem.W.fnOf "_law_asked" "_law_asked" (defArgs s__law_asked) (defBody s__law_asked) (defScope s__law_asked) .none kV19 dc19 pm19 an19 cd19 ct19), sl19⟩)
    (c19 : PySem.W.codeIn K cd19 "_law_asked" = true)
    (k19 : PySem.W.keepIn K (.ref f19) = true)
    (a20 : PySem.W.nsIn K mainGlobals "_law_ring" = some (some (.ref f20)))
    (l20 : K.lookup f20 = some ⟨oc20, od20, .func (PySem.W.fnOf "_law_ring" "_law_ring" (defArgs s__law_ring) (defBody s__law_ring) (defScope s__law_ring) .none kV20 dc20 pm20 an20 cd20 ct20), sl20⟩)
    (c20 : PySem.W.codeIn K cd20 "_law_ring" = true)
    (k20 : PySem.W.keepIn K (.ref f20) = true)
    (a21 : PySem.W.nsIn K mainGlobals "law" = some (some (.ref f21)))
    (l21 : K.lookup f21 = some ⟨oc21, od21, .func (PySem.W.fnOf "law" "law" (defArgs s_law) (defBody s_law) (defScope s_law) .none kV21 dc21 pm21 an21 cd21 ct21), sl21⟩)
    (c21 : PySem.W.codeIn K cd21 "law" = true)
    (k21 : PySem.W.keepIn K (.ref f21) = true)
    (pg_RoomBook : PySem.W.plainGet K C_RoomBook Str.empty = true)
    (hd_RoomBook : PySem.W.hasDictIn K C_RoomBook = true)
    (po_RoomBook : PySem.W.plainOver K C_RoomBook = true)
    (sa_RoomBook : PySem.W.findIn K (.ref C_RoomBook) "__setattr__" = some (some (.builtin "object.__setattr__")))
    (mk_RoomBook : PySem.W.makesIn K C_RoomBook = true)
    (kc_RoomBook : PySem.W.keepIn K (.ref C_RoomBook) = true)
    (na_RoomBook__walker : PySem.W.findIn K (.ref C_RoomBook) "_walker" = some none)
    (na_RoomBook__rooms : PySem.W.findIn K (.ref C_RoomBook) "_rooms" = some none)
    (z_abs : PySem.W.nsIn K mainGlobals "abs" = some none)
    (z_all : PySem.W.nsIn K mainGlobals "all" = some none)
    (z_bool : PySem.W.nsIn K mainGlobals "bool" = some none)
    (z_dict : PySem.W.nsIn K mainGlobals "dict" = some none)
    (z_enumerate : PySem.W.nsIn K mainGlobals "enumerate" = some none)
    (z_int : PySem.W.nsIn K mainGlobals "int" = some none)
    (z_isinstance : PySem.W.nsIn K mainGlobals "isinstance" = some none)
    (z_len : PySem.W.nsIn K mainGlobals "len" = some none)
    (z_list : PySem.W.nsIn K mainGlobals "list" = some none)
    (z_range : PySem.W.nsIn K mainGlobals "range" = some none)
    (z_str : PySem.W.nsIn K mainGlobals "str" = some none)
    (z_tuple : PySem.W.nsIn K mainGlobals "tuple" = some none)
    (z_zip : PySem.W.nsIn K mainGlobals "zip" = some none) :
    ∃ fd : FuncData, (∀ (s : Shared) (v : Value), BindsTo s fd ⟨[v], []⟩ [("script", v)]) ∧ ∀ base : Heap, K.In base → base.Ns mainGlobals mg → FnOk l.prog w K mg base CX0 8 fa fd ["script"] (lift K 1 sp_law) := by
  have e := hfa.symm.trans (PySem.W.mg_of X G a21)
  cases e
  have F0 := fun_mk (st := s_walked) l0 c0 k0
  have b0 := F0.binds (ps := ["after", "start", "letters"]) fun _ _ _ _ _ _ us hl => match us, hl with | [_, _, _], _ => rfl
  have F1 := fun_mk (st := s_stepped) l1 c1 k1
  have b1 := F1.binds (ps := ["rooms", "alive", "letters"]) fun _ _ _ _ _ _ us hl => match us, hl with | [_, _, _], _ => rfl
  have F2 := fun_mk (st := s_holds_row) l2 c2 k2
  have b2 := F2.binds (ps := ["walker", "rooms", "at_class", "beginning", "period"]) fun _ _ _ _ _ _ us hl => match us, hl with | [_, _, _, _, _], _ => rfl
  have F3 := fun_mk (st := s_RoomBook___init__) l3 c3 k3
  have b3 := F3.binds (ps := ["self", "walker", "rooms"]) fun _ _ _ _ _ _ us hl => match us, hl with | [_, _, _], _ => rfl
  have F4 := fun_mk (st := s_RoomBook_walker) l4 c4 k4
  have b4 := F4.binds (ps := ["self"]) fun _ _ _ _ _ _ us hl => match us, hl with | [_], _ => rfl
  have F5 := fun_mk (st := s_RoomBook_rooms) l5 c5 k5
  have b5 := F5.binds (ps := ["self"]) fun _ _ _ _ _ _ us hl => match us, hl with | [_], _ => rfl
  have F6 := fun_mk (st := s_is_held) l6 c6 k6
  have b6 := F6.binds (ps := ["book", "at_class", "beginning", "period"]) fun _ _ _ _ _ _ us hl => match us, hl with | [_, _, _, _], _ => rfl
  have F7 := fun_mk (st := s__law_bag) l7 c7 k7
  have b7 := F7.binds (ps := ["script"]) fun _ _ _ _ _ _ us hl => match us, hl with | [_], _ => rfl
  have F8 := fun_mk (st := s__law_draw) l8 c8 k8
  have b8 := F8.binds (ps := ["bag", "sides"]) fun _ _ _ _ _ _ us hl => match us, hl with | [_, _], _ => rfl
  have F9 := fun_mk (st := s__law_of) l9 c9 k9
  have b9 := F9.binds (ps := ["bag", "things"]) fun _ _ _ _ _ _ us hl => match us, hl with | [_, _], _ => rfl
  have F10 := fun_mk (st := s__law_along) l10 c10 k10
  have b10 := F10.binds (ps := ["web", "spot", "path"]) fun _ _ _ _ _ _ us hl => match us, hl with | [_, _, _], _ => rfl
  have F11 := fun_mk (st := s__law_held) l11 c11 k11
  have b11 := F11.binds (ps := ["web", "cells", "spot", "lead", "turn"]) fun _ _ _ _ _ _ us hl => match us, hl with | [_, _, _, _, _], _ => rfl
  have F12 := fun_mk (st := s__law_class_web) l12 c12 k12
  have b12 := F12.binds (ps := ["bag", "many"]) fun _ _ _ _ _ _ us hl => match us, hl with | [_, _], _ => rfl
  have F13 := fun_mk (st := s__law_cells) l13 c13 k13
  have b13 := F13.binds (ps := ["bag", "web", "count"]) fun _ _ _ _ _ _ us hl => match us, hl with | [_, _, _], _ => rfl
  have F14 := fun_mk (st := s__law_like) l14 c14 k14
  have b14 := F14.binds (ps := ["found", "due"]) fun _ _ _ _ _ _ us hl => match us, hl with | [_, _], _ => rfl
  have F15 := fun_mk (st := s__law_paths) l15 c15 k15
  have b15 := F15.binds (ps := ["many", "size"]) fun _ _ _ _ _ _ us hl => match us, hl with | [_, _], _ => rfl
  have F16 := fun_mk (st := s__law_rows) l16 c16 k16
  have b16 := F16.binds (ps := ["bag", "many", "count"]) fun _ _ _ _ _ _ us hl => match us, hl with | [_, _, _], _ => rfl
  have F17 := fun_mk (st := s__law_writings) l17 c17 k17
  have b17 := F17.binds (ps := ["bag", "web", "spot", "lead", "turn"]) fun _ _ _ _ _ _ us hl => match us, hl with | [_, _, _, _, _], _ => rfl
  have F18 := fun_mk (st := s__law_longer) l18 c18 k18
  have b18 := F18.binds (ps := ["bag", "many", "count"]) fun _ _ _ _ _ _ us hl => match us, hl with | [_, _, _], _ => rfl
  have F19 := fun_mk (st := s__law_asked) l19 c19 k19
  have b19 := F19.binds (ps := ["bag", "web", "tome", "cells", "lead", "turn"]) fun _ _ _ _ _ _ us hl => match us, hl with | [_, _, _, _, _, _], _ => rfl
  have F20 := fun_mk (st := s__law_ring) l20 c20 k20
  have b20 := F20.binds (ps := ["bag", "web", "many"]) fun _ _ _ _ _ _ us hl => match us, hl with | [_, _, _], _ => rfl
  have F21 := fun_mk (st := s_law) l21 c21 k21
  have b21 := F21.binds (ps := ["script"]) fun _ _ _ _ _ _ us hl => match us, hl with | [_], _ => rfl
  have CL_RoomBook : Cls K C_RoomBook := ⟨pg_RoomBook, hd_RoomBook, po_RoomBook, sa_RoomBook⟩
  have T : TX K mg ⟨f0, (PySem.W.fnOf "walked" "walked" (defArgs s_walked) (defBody s_walked) (defScope s_walked) .none kV0 dc0 pm0 an0 cd0 ct0), f1, (PySem.W.fnOf "stepped" "stepped" (defArgs s_stepped) (defBody s_stepped) (defScope s_stepped) .none kV1 dc1 pm1 an1 cd1 ct1), f2, (PySem.W.fnOf "holds_row" "holds_row" (defArgs s_holds_row) (defBody s_holds_row) (defScope s_holds_row) .none kV2 dc2 pm2 an2 cd2 ct2), f3, (PySem.W.fnOf "__init__" "RoomBook.__init__" (defArgs s_RoomBook___init__) (defBody s_RoomBook___init__) (defScope s_RoomBook___init__) .none kV3 dc3 pm3 an3 cd3 ct3), f4, (PySem.W.fnOf "walker" "RoomBook.walker" (defArgs s_RoomBook_walker) (defBody s_RoomBook_walker) (defScope s_RoomBook_walker) .none kV4 dc4 pm4 an4 cd4 ct4), f5, (PySem.W.fnOf "rooms" "RoomBook.rooms" (defArgs s_RoomBook_rooms) (defBody s_RoomBook_rooms) (defScope s_RoomBook_rooms) .none kV5 dc5 pm5 an5 cd5 ct5), f6, (PySem.W.fnOf "is_held" "is_held" (defArgs s_is_held) (defBody s_is_held) (defScope s_is_held) .none kV6 dc6 pm6 an6 cd6 ct6), f7, (PySem.W.fnOf "_law_bag" "_law_bag" (defArgs s__law_bag) (defBody s__law_bag) (defScope s__law_bag) .none kV7 dc7 pm7 an7 cd7 ct7), f8, (PySem.W.fnOf "_law_draw" "_law_draw" (defArgs s__law_draw) (defBody s__law_draw) (defScope s__law_draw) .none kV8 dc8 pm8 an8 cd8 ct8), f9, (PySem.W.fnOf "_law_of" "_law_of" (defArgs s__law_of) (defBody s__law_of) (defScope s__law_of) .none kV9 dc9 pm9 an9 cd9 ct9), f10, (PySem.W.fnOf "_law_along" "_law_along" (defArgs s__law_along) (defBody s__law_along) (defScope s__law_along) .none kV10 dc10 pm10 an10 cd10 ct10), f11, (PySem.W.fnOf "_law_held" "_law_held" (defArgs s__law_held) (defBody s__law_held) (defScope s__law_held) .none kV11 dc11 pm11 an11 cd11 ct11), f12, (PySem.W.fnOf "_law_class_web" "_law_class_web" (defArgs s__law_class_web) (defBody s__law_class_web) (defScope s__law_class_web) .none kV12 dc12 pm12 an12 cd12 ct12), f13, (PySem.W.fnOf "_law_cells" "_law_cells" (defArgs s__law_cells) (defBody s__law_cells) (defScope s__law_cells) .none kV13 dc13 pm13 an13 cd13 ct13), f14, (PySem.W.fnOf "_law_like" "_law_like" (defArgs s__law_like) (defBody s__law_like) (defScope s__law_like) .none kV14 dc14 pm14 an14 cd14 ct14), f15, (PySem.W.fnOf "_law_paths" "_law_paths" (defArgs s__law_paths) (defBody s__law_paths) (defScope s__law_paths) .none kV15 dc15 pm15 an15 cd15 ct15), f16, (PySem.W.fnOf "_law_rows" "_law_rows" (defArgs s__law_rows) (defBody s__law_rows) (defScope s__law_rows) .none kV16 dc16 pm16 an16 cd16 ct16), f17, (PySem.W.fnOf "_law_writings" "_law_writings" (defArgs s__law_writings) (defBody s__law_writings) (defScope s__law_writings) .none kV17 dc17 pm17 an17 cd17 ct17), f18, (PySem.W.fnOf "_law_longer" "_law_longer" (defArgs s__law_longer) (defBody s__law_longer) (defScope s__law_longer) .none kV18 dc18 pm18 an18 cd18 ct18), f19, (PySem.W.fnOf "_law_asked" "_law_asked" (defArgs s__law_asked) (defBody s__law_asked) (defScope s__law_asked) .none kV19 dc19 pm19 an19 cd19 ct19), f20, (PySem.W.fnOf "_law_ring" "_law_ring" (defArgs s__law_ring) (defBody s__law_ring) (defScope s__law_ring) .none kV20 dc20 pm20 an20 cd20 ct20), fa, (PySem.W.fnOf "law" "law" (defArgs s_law) (defBody s_law) (defScope s_law) .none kV21 dc21 pm21 an21 cd21 ct21), C_RoomBook⟩ := {
    fn_walked := F0,
    bd_walked := b0,
    mg_walked := PySem.W.mg_of X G a0,
    kp_walked := k0,
    fn_stepped := F1,
    bd_stepped := b1,
    mg_stepped := PySem.W.mg_of X G a1,
    kp_stepped := k1,
    fn_holds_row := F2,
    bd_holds_row := b2,
    mg_holds_row := PySem.W.mg_of X G a2,
    kp_holds_row := k2,
    fn_RoomBook___init__ := F3,
    bd_RoomBook___init__ := b3,
    fn_RoomBook_walker := F4,
    bd_RoomBook_walker := b4,
    me_RoomBook_walker := ⟨a4, i4, k4⟩,
    fn_RoomBook_rooms := F5,
    bd_RoomBook_rooms := b5,
    me_RoomBook_rooms := ⟨a5, i5, k5⟩,
    fn_is_held := F6,
    bd_is_held := b6,
    mg_is_held := PySem.W.mg_of X G a6,
    kp_is_held := k6,
    fn__law_bag := F7,
    bd__law_bag := b7,
    mg__law_bag := PySem.W.mg_of X G a7,
    kp__law_bag := k7,
    fn__law_draw := F8,
    bd__law_draw := b8,
    mg__law_draw := PySem.W.mg_of X G a8,
    kp__law_draw := k8,
    fn__law_of := F9,
    bd__law_of := b9,
    mg__law_of := PySem.W.mg_of X G a9,
    kp__law_of := k9,
    fn__law_along := F10,
    bd__law_along := b10,
    mg__law_along := PySem.W.mg_of X G a10,
    kp__law_along := k10,
    fn__law_held := F11,
    bd__law_held := b11,
    mg__law_held := PySem.W.mg_of X G a11,
    kp__law_held := k11,
    fn__law_class_web := F12,
    bd__law_class_web := b12,
    mg__law_class_web := PySem.W.mg_of X G a12,
    kp__law_class_web := k12,
    fn__law_cells := F13,
    bd__law_cells := b13,
    mg__law_cells := PySem.W.mg_of X G a13,
    kp__law_cells := k13,
    fn__law_like := F14,
    bd__law_like := b14,
    mg__law_like := PySem.W.mg_of X G a14,
    kp__law_like := k14,
    fn__law_paths := F15,
    bd__law_paths := b15,
    mg__law_paths := PySem.W.mg_of X G a15,
    kp__law_paths := k15,
    fn__law_rows := F16,
    bd__law_rows := b16,
    mg__law_rows := PySem.W.mg_of X G a16,
    kp__law_rows := k16,
    fn__law_writings := F17,
    bd__law_writings := b17,
    mg__law_writings := PySem.W.mg_of X G a17,
    kp__law_writings := k17,
    fn__law_longer := F18,
    bd__law_longer := b18,
    mg__law_longer := PySem.W.mg_of X G a18,
    kp__law_longer := k18,
    fn__law_asked := F19,
    bd__law_asked := b19,
    mg__law_asked := PySem.W.mg_of X G a19,
    kp__law_asked := k19,
    fn__law_ring := F20,
    bd__law_ring := b20,
    mg__law_ring := PySem.W.mg_of X G a20,
    kp__law_ring := k20,
    fn_law := F21,
    bd_law := b21,
    mg_law := PySem.W.mg_of X G a21,
    kp_law := k21,
    mg_RoomBook := PySem.W.mg_of X G aC_RoomBook,
    cl_RoomBook := CL_RoomBook,
    mk_RoomBook := ⟨mk_RoomBook, a3, i3, kc_RoomBook⟩,
    na_RoomBook__walker := na_RoomBook__walker,
    na_RoomBook__rooms := na_RoomBook__rooms,
    b_abs := PySem.W.mg_none_of X G z_abs,
    b_all := PySem.W.mg_none_of X G z_all,
    b_bool := PySem.W.mg_none_of X G z_bool,
    b_dict := PySem.W.mg_none_of X G z_dict,
    b_enumerate := PySem.W.mg_none_of X G z_enumerate,
    b_int := PySem.W.mg_none_of X G z_int,
    b_isinstance := PySem.W.mg_none_of X G z_isinstance,
    b_len := PySem.W.mg_none_of X G z_len,
    b_list := PySem.W.mg_none_of X G z_list,
    b_range := PySem.W.mg_none_of X G z_range,
    b_str := PySem.W.mg_none_of X G z_str,
    b_tuple := PySem.W.mg_none_of X G z_tuple,
    b_zip := PySem.W.mg_none_of X G z_zip,
    kb_is_held_k_0_period_beginning_at_class_book := kbn_is_held_k_0_period_beginning_at_class_book }
  exact ⟨(PySem.W.fnOf "law" "law" (defArgs s_law) (defBody s_law) (defScope s_law) .none kV21 dc21 pm21 an21 cd21 ct21), fun s v => .of_eq rfl, fun base _ _ => ok_law T⟩

end
end L29

end

open PySem PySem.W PyProof.Rows
set_option maxHeartbeats 0 in
theorem PySem.Challenge.cw_sameforever_k35_whole_held_rows_holds : PySem.Challenge.rw_sameforever_k35_whole_held_rows.Holds := by
  w_on; o_law; k_head; (case hw => w_witness2)
  k_fill
  refine L2.walk_of (l := PySem.Challenge.rw_sameforever_k35_whole_held_rows) (n := 63) (k := 8) (x := "script") (CX := fun _ => L2.CX0) (sp := fun w => DL.lift _ 1 L29.sp_law) rfl (by decide) rfl ⟨rfl, by decide, by decide⟩ (fun w h Y => PySem.W.kIn_of Y) ?F (fun w H a ns hl hO hS => L29.law_in hl hO hS) (fun _ _ _ _ _ h => h)
  case F =>
    intro w mg fa h KX G hmg
    refine' L29.all_mk KX G hmg ?aC_RoomBook ?a0 ?l0 ?c0 ?k0 ?a1 ?l1 ?c1 ?k1 ?a2 ?l2 ?c2 ?k2 ?a3 ?i3 ?l3 ?c3 ?k3 ?a4 ?i4 ?l4 ?c4 ?k4 ?a5 ?i5 ?l5 ?c5 ?k5 ?a6 ?l6 ?c6 ?k6 ?a7 ?l7 ?c7 ?k7 ?a8 ?l8 ?c8 ?k8 ?a9 ?l9 ?c9 ?k9 ?a10 ?l10 ?c10 ?k10 ?a11 ?l11 ?c11 ?k11 ?a12 ?l12 ?c12 ?k12 ?a13 ?l13 ?c13 ?k13 ?a14 ?l14 ?c14 ?k14 ?a15 ?l15 ?c15 ?k15 ?a16 ?l16 ?c16 ?k16 ?a17 ?l17 ?c17 ?k17 ?a18 ?l18 ?c18 ?k18 ?a19 ?l19 ?c19 ?k19 ?a20 ?l20 ?c20 ?k20 ?a21 ?l21 ?c21 ?k21 ?pg_RoomBook ?hd_RoomBook ?po_RoomBook ?sa_RoomBook ?mk_RoomBook ?kc_RoomBook ?na_RoomBook__walker ?na_RoomBook__rooms ?z_abs ?z_all ?z_bool ?z_dict ?z_enumerate ?z_int ?z_isinstance ?z_len ?z_list ?z_range ?z_str ?z_tuple ?z_zip
    (case aC_RoomBook => k_is); (case a0 => k_is); (case l0 => k_is); (case c0 => k_is); (case k0 => k_is); (case a1 => k_is); (case l1 => k_is); (case c1 => k_is); (case k1 => k_is); (case a2 => k_is); (case l2 => k_is); (case c2 => k_is); (case k2 => k_is); (case a3 => k_is); (case i3 => k_is); (case l3 => k_is); (case c3 => k_is); (case k3 => k_is); (case a4 => k_is); (case i4 => k_is); (case l4 => k_is); (case c4 => k_is); (case k4 => k_is); (case a5 => k_is); (case i5 => k_is); (case l5 => k_is); (case c5 => k_is); (case k5 => k_is); (case a6 => k_is); (case l6 => k_is); (case c6 => k_is); (case k6 => k_is); (case a7 => k_is); (case l7 => k_is); (case c7 => k_is); (case k7 => k_is); (case a8 => k_is); (case l8 => k_is); (case c8 => k_is); (case k8 => k_is); (case a9 => k_is); (case l9 => k_is); (case c9 => k_is); (case k9 => k_is); (case a10 => k_is); (case l10 => k_is); (case c10 => k_is); (case k10 => k_is); (case a11 => k_is); (case l11 => k_is); (case c11 => k_is); (case k11 => k_is); (case a12 => k_is); (case l12 => k_is); (case c12 => k_is); (case k12 => k_is); (case a13 => k_is); (case l13 => k_is); (case c13 => k_is); (case k13 => k_is); (case a14 => k_is); (case l14 => k_is); (case c14 => k_is); (case k14 => k_is); (case a15 => k_is); (case l15 => k_is); (case c15 => k_is); (case k15 => k_is); (case a16 => k_is); (case l16 => k_is); (case c16 => k_is); (case k16 => k_is); (case a17 => k_is); (case l17 => k_is); (case c17 => k_is); (case k17 => k_is); (case a18 => k_is); (case l18 => k_is); (case c18 => k_is); (case k18 => k_is); (case a19 => k_is); (case l19 => k_is); (case c19 => k_is); (case k19 => k_is); (case a20 => k_is); (case l20 => k_is); (case c20 => k_is); (case k20 => k_is); (case a21 => k_is); (case l21 => k_is); (case c21 => k_is); (case k21 => k_is); (case pg_RoomBook => k_is); (case hd_RoomBook => k_is); (case po_RoomBook => k_is); (case sa_RoomBook => k_is); (case mk_RoomBook => k_is); (case kc_RoomBook => k_is); (case na_RoomBook__walker => k_is); (case na_RoomBook__rooms => k_is); (case z_abs => k_is); (case z_all => k_is); (case z_bool => k_is); (case z_dict => k_is); (case z_enumerate => k_is); (case z_int => k_is); (case z_isinstance => k_is); (case z_len => k_is); (case z_list => k_is); (case z_range => k_is); (case z_str => k_is); (case z_tuple => k_is); (case z_zip => k_is)
