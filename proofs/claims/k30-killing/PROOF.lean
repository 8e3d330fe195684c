import PyProof.Rows.All
import Wide.All
import OpenK.AllK
import Wide.FinOn
import HandS.ForMost
import HandS.IsInst
import HandS.Style
import HandS.Zip
import KE.KDictDisplayH
import HandS.Defaults
import KE.KRevSl
import HandS.Conv
import HandS.NoneIn
import HandS.DictComp
import KE.GoesEnum
import KE.GoesMore
import KE.SortData
import HandS.Flow
import KE.DataMinMax
import PyProof.Claim2Refuses
import PySem.Challenge.RW_sameforever_k30_whole_killing_words
set_option Elab.async false
set_option linter.all false
set_option maxRecDepth 100000
/-! DLay: abstract states of plain data over HandS. A datum D stands for a value and all that it reaches; the permanent heap N holds what data lean on; M tells the objects that still change. -/
namespace DL
open PySem PySem.Spec PyProof.Rows L2

/-- plain data; ref: an object that still changes -/
inductive D where
  | non | bl (b : Bool) | int (i : Int) | str (x : Str) | ty (n : String)
  | list (xs : List D) | rol (xs : List D) | tup (xs : List D) | rot (xs : List D)
  | obj (C : Addr) (fs : List (Str × D))
  | dK (kvs : List (Key × D)) | dT (kvs : List (List Key × D))
  | ref (a : Addr)
/-- what an object that still changes holds -/
inductive MC where
  | lst (ds : List D) | dK (kvs : List (Key × D)) | dT (kvs : List (List Key × D)) | ins (C : Addr) (fs : List (Str × D))
abbrev Mp := Addr → Option MC
def mupd (M : Mp) (a : Addr) (c : MC) : Mp := fun b => if b = a then some c else M b
def mdel (M : Mp) (a : Addr) : Mp := fun b => if b = a then none else M b
theorem mupd_same {M : Mp} {a : Addr} {c : MC} : mupd M a c a = some c := by unfold mupd; rw [if_pos rfl]
theorem mupd_ne {M : Mp} {a b : Addr} {c : MC} (h : b ≠ a) : mupd M a c b = M b := by unfold mupd; rw [if_neg h]
theorem mupd_mupd {M : Mp} {a : Addr} {c e : MC} : mupd (mupd M a c) a e = mupd M a e := by funext b; unfold mupd; split <;> rfl
theorem mne {M : Mp} {a b : Addr} {c : MC} (h : M a = some c) (h' : M b = none) : a ≠ b := by intro e; subst e; rw [h] at h'; cases h'

mutual
inductive RelD (K : PySem.W.Frag) (N : Hp) : V → D → Prop
  | non : RelD K N .non .non
  | bl (b : Bool) : RelD K N (.bl b) (.bl b)
  | int (i : Int) : RelD K N (.int i) (.int i)
  | str (x : Str) : RelD K N (.str x) (.str x)
  | ty (n : String) : RelD K N (.ty n) (.ty n)
  | list {a : Addr} {xs : List V} {ds : List D} : N a = some (.lst xs) → RelL K N xs ds → RelD K N (.ref a) (.list ds)
  | rol {a : Addr} {xs : List V} {ds : List D} : SqL K N a xs → RelL K N xs ds → RelD K N (.ref a) (.rol ds)
  | tup {a : Addr} {xs : List V} {ds : List D} : N a = some (.tup xs) → RelL K N xs ds → RelD K N (.ref a) (.tup ds)
  | rot {a : Addr} {xs : List V} {ds : List D} : SqT K N a xs → RelL K N xs ds → RelD K N (.ref a) (.rot ds)
  | obj {a dx C : Addr} {fs : List (Str × V)} {gs : List (Str × D)} : N a = some (.ins C dx fs) → RelF K N fs gs → RelD K N (.ref a) (.obj C gs)
  | dK {a : Addr} {ob : Obj} {kvs : List (Key × V)} {gs : List (Key × D)} : N a = some (.frz ob (.dK kvs)) → RelF K N kvs gs → RelD K N (.ref a) (.dK gs)
  | dT {a : Addr} {kvs : List (List Key × V)} {gs : List (List Key × D)} : N a = some (.dT kvs) → RelF K N kvs gs → RelD K N (.ref a) (.dT gs)
  | ref (a : Addr) : RelD K N (.ref a) (.ref a)
inductive RelL (K : PySem.W.Frag) (N : Hp) : List V → List D → Prop
  | nil : RelL K N [] []
  | cons {v : V} {vs : List V} {d : D} {ds : List D} : RelD K N v d → RelL K N vs ds → RelL K N (v :: vs) (d :: ds)
inductive RelF (K : PySem.W.Frag) (N : Hp) : {k : Type} → List (k × V) → List (k × D) → Prop
  | nil {k : Type} : RelF K N (k := k) [] []
  | cons {k : Type} {x : k} {v : V} {vs : List (k × V)} {d : D} {ds : List (k × D)} : RelD K N v d → RelF K N vs ds → RelF K N ((x, v) :: vs) ((x, d) :: ds)
end

theorem same_seqT {K : PySem.W.Frag} {H H' : Hp} {a : Addr} {xs : List V} (e : Same H H') (h : SqT K H a xs) : SqT K H' a xs := by
  rcases h with (h | ⟨o, h⟩) | h
  · exact .inl (.inl (e _ _ h))
  · exact .inl (.inr ⟨o, e _ _ h⟩)
  · exact .inr h

section
variable {K : PySem.W.Frag} {N N' : Hp}
mutual
theorem RelD.mono (s : Same N N') : ∀ {v : V} {d : D}, RelD K N v d → RelD K N' v d
  | _, _, .non => .non
  | _, _, .bl b => .bl b
  | _, _, .int i => .int i
  | _, _, .str x => .str x
  | _, _, .ty n => .ty n
  | _, _, .list h r => .list (s _ _ h) (RelL.mono s r)
  | _, _, .rol h r => .rol (s.seq h) (RelL.mono s r)
  | _, _, .tup h r => .tup (s _ _ h) (RelL.mono s r)
  | _, _, .rot h r => .rot (same_seqT s h) (RelL.mono s r)
  | _, _, .obj h r => .obj (s _ _ h) (RelF.mono s r)
  | _, _, .dK h r => .dK (s _ _ h) (RelF.mono s r)
  | _, _, .dT h r => .dT (s _ _ h) (RelF.mono s r)
  | _, _, .ref a => .ref a
theorem RelL.mono (s : Same N N') : ∀ {v : List V} {d : List D}, RelL K N v d → RelL K N' v d
  | _, _, .nil => .nil
  | _, _, .cons h r => .cons (RelD.mono s h) (RelL.mono s r)
theorem RelF.mono (s : Same N N') : ∀ {k : Type} {v : List (k × V)} {d : List (k × D)}, RelF K N v d → RelF K N' v d
  | _, _, _, .nil => .nil
  | _, _, _, .cons h r => .cons (RelD.mono s h) (RelF.mono s r)
end
theorem RelL.length : ∀ {xs : List V} {ds : List D}, RelL K N xs ds → xs.length = ds.length
  | _, _, .nil => rfl
  | _, _, .cons _ r => by simp [RelL.length r]
theorem RelL.get : ∀ {xs : List V} {ds : List D} {i : Nat} {x : V}, RelL K N xs ds → xs[i]? = some x → ∃ d, ds[i]? = some d ∧ RelD K N x d
  | _, _, i, x, .nil, e => by simp at e
  | _, _, 0, x, .cons h r, e => by simp at e; subst e; exact ⟨_, rfl, h⟩
  | _, _, i + 1, x, .cons h r, e => by
    obtain ⟨d, h1, h2⟩ := RelL.get (i := i) (x := x) r (by simpa using e)
    exact ⟨d, by simpa using h1, h2⟩
theorem RelL.getR : ∀ {xs : List V} {ds : List D} {i : Nat} {d : D}, RelL K N xs ds → ds[i]? = some d → ∃ x, xs[i]? = some x ∧ RelD K N x d
  | _, _, i, x, .nil, e => by simp at e
  | _, _, 0, x, .cons h r, e => by simp at e; subst e; exact ⟨_, rfl, h⟩
  | _, _, i + 1, x, .cons h r, e => by
    obtain ⟨d, h1, h2⟩ := RelL.getR (i := i) (d := x) r (by simpa using e)
    exact ⟨d, by simpa using h1, h2⟩
theorem RelL.append : ∀ {xs ys : List V} {ds es : List D}, RelL K N xs ds → RelL K N ys es → RelL K N (xs ++ ys) (ds ++ es)
  | _, _, _, _, .nil, s => s
  | _, _, _, _, .cons h r, s => .cons h (RelL.append r s)
theorem RelL.take : ∀ {xs : List V} {ds : List D} (n : Nat), RelL K N xs ds → RelL K N (xs.take n) (ds.take n)
  | _, _, 0, _ => .nil
  | _, _, _ + 1, .nil => .nil
  | _, _, n + 1, .cons h r => .cons h (RelL.take n r)
theorem RelL.drop : ∀ {xs : List V} {ds : List D} (n : Nat), RelL K N xs ds → RelL K N (xs.drop n) (ds.drop n)
  | _, _, 0, r => r
  | _, _, _ + 1, .nil => .nil
  | _, _, n + 1, .cons h r => RelL.drop n r
theorem RelL.set {x : V} {d : D} (h : RelD K N x d) : ∀ {xs : List V} {ds : List D} (n : Nat), RelL K N xs ds → RelL K N (xs.set n x) (ds.set n d)
  | _, _, _, .nil => .nil
  | _, _, 0, .cons _ r => .cons h r
  | _, _, n + 1, .cons q r => .cons q (RelL.set h n r)
theorem RelL.dropLast : ∀ {xs : List V} {ds : List D}, RelL K N xs ds → RelL K N xs.dropLast ds.dropLast
  | _, _, .nil => .nil
  | _, _, .cons _ .nil => .nil
  | _, _, .cons h (.cons h2 r) => .cons h (RelL.dropLast (.cons h2 r))
theorem RelL.rep : ∀ {xs : List V} {ds : List D} (k : Nat), RelL K N xs ds → RelL K N (List.replicate k xs).flatten (List.replicate k ds).flatten
  | _, _, 0, _ => .nil
  | _, _, k + 1, h => by
    rw [List.replicate_succ, List.replicate_succ, List.flatten_cons, List.flatten_cons]
    exact RelL.append h (RelL.rep k h)
theorem RelL.atI {xs : List V} {ds : List D} {i : Int} {d : D} (r : RelL K N xs ds) (h : L2.atI ds i = some d) : ∃ x, L2.atI xs i = some x ∧ RelD K N x d := by
  unfold L2.atI at *
  rw [r.length]
  cases e : ixN ds.length i with
  | none => rw [e] at h; cases h
  | some j =>
    rw [e] at h
    exact r.getR h
theorem RelL.cut {xs : List V} {ds : List D} (r : RelL K N xs ds) (lo hi : Option Int) : RelL K N (cutV xs lo hi) ((ds.drop (HT.sIx ds.length 0 lo)).take (HT.sIx ds.length ds.length hi - HT.sIx ds.length 0 lo)) := by
  unfold cutV
  rw [r.length]
  exact (r.drop _).take _
theorem RelF.length : ∀ {k : Type} {xs : List (k × V)} {ds : List (k × D)}, RelF K N xs ds → xs.length = ds.length
  | _, _, _, .nil => rfl
  | _, _, _, .cons _ r => by simp [RelF.length r]
theorem RelF.lookup : ∀ {xs : List (Str × V)} {ds : List (Str × D)} {f : Str} {d : D}, RelF K N xs ds → ds.lookup f = some d → ∃ x, xs.lookup f = some x ∧ RelD K N x d
  | _, _, f, d, .nil, e => by cases e
  | _, _, f, d, .cons (x := g) h r, e => by
    simp only [List.lookup_cons] at e ⊢
    cases q : f == g with
    | true =>
      rw [q] at e
      simp at e ⊢
      subst e
      exact h
    | false =>
      rw [q] at e
      exact RelF.lookup r e
theorem RelF.lookup_none : ∀ {xs : List (Str × V)} {ds : List (Str × D)} {f : Str}, RelF K N xs ds → ds.lookup f = none → xs.lookup f = none
  | _, _, f, .nil, e => rfl
  | _, _, f, .cons (x := g) h r, e => by
    simp only [List.lookup_cons] at e ⊢
    cases q : f == g with
    | true => rw [q] at e; cases e
    | false =>
      rw [q] at e
      exact RelF.lookup_none r e
end

/-! ### frames -/
/-- what a run leaves as it was -/
structure Fr (M : Mp) (N H : Hp) (M' : Mp) (N' H' : Hp) : Prop where
  nn : Same N N'
  keep : ∀ a o, H a = some o → M a = none → H' a = some o ∧ M' a = none
  new : ∀ a o, H a = some o → N a = none → N' a = none
  dom : ∀ a o, H a = some o → ∃ o', H' a = some o'
theorem Fr.refl {M : Mp} {N H : Hp} : Fr M N H M N H := ⟨Same.refl N, fun _ _ h m => ⟨h, m⟩, fun _ _ _ n => n, fun _ o h => ⟨o, h⟩⟩
theorem Fr.trans {M M1 M2 : Mp} {N H N1 H1 N2 H2 : Hp} (x : Fr M N H M1 N1 H1) (y : Fr M1 N1 H1 M2 N2 H2) : Fr M N H M2 N2 H2 where
  nn := x.nn.trans y.nn
  keep := fun a o h m => by
    obtain ⟨h1, m1⟩ := x.keep a o h m
    exact y.keep a o h1 m1
  new := fun a o h n => by
    obtain ⟨o1, h1⟩ := x.dom a o h
    exact y.new a o1 h1 (x.new a o h n)
  dom := fun a o h => by
    obtain ⟨o1, h1⟩ := x.dom a o h
    exact y.dom a o1 h1

section
variable {K : PySem.W.Frag}
def HasM (K : PySem.W.Frag) (N H : Hp) (a : Addr) : MC → Prop
  | .lst ds => ∃ xs, H a = some (.lst xs) ∧ RelL K N xs ds
  | .dK gs => ∃ kvs, H a = some (.dK kvs) ∧ RelF K N kvs gs
  | .dT gs => ∃ kvs, H a = some (.dT kvs) ∧ RelF K N kvs gs
  | .ins C gs => ∃ dx fs, H a = some (.ins C dx fs) ∧ RelF K N fs gs
theorem HasM.some {N H : Hp} {a : Addr} {c : MC} (h : HasM K N H a c) : ∃ o, H a = some o := by
  cases c with
  | lst ds => obtain ⟨x, h, _⟩ := h; exact ⟨_, h⟩
  | dK ds => obtain ⟨x, h, _⟩ := h; exact ⟨_, h⟩
  | dT ds => obtain ⟨x, h, _⟩ := h; exact ⟨_, h⟩
  | ins C ds => obtain ⟨x, f, h, _⟩ := h; exact ⟨_, h⟩
theorem HasM.mono {N H N' H' : Hp} {a : Addr} {c : MC} (h : HasM K N H a c) (s : Same N N') (e : ∀ o, H a = Option.some o → H' a = Option.some o) : HasM K N' H' a c := by
  cases c with
  | lst ds => obtain ⟨x, h, r⟩ := h; exact ⟨x, e _ h, r.mono s⟩
  | dK ds => obtain ⟨x, h, r⟩ := h; exact ⟨x, e _ h, r.mono s⟩
  | dT ds => obtain ⟨x, h, r⟩ := h; exact ⟨x, e _ h, r.mono s⟩
  | ins C ds => obtain ⟨x, f, h, r⟩ := h; exact ⟨x, f, e _ h, r.mono s⟩
end
/-- the abstract objects are as told -/
structure CM (K : PySem.W.Frag) (M : Mp) (N H : Hp) : Prop where
  sm : Same N H
  hm : ∀ a c, M a = some c → N a = none ∧ HasM K N H a c
/-- the entry -/
structure En where
  M : Mp
  N : Hp
  H : Hp
abbrev Gm := List (Option D)
def Sl (K : PySem.W.Frag) (N : Hp) (G : Gm) (σ : L2.St) : Prop := σ.length = G.length ∧ ∀ (i : Nat) (d : D), G[i]? = some (some d) → ∃ v, σ[i]? = some (some v) ∧ RelD K N v d
structure CC (K : PySem.W.Frag) (E : En) (G : Gm) (M : Mp) (N : Hp) (σ : L2.St) (H : Hp) : Prop where
  fr : Fr E.M E.N E.H M N H
  cm : CM K M N H
  sl : Sl K N G σ
section
variable {K : PySem.W.Frag} {E : En} {G : Gm} {M M' : Mp} {N N' H H' : Hp} {σ : L2.St}
theorem Sl.mono (s : Same N N') (h : Sl K N G σ) : Sl K N' G σ := ⟨h.1, fun i d e => by
  obtain ⟨v, h1, h2⟩ := h.2 i d e
  exact ⟨v, h1, h2.mono s⟩⟩
theorem Sl.set {i : Nat} {v : V} {d : D} (h : Sl K N G σ) (r : RelD K N v d) : Sl K N (G.set i (some d)) (σ.set i (some v)) := by
  refine ⟨by simp [h.1], fun j e hj => ?_⟩
  by_cases q : i = j
  · subst q
    by_cases l : i < G.length
    · rw [List.getElem?_set_self l] at hj
      cases hj
      exact ⟨v, List.getElem?_set_self (by rw [h.1]; exact l), r⟩
    · rw [List.getElem?_eq_none (by simp; omega)] at hj
      cases hj
  · rw [List.getElem?_set_ne q] at hj ⊢
    exact h.2 j e hj
/-- a step behind the state -/
theorem CC.step (C : CC K E G M N σ H) (f : Fr M N H M' N' H') (c : CM K M' N' H') : CC K E G M' N' σ H' := ⟨C.fr.trans f, c, C.sl.mono f.nn⟩
theorem CC.slots {G' : Gm} {σ' : L2.St} (C : CC K E G M N σ H) (s : Sl K N G' σ') : CC K E G' M N σ' H := ⟨C.fr, C.cm, s⟩
/-- a new permanent object -/
theorem fr_new {p : Addr} {o : HO} (h : H p = none) (hn : N p = none) : Fr M N H M (upd N p o) (upd H p o) where
  nn := fun a u e => by rw [upd_ne (ne_of_none e hn)]; exact e
  keep := fun a u e m => ⟨by rw [upd_ne (ne_of_none e h)]; exact e, m⟩
  new := fun a u e n => by rw [upd_ne (ne_of_none e h)]; exact n
  dom := fun a u e => ⟨u, by rw [upd_ne (ne_of_none e h)]; exact e⟩
theorem CM.none (c : CM K M N H) {p : Addr} (h : H p = Option.none) : N p = Option.none ∧ M p = Option.none := by
  constructor
  · cases q : N p with
    | none => rfl
    | some o => rw [c.sm _ _ q] at h; cases h
  · cases q : M p with
    | none => rfl
    | some o =>
      obtain ⟨_, h2⟩ := c.hm _ _ q
      obtain ⟨o, h2⟩ := h2.some
      rw [h2] at h; cases h
theorem cm_new {p : Addr} {o : HO} (c : CM K M N H) (h : H p = none) : CM K M (upd N p o) (upd H p o) where
  sm := fun a u e => by
    by_cases q : a = p
    · subst q; rw [upd_same] at e ⊢; exact e
    · rw [upd_ne q] at e ⊢; exact c.sm _ _ e
  hm := fun a x e => by
    obtain ⟨h1, h2⟩ := c.hm a x e
    obtain ⟨o', h3⟩ := h2.some
    have q : a ≠ p := ne_of_none h3 h
    refine ⟨by rw [upd_ne q]; exact h1, h2.mono ?_ fun o'' e'' => by rw [upd_ne q]; exact e''⟩
    exact (fr_new (M := M) h (c.none h).1).nn
theorem CC.new {p : Addr} {o : HO} (C : CC K E G M N σ H) (h : H p = none) : CC K E G M (upd N p o) σ (upd H p o) := C.step (fr_new h (C.cm.none h).1) (cm_new C.cm h)
theorem same_new {p : Addr} {o : HO} (h : N p = none) : Same N (upd N p o) := fun a u e => by rw [upd_ne (ne_of_none e h)]; exact e
/-- a new object that may change -/
theorem fr_newM {p : Addr} {o : HO} {c : MC} (h : H p = none) : Fr M N H (mupd M p c) N (upd H p o) where
  nn := Same.refl N
  keep := fun a u e m => ⟨by rw [upd_ne (ne_of_none e h)]; exact e, by rw [mupd_ne (ne_of_none e h)]; exact m⟩
  new := fun a u e n => n
  dom := fun a u e => ⟨u, by rw [upd_ne (ne_of_none e h)]; exact e⟩
theorem cm_put {p : Addr} {o : HO} {c : MC} (cm : CM K M N H) (h : N p = none) (hc : HasM K N (upd H p o) p c) : CM K (mupd M p c) N (upd H p o) where
  sm := fun a u e => by rw [upd_ne (ne_of_none e h)]; exact cm.sm _ _ e
  hm := fun a x e => by
    by_cases q : a = p
    · subst q; rw [mupd_same] at e; cases e; exact ⟨h, hc⟩
    · rw [mupd_ne q] at e
      obtain ⟨h1, h2⟩ := cm.hm a x e
      exact ⟨h1, h2.mono (Same.refl N) fun o e => by rw [upd_ne q]; exact e⟩
theorem CC.newM {p : Addr} {o : HO} {c : MC} (C : CC K E G M N σ H) (h : H p = none) (hc : HasM K N (upd H p o) p c) : CC K E G (mupd M p c) N σ (upd H p o) := C.step (fr_newM h) (cm_put C.cm (C.cm.none h).1 hc)
/-- an object that may change is changed -/
theorem fr_mut {p : Addr} {o : HO} {c c0 : MC} (h : M p = some c0) : Fr M N H (mupd M p c) N (upd H p o) where
  nn := Same.refl N
  keep := fun a u e m => by
    have q : a ≠ p := fun z => by subst z; rw [h] at m; cases m
    exact ⟨by rw [upd_ne q]; exact e, by rw [mupd_ne q]; exact m⟩
  new := fun a u e n => n
  dom := fun a u e => by
    by_cases q : a = p
    · subst q; exact ⟨o, upd_same⟩
    · exact ⟨u, by rw [upd_ne q]; exact e⟩
theorem CC.mut {p : Addr} {o : HO} {c c0 : MC} (C : CC K E G M N σ H) (h : M p = some c0) (hc : HasM K N (upd H p o) p c) : CC K E G (mupd M p c) N σ (upd H p o) := C.step (fr_mut h) (cm_put C.cm (C.cm.hm _ _ h).1 hc)
/-- forgetting objects that may change -/
def Sub (M' M : Mp) : Prop := ∀ a c, M' a = some c → M a = some c
theorem Sub.none (s : Sub M' M) {a : Addr} (h : M a = Option.none) : M' a = Option.none := by
  cases q : M' a with
  | none => rfl
  | some c => rw [s _ _ q] at h; cases h
theorem CC.sub (C : CC K E G M N σ H) (s : Sub M' M) : CC K E G M' N σ H where
  fr := ⟨C.fr.nn, fun a o h m => by
    obtain ⟨h1, h2⟩ := C.fr.keep a o h m
    exact ⟨h1, s.none h2⟩, C.fr.new, C.fr.dom⟩
  cm := ⟨C.cm.sm, fun a c h => C.cm.hm a c (s _ _ h)⟩
  sl := C.sl
end

/-! ### readings over data -/
abbrev QD := D → Mp → Prop
abbrev aE := Gm → Mp → QD → Prop
abbrev aT := Gm → Mp → (Bool → Mp → Prop) → Prop
abbrev aA := Gm → Mp → (List D → Mp → Prop) → Prop
structure aEnds where
  m0 : Mp
  nx : Gm → Mp → Prop
  rt : QD
  bk : Gm → Mp → Prop := fun _ _ => False
  ct : Gm → Mp → Prop := fun _ _ => False
abbrev aS := aEnds → Gm → Mp → Prop
def Co (K : PySem.W.Frag) (E : En) (G : Gm) (N : Hp) (σ : L2.St) (Q : QD) (Qc : VK) : Prop :=
  ∀ d v M' N' H', Q d M' → CC K E G M' N' σ H' → Same N N' → RelD K N' v d → Qc v H'
def CoT (K : PySem.W.Frag) (E : En) (G : Gm) (N : Hp) (σ : L2.St) (Q : Bool → Mp → Prop) (Qc : Bool → Hp → Prop) : Prop :=
  ∀ b M' N' H', Q b M' → CC K E G M' N' σ H' → Same N N' → Qc b H'
def CoA (K : PySem.W.Frag) (E : En) (G : Gm) (N : Hp) (σ : L2.St) (Q : List D → Mp → Prop) (Qc : List V → Hp → Prop) : Prop :=
  ∀ ds vs M' N' H', Q ds M' → CC K E G M' N' σ H' → Same N N' → RelL K N' vs ds → Qc vs H'
structure CoS (K : PySem.W.Frag) (E : En) (N : Hp) (A : aEnds) (B : Ends) : Prop where
  nx : ∀ G' M' N' σ' H', A.nx G' M' → CC K E G' M' N' σ' H' → Same N N' → B.nx σ' H'
  rt : ∀ d v G' M' N' σ' H', A.rt d M' → CC K E G' M' N' σ' H' → Same N N' → RelD K N' v d → B.rt v H'
  bk : ∀ G' M' N' σ' H', A.bk G' M' → CC K E G' M' N' σ' H' → Same N N' → B.bk σ' H'
  ct : ∀ G' M' N' σ' H', A.ct G' M' → CC K E G' M' N' σ' H' → Same N N' → B.ct σ' H'
def SE (K : PySem.W.Frag) (te : TE) (ae : aE) : Prop := ∀ E G M N σ H, CC K E G M N σ H → ∀ Q Qc, ae G M Q → Co K E G N σ Q Qc → te σ H Qc
def ST (K : PySem.W.Frag) (tt : TT) (at' : aT) : Prop := ∀ E G M N σ H, CC K E G M N σ H → ∀ Q Qc, at' G M Q → CoT K E G N σ Q Qc → tt σ H Qc
def SA (K : PySem.W.Frag) (ta : TA) (aa : aA) : Prop := ∀ E G M N σ H, CC K E G M N σ H → ∀ Q Qc, aa G M Q → CoA K E G N σ Q Qc → ta σ H Qc
def SS (K : PySem.W.Frag) (ts : TS) (as : aS) : Prop := ∀ E G M N σ H, CC K E G M N σ H → ∀ A B, A.m0 = E.M → as A G M → CoS K E N A B → ts B σ H
structure DE (X : Cx) (e : Expr) (te : TE) (ae : aE) : Prop where
  pe : PE X e te
  se : SE X.K te ae
structure DT (X : Cx) (e : Expr) (tt : TT) (at' : aT) : Prop where
  pt : PT X e tt
  st : ST X.K tt at'
structure DW (X : Cx) (e : Expr) (tt : TT) (at' : aT) : Prop where
  pw : PW X e tt
  st : ST X.K tt at'
structure DA (X : Cx) (es : List Expr) (ta : TA) (aa : aA) : Prop where
  pa : PA X es ta
  sa : SA X.K ta aa
structure DS (X : Cx) (s : Stmt) (ts : TS) (as : aS) : Prop where
  ps : PS X s ts
  ss : SS X.K ts as
structure DSs (X : Cx) (s : List Stmt) (ts : TS) (as : aS) : Prop where
  ps : PSs X s ts
  ss : SS X.K ts as
section
variable {K : PySem.W.Frag} {E : En} {G : Gm} {N N' : Hp} {σ : L2.St}
theorem Co.from {Q : QD} {Qc : VK} (k : Co K E G N σ Q Qc) (s : Same N N') : Co K E G N' σ Q Qc := fun d v M1 N1 H1 q c s1 r => k d v M1 N1 H1 q c (s.trans s1) r
theorem CoT.from {Q : Bool → Mp → Prop} {Qc : Bool → Hp → Prop} (k : CoT K E G N σ Q Qc) (s : Same N N') : CoT K E G N' σ Q Qc := fun d M1 N1 H1 q c s1 => k d M1 N1 H1 q c (s.trans s1)
theorem CoA.from {Q : List D → Mp → Prop} {Qc : List V → Hp → Prop} (k : CoA K E G N σ Q Qc) (s : Same N N') : CoA K E G N' σ Q Qc := fun d v M1 N1 H1 q c s1 r => k d v M1 N1 H1 q c (s.trans s1) r
theorem CoS.from {A : aEnds} {B : Ends} (k : CoS K E N A B) (s : Same N N') : CoS K E N' A B :=
  ⟨fun g m n t h q c s1 => k.nx g m n t h q c (s.trans s1), fun d v g m n t h q c s1 r => k.rt d v g m n t h q c (s.trans s1) r, fun g m n t h q c s1 => k.bk g m n t h q c (s.trans s1), fun g m n t h q c s1 => k.ct g m n t h q c (s.trans s1)⟩
end
end DL

set_option Elab.async false
set_option linter.all false
set_option maxRecDepth 100000
namespace DL
open PySem PySem.Spec PyProof.Rows L2

/-! ### reading seqs -/
section
variable {K : PySem.W.Frag} {N : Hp}
/-- the items of a datum that stands still -/
def items : D → Option (List D)
  | .list xs => some xs
  | .rol xs => some xs
  | .tup xs => some xs
  | .rot xs => some xs
  | _ => none
def isL : D → Bool
  | .list _ => true
  | .rol _ => true
  | _ => false
theorem rel_int {v : V} {i : Int} (r : RelD K N v (.int i)) : v = .int i := by cases r; rfl
theorem rel_bl {v : V} {i : Bool} (r : RelD K N v (.bl i)) : v = .bl i := by cases r; rfl
theorem rel_str {v : V} {i : Str} (r : RelD K N v (.str i)) : v = .str i := by cases r; rfl
theorem rel_ref {v : V} {a : Addr} (r : RelD K N v (.ref a)) : v = .ref a := by cases r; rfl
theorem rel_tup {v : V} {ds : List D} (r : RelD K N v (.tup ds)) : ∃ a xs, v = .ref a ∧ N a = some (.tup xs) ∧ RelL K N xs ds := by
  cases r with | tup h r => exact ⟨_, _, rfl, h, r⟩
theorem rel_list {v : V} {ds : List D} (r : RelD K N v (.list ds)) : ∃ a xs, v = .ref a ∧ N a = some (.lst xs) ∧ RelL K N xs ds := by
  cases r with | list h r => exact ⟨_, _, rfl, h, r⟩
theorem rel_obj {v : V} {C : Addr} {ds : List (Str × D)} (r : RelD K N v (.obj C ds)) : ∃ a dx xs, v = .ref a ∧ N a = some (.ins C dx xs) ∧ RelF K N xs ds := by
  cases r with | obj h r => exact ⟨_, _, _, rfl, h, r⟩
/-- what stands still at a datum's address -/
theorem rel_items {v : V} {d : D} {ds : List D} (r : RelD K N v d) (h : items d = some ds) : ∃ a xs, v = .ref a ∧ RelL K N xs ds ∧ ((isL d = true ∧ SqL K N a xs) ∨ (isL d = false ∧ SqT K N a xs)) := by
  cases r <;> simp [items] at h
  case list a xs ds h1 h2 => subst h; exact ⟨_, _, rfl, h2, .inl ⟨rfl, .of h1⟩⟩
  case rol a xs ds h1 h2 => subst h; exact ⟨_, _, rfl, h2, .inl ⟨rfl, h1⟩⟩
  case tup a xs ds h1 h2 => subst h; exact ⟨_, _, rfl, h2, .inr ⟨rfl, .of h1⟩⟩
  case rot a xs ds h1 h2 => subst h; exact ⟨_, _, rfl, h2, .inr ⟨rfl, h1⟩⟩
/-- the items of a datum, or of a list that may change -/
def itemsM (M : Mp) (d : D) : Option (List D) := match d with
  | .ref a => (match M a with | some (.lst ds) => some ds | _ => none)
  | d => items d
def isLM : D → Bool
  | .ref _ => true
  | d => isL d
theorem rel_itemsM {M : Mp} {H : Hp} {v : V} {d : D} {ds : List D} (c : CM K M N H) (r : RelD K N v d) (h : itemsM M d = some ds) : ∃ a xs, v = .ref a ∧ RelL K N xs ds ∧ ((isLM d = true ∧ SqL K H a xs) ∨ (isLM d = false ∧ SqT K H a xs)) := by
  by_cases q : ∃ a, d = .ref a
  · obtain ⟨a, rfl⟩ := q
    have e := rel_ref r
    subst e
    unfold itemsM at h
    simp only at h
    split at h
    · rename_i ds' e
      cases h
      obtain ⟨_, xs, h1, h2⟩ := c.hm _ _ e
      exact ⟨a, xs, rfl, h2, .inl ⟨rfl, .of h1⟩⟩
    · cases h
  · have h' : items d = some ds := by
      unfold itemsM at h
      split at h
      · exact absurd ⟨_, rfl⟩ q
      · exact h
    have h2 : isLM d = isL d := by
      unfold isLM
      split
      · exact absurd ⟨_, rfl⟩ q
      · rfl
    obtain ⟨a, xs, e, r2, h3⟩ := rel_items r h'
    refine ⟨a, xs, e, r2, ?_⟩
    rw [h2]
    rcases h3 with ⟨h4, h5⟩ | ⟨h4, h5⟩
    · exact .inl ⟨h4, c.sm.seq h5⟩
    · exact .inr ⟨h4, same_seqT c.sm h5⟩
end

/-! ### names, constants -/
section
variable {X : Cx} {K : PySem.W.Frag}
def aVar (i : Nat) : aE := fun G M Q => match G[i]? with | some (some d) => Q d M | _ => False
def aC (d : D) : aE := fun _ M Q => Q d M
theorem se_var {i : Nat} : SE K (tVar i) (aVar i) := by
  intro E G M N σ H C Q Qc h k
  unfold aVar at h
  split at h
  · rename_i d e
    obtain ⟨v, h1, h2⟩ := C.sl.2 i d e
    exact ⟨v, h1, k d v M N H h C (Same.refl N) h2⟩
  · exact h.elim
theorem se_c {v : V} {d : D} (r : ∀ N, RelD K N v d) : SE K (tC v) (aC d) := by
  intro E G M N σ H C Q Qc h k
  exact k d v M N H h C (Same.refl N) (r N)
theorem dv (i : Nat) {x : Str} {pos : Pos} (hN : X.N[i]? = some x := by rfl) (hv : Vis X.env.scope x := by first | exact Or.inl rfl | exact Or.inr (Or.inl rfl) | exact Or.inr (Or.inr rfl)) (hd : (x == ("__debug__" : Str)) = false := by decide)
    (hcd : (x == ("__classdict__" : Str)) = false := by decide) : DE X (.Name x pos) (tVar i) (aVar i) := ⟨pe_var hN hv hd hcd, se_var⟩
theorem de_int {i j pos} : DE X (.Constant (.int i) j pos) (tC (.int i)) (aC (.int i)) := ⟨pe_int, se_c fun _ => .int _⟩
theorem de_bl {i j pos} : DE X (.Constant (.bool i) j pos) (tC (.bl i)) (aC (.bl i)) := ⟨pe_bl, se_c fun _ => .bl _⟩
theorem de_non {j pos} : DE X (.Constant .none j pos) (tC .non) (aC .non) := ⟨pe_non, se_c fun _ => .non⟩
theorem de_str {x j pos} : DE X (.Constant (.str x) j pos) (tC (.str x)) (aC (.str x)) := ⟨pe_str, se_c fun _ => .str _⟩
/-- a built-in type's name as a value -/
theorem de_ty {x : Str} {n : String} {pos : Pos} (hg : Gl X x) (hm : X.mg x = none) (hv : bootBuiltins x = some (.type n) := by decide +kernel) (hn : x ≠ "__name__" := by decide) (hd : (x == ("__debug__" : Str)) = false := by decide) : DE X (.Name x pos) (tC (.ty n)) (aC (.ty n)) :=
  ⟨pe_bltn hg hm hv rfl hn hd, se_c fun _ => .ty _⟩
/-- a module's constant -/
theorem de_glob {x : Str} {v : V} {d : D} {u : Value} {pos : Pos} (hg : Gl X x) (hm : X.mg x = some u) (r : RelV v u) (rd : ∀ N, RelD X.K N v d) (hd : (x == ("__debug__" : Str)) = false := by decide) : DE X (.Name x pos) (tC v) (aC d) :=
  ⟨pe_glob hg hm r hd, se_c rd⟩

/-! ### two operands -/
abbrev V1 := D → Mp → QD → Prop
abbrev V2 := D → D → Mp → QD → Prop
abbrev VL := List D → Mp → QD → Prop
def S1 (K : PySem.W.Frag) (r : V → Hp → VK → Prop) (f : V1) : Prop := ∀ E G M N σ H, CC K E G M N σ H → ∀ x d, RelD K N x d → ∀ Q Qc, f d M Q → Co K E G N σ Q Qc → r x H Qc
def S2 (K : PySem.W.Frag) (r : R2) (f : V2) : Prop := ∀ E G M N σ H, CC K E G M N σ H → ∀ x y d e, RelD K N x d → RelD K N y e → ∀ Q Qc, f d e M Q → Co K E G N σ Q Qc → r x y H Qc
def SL (K : PySem.W.Frag) (r : List V → Hp → VK → Prop) (f : VL) : Prop := ∀ E G M N σ H, CC K E G M N σ H → ∀ xs ds, RelL K N xs ds → ∀ Q Qc, f ds M Q → Co K E G N σ Q Qc → r xs H Qc
def aBin (f : V2) (a b : aE) : aE := fun G M Q => a G M fun d M1 => b G M1 fun e M2 => f d e M2 Q
def aUn (f : V1) (a : aE) : aE := fun G M Q => a G M fun d M1 => f d M1 Q
theorem se_op {r : R2} {f : V2} {ta tb : TE} {a b : aE} (hr : S2 K r f) (ha : SE K ta a) (hb : SE K tb b) : SE K (tOp r ta tb) (aBin f a b) := by
  intro E G M N σ H C Q Qc h k
  refine ha E G M N σ H C _ _ h fun d v M1 N1 H1 h1 C1 s1 r1 => ?_
  refine hb E G M1 N1 σ H1 C1 _ _ h1 fun e u M2 N2 H2 h2 C2 s2 r2 => ?_
  exact hr E G M2 N2 σ H2 C2 v u d e (r1.mono s2) r2 Q Qc h2 (k.from (s1.trans s2))
theorem se_un {r : V → Hp → VK → Prop} {f : V1} {ta : TE} {a : aE} (hr : S1 K r f) (ha : SE K ta a) : SE K (tUn r ta) (aUn f a) := by
  intro E G M N σ H C Q Qc h k
  refine ha E G M N σ H C _ _ h fun d v M1 N1 H1 h1 C1 s1 r1 => ?_
  exact hr E G M1 N1 σ H1 C1 v d r1 Q Qc h1 (k.from s1)
theorem S2.or {r r' : R2} {f : V2} (hr : ∀ E G M N σ H, CC K E G M N σ H → ∀ x y d e, RelD K N x d → RelD K N y e → ∀ Q Qc, f d e M Q → Co K E G N σ Q Qc → r x y H Qc ∨ r' x y H Qc) : S2 K (fun x y H Q => r x y H Q ∨ r' x y H Q) f := hr

/-! ### ends -/
section
variable {E : En} {G : Gm} {M : Mp} {N H : Hp} {σ : L2.St} {Q : QD} {Qc : VK}
theorem Co.at (k : Co K E G N σ Q Qc) (C : CC K E G M N σ H) {d : D} {v : V} (h : Q d M) (r : RelD K N v d) : Qc v H := k d v M N H h C (Same.refl N) r
theorem Co.new (k : Co K E G N σ Q Qc) (C : CC K E G M N σ H) {p : Addr} {o : HO} {d : D} (hp : H p = none) (h : Q d M) (r : ∀ N', Same N N' → N' p = some o → RelD K N' (.ref p) d) : Qc (.ref p) (upd H p o) :=
  have s := same_new (o := o) (C.cm.none hp).1
  k d _ M _ _ h (C.new hp) s (r _ s upd_same)
theorem Co.newM (k : Co K E G N σ Q Qc) (C : CC K E G M N σ H) {p : Addr} {o : HO} {c : MC} (hp : H p = none) (hc : HasM K N (upd H p o) p c) (h : Q (.ref p) (mupd M p c)) : Qc (.ref p) (upd H p o) :=
  k (.ref p) _ _ N _ h (C.newM hp hc) (Same.refl N) (.ref p)
theorem Co.mut (k : Co K E G N σ Q Qc) (C : CC K E G M N σ H) {p : Addr} {o : HO} {c c0 : MC} {d : D} {v : V} (hp : M p = some c0) (hc : HasM K N (upd H p o) p c) (h : Q d (mupd M p c)) (r : RelD K N v d) : Qc v (upd H p o) :=
  k d v _ N _ h (C.mut hp hc) (Same.refl N) r
theorem CM.lst (c : CM K M N H) {a : Addr} {ds : List D} (h : M a = some (.lst ds)) : ∃ xs, H a = some (.lst xs) ∧ RelL K N xs ds := (c.hm _ _ h).2
theorem CM.dKs (c : CM K M N H) {a : Addr} {ds : List (Key × D)} (h : M a = some (.dK ds)) : ∃ xs, H a = some (.dK xs) ∧ RelF K N xs ds := (c.hm _ _ h).2
theorem CM.dTs (c : CM K M N H) {a : Addr} {ds : List (List Key × D)} (h : M a = some (.dT ds)) : ∃ xs, H a = some (.dT xs) ∧ RelF K N xs ds := (c.hm _ _ h).2
theorem CM.inst (c : CM K M N H) {a C : Addr} {ds : List (Str × D)} (h : M a = some (.ins C ds)) : ∃ dx fs, H a = some (.ins C dx fs) ∧ RelF K N fs ds := (c.hm _ _ h).2
theorem CM.noneM (c : CM K M N H) {p : Addr} (h : H p = Option.none) : M p = Option.none := (c.none h).2
end

/-! ### arithmetic -/
theorem big_le {n : Nat} (h : n ≤ 1000000) : n ≤ sizeLine := Nat.le_trans h (by decide)
theorem big_lt {n : Nat} (h : n ≤ 1000000) : n < sizeLine := Nat.lt_of_le_of_lt h (by decide)
def fAdd : V2 := fun d e M Q => match d, e with
  | .int i, .int j => Q (.int (i + j)) M
  | .str x, .str y => x.length + y.length ≤ 1000000 ∧ Q (.str (x ++ y)) M
  | .list xs, .list ys => xs.length + ys.length ≤ 1000000 ∧ Q (.list (xs ++ ys)) M
  | .tup xs, .tup ys => xs ≠ [] ∧ xs.length + ys.length ≤ 1000000 ∧ Q (.tup (xs ++ ys)) M
  | _, _ => False
def rAddA (K : PySem.W.Frag) : R2 := fun x y H Q => (rI0 fun i j => .int (i + j)) x y H Q ∨ (fun x y H Q => (∃ i j, x = .str i ∧ y = .str j ∧ i.length + j.length ≤ sizeLine ∧ Q (.str (i ++ j)) H) ∨ (fun x y H Q => rCat x y H Q ∨ rCatT K x y H Q) x y H Q) x y H Q
theorem op_addA : OpR X (binaryOp .Add) (rAddA X.K) := OpR.or op_add (OpR.or op_add_str (OpR.or op_cat op_catT))
theorem s2_add : S2 K (rAddA K) fAdd := by
  intro E G M N σ H C x y d e rx ry Q Qc h k
  unfold fAdd at h
  split at h
  · cases rx; cases ry
    exact .inl ⟨_, _, rfl, rfl, k.at C h (.int _)⟩
  · cases rx; cases ry
    exact .inr (.inl ⟨_, _, rfl, rfl, big_le h.1, k.at C h.2 (.str _)⟩)
  · cases rx with | list h1 r1 => cases ry with | list h2 r2 =>
    refine .inr (.inr (.inl ⟨_, _, _, _, rfl, rfl, C.cm.sm _ _ h1, C.cm.sm _ _ h2, ?_, fun p hp => ?_⟩))
    · rw [r1.length, r2.length]; exact big_le h.1
    · exact k.new C hp h.2 fun N' s e => .list e ((r1.append r2).mono s)
  · cases rx with | tup h1 r1 => cases ry with | tup h2 r2 =>
    refine .inr (.inr (.inr ⟨_, _, _, _, rfl, rfl, .of (C.cm.sm _ _ h1), .of (C.cm.sm _ _ h2), ?_, ?_, ?_, ?_⟩))
    · intro e; subst e; cases r1; exact h.1 rfl
    · rw [r1.length, r2.length]; exact big_le h.2.1
    · intro e; subst e; cases r2
      refine k.at C h.2.2 ?_
      rw [List.append_nil]; exact .tup h1 r1
    · intro e p hp
      exact k.new C hp h.2.2 fun N' s e => .tup e ((r1.append r2).mono s)
  · exact h.elim
variable {a b : Expr} {ta tb : TE} {aa ab : aE} {pos : Pos}
theorem de_add (ha : DE X a ta aa) (hb : DE X b tb ab) : DE X (.BinOp a .Add b pos) (tOp (rAddA X.K) ta tb) (aBin fAdd aa ab) := ⟨pe_op op_addA ha.pe hb.pe, se_op s2_add ha.se hb.se⟩
def fI (C : Int → Int → Prop) (g : Int → Int → D) : V2 := fun d e M Q => match d, e with
  | .int i, .int j => C i j ∧ Q (g i j) M
  | _, _ => False
def fI0 (g : Int → Int → D) : V2 := fun d e M Q => match d, e with
  | .int i, .int j => Q (g i j) M
  | _, _ => False
theorem s2_I {C : Int → Int → Prop} {g : Int → Int → V} {g' : Int → Int → D} (hg : ∀ N i j, RelD K N (g i j) (g' i j)) : S2 K (rI C g) (fI C g') := by
  intro E G M N σ H C x y d e rx ry Q Qc h k
  unfold fI at h
  split at h
  · cases rx; cases ry
    exact ⟨_, _, rfl, rfl, h.1, k.at C h.2 (hg _ _ _)⟩
  · exact h.elim
theorem s2_I0 {g : Int → Int → V} {g' : Int → Int → D} (hg : ∀ N i j, RelD K N (g i j) (g' i j)) : S2 K (rI0 g) (fI0 g') := by
  intro E G M N σ H C x y d e rx ry Q Qc h k
  unfold fI0 at h
  split at h
  · cases rx; cases ry
    exact ⟨_, _, rfl, rfl, k.at C h (hg _ _ _)⟩
  · exact h.elim
abbrev fSub : V2 := fI0 fun i j => .int (i - j)
theorem de_sub (ha : DE X a ta aa) (hb : DE X b tb ab) : DE X (.BinOp a .Sub b pos) (tOp (rI0 fun i j => .int (i - j)) ta tb) (aBin fSub aa ab) := ⟨pe_op op_sub ha.pe hb.pe, se_op (s2_I0 fun _ _ _ => .int _) ha.se hb.se⟩
/-- ints below 2^64 on one side; a list many times -/
def fMul : V2 := fun d e M Q => match d, e with
  | .int i, .int j => CMul i j ∧ Q (.int (i * j)) M
  | .list xs, .int k => 0 ≤ k ∧ k ≤ 1000000 ∧ xs.length * k.toNat ≤ 1000000 ∧ Q (.list (List.replicate k.toNat xs).flatten) M
  | _, _ => False
def rMulA : R2 := fun x y H Q => (rI CMul fun i j => .int (i * j)) x y H Q ∨ rRep x y H Q
theorem s2_mul : S2 K rMulA fMul := by
  intro E G M N σ H C x y d e rx ry Q Qc h k
  unfold fMul at h
  split at h
  · cases rx; cases ry
    exact .inl ⟨_, _, rfl, rfl, h.1, k.at C h.2 (.int _)⟩
  · cases rx with | list h1 r1 => cases ry with | int z =>
    obtain ⟨z0, z1, z2, z3⟩ := h
    refine .inr ⟨_, _, _, rfl, rfl, C.cm.sm _ _ h1, by omega, by omega, ?_, fun p hp => ?_⟩
    · rw [r1.length]; exact big_le z2
    · exact k.new C hp z3 fun N' s e => .list e ((r1.rep _).mono s)
  · exact h.elim
theorem de_mul (ha : DE X a ta aa) (hb : DE X b tb ab) : DE X (.BinOp a .Mult b pos) (tOp rMulA ta tb) (aBin fMul aa ab) := ⟨pe_op (OpR.or op_mul op_rep) ha.pe hb.pe, se_op s2_mul ha.se hb.se⟩
abbrev fDiv : V2 := fI CDiv fun i j => .int (i / j)
theorem de_div (ha : DE X a ta aa) (hb : DE X b tb ab) : DE X (.BinOp a .FloorDiv b pos) (tOp (rI CDiv fun i j => .int (i / j)) ta tb) (aBin fDiv aa ab) := ⟨pe_op op_fdiv ha.pe hb.pe, se_op (s2_I fun _ _ _ => .int _) ha.se hb.se⟩
abbrev fMod : V2 := fI (fun _ j => 0 < j) fun i j => .int (i % j)
theorem de_mod (ha : DE X a ta aa) (hb : DE X b tb ab) : DE X (.BinOp a .Mod b pos) (tOp (rI (fun _ j => 0 < j) fun i j => .int (i % j)) ta tb) (aBin fMod aa ab) := ⟨pe_op op_mod ha.pe hb.pe, se_op (s2_I fun _ _ _ => .int _) ha.se hb.se⟩
abbrev fPow : V2 := fI CPow fun i j => .int (i ^ j.toNat)
theorem de_pow (ha : DE X a ta aa) (hb : DE X b tb ab) : DE X (.BinOp a .Pow b pos) (tOp (rI CPow fun i j => .int (i ^ j.toNat)) ta tb) (aBin fPow aa ab) := ⟨pe_op op_pow ha.pe hb.pe, se_op (s2_I fun _ _ _ => .int _) ha.se hb.se⟩
abbrev fShl : V2 := fI CPow fun i j => .int (i * 2 ^ j.toNat)
theorem de_shl (ha : DE X a ta aa) (hb : DE X b tb ab) : DE X (.BinOp a .LShift b pos) (tOp (rI CPow fun i j => .int (i * 2 ^ j.toNat)) ta tb) (aBin fShl aa ab) := ⟨pe_op op_shl ha.pe hb.pe, se_op (s2_I fun _ _ _ => .int _) ha.se hb.se⟩
abbrev fShr : V2 := fI (fun _ j => 0 ≤ j) fun i j => .int (i / 2 ^ j.toNat)
theorem de_shr (ha : DE X a ta aa) (hb : DE X b tb ab) : DE X (.BinOp a .RShift b pos) (tOp (rI (fun _ j => 0 ≤ j) fun i j => .int (i / 2 ^ j.toNat)) ta tb) (aBin fShr aa ab) := ⟨pe_op op_shr ha.pe hb.pe, se_op (s2_I fun _ _ _ => .int _) ha.se hb.se⟩
abbrev fAnd : V2 := fI0 fun i j => .int (Builtin.bitAnd i j)
theorem de_band (ha : DE X a ta aa) (hb : DE X b tb ab) : DE X (.BinOp a .BitAnd b pos) (tOp (rI0 fun i j => .int (Builtin.bitAnd i j)) ta tb) (aBin fAnd aa ab) := ⟨pe_op op_and ha.pe hb.pe, se_op (s2_I0 fun _ _ _ => .int _) ha.se hb.se⟩
abbrev fOr : V2 := fI0 fun i j => .int (Builtin.bitOr i j)
theorem de_bor (ha : DE X a ta aa) (hb : DE X b tb ab) : DE X (.BinOp a .BitOr b pos) (tOp (rI0 fun i j => .int (Builtin.bitOr i j)) ta tb) (aBin fOr aa ab) := ⟨pe_op op_or ha.pe hb.pe, se_op (s2_I0 fun _ _ _ => .int _) ha.se hb.se⟩
def fNeg : V1 := fun d M Q => match d with
  | .int i => Q (.int (-i)) M
  | _ => False
theorem s1_neg : S1 K (rU fun i => .int (-i)) fNeg := by
  intro E G M N σ H C x d rx Q Qc h k
  unfold fNeg at h
  split at h
  · cases rx
    exact ⟨_, rfl, k.at C h (.int _)⟩
  · exact h.elim
theorem de_neg (ha : DE X a ta aa) : DE X (.UnaryOp .USub a pos) (tUn (rU fun i => .int (-i)) ta) (aUn fNeg aa) := ⟨pe_un un_neg ha.pe, se_un s1_neg ha.se⟩

/-! ### comparisons -/
theorem de_cmp {op : CmpOp} {r : R2} {f : V2} (ho : OpR X (compareOp op) r) (hs : S2 X.K r f) (ha : DE X a ta aa) (hb : DE X b tb ab) (hm : behindInMarks op b = false) : DE X (.Compare a [op] [b] pos) (tOp r ta tb) (aBin f aa ab) :=
  ⟨pe_cmpR ho ha.pe hb.pe hm, se_op hs ha.se hb.se⟩
def aTest (a : aE) : aT := fun G M Q => a G M fun d M1 => match d with
  | .bl k => Q k M1
  | _ => False
theorem st_test {te : TE} {ae : aE} (h : SE K te ae) : ST K (tTest te) (aTest ae) := by
  intro E G M N σ H C Q Qc q k
  refine h E G M N σ H C _ _ q fun d v M1 N1 H1 h1 C1 s1 r1 => ?_
  split at h1
  · cases r1
    exact ⟨_, rfl, k _ M1 N1 H1 h1 C1 s1⟩
  · exact h1.elim
theorem dt_cmp {op : CmpOp} {r : R2} {f : V2} (ho : OpR X (compareOp op) r) (hs : S2 X.K r f) (ha : DE X a ta aa) (hb : DE X b tb ab) (hm : behindInMarks op b = false) : DT X (.Compare a [op] [b] pos) (tTest (tOp r ta tb)) (aTest (aBin f aa ab)) :=
  ⟨pt_cmpR ho ha.pe hb.pe hm, st_test (se_op hs ha.se hb.se)⟩
/-- ints; texts for < alone -/
abbrev fGt : V2 := fI0 fun i j => .bl (decide (j < i))
abbrev fGe : V2 := fI0 fun i j => .bl (decide (j ≤ i))
abbrev fLt : V2 := fI0 fun i j => .bl (decide (i < j))
abbrev fLe : V2 := fI0 fun i j => .bl (decide (i ≤ j))
theorem s2_lt : S2 K (rI0 fun i j => .bl (decide (i < j))) fLt := s2_I0 fun _ _ _ => .bl _
theorem s2_le : S2 K (rI0 fun i j => .bl (decide (i ≤ j))) fLe := s2_I0 fun _ _ _ => .bl _
theorem s2_gt : S2 K (rI0 fun i j => .bl (decide (j < i))) fGt := s2_I0 fun _ _ _ => .bl _
theorem s2_ge : S2 K (rI0 fun i j => .bl (decide (j ≤ i))) fGe := s2_I0 fun _ _ _ => .bl _
end

/-! ### data as the model's == takes it -/
mutual
def toPy : D → PyData
  | .bl b => .bool b
  | .int i => .int i
  | .str x => .str x
  | .list xs => .list (toPys xs)
  | .rol xs => .list (toPys xs)
  | .tup xs => .tuple (toPys xs)
  | .rot xs => .tuple (toPys xs)
  | _ => .none
def toPys : List D → List PyData
  | [] => []
  | x :: xs => toPy x :: toPys xs
end
mutual
/-- none, bools, ints, short texts, lists and tuples of these, at most that deep -/
def eqOk : Nat → D → Bool
  | _, .non => true
  | _, .bl _ => true
  | _, .int _ => true
  | _, .str x => PyData.strOk x
  | n + 1, .list xs => eqOks n xs
  | n + 1, .rol xs => eqOks n xs
  | n + 1, .tup xs => eqOks n xs
  | n + 1, .rot xs => eqOks n xs
  | _, _ => false
def eqOks : Nat → List D → Bool
  | _, [] => true
  | n, x :: xs => eqOk n x && eqOks n xs
end

section
variable {K : PySem.W.Frag} {N H : Hp}
mutual
theorem dp_of (sm : Same N H) : ∀ (n : Nat) (d : D) (v : V), eqOk n d = true → RelD K N v d → Dp K H v (toPy d)
  | _, .non, v, _, r => by cases r; exact .non
  | _, .bl b, v, _, r => by cases r; exact .bl b
  | _, .int b, v, _, r => by cases r; exact .int b
  | _, .str b, v, _, r => by cases r; exact .str b
  | n + 1, .list xs, v, h, r => by
    cases r with | list h1 r1 => exact .lst (.of (sm _ _ h1)) (dps_of sm n xs _ (by simpa [eqOk] using h) r1)
  | n + 1, .rol xs, v, h, r => by
    cases r with | rol h1 r1 => exact .lst (sm.seq h1) (dps_of sm n xs _ (by simpa [eqOk] using h) r1)
  | n + 1, .tup xs, v, h, r => by
    cases r with | tup h1 r1 => exact .tup (.of (sm _ _ h1)) (dps_of sm n xs _ (by simpa [eqOk] using h) r1)
  | n + 1, .rot xs, v, h, r => by
    cases r with | rot h1 r1 => exact .tup (same_seqT sm h1) (dps_of sm n xs _ (by simpa [eqOk] using h) r1)
  | 0, .list xs, v, h, r => by simp [eqOk] at h
  | 0, .rol xs, v, h, r => by simp [eqOk] at h
  | 0, .tup xs, v, h, r => by simp [eqOk] at h
  | 0, .rot xs, v, h, r => by simp [eqOk] at h
  | _, .ty _, v, h, r => by simp [eqOk] at h
  | _, .obj _ _, v, h, r => by simp [eqOk] at h
  | _, .dK _, v, h, r => by simp [eqOk] at h
  | _, .dT _, v, h, r => by simp [eqOk] at h
  | _, .ref _, v, h, r => by simp [eqOk] at h
theorem dps_of (sm : Same N H) : ∀ (n : Nat) (d : List D) (v : List V), eqOks n d = true → RelL K N v d → DpAll K H v (toPys d)
  | _, [], v, _, r => by cases r; exact .nil
  | n, x :: xs, v, h, r => by
    cases r with | cons h1 r1 =>
    have h2 : eqOk n x = true ∧ eqOks n xs = true := by simpa [eqOks] using h
    exact .cons (dp_of sm n x _ h2.1 h1) (dps_of sm n xs _ h2.2 r1)
end
mutual
theorem shaped_of : ∀ (n : Nat) (d : D), eqOk n d = true → (toPy d).canLay0 = true ∧ (toPy d).depth ≤ n
  | _, .non, _ => ⟨rfl, Nat.zero_le _⟩
  | _, .bl b, _ => ⟨rfl, Nat.zero_le _⟩
  | _, .int b, _ => ⟨rfl, Nat.zero_le _⟩
  | _, .str b, h => ⟨by simpa [toPy, PyData.canLay0, eqOk] using h, Nat.zero_le _⟩
  | n + 1, .list xs, h => by
    have := shaped_ofs n xs (by simpa [eqOk] using h)
    exact ⟨by simp [toPy, PyData.canLay0, this.1], by simp [toPy, PyData.depth, this.2]⟩
  | n + 1, .rol xs, h => by
    have := shaped_ofs n xs (by simpa [eqOk] using h)
    exact ⟨by simp [toPy, PyData.canLay0, this.1], by simp [toPy, PyData.depth, this.2]⟩
  | n + 1, .tup xs, h => by
    have := shaped_ofs n xs (by simpa [eqOk] using h)
    exact ⟨by simp [toPy, PyData.canLay0, this.1], by simp [toPy, PyData.depth, this.2]⟩
  | n + 1, .rot xs, h => by
    have := shaped_ofs n xs (by simpa [eqOk] using h)
    exact ⟨by simp [toPy, PyData.canLay0, this.1], by simp [toPy, PyData.depth, this.2]⟩
  | 0, .list xs, h => by simp [eqOk] at h
  | 0, .rol xs, h => by simp [eqOk] at h
  | 0, .tup xs, h => by simp [eqOk] at h
  | 0, .rot xs, h => by simp [eqOk] at h
  | _, .ty _, h => by simp [eqOk] at h
  | _, .obj _ _, h => by simp [eqOk] at h
  | _, .dK _, h => by simp [eqOk] at h
  | _, .dT _, h => by simp [eqOk] at h
  | _, .ref _, h => by simp [eqOk] at h
theorem shaped_ofs : ∀ (n : Nat) (d : List D), eqOks n d = true → PyData.canLayAll0 (toPys d) = true ∧ PyData.depthAll (toPys d) ≤ n
  | _, [], _ => ⟨rfl, Nat.zero_le _⟩
  | n, x :: xs, h => by
    have h2 : eqOk n x = true ∧ eqOks n xs = true := by simpa [eqOks] using h
    have h3 := shaped_of n x h2.1
    have h4 := shaped_ofs n xs h2.2
    exact ⟨by simp [toPys, PyData.canLayAll0, h3.1, h4.1], by simp [toPys, PyData.depthAll]; omega⟩
end
theorem shaped9 {d : D} (h : eqOk 9 d = true) : SeqAt.shaped (toPy d) = true := by
  obtain ⟨h1, h2⟩ := shaped_of 9 d h
  unfold SeqAt.shaped
  rw [h1, decide_eq_true (by omega)]
  rfl
end
/-- a list that may change, as it stands -/
def snap (M : Mp) (d : D) : D := match d with
  | .ref a => (match M a with | some (.lst ds) => .list ds | _ => .ref a)
  | d => d
def eqv (d e : D) : Bool := PyData.eqv (toPy d) (toPy e)
section
variable {X : Cx} {K : PySem.W.Frag} {a b : Expr} {ta tb : TE} {aa ab : aE} {pos : Pos}
theorem dp_snap {M : Mp} {N H : Hp} {v : V} {d : D} (c : CM K M N H) (r : RelD K N v d) (h : eqOk 9 (snap M d) = true) : Dp K H v (toPy (snap M d)) := by
  by_cases q : ∃ a, d = .ref a
  · obtain ⟨a, rfl⟩ := q
    have e := rel_ref r
    subst e
    cases e2 : M a with
    | none => simp [snap, e2, eqOk] at h
    | some m =>
      cases m with
      | lst ds =>
        obtain ⟨xs, h1, h2⟩ := c.lst e2
        have e3 : snap M (.ref a) = .list ds := by simp [snap, e2]
        rw [e3] at h ⊢
        rw [toPy]
        exact .lst (.of h1) (dps_of c.sm 8 ds _ (by simpa [eqOk] using h) h2)
      | dK _ => simp [snap, e2, eqOk] at h
      | dT _ => simp [snap, e2, eqOk] at h
      | ins _ _ => simp [snap, e2, eqOk] at h
  · have e : snap M d = d := by
      unfold snap
      split
      · exact absurd ⟨_, rfl⟩ q
      · rfl
    rw [e] at h ⊢
    exact dp_of c.sm 9 _ _ h r
def fEq : V2 := fun d e M Q => eqOk 9 (snap M d) = true ∧ eqOk 9 (snap M e) = true ∧ Q (.bl (eqv (snap M d) (snap M e))) M
def fNe : V2 := fun d e M Q => eqOk 9 (snap M d) = true ∧ eqOk 9 (snap M e) = true ∧ Q (.bl (!eqv (snap M d) (snap M e))) M
theorem s2_eq : S2 K (rEqD K) fEq := by
  intro E G M N σ H C x y d e rx ry Q Qc h k
  exact ⟨_, _, dp_snap C.cm rx h.1, dp_snap C.cm ry h.2.1, shaped9 h.1, shaped9 h.2.1, k.at C h.2.2 (.bl _)⟩
theorem s2_ne : S2 K (rNeD K) fNe := by
  intro E G M N σ H C x y d e rx ry Q Qc h k
  exact ⟨_, _, dp_snap C.cm rx h.1, dp_snap C.cm ry h.2.1, shaped9 h.1, shaped9 h.2.1, k.at C h.2.2 (.bl _)⟩
/-- is None -/
def isNon : D → Bool
  | .non => true
  | _ => false
def fIs : V2 := fun d e M Q => match e with
  | .non => Q (.bl (isNon d)) M
  | _ => False
def fIsNot : V2 := fun d e M Q => match e with
  | .non => Q (.bl (!isNon d)) M
  | _ => False
theorem isNon_dec {N : Hp} {v : V} {d : D} (r : RelD K N v d) : decide (v = .non) = isNon d := by
  cases r <;> simp [isNon]
theorem s2_is : S2 K (fun x y H Q => y = .non ∧ Q (.bl (decide (x = .non))) H) fIs := by
  intro E G M N σ H C x y d e rx ry Q Qc h k
  unfold fIs at h
  split at h
  · cases ry
    refine ⟨rfl, k.at C h ?_⟩
    rw [isNon_dec rx]; exact .bl _
  · exact h.elim
theorem s2_isNot : S2 K (fun x y H Q => y = .non ∧ Q (.bl (!decide (x = .non))) H) fIsNot := by
  intro E G M N σ H C x y d e rx ry Q Qc h k
  unfold fIsNot at h
  split at h
  · cases ry
    refine ⟨rfl, k.at C h ?_⟩
    rw [isNon_dec rx]; exact .bl _
  · exact h.elim

/-! ### keys -/
def keyOf : D → Option Key
  | .int i => some (.inl i)
  | .str x => some (.inr x)
  | _ => none
def keysOf : List D → Option (List Key)
  | [] => some []
  | d :: ds => match keyOf d, keysOf ds with
    | some k, some ks => some (k :: ks)
    | _, _ => none
theorem key_rel {N : Hp} {v : V} {d : D} {q : Key} (r : RelD K N v d) (h : keyOf d = some q) : v = kV q := by
  cases r <;> simp [keyOf] at h <;> subst h <;> rfl
theorem keys_rel {N : Hp} : ∀ {vs : List V} {ds : List D} {q : List Key}, RelL K N vs ds → keysOf ds = some q → vs = q.map kV
  | _, _, q, .nil, h => by simp [keysOf] at h; subst h; rfl
  | _, _, q, .cons h1 r1, h => by
    unfold keysOf at h
    split at h
    · rename_i k ks e1 e2
      cases h
      rw [key_rel h1 e1, keys_rel r1 e2]
      rfl
    · cases h
def keyT : D → Option (List Key)
  | .tup ds => keysOf ds
  | _ => none
theorem keyT_rel {N : Hp} {v : V} {d : D} {q : List Key} (r : RelD K N v d) (h : keyT d = some q) : ∃ b, v = .ref b ∧ N b = some (.tup (q.map kV)) := by
  unfold keyT at h
  split at h
  · obtain ⟨b, xs, rfl, hb, rb⟩ := rel_tup r
    have e3 := keys_rel rb h
    subst e3
    exact ⟨b, rfl, hb⟩
  · cases h
def valD {k : Type} [DecidableEq k] (gs : List (k × D)) (x : k) : Option D := (gs.find? fun kv => decide (kv.1 = x)).map (·.2)
def putD {k : Type} [DecidableEq k] (gs : List (k × D)) (x : k) (d : D) : List (k × D) := if (gs.any fun kv => decide (kv.1 = x)) = true then gs.map (fun kv => if kv.1 = x then (kv.1, d) else kv) else gs ++ [(x, d)]
theorem RelF.val {N : Hp} {k : Type} [DecidableEq k] (x : k) : ∀ {vs : List (k × V)} {gs : List (k × D)}, RelF K N vs gs → (valV vs x = none ∧ valD gs x = none) ∨ ∃ v d, valV vs x = some v ∧ valD gs x = some d ∧ RelD K N v d
  | _, _, .nil => .inl ⟨rfl, rfl⟩
  | _, _, .cons (x := y) h r => by
    by_cases q : y = x
    · refine .inr ⟨_, _, valV_pos q, ?_, h⟩
      unfold valD
      rw [List.find?_cons_of_pos (by simp [q])]
      rfl
    · have e1 : ∀ {v : V} {r : List (k × V)}, valV ((y, v) :: r) x = valV r x := fun {v r} => valV_neg (p := (y, v)) (r := r) q
      rcases RelF.val x r with ⟨h1, h2⟩ | ⟨v, d, h1, h2, h3⟩
      · refine .inl ⟨by rw [e1, h1], ?_⟩
        unfold valD at *
        rw [List.find?_cons_of_neg (by simp [q])]
        exact h2
      · refine .inr ⟨v, d, by rw [e1, h1], ?_, h3⟩
        unfold valD at *
        rw [List.find?_cons_of_neg (by simp [q])]
        exact h2
theorem RelF.anyK {N : Hp} {k : Type} [DecidableEq k] (x : k) : ∀ {vs : List (k × V)} {gs : List (k × D)}, RelF K N vs gs → (vs.any fun kv => decide (kv.1 = x)) = (gs.any fun kv => decide (kv.1 = x))
  | _, _, .nil => rfl
  | _, _, .cons h r => by rw [List.any_cons, List.any_cons, RelF.anyK x r]
theorem RelF.app {N : Hp} {k : Type} : ∀ {vs ws : List (k × V)} {gs hs : List (k × D)}, RelF K N vs gs → RelF K N ws hs → RelF K N (vs ++ ws) (gs ++ hs)
  | _, _, _, _, .nil, s => s
  | _, _, _, _, .cons h r, s => .cons h (RelF.app r s)
theorem RelF.repl {N : Hp} {k : Type} [DecidableEq k] (x : k) {v : V} {d : D} (hd : RelD K N v d) : ∀ {vs : List (k × V)} {gs : List (k × D)}, RelF K N vs gs → RelF K N (vs.map fun kv => if kv.1 = x then (kv.1, v) else kv) (gs.map fun kv => if kv.1 = x then (kv.1, d) else kv)
  | _, _, .nil => .nil
  | _, _, .cons (x := y) h r => by
    rw [List.map_cons, List.map_cons]
    by_cases q : y = x
    · simp only [q, if_true]
      exact .cons hd (RelF.repl x hd r)
    · simp only [q, if_false]
      exact .cons h (RelF.repl x hd r)
theorem RelF.put {N : Hp} {k : Type} [DecidableEq k] (x : k) {v : V} {d : D} {vs : List (k × V)} {gs : List (k × D)} (r : RelF K N vs gs) (hd : RelD K N v d) : RelF K N (putK vs x v) (putD gs x d) := by
  unfold putK putD
  rw [r.anyK x]
  split
  · exact r.repl x hd
  · exact r.app (.cons hd .nil)
/-- what a dict (still or changing) holds at a key: none: no dict or no key; some o: o -/
def getDk (M : Mp) (d key : D) : Option (Option D) := match d with
  | .dK gs => (keyOf key).map (valD gs)
  | .dT gs => (keyT key).map (valD gs)
  | .ref a => (match M a with
    | some (.dK gs) => (keyOf key).map (valD gs)
    | some (.dT gs) => (keyT key).map (valD gs)
    | _ => none)
  | _ => none
theorem dget_of {M : Mp} {N H : Hp} {v y : V} {d key : D} {o : Option D} (c : CM K M N H) (r : RelD K N v d) (ry : RelD K N y key) (h : getDk M d key = some o) :
    ∃ a oV, v = .ref a ∧ DGet H a y oV ∧ ((oV = none ∧ o = none) ∨ ∃ x e, oV = some x ∧ o = some e ∧ RelD K N x e) := by
  have go1 : ∀ {a : Addr} {kvs : List (Key × V)} {gs : List (Key × D)}, Rd H a (.dK kvs) → RelF K N kvs gs → (keyOf key).map (valD gs) = some o →
      ∃ oV, DGet H a y oV ∧ ((oV = none ∧ o = none) ∨ ∃ x e, oV = some x ∧ o = some e ∧ RelD K N x e) := fun {a kvs gs} h1 r1 h2 => by
    obtain ⟨q, e1, e2⟩ := Option.map_eq_some_iff.mp h2
    have e3 := key_rel ry e1
    subst e3
    refine ⟨valV kvs q, .inl ⟨kvs, q, h1, rfl, rfl⟩, ?_⟩
    rcases r1.val q with ⟨x1, x2⟩ | ⟨x, e, x1, x2, x3⟩
    · exact .inl ⟨x1, by rw [← e2, x2]⟩
    · exact .inr ⟨x, e, x1, by rw [← e2, x2], x3⟩
  have go2 : ∀ {a : Addr} {kvs : List (List Key × V)} {gs : List (List Key × D)}, H a = some (.dT kvs) → RelF K N kvs gs → (keyT key).map (valD gs) = some o →
      ∃ oV, DGet H a y oV ∧ ((oV = none ∧ o = none) ∨ ∃ x e, oV = some x ∧ o = some e ∧ RelD K N x e) := fun {a kvs gs} h1 r1 h2 => by
    obtain ⟨q, e1, e2⟩ := Option.map_eq_some_iff.mp h2
    obtain ⟨b, rfl, hb⟩ := keyT_rel ry e1
    refine ⟨valV kvs q, .t h1 (c.sm _ _ hb), ?_⟩
    rcases r1.val q with ⟨x1, x2⟩ | ⟨x, e, x1, x2, x3⟩
    · exact .inl ⟨x1, by rw [← e2, x2]⟩
    · exact .inr ⟨x, e, x1, by rw [← e2, x2], x3⟩
  unfold getDk at h
  split at h
  · cases r with | dK h1 r1 =>
    obtain ⟨oV, g1, g2⟩ := go1 (.inr ⟨_, c.sm _ _ h1⟩) r1 h
    exact ⟨_, oV, rfl, g1, g2⟩
  · cases r with | dT h1 r1 =>
    obtain ⟨oV, g1, g2⟩ := go2 (c.sm _ _ h1) r1 h
    exact ⟨_, oV, rfl, g1, g2⟩
  · have e := rel_ref r
    subst e
    split at h
    · rename_i gs e
      obtain ⟨kvs, h1, r1⟩ := c.dKs e
      obtain ⟨oV, g1, g2⟩ := go1 (.inl h1) r1 h
      exact ⟨_, oV, rfl, g1, g2⟩
    · rename_i gs e
      obtain ⟨kvs, h1, r1⟩ := c.dTs e
      obtain ⟨oV, g1, g2⟩ := go2 h1 r1 h
      exact ⟨_, oV, rfl, g1, g2⟩
    · cases h
  · cases h

/-! ### in, not in -/
def flatD : D → Bool
  | .non => true
  | .bl _ => true
  | .int _ => true
  | .str _ => true
  | _ => false
def eqF : D → D → Bool
  | .non, .non => true
  | .bl a, .bl b => a == b
  | .bl a, .int b => (if a then 1 else 0) == b
  | .int a, .bl b => a == (if b then 1 else 0)
  | .int a, .int b => a == b
  | .str a, .str b => a == b
  | _, _ => false
def memD (d : D) (ds : List D) : Bool := ds.any fun e => eqF e d
theorem flat_rel {N : Hp} {v : V} {d : D} (r : RelD K N v d) (h : flatD d = true) : flatV v = true := by
  cases r <;> first | rfl | simp [flatD] at h
theorem eqF_rel {N : Hp} {v w : V} {d e : D} (r : RelD K N v d) (q : RelD K N w e) (h : flatD d = true) (h2 : flatD e = true) : eqV v w = eqF d e := by
  cases r <;> first | (simp [flatD] at h; done) | (cases q <;> first | rfl | (simp [flatD] at h2; done))
theorem flats_rel {N : Hp} : ∀ {vs : List V} {ds : List D}, RelL K N vs ds → ds.all flatD = true → vs.all flatV = true
  | _, _, .nil, _ => rfl
  | _, _, .cons h r, q => by
    rw [List.all_cons, Bool.and_eq_true] at q ⊢
    exact ⟨flat_rel h q.1, flats_rel r q.2⟩
theorem mem_rel {N : Hp} {v : V} {d : D} (rd : RelD K N v d) (hd : flatD d = true) : ∀ {vs : List V} {ds : List D}, RelL K N vs ds → ds.all flatD = true → inV v vs = memD d ds
  | _, _, .nil, _ => rfl
  | _, _, .cons h r, q => by
    rw [List.all_cons, Bool.and_eq_true] at q
    have e := mem_rel rd hd r q.2
    unfold inV memD at *
    rw [List.any_cons, List.any_cons, e, eqF_rel h rd q.1 hd]
def fIn (neg : Bool) : V2 := fun d e M Q => match itemsM M e with
  | some ds => flatD d = true ∧ ds.all flatD = true ∧ Q (.bl (if neg then !memD d ds else memD d ds)) M
  | none => match getDk M e d with
    | some o => Q (.bl (if neg then !o.isSome else o.isSome)) M
    | none => match d, e with
      | .str i, .str j => Q (.bl (if neg then !(!(Builtin.Str.occurrences j i 0 j.length 1).isEmpty) else !(Builtin.Str.occurrences j i 0 j.length 1).isEmpty)) M
      | _, _ => False
def rDIn (neg : Bool) : R2 := fun y x H Q => ∃ a o, x = .ref a ∧ DGet H a y o ∧ Q (.bl (if neg then !o.isSome else o.isSome)) H
def rSIn (neg : Bool) : R2 := fun x y H Q => ∃ i j, x = .str i ∧ y = .str j ∧ Q (.bl (if neg then !(!(Builtin.Str.occurrences j i 0 j.length 1).isEmpty) else !(Builtin.Str.occurrences j i 0 j.length 1).isEmpty)) H
def rInA (K : PySem.W.Frag) (neg : Bool) : R2 := fun x y H Q => rIn K neg x y H Q ∨ (fun x y H Q => rDIn neg x y H Q ∨ rSIn neg x y H Q) x y H Q
theorem op_in_dict (hu : X.A.units + 1 < cLine) : OpR X (compareOp .In) (rDIn false) := by
  intro pins s σ H x y v u Q I rx ry h
  obtain ⟨a, o, rfl, g, q⟩ := h
  cases ry
  exact d_in hu I g rx fun s3 I3 => ⟨.bl o.isSome, H, I3, rfl, q⟩
theorem op_notIn_dict (hu : X.A.units + 1 < cLine) : OpR X (compareOp .NotIn) (rDIn true) := by
  intro pins s σ H x y v u Q I rx ry h
  obtain ⟨a, o, rfl, g, q⟩ := h
  cases ry
  exact d_notIn hu I g rx fun s3 I3 => ⟨.bl (!o.isSome), H, I3, rfl, q⟩
theorem op_inA (hu : X.A.units + 1 < cLine) : OpR X (compareOp .In) (rInA X.K false) := OpR.or op_in_seq (OpR.or (op_in_dict hu) op_in_str)
theorem op_notInA (hu : X.A.units + 1 < cLine) : OpR X (compareOp .NotIn) (rInA X.K true) := OpR.or op_notIn_seq (OpR.or (op_notIn_dict hu) op_notin_str)
theorem s2_in {neg : Bool} : S2 K (rInA K neg) (fIn neg) := by
  intro E G M N σ H C x y d e rx ry Q Qc h k
  unfold fIn at h
  split at h
  · rename_i ds hi
    obtain ⟨h1, h2, h3⟩ := h
    obtain ⟨a, xs, rfl, r2, h4⟩ := rel_itemsM C.cm ry hi
    refine .inl ⟨a, xs, rfl, ?_, flat_rel rx h1, flats_rel r2 h2, ?_⟩
    · rcases h4 with ⟨_, h4⟩ | ⟨_, h4⟩
      · exact .inl h4
      · exact .inr h4
    · rw [mem_rel rx h1 r2 h2]
      exact k.at C h3 (.bl _)
  · split at h
    · rename_i o ho
      obtain ⟨a, oV, rfl, g, e⟩ := dget_of C.cm ry rx ho
      refine .inr (.inl ⟨a, oV, rfl, g, ?_⟩)
      have e2 : oV.isSome = o.isSome := by rcases e with ⟨e1, e2⟩ | ⟨_, _, e1, e2, _⟩ <;> rw [e1, e2] <;> rfl
      rw [e2]
      exact k.at C h (.bl _)
    · split at h
      · cases rx; cases ry
        exact .inr (.inr ⟨_, _, rfl, rfl, k.at C h (.bl _)⟩)
      · exact h.elim

/-! ### subscripts -/
def fIx : V2 := fun d e M Q => match e with
  | .int i => (match itemsM M d with
    | some ds => (match atI ds i with | some x => Q x M | none => False)
    | none => (match d with
      | .str z => z.length ≤ 1000000 ∧ (match atI z.cps.toList i with | some c => Q (.str ⟨#[c]⟩) M | none => False)
      | d => (match getDk M d (.int i) with | some (some x) => Q x M | _ => False)))
  | e => (match getDk M d e with | some (some x) => Q x M | _ => False)
def rIxD : R2 := fun x y H Q => ∃ a v, x = .ref a ∧ DGet H a y (some v) ∧ Q v H
theorem ix_dict (hu : X.A.units + 1 < cLine) : IxR X rIxD := by
  intro value slice pins s σ H x y v u Q I rx ry h hs
  obtain ⟨a, z, rfl, g, q⟩ := h
  cases rx
  exact tail_any (dict_typeIs I g) PySem.F.slot_dict_getitem.lookup (d_getItem hu I g ry fun w' s3 I3 rw' => ⟨z, H, I3, rw', q⟩) hs
def rIxA (K : PySem.W.Frag) : R2 := fun x y H Q => rIx K x y H Q ∨ rIxD x y H Q
theorem ix_any (hu : X.A.units + 1 < cLine) : IxR X (rIxA X.K) := IxR.or ix_seq (ix_dict hu)
theorem s2_ix : S2 K (rIxA K) fIx := by
  intro E G M N σ H C x y d e rx ry Q Qc h k
  have go : (match getDk M d e with | some (some x) => Q x M | _ => False) → rIxA K x y H Qc := fun h => by
    split at h
    · rename_i z hz
      obtain ⟨a, oV, rfl, g, e⟩ := dget_of C.cm rx ry hz
      rcases e with ⟨_, e⟩ | ⟨x1, x2, rfl, e, r⟩
      · cases e
      · cases e
        exact .inr ⟨a, _, rfl, g, k.at C h r⟩
    · exact h.elim
  unfold fIx at h
  split at h
  · rename_i i
    cases ry
    split at h
    · rename_i ds hi
      split at h
      · rename_i z hz
        obtain ⟨a, xs, rfl, r2, h4⟩ := rel_itemsM C.cm rx hi
        obtain ⟨w, e1, e2⟩ := r2.atI hz
        rcases h4 with ⟨_, h4⟩ | ⟨_, h4⟩
        · exact .inl (.inl ⟨a, xs, i, w, rfl, rfl, h4, e1, k.at C h e2⟩)
        · exact .inl (.inr (.inl ⟨a, xs, i, w, rfl, rfl, h4, e1, k.at C h e2⟩))
      · exact h.elim
    · split at h
      · cases rx
        obtain ⟨h0, h⟩ := h
        split at h
        · rename_i c hc
          exact .inl (.inr (.inr ⟨_, i, c, rfl, rfl, big_le h0, hc, k.at C h (.str _)⟩))
        · exact h.elim
      · exact go h
  · exact go h
theorem de_ix (hu : X.A.units + 1 < cLine) (ha : DE X a ta aa) (hb : DE X b tb ab) (hs : PlainIx b) : DE X (.Subscript a b pos) (tOp (rIxA X.K) ta tb) (aBin fIx aa ab) := ⟨pe_ix (ix_any hu) ha.pe hb.pe hs, se_op s2_ix ha.se hb.se⟩
end
end DL

set_option Elab.async false
set_option linter.all false
set_option maxRecDepth 100000
namespace DL
open PySem PySem.Spec PyProof.Rows L2
section
variable {X : Cx} {K : PySem.W.Frag} {e a b c : Expr} {es : List Expr} {te ta tb tc : TE} {t : TA} {ae aa ab ac : aE} {at1 : aA} {pos : Pos}
theorem hasL {N H : Hp} {p : Addr} {xs : List V} {ds : List D} (h : H p = some (.lst xs)) (r : RelL K N xs ds) : HasM K N H p (.lst ds) := ⟨xs, h, r⟩
theorem hasK {N H : Hp} {p : Addr} {xs : List (Key × V)} {ds : List (Key × D)} (h : H p = some (.dK xs)) (r : RelF K N xs ds) : HasM K N H p (.dK ds) := ⟨xs, h, r⟩
theorem hasT {N H : Hp} {p : Addr} {xs : List (List Key × V)} {ds : List (List Key × D)} (h : H p = some (.dT xs)) (r : RelF K N xs ds) : HasM K N H p (.dT ds) := ⟨xs, h, r⟩
theorem hasI {N H : Hp} {p C dx : Addr} {xs : List (Str × V)} {ds : List (Str × D)} (h : H p = some (.ins C dx xs)) (r : RelF K N xs ds) : HasM K N H p (.ins C ds) := ⟨dx, xs, h, r⟩
/-! ### argument lists, displays -/
def aNil : aA := fun _ M Q => Q [] M
def aCons (x : aE) (r : aA) : aA := fun G M Q => x G M fun d M1 => r G M1 fun ds M2 => Q (d :: ds) M2
theorem sa_nil : SA K tNil aNil := fun E G M N σ H C Q Qc h k => k [] [] M N H h C (Same.refl N) .nil
theorem sa_cons (h : SE K te ae) (h2 : SA K t at1) : SA K (tCons te t) (aCons ae at1) := by
  intro E G M N σ H C Q Qc q k
  refine h E G M N σ H C _ _ q fun d v M1 N1 H1 h1 C1 s1 r1 => ?_
  refine h2 E G M1 N1 σ H1 C1 _ _ h1 fun ds vs M2 N2 H2 h2 C2 s2 r2 => ?_
  exact k _ _ M2 N2 H2 h2 C2 (s1.trans s2) (.cons (r1.mono s2) r2)
theorem da_nil : DA X [] tNil aNil := ⟨pa_nil, sa_nil⟩
theorem da_cons (ha : DE X e te ae) (hr : DA X es t at1) (hs : starEach (e :: es) X.env = (false, eval e X.env) :: starEach es X.env := by rfl) : DA X (e :: es) (tCons te t) (aCons ae at1) := ⟨pa_cons ha.pe hr.pa hs, sa_cons ha.se hr.sa⟩
/-- a tuple; a list that stands still; a list that may change -/
def aTup (x : aA) : aE := fun G M Q => x G M fun ds M1 => ds.length ≤ 1000000 ∧ Q (.tup ds) M1
def aLst (x : aA) : aE := fun G M Q => x G M fun ds M1 => ds.length ≤ 1000000 ∧ Q (.list ds) M1
def aLstM (x : aA) : aE := fun G M Q => x G M fun ds M1 => ds.length ≤ 1000000 ∧ ∀ p, M1 p = none → Q (.ref p) (mupd M1 p (.lst ds))
theorem se_tup (h : SA K t at1) : SE K (tTup t) (aTup at1) := by
  intro E G M N σ H C Q Qc q k
  refine h E G M N σ H C _ _ q fun ds vs M1 N1 H1 h1 C1 s1 r1 => ⟨by rw [r1.length]; exact big_le h1.1, fun p hp => ?_⟩
  exact (k.from s1).new C1 hp h1.2 fun N' s e => .tup e (r1.mono s)
theorem se_lst (h : SA K t at1) : SE K (tLst t) (aLst at1) := by
  intro E G M N σ H C Q Qc q k
  refine h E G M N σ H C _ _ q fun ds vs M1 N1 H1 h1 C1 s1 r1 => ⟨by rw [r1.length]; exact big_le h1.1, fun p hp => ?_⟩
  exact (k.from s1).new C1 hp h1.2 fun N' s e => .list e (r1.mono s)
theorem se_lstM (h : SA K t at1) : SE K (tLst t) (aLstM at1) := by
  intro E G M N σ H C Q Qc q k
  refine h E G M N σ H C _ _ q fun ds vs M1 N1 H1 h1 C1 s1 r1 => ⟨by rw [r1.length]; exact big_le h1.1, fun p hp => ?_⟩
  exact (k.from s1).newM C1 hp (hasL upd_same r1) (h1.2 p (C1.cm.noneM hp))
theorem de_tup {x1} (h : DA X es t at1) : DE X (.Tuple es x1 pos) (tTup t) (aTup at1) := ⟨pe_tup h.pa, se_tup h.sa⟩
theorem de_lst (h : DA X es t at1) : DE X (.List es pos) (tLst t) (aLst at1) := ⟨pe_lst h.pa, se_lst h.sa⟩
theorem de_lstM (h : DA X es t at1) : DE X (.List es pos) (tLst t) (aLstM at1) := ⟨pe_lst h.pa, se_lstM h.sa⟩
/-- {} to change, with int and text keys; with tuple keys -/
def aDNewK : aE := fun _ M Q => ∀ p, M p = none → Q (.ref p) (mupd M p (.dK []))
def aDNewT : aE := fun _ M Q => ∀ p, M p = none → Q (.ref p) (mupd M p (.dT []))
theorem de_dnewK : DE X (.Dict [] [] pos) tDNewK aDNewK := ⟨pe_dnewK, by
  intro E G M N σ H C Q Qc q k p hp
  exact k.newM C hp (hasK upd_same .nil) (q p (C.cm.noneM hp))⟩
theorem de_dnewT : DE X (.Dict [] [] pos) tDNewT aDNewT := ⟨pe_dnewT, by
  intro E G M N σ H C Q Qc q k p hp
  exact k.newM C hp (hasT upd_same .nil) (q p (C.cm.noneM hp))⟩

/-! ### tests -/
def truD (M : Mp) : D → Option Bool
  | .non => some false
  | .bl b => some b
  | .int i => some (i != 0)
  | .str y => if y.length ≤ 1000000 then some ((y.length : Int) != 0) else none
  | .list xs => some (!xs.isEmpty)
  | .rol xs => some (!xs.isEmpty)
  | .tup xs => some (!xs.isEmpty)
  | .rot xs => some (!xs.isEmpty)
  | .dK gs => some (!gs.isEmpty)
  | .ref a => (match M a with
    | some (.lst ds) => some (!ds.isEmpty)
    | some (.dK ds) => some (!ds.isEmpty)
    | _ => none)
  | _ => none
theorem emp_L {N : Hp} {xs : List V} {ds : List D} (r : RelL K N xs ds) : xs.isEmpty = ds.isEmpty := by cases r <;> rfl
theorem emp_F {N : Hp} {k : Type} {xs : List (k × V)} {ds : List (k × D)} (r : RelF K N xs ds) : xs.isEmpty = ds.isEmpty := by cases r <;> rfl
/-- .. also of a locked dict -/
def TruF (K : PySem.W.Frag) (x : V) (H : Hp) (k : Bool) : Prop := TruV K x H k ∨ ∃ p ob kvs, x = .ref p ∧ H p = some (.frz ob (.dK kvs)) ∧ k = !kvs.isEmpty
theorem tru_okF : TruR X (fun x H Q => ∃ k, TruF X.K x H k ∧ Q k H) := by
  intro pins s σ H x v Q I rx h
  obtain ⟨k, e | ⟨p, ob, kvs, rfl, hx, rfl⟩, q⟩ := h
  · exact tru_ok pins s σ H x v Q I rx ⟨k, e, q⟩
  · cases rx
    have hl := line63
    obtain ⟨_, hz, hS, vs, r, m⟩ : s.heap.get? p = some ob ∧ kvs.length ≤ sizeLine ∧ (p == sysModules) = false ∧ ∃ vs, KV kvs vs ∧ s.heap.DictOf (mixKind X.prog X.w) p vs := I.hok p _ hx
    have hlen : kvs.length = vs.length := Paired.length r
    exact wpAny_truthy_dict hS m (by omega) ⟨H, I.tok _, by rw [isEmpty_kv r]; exact q⟩
theorem pt_truthF (ha : PE X a ta) (he : ∀ whole, isTrue a X.env whole = (do let v ← whole; standAt a.pos; holding [v] (truthy v))) :
    PT X a (fun σ H Q => ta σ H fun x H' => ∃ k, TruF X.K x H' k ∧ Q k H') := by
  refine ⟨fun pins s σ H Q I h => ?_⟩
  exact isTrue_plain (thn (ha.run pins s σ H _ I h) fun v s1 ⟨x, H1, I1, r1, q1⟩ => tru_okF pins s1 σ H1 x v Q I1 r1 q1) (he _)
theorem tru_rel {M : Mp} {N H : Hp} {v : V} {d : D} {k : Bool} (c : CM K M N H) (r : RelD K N v d) (h : truD M d = some k) : TruF K v H k := by
  cases r <;> simp only [truD] at h
  case non => cases h; exact .inl rfl
  case bl => cases h; exact .inl rfl
  case int => cases h; exact .inl rfl
  case str y =>
    split at h
    · rename_i h2
      cases h
      exact .inl ⟨big_le h2, rfl⟩
    · cases h
  case ty => cases h
  case list h1 r1 => cases h; exact .inl (.inl ⟨_, .of (c.sm _ _ h1), by rw [emp_L r1]⟩)
  case rol h1 r1 => cases h; exact .inl (.inl ⟨_, c.sm.seq h1, by rw [emp_L r1]⟩)
  case tup h1 r1 => cases h; exact .inl (.inr (.inl ⟨_, .of (c.sm _ _ h1), by rw [emp_L r1]⟩))
  case rot h1 r1 => cases h; exact .inl (.inr (.inl ⟨_, same_seqT c.sm h1, by rw [emp_L r1]⟩))
  case obj => cases h
  case dK h1 r1 => cases h; exact .inr ⟨_, _, _, rfl, c.sm _ _ h1, by rw [emp_F r1]⟩
  case dT => cases h
  case ref a =>
    split at h
    · rename_i ds e
      cases h
      obtain ⟨xs, h1, r1⟩ := c.lst e
      exact .inl (.inl ⟨_, .of h1, by rw [emp_L r1]⟩)
    · rename_i ds e
      cases h
      obtain ⟨xs, h1, r1⟩ := c.dKs e
      exact .inl (.inr (.inr ⟨_, h1, by rw [emp_F r1]⟩))
    · cases h
def aTru (x : aE) : aT := fun G M Q => x G M fun d M1 => match truD M1 d with
  | some k => Q k M1
  | none => False
theorem dt_tru (ha : DE X a ta aa) (he : ∀ whole, isTrue a X.env whole = (do let v ← whole; standAt a.pos; holding [v] (truthy v)) := by intro _; rfl) :
    DT X a (fun σ H Q => ta σ H fun x H' => ∃ k, TruF X.K x H' k ∧ Q k H') (aTru aa) := ⟨pt_truthF ha.pe he, by
  intro E G M N σ H C Q Qc q k
  refine ha.se E G M N σ H C _ _ q fun d v M1 N1 H1 h1 C1 s1 r1 => ?_
  split at h1
  · rename_i b hb
    exact ⟨b, tru_rel C1.cm r1 hb, k b M1 N1 H1 h1 C1 s1⟩
  · exact h1.elim⟩
variable {tA tB' : TT} {aA' aB' : aT} {rest : List Expr}
def atAnd (x y : aT) : aT := fun G M Q => x G M fun b M1 => if b = true then y G M1 Q else Q false M1
def atOr (x y : aT) : aT := fun G M Q => x G M fun b M1 => if b = true then Q true M1 else y G M1 Q
def atNot (x : aT) : aT := fun G M Q => x G M fun b M1 => Q (!b) M1
theorem st_and (h : ST K tA aA') (h2 : ST K tB' aB') : ST K (tAnd tA tB') (atAnd aA' aB') := by
  intro E G M N σ H C Q Qc q k
  refine h E G M N σ H C _ _ q fun b M1 N1 H1 h1 C1 s1 => ?_
  cases b with
  | true =>
    rw [if_pos rfl] at h1 ⊢
    exact h2 E G M1 N1 σ H1 C1 Q Qc h1 (k.from s1)
  | false =>
    rw [if_neg Bool.false_ne_true] at h1 ⊢
    exact k _ M1 N1 H1 h1 C1 s1
theorem st_or (h : ST K tA aA') (h2 : ST K tB' aB') : ST K (tOr tA tB') (atOr aA' aB') := by
  intro E G M N σ H C Q Qc q k
  refine h E G M N σ H C _ _ q fun b M1 N1 H1 h1 C1 s1 => ?_
  cases b with
  | true =>
    rw [if_pos rfl] at h1 ⊢
    exact k _ M1 N1 H1 h1 C1 s1
  | false =>
    rw [if_neg Bool.false_ne_true] at h1 ⊢
    exact h2 E G M1 N1 σ H1 C1 Q Qc h1 (k.from s1)
theorem st_not (h : ST K tA aA') : ST K (tNot tA) (atNot aA') := by
  intro E G M N σ H C Q Qc q k
  exact h E G M N σ H C _ _ q fun b M1 N1 H1 h1 C1 s1 => k _ M1 N1 H1 h1 C1 s1
theorem dw_and1 (ha : DT X a tA aA') : DW X (.BoolOp .And [a] pos) tA aA' := ⟨pw_and1 ha.pt, ha.st⟩
theorem dw_or1 (ha : DT X a tA aA') : DW X (.BoolOp .Or [a] pos) tA aA' := ⟨pw_or1 ha.pt, ha.st⟩
theorem dw_and (ha : DT X a tA aA') (hb : DW X (.BoolOp .And (b :: rest) pos) tB' aB') : DW X (.BoolOp .And (a :: b :: rest) pos) (tAnd tA tB') (atAnd aA' aB') := ⟨pw_and ha.pt hb.pw, st_and ha.st hb.st⟩
theorem dw_or (ha : DT X a tA aA') (hb : DW X (.BoolOp .Or (b :: rest) pos) tB' aB') : DW X (.BoolOp .Or (a :: b :: rest) pos) (tOr tA tB') (atOr aA' aB') := ⟨pw_or ha.pt hb.pw, st_or ha.st hb.st⟩
theorem DW.dt (h : DW X e tA aA') : DT X e tA aA' := ⟨h.pw.pt, h.st⟩
theorem dt_not (ha : DT X a tA aA') : DT X (.UnaryOp .Not a pos) (tNot tA) (atNot aA') := ⟨pt_not ha.pt, st_not ha.st⟩
/-- .. as values (bools) -/
def aAndV (x y : aE) : aE := fun G M Q => x G M fun d M1 => match d with
  | .bl k => if k = true then y G M1 Q else Q (.bl false) M1
  | _ => False
def aOrV (x y : aE) : aE := fun G M Q => x G M fun d M1 => match d with
  | .bl k => if k = true then Q (.bl true) M1 else y G M1 Q
  | _ => False
def fNot : V1 := fun d M Q => match d with
  | .bl k => Q (.bl (!k)) M
  | _ => False
theorem se_andV (h : SE K ta aa) (h2 : SE K tb ab) : SE K (tAndV ta tb) (aAndV aa ab) := by
  intro E G M N σ H C Q Qc q k
  refine h E G M N σ H C _ _ q fun d v M1 N1 H1 h1 C1 s1 r1 => ?_
  split at h1
  · rename_i b
    cases r1
    refine ⟨b, rfl, ?_⟩
    cases b with
    | true =>
      rw [if_pos rfl] at h1 ⊢
      exact h2 E G M1 N1 σ H1 C1 Q Qc h1 (k.from s1)
    | false =>
      rw [if_neg Bool.false_ne_true] at h1 ⊢
      exact (k.from s1).at C1 h1 (.bl _)
  · exact h1.elim
theorem se_orV (h : SE K ta aa) (h2 : SE K tb ab) : SE K (tOrV ta tb) (aOrV aa ab) := by
  intro E G M N σ H C Q Qc q k
  refine h E G M N σ H C _ _ q fun d v M1 N1 H1 h1 C1 s1 r1 => ?_
  split at h1
  · rename_i b
    cases r1
    refine ⟨b, rfl, ?_⟩
    cases b with
    | true =>
      rw [if_pos rfl] at h1 ⊢
      exact (k.from s1).at C1 h1 (.bl _)
    | false =>
      rw [if_neg Bool.false_ne_true] at h1 ⊢
      exact h2 E G M1 N1 σ H1 C1 Q Qc h1 (k.from s1)
  · exact h1.elim
theorem se_notV (h : SE K ta aa) : SE K (tNotV ta) (aUn fNot aa) := by
  intro E G M N σ H C Q Qc q k
  refine h E G M N σ H C _ _ q fun d v M1 N1 H1 h1 C1 s1 r1 => ?_
  unfold fNot at h1
  split at h1
  · cases r1
    exact ⟨_, rfl, (k.from s1).at C1 h1 (.bl _)⟩
  · exact h1.elim
theorem de_one {op} (h : DE X a ta aa) : DE X (.BoolOp op [a] pos) ta aa := ⟨pe_one h.pe, h.se⟩
theorem de_and (ha : DE X a ta aa) (hb : DE X (.BoolOp .And (b :: rest) pos) tb ab) : DE X (.BoolOp .And (a :: b :: rest) pos) (tAndV ta tb) (aAndV aa ab) := ⟨pe_and ha.pe hb.pe, se_andV ha.se hb.se⟩
theorem de_or (ha : DE X a ta aa) (hb : DE X (.BoolOp .Or (b :: rest) pos) tb ab) : DE X (.BoolOp .Or (a :: b :: rest) pos) (tOrV ta tb) (aOrV aa ab) := ⟨pe_or ha.pe hb.pe, se_orV ha.se hb.se⟩
theorem de_not (ha : DE X a ta aa) : DE X (.UnaryOp .Not a pos) (tNotV ta) (aUn fNot aa) := ⟨pe_not ha.pe, se_notV ha.se⟩
/-- a if t else b -/
def aIf (t : aT) (x y : aE) : aE := fun G M Q => t G M fun k M1 => if k = true then x G M1 Q else y G M1 Q
theorem de_ifExp (hc : DT X c tA aA') (ha : DE X a ta aa) (hb : DE X b tb ab) : DE X (.IfExp c a b pos) (tIf tA ta tb) (aIf aA' aa ab) := ⟨pe_ifExp hc.pt ha.pe hb.pe, by
  intro E G M N σ H C Q Qc q k
  refine hc.st E G M N σ H C _ _ q fun b M1 N1 H1 h1 C1 s1 => ?_
  cases b with
  | true =>
    rw [if_pos rfl] at h1 ⊢
    exact ha.se E G M1 N1 σ H1 C1 Q Qc h1 (k.from s1)
  | false =>
    rw [if_neg Bool.false_ne_true] at h1 ⊢
    exact hb.se E G M1 N1 σ H1 C1 Q Qc h1 (k.from s1)⟩

/-! ### calls of built-ins -/
def aCB (f : VL) (x : aA) : aE := fun G M Q => x G M fun ds M1 => f ds M1 Q
theorem se_cb {r : List V → Hp → VK → Prop} {f : VL} (hr : SL K r f) (h : SA K t at1) : SE K (tCB r t) (aCB f at1) := by
  intro E G M N σ H C Q Qc q k
  refine h E G M N σ H C _ _ q fun ds vs M1 N1 H1 h1 C1 s1 r1 => ?_
  exact hr E G M1 N1 σ H1 C1 vs ds r1 Q Qc h1 (k.from s1)
variable {x : Str} {p : Pos} {id T : String} {r : List V → Hp → VK → Prop} {f : VL}
theorem de_callB (hc : CallR X (.builtin id) r) (hs : SL X.K r f) (hg : Gl X x) (hm : X.mg x = none) (hv : bootBuiltins x = some (.builtin id)) (ha : DA X (e :: es) t at1) (hn : x ≠ "__name__" := by decide) (hdb : (x == ("__debug__" : Str)) = false := by decide)
    (he : starEach (e :: es) X.env = (false, eval e X.env) :: starEach es X.env := by rfl) (hpl : (backTo pos (starEach es X.env)).any (·.1) = false := by rfl) : DE X (.Call (.Name x p) (e :: es) [] pos) (tCB r t) (aCB f at1) :=
  ⟨pe_callB hc hg hm hv ha.pa hn hdb he hpl, se_cb hs ha.sa⟩
theorem de_callTy (hc : CallR X (.type T) r) (hs : SL X.K r f) (hg : Gl X x) (hm : X.mg x = none) (hv : bootBuiltins x = some (.type T)) (ha : DA X (e :: es) t at1) (hn : x ≠ "__name__" := by decide) (hdb : (x == ("__debug__" : Str)) = false := by decide)
    (he : starEach (e :: es) X.env = (false, eval e X.env) :: starEach es X.env := by rfl) (hpl : (backTo pos (starEach es X.env)).any (·.1) = false := by rfl) : DE X (.Call (.Name x p) (e :: es) [] pos) (tCB r t) (aCB f at1) :=
  ⟨pe_callTy hc hg hm hv ha.pa hn hdb he hpl, se_cb hs ha.sa⟩
theorem rel1 {N : Hp} {vs : List V} {d : D} (r : RelL K N vs [d]) : ∃ v, vs = [v] ∧ RelD K N v d := by cases r with | cons h r => cases r; exact ⟨_, rfl, h⟩
theorem rel2 {N : Hp} {vs : List V} {d e : D} (r : RelL K N vs [d, e]) : ∃ v w, vs = [v, w] ∧ RelD K N v d ∧ RelD K N w e := by cases r with | cons h r => cases r with | cons h2 r => cases r; exact ⟨_, _, rfl, h, h2⟩
/-- int(x) -/
def fInt : VL := fun ds M Q => match ds with
  | [.int i] => Q (.int i) M
  | [.bl k] => Q (.int (if k then 1 else 0)) M
  | _ => False
theorem sl_int : SL K (fun xs H Q => (∃ i, xs = [.int i] ∧ Q (.int i) H) ∨ ∃ k, xs = [.bl k] ∧ Q (.int (if k then 1 else 0)) H) fInt := by
  intro E G M N σ H C xs ds rx Q Qc h k
  unfold fInt at h
  split at h
  · obtain ⟨v, rfl, r⟩ := rel1 rx
    cases r
    exact .inl ⟨_, rfl, k.at C h (.int _)⟩
  · obtain ⟨v, rfl, r⟩ := rel1 rx
    cases r
    exact .inr ⟨_, rfl, k.at C h (.int _)⟩
  · exact h.elim
def fAbs : VL := fun ds M Q => match ds with
  | [.int i] => Q (.int (if i < 0 then -i else i)) M
  | _ => False
theorem sl_abs : SL K (fun xs H Q => ∃ i, xs = [.int i] ∧ Q (.int (if i < 0 then -i else i)) H) fAbs := by
  intro E G M N σ H C xs ds rx Q Qc h k
  unfold fAbs at h
  split at h
  · obtain ⟨v, rfl, r⟩ := rel1 rx
    cases r
    exact ⟨_, rfl, k.at C h (.int _)⟩
  · exact h.elim
def fMax2 : VL := fun ds M Q => match ds with
  | [.int i, .int j] => Q (.int (if j > i then j else i)) M
  | _ => False
theorem sl_max2 : SL K (fun xs H Q => ∃ i j, xs = [.int i, .int j] ∧ Q (.int (if j > i then j else i)) H) fMax2 := by
  intro E G M N σ H C xs ds rx Q Qc h k
  unfold fMax2 at h
  split at h
  · obtain ⟨v, w, rfl, r, r2⟩ := rel2 rx
    cases r; cases r2
    exact ⟨_, _, rfl, k.at C h (.int _)⟩
  · exact h.elim
def fMin2 : VL := fun ds M Q => match ds with
  | [.int i, .int j] => Q (.int (if j < i then j else i)) M
  | _ => False
theorem sl_min2 : SL K (fun xs H Q => ∃ i j, xs = [.int i, .int j] ∧ Q (.int (if j < i then j else i)) H) fMin2 := by
  intro E G M N σ H C xs ds rx Q Qc h k
  unfold fMin2 at h
  split at h
  · obtain ⟨v, w, rfl, r, r2⟩ := rel2 rx
    cases r; cases r2
    exact ⟨_, _, rfl, k.at C h (.int _)⟩
  · exact h.elim
/-- len(x): a text, a list, a tuple, a dict with int and text keys -/
def fLen : VL := fun ds M Q => match ds with
  | [d] => (match itemsM M d with
    | some xs => Q (.int (xs.length : Nat)) M
    | none => (match d with
      | .str z => z.length ≤ 1000000 ∧ Q (.int (z.length : Nat)) M
      | .dK gs => Q (.int (gs.length : Nat)) M
      | .ref a => (match M a with | some (.dK gs) => Q (.int (gs.length : Nat)) M | _ => False)
      | _ => False))
  | _ => False
def rLenD : List V → Hp → VK → Prop := fun xs H Q => ∃ a kvs, xs = [.ref a] ∧ Rd H a (.dK kvs) ∧ Q (.int (kvs.length : Nat)) H
theorem call_lenDd : CallR X (.builtin "len") rLenD := by
  intro pins s σ H xs us Q I r h
  obtain ⟨a, kvs, rfl, hd, q⟩ := h
  obtain rfl := r.ref1
  exact d_len I hd fun t s' I' => ⟨.int kvs.length, H, I', ⟨_, rfl⟩, q⟩
def rLenA (K : PySem.W.Frag) : List V → Hp → VK → Prop := fun xs H Q => (fun xs H Q => ∃ p ys, xs = [.ref p] ∧ (SqL K H p ys ∨ SqT K H p ys) ∧ Q (.int ys.length) H) xs H Q ∨ (fun xs H Q => (∃ z, xs = [.str z] ∧ z.length ≤ sizeLine ∧ Q (.int z.length) H) ∨ rLenD xs H Q) xs H Q
theorem call_lenA : CallR X (.builtin "len") (rLenA X.K) := CallR.or call_len_seq (CallR.or call_len_str call_lenDd)
theorem sl_len : SL K (rLenA K) fLen := by
  intro E G M N σ H C xs ds rx Q Qc h k
  unfold fLen at h
  split at h
  · rename_i d
    obtain ⟨v, rfl, r⟩ := rel1 rx
    split at h
    · rename_i ys hi
      obtain ⟨a, vs, rfl, r2, h4⟩ := rel_itemsM C.cm r hi
      refine .inl ⟨a, vs, rfl, ?_, ?_⟩
      · rcases h4 with ⟨_, h4⟩ | ⟨_, h4⟩
        · exact .inl h4
        · exact .inr h4
      · rw [r2.length]
        exact k.at C h (.int _)
    · split at h
      · cases r
        exact .inr (.inl ⟨_, rfl, big_le h.1, k.at C h.2 (.int _)⟩)
      · cases r with | dK h1 r1 =>
        refine .inr (.inr ⟨_, _, rfl, .inr ⟨_, C.cm.sm _ _ h1⟩, ?_⟩)
        rw [r1.length]
        exact k.at C h (.int _)
      · split at h
        · rename_i a gs e
          have e3 := rel_ref r
          subst e3
          obtain ⟨kvs, h1, r1⟩ := C.cm.dKs e
          refine .inr (.inr ⟨_, _, rfl, .of h1, ?_⟩)
          rw [r1.length]
          exact k.at C h (.int _)
        · exact h.elim
      · exact h.elim
  · exact h.elim
/-- list(x), tuple(x) of a list or a tuple -/
def fList : VL := fun ds M Q => match ds with
  | [d] => (match itemsM M d with | some xs => Q (.list xs) M | none => False)
  | _ => False
def fListM : VL := fun ds M Q => match ds with
  | [d] => (match itemsM M d with | some xs => ∀ p, M p = none → Q (.ref p) (mupd M p (.lst xs)) | none => False)
  | _ => False
def fTuple : VL := fun ds M Q => match ds with
  | [d] => (match itemsM M d with | some xs => Q (if isLM d then .tup xs else d) M | none => False)
  | _ => False
theorem sl_list : SL K (fun xs H Q => ∃ p ys, xs = [.ref p] ∧ (SqL K H p ys ∨ SqT K H p ys) ∧ ∀ l, H l = none → Q (.ref l) (upd H l (.lst ys))) fList := by
  intro E G M N σ H C xs ds rx Q Qc h k
  unfold fList at h
  split at h
  · obtain ⟨v, rfl, r⟩ := rel1 rx
    split at h
    · rename_i ys hi
      obtain ⟨a, vs, rfl, r2, h4⟩ := rel_itemsM C.cm r hi
      refine ⟨a, vs, rfl, ?_, fun l hl => k.new C hl h fun N' s e => .list e (r2.mono s)⟩
      rcases h4 with ⟨_, h4⟩ | ⟨_, h4⟩
      · exact .inl h4
      · exact .inr h4
    · exact h.elim
  · exact h.elim
theorem sl_listM : SL K (fun xs H Q => ∃ p ys, xs = [.ref p] ∧ (SqL K H p ys ∨ SqT K H p ys) ∧ ∀ l, H l = none → Q (.ref l) (upd H l (.lst ys))) fListM := by
  intro E G M N σ H C xs ds rx Q Qc h k
  unfold fListM at h
  split at h
  · obtain ⟨v, rfl, r⟩ := rel1 rx
    split at h
    · rename_i ys hi
      obtain ⟨a, vs, rfl, r2, h4⟩ := rel_itemsM C.cm r hi
      refine ⟨a, vs, rfl, ?_, fun l hl => k.newM C hl (hasL upd_same r2) (h l (C.cm.noneM hl))⟩
      rcases h4 with ⟨_, h4⟩ | ⟨_, h4⟩
      · exact .inl h4
      · exact .inr h4
    · exact h.elim
  · exact h.elim
theorem sl_tuple : SL K (fun xs H Q => ∃ p ys, xs = [.ref p] ∧ ((SqL K H p ys ∧ ∀ l, H l = none → Q (.ref l) (upd H l (.tup ys))) ∨ (SqT K H p ys ∧ Q (.ref p) H))) fTuple := by
  intro E G M N σ H C xs ds rx Q Qc h k
  unfold fTuple at h
  split at h
  · rename_i d
    obtain ⟨v, rfl, r⟩ := rel1 rx
    split at h
    · rename_i ys hi
      obtain ⟨a, vs, rfl, r2, h4⟩ := rel_itemsM C.cm r hi
      refine ⟨a, vs, rfl, ?_⟩
      rcases h4 with ⟨e, h4⟩ | ⟨e, h4⟩
      · rw [e, if_pos rfl] at h
        exact .inl ⟨h4, fun l hl => k.new C hl h fun N' s e => .tup e (r2.mono s)⟩
      · rw [e, if_neg Bool.false_ne_true] at h
        exact .inr ⟨h4, k.at C h r⟩
    · exact h.elim
  · exact h.elim
/-- all(xs), any(xs) of a list of bools -/
def bools : List D → Option (List Bool)
  | [] => some []
  | .bl b :: r => (bools r).map (b :: ·)
  | _ :: _ => none
theorem bools_rel {N : Hp} : ∀ {vs : List V} {ds : List D} {bs : List Bool}, RelL K N vs ds → bools ds = some bs → vs = bs.map V.bl
  | _, _, bs, .nil, h => by simp [bools] at h; subst h; rfl
  | _, _, bs, .cons h1 r, h => by
    cases h1 <;> simp [bools] at h
    obtain ⟨bs', h2, rfl⟩ := h
    rw [bools_rel r h2]
    rfl
def fAll : VL := fun ds M Q => match ds with
  | [d] => isLM d = true ∧ (match (itemsM M d).bind bools with | some bs => Q (.bl (bs.all _root_.id)) M | none => False)
  | _ => False
def fAny : VL := fun ds M Q => match ds with
  | [d] => isLM d = true ∧ (match (itemsM M d).bind bools with | some bs => Q (.bl (bs.any _root_.id)) M | none => False)
  | _ => False
theorem sl_all : SL K (rAll K) fAll := by
  intro E G M N σ H C xs ds rx Q Qc h k
  unfold fAll at h
  split at h
  · obtain ⟨v, rfl, r⟩ := rel1 rx
    obtain ⟨h0, h⟩ := h
    split at h
    · rename_i bs hb
      obtain ⟨ys, hi, hb⟩ := Option.bind_eq_some_iff.mp hb
      obtain ⟨a, vs, rfl, r2, h4⟩ := rel_itemsM C.cm r hi
      rw [h0] at h4
      have e := bools_rel r2 hb
      subst e
      rcases h4 with ⟨_, h4⟩ | ⟨e, _⟩
      · exact ⟨a, bs, rfl, h4, k.at C h (.bl _)⟩
      · cases e
    · exact h.elim
  · exact h.elim
theorem sl_any : SL K (rAny K) fAny := by
  intro E G M N σ H C xs ds rx Q Qc h k
  unfold fAny at h
  split at h
  · obtain ⟨v, rfl, r⟩ := rel1 rx
    obtain ⟨h0, h⟩ := h
    split at h
    · rename_i bs hb
      obtain ⟨ys, hi, hb⟩ := Option.bind_eq_some_iff.mp hb
      obtain ⟨a, vs, rfl, r2, h4⟩ := rel_itemsM C.cm r hi
      rw [h0] at h4
      have e := bools_rel r2 hb
      subst e
      rcases h4 with ⟨_, h4⟩ | ⟨e, _⟩
      · exact ⟨a, bs, rfl, h4, k.at C h (.bl _)⟩
      · cases e
    · exact h.elim
  · exact h.elim
/-- sum, max, min of a list of intsD -/
def intsD : List D → Option (List Int)
  | [] => some []
  | .int b :: r => (intsD r).map (b :: ·)
  | _ :: _ => none
theorem ints_rel {N : Hp} : ∀ {vs : List V} {ds : List D} {bs : List Int}, RelL K N vs ds → intsD ds = some bs → vs = bs.map V.int
  | _, _, bs, .nil, h => by simp [intsD] at h; subst h; rfl
  | _, _, bs, .cons h1 r, h => by
    cases h1 <;> simp [intsD] at h
    obtain ⟨bs', h2, rfl⟩ := h
    rw [ints_rel r h2]
    rfl
def fSum : VL := fun ds M Q => match ds with
  | [d] => isLM d = true ∧ (match (itemsM M d).bind intsD with | some bs => Q (.int bs.sum) M | none => False)
  | _ => False
def fMax : VL := fun ds M Q => match ds with
  | [d] => isLM d = true ∧ (match (itemsM M d).bind intsD with | some bs => 0 < bs.length ∧ ∀ m, m ∈ bs → (∀ y, y ∈ bs → y ≤ m) → Q (.int m) M | none => False)
  | _ => False
def fMin : VL := fun ds M Q => match ds with
  | [d] => isLM d = true ∧ (match (itemsM M d).bind intsD with | some bs => 0 < bs.length ∧ ∀ m, m ∈ bs → (∀ y, y ∈ bs → m ≤ y) → Q (.int m) M | none => False)
  | _ => False
theorem sl_sum : SL K (rSum K) fSum := by
  intro E G M N σ H C xs ds rx Q Qc h k
  unfold fSum at h
  split at h
  · obtain ⟨v, rfl, r⟩ := rel1 rx
    obtain ⟨h0, h⟩ := h
    split at h
    · rename_i bs hb
      obtain ⟨ys, hi, hb⟩ := Option.bind_eq_some_iff.mp hb
      obtain ⟨a, vs, rfl, r2, h4⟩ := rel_itemsM C.cm r hi
      rw [h0] at h4
      have e := ints_rel r2 hb
      subst e
      rcases h4 with ⟨_, h4⟩ | ⟨e, _⟩
      · exact ⟨a, bs, rfl, h4, k.at C h (.int _)⟩
      · cases e
    · exact h.elim
  · exact h.elim
theorem sl_max : SL K (rMax K) fMax := by
  intro E G M N σ H C xs ds rx Q Qc h k
  unfold fMax at h
  split at h
  · obtain ⟨v, rfl, r⟩ := rel1 rx
    obtain ⟨h0, h⟩ := h
    split at h
    · rename_i bs hb
      obtain ⟨ys, hi, hb⟩ := Option.bind_eq_some_iff.mp hb
      obtain ⟨a, vs, rfl, r2, h4⟩ := rel_itemsM C.cm r hi
      rw [h0] at h4
      have e := ints_rel r2 hb
      subst e
      rcases h4 with ⟨_, h4⟩ | ⟨e, _⟩
      · exact ⟨a, bs, rfl, h4, h.1, fun m h1 h2 => k.at C (h.2 m h1 h2) (.int _)⟩
      · cases e
    · exact h.elim
  · exact h.elim
theorem sl_min : SL K (rMin K) fMin := by
  intro E G M N σ H C xs ds rx Q Qc h k
  unfold fMin at h
  split at h
  · obtain ⟨v, rfl, r⟩ := rel1 rx
    obtain ⟨h0, h⟩ := h
    split at h
    · rename_i bs hb
      obtain ⟨ys, hi, hb⟩ := Option.bind_eq_some_iff.mp hb
      obtain ⟨a, vs, rfl, r2, h4⟩ := rel_itemsM C.cm r hi
      rw [h0] at h4
      have e := ints_rel r2 hb
      subst e
      rcases h4 with ⟨_, h4⟩ | ⟨e, _⟩
      · exact ⟨a, bs, rfl, h4, h.1, fun m h1 h2 => k.at C (h.2 m h1 h2) (.int _)⟩
      · cases e
    · exact h.elim
  · exact h.elim
end
end DL

set_option Elab.async false
set_option linter.all false
set_option maxRecDepth 100000
namespace DL
open PySem PySem.Spec PyProof.Rows L2
section
variable {X : Cx} {K : PySem.W.Frag} {e a b c o : Expr} {es : List Expr} {te ta tb tc to : TE} {t : TA} {ae aa ab ac ao : aE} {at1 : aA} {pos : Pos}
/-! ### methods of built-in types -/
/-- the type of a datum -/
def tyD (M : Mp) (d : D) : Option String := match d with
  | .non => some "NoneType" | .bl _ => some "bool" | .int _ => some "int" | .str _ => some "str"
  | .list _ => some "list" | .rol _ => some "list" | .tup _ => some "tuple" | .rot _ => some "tuple"
  | .dT _ => some "dict"
  | .ref a => (match M a with
    | some (.lst _) => some "list"
    | some (.dK _) => some "dict"
    | some (.dT _) => some "dict"
    | _ => none)
  | _ => none
abbrev VM := D → List D → Mp → QD → Prop
def SM (K : PySem.W.Frag) (T : String) (r : V → List V → Hp → VK → Prop) (f : VM) : Prop := ∀ E G M N σ H, CC K E G M N σ H → ∀ x d xs ds, RelD K N x d → RelL K N xs ds → ∀ Q Qc, f d ds M Q → Co K E G N σ Q Qc → r x xs H Qc
/-- o.m(..): the receiver's type is looked at before the arguments -/
def aBM (T : String) (f : VM) (x : aE) (y : aA) : aE := fun G M Q => x G M fun d M1 => tyD M1 d = some T ∧ y G M1 fun ds M2 => f d ds M2 Q
def aBM0 (T : String) (f : VM) (x : aE) : aE := fun G M Q => x G M fun d M1 => tyD M1 d = some T ∧ f d [] M1 Q
theorem tyV_rel {M : Mp} {N H : Hp} {v : V} {d : D} {T : String} (hT : T = "list" ∨ T = "dict" ∨ T = "str" ∨ T = "int") (c : CM K M N H) (r : RelD K N v d) (h : tyD M d = some T) : tyV K T v H := by
  cases r <;> simp only [tyD] at h
  case non => cases h; rcases hT with h | h | h | h <;> simp at h
  case bl => cases h; rcases hT with h | h | h | h <;> simp at h
  case int => cases h; rfl
  case str => cases h; rfl
  case ty => cases h
  case list h1 r1 => cases h; exact .inl ⟨rfl, _, .of (c.sm _ _ h1)⟩
  case rol h1 r1 => cases h; exact .inl ⟨rfl, _, c.sm.seq h1⟩
  case tup => cases h; rcases hT with h | h | h | h <;> simp at h
  case rot => cases h; rcases hT with h | h | h | h <;> simp at h
  case obj => cases h
  case dK => cases h
  case dT h1 r1 => cases h; exact .inr (.inr (.inl ⟨rfl, .inr ⟨_, c.sm _ _ h1⟩⟩))
  case ref a =>
    split at h
    · rename_i e
      cases h
      obtain ⟨xs, h1, _⟩ := c.lst e
      exact .inl ⟨rfl, _, .of h1⟩
    · rename_i e
      cases h
      obtain ⟨xs, h1, _⟩ := c.dKs e
      exact .inr (.inr (.inl ⟨rfl, .inl ⟨_, h1⟩⟩))
    · rename_i e
      cases h
      obtain ⟨xs, h1, _⟩ := c.dTs e
      exact .inr (.inr (.inl ⟨rfl, .inr ⟨_, h1⟩⟩))
    · cases h
variable {name : Str} {apos cpos : Pos} {T id : String} {r : V → List V → Hp → VK → Prop} {f : VM}
theorem de_bm0 (pa : PlainAttrs T) (slot : Slot T name id) (hty : typeOf (.builtin id) = pure (.type "method_descriptor")) (hm : MtR X id r) (hs : SM X.K T r f) (hT : T = "list" ∨ T = "dict" ∨ T = "str" ∨ T = "int") (ho : DE X o to ao)
    (hbase : attributeBase o name X.env (eval o X.env) = eval o X.env := by rfl) (hline : (apos.endLine == cpos.line) = true := by rfl) : DE X (.Call (.Attribute o name apos) [] [] cpos) (tBM0 X.K T r to) (aBM0 T f ao) :=
  ⟨pe_bm0 pa slot hty hm ho.pe hbase hline, by
    intro E G M N σ H C Q Qc q k
    refine ho.se E G M N σ H C _ _ q fun d v M1 N1 H1 h1 C1 s1 r1 => ⟨tyV_rel hT C1.cm r1 h1.1, ?_⟩
    exact hs E G M1 N1 σ H1 C1 v d [] [] r1 .nil Q Qc h1.2 (k.from s1)⟩
theorem de_bm (pa : PlainAttrs T) (slot : Slot T name id) (hty : typeOf (.builtin id) = pure (.type "method_descriptor")) (hm : MtR X id r) (hs : SM X.K T r f) (hT : T = "list" ∨ T = "dict" ∨ T = "str" ∨ T = "int") (ho : DE X o to ao) (ha : DA X (e :: es) t at1)
    (hbase : attributeBase o name X.env (eval o X.env) = eval o X.env := by rfl)
    (hfew : ((backTo cpos (starEach (e :: es) X.env)).all (fun x => !x.1) && (backToKw cpos (keywordEach [] X.env)).all (fun x => x.1.isSome)
      && decide ((e :: es).length + ([] : List Keyword).length + (if ([] : List Keyword).isEmpty then 0 else 1) < 30)) = true := by rfl)
    (hline : (apos.endLine == cpos.line) = true := by rfl) (hss : starEach (e :: es) X.env = (false, eval e X.env) :: starEach es X.env := by rfl) (hplain : (backTo cpos (starEach es X.env)).any (·.1) = false := by rfl) :
    DE X (.Call (.Attribute o name apos) (e :: es) [] cpos) (tBM X.K T r to t) (aBM T f ao at1) :=
  ⟨pe_bm pa slot hty hm ho.pe ha.pa hbase hfew hline hss hplain, by
    intro E G M N σ H C Q Qc q k
    refine ho.se E G M N σ H C _ _ q fun d v M1 N1 H1 h1 C1 s1 r1 => ⟨tyV_rel hT C1.cm r1 h1.1, ?_⟩
    refine ha.sa E G M1 N1 σ H1 C1 _ _ h1.2 fun ds vs M2 N2 H2 h2 C2 s2 r2 => ?_
    exact hs E G M2 N2 σ H2 C2 v d vs ds (r1.mono s2) r2 Q Qc h2 (k.from (s1.trans s2))⟩
/-- list.append -/
def fAppend : VM := fun d ds M Q => match d, ds with
  | .ref a, [x] => (match M a with | some (.lst xs) => xs.length < 1000000 ∧ Q .non (mupd M a (.lst (xs ++ [x]))) | _ => False)
  | _, _ => False
theorem sm_append : SM K "list" rAppend fAppend := by
  intro E G M N σ H C x d xs ds rx rs Q Qc h k
  unfold fAppend at h
  split at h
  · rename_i a y
    have e := rel_ref rx
    subst e
    obtain ⟨v, rfl, r⟩ := rel1 rs
    split at h
    · rename_i zs e
      obtain ⟨ws, h1, r1⟩ := C.cm.lst e
      refine ⟨a, ws, v, rfl, rfl, h1, by rw [r1.length]; exact big_lt (Nat.le_of_lt h.1), ?_⟩
      exact k.mut C e (hasL upd_same (r1.append (.cons r .nil))) h.2 .non
    · exact h.elim
  · exact h.elim
/-- list.pop() -/
def fPop : VM := fun d ds M Q => match d, ds with
  | .ref a, [] => (match M a with | some (.lst xs) => (match xs[xs.length - 1]? with | some y => Q y (mupd M a (.lst xs.dropLast)) | none => False) | _ => False)
  | _, _ => False
theorem sm_pop : SM K "list" rPop fPop := by
  intro E G M N σ H C x d xs ds rx rs Q Qc h k
  unfold fPop at h
  split at h
  · rename_i a
    have e := rel_ref rx
    subst e
    cases rs
    split at h
    · rename_i zs e
      obtain ⟨ws, h1, r1⟩ := C.cm.lst e
      split at h
      · rename_i y hy
        obtain ⟨w, hw, rw'⟩ := r1.getR hy
        refine ⟨a, ws, w, rfl, rfl, h1, by rw [r1.length]; exact hw, ?_⟩
        exact k.mut C e (hasL upd_same r1.dropLast) h rw'
      · exact h.elim
    · exact h.elim
  · exact h.elim
/-- list.extend of a list -/
def fExtend : VM := fun d ds M Q => match d, ds with
  | .ref a, [e] => (match M a, e with
    | some (.lst xs), .list ys => xs.length + ys.length ≤ 1000000 ∧ Q .non (mupd M a (.lst (xs ++ ys)))
    | _, _ => False)
  | _, _ => False
theorem sm_extend : SM K "list" rExtend fExtend := by
  intro E G M N σ H C x d xs ds rx rs Q Qc h k
  unfold fExtend at h
  split at h
  · rename_i a y
    have e := rel_ref rx
    subst e
    obtain ⟨v, rfl, r⟩ := rel1 rs
    split at h
    · rename_i zs ys e
      obtain ⟨ws, h1, r1⟩ := C.cm.lst e
      obtain ⟨q, us, rfl, h2, r2⟩ := rel_list r
      refine ⟨a, q, ws, us, rfl, rfl, h1, C.cm.sm _ _ h2, by rw [r1.length, r2.length]; exact big_le h.1, ?_⟩
      exact k.mut C e (hasL upd_same (r1.append r2)) h.2 .non
    · exact h.elim
  · exact h.elim

/-! ### attributes, own calls -/
def aFld (K : PySem.W.Frag) (x : aE) (f : Str) : aE := fun G M Q => x G M fun d M1 => match d with
  | .obj C gs => Cls K C ∧ NoAttr K C f ∧ (match gs.lookup f with | some y => Q y M1 | none => False)
  | .ref p => (match M1 p with
    | some (.ins C gs) => Cls K C ∧ NoAttr K C f ∧ (match gs.lookup f with | some y => Q y M1 | none => False)
    | _ => False)
  | _ => False
theorem se_fld {f : Str} (h : SE K ta aa) : SE K (tFld K ta f) (aFld K aa f) := by
  intro E G M N σ H C Q Qc q k
  refine h E G M N σ H C _ _ q fun d v M1 N1 H1 h1 C1 s1 r1 => ?_
  split at h1
  · obtain ⟨p, dx, fs, rfl, ho, r2⟩ := rel_obj r1
    obtain ⟨hc, hn, h1⟩ := h1
    split at h1
    · rename_i y hy
      obtain ⟨w, e1, e2⟩ := r2.lookup hy
      exact ⟨p, _, dx, fs, w, rfl, C1.cm.sm _ _ ho, hc, hn, e1, (k.from s1).at C1 h1 e2⟩
    · exact h1.elim
  · have e := rel_ref r1
    subst e
    split at h1
    · rename_i p _ C gs e
      obtain ⟨dx, fs, ho, r2⟩ := C1.cm.inst e
      obtain ⟨hc, hn, h1⟩ := h1
      split at h1
      · rename_i y hy
        obtain ⟨w, e1, e2⟩ := r2.lookup hy
        exact ⟨_, _, dx, fs, w, rfl, ho, hc, hn, e1, (k.from s1).at C1 h1 e2⟩
      · exact h1.elim
    · exact h1.elim
  · exact h1.elim
theorem de_fld {f : Str} (he : DE X e ta aa) (hb : attributeBase e f X.env (eval e X.env) = eval e X.env := by rfl) : DE X (.Attribute e f pos) (tFld X.K ta f) (aFld X.K aa f) := ⟨pe_fld he.pe hb, se_fld he.se⟩
/-- a def's promise over data -/
abbrev aSp := List D → Mp → QD → Prop
def lift (K : PySem.W.Frag) (n : Nat) (sp : aSp) : Sp := fun vs H Q _ => ∃ ds M N Q', ds.length = n ∧ CM K M N H ∧ RelL K N vs ds ∧ sp ds M Q' ∧
  ∀ d v M' N' H', Q' d M' → Fr M N H M' N' H' → CM K M' N' H' → RelD K N' v d → Q v H'
def aCall (n : Nat) (sp : aSp) (x : aA) : aE := fun G M Q => x G M fun ds M1 => ds.length = n ∧ sp ds M1 Q
theorem se_call {n : Nat} {sp : aSp} {E0' : XK} (h : SA K t at1) : SE K (tCall (lift K n sp) [] E0' t) (aCall n sp at1) := by
  intro E G M N σ H C Q Qc q k
  refine h E G M N σ H C _ _ q fun ds vs M1 N1 H1 h1 C1 s1 r1 => ?_
  rw [List.append_nil]
  exact ⟨ds, M1, N1, Q, h1.1, C1.cm, r1, h1.2, fun d v M' N' H' q' fr cm r => (k.from s1) d v M' N' H' q' (C1.step fr cm) fr.nn r⟩
variable {CX : CXT} {k n : Nat} {g C : Addr} {fd : FuncData} {ps : List Str} {sp : aSp} {x m : Str} {p : Pos} {E0' : XK}
theorem de_call (F : FnOk X.prog X.w X.K X.mg X.base CX k g fd ps (lift X.K n sp)) (hr : Room k X.A) (hg : Gl X x) (hm : X.mg x = some (.ref g)) (hk : PySem.W.keepIn X.K (.ref g) = true) (hb : Binds X.K fd ps []) (hx : Passes CX X E0')
    (ha : DA X (e :: es) t at1) (hdb : (x == ("__debug__" : Str)) = false := by decide) (he : starEach (e :: es) X.env = (false, eval e X.env) :: starEach es X.env := by rfl) (hpl : (backTo pos (starEach es X.env)).any (·.1) = false := by rfl) :
    DE X (.Call (.Name x p) (e :: es) [] pos) (tCall (lift X.K n sp) [] E0' t) (aCall n sp at1) := ⟨pe_call F hr hg hm hk hb .nil hx ha.pa hdb he hpl, se_call ha.sa⟩
theorem de_call0 (F : FnOk X.prog X.w X.K X.mg X.base CX k g fd ps (lift X.K n sp)) (hr : Room k X.A) (hg : Gl X x) (hm : X.mg x = some (.ref g)) (hk : PySem.W.keepIn X.K (.ref g) = true) (hb : Binds X.K fd ps []) (hx : Passes CX X E0')
    (hdb : (x == ("__debug__" : Str)) = false := by decide) : DE X (.Call (.Name x p) [] [] pos) (tCall (lift X.K n sp) [] E0' tNil) (aCall n sp aNil) := ⟨pe_call0 F hr hg hm hk hb .nil hx hdb, se_call sa_nil⟩
/-- keywords: gD puts the values in the parameters' order -/
def aCallK (n : Nat) (sp : aSp) (gD : List D → List D → List D) (x y : aA) : aE := fun G M Q => x G M fun ds M1 => y G M1 fun es M2 => (gD ds es).length = n ∧ sp (gD ds es) M2 Q
structure DK (X : Cx) (kws : List Keyword) (ta : TA) (aa : aA) : Prop where
  pk : PK X kws ta
  sa : SA X.K ta aa
theorem dk_nil : DK X [] tNil aNil := ⟨pk_nil, sa_nil⟩
theorem dk_cons {kws : List Keyword} {nm : Option Str} {kpos : Pos} (ha : DE X e te ae) (hr : DK X kws t at1) : DK X (⟨nm, e, kpos⟩ :: kws) (tCons te t) (aCons ae at1) := ⟨pk_cons ha.pe hr.pk, sa_cons ha.se hr.sa⟩
theorem de_callK {ks : List Str} {kws : List Keyword} {tk : TA} {ak : aA} {gV' : List Value → List Value → List Value} {gV : List V → List V → List V} {gD : List D → List D → List D}
    (hgd : ∀ (N : Hp) vs ds ws es, RelL X.K N vs ds → RelL X.K N ws es → RelL X.K N (gV vs ws) (gD ds es))
    (F : FnOk X.prog X.w X.K X.mg X.base CX k g fd ps (lift X.K n sp)) (hr : Room k X.A) (hg : Gl X x) (hm : X.mg x = some (.ref g)) (hk : PySem.W.keepIn X.K (.ref g) = true) (hb : KBinds X.K fd ps ks gV' gV) (hx : Passes CX X E0')
    (ha : DA X (e :: es) t at1) (hkw : DK X kws tk ak) (hall : (backToKw pos (keywordEach kws X.env)).all (·.1.isSome) = true := by rfl) (hks : (backToKw pos (keywordEach kws X.env)).filterMap (·.1) = ks := by rfl)
    (hdb : (x == ("__debug__" : Str)) = false := by decide) (he : starEach (e :: es) X.env = (false, eval e X.env) :: starEach es X.env := by rfl)
    (hpl : ((backTo pos (starEach (e :: es) X.env)).any (·.1) || (backToKw pos (keywordEach kws X.env)).any (·.1.isNone)) = false := by rfl) :
    DE X (.Call (.Name x p) (e :: es) kws pos) (tCallK (lift X.K n sp) gV E0' t tk) (aCallK n sp gD at1 ak) := ⟨pe_callK F hr hg hm hk hb hx ha.pa hkw.pk hall hks hdb he hpl, by
  intro E G M N σ H C Q Qc q k
  refine ha.sa E G M N σ H C _ _ q fun ds vs M1 N1 H1 h1 C1 s1 r1 => ?_
  refine hkw.sa E G M1 N1 σ H1 C1 _ _ h1 fun es ws M2 N2 H2 h2 C2 s2 r2 => ?_
  exact ⟨gD ds es, M2, N2, Q, h2.1, C2.cm, hgd _ _ _ _ _ (r1.mono s2) r2, h2.2, fun d v M' N' H' q' fr cm r => (k.from (s1.trans s2)) d v M' N' H' q' (C2.step fr cm) fr.nn r⟩⟩
/-- o.m(..) of an instance of the class at C -/
def aMeth (C : Addr) (m : Str) (n : Nat) (sp : aSp) (x : aE) (y : aA) : aE := fun G M Q => x G M fun d M1 => (match d with
  | .obj C' gs => C' = C ∧ gs.lookup m = none
  | .ref p => (match M1 p with | some (.ins C' gs) => C' = C ∧ gs.lookup m = none | _ => False)
  | _ => False) ∧ y G M1 fun ds M2 => ds.length + 1 = n ∧ sp (d :: ds) M2 Q
theorem se_meth (hta : SE K ta aa) (h : SA K t at1) : SE K (tMeth C m (lift K n sp) [] E0' ta t) (aMeth C m n sp aa at1) := by
  intro E G M N σ H CC' Q Qc q k
  refine hta E G M N σ H CC' _ _ q fun d v M1 N1 H1 h1 C1 s1 r1 => ?_
  have go : ∃ a dx fs, v = .ref a ∧ H1 a = some (.ins C dx fs) ∧ fs.lookup m = none := by
    have h0 := h1.1
    split at h0
    · obtain ⟨p, dx, fs, rfl, ho, r2⟩ := rel_obj r1
      obtain ⟨rfl, h0⟩ := h0
      exact ⟨p, dx, fs, rfl, C1.cm.sm _ _ ho, r2.lookup_none h0⟩
    · have e := rel_ref r1
      subst e
      split at h0
      · rename_i e
        obtain ⟨dx, fs, ho, r2⟩ := C1.cm.inst e
        obtain ⟨rfl, h0⟩ := h0
        exact ⟨_, dx, fs, rfl, ho, r2.lookup_none h0⟩
      · exact h0.elim
    · exact h0.elim
  obtain ⟨a, dx, fs, rfl, ho, hl⟩ := go
  refine ⟨a, dx, fs, rfl, ho, hl, ?_⟩
  refine h E G M1 N1 σ H1 C1 _ _ h1.2 fun ds vs M2 N2 H2 h2 C2 s2 r2 => ?_
  rw [List.append_nil]
  exact ⟨d :: ds, M2, N2, Q, by rw [List.length_cons]; exact h2.1, C2.cm, .cons (r1.mono s2) r2, h2.2, fun d v M' N' H' q' fr cm r => (k.from (s1.trans s2)) d v M' N' H' q' (C2.step fr cm) fr.nn r⟩
theorem de_meth {pl : Sem Bool} (he : DE X o ta aa) (c : Cls X.K C) (hm : Meth X.K C m g) (F : FnOk X.prog X.w X.K X.mg X.base CX k g fd ps (lift X.K n sp)) (hr : Room k X.A) (hb : Binds X.K fd ps []) (hx : Passes CX X E0') (ha : DA X (e :: es) t at1)
    (hst : starEach (e :: es) X.env = (false, eval e X.env) :: starEach es X.env := by rfl) (hpl : (backTo pos (starEach es X.env)).any (·.1) = false := by rfl)
    (ht : eval (.Call (.Attribute o m apos) (e :: es) [] pos) X.env = (do
      let ov ← eval o X.env
      standAt apos.atName
      let (f, first) ← holding [ov] (getMethod ov m pl)
      callWith pos f first (backTo pos (starEach (e :: es) X.env)) (backToKw pos (keywordEach [] X.env))) := by rfl) :
    DE X (.Call (.Attribute o m apos) (e :: es) [] pos) (tMeth C m (lift X.K n sp) [] E0' ta t) (aMeth C m n sp aa at1) := ⟨pe_meth he.pe c hm F hr hb .nil hx ha.pa hst hpl ht, se_meth he.se ha.sa⟩
theorem de_meth0 {pl : Sem Bool} (he : DE X o ta aa) (c : Cls X.K C) (hm : Meth X.K C m g) (F : FnOk X.prog X.w X.K X.mg X.base CX k g fd ps (lift X.K n sp)) (hr : Room k X.A) (hb : Binds X.K fd ps []) (hx : Passes CX X E0')
    (ht : eval (.Call (.Attribute o m apos) [] [] pos) X.env = (do
      let ov ← eval o X.env
      standAt apos.atName
      let (f, first) ← holding [ov] (getMethod ov m pl)
      callWith pos f first (backTo pos (starEach [] X.env)) (backToKw pos (keywordEach [] X.env))) := by rfl) :
    DE X (.Call (.Attribute o m apos) [] [] pos) (tMeth C m (lift X.K n sp) [] E0' ta tNil) (aMeth C m n sp aa aNil) := ⟨pe_meth0 he.pe c hm F hr hb .nil hx ht, se_meth he.se sa_nil⟩
/-- C(..): an instance that stands still behind its __init__ -/
def aMake (C : Addr) (n : Nat) (sp : aSp) (y : aA) : aE := fun G M Q => y G M fun ds M1 => ds.length + 1 = n ∧ ∀ x, M1 x = none →
  sp (.ref x :: ds) (mupd M1 x (.ins C [])) fun r M2 => r = .non ∧ ∃ gs, M2 x = some (.ins C gs) ∧ Q (.obj C gs) (mdel M2 x)
/-- .. that may change -/
def aMakeM (C : Addr) (n : Nat) (sp : aSp) (y : aA) : aE := fun G M Q => y G M fun ds M1 => ds.length + 1 = n ∧ ∀ x, M1 x = none →
  sp (.ref x :: ds) (mupd M1 x (.ins C [])) fun r M2 => r = .non ∧ Q (.ref x) M2
/-- an object of ours stands still from now on -/
theorem CC.freeze {E : En} {G : Gm} {M : Mp} {N H : Hp} {σ : L2.St} {a : Addr} {o : HO} (c : CC K E G M N σ H) (hN : N a = none) (ha : H a = some o) (h0 : E.H a = none) : CC K E G (mdel M a) (upd N a o) σ H where
  fr := ⟨c.fr.nn.trans (same_new hN), fun b u e m => by
    obtain ⟨h1, h2⟩ := c.fr.keep b u e m
    refine ⟨h1, ?_⟩
    unfold mdel
    split
    · rfl
    · exact h2, fun b u e n => by
    have q : b ≠ a := ne_of_none e h0
    rw [upd_ne q]
    exact c.fr.new b u e n, c.fr.dom⟩
  cm := ⟨fun b u e => by
    by_cases q : b = a
    · subst q; rw [upd_same] at e; cases e; exact ha
    · rw [upd_ne q] at e; exact c.cm.sm _ _ e, fun b x e => by
    by_cases q : b = a
    · subst q; unfold mdel at e; rw [if_pos rfl] at e; cases e
    · unfold mdel at e
      rw [if_neg q] at e
      obtain ⟨h1, h2⟩ := c.cm.hm b x e
      exact ⟨by rw [upd_ne q]; exact h1, h2.mono (same_new hN) fun _ e => e⟩⟩
  sl := c.sl.mono (same_new hN)
theorem se_make (h : SA K t at1) : SE K (tMake C (lift K n sp) [] E0' t) (aMake C n sp at1) := by
  intro E G M N σ H CC' Q Qc q k
  refine h E G M N σ H CC' _ _ q fun ds vs M1 N1 H1 h1 C1 s1 r1 => ?_
  intro x dx hx hdx hne
  rw [List.append_nil]
  obtain ⟨hN, hM⟩ := C1.cm.none hx
  -- the own dict is not known; the instance may change
  have c2 : CM K (mupd M1 x (.ins C [])) N1 (upd (upd H1 dx (.own x)) x (.ins C dx [])) := by
    refine cm_put (M := M1) (N := N1) (H := upd H1 dx (.own x)) ?_ hN (hasI upd_same .nil)
    exact ⟨fun a u e => by rw [upd_ne (ne_of_none (C1.cm.sm _ _ e) hdx)]; exact C1.cm.sm _ _ e, fun a c e => by
      obtain ⟨h2, h3⟩ := C1.cm.hm a c e
      exact ⟨h2, h3.mono (Same.refl _) fun o e => by rw [upd_ne (ne_of_none e hdx)]; exact e⟩⟩
  have f2 : Fr M1 N1 H1 (mupd M1 x (.ins C [])) N1 (upd (upd H1 dx (.own x)) x (.ins C dx [])) := by
    refine ⟨Same.refl _, fun a u e m => ?_, fun a u e n => n, fun a u e => ?_⟩
    · have q1 : a ≠ x := ne_of_none e hx
      have q2 : a ≠ dx := ne_of_none e hdx
      exact ⟨by rw [upd_ne q1, upd_ne q2]; exact e, by rw [mupd_ne q1]; exact m⟩
    · have q1 : a ≠ x := ne_of_none e hx
      have q2 : a ≠ dx := ne_of_none e hdx
      exact ⟨u, by rw [upd_ne q1, upd_ne q2]; exact e⟩
  refine ⟨.ref x :: ds, _, N1, _, by rw [List.length_cons]; exact h1.1, c2, .cons (.ref x) r1, h1.2 x hM, ?_⟩
  intro d v M' N' H' q' fr cm r
  obtain ⟨rfl, gs, e, q'⟩ := q'
  cases r
  refine ⟨rfl, ?_⟩
  have C3 : CC K E G M' N' σ H' := C1.step (f2.trans fr) cm
  obtain ⟨hn, dx', fs, ho, rf⟩ := cm.hm x _ e
  have h0 : E.H x = none := by
    cases w : E.H x with
    | none => rfl
    | some o =>
      obtain ⟨o', e'⟩ := C1.fr.dom x o w
      rw [e'] at hx; cases hx
  have C4 := C3.freeze hn ho h0
  exact (k.from (s1.trans (fr.nn.trans (same_new hn)))).at C4 q' (.obj upd_same (rf.mono (same_new hn)))
theorem de_make (M : Mk X.K C g) (F : FnOk X.prog X.w X.K X.mg X.base CX k g fd ps (lift X.K n sp)) (hr : Room (k + 1) X.A) (hg : Gl X x) (hm : X.mg x = some (.ref C)) (hb : Binds X.K fd ps []) (hx : Passes CX X E0')
    (ha : DA X (e :: es) t at1) (hdb : (x == ("__debug__" : Str)) = false := by decide) (he : starEach (e :: es) X.env = (false, eval e X.env) :: starEach es X.env := by rfl) (hpl : (backTo pos (starEach es X.env)).any (·.1) = false := by rfl) :
    DE X (.Call (.Name x p) (e :: es) [] pos) (tMake C (lift X.K n sp) [] E0' t) (aMake C n sp at1) := ⟨pe_make M F hr hg hm hb .nil hx ha.pa hdb he hpl, se_make ha.sa⟩
end
end DL

set_option Elab.async false
set_option linter.all false
set_option maxRecDepth 100000
namespace DL
open PySem PySem.Spec PyProof.Rows L2
section
variable {X : Cx} {K : PySem.W.Frag} {e a b c o i : Expr} {es : List Expr} {te ta tb tc to ti : TE} {t : TA} {ae aa ab ac ao ai : aE} {at1 : aA} {pos : Pos} {st : Stmt} {rest : List Stmt} {ts tu : TS} {as au : aS}
/-! ### blocks -/
def asNext : aS := fun A G M => A.nx G M
/-- what is known may be told in another way -/
def Cvt (m0 : Mp) (G : Gm) (M : Mp) (G' : Gm) (M' : Mp) : Prop := ∀ K E N σ H, E.M = m0 → CC K E G M N σ H → ∃ N', CC K E G' M' N' σ H ∧ Same N N'
theorem Cvt.refl {m0 : Mp} {G : Gm} {M : Mp} : Cvt m0 G M G M := fun K E N σ H e C => ⟨N, C, Same.refl N⟩
theorem Cvt.trans {m0 : Mp} {G G1 G2 : Gm} {M M1 M2 : Mp} (h : Cvt m0 G M G1 M1) (h' : Cvt m0 G1 M1 G2 M2) : Cvt m0 G M G2 M2 := fun K E N σ H e C => by
  obtain ⟨N1, C1, s1⟩ := h K E N σ H e C
  obtain ⟨N2, C2, s2⟩ := h' K E N1 σ H e C1
  exact ⟨N2, C2, s1.trans s2⟩
def cvU (u : aS) : aS := fun A G M => ∃ G' M', Cvt A.m0 G M G' M' ∧ u A G' M'
def asSeq (t u : aS) : aS := fun A G M => t { A with nx := cvU u A } G M
theorem ss_next : SS K tNext asNext := fun E G M N σ H C A B m0 q k => k.nx G M N σ H q C (Same.refl N)
theorem ss_seq (h : SS K ts as) (h2 : SS K tu au) : SS K (tSeq ts tu) (asSeq as au) := by
  intro E G M N σ H C A B m0 q k
  refine h E G M N σ H C { A with nx := cvU au A } { B with nx := tu B } m0 q ⟨fun G' M' N' σ' H' ⟨G2, M2, cv, q'⟩ C' s' => ?_, k.rt, k.bk, k.ct⟩
  obtain ⟨N2, C2, s2⟩ := cv K E N' σ' H' m0.symm C'
  exact h2 E G2 M2 N2 σ' H' C2 A B m0 q' (k.from (s'.trans s2))
theorem dss_nil : DSs X [] tNext asNext := ⟨pss_nil, ss_next⟩
theorem dss_cons (h1 : DS X st ts as) (h2 : DSs X rest tu au) : DSs X (st :: rest) (tSeq ts tu) (asSeq as au) := ⟨pss_cons h1.ps h2.ps, ss_seq h1.ss h2.ss⟩
theorem dss_one (h1 : DS X st ts as) : DSs X [st] ts as := ⟨pss_one h1.ps, h1.ss⟩
def asBreak : aS := fun A G M => A.bk G M
def asCont : aS := fun A G M => A.ct G M
theorem ds_pass : DS X (.Pass pos) tNext asNext := ⟨ps_pass, ss_next⟩
theorem ds_break : DS X (.Break pos) tBreak asBreak := ⟨ps_break, fun E G M N σ H C A B m0 q k => k.bk G M N σ H q C (Same.refl N)⟩
theorem ds_continue : DS X (.Continue pos) tCont asCont := ⟨ps_continue, fun E G M N σ H C A B m0 q k => k.ct G M N σ H q C (Same.refl N)⟩
def asDrop (x : aE) : aS := fun A G M => x G M fun _ M1 => A.nx G M1
theorem ds_expr (he : DE X e te ae) (hs : swapsWith e none pos.line X.env = pure false := by rfl) : DS X (.Expr e pos) (tDrop te) (asDrop ae) := ⟨ps_expr he.pe hs, by
  intro E G M N σ H C A B m0 q k
  exact he.se E G M N σ H C _ _ q fun d v M' N' H' q' C' s' r' => k.nx G M' N' σ H' q' C' s'⟩
def asRet (x : aE) : aS := fun A G M => x G M A.rt
theorem ds_ret (he : DE X e te ae) : DS X (.Return (some e) pos) (tRet te) (asRet ae) := ⟨ps_ret he.pe, by
  intro E G M N σ H C A B m0 q k
  exact he.se E G M N σ H C _ _ q fun d v M' N' H' q' C' s' r' => k.rt d v G M' N' σ H' q' C' s' r'⟩
def asRetN : aS := fun A _ M => A.rt .non M
theorem ds_retN : DS X (.Return none pos) tRetN asRetN := ⟨ps_retN, fun E G M N σ H C A B m0 q k => k.rt .non .non G M N σ H q C (Same.refl N) .non⟩
variable {tt : TT} {aT' : aT} {s1' s2' : List Stmt} {u1 u2 : TS} {w1 w2 : aS}
def asIf (c : aT) (t u : aS) : aS := fun A G M => c G M fun b M1 => if b = true then t A G M1 else u A G M1
theorem ds_if (hc : DT X c tt aT') (ha : DSs X s1' u1 w1) (hb : DSs X s2' u2 w2) : DS X (.If c s1' s2' pos) (tIfS tt u1 u2) (asIf aT' w1 w2) := ⟨ps_if hc.pt ha.ps hb.ps, by
  intro E G M N σ H C A B m0 q k
  refine hc.st E G M N σ H C _ _ q fun b M1 N1 H1 h1 C1 s1 => ?_
  cases b with
  | true =>
    rw [if_pos rfl] at h1 ⊢
    exact ha.ss E G M1 N1 σ H1 C1 A B m0 h1 (k.from s1)
  | false =>
    rw [if_neg Bool.false_ne_true] at h1 ⊢
    exact hb.ss E G M1 N1 σ H1 C1 A B m0 h1 (k.from s1)⟩
/-- a statement that the proof never comes to -/
theorem ds_never : DS X st tNever (fun _ _ _ => False) := ⟨ps_never, fun E G M N σ H C A B m0 q k => q⟩

/-! ### targets -/
abbrev aG := D → Gm → Mp → (Gm → Mp → Prop) → Prop
abbrev aGs := List D → Gm → Mp → (Gm → Mp → Prop) → Prop
def CoG (K : PySem.W.Frag) (E : En) (N : Hp) (Q : Gm → Mp → Prop) (Qc : L2.St → Hp → Prop) : Prop := ∀ G' M' N' σ' H', Q G' M' → CC K E G' M' N' σ' H' → Same N N' → Qc σ' H'
def SG (K : PySem.W.Frag) (g : TG) (ag : aG) : Prop := ∀ E G M N σ H, CC K E G M N σ H → ∀ v d, RelD K N v d → ∀ Q Qc, ag d G M Q → CoG K E N Q Qc → g v σ H Qc
def SGs (K : PySem.W.Frag) (g : TGs) (ag : aGs) : Prop := ∀ E G M N σ H, CC K E G M N σ H → ∀ vs ds, RelL K N vs ds → ∀ Q Qc, ag ds G M Q → CoG K E N Q Qc → g vs σ H Qc
structure DG (X : Cx) (tg : Expr) (g : TG) (ag : aG) : Prop where
  pg : PG X tg g
  sg : SG X.K g ag
structure DGs (X : Cx) (tgs : List Expr) (g : TGs) (ag : aGs) : Prop where
  pg : PGs X tgs g
  sg : SGs X.K g ag
theorem CoG.from {E : En} {N N' : Hp} {Q : Gm → Mp → Prop} {Qc : L2.St → Hp → Prop} (k : CoG K E N Q Qc) (s : Same N N') : CoG K E N' Q Qc := fun g m n t h q c s1 => k g m n t h q c (s.trans s1)
def agName (j : Nat) : aG := fun d G M Q => Q (G.set j (some d)) M
theorem sg_name {j : Nat} : SG K (gName j) (agName j) := by
  intro E G M N σ H C v d r Q Qc q k
  exact k _ M N _ H q (C.slots (C.sl.set r)) (Same.refl N)
theorem dg_name {j : Nat} {x : Str} (hN : X.N.Nodup) (hi : X.N[j]? = some x) (hx : Loc X.env.scope x) (hf : X.fn x = true ∨ X.env.scope.names.lookup x = some .local := by first | exact .inl rfl | exact .inr rfl | assumption) : DG X (.Name x pos) (gName j) (agName j) := ⟨pg_name hN hi hx hf, sg_name⟩
def agNil : aGs := fun ds G M Q => ds = [] ∧ Q G M
def agCons (g : aG) (r : aGs) : aGs := fun ds G M Q => match ds with
  | d :: ds => g d G M fun G' M' => r ds G' M' Q
  | [] => False
variable {tg : Expr} {tgs : List Expr} {g : TG} {gs : TGs} {ag : aG} {ags : aGs}
theorem dgs_nil : DGs X [] gNil agNil := ⟨pgs_nil, by
  intro E G M N σ H C vs ds r Q Qc q k
  obtain ⟨rfl, q⟩ := q
  cases r
  exact ⟨rfl, k G M N σ H q C (Same.refl N)⟩⟩
theorem dgs_cons (h1 : DG X tg g ag) (h2 : DGs X tgs gs ags) (hs : (assignEach (tg :: tgs) X.env).map (·.2) = assign tg X.env :: (assignEach tgs X.env).map (·.2) := by rfl) : DGs X (tg :: tgs) (gCons g gs) (agCons ag ags) := ⟨pgs_cons h1.pg h2.pg hs, by
  intro E G M N σ H C vs ds r Q Qc q k
  cases r with
  | nil => exact q.elim
  | cons hd hr =>
    refine ⟨_, _, rfl, ?_⟩
    refine h1.sg E G M N σ H C _ _ hd _ _ q fun G' M' N' σ' H' q' C' s' => ?_
    exact h2.sg E G' M' N' σ' H' C' _ _ (hr.mono s') Q Qc q' (k.from s')⟩
def agTup (n : Nat) (r : aGs) : aG := fun d G M Q => match d with
  | .tup ds => ds.length = n ∧ r ds G M Q
  | .rot ds => ds.length = n ∧ r ds G M Q
  | _ => False
theorem dg_tup {k n : Nat} (h : DGs X tgs gs ags) (hc : X.calm = true := by rfl) (hn : (assignEach tgs X.env).length = n := by rfl) (hst : (assignEach tgs X.env).findIdx? (·.1) = none := by rfl) : DG X (.Tuple tgs k pos) (gTup X.K n gs) (agTup n ags) := ⟨pg_tup hc h.pg hn hst, by
  intro E G M N σ H C v d r Q Qc q k
  unfold agTup at q
  split at q
  · cases r with | tup h1 r1 =>
    exact ⟨_, _, rfl, .of (C.cm.sm _ _ h1), by rw [r1.length]; exact q.1, h.sg E G M N σ H C _ _ r1 Q Qc q.2 k⟩
  · cases r with | rot h1 r1 =>
    exact ⟨_, _, rfl, same_seqT C.cm.sm h1, by rw [r1.length]; exact q.1, h.sg E G M N σ H C _ _ r1 Q Qc q.2 k⟩
  · exact q.elim⟩
/-- xs[i] = v of a list that may change -/
def agSubL (o i : aE) : aG := fun d G M Q => o G M fun x M1 => i G M1 fun y M2 => match x, y with
  | .ref p, .int z => (match M2 p with
    | some (.lst ds) => (match ixN ds.length z with | some j => Q G (mupd M2 p (.lst (ds.set j d))) | none => False)
    | _ => False)
  | _, _ => False
theorem dg_subL (ho : DE X o to ao) (hi : DE X i ti ai) (ha : ∀ v, assign (.Subscript o i pos) X.env v = (do
      let ov ← holding [v] (eval o X.env)
      let iv ← holding [v, ov] (eval i X.env)
      standAt pos
      holding [v, ov, iv] (setItem ov iv v)
      release [v, ov, iv] []) := by intro _; rfl) : DG X (.Subscript o i pos) (gSub to ti rSetL) (agSubL ao ai) := ⟨pg_sub ho.pe hi.pe set_list ha, by
  intro E G M N σ H C v d r Q Qc q k
  refine ho.se E G M N σ H C _ _ q fun x xv M1 N1 H1 h1 C1 s1 r1 => ?_
  refine hi.se E G M1 N1 σ H1 C1 _ _ h1 fun y yv M2 N2 H2 h2 C2 s2 r2 => ?_
  split at h2
  · have e1 := rel_ref (r1.mono s2)
    subst e1
    cases r2
    split at h2
    · rename_i ds e
      obtain ⟨xs, h3, r3⟩ := C2.cm.lst e
      split at h2
      · rename_i j hj
        refine ⟨_, xs, _, j, rfl, rfl, h3, by rw [r3.length]; exact hj, ?_⟩
        exact k _ _ N2 σ _ h2 (C2.mut e (hasL upd_same (r3.set ((r.mono s1).mono s2) j))) (s1.trans s2)
      · exact h2.elim
    · exact h2.elim
  · exact h2.elim⟩

/-! ### assignments -/
def asAsg (x : aE) (g : aG) : aS := fun A G M => x G M fun d M1 => g d G M1 A.nx
theorem ss_asg (he : SE K te ae) (hg : SG K g ag) : SS K (tAsg te g) (asAsg ae ag) := by
  intro E G M N σ H C A B m0 q k
  refine he E G M N σ H C _ _ q fun d v M1 N1 H1 h1 C1 s1 r1 => ?_
  exact hg E G M1 N1 σ H1 C1 v d r1 _ _ h1 fun G' M' N' σ' H' q' C' s' => k.nx G' M' N' σ' H' q' C' (s1.trans s')
theorem ds_asg (he : DE X e te ae) (hg : DG X tg g ag) (hs : swapsWithSole [tg] e pos.line X.env = pure false := by rfl) (hw : swappedStores [tg] e X.env = pure none := by rfl)
    (h1 : (assignEach [tg] X.env).map (·.2) = [assign tg X.env] := by rfl) : DS X (.Assign [tg] e pos) (tAsg te g) (asAsg ae ag) := ⟨ps_asg he.pe hg.pg hs hw h1, ss_asg he.se hg.sg⟩
theorem ds_set {j : Nat} {x : Str} {pos' : Pos} (hN : X.N.Nodup) (hi : X.N[j]? = some x) (hx : Loc X.env.scope x) (he : DE X e te ae) (hs : swapsWith e (some (.Name x pos')) pos.line X.env = pure false := by rfl) (hf : X.fn x = true ∨ X.env.scope.names.lookup x = some .local := by first | exact .inl rfl | exact .inr rfl | assumption) :
    DS X (.Assign [.Name x pos'] e pos) (tAsg te (gName j)) (asAsg ae (agName j)) := ⟨ps_set hN hi hx he.pe hs hf, ss_asg he.se sg_name⟩
/-- a, b = x, y with plain local names -/
def asPar (i j : Nat) (x : aA) : aS := fun A G M => x G M fun ds M1 => match ds with
  | [d, e] => A.nx ((G.set i (some d)).set j (some e)) M1
  | _ => False
theorem ds_par {i j : Nat} {x y : Str} {a b : Expr} {px py pt : Pos} {kt k2 pt2} (hN : X.N.Nodup) (hi : X.N[i]? = some x) (hj : X.N[j]? = some y) (ha : DA X [a, b] t at1) (hij : i ≠ j := by decide)
    (hx : X.env.scope.names.lookup x = some .local := by rfl) (hy : X.env.scope.names.lookup y = some .local := by rfl) (hc : X.calm = true := by rfl)
    (hw : swappedStores [.Tuple [.Name x px, .Name y py] kt pt] (.Tuple [a, b] k2 pt2) X.env = pure (some [x, y]) := by rfl)
    (hs : swapsWithSole [.Tuple [.Name x px, .Name y py] kt pt] (.Tuple [a, b] k2 pt2) pos.line X.env = pure false := by rfl) :
    DS X (.Assign [.Tuple [.Name x px, .Name y py] kt pt] (.Tuple [a, b] k2 pt2) pos) (tPar i j t) (asPar i j at1) := ⟨ps_par hc hN hi hj hij hx hy ha.pa hw hs, by
  intro E G M N σ H C A B m0 q k
  refine ha.sa E G M N σ H C _ _ q fun ds vs M1 N1 H1 h1 C1 s1 r1 => ?_
  split at h1
  · obtain ⟨v, w, rfl, r2, r3⟩ := rel2 r1
    exact ⟨v, w, rfl, k.nx _ M1 N1 _ H1 h1 (C1.slots ((C1.sl.set r2).set r3)) s1⟩
  · exact h1.elim⟩
theorem rel3 {N : Hp} {vs : List V} {d e f : D} (r : RelL K N vs [d, e, f]) : ∃ u v w, vs = [u, v, w] ∧ RelD K N u d ∧ RelD K N v e ∧ RelD K N w f := by
  cases r with | cons h r => cases r with | cons h2 r => cases r with | cons h3 r => cases r; exact ⟨_, _, _, rfl, h, h2, h3⟩
def asPar3 (i j l : Nat) (x : aA) : aS := fun A G M => x G M fun ds M1 => match ds with
  | [d, e, f] => A.nx (((G.set i (some d)).set j (some e)).set l (some f)) M1
  | _ => False
theorem ds_par3 {i j l : Nat} {x y z : Str} {a b c : Expr} {px py pz pt : Pos} {kt k2 pt2} (hN : X.N.Nodup) (hi : X.N[i]? = some x) (hj : X.N[j]? = some y) (hl : X.N[l]? = some z) (ha : DA X [a, b, c] t at1) (hij : i ≠ j := by decide) (hil : i ≠ l := by decide) (hjl : j ≠ l := by decide)
    (hx : X.env.scope.names.lookup x = some .local := by rfl) (hy : X.env.scope.names.lookup y = some .local := by rfl) (hz : X.env.scope.names.lookup z = some .local := by rfl) (hc : X.calm = true := by rfl)
    (hw : swappedStores [.Tuple [.Name x px, .Name y py, .Name z pz] kt pt] (.Tuple [a, b, c] k2 pt2) X.env = pure (some [x, y, z]) := by rfl)
    (hs : swapsWithSole [.Tuple [.Name x px, .Name y py, .Name z pz] kt pt] (.Tuple [a, b, c] k2 pt2) pos.line X.env = pure false := by rfl) :
    DS X (.Assign [.Tuple [.Name x px, .Name y py, .Name z pz] kt pt] (.Tuple [a, b, c] k2 pt2) pos) (tPar3 i j l t) (asPar3 i j l at1) := ⟨ps_par3 hc hN hi hj hl hij hil hjl hx hy hz ha.pa hw hs, by
  intro E G M N σ H C A B m0 q k
  refine ha.sa E G M N σ H C _ _ q fun ds vs M1 N1 H1 h1 C1 s1 r1 => ?_
  split at h1
  · obtain ⟨u, v, w, rfl, r2, r3, r4⟩ := rel3 r1
    exact ⟨u, v, w, rfl, k.nx _ M1 N1 _ H1 h1 (C1.slots (((C1.sl.set r2).set r3).set r4)) s1⟩
  · exact h1.elim⟩
/-- x += e, x -= e (ints), at a name -/
def asAug (j : Nat) (x : aE) (f : V2) : aS := fun A G M => match G[j]? with
  | some (some d) => x G M fun e M1 => f d e M1 fun z M2 => A.nx (G.set j (some z)) M2
  | _ => False
theorem ds_aug {j : Nat} {x : Str} {op : Operator} {r : R2} {f : V2} {pos' : Pos} (ho : OpR X (inplaceOp op) r) (hs : S2 X.K r f) (hN : X.N.Nodup) (hi : X.N[j]? = some x) (hx : Loc X.env.scope x) (he : DE X e te ae) (hf : X.fn x = true ∨ X.env.scope.names.lookup x = some .local := by first | exact .inl rfl | exact .inr rfl | assumption) :
    DS X (.AugAssign (.Name x pos') op e pos) (tAug j te r) (asAug j ae f) := ⟨ps_aug hN hi hx he.pe ho hf, by
  intro E G M N σ H C A B m0 q k
  unfold asAug at q
  split at q
  · rename_i d hd
    obtain ⟨v, h1, r1⟩ := C.sl.2 j d hd
    refine ⟨v, h1, ?_⟩
    refine he.se E G M N σ H C _ _ q fun d' v' M1 N1 H1 h1 C1 s1 r2 => ?_
    refine hs E G M1 N1 σ H1 C1 v v' _ _ (r1.mono s1) r2 _ _ h1 fun z w M2 N2 H2 h2 C2 s2 r3 => ?_
    exact k.nx _ M2 N2 _ H2 h2 (C2.slots (C2.sl.set r3)) (s1.trans s2)
  · exact q.elim⟩
/-- o.f = e of an instance that may change -/
def asFld (K : PySem.W.Frag) (x v : aE) (f : Str) : aS := fun A G M => v G M fun y M1 => x G M1 fun d M2 => match d with
  | .ref p => (match M2 p with
    | some (.ins C gs) => Cls K C ∧ NoAttr K C f ∧ gs.length < 1000 ∧ A.nx G (mupd M2 p (.ins C (putG f y gs)))
    | _ => False)
  | _ => False
where putG (f : Str) (v : D) : List (Str × D) → List (Str × D)
  | [] => [(f, v)]
  | (g, x) :: r => if g = f then (g, v) :: r else (g, x) :: putG f v r
theorem putG_rel {N : Hp} {f : Str} {v : V} {d : D} (h : RelD K N v d) : ∀ {xs : List (Str × V)} {gs : List (Str × D)}, RelF K N xs gs → RelF K N (putF f v xs) (asFld.putG f d gs)
  | _, _, .nil => .cons h .nil
  | _, _, .cons (x := g) h1 r => by
    unfold putF asFld.putG
    by_cases q : g = f
    · rw [if_pos q, if_pos q]; exact .cons h r
    · rw [if_neg q, if_neg q]; exact .cons h1 (putG_rel h r)
theorem ds_fld {f : Str} {pos' : Pos} {tv : TE} {av : aE} {value : Expr} (ha : DE X o ta aa) (hv : DE X value tv av) (hs : swapsWith value (some (.Attribute o f pos')) pos.line X.env = pure false := by rfl) : DS X (.Assign [.Attribute o f pos'] value pos) (sFld X.K ta tv f) (asFld X.K aa av f) := ⟨ps_fld ha.pe hv.pe hs, by
  intro E G M N σ H C A B m0 q k
  refine hv.se E G M N σ H C _ _ q fun y yv M1 N1 H1 h1 C1 s1 r1 => ?_
  refine ha.se E G M1 N1 σ H1 C1 _ _ h1 fun d v M2 N2 H2 h2 C2 s2 r2 => ?_
  split at h2
  · have e := rel_ref r2
    subst e
    split at h2
    · rename_i p _ Cc gs e
      obtain ⟨dx, fs, ho, rf⟩ := C2.cm.inst e
      obtain ⟨hc, hn, hl, h2⟩ := h2
      refine ⟨_, _, dx, fs, rfl, ho, hc, hn, by rw [rf.length]; exact hl, ?_⟩
      exact k.nx _ _ N2 _ _ h2 (C2.mut e (hasI upd_same (putG_rel (r1.mono s2) rf))) (s1.trans s2)
    · exact h2.elim
  · exact h2.elim⟩
/-- d[k] = v of a dict that may change -/
def putDk (M : Mp) (p : Addr) (key v : D) : Option MC := match M p with
  | some (.dK gs) => if gs.length < 1000000 then (keyOf key).map fun k => .dK (putD gs k v) else none
  | some (.dT gs) => if gs.length < 1000000 then (keyT key).map fun k => .dT (putD gs k v) else none
  | _ => none
def asDPut (d y v : aE) : aS := fun A G M => v G M fun v M1 => d G M1 fun d M2 => y G M2 fun k M3 => match d with
  | .ref p => (match putDk M3 p k v with | some c => A.nx G (mupd M3 p c) | none => False)
  | _ => False
theorem ds_dput {pos' : Pos} {td ty tv : TE} {ad ay av : aE} {value : Expr} (hu : X.A.units + 1 < cLine) (ho : DE X o td ad) (hi : DE X i ty ay) (hv : DE X value tv av) (hs : swapsWith value (some (.Subscript o i pos')) pos.line X.env = pure false := by rfl) :
    DS X (.Assign [.Subscript o i pos'] value pos) (sDPut td ty tv) (asDPut ad ay av) := ⟨ps_dput hu ho.pe hi.pe hv.pe hs, by
  intro E G M N σ H C A B m0 q k
  refine hv.se E G M N σ H C _ _ q fun z zv M1 N1 H1 h1 C1 s1 r1 => ?_
  refine ho.se E G M1 N1 σ H1 C1 _ _ h1 fun d v M2 N2 H2 h2 C2 s2 r2 => ?_
  refine hi.se E G M2 N2 σ H2 C2 _ _ h2 fun y yv M3 N3 H3 h3 C3 s3 r3 => ?_
  split at h3
  · have e := rel_ref (r2.mono s3)
    subst e
    split at h3
    · rename_i p _ c hc
      unfold putDk at hc
      split at hc
      · rename_i gs e
        split at hc
        · rename_i hl
          obtain ⟨kk, e1, rfl⟩ := Option.map_eq_some_iff.mp hc
          obtain ⟨kvs, hd, rf⟩ := C3.cm.dKs e
          have e3 := key_rel r3 e1
          subst e3
          refine ⟨_, _, rfl, .k hd (by rw [rf.length]; exact big_lt (Nat.le_of_lt hl)), ?_⟩
          exact k.nx _ _ N3 _ _ h3 (C3.mut e (hasK upd_same (rf.put kk ((r1.mono s2).mono s3)))) (s1.trans (s2.trans s3))
        · cases hc
      · rename_i gs e
        split at hc
        · rename_i hl
          obtain ⟨kk, e1, rfl⟩ := Option.map_eq_some_iff.mp hc
          obtain ⟨kvs, hd, rf⟩ := C3.cm.dTs e
          obtain ⟨b, rfl, hb⟩ := keyT_rel r3 e1
          refine ⟨_, _, rfl, .t hd (C3.cm.sm _ _ hb) (by rw [rf.length]; exact big_lt (Nat.le_of_lt hl)), ?_⟩
          exact k.nx _ _ N3 _ _ h3 (C3.mut e (hasT upd_same (rf.put kk ((r1.mono s2).mono s3)))) (s1.trans (s2.trans s3))
        · cases hc
      · cases hc
    · exact h3.elim
  · exact h3.elim⟩

/-! ### while -/
def asWhile (c : aT) (b : aS) : aS := fun A G M => ∃ W : Nat → Gm → Mp → Prop, (∃ m, W m G M) ∧ ∀ m G M, W m G M →
  c G M fun k M1 => if k = true then b { A with nx := fun G' M' => ∃ m', m' < m ∧ W m' G' M', ct := fun G' M' => ∃ m', m' < m ∧ W m' G' M', bk := A.nx } G M1 else A.nx G M1
theorem ds_while {body : List Stmt} (hc : DT X c tt aT') (hb : DSs X body u1 w1) (hp : PassesOwn (model X.prog X.w) X.A X.env X.xe) : DS X (.While c body [] pos) (tWhile tt u1) (asWhile aT' w1) := ⟨ps_while hp hc.pt hb.ps, by
  intro E G M N σ H C A B m0 q k
  obtain ⟨W, ⟨m, hm⟩, hW⟩ := q
  refine ⟨fun m σ H => ∃ G M N', CC X.K E G M N' σ H ∧ Same N N' ∧ W m G M, ⟨m, G, M, N, C, Same.refl N, hm⟩, ?_⟩
  rintro m σ H ⟨G, M, N', C', s', hw⟩
  refine hc.st E G M N' σ H C' _ _ (hW m G M hw) fun b M1 N1 H1 h1 C1 s1 => ?_
  cases b with
  | true =>
    rw [if_pos rfl] at h1 ⊢
    refine ⟨fun σ' H' => ∃ m', m' < m ∧ ∃ G M N', CC X.K E G M N' σ' H' ∧ Same N N' ∧ W m' G M, fun σ' H' h => h, ?_⟩
    refine hb.ss E G M1 N1 σ H1 C1 _ _ ?_ h1 ⟨?_, ?_, ?_, ?_⟩
    · exact m0
    · rintro G' M' N2 σ' H' ⟨m', l, w'⟩ C2 s2
      exact ⟨m', l, G', M', N2, C2, s'.trans (s1.trans s2), w'⟩
    · exact fun d v G' M' N2 σ' H' q' C2 s2 r2 => k.rt d v G' M' N2 σ' H' q' C2 (s'.trans (s1.trans s2)) r2
    · exact fun G' M' N2 σ' H' q' C2 s2 => k.nx G' M' N2 σ' H' q' C2 (s'.trans (s1.trans s2))
    · rintro G' M' N2 σ' H' ⟨m', l, w'⟩ C2 s2
      exact ⟨m', l, G', M', N2, C2, s'.trans (s1.trans s2), w'⟩
  | false =>
    rw [if_neg Bool.false_ne_true] at h1 ⊢
    exact k.nx G M1 N1 σ H1 h1 C1 (s'.trans s1)⟩

/-! ### what a loop walks -/
def Drv (K : PySem.W.Frag) (J : It) (ds : List D) (N1 : Hp) : Prop := ∀ E G M N σ H, CC K E G M N σ H → Same N1 N → ∀ i : Nat,
  (ds.length ≤ i → J.stop i H) ∧ ∀ d, ds[i]? = some d → J.go i H ∧ ∀ x H', J.yld i H x H' → ∃ N', Same N N' ∧ Fr M N H M N' H' ∧ CM K M N' H' ∧ RelD K N' x d
def SI (K : PySem.W.Frag) (wi : TI) (ai : aA) : Prop := ∀ E G M N σ H, CC K E G M N σ H → ∀ (Q : List D → Mp → Prop) (R : It → Hp → Prop), ai G M Q → (∀ ds M' N' H' J, Q ds M' → CC K E G M' N' σ H' → Same N N' → Drv K J ds N' → R J H') → wi σ H R
structure DI (X : Cx) (tg iter : Expr) (wi : TI) (ai : aA) : Prop where
  pi : PI X tg iter wi
  si : SI X.K wi ai
/-- over a list or a tuple that stands still -/
def aiSeq (x : aE) : aA := fun G M Q => x G M fun d M1 => match items d with | some ds => Q ds M1 | none => False
def iSeq (K : PySem.W.Frag) (tl : TE) : TI := fun σ H R => tl σ H fun x H1 => ∃ a, x = .ref a ∧ (((∃ xs, SqL K H1 a xs) ∧ R (Itl K a) H1) ∨ ((∃ xs, SqT K H1 a xs) ∧ R (Itt K a) H1))
/-- an iterator of one record, just laid -/
theorem iter_one {pins : List (Addr × Obj)} {σ : L2.St} {H : Hp} {s : Shared} {R : It → Hp → Prop} {J : It} {tn : Nat → Heap → Prop} {ob : Obj} (I : Inv X pins σ H s) (T : Turn X.prog X.w X.K tg J [s.heap.objs.size] s.heap.objs.size tn) (t0 : tn 0 (s.heap.push ob)) (q : R J H) :
    PIE X pins σ tg R (.ref s.heap.objs.size) { s with heap := s.heap.push ob } :=
  ⟨_, _, _, _, H, rfl, I.kept (t' := s.toks) fun _ _ e => Heap.get?_push_of_some _ e, T, t0, fun b hb => by
    cases List.mem_singleton.mp hb
    exact I.fpOk (Nat.le_refl _) (I.hok.fresh (Nat.le_refl _)), q⟩
theorem iter_seq {pins : List (Addr × Obj)} {σ : L2.St} {H : Hp} {s : Shared} {R : It → Hp → Prop} {a : Addr} (I : Inv X pins σ H s) (h : ((∃ xs, SqL X.K H a xs) ∧ R (Itl X.K a) H) ∨ ((∃ xs, SqT X.K H a xs) ∧ R (Itt X.K a) H)) :
    wpAny (model X.prog X.w) X.A (pyIter (.ref a)) (PIE X pins σ tg R) X.xe s := by
  rcases h with ⟨⟨xs, h⟩, q⟩ | ⟨⟨xs, h⟩, q⟩
  · obtain ⟨us, _, p, _⟩ := I.list h
    exact wpAny_pyIter_list p.isList (iter_one I (turn_list a _) ⟨_, Heap.get?_push_size _ rfl, rfl, rfl⟩ q)
  · obtain ⟨us, _, p, _⟩ := I.tuple h
    exact wpAny_pyIter_tuple (show s.heap.IsTuple a us.toArray from p) (iter_one I (turn_tuple a _) ⟨_, Heap.get?_push_size _ rfl, rfl, rfl⟩ q)
theorem pi_seq {l : Expr} {tl : TE} (hl : PE X l tl) : PI X tg l (iSeq X.K tl) := by
  refine ⟨fun pins s σ H R I h => ?_⟩
  refine thn (hl.run pins s σ H _ I h) fun v s1 ⟨x, H1, I1, r1, a, ex, q⟩ => ?_
  subst ex
  obtain rfl : v = Value.ref a := r1
  exact iter_seq I1 q
theorem drv_list {N1 : Hp} {p : Addr} {xs : List V} {ds : List D} (h : SqL K N1 p xs) (r : RelL K N1 xs ds) : Drv K (Itl K p) ds N1 := fun E G M N σ H C s1 i =>
  have hs : SqL K H p xs := C.cm.sm.seq (s1.seq h)
  ⟨fun hi => ⟨xs, hs, by rw [r.length]; exact hi⟩, fun d hd => by
    obtain ⟨x, hx, rx⟩ := r.getR hd
    refine ⟨⟨xs, x, hs, hx⟩, fun y H' hy => ?_⟩
    obtain ⟨rfl, hy⟩ := hy
    obtain rfl : x = y := Option.some.inj (hx.symm.trans (hy xs hs))
    exact ⟨N, Same.refl N, .refl, C.cm, rx.mono s1⟩⟩
theorem drv_tup {N1 : Hp} {p : Addr} {xs : List V} {ds : List D} (h : SqT K N1 p xs) (r : RelL K N1 xs ds) : Drv K (Itt K p) ds N1 := fun E G M N σ H C s1 i =>
  have hs : SqT K H p xs := same_seqT C.cm.sm (same_seqT s1 h)
  ⟨fun hi => ⟨xs, hs, by rw [r.length]; exact hi⟩, fun d hd => by
    obtain ⟨x, hx, rx⟩ := r.getR hd
    refine ⟨⟨xs, x, hs, hx⟩, fun y H' hy => ?_⟩
    obtain ⟨rfl, hy⟩ := hy
    obtain rfl : x = y := Option.some.inj (hx.symm.trans (hy xs hs))
    exact ⟨N, Same.refl N, .refl, C.cm, rx.mono s1⟩⟩
theorem di_seq {l : Expr} {tl : TE} {al : aE} (hl : DE X l tl al) : DI X tg l (iSeq X.K tl) (aiSeq al) := ⟨pi_seq hl.pe, by
  intro E G M N σ H C Q R q k
  refine hl.se E G M N σ H C _ _ q fun d v M1 N1 H1 h1 C1 s1 r1 => ?_
  split at h1
  · rename_i ds hi
    obtain ⟨p, xs, rfl, r2, h4⟩ := rel_items r1 hi
    refine ⟨p, rfl, ?_⟩
    rcases h4 with ⟨_, h4⟩ | ⟨_, h4⟩
    · exact .inl ⟨⟨xs, C1.cm.sm.seq h4⟩, k ds M1 N1 H1 _ h1 C1 s1 (drv_list h4 r2)⟩
    · exact .inr ⟨⟨xs, same_seqT C1.cm.sm h4⟩, k ds M1 N1 H1 _ h1 C1 s1 (drv_tup h4 r2)⟩
  · exact h1.elim⟩
/-- lo, lo + 1, .. -/
def rng (lo : Int) (n : Nat) : List D := (List.range n).map fun (j : Nat) => .int (lo + (j : Int))
theorem drv_range {N1 : Hp} {lo : Int} {n : Nat} : Drv K (Itr lo n) (rng lo n) N1 := fun E G M N σ H C s1 i =>
  ⟨fun hi => by
    show n ≤ i
    simpa [rng] using hi, fun d hd => by
    have hi : i < n := by
      have := (List.getElem?_eq_some_iff.mp hd).1
      simpa [rng] using this
    have e : d = .int (lo + (i : Int)) := by
      unfold rng at hd
      rw [List.getElem?_map, List.getElem?_range hi] at hd
      cases hd
      rfl
    subst e
    refine ⟨hi, fun y H' hy => ?_⟩
    obtain ⟨rfl, rfl⟩ := hy
    exact ⟨N, Same.refl N, .refl, C.cm, .int _⟩⟩
def aiRng1 (x : aA) : aA := fun G M Q => x G M fun ds M1 => match ds with
  | [.int j] => j ≤ 1000000 ∧ -1000000 ≤ j ∧ Q (rng 0 j.toNat) M1
  | _ => False
def aiRng2 (x : aA) : aA := fun G M Q => x G M fun ds M1 => match ds with
  | [.int i, .int j] => (j ≤ 1000000 ∧ -1000000 ≤ j ∧ i ≤ 1000000 ∧ -1000000 ≤ i) ∧ Q (rng i (j - i).toNat) M1
  | _ => False
theorem di_range1 {p : Pos} (hg : Gl X "range") (hm : X.mg "range" = none) (ha : DA X [a] t at1) (hs : starEach [a] X.env = [(false, eval a X.env)] := by rfl) : DI X tg (.Call (.Name "range" p) [a] [] pos) (iRng1 t) (aiRng1 at1) := ⟨pi_range1 hg hm ha.pa hs, by
  intro E G M N σ H C Q R q k
  refine ha.sa E G M N σ H C _ _ q fun ds vs M1 N1 H1 h1 C1 s1 r1 => ?_
  split at h1
  · obtain ⟨v, rfl, r2⟩ := rel1 r1
    cases r2
    exact ⟨_, rfl, by omega, by omega, k _ M1 N1 H1 _ h1.2.2 C1 s1 drv_range⟩
  · exact h1.elim⟩
theorem di_range2 {p : Pos} (hg : Gl X "range") (hm : X.mg "range" = none) (ha : DA X [a, b] t at1) (hs : starEach [a, b] X.env = [(false, eval a X.env), (false, eval b X.env)] := by rfl) (hs2 : starEach [b] X.env = [(false, eval b X.env)] := by rfl) :
    DI X tg (.Call (.Name "range" p) [a, b] [] pos) (iRng2 t) (aiRng2 at1) := ⟨pi_range2 hg hm ha.pa hs hs2, by
  intro E G M N σ H C Q R q k
  refine ha.sa E G M N σ H C _ _ q fun ds vs M1 N1 H1 h1 C1 s1 r1 => ?_
  split at h1
  · obtain ⟨v, w, rfl, r2, r3⟩ := rel2 r1
    cases r2; cases r3
    exact ⟨_, _, rfl, ⟨by omega, by omega, by omega, by omega⟩, k _ M1 N1 H1 _ h1.2 C1 s1 drv_range⟩
  · exact h1.elim⟩
/-- zip of two lists, of two tuples, that stand still -/
def zipD (ds es : List D) : List D := (ds.zip es).map fun p => .tup [p.1, p.2]
def aiZip (x : aA) : aA := fun G M Q => x G M fun ds M1 => match ds with
  | [d, e] => isL d = isL e ∧ (match items d, items e with | some xs, some ys => Q (zipD xs ys) M1 | _, _ => False)
  | _ => False
theorem zipD_get {ds es : List D} {i : Nat} {d : D} (h : (zipD ds es)[i]? = some d) : ∃ x y, ds[i]? = some x ∧ es[i]? = some y ∧ d = .tup [x, y] := by
  unfold zipD at h
  rw [List.getElem?_map] at h
  obtain ⟨⟨x, y⟩, h1, rfl⟩ := Option.map_eq_some_iff.mp h
  obtain ⟨h2, h3⟩ := List.getElem?_zip_eq_some.mp h1
  exact ⟨x, y, h2, h3, rfl⟩
theorem drv_zipL {N1 : Hp} {p q : Addr} {xs ys : List V} {ds es : List D} (h : SqL K N1 p xs) (r : RelL K N1 xs ds) (h' : SqL K N1 q ys) (r' : RelL K N1 ys es) : Drv K (Itz K p q) (zipD ds es) N1 := fun E G M N σ H C s1 i =>
  have hs : SqL K H p xs := C.cm.sm.seq (s1.seq h)
  have hs' : SqL K H q ys := C.cm.sm.seq (s1.seq h')
  ⟨fun hi => ⟨xs, ys, hs, hs', by rw [r.length, r'.length]; simp only [zipD, List.length_map, List.length_zip] at hi; omega⟩, fun d hd => by
    obtain ⟨d1, d2, e1, e2, rfl⟩ := zipD_get hd
    obtain ⟨x, hx, rx⟩ := r.getR e1
    obtain ⟨y, hy, ry⟩ := r'.getR e2
    refine ⟨⟨xs, ys, x, y, hs, hs', hx, hy⟩, fun v H' hv => ?_⟩
    obtain ⟨T, x', y', rfl, hT, rfl, f1, f2⟩ := hv
    obtain rfl : x = x' := Option.some.inj (hx.symm.trans (f1 xs hs))
    obtain rfl : y = y' := Option.some.inj (hy.symm.trans (f2 ys hs'))
    have s := same_new (o := .tup [x, y]) (C.cm.none hT).1
    exact ⟨_, s, fr_new hT (C.cm.none hT).1, cm_new C.cm hT, .tup upd_same (.cons ((rx.mono s1).mono s) (.cons ((ry.mono s1).mono s) .nil))⟩⟩
theorem drv_zipT {N1 : Hp} {p q : Addr} {xs ys : List V} {ds es : List D} (h : SqT K N1 p xs) (r : RelL K N1 xs ds) (h' : SqT K N1 q ys) (r' : RelL K N1 ys es) : Drv K (RZ.ItzT K p q) (zipD ds es) N1 := fun E G M N σ H C s1 i =>
  have hs : SqT K H p xs := same_seqT C.cm.sm (same_seqT s1 h)
  have hs' : SqT K H q ys := same_seqT C.cm.sm (same_seqT s1 h')
  ⟨fun hi => ⟨xs, ys, hs, hs', by rw [r.length, r'.length]; simp only [zipD, List.length_map, List.length_zip] at hi; omega⟩, fun d hd => by
    obtain ⟨d1, d2, e1, e2, rfl⟩ := zipD_get hd
    obtain ⟨x, hx, rx⟩ := r.getR e1
    obtain ⟨y, hy, ry⟩ := r'.getR e2
    refine ⟨⟨xs, ys, x, y, hs, hs', hx, hy⟩, fun v H' hv => ?_⟩
    obtain ⟨T, x', y', rfl, hT, rfl, f1, f2⟩ := hv
    obtain rfl : x = x' := Option.some.inj (hx.symm.trans (f1 xs hs))
    obtain rfl : y = y' := Option.some.inj (hy.symm.trans (f2 ys hs'))
    have s := same_new (o := .tup [x, y]) (C.cm.none hT).1
    exact ⟨_, s, fr_new hT (C.cm.none hT).1, cm_new C.cm hT, .tup upd_same (.cons ((rx.mono s1).mono s) (.cons ((ry.mono s1).mono s) .nil))⟩⟩
theorem di_zip {p tpos : Pos} {elts : List Expr} {kk : Nat} (hg : Gl X "zip") (hm : X.mg "zip" = none) (ha : DA X [a, b] t at1)
    (hs : starEach [a, b] X.env = (false, eval a X.env) :: starEach [b] X.env := by rfl) (hpl : (backTo pos (starEach [b] X.env)).any (·.1) = false := by rfl) :
    DI X (.Tuple elts kk tpos) (.Call (.Name "zip" p) [a, b] [] pos) (RZ.iZipA X.K t) (aiZip at1) := ⟨RZ.pi_zipA hg hm ha.pa hs hpl, by
  intro E G M N σ H C Q R q k
  refine ha.sa E G M N σ H C _ _ q fun ds vs M1 N1 H1 h1 C1 s1 r1 => ?_
  split at h1
  · obtain ⟨v, w, rfl, r2, r3⟩ := rel2 r1
    obtain ⟨h0, h1⟩ := h1
    split at h1
    · rename_i xs ys hx hy
      obtain ⟨p1, us, rfl, q2, h4⟩ := rel_items r2 hx
      obtain ⟨p2, ws, rfl, q3, h5⟩ := rel_items r3 hy
      refine ⟨p1, p2, us, ws, rfl, ?_⟩
      rcases h4 with ⟨e4, h4⟩ | ⟨e4, h4⟩
      · rcases h5 with ⟨e5, h5⟩ | ⟨e5, h5⟩
        · exact .inl ⟨C1.cm.sm.seq h4, C1.cm.sm.seq h5, k _ M1 N1 H1 _ h1 C1 s1 (drv_zipL h4 q2 h5 q3)⟩
        · rw [e4, e5] at h0; cases h0
      · rcases h5 with ⟨e5, h5⟩ | ⟨e5, h5⟩
        · rw [e4, e5] at h0; cases h0
        · exact .inr ⟨same_seqT C1.cm.sm h4, same_seqT C1.cm.sm h5, k _ M1 N1 H1 _ h1 C1 s1 (drv_zipT h4 q2 h5 q3)⟩
    · exact h1.elim
  · exact h1.elim⟩
/-- enumerate of a list that stands still -/
def enumD (ds : List D) : List D := (ds.zip (List.range ds.length)).map fun p => .tup [.int (p.2 : Nat), p.1]
theorem enumD_get {ds : List D} {i : Nat} {d : D} (h : (enumD ds)[i]? = some d) : ∃ x, ds[i]? = some x ∧ d = .tup [.int (i : Nat), x] := by
  unfold enumD at h
  rw [List.getElem?_map] at h
  obtain ⟨⟨x, y⟩, h1, rfl⟩ := Option.map_eq_some_iff.mp h
  obtain ⟨h2, h3⟩ := List.getElem?_zip_eq_some.mp h1
  have hi := (List.getElem?_eq_some_iff.mp h3).1
  rw [List.length_range] at hi
  rw [List.getElem?_range hi] at h3
  cases h3
  exact ⟨x, h2, rfl⟩
def aiEnum (x : aA) : aA := fun G M Q => x G M fun ds M1 => match ds with
  | [d] => isL d = true ∧ (match items d with | some xs => Q (enumD xs) M1 | _ => False)
  | _ => False
theorem drv_enum {N1 : Hp} {p : Addr} {xs : List V} {ds : List D} (h : SqL K N1 p xs) (r : RelL K N1 xs ds) : Drv K (Ite K p) (enumD ds) N1 := fun E G M N σ H C s1 i =>
  have hs : SqL K H p xs := C.cm.sm.seq (s1.seq h)
  ⟨fun hi => ⟨xs, hs, by rw [r.length]; simp only [enumD, List.length_map, List.length_zip, List.length_range] at hi; omega⟩, fun d hd => by
    obtain ⟨d1, e1, rfl⟩ := enumD_get hd
    obtain ⟨x, hx, rx⟩ := r.getR e1
    refine ⟨⟨xs, x, hs, hx⟩, fun v H' hv => ?_⟩
    obtain ⟨T, x', rfl, hT, rfl, f1⟩ := hv
    obtain rfl : x = x' := Option.some.inj (hx.symm.trans (f1 xs hs))
    have s := same_new (o := .tup [.int (i : Nat), x]) (C.cm.none hT).1
    exact ⟨_, s, fr_new hT (C.cm.none hT).1, cm_new C.cm hT, .tup upd_same (.cons (.int _) (.cons ((rx.mono s1).mono s) .nil))⟩⟩
theorem di_enum {p tpos : Pos} {elts : List Expr} {kk : Nat} (hg : Gl X "enumerate") (hm : X.mg "enumerate" = none) (ha : DA X [a] t at1) (hs : starEach [a] X.env = [(false, eval a X.env)] := by rfl) :
    DI X (.Tuple elts kk tpos) (.Call (.Name "enumerate" p) [a] [] pos) (iEnum X.K t) (aiEnum at1) := ⟨pi_enum hg hm ha.pa hs, by
  intro E G M N σ H C Q R q k
  refine ha.sa E G M N σ H C _ _ q fun ds vs M1 N1 H1 h1 C1 s1 r1 => ?_
  split at h1
  · obtain ⟨v, rfl, r2⟩ := rel1 r1
    obtain ⟨h0, h1⟩ := h1
    split at h1
    · rename_i xs hx
      obtain ⟨p1, us, rfl, q2, h4⟩ := rel_items r2 hx
      rcases h4 with ⟨e4, h4⟩ | ⟨e4, h4⟩
      · exact ⟨p1, us, rfl, C1.cm.sm.seq h4, k _ M1 N1 H1 _ h1 C1 s1 (drv_enum h4 q2)⟩
      · rw [e4] at h0; cases h0
    · exact h1.elim
  · exact h1.elim⟩
/-- the signs of a text -/
def signsD (x : Str) : List D := x.cps.toList.map fun c => .str ⟨#[c]⟩
def aiStr (x : aE) : aA := fun G M Q => x G M fun d M1 => match d with | .str z => Q (signsD z) M1 | _ => False
theorem drv_str {N1 : Hp} {z : Str} : Drv K (Its z) (signsD z) N1 := fun E G M N σ H C s1 i =>
  ⟨fun hi => by
    show z.cps.size ≤ i
    simpa [signsD] using hi, fun d hd => by
    have hi : i < z.cps.size := by
      have := (List.getElem?_eq_some_iff.mp hd).1
      simpa [signsD] using this
    refine ⟨hi, fun y H' hy => ?_⟩
    obtain ⟨rfl, c, hc, rfl⟩ := hy
    unfold signsD at hd
    rw [List.getElem?_map, Array.getElem?_toList, hc] at hd
    cases hd
    exact ⟨N, Same.refl N, .refl, C.cm, .str _⟩⟩
theorem di_str {l : Expr} {tl : TE} {al : aE} (hl : DE X l tl al) : DI X tg l (iStr tl) (aiStr al) := ⟨pi_str hl.pe, by
  intro E G M N σ H C Q R q k
  refine hl.se E G M N σ H C _ _ q fun d v M1 N1 H1 h1 C1 s1 r1 => ?_
  split at h1
  · cases r1
    exact ⟨_, rfl, k _ M1 N1 H1 _ h1 C1 s1 drv_str⟩
  · exact h1.elim⟩

/-! ### for -/
def forGo (g : aG) (b : aS) : List D → aS
  | [], A, G, M => A.nx G M
  | d :: ds, A, G, M => g d G M fun G' M' => b { A with nx := forGo g b ds A, ct := forGo g b ds A, bk := A.nx } G' M'
def asFor (src : aA) (g : aG) (b : aS) : aS := fun A G M => src G M fun ds M1 => forGo g b ds A G M1
theorem ds_for {iter : Expr} {body : List Stmt} {wi : TI} {awi : aA} (hi : DI X tg iter wi awi) (hg : DG X tg g ag) (hb : DSs X body tu au) (hp : PassesOwn (model X.prog X.w) X.A X.env X.xe) (hc : X.calm = true := by rfl)
    (hs : ∀ x, foldedSetIterable iter X.env x = pure x := by intro _; rfl) : DS X (.For tg iter body [] pos) (tFor wi g tu) (asFor awi ag au) := ⟨ps_for hp hc hi.pi hg.pg hb.ps hs, by
  intro E G M N σ H C A B m0 q k
  refine hi.si E G M N σ H C _ _ q fun ds M1 N1 H1 J h1 C1 s1 dr => ?_
  refine ⟨fun i m σ H => ∃ G M N', CC X.K E G M N' σ H ∧ Same N1 N' ∧ m = ds.length - i ∧ forGo ag au (ds.drop i) A G M, ⟨_, G, M1, N1, C1, Same.refl _, rfl, h1⟩, ?_⟩
  rintro i m σ H ⟨G, M, N', C', s', rfl, hf⟩
  obtain ⟨d1, d2⟩ := dr E G M N' σ H C' s' i
  by_cases hl : ds.length ≤ i
  · rw [List.drop_eq_nil_of_le hl] at hf
    exact .inl ⟨d1 hl, k.nx G M N' σ H hf C' (s1.trans s')⟩
  · have hl : i < ds.length := by omega
    rw [List.drop_eq_getElem_cons hl] at hf
    obtain ⟨g1, g2⟩ := d2 ds[i] (List.getElem?_eq_getElem hl)
    refine .inr ⟨g1, fun σ' H' => ∃ G M N', CC X.K E G M N' σ' H' ∧ Same N1 N' ∧ forGo ag au (ds.drop (i + 1)) A G M, fun σ' H' ⟨G, M, N', c, s, f⟩ => ⟨ds.length - (i + 1), by omega, G, M, N', c, s, rfl, f⟩, fun x H' hy => ?_⟩
    obtain ⟨N2, s2, f2, c2, r2⟩ := g2 x H' hy
    refine hg.sg E G M N2 σ H' (C'.step f2 c2) x _ r2 _ _ hf fun G3 M3 N3 σ3 H3 h3 C3 s3 => ?_
    have s4 : Same N1 N3 := s'.trans (s2.trans s3)
    refine hb.ss E G3 M3 N3 σ3 H3 C3 _ _ ?_ h3 ⟨?_, ?_, ?_, ?_⟩
    · exact m0
    · exact fun G' M' N4 σ' H' q' C4 s5 => ⟨G', M', N4, C4, s4.trans s5, q'⟩
    · exact fun d v G' M' N4 σ' H' q' C4 s5 r5 => k.rt d v G' M' N4 σ' H' q' C4 (s1.trans (s4.trans s5)) r5
    · exact fun G' M' N4 σ' H' q' C4 s5 => k.nx G' M' N4 σ' H' q' C4 (s1.trans (s4.trans s5))
    · exact fun G' M' N4 σ' H' q' C4 s5 => ⟨G', M', N4, C4, s4.trans s5, q'⟩⟩
end
end DL

set_option Elab.async false
set_option linter.all false
set_option maxRecDepth 100000
namespace DL
open PySem PySem.Spec PyProof.Rows L2
/-! ### wiped slots -/
theorem wipe_get (σ : L2.St) (j : Nat) : ∀ vs : List Nat, (wipe σ vs)[j]? = if j ∈ vs then σ[j]?.map (fun _ => none) else σ[j]?
  | [] => by simp [wipe]
  | v :: vs => by
    have ih := wipe_get σ j vs
    unfold wipe
    by_cases q : v = j
    · subst q
      rw [if_pos (by simp)]
      by_cases l : v < (wipe σ vs).length
      · rw [List.getElem?_set_self l]
        rw [wipe_length] at l
        rw [List.getElem?_eq_getElem l]
        rfl
      · rw [List.getElem?_eq_none (by simpa using l)]
        rw [wipe_length] at l
        rw [List.getElem?_eq_none (by omega)]
        rfl
    · rw [List.getElem?_set_ne q, ih]
      have e : (j ∈ v :: vs) = (j ∈ vs) := by simp [Ne.symm q]
      simp only [e]
theorem wipe_set (σ : L2.St) (j : Nat) (x : Option V) (vs : List Nat) (h : j ∈ vs) : wipe (σ.set j x) vs = wipe σ vs := by
  apply List.ext_getElem?
  intro i
  rw [wipe_get, wipe_get]
  by_cases q : j = i
  · subst q
    rw [if_pos h, if_pos h]
    by_cases l : j < σ.length
    · rw [List.getElem?_set_self l, List.getElem?_eq_getElem l]; rfl
    · rw [List.getElem?_eq_none (by simpa using l), List.getElem?_eq_none (by omega)]
  · rw [List.getElem?_set_ne q]
theorem wipe_wipe (σ : L2.St) (vs : List Nat) : wipe (wipe σ vs) vs = wipe σ vs := by
  apply List.ext_getElem?
  intro i
  rw [wipe_get, wipe_get]
  split
  · rw [Option.map_map]; rfl
  · rfl
/-- a target that stores in these slots alone -/
def OwnG (vs : List Nat) (g : TG) : Prop := ∀ v σ H Q, g v σ H Q → g v σ H fun σ2 H2 => wipe σ2 vs = wipe σ vs ∧ Q σ2 H2
def OwnGs (vs : List Nat) (g : TGs) : Prop := ∀ v σ H Q, g v σ H Q → g v σ H fun σ2 H2 => wipe σ2 vs = wipe σ vs ∧ Q σ2 H2
theorem own_name {vs : List Nat} {j : Nat} (h : j ∈ vs := by decide) : OwnG vs (gName j) := fun v σ H Q q => ⟨wipe_set σ j _ vs h, q⟩
theorem own_nil {vs : List Nat} : OwnGs vs gNil := fun v σ H Q q => ⟨q.1, rfl, q.2⟩
def MonoG (g : TG) : Prop := ∀ v σ H Q Q', (∀ σ H, Q σ H → Q' σ H) → g v σ H Q → g v σ H Q'
def MonoGs (g : TGs) : Prop := ∀ v σ H Q Q', (∀ σ H, Q σ H → Q' σ H) → g v σ H Q → g v σ H Q'
structure OwnM (vs : List Nat) (g : TG) : Prop where
  own : OwnG vs g
  mono : MonoG g
structure OwnMs (vs : List Nat) (g : TGs) : Prop where
  own : OwnGs vs g
  mono : MonoGs g
theorem om_name {vs : List Nat} {j : Nat} (h : j ∈ vs := by decide) : OwnM vs (gName j) := ⟨own_name h, fun v σ H Q Q' k q => k _ _ q⟩
theorem om_nil {vs : List Nat} : OwnMs vs gNil := ⟨own_nil, fun v σ H Q Q' k q => ⟨q.1, k _ _ q.2⟩⟩
theorem om_cons {vs : List Nat} {g : TG} {gs : TGs} (h1 : OwnM vs g) (h2 : OwnMs vs gs) : OwnMs vs (gCons g gs) where
  own := fun v σ H Q q => by
    obtain ⟨x, r, rfl, q⟩ := q
    refine ⟨x, r, rfl, h1.mono x σ H _ _ (fun σ1 H1 ⟨e1, q1⟩ => ?_) (h1.own x σ H _ q)⟩
    exact h2.mono r σ1 H1 _ _ (fun σ2 H2 ⟨e2, q2⟩ => ⟨e2.trans e1, q2⟩) (h2.own r σ1 H1 _ q1)
  mono := fun v σ H Q Q' k q => by
    obtain ⟨x, r, rfl, q⟩ := q
    exact ⟨x, r, rfl, h1.mono x σ H _ _ (fun σ1 H1 q1 => h2.mono r σ1 H1 _ _ k q1) q⟩
theorem om_tup {vs : List Nat} {K : PySem.W.Frag} {n : Nat} {gs : TGs} (h2 : OwnMs vs gs) : OwnM vs (gTup K n gs) where
  own := fun v σ H Q q => by
    obtain ⟨x, r, rfl, hs, hl, q⟩ := q
    exact ⟨x, r, rfl, hs, hl, h2.own r σ H _ q⟩
  mono := fun v σ H Q Q' k q => by
    obtain ⟨x, r, rfl, hs, hl, q⟩ := q
    exact ⟨x, r, rfl, hs, hl, h2.mono r σ H _ _ k q⟩
def wipeG (G : Gm) : List Nat → Gm
  | [] => G
  | v :: vs => (wipeG G vs).set v none
theorem wipeG_some {G : Gm} {i : Nat} {d : D} : ∀ {vs : List Nat}, (wipeG G vs)[i]? = some (some d) → G[i]? = some (some d) ∧ i ∉ vs
  | [], h => ⟨h, by simp⟩
  | v :: vs, h => by
    unfold wipeG at h
    by_cases q : v = i
    · subst q
      by_cases l : v < (wipeG G vs).length
      · rw [List.getElem?_set_self l] at h; cases h
      · rw [List.getElem?_eq_none (by simpa using l)] at h; cases h
    · rw [List.getElem?_set_ne q] at h
      obtain ⟨h1, h2⟩ := wipeG_some h
      exact ⟨h1, by simp [Ne.symm q, h2]⟩
theorem wipeG_length (G : Gm) : ∀ vs, (wipeG G vs).length = G.length
  | [] => rfl
  | v :: vs => by simp [wipeG, wipeG_length G vs]
theorem Sl.wipe {K : PySem.W.Frag} {N : Hp} {G : Gm} {σ : L2.St} (h : Sl K N G σ) (vs : List Nat) : Sl K N (wipeG G vs) (L2.wipe σ vs) := by
  refine ⟨by rw [wipe_length, wipeG_length, h.1], fun i d e => ?_⟩
  obtain ⟨h1, h2⟩ := wipeG_some e
  obtain ⟨v, h3, h4⟩ := h.2 i d h1
  exact ⟨v, by rw [wipe_get, if_neg h2]; exact h3, h4⟩

/-! ### comprehensions -/
def lcGo (g : aG) (t : aT) (x : aE) (G : Gm) : List D → List D → Mp → (List D → Mp → Prop) → Prop
  | [], acc, M, Q => Q acc M
  | d :: ds, acc, M, Q => g d G M fun G' M1 => t G' M1 fun b M2 => if b = true then x G' M2 fun y M3 => lcGo g t x G ds (acc ++ [y]) M3 Q else lcGo g t x G ds acc M2 Q
def aLc (src : aA) (g : aG) (t : aT) (x : aE) (vs : List Nat) : aE := fun G M Q => src G M fun ds M1 => ds.length ≤ 1000000 ∧ lcGo g t x (wipeG G vs) ds [] M1 fun acc M2 => Q (.list acc) M2
def aLcM (src : aA) (g : aG) (t : aT) (x : aE) (vs : List Nat) : aE := fun G M Q => src G M fun ds M1 => ds.length ≤ 1000000 ∧ lcGo g t x (wipeG G vs) ds [] M1 fun acc M2 => ∀ p, M2 p = none → Q (.ref p) (mupd M2 p (.lst acc))
section
variable {X : Cx} {K : PySem.W.Frag}
theorem lc_gen {wi : TI} {awi : aA} {g : TG} {ag : aG} {tt : TT} {at' : aT} {te : TE} {ae : aE} {vs : List Nat} (hi : SI K wi awi) (hg : SG K g ag) (ho : OwnM vs g) (ht : ST K tt at') (he : SE K te ae)
    {E : En} {G : Gm} {M : Mp} {N H : Hp} {σ : L2.St} (C : CC K E G M N σ H) {Qa : List D → Mp → Prop} {Qc : VK} (q : awi G M fun ds M1 => ds.length ≤ 1000000 ∧ lcGo ag at' ae (wipeG G vs) ds [] M1 Qa)
    (k : ∀ p acc accV M' N' H', Qa acc M' → CC K E G M' N' σ H' → Same N N' → H' p = some (.lst accV) → M' p = none → N' p = none → E.H p = none → RelL K N' accV acc → Qc (.ref p) H') : tLc wi g tt te vs σ H Qc := by
  refine hi E G M N σ H C _ _ q fun ds M1 N1 H1 J h1 C1 s1 dr => ?_
  intro p hp
  obtain ⟨hN, hM⟩ := C1.cm.none hp
  have h0 : E.H p = none := by
    cases w : E.H p with
    | none => rfl
    | some o =>
      obtain ⟨o', e'⟩ := C1.fr.dom p o w
      rw [e'] at hp; cases hp
  have first : Fr M1 N1 H1 M1 N1 (upd H1 p (.lst [])) := ⟨Same.refl _, fun a u e m => ⟨by rw [upd_ne (ne_of_none e hp)]; exact e, m⟩, fun a u e n => n, fun a u e => ⟨u, by rw [upd_ne (ne_of_none e hp)]; exact e⟩⟩
  have cm1 : CM K M1 N1 (upd H1 p (.lst [])) := ⟨fun a u e => by rw [upd_ne (ne_of_none e hN)]; exact C1.cm.sm _ _ e, fun a c e => by
    obtain ⟨x1, x2⟩ := C1.cm.hm a c e
    exact ⟨x1, x2.mono (Same.refl _) fun o e => by rw [upd_ne (ne_of_none e hp)]; exact e⟩⟩
  refine ⟨fun i m H => ∃ M N acc accV, Fr M1 N1 H1 M N H ∧ CM K M N H ∧ H p = some (.lst accV) ∧ M p = none ∧ N p = none ∧ RelL K N accV acc ∧ acc.length ≤ i ∧ m = ds.length - i ∧ lcGo ag at' ae (wipeG G vs) (ds.drop i) acc M Qa,
    ⟨_, M1, N1, [], [], first, cm1, upd_same, hM, hN, .nil, Nat.le_refl _, rfl, h1.2⟩, ?_⟩
  rintro i m H ⟨M, N, acc, accV, fr, cm, hH, hMp, hNp, ra, hai, rfl, hl⟩
  have C0 : CC K ⟨M, N, H⟩ (wipeG G vs) M N (wipe σ vs) H := ⟨.refl, cm, ((C1.sl.mono fr.nn).wipe vs)⟩
  obtain ⟨d1, d2⟩ := dr _ _ M N _ H C0 fr.nn i
  by_cases hlt : ds.length ≤ i
  · rw [List.drop_eq_nil_of_le hlt] at hl
    refine .inl ⟨d1 hlt, k p acc accV M N H hl ⟨C1.fr.trans fr, cm, C1.sl.mono fr.nn⟩ (s1.trans fr.nn) hH hMp hNp h0 ra⟩
  · have hlt : i < ds.length := by omega
    rw [List.drop_eq_getElem_cons hlt] at hl
    obtain ⟨g1, g2⟩ := d2 ds[i] (List.getElem?_eq_getElem hlt)
    refine .inr ⟨g1, fun H' => ∃ M N acc accV, Fr M1 N1 H1 M N H' ∧ CM K M N H' ∧ H' p = some (.lst accV) ∧ M p = none ∧ N p = none ∧ RelL K N accV acc ∧ acc.length ≤ i + 1 ∧ lcGo ag at' ae (wipeG G vs) (ds.drop (i + 1)) acc M Qa,
      fun H' ⟨M, N, acc, accV, x1, x2, x3, x4, x5, x6, x7, x8⟩ => ⟨ds.length - (i + 1), by omega, M, N, acc, accV, x1, x2, x3, x4, x5, x6, x7, rfl, x8⟩, fun x H' hy => ?_⟩
    obtain ⟨N2, s2, f2, c2, r2⟩ := g2 x H' hy
    have go : g x (wipe σ vs) H' fun σ2 H2 => tt σ2 H2 fun b H3 => if b = true then te σ2 H3 fun y H4 => ∃ acc, H4 p = some (.lst acc) ∧ acc.length < sizeLine ∧
        (∃ M N acc' accV, Fr M1 N1 H1 M N (upd H4 p (.lst (acc ++ [y]))) ∧ CM K M N (upd H4 p (.lst (acc ++ [y]))) ∧ (upd H4 p (.lst (acc ++ [y]))) p = some (.lst accV) ∧ M p = none ∧ N p = none ∧ RelL K N accV acc' ∧ acc'.length ≤ i + 1 ∧ lcGo ag at' ae (wipeG G vs) (ds.drop (i + 1)) acc' M Qa)
        else ∃ M N acc accV, Fr M1 N1 H1 M N H3 ∧ CM K M N H3 ∧ H3 p = some (.lst accV) ∧ M p = none ∧ N p = none ∧ RelL K N accV acc ∧ acc.length ≤ i + 1 ∧ lcGo ag at' ae (wipeG G vs) (ds.drop (i + 1)) acc M Qa := by
      refine hg _ _ M N2 _ H' (C0.step f2 c2) x _ r2 _ _ hl fun G3 M3 N3 σ3 H3 h3 C3 s3 => ?_
      refine ht _ _ M3 N3 σ3 H3 C3 _ _ h3 fun b M4 N4 H4 h4 C4 s4 => ?_
      cases b with
      | false =>
        rw [if_neg Bool.false_ne_true] at h4 ⊢
        obtain ⟨y1, y2⟩ := C4.fr.keep p _ hH hMp
        exact ⟨M4, N4, acc, accV, fr.trans C4.fr, C4.cm, y1, y2, C4.fr.new p _ hH hNp, ra.mono C4.fr.nn, by omega, h4⟩
      | true =>
        rw [if_pos rfl] at h4 ⊢
        refine he _ _ M4 N4 σ3 H4 C4 _ _ h4 fun dy y M5 N5 H5 h5 C5 s5 r5 => ?_
        obtain ⟨y1, y2⟩ := C5.fr.keep p _ hH hMp
        have y3 := C5.fr.new p _ hH hNp
        refine ⟨accV, y1, by rw [ra.length]; exact big_lt (by omega), M5, N5, acc ++ [dy], accV ++ [y], ?_, ?_, upd_same, y2, y3, (ra.mono C5.fr.nn).append (.cons r5 .nil), by simp; omega, h5⟩
        · have f5 := fr.trans C5.fr
          exact ⟨f5.nn, fun a u e m => by
            obtain ⟨z1, z2⟩ := f5.keep a u e m
            exact ⟨by rw [upd_ne (ne_of_none e hp)]; exact z1, z2⟩, f5.new, fun a u e => by
            obtain ⟨o, z⟩ := f5.dom a u e
            exact ⟨o, by rw [upd_ne (ne_of_none e hp)]; exact z⟩⟩
        · exact ⟨fun a u e => by rw [upd_ne (ne_of_none e y3)]; exact C5.cm.sm _ _ e, fun a c e => by
            obtain ⟨z1, z2⟩ := C5.cm.hm a c e
            have qn : a ≠ p := fun z => by subst z; rw [y2] at e; cases e
            exact ⟨z1, z2.mono (Same.refl _) fun o e => by rw [upd_ne qn]; exact e⟩⟩
    refine ho.mono x _ H' _ _ (fun σ2 H2 ⟨e2, q2⟩ => ?_) (ho.own x _ H' _ go)
    exact ⟨by rw [e2, wipe_wipe], q2⟩
variable {elt tg iter : Expr} {ifs : List Expr} {scope : Scope} {own : List (Str × Nat)} {pos : Pos} {wi : TI} {awi : aA} {g : TG} {ag : aG} {tt : TT} {at' : aT} {te : TE} {ae : aE}
structure DTs (X : Cx) (ifs : List Expr) (tt : TT) (at' : aT) : Prop where
  pt : PTs X ifs tt
  st : ST X.K tt at'
def atYes : aT := fun _ M Q => Q true M
theorem dts_nil : DTs X [] tYes atYes := ⟨pts_nil, fun E G M N σ H C Q Qc q k => k true M N H q C (Same.refl N)⟩
theorem dts_one {c : Expr} (h : DT X c tt at') : DTs X [c] tt at' := ⟨pts_one h.pt, h.st⟩
theorem se_lc {vs : List Nat} (hi : SI K wi awi) (hg : SG K g ag) (ho : OwnM vs g) (ht : ST K tt at') (he : SE K te ae) : SE K (tLc wi g tt te vs) (aLc awi ag at' ae vs) := by
  intro E G M N σ H C Q Qc q k
  refine lc_gen hi hg ho ht he C q fun p acc accV M' N' H' q' C' s' hH hM hN h0 r => ?_
  have e : mdel M' p = M' := by
    funext b
    unfold mdel
    split
    · rename_i h; subst h; exact hM.symm
    · rfl
  have C2 := C'.freeze hN hH h0
  rw [e] at C2
  exact (k.from (s'.trans (same_new hN))).at C2 q' (.list upd_same (r.mono (same_new hN)))
theorem se_lcM {vs : List Nat} (hi : SI K wi awi) (hg : SG K g ag) (ho : OwnM vs g) (ht : ST K tt at') (he : SE K te ae) : SE K (tLc wi g tt te vs) (aLcM awi ag at' ae vs) := by
  intro E G M N σ H C Q Qc q k
  refine lc_gen hi hg ho ht he C q fun p acc accV M' N' H' q' C' s' hH hM hN h0 r => ?_
  refine k (.ref p) (.ref p) _ N' H' (q' p hM) ⟨⟨C'.fr.nn, fun a o e m => ?_, C'.fr.new, C'.fr.dom⟩, ⟨C'.cm.sm, fun a c e => ?_⟩, C'.sl⟩ s' (.ref p)
  · obtain ⟨z1, z2⟩ := C'.fr.keep a o e m
    exact ⟨z1, by rw [mupd_ne (ne_of_none e h0)]; exact z2⟩
  · by_cases qa : a = p
    · subst qa
      rw [mupd_same] at e
      cases e
      exact ⟨hN, hasL hH r⟩
    · rw [mupd_ne qa] at e
      exact C'.cm.hm a c e
abbrev BV (α : Type _) := Shared → Hp → Addr → List (Str × Addr) → List Addr → α
theorem de_lc {g' : BV TG} {ag' : BV aG} {tt' : BV TT} {at'' : BV aT} {te' : BV TE} {ae' : BV aE} (hc : X.calm = true) (hN : X.N.Nodup) (hi : DI X tg iter wi awi) (ok : BlkOk X.N X.env.scope scope own)
    (hg : ∀ (s : Shared) (H : Hp) (C : Addr) (cl : List (Str × Addr)) (fp : List Addr), DG (X.blk s H scope (compEnvC scope cl C X.env) fp) tg (g' s H C cl fp) (ag' s H C cl fp)) (ht : ∀ (s : Shared) (H : Hp) (C : Addr) (cl : List (Str × Addr)) (fp : List Addr), DTs (X.blk s H scope (compEnvC scope cl C X.env) fp) ifs (tt' s H C cl fp) (at'' s H C cl fp))
    (he : ∀ (s : Shared) (H : Hp) (C : Addr) (cl : List (Str × Addr)) (fp : List Addr), DE (X.blk s H scope (compEnvC scope cl C X.env) fp) elt (te' s H C cl fp) (ae' s H C cl fp)) (ho : OwnM (own.map (·.2)) (g' X.s_0 X.H_0 0 [] [])) (hs : ∀ x, foldedSetIterable iter X.env x = pure x := by intro _; rfl)
    (eg : ∀ s H C cl fp, g' s H C cl fp = g' X.s_0 X.H_0 0 [] [] := by intro _ _ _ _ _; rfl) (et : ∀ s H C cl fp, tt' s H C cl fp = tt' X.s_0 X.H_0 0 [] [] := by intro _ _ _ _ _; rfl) (ee : ∀ s H C cl fp, te' s H C cl fp = te' X.s_0 X.H_0 0 [] [] := by intro _ _ _ _ _; rfl) :
    DE X (.ListComp elt [⟨tg, iter, ifs, 0⟩] scope pos) (tLc wi (g' X.s_0 X.H_0 0 [] []) (tt' X.s_0 X.H_0 0 [] []) (te' X.s_0 X.H_0 0 [] []) (own.map (·.2))) (aLc awi (ag' X.s_0 X.H_0 0 [] []) (at'' X.s_0 X.H_0 0 [] []) (ae' X.s_0 X.H_0 0 [] []) (own.map (·.2))) :=
  ⟨pe_lc hc hN hi.pi ok (fun s H C cl fp => by rw [← eg s H C cl fp]; exact (hg s H C cl fp).pg) (fun s H C cl fp => by rw [← et s H C cl fp]; exact (ht s H C cl fp).pt) (fun s H C cl fp => by rw [← ee s H C cl fp]; exact (he s H C cl fp).pe) hs, se_lc hi.si (hg X.s_0 X.H_0 0 [] []).sg ho (ht X.s_0 X.H_0 0 [] []).st (he X.s_0 X.H_0 0 [] []).se⟩
theorem de_lcM {g' : BV TG} {ag' : BV aG} {tt' : BV TT} {at'' : BV aT} {te' : BV TE} {ae' : BV aE} (hc : X.calm = true) (hN : X.N.Nodup) (hi : DI X tg iter wi awi) (ok : BlkOk X.N X.env.scope scope own)
    (hg : ∀ (s : Shared) (H : Hp) (C : Addr) (cl : List (Str × Addr)) (fp : List Addr), DG (X.blk s H scope (compEnvC scope cl C X.env) fp) tg (g' s H C cl fp) (ag' s H C cl fp)) (ht : ∀ (s : Shared) (H : Hp) (C : Addr) (cl : List (Str × Addr)) (fp : List Addr), DTs (X.blk s H scope (compEnvC scope cl C X.env) fp) ifs (tt' s H C cl fp) (at'' s H C cl fp))
    (he : ∀ (s : Shared) (H : Hp) (C : Addr) (cl : List (Str × Addr)) (fp : List Addr), DE (X.blk s H scope (compEnvC scope cl C X.env) fp) elt (te' s H C cl fp) (ae' s H C cl fp)) (ho : OwnM (own.map (·.2)) (g' X.s_0 X.H_0 0 [] [])) (hs : ∀ x, foldedSetIterable iter X.env x = pure x := by intro _; rfl)
    (eg : ∀ s H C cl fp, g' s H C cl fp = g' X.s_0 X.H_0 0 [] [] := by intro _ _ _ _ _; rfl) (et : ∀ s H C cl fp, tt' s H C cl fp = tt' X.s_0 X.H_0 0 [] [] := by intro _ _ _ _ _; rfl) (ee : ∀ s H C cl fp, te' s H C cl fp = te' X.s_0 X.H_0 0 [] [] := by intro _ _ _ _ _; rfl) :
    DE X (.ListComp elt [⟨tg, iter, ifs, 0⟩] scope pos) (tLc wi (g' X.s_0 X.H_0 0 [] []) (tt' X.s_0 X.H_0 0 [] []) (te' X.s_0 X.H_0 0 [] []) (own.map (·.2))) (aLcM awi (ag' X.s_0 X.H_0 0 [] []) (at'' X.s_0 X.H_0 0 [] []) (ae' X.s_0 X.H_0 0 [] []) (own.map (·.2))) :=
  ⟨pe_lc hc hN hi.pi ok (fun s H C cl fp => by rw [← eg s H C cl fp]; exact (hg s H C cl fp).pg) (fun s H C cl fp => by rw [← et s H C cl fp]; exact (ht s H C cl fp).pt) (fun s H C cl fp => by rw [← ee s H C cl fp]; exact (he s H C cl fp).pe) hs, se_lcM hi.si (hg X.s_0 X.H_0 0 [] []).sg ho (ht X.s_0 X.H_0 0 [] []).st (he X.s_0 X.H_0 0 [] []).se⟩
theorem ds_setLc {g' : BV TG} {ag' : BV aG} {tt' : BV TT} {at'' : BV aT} {te' : BV TE} {ae' : BV aE} {j : Nat} {y : Str} {py spos : Pos} (hc : X.calm = true) (hN : X.N.Nodup) (hy : X.N[j]? = some y) (hyl : X.env.scope.names.lookup y = some .local)
    (hsw : swapsWith (.ListComp elt [⟨tg, iter, ifs, 0⟩] scope pos) (some (.Name y py)) spos.line X.env = pure true) (hi : DI X tg iter wi awi) (ok : BlkOk X.N X.env.scope scope own)
    (hg : ∀ (s : Shared) (H : Hp) (C : Addr) (cl : List (Str × Addr)) (fp : List Addr), DG (X.blk s H scope (compEnvC scope cl C X.env) fp) tg (g' s H C cl fp) (ag' s H C cl fp)) (ht : ∀ (s : Shared) (H : Hp) (C : Addr) (cl : List (Str × Addr)) (fp : List Addr), DTs (X.blk s H scope (compEnvC scope cl C X.env) fp) ifs (tt' s H C cl fp) (at'' s H C cl fp))
    (he : ∀ (s : Shared) (H : Hp) (C : Addr) (cl : List (Str × Addr)) (fp : List Addr), DE (X.blk s H scope (compEnvC scope cl C X.env) fp) elt (te' s H C cl fp) (ae' s H C cl fp)) (ho : OwnM (own.map (·.2)) (g' X.s_0 X.H_0 0 [] [])) (hs : ∀ x, foldedSetIterable iter X.env x = pure x := by intro _; rfl)
    (eg : ∀ s H C cl fp, g' s H C cl fp = g' X.s_0 X.H_0 0 [] [] := by intro _ _ _ _ _; rfl) (et : ∀ s H C cl fp, tt' s H C cl fp = tt' X.s_0 X.H_0 0 [] [] := by intro _ _ _ _ _; rfl) (ee : ∀ s H C cl fp, te' s H C cl fp = te' X.s_0 X.H_0 0 [] [] := by intro _ _ _ _ _; rfl) :
    DS X (.Assign [.Name y py] (.ListComp elt [⟨tg, iter, ifs, 0⟩] scope pos) spos) (tAsg (tLc wi (g' X.s_0 X.H_0 0 [] []) (tt' X.s_0 X.H_0 0 [] []) (te' X.s_0 X.H_0 0 [] []) (own.map (·.2))) (gName j)) (asAsg (aLc awi (ag' X.s_0 X.H_0 0 [] []) (at'' X.s_0 X.H_0 0 [] []) (ae' X.s_0 X.H_0 0 [] []) (own.map (·.2))) (agName j)) :=
  ⟨ps_setLc hc hN hy hyl hsw hi.pi ok (fun s H C cl fp => by rw [← eg s H C cl fp]; exact (hg s H C cl fp).pg) (fun s H C cl fp => by rw [← et s H C cl fp]; exact (ht s H C cl fp).pt) (fun s H C cl fp => by rw [← ee s H C cl fp]; exact (he s H C cl fp).pe) hs, ss_asg (se_lc hi.si (hg X.s_0 X.H_0 0 [] []).sg ho (ht X.s_0 X.H_0 0 [] []).st (he X.s_0 X.H_0 0 [] []).se) sg_name⟩
theorem ds_setLcM {g' : BV TG} {ag' : BV aG} {tt' : BV TT} {at'' : BV aT} {te' : BV TE} {ae' : BV aE} {j : Nat} {y : Str} {py spos : Pos} (hc : X.calm = true) (hN : X.N.Nodup) (hy : X.N[j]? = some y) (hyl : X.env.scope.names.lookup y = some .local)
    (hsw : swapsWith (.ListComp elt [⟨tg, iter, ifs, 0⟩] scope pos) (some (.Name y py)) spos.line X.env = pure true) (hi : DI X tg iter wi awi) (ok : BlkOk X.N X.env.scope scope own)
    (hg : ∀ (s : Shared) (H : Hp) (C : Addr) (cl : List (Str × Addr)) (fp : List Addr), DG (X.blk s H scope (compEnvC scope cl C X.env) fp) tg (g' s H C cl fp) (ag' s H C cl fp)) (ht : ∀ (s : Shared) (H : Hp) (C : Addr) (cl : List (Str × Addr)) (fp : List Addr), DTs (X.blk s H scope (compEnvC scope cl C X.env) fp) ifs (tt' s H C cl fp) (at'' s H C cl fp))
    (he : ∀ (s : Shared) (H : Hp) (C : Addr) (cl : List (Str × Addr)) (fp : List Addr), DE (X.blk s H scope (compEnvC scope cl C X.env) fp) elt (te' s H C cl fp) (ae' s H C cl fp)) (ho : OwnM (own.map (·.2)) (g' X.s_0 X.H_0 0 [] [])) (hs : ∀ x, foldedSetIterable iter X.env x = pure x := by intro _; rfl)
    (eg : ∀ s H C cl fp, g' s H C cl fp = g' X.s_0 X.H_0 0 [] [] := by intro _ _ _ _ _; rfl) (et : ∀ s H C cl fp, tt' s H C cl fp = tt' X.s_0 X.H_0 0 [] [] := by intro _ _ _ _ _; rfl) (ee : ∀ s H C cl fp, te' s H C cl fp = te' X.s_0 X.H_0 0 [] [] := by intro _ _ _ _ _; rfl) :
    DS X (.Assign [.Name y py] (.ListComp elt [⟨tg, iter, ifs, 0⟩] scope pos) spos) (tAsg (tLc wi (g' X.s_0 X.H_0 0 [] []) (tt' X.s_0 X.H_0 0 [] []) (te' X.s_0 X.H_0 0 [] []) (own.map (·.2))) (gName j)) (asAsg (aLcM awi (ag' X.s_0 X.H_0 0 [] []) (at'' X.s_0 X.H_0 0 [] []) (ae' X.s_0 X.H_0 0 [] []) (own.map (·.2))) (agName j)) :=
  ⟨ps_setLc hc hN hy hyl hsw hi.pi ok (fun s H C cl fp => by rw [← eg s H C cl fp]; exact (hg s H C cl fp).pg) (fun s H C cl fp => by rw [← et s H C cl fp]; exact (ht s H C cl fp).pt) (fun s H C cl fp => by rw [← ee s H C cl fp]; exact (he s H C cl fp).pe) hs, ss_asg (se_lcM hi.si (hg X.s_0 X.H_0 0 [] []).sg ho (ht X.s_0 X.H_0 0 [] []).st (he X.s_0 X.H_0 0 [] []).se) sg_name⟩
end

/-! ### a def's promise -/
/-- what a value and the objects may be taken for -/
def Cv (K : PySem.W.Frag) (M0 : Mp) (d : D) (M : Mp) (d' : D) (M' : Mp) : Prop := ∀ N0 H0 N H v, Fr M0 N0 H0 M N H → CM K M N H → RelD K N v d → ∃ N', Fr M0 N0 H0 M' N' H ∧ CM K M' N' H ∧ RelD K N' v d'
def Fin (K : PySem.W.Frag) (M0 : Mp) (Q : QD) (d : D) (M : Mp) : Prop := ∃ d' M', Cv K M0 d M d' M' ∧ Q d' M'
section
variable {K : PySem.W.Frag} {M0 M M' : Mp} {d : D} {Q : QD}
theorem cv_refl : Cv K M0 d M d M := fun N0 H0 N H v f c r => ⟨N, f, c, r⟩
theorem Cv.trans {M1 M2 M3 : Mp} {d1 d2 d3 : D} (h : Cv K M0 d1 M1 d2 M2) (h' : Cv K M0 d2 M2 d3 M3) : Cv K M0 d1 M1 d3 M3 := fun N0 H0 N H v f c r => by
  obtain ⟨N1, f1, c1, r1⟩ := h N0 H0 N H v f c r
  exact h' N0 H0 N1 H v f1 c1 r1
theorem cv_sub (s : Sub M' M) : Cv K M0 d M d M' := fun N0 H0 N H v f c r => ⟨N, ⟨f.nn, fun a o h m => by
    obtain ⟨h1, h2⟩ := f.keep a o h m
    exact ⟨h1, s.none h2⟩, f.new, f.dom⟩, ⟨c.sm, fun a x h => c.hm a x (s _ _ h)⟩, r⟩
theorem Fr.h0 {N0 H0 N H : Hp} (f : Fr M0 N0 H0 M N H) {a : Addr} {c : MC} (h : M a = some c) (h0 : M0 a = none) : H0 a = none := by
  cases q : H0 a with
  | none => rfl
  | some o => rw [(f.keep a o q h0).2] at h; cases h
/-- a list of ours stands still from now on -/
theorem cv_list {a : Addr} {ds : List D} (h : M a = some (.lst ds)) (h0 : M0 a = none) : Cv K M0 (.ref a) M (.list ds) (mdel M a) := fun N0 H0 N H v f c r => by
  have e := rel_ref r
  subst e
  obtain ⟨hN, xs, hH, rx⟩ := c.hm a _ h
  have C : CC K ⟨M0, N0, H0⟩ [] M N [] H := ⟨f, c, rfl, fun i d e => by simp at e⟩
  have C2 := C.freeze hN hH (f.h0 h h0)
  exact ⟨_, C2.fr, C2.cm, .list upd_same (rx.mono (same_new hN))⟩
theorem Fin.of (h : Q d M) : Fin K M0 Q d M := ⟨d, M, cv_refl, h⟩
theorem Fin.sub (s : Sub M' M) (h : Q d M') : Fin K M0 Q d M := ⟨d, M', cv_sub s, h⟩
theorem Fin.list {a : Addr} {ds : List D} (h : M a = some (.lst ds)) (h0 : M0 a = none) (s : Sub M' (mdel M a)) (q : Q (.list ds) M') : Fin K M0 Q (.ref a) M := ⟨_, _, (cv_list h h0).trans (cv_sub s), q⟩
end
def startG (N : List Str) (ds : List D) : Gm := ds.map some ++ List.replicate (N.length - ds.length) none
theorem sl_start {K : PySem.W.Frag} {H : Hp} {N : List Str} {vs : List V} {ds : List D} (r : RelL K H vs ds) : Sl K H (startG N ds) (L2.start N vs) := by
  refine ⟨by simp [startG, L2.start, r.length], fun i d e => ?_⟩
  unfold startG at e
  unfold L2.start
  by_cases q : i < ds.length
  · rw [List.getElem?_append_left (by simpa using q), List.getElem?_map] at e
    obtain ⟨d', e1, e2⟩ := Option.map_eq_some_iff.mp e
    cases e2
    obtain ⟨v, h1, h2⟩ := r.getR e1
    exact ⟨v, by rw [List.getElem?_append_left (by simpa [r.length] using q), List.getElem?_map, h1]; rfl, h2⟩
  · rw [List.getElem?_append_right (by simpa using q), List.getElem?_replicate] at e
    split at e <;> cases e
section
variable {P : Program} {w : World} {K : PySem.W.Frag} {mg : Str → Option Value} {base : Heap}
theorem okD {x qual : Str} {st : Stmt} {f : Addr} {fd : FuncData} {N ps : List Str} {k n : Nat} {sp : aSp} (F : Fun K x qual st f fd) (S : FnScope N ps (defScope st)) (hn : n = ps.length)
    (hbody : ∀ (cdv : Value) (A : Around) (outer : List Env) (s : Shared) (H : Hp) (E : XK), Room k (A.deeper (envOfC qual (defScope st) s.heap.objs.size f cdv)) →
      ∃ ts as, DSs (cxOf CX0 P w K mg base N qual (defScope st) f cdv A outer s H E).nox (defBody st) ts as ∧ ∀ ds M Q, ds.length = n → sp ds M Q → as { m0 := M, nx := fun _ M' => Fin K M Q .non M', rt := Fin K M Q } (startG N ds) M) :
    FnOk P w K mg base CX0 (k + 1) f fd ps (lift K n sp) := by
  refine F.ok S (fun vs H Q E h => ?_) (fun cdv A outer s H vs Q E hr h => ?_)
  · obtain ⟨ds, M, N, Q', hl, _, r, _⟩ := h
    rw [r.length, hl, hn]
  · obtain ⟨ts, as, hd, hb⟩ := hbody cdv A outer s H E hr
    obtain ⟨ds, M, N', Q', hl, cm, r, hsp, k⟩ := h
    refine ⟨ts, hd.ps, hd.ss ⟨M, N', H⟩ _ M N' _ H ⟨.refl, cm, sl_start r⟩ _ _ rfl (hb ds M Q' hl hsp) ⟨?_, ?_, ?_, ?_⟩⟩
    · rintro G' M' N2 σ' H' ⟨d', M2, cv, q⟩ C' s'
      obtain ⟨N3, f3, c3, r3⟩ := cv _ _ _ _ V.non C'.fr C'.cm .non
      exact k _ _ _ _ _ q f3 c3 r3
    · rintro d v G' M' N2 σ' H' ⟨d', M2, cv, q⟩ C' s' r'
      obtain ⟨N3, f3, c3, r3⟩ := cv _ _ _ _ v C'.fr C'.cm r'
      exact k _ _ _ _ _ q f3 c3 r3
    · exact fun _ _ _ _ _ z _ _ => z.elim
    · exact fun _ _ _ _ _ z _ _ => z.elim
end
end DL

set_option Elab.async false
set_option linter.all false
set_option maxRecDepth 100000
namespace DL
open PySem PySem.Spec PyProof.Rows L2
/-! ### max, min of a tuple of ints -/
section
variable {prog : Program} {w : World} {A : Around} {E : Value → Shared → Prop} {s : Shared} {l : Addr} {its : List Value} {ns : List Int} {Q : Value → Shared → Prop}
theorem tup_old {xs : Array (Int × Tok)} {h' : Heap} (hk : ∀ b o, b ∉ [s.heap.objs.size] → (s.heap.push { cls := .type "tuple_iterator", data := .fields #[.ref l, .int 0 0] }).get? b = some o → h'.get? b = some o) :
    ∀ b o, s.heap.get? b = some o → h'.get? b = some o := fun b o e =>
  hk b o (fun hm => absurd (List.mem_singleton.mp hm ▸ Heap.lt_size e) (Nat.lt_irrefl _)) (Heap.get?_push_of_some _ e)
theorem tup_fp {l : Addr} (hlt : l < s.heap.objs.size) {o : Obj} : ∀ b ∈ [s.heap.objs.size, l], b < (s.heap.push o).objs.size := fun b hb => by
  rw [Heap.size_push]
  rcases List.mem_cons.mp hb with rfl | hb
  · exact Nat.lt_succ_self _
  · rw [List.mem_singleton.mp hb]; exact Nat.lt_succ_of_lt hlt
theorem max_tup {xs : Array (Int × Tok)} (hh : A.handled = none) (hl : s.heap.IsTuple l (intItems xs)) (hne : 0 < xs.size)
    (h : ∀ v h' tk, (intItems xs)[argBest (fun i j => decide (numAt xs i > numAt xs j)) (xs.size - 1)]? = some v → (∀ b o, s.heap.get? b = some o → h'.get? b = some o) → Q v { s with heap := h', toks := tk }) :
    wpAny (model prog w) A (call (.builtin "max") [.ref l]) Q E s := by
  have hlt : l < s.heap.objs.size := by obtain ⟨_, e, _⟩ := hl; exact Heap.lt_size e
  refine call_max_walk (wpAny_pyIter_tuple hl ?_)
  exact ⟨_, _, _, _, _, _, _, rfl, Walks.tuple (A := A.in1) hh _ l (Nat.ne_of_lt hlt) (intItems xs), ⟨⟨_, Heap.get?_push_size _ rfl, rfl, rfl⟩, hl.push _⟩, tup_fp hlt, by simpa [intItems] using hne, CmpOf.ints_gt (numAt xs) (fun _ _ => intItems_at),
    fun v h' tk hP hk => h v h' tk (by simpa [intItems] using hP) (tup_old (xs := xs) hk)⟩
theorem min_tup {xs : Array (Int × Tok)} (hh : A.handled = none) (hl : s.heap.IsTuple l (intItems xs)) (hne : 0 < xs.size)
    (h : ∀ v h' tk, (intItems xs)[argBest (fun i j => decide (numAt xs i < numAt xs j)) (xs.size - 1)]? = some v → (∀ b o, s.heap.get? b = some o → h'.get? b = some o) → Q v { s with heap := h', toks := tk }) :
    wpAny (model prog w) A (call (.builtin "min") [.ref l]) Q E s := by
  have hlt : l < s.heap.objs.size := by obtain ⟨_, e, _⟩ := hl; exact Heap.lt_size e
  refine call_min_walk (wpAny_pyIter_tuple hl ?_)
  exact ⟨_, _, _, _, _, _, _, rfl, Walks.tuple (A := A.in1) hh _ l (Nat.ne_of_lt hlt) (intItems xs), ⟨⟨_, Heap.get?_push_size _ rfl, rfl, rfl⟩, hl.push _⟩, tup_fp hlt, by simpa [intItems] using hne, CmpOf.ints_lt (numAt xs) (fun _ _ => intItems_at),
    fun v h' tk hP hk => h v h' tk (by simpa [intItems] using hP) (tup_old (xs := xs) hk)⟩
theorem maxT_raw (hh : A.handled = none) (hl : s.heap.IsTuple l its.toArray) (hi : IntsAre its ns) (hne : 0 < ns.length)
    (h : ∀ h' tk M t', (∀ b o, s.heap.get? b = some o → h'.get? b = some o) → M ∈ ns → (∀ a, a ∈ ns → a ≤ M) → Q (.int M t') { s with heap := h', toks := tk }) : wpAny (model prog w) A (call (.builtin "max") [.ref l]) Q E s := by
  obtain ⟨xs, e⟩ := hi.allInts.items
  have hn : numsOf (intItems xs).toList = ns := by rw [← e]; exact hi.numsOf
  rw [nums_intItems] at hn
  subst hn
  rw [e] at hl
  have hsz : 0 < xs.size := by simpa using hne
  refine max_tup hh hl hsz fun v h' tk hv hk => ?_
  obtain ⟨t, rfl⟩ := intItems_at hv
  obtain ⟨h1, h2⟩ := argBest_gt (numAt xs) (xs.size - 1)
  refine h h' tk _ t hk ?_ fun a ha => ?_
  · rw [numAt_eq]
    exact PySem.getD_mem (by rw [List.length_map, Array.length_toList]; omega)
  · obtain ⟨j, hj, rfl⟩ := mem_getD ha
    simp at hj
    rw [← numAt_eq]
    exact h2 j (by omega)
theorem minT_raw (hh : A.handled = none) (hl : s.heap.IsTuple l its.toArray) (hi : IntsAre its ns) (hne : 0 < ns.length)
    (h : ∀ h' tk M t', (∀ b o, s.heap.get? b = some o → h'.get? b = some o) → M ∈ ns → (∀ a, a ∈ ns → M ≤ a) → Q (.int M t') { s with heap := h', toks := tk }) : wpAny (model prog w) A (call (.builtin "min") [.ref l]) Q E s := by
  obtain ⟨xs, e⟩ := hi.allInts.items
  have hn : numsOf (intItems xs).toList = ns := by rw [← e]; exact hi.numsOf
  rw [nums_intItems] at hn
  subst hn
  rw [e] at hl
  have hsz : 0 < xs.size := by simpa using hne
  refine min_tup hh hl hsz fun v h' tk hv hk => ?_
  obtain ⟨t, rfl⟩ := intItems_at hv
  obtain ⟨h1, h2⟩ := argBest_lt (numAt xs) (xs.size - 1)
  refine h h' tk _ t hk ?_ fun a ha => ?_
  · rw [numAt_eq]
    exact PySem.getD_mem (by rw [List.length_map, Array.length_toList]; omega)
  · obtain ⟨j, hj, rfl⟩ := mem_getD ha
    simp at hj
    rw [← numAt_eq]
    exact h2 j (by omega)
end
section
variable {X : Cx} {K : PySem.W.Frag} {e a b c o : Expr} {es : List Expr} {te ta tb tc to : TE} {t : TA} {ae aa ab ac ao : aE} {at1 : aA} {pos : Pos}
def rMaxT (K : PySem.W.Frag) : List V → Hp → VK → Prop := fun vs H Q => ∃ (a : Addr) (ns : List Int), vs = [V.ref a] ∧ SqT K H a (ns.map V.int) ∧ 0 < ns.length ∧ ∀ m, m ∈ ns → (∀ y, y ∈ ns → y ≤ m) → Q (.int m) H
def rMinT (K : PySem.W.Frag) : List V → Hp → VK → Prop := fun vs H Q => ∃ (a : Addr) (ns : List Int), vs = [V.ref a] ∧ SqT K H a (ns.map V.int) ∧ 0 < ns.length ∧ ∀ m, m ∈ ns → (∀ y, y ∈ ns → m ≤ y) → Q (.int m) H
theorem cr_maxT (hc : X.calm = true) : CallR X (.builtin "max") (rMaxT X.K) := by
  intro pins s σ H vs us Q I r h
  obtain ⟨a, ns, rfl, hs, hne, q⟩ := h
  obtain ⟨its, rv, hl, _⟩ := I.tuple hs
  rw [Vals.ref1 r]
  exact maxT_raw (I.ok.hd hc) (show s.heap.IsTuple a its.toArray from hl) rv.ints hne fun h' tk m t' hk h1 h2 => ⟨.int _, H, I.kept hk, ⟨_, rfl⟩, q m h1 h2⟩
theorem cr_minT (hc : X.calm = true) : CallR X (.builtin "min") (rMinT X.K) := by
  intro pins s σ H vs us Q I r h
  obtain ⟨a, ns, rfl, hs, hne, q⟩ := h
  obtain ⟨its, rv, hl, _⟩ := I.tuple hs
  rw [Vals.ref1 r]
  exact minT_raw (I.ok.hd hc) (show s.heap.IsTuple a its.toArray from hl) rv.ints hne fun h' tk m t' hk h1 h2 => ⟨.int _, H, I.kept hk, ⟨_, rfl⟩, q m h1 h2⟩
def fMaxT : VL := fun ds M Q => match ds with
  | [d] => isL d = false ∧ (match (items d).bind intsD with | some bs => 0 < bs.length ∧ ∀ m, m ∈ bs → (∀ y, y ∈ bs → y ≤ m) → Q (.int m) M | none => False)
  | _ => False
def fMinT : VL := fun ds M Q => match ds with
  | [d] => isL d = false ∧ (match (items d).bind intsD with | some bs => 0 < bs.length ∧ ∀ m, m ∈ bs → (∀ y, y ∈ bs → m ≤ y) → Q (.int m) M | none => False)
  | _ => False
theorem sl_maxT : SL K (rMaxT K) fMaxT := by
  intro E G M N σ H C xs ds rx Q Qc h k
  unfold fMaxT at h
  split at h
  · obtain ⟨v, rfl, r⟩ := rel1 rx
    obtain ⟨h0, h⟩ := h
    split at h
    · rename_i bs hb
      obtain ⟨ys, hi, hb⟩ := Option.bind_eq_some_iff.mp hb
      obtain ⟨a, vs, rfl, r2, h4⟩ := rel_items r hi
      rw [h0] at h4
      have e := ints_rel r2 hb
      subst e
      rcases h4 with ⟨e, _⟩ | ⟨_, h4⟩
      · cases e
      · exact ⟨a, bs, rfl, same_seqT C.cm.sm h4, h.1, fun m h1 h2 => k.at C (h.2 m h1 h2) (.int _)⟩
    · exact h.elim
  · exact h.elim
theorem sl_minT : SL K (rMinT K) fMinT := by
  intro E G M N σ H C xs ds rx Q Qc h k
  unfold fMinT at h
  split at h
  · obtain ⟨v, rfl, r⟩ := rel1 rx
    obtain ⟨h0, h⟩ := h
    split at h
    · rename_i bs hb
      obtain ⟨ys, hi, hb⟩ := Option.bind_eq_some_iff.mp hb
      obtain ⟨a, vs, rfl, r2, h4⟩ := rel_items r hi
      rw [h0] at h4
      have e := ints_rel r2 hb
      subst e
      rcases h4 with ⟨e, _⟩ | ⟨_, h4⟩
      · cases e
      · exact ⟨a, bs, rfl, same_seqT C.cm.sm h4, h.1, fun m h1 h2 => k.at C (h.2 m h1 h2) (.int _)⟩
    · exact h.elim
  · exact h.elim

/-! ### chains -/
def aChain (f g : V2) (x y z : aE) : aE := fun G M Q => x G M fun d M1 => y G M1 fun e M2 => f d e M2 fun r M3 => match r with
  | .bl k => if k = true then z G M3 fun w M4 => g e w M4 Q else Q (.bl false) M3
  | _ => False
theorem se_chain {r r' : R2} {f g : V2} (hr : S2 K r f) (hr' : S2 K r' g) (ha : SE K ta aa) (hb : SE K tb ab) (hc : SE K tc ac) : SE K (tChain r r' ta tb tc) (aChain f g aa ab ac) := by
  intro E G M N σ H C Q Qc h k
  refine ha E G M N σ H C _ _ h fun d v M1 N1 H1 h1 C1 s1 r1 => ?_
  refine hb E G M1 N1 σ H1 C1 _ _ h1 fun e u M2 N2 H2 h2 C2 s2 r2 => ?_
  refine hr E G M2 N2 σ H2 C2 v u d e (r1.mono s2) r2 _ _ h2 fun z zv M3 N3 H3 h3 C3 s3 r3 => ?_
  split at h3
  · rename_i kk
    cases r3
    refine ⟨kk, rfl, ?_⟩
    cases kk with
    | true =>
      rw [if_pos rfl] at h3 ⊢
      refine hc E G M3 N3 σ H3 C3 _ _ h3 fun w wv M4 N4 H4 h4 C4 s4 r4 => ?_
      exact hr' E G M4 N4 σ H4 C4 u wv e w ((r2.mono s3).mono s4) r4 Q Qc h4 (k.from (s1.trans (s2.trans (s3.trans s4))))
    | false =>
      rw [if_neg Bool.false_ne_true] at h3 ⊢
      exact (k.from (s1.trans (s2.trans s3))).at C3 h3 (.bl _)
  · exact h3.elim
theorem de_chain {op op' : CmpOp} {r r' : R2} {f g : V2} (ho : OpR X (compareOp op) r) (hs : S2 X.K r f) (ho' : OpR X (compareOp op') r') (hs' : S2 X.K r' g) (ha : DE X a ta aa) (hb : DE X b tb ab) (hc : DE X c tc ac)
    (hm : lastMarks [op, op'] [b, c] = false := by with_unfolding_all rfl) : DE X (.Compare a [op, op'] [b, c] pos) (tChain r r' ta tb tc) (aChain f g aa ab ac) := ⟨pe_chain ho ho' ha.pe hb.pe hc.pe hm, se_chain hs hs' ha.se hb.se hc.se⟩
theorem dt_chain {op op' : CmpOp} {r r' : R2} {f g : V2} (ho : OpR X (compareOp op) r) (hs : S2 X.K r f) (ho' : OpR X (compareOp op') r') (hs' : S2 X.K r' g) (ha : DE X a ta aa) (hb : DE X b tb ab) (hc : DE X c tc ac)
    (hm : lastMarks [op, op'] [b, c] = false := by with_unfolding_all rfl) : DT X (.Compare a [op, op'] [b, c] pos) (tTest (tChain r r' ta tb tc)) (aTest (aChain f g aa ab ac)) := ⟨pt_chain ho ho' ha.pe hb.pe hc.pe hm, st_test (se_chain hs hs' ha.se hb.se hc.se)⟩

/-! ### slices -/
abbrev aO := Gm → Mp → (Option Int → Mp → Prop) → Prop
def SO (K : PySem.W.Frag) (to : TO) (ao : aO) : Prop := ∀ E G M N σ H, CC K E G M N σ H → ∀ (Q : Option Int → Mp → Prop) (Qc : Option Int → Hp → Prop), ao G M Q → (∀ o M' N' H', Q o M' → CC K E G M' N' σ H' → Same N N' → Qc o H') → to σ H Qc
structure DO (X : Cx) (e : Option Expr) (to : TO) (ao : aO) : Prop where
  po : PO X e to
  so : SO X.K to ao
def aoNone : aO := fun _ M Q => Q none M
def aoSome (x : aE) : aO := fun G M Q => x G M fun d M1 => match d with | .int i => Q (some i) M1 | _ => False
theorem do_none : DO X none tNoPart aoNone := ⟨po_none, fun E G M N σ H C Q Qc q k => k none M N H q C (Same.refl N)⟩
theorem do_some (h : DE X e te ae) : DO X (some e) (tPart te) (aoSome ae) := ⟨po_some h.pe, by
  intro E G M N σ H C Q Qc q k
  refine h.se E G M N σ H C _ _ q fun d v M1 N1 H1 h1 C1 s1 r1 => ?_
  split at h1
  · cases r1
    exact ⟨_, rfl, k _ M1 N1 H1 h1 C1 s1⟩
  · exact h1.elim⟩
def cutD (xs : List D) (lo hi : Option Int) : List D := (xs.drop (HT.sIx xs.length 0 lo)).take (HT.sIx xs.length xs.length hi - HT.sIx xs.length 0 lo)
/-- a slice of a list (a new list), of a text, of a tuple (not the whole of it: that one is the tuple itself) -/
def fSl (d : D) (lo hi : Option Int) (M : Mp) (Q : QD) : Prop := match d with
  | .str z => z.length ≤ 1000000 ∧ Q (.str (cutS z lo hi)) M
  | d => (match itemsM M d with
    | some xs => if isLM d = true then Q (.list (cutD xs lo hi)) M else ¬ (HT.sIx xs.length 0 lo = 0 ∧ HT.sIx xs.length xs.length hi = xs.length) ∧ Q (.tup (cutD xs lo hi)) M
    | none => False)
def fSlM (d : D) (lo hi : Option Int) (M : Mp) (Q : QD) : Prop := match itemsM M d with
  | some xs => isLM d = true ∧ ∀ p, M p = none → Q (.ref p) (mupd M p (.lst (cutD xs lo hi)))
  | none => False
def rSlA (K : PySem.W.Frag) : V → Option Int → Option Int → Hp → VK → Prop := fun x lo hi H Q => rSlL K x lo hi H Q ∨ (fun x lo hi H Q => rSlT K x lo hi H Q ∨ rSlS x lo hi H Q) x lo hi H Q
theorem sl_anyS : SlR X (rSlA X.K) := SlR.or L2.sl_list (SlR.or sl_tup sl_str)
abbrev aSl (f : D → Option Int → Option Int → Mp → QD → Prop) (x : aE) (l u : aO) : aE := fun G M Q => x G M fun d M1 => l G M1 fun lo M2 => u G M2 fun hi M3 => f d lo hi M3 Q
def S3 (K : PySem.W.Frag) (r : V → Option Int → Option Int → Hp → VK → Prop) (f : D → Option Int → Option Int → Mp → QD → Prop) : Prop := ∀ E G M N σ H, CC K E G M N σ H → ∀ x d lo hi, RelD K N x d → ∀ Q Qc, f d lo hi M Q → Co K E G N σ Q Qc → r x lo hi H Qc
theorem se_sl {r : V → Option Int → Option Int → Hp → VK → Prop} {f : D → Option Int → Option Int → Mp → QD → Prop} {tl th : TO} {al ah : aO} (hr : S3 K r f) (h : SE K te ae) (h1 : SO K tl al) (h2 : SO K th ah) : SE K (tSl r te tl th) (aSl f ae al ah) := by
  intro E G M N σ H C Q Qc q k
  refine h E G M N σ H C _ _ q fun d v M1 N1 H1 q1 C1 s1 r1 => ?_
  refine h1 E G M1 N1 σ H1 C1 _ _ q1 fun lo M2 N2 H2 q2 C2 s2 => ?_
  refine h2 E G M2 N2 σ H2 C2 _ _ q2 fun hi M3 N3 H3 q3 C3 s3 => ?_
  exact hr E G M3 N3 σ H3 C3 v d lo hi ((r1.mono s2).mono s3) Q Qc q3 (k.from (s1.trans (s2.trans s3)))
theorem s3_sl : S3 K (rSlA K) fSl := by
  intro E G M N σ H C x d lo hi rx Q Qc h k
  unfold fSl at h
  split at h
  · cases rx
    exact .inr (.inr ⟨_, rfl, big_le h.1, k.at C h.2 (.str _)⟩)
  · split at h
    · rename_i xs hx
      obtain ⟨p, vs, rfl, r2, h4⟩ := rel_itemsM C.cm rx hx
      rcases h4 with ⟨e4, h4⟩ | ⟨e4, h4⟩
      · rw [e4, if_pos rfl] at h
        exact .inl ⟨p, vs, rfl, h4, fun q hq => k.new C hq h fun N' s e => .list e ((r2.cut lo hi).mono s)⟩
      · rw [e4, if_neg Bool.false_ne_true] at h
        refine .inr (.inl ⟨p, vs, rfl, h4, by rw [r2.length]; exact h.1, fun q hq => k.new C hq h.2 fun N' s e => .tup e ((r2.cut lo hi).mono s)⟩)
    · exact h.elim
theorem s3_slM : S3 K (rSlA K) fSlM := by
  intro E G M N σ H C x d lo hi rx Q Qc h k
  unfold fSlM at h
  split at h
  · rename_i xs hx
    obtain ⟨p, vs, rfl, r2, h4⟩ := rel_itemsM C.cm rx hx
    rcases h4 with ⟨e4, h4⟩ | ⟨e4, h4⟩
    · exact .inl ⟨p, vs, rfl, h4, fun q hq => k.newM C hq (hasL upd_same (r2.cut lo hi)) (h.2 q (C.cm.noneM hq))⟩
    · rw [e4] at h; cases h.1
  · exact h.elim
variable {lo hi : Option Expr} {tl th : TO} {al ah : aO} {p2 : Pos}
theorem de_slice (he : DE X e te ae) (hl : DO X lo tl al) (hu : DO X hi th ah) : DE X (.Subscript e (.Slice lo hi none p2) pos) (tSl (rSlA X.K) te tl th) (aSl fSl ae al ah) := ⟨pe_slice sl_anyS he.pe hl.po hu.po, se_sl s3_sl he.se hl.so hu.so⟩
theorem de_sliceM (he : DE X e te ae) (hl : DO X lo tl al) (hu : DO X hi th ah) : DE X (.Subscript e (.Slice lo hi none p2) pos) (tSl (rSlA X.K) te tl th) (aSl fSlM ae al ah) := ⟨pe_slice sl_anyS he.pe hl.po hu.po, se_sl s3_slM he.se hl.so hu.so⟩

/-! ### isinstance -/
def tyIs (t n : String) : Bool := t == n || (t == "bool" && n == "int")
theorem kitB_is : ∀ t ∈ ["NoneType", "bool", "int", "str", "list", "tuple", "dict"], ∀ n ∈ ["bool", "int", "str", "list", "tuple", "dict"], kitB t n = some (tyIs t n) := by decide +kernel
/-- an instance of an own class: what isinstance by a built-in type says of it -/
structure ObT (K : PySem.W.Frag) (C : Addr) : Prop where
  cl : Cls K C
  ha : PySem.W.findIn K (.ref C) "__class__" = some (some (.builtin "object.__class__"))
  hn : PySem.W.specialIn K (.builtin "object.__class__") "__get__" = some (some (.builtin "getset_descriptor.__get__"))
  htk : PySem.W.takesIn K (.builtin "object.__class__") = some true
  hm : PySem.W.mroIn K C (.type "object") = some true
  no : ∀ n ∈ ["bool", "int", "str", "list", "tuple", "dict"], PySem.W.kitOne K (.ref C) (.type n) = some false
def tyNames : List String := ["bool", "int", "str", "list", "tuple", "dict"]
def isiD (K : PySem.W.Frag) (M : Mp) (d : D) (n : String) (Q : Bool → Prop) : Prop := n ∈ tyNames ∧ (match d with
  | .obj C _ => ObT K C ∧ Q false
  | d => (match tyD M d with | some t => Q (tyIs t n) | none => False))
theorem ty_rel {M : Mp} {N H : Hp} {v : V} {d : D} {t : String} (c : CM K M N H) (r : RelD K N v d) (h : tyD M d = some t) : TyX K H v (.type t) ∧ t ∈ ["NoneType", "bool", "int", "str", "list", "tuple", "dict"] := by
  have seqL : ∀ {a xs}, SqL K H a xs → TyX K H (.ref a) (.type "list") := fun {a xs} h => by
    rcases h with (h | ⟨o, h⟩) | ⟨o, its, n, h1, h2, _⟩
    · exact .base (.lst h)
    · exact .base (.frz h)
    · exact .kList h1 h2
  have seqT : ∀ {a xs}, SqT K H a xs → TyX K H (.ref a) (.type "tuple") := fun {a xs} h => by
    rcases h with (h | ⟨o, h⟩) | ⟨o, its, n, h1, h2, _⟩
    · exact .base (.tup h)
    · exact .fTuple h
    · exact .kTuple h1 h2
  cases r <;> simp only [tyD] at h
  case non => cases h; exact ⟨.base .non, by decide⟩
  case bl => cases h; exact ⟨.base (.bl _), by decide⟩
  case int => cases h; exact ⟨.base (.int _), by decide⟩
  case str => cases h; exact ⟨.base (.str _), by decide⟩
  case ty => cases h
  case list h1 r1 => cases h; exact ⟨.base (.lst (c.sm _ _ h1)), by decide⟩
  case rol h1 r1 => cases h; exact ⟨seqL (c.sm.seq h1), by decide⟩
  case tup h1 r1 => cases h; exact ⟨.base (.tup (c.sm _ _ h1)), by decide⟩
  case rot h1 r1 => cases h; exact ⟨seqT (same_seqT c.sm h1), by decide⟩
  case obj => cases h
  case dK => cases h
  case dT h1 r1 => cases h; exact ⟨.base (.dT (c.sm _ _ h1)), by decide⟩
  case ref a =>
    split at h
    · rename_i e
      cases h
      obtain ⟨xs, h1, _⟩ := c.lst e
      exact ⟨.base (.lst h1), by decide⟩
    · rename_i e
      cases h
      obtain ⟨xs, h1, _⟩ := c.dKs e
      exact ⟨.base (.dK h1), by decide⟩
    · rename_i e
      cases h
      obtain ⟨xs, h1, _⟩ := c.dTs e
      exact ⟨.base (.dT h1), by decide⟩
    · cases h
/-- the type and isinstance's answers for every built-in class -/
theorem isi_rel {M : Mp} {N H : Hp} {v : V} {d : D} {n : String} {Q : Bool → Prop} (c : CM K M N H) (r : RelD K N v d) (h : isiD K M d n Q) : ∃ t b, TyX K H v t ∧ PySem.W.kitOne K t (.type n) = some b ∧ Q b := by
  obtain ⟨hn, h⟩ := h
  split at h
  · obtain ⟨a, dx, fs, rfl, h1, r1⟩ := rel_obj r
    exact ⟨_, false, .base (.ins (c.sm _ _ h1) h.1.cl h.1.ha h.1.hn h.1.htk h.1.hm), h.1.no n hn, h.2⟩
  · split at h
    · rename_i t ht
      obtain ⟨h1, h2⟩ := ty_rel c r ht
      exact ⟨_, _, h1, kit_ty (kitB_is t h2 n hn), h⟩
    · exact h.elim
def fIsi (K : PySem.W.Frag) : VL := fun ds M Q => match ds with
  | [d, .ty n] => isiD K M d n fun b => Q (.bl b) M
  | _ => False
theorem sl_isi : SL K (rIsi K) (fIsi K) := by
  intro E G M N σ H C xs ds rx Q Qc h k
  unfold fIsi at h
  split at h
  · rename_i d n
    obtain ⟨v, w, rfl, r, r2⟩ := rel2 rx
    cases r2
    obtain ⟨t, b, h1, h2, h3⟩ := isi_rel C.cm r h
    exact ⟨v, .ty n, t, .type n, b, rfl, .ty n, h1, h2, k.at C h3 (.bl _)⟩
  · exact h.elim
def tysOf : List D → Option (List String)
  | [] => some []
  | .ty n :: r => (tysOf r).map (n :: ·)
  | _ :: _ => none
theorem tys_rel {N : Hp} : ∀ {vs : List V} {ds : List D} {ns : List String}, RelL K N vs ds → tysOf ds = some ns → vs = ns.map V.ty
  | _, _, ns, .nil, h => by simp [tysOf] at h; subst h; rfl
  | _, _, ns, .cons h1 r, h => by
    cases h1 <;> simp [tysOf] at h
    obtain ⟨ns', h2, rfl⟩ := h
    rw [tys_rel r h2]
    rfl
/-- isinstance(x, (T, ..)) by built-in types -/
def fIsiT (K : PySem.W.Frag) : VL := fun ds M Q => match ds with
  | [d, .tup ts] => (match tysOf ts with
    | some ns => ns.all (fun n => tyNames.contains n) = true ∧ (match d with
      | .obj C _ => ObT K C ∧ Q (.bl false) M
      | d => (match tyD M d with | some t => Q (.bl (ns.any fun n => tyIs t n)) M | none => False))
    | none => False)
  | _ => False
theorem clsVs : ∀ ns : List String, Paired ClsV (ns.map V.ty) (ns.map Value.type)
  | [] => .nil
  | n :: ns => .cons (.ty n) (clsVs ns)
theorem kitAny_tys {t : Value} {f : String → Bool} : ∀ (ns : List String), (∀ n ∈ ns, PySem.W.kitOne K t (.type n) = some (f n)) → PySem.W.kitAny K t (ns.map Value.type) = some (ns.any f)
  | [], _ => kitAny_nil
  | n :: ns, h => by
    refine kitAny_cons (h n (by simp)) (fun e => ?_) (fun e => by simp [e])
    rw [List.any_cons, e, Bool.false_or]
    exact kitAny_tys ns fun m hm => h m (by simp [hm])
theorem sl_isiT : SL K (rIsiT K) (fIsiT K) := by
  intro E G M N σ H C xs ds rx Q Qc h k
  unfold fIsiT at h
  split at h
  · rename_i d ts
    obtain ⟨v, w, rfl, r, r2⟩ := rel2 rx
    obtain ⟨a, cs, rfl, h1, r1⟩ := rel_tup r2
    split at h
    · rename_i ns hns
      have e := tys_rel r1 hns
      subst e
      obtain ⟨hall, h⟩ := h
      have hall' : ∀ n ∈ ns, n ∈ tyNames := fun n hn => by
        have := List.all_eq_true.mp hall n hn
        simpa using this
      split at h
      · obtain ⟨b, dx, fs, rfl, h2, r3⟩ := rel_obj r
        obtain ⟨ho, h⟩ := h
        refine ⟨_, a, _, _, _, false, rfl, C.cm.sm _ _ h1, clsVs ns, .base (.ins (C.cm.sm _ _ h2) ho.cl ho.ha ho.hn ho.htk ho.hm), ?_, k.at C h (.bl _)⟩
        rw [kitAny_tys (f := fun _ => false) ns fun n hn => ho.no n (hall' n hn)]
        simp
      · split at h
        · rename_i t ht
          obtain ⟨h3, h4⟩ := ty_rel C.cm r ht
          exact ⟨v, a, _, _, _, _, rfl, C.cm.sm _ _ h1, clsVs ns, h3, kitAny_tys ns fun n hn => kit_ty (kitB_is t h4 n (hall' n hn)), k.at C h (.bl _)⟩
        · exact h.elim
    · exact h.elim
  · exact h.elim
end
end DL

set_option Elab.async false
set_option linter.all false
set_option maxRecDepth 100000
namespace DL
open PySem PySem.Spec PyProof.Rows L2
/-! ### dict displays -/
def mergeT (kvs more : List (List Key × V)) : List (List Key × V) := more.foldl (fun acc kv => putK acc kv.1 kv.2) kvs
theorem length_mergeT : ∀ (more kvs : List (List Key × V)), (mergeT kvs more).length ≤ kvs.length + more.length
  | [], kvs => by simp [mergeT]
  | (k, v) :: more, kvs => by
    have h := length_mergeT more (putK kvs k v)
    have h2 := length_putK kvs k v
    show (mergeT (putK kvs k v) more).length ≤ _
    rw [List.length_cons]
    omega
/-- the pairs of a display, their keys tuples that stand -/
inductive PairsT (H : Hp) : List (V × V) → List (List Key × V) → Prop
  | nil : PairsT H [] []
  | cons {b : Addr} {k : List Key} {v : V} {ps : List (V × V)} {kvs : List (List Key × V)} : H b = some (.tup (k.map kV)) → PairsT H ps kvs → PairsT H ((.ref b, v) :: ps) ((k, v) :: kvs)
theorem PairsT.length {H : Hp} : ∀ {ps : List (V × V)} {kvs : List (List Key × V)}, PairsT H ps kvs → ps.length = kvs.length
  | _, _, .nil => rfl
  | _, _, .cons _ r => by simp [PairsT.length r]
theorem pairsT_carry {P : Program} {w : World} {H : Hp} {h : Heap} (ok : HOk P w H h) : ∀ {ps : List (V × V)} {kvs : List (List Key × V)} {ws : List (Value × Value)}, PairsT H ps kvs → VV ps ws →
    ∃ xs : List (List Key × Addr × Value), CarriesH (tupleKind (mixKind P w)) h ws xs ∧ KT H kvs xs
  | _, _, _, .nil, .nil => ⟨[], trivial, .nil⟩
  | _, _, _, .cons (b := b) (k := k) hb r, .cons (b := q) (l₂ := qs) hq rq => by
    obtain ⟨xs, c, t⟩ := pairsT_carry ok r rq
    obtain ⟨kv, vv⟩ := q
    obtain ⟨h1, h2⟩ := hq
    obtain rfl : kv = Value.ref b := h1
    exact ⟨(k, b, vv) :: xs, ⟨rfl, rfl, key_of ok hb, c⟩, .cons ⟨rfl, hb, h2⟩ t⟩
theorem KT.all {H : Hp} : ∀ {more : List (List Key × V)} {xs : List (List Key × Addr × Value)} {kvs : List (List Key × V)} {ys : List (List Key × Addr × Value)}, KT H more xs → KT H kvs ys → KT H (mergeT kvs more) (storedAllH ys xs)
  | _, _, _, _, .nil, r => r
  | _, _, kvs, ys, .cons (a := p) (b := q) (l₁ := more) (l₂ := xs) h t, r => by
    obtain ⟨k, v⟩ := p
    obtain ⟨k', b, u⟩ := q
    obtain ⟨rfl, hb, hv⟩ := h
    exact KT.all (kvs := putK kvs k v) (ys := storedH ys k b u) t (KT.put r k hb hv)
def tDispT (trs : List (TE × TE)) : TE := fun σ H Q => ∀ p, H p = none → tPairs trs σ (upd H p (.dT [])) fun ps H2 => H2 p = some (.dT []) ∧ ∃ kvs : List (List Key × V), PairsT H2 ps kvs ∧ kvs.length ≤ 15 ∧ Q (.ref p) (upd H2 p (.dT (mergeT [] kvs)))
theorem pe_dispT {X : Cx} {pos : Pos} {keys : List (Option Expr)} {values : List Expr} {trs : List (TE × TE)} (hu : X.A.units + 1 < cLine) (h : PPs X pos keys values trs) (hall : keys.all (·.isSome) = true := by rfl) (hl : keys.length = values.length := by rfl) (h0 : keys ≠ [] := by simp)
    (h15 : keys.length ≤ 15 := by decide) : PE X (.Dict keys values pos) (tDispT trs) := by
  refine ⟨fun pins s σ H Q I q => ?_⟩
  have hn := I.hok.fresh (Nat.le_refl s.heap.objs.size)
  have I1 := I.laid (a := s.heap.objs.size) (o := .dT []) (h' := s.heap.push { cls := .type "dict", data := .dict #[] }) (t' := s.toks) (fun _ _ q => Heap.get?_push_of_some _ q) (Nat.le_refl _) (dt_empty s.heap I.big)
  have hlen := pairTrees_length keys values X.env pos hall hl
  rw [arm_eval_Dict, zip_pairTrees keys values X.env pos hall hl, dictDisplay_pairs _ (fun e => h0 (List.length_eq_zero_iff.mp (by rw [← hlen, e]; rfl))) (by omega)]
  refine wpAny_bind (wpAny_standAt (wpAny_bind (wpAny_subDictH (knd := tupleKind (mixKind X.prog X.w)) (Q := fun d s' => wpAny (model X.prog X.w) X.A (pure (Value.ref d)) (EP X pins σ Q) X.xe s') (show X.A.units < cLine by omega) (by omega) ?_)))
  refine thn (h.run pins _ σ _ _ I1 (q _ hn)) fun ws s2 ⟨ps, H2, I2, rel, e, kvs, ep, lk, q2⟩ => ?_
  obtain ⟨xs, c, rk⟩ := pairsT_carry I2.hok ep rel
  obtain ⟨z, hd, ys, r0, dd⟩ := dt_of I2.hok e
  cases r0
  refine ⟨xs, c, dd, fun h' tk dd' hs => wpAny_pure ⟨.ref s.heap.objs.size, _, ?_, rfl, q2⟩⟩
  have hz : (mergeT [] kvs).length ≤ sizeLine := by
    have h1 := length_mergeT kvs []
    rw [List.length_nil] at h1
    rw [sizeLine_eq]; omega
  obtain ⟨o, es, ep', hq, h2, h3, h4, _, h5⟩ := dd'
  refine d_write I2 (by rw [e]; exact True.intro) hs ⟨o, hq⟩ ⟨hz, hd, _, ((KT.all rk .nil).keeps fun c ys ec => ?_), o, es, ep', hq, h2, h3, h4, h5⟩
  rw [upd_ne (ne_of ec e (fun z => nomatch z))]
  exact ec
/-! ### displays over data -/
def aPairs : List (aE × aE) → Gm → Mp → (List (D × D) → Mp → Prop) → Prop
  | [], _, M, Q => Q [] M
  | (x, y) :: r, G, M, Q => x G M fun d M1 => y G M1 fun e M2 => aPairs r G M2 fun ps M3 => Q ((d, e) :: ps) M3
inductive RelP (K : PySem.W.Frag) (N : Hp) : List (V × V) → List (D × D) → Prop
  | nil : RelP K N [] []
  | cons {x y : V} {d e : D} {ps : List (V × V)} {qs : List (D × D)} : RelD K N x d → RelD K N y e → RelP K N ps qs → RelP K N ((x, y) :: ps) ((d, e) :: qs)
section
variable {X : Cx} {K : PySem.W.Frag} {pos : Pos}
def SPs (K : PySem.W.Frag) (trs : List (TE × TE)) (as : List (aE × aE)) : Prop := ∀ E G M N σ H, CC K E G M N σ H → ∀ (Q : List (D × D) → Mp → Prop) (Qc : List (V × V) → Hp → Prop), aPairs as G M Q →
  (∀ ds ps M' N' H', Q ds M' → CC K E G M' N' σ H' → Same N N' → RelP K N' ps ds → Qc ps H') → tPairs trs σ H Qc
structure DPs (X : Cx) (pos : Pos) (keys : List (Option Expr)) (values : List Expr) (trs : List (TE × TE)) (as : List (aE × aE)) : Prop where
  pp : PPs X pos keys values trs
  sp : SPs X.K trs as
theorem dps_nil : DPs X pos [] [] [] [] := ⟨pps_nil, fun E G M N σ H C Q Qc q k => k [] [] M N H q C (Same.refl N) .nil⟩
theorem dps_cons {k v : Expr} {ks : List (Option Expr)} {vs : List Expr} {tk tv : TE} {ak av : aE} {trs : List (TE × TE)} {as : List (aE × aE)} (hk : DE X k tk ak) (hv : DE X v tv av) (hr : DPs X pos ks vs trs as) :
    DPs X pos (some k :: ks) (v :: vs) ((tk, tv) :: trs) ((ak, av) :: as) := ⟨pps_cons hk.pe hv.pe hr.pp, by
  intro E G M N σ H C Q Qc q k
  refine hk.se E G M N σ H C _ _ q fun d x M1 N1 H1 h1 C1 s1 r1 => ?_
  refine hv.se E G M1 N1 σ H1 C1 _ _ h1 fun e y M2 N2 H2 h2 C2 s2 r2 => ?_
  refine hr.sp E G M2 N2 σ H2 C2 _ _ h2 fun ds ps M3 N3 H3 h3 C3 s3 r3 => ?_
  exact k _ _ M3 N3 H3 h3 C3 (s1.trans (s2.trans s3)) (.cons ((r1.mono s2).mono s3) (r2.mono s3) r3)⟩
def keyPs : List (D × D) → Option (List (Key × D))
  | [] => some []
  | (d, e) :: r => match keyOf d, keyPs r with
    | some k, some ks => some ((k, e) :: ks)
    | _, _ => none
def keyTs : List (D × D) → Option (List (List Key × D))
  | [] => some []
  | (d, e) :: r => match keyT d, keyTs r with
    | some k, some ks => some ((k, e) :: ks)
    | _, _ => none
def mergeD {k : Type} [DecidableEq k] (gs more : List (k × D)) : List (k × D) := more.foldl (fun acc kv => putD acc kv.1 kv.2) gs
theorem RelF.merge {N : Hp} : ∀ {more : List (Key × V)} {ms : List (Key × D)} {kvs : List (Key × V)} {gs : List (Key × D)}, RelF K N more ms → RelF K N kvs gs → RelF K N (mergeK kvs more) (mergeD gs ms)
  | _, _, _, _, .nil, r => r
  | _, _, kvs, gs, .cons (x := x) (v := v) (d := d) (vs := vs) (ds := ds) h t, r => RelF.merge (kvs := putK kvs x v) (gs := putD gs x d) t (r.put x h)
theorem RelF.mergeT {N : Hp} : ∀ {more : List (List Key × V)} {ms : List (List Key × D)} {kvs : List (List Key × V)} {gs : List (List Key × D)}, RelF K N more ms → RelF K N kvs gs → RelF K N (DL.mergeT kvs more) (mergeD gs ms)
  | _, _, _, _, .nil, r => r
  | _, _, kvs, gs, .cons (x := x) (v := v) (d := d) (vs := vs) (ds := ds) h t, r => RelF.mergeT (kvs := putK kvs x v) (gs := putD gs x d) t (r.put x h)
theorem keyPs_rel {N : Hp} : ∀ {ps : List (V × V)} {qs : List (D × D)} {ms : List (Key × D)}, RelP K N ps qs → keyPs qs = some ms → ∃ kvs : List (Key × V), ps = kvs.map (fun kv => (kV kv.1, kv.2)) ∧ RelF K N kvs ms
  | _, _, ms, .nil, h => by simp [keyPs] at h; subst h; exact ⟨[], rfl, .nil⟩
  | _, _, ms, .cons h1 h2 r, h => by
    unfold keyPs at h
    split at h
    · rename_i k ks e1 e2
      cases h
      obtain ⟨kvs, rfl, r'⟩ := keyPs_rel r e2
      have e3 := key_rel h1 e1
      subst e3
      exact ⟨(k, _) :: kvs, rfl, .cons h2 r'⟩
    · cases h
theorem keyTs_rel {N H : Hp} (sm : Same N H) : ∀ {ps : List (V × V)} {qs : List (D × D)} {ms : List (List Key × D)}, RelP K N ps qs → keyTs qs = some ms → ∃ kvs : List (List Key × V), PairsT H ps kvs ∧ RelF K N kvs ms
  | _, _, ms, .nil, h => by simp [keyTs] at h; subst h; exact ⟨[], .nil, .nil⟩
  | _, _, ms, .cons h1 h2 r, h => by
    unfold keyTs at h
    split at h
    · rename_i k ks e1 e2
      cases h
      obtain ⟨kvs, q, r'⟩ := keyTs_rel sm r e2
      obtain ⟨b, rfl, hb⟩ := keyT_rel h1 e1
      exact ⟨(k, _) :: kvs, .cons (sm _ _ hb) q, .cons h2 r'⟩
    · cases h
def aDispKM (as : List (aE × aE)) : aE := fun G M Q => aPairs as G M fun qs M1 => match keyPs qs with
  | some ms => ms.length ≤ 15 ∧ ∀ p, M1 p = none → Q (.ref p) (mupd M1 p (.dK (mergeD [] ms)))
  | none => False
def aDispTM (as : List (aE × aE)) : aE := fun G M Q => aPairs as G M fun qs M1 => match keyTs qs with
  | some ms => ms.length ≤ 15 ∧ ∀ p, M1 p = none → Q (.ref p) (mupd M1 p (.dT (mergeD [] ms)))
  | none => False
/-- an object that nobody knows of stands behind a run as it stood -/
theorem foreign {E : En} {G : Gm} {M : Mp} {N H : Hp} {σ : L2.St} (C : CC K E G M N σ H) {p : Addr} (o : HO) (hp : H p = none) : CC K ⟨M, N, upd H p o⟩ G M N σ (upd H p o) ∧ Fr M N H M N (upd H p o) := by
  have hN := (C.cm.none hp).1
  refine ⟨⟨.refl, ⟨fun a u e => by rw [upd_ne (ne_of_none e hN)]; exact C.cm.sm _ _ e, fun a c e => ?_⟩, C.sl⟩, ⟨Same.refl _, fun a u e m => ⟨by rw [upd_ne (ne_of_none e hp)]; exact e, m⟩, fun a u e n => n, fun a u e => ⟨u, by rw [upd_ne (ne_of_none e hp)]; exact e⟩⟩⟩
  obtain ⟨x1, x2⟩ := C.cm.hm a c e
  exact ⟨x1, x2.mono (Same.refl _) fun o e => by rw [upd_ne (ne_of_none e hp)]; exact e⟩
theorem unforeign {E : En} {G : Gm} {M M' : Mp} {N N' H H' : Hp} {σ : L2.St} (C : CC K E G M N σ H) {p : Addr} {o o' : HO} {c : MC} (hp : H p = none) (C' : CC K ⟨M, N, upd H p o⟩ G M' N' σ H') (hc : HasM K N' (upd H' p o') p c) :
    CC K E G (mupd M' p c) N' σ (upd H' p o') ∧ H' p = some o := by
  obtain ⟨hN, hM⟩ := C.cm.none hp
  obtain ⟨y1, y2⟩ := C'.fr.keep p o upd_same hM
  have y3 := C'.fr.new p o upd_same hN
  have f0 := (foreign C o hp).2.trans C'.fr
  refine ⟨⟨C.fr.trans ⟨f0.nn, fun a u e m => ?_, f0.new, fun a u e => ?_⟩, cm_put C'.cm y3 hc, C'.sl⟩, y1⟩
  · have q := ne_of_none e hp
    obtain ⟨z1, z2⟩ := f0.keep a u e m
    exact ⟨by rw [upd_ne q]; exact z1, by rw [mupd_ne q]; exact z2⟩
  · have q := ne_of_none e hp
    obtain ⟨o2, z⟩ := f0.dom a u e
    exact ⟨o2, by rw [upd_ne q]; exact z⟩
variable {keys : List (Option Expr)} {values : List Expr} {trs : List (TE × TE)} {as : List (aE × aE)}
theorem de_dispK (h : DPs X pos keys values trs as) (hall : keys.all (·.isSome) = true := by rfl) (hl : keys.length = values.length := by rfl) (h0 : keys ≠ [] := by simp) (h15 : keys.length ≤ 15 := by decide) :
    DE X (.Dict keys values pos) (tDisp trs) (aDispKM as) := ⟨pe_disp h.pp hall hl h0 h15, by
  intro E G M N σ H C Q Qc q k p hp
  refine h.sp _ G M N σ _ (foreign C (.dK []) hp).1 _ _ q fun qs ps M1 N1 H1 h1 C1 s1 r1 => ?_
  split at h1
  · rename_i ms hms
    obtain ⟨kvs, rfl, rf⟩ := keyPs_rel r1 hms
    have r2 : RelF X.K N1 (mergeK [] kvs) (mergeD [] ms) := rf.merge .nil
    obtain ⟨C2, e2⟩ := unforeign C hp C1 (hasK (N := N1) (H := upd H1 p (.dK (mergeK [] kvs))) upd_same r2)
    refine ⟨e2, kvs, rfl, by rw [rf.length]; exact h1.1, ?_⟩
    exact k (.ref p) (.ref p) _ N1 _ (h1.2 p ((C1.fr.keep p _ upd_same (C.cm.none hp).2).2)) C2 s1 (.ref p)
  · exact h1.elim⟩
theorem de_dispT (hu : X.A.units + 1 < cLine) (h : DPs X pos keys values trs as) (hall : keys.all (·.isSome) = true := by rfl) (hl : keys.length = values.length := by rfl) (h0 : keys ≠ [] := by simp) (h15 : keys.length ≤ 15 := by decide) :
    DE X (.Dict keys values pos) (tDispT trs) (aDispTM as) := ⟨pe_dispT hu h.pp hall hl h0 h15, by
  intro E G M N σ H C Q Qc q k p hp
  refine h.sp _ G M N σ _ (foreign C (.dT []) hp).1 _ _ q fun qs ps M1 N1 H1 h1 C1 s1 r1 => ?_
  split at h1
  · rename_i ms hms
    obtain ⟨kvs, pt, rf⟩ := keyTs_rel C1.cm.sm r1 hms
    have r2 : RelF X.K N1 (DL.mergeT [] kvs) (mergeD [] ms) := rf.mergeT .nil
    obtain ⟨C2, e2⟩ := unforeign C hp C1 (hasT (N := N1) (H := upd H1 p (.dT (DL.mergeT [] kvs))) upd_same r2)
    refine ⟨e2, kvs, pt, by rw [rf.length]; exact h1.1, ?_⟩
    exact k (.ref p) (.ref p) _ N1 _ (h1.2 p ((C1.fr.keep p _ upd_same (C.cm.none hp).2).2)) C2 s1 (.ref p)
  · exact h1.elim⟩

/-! ### calls with keywords -/
variable {CX : CXT} {k n m : Nat} {g : Addr} {fd : FuncData} {ps ks : List Str} {sp : aSp} {x : Str} {p : Pos} {E0' : XK} {e : Expr} {es : List Expr} {kws : List Keyword} {t tk : TA} {at1 ak : aA}
theorem pe_callK0 {sp' : Sp} {gV' : List Value → List Value → List Value} {gV : List V → List V → List V} (F : FnOk X.prog X.w X.K X.mg X.base CX k g fd ps sp') (hr : Room k X.A) (hg : Gl X x) (hm : X.mg x = some (.ref g)) (hk : PySem.W.keepIn X.K (.ref g) = true) (hb : KBn X.K fd ps 0 ks gV' gV) (hx : Passes CX X E0')
    (hkw : PK X kws tk) (hall : (backToKw pos (keywordEach kws X.env)).all (·.1.isSome) = true := by rfl) (hks : (backToKw pos (keywordEach kws X.env)).filterMap (·.1) = ks := by rfl) (hdb : (x == ("__debug__" : Str)) = false := by decide)
    (hpl : ((backTo pos (starEach [] X.env)).any (·.1) || (backToKw pos (keywordEach kws X.env)).any (·.1.isNone)) = false := by rfl) :
    PE X (.Call (.Name x p) [] kws pos) (tCallN 0 ks.length sp' gV E0' tNil tk) := by
  refine ⟨fun pins s σ H Q I h => wpAny_Call_Name_kw (ld_glob I hg hm ?_ hdb)⟩
  refine PySem.W.callWith_KW0 (h₀ := X.base) I.ok.mod.kin hk hall (thn (hkw.run pos pins s σ H _ I h) fun ws s2 ⟨zs, H2, I2, rz, l1, l2, q2⟩ => ⟨I2.kIn, ?_⟩) hpl
  rw [hks]
  exact run_fnN (us := []) (vs := []) F hr hb hx I2 .nil rz rfl l2 q2
def aCallN (n m nn : Nat) (sp : aSp) (gD : List D → List D → List D) (x y : aA) : aE := fun G M Q => x G M fun ds M1 => y G M1 fun es M2 => ds.length = n ∧ es.length = m ∧ (gD ds es).length = nn ∧ sp (gD ds es) M2 Q
theorem se_callN {nn : Nat} {gV : List V → List V → List V} {gD : List D → List D → List D} (hgd : ∀ (N : Hp) vs ds ws es, RelL K N vs ds → RelL K N ws es → ds.length = n → es.length = m → RelL K N (gV vs ws) (gD ds es))
    (ha : SA K t at1) (hkw : SA K tk ak) : SE K (tCallN n m (lift K nn sp) gV E0' t tk) (aCallN n m nn sp gD at1 ak) := by
  intro E G M N σ H C Q Qc q k
  refine ha E G M N σ H C _ _ q fun ds vs M1 N1 H1 h1 C1 s1 r1 => ?_
  refine hkw E G M1 N1 σ H1 C1 _ _ h1 fun es ws M2 N2 H2 h2 C2 s2 r2 => ?_
  obtain ⟨l1, l2, l3, h2⟩ := h2
  refine ⟨by rw [r1.length]; exact l1, by rw [r2.length]; exact l2, ?_⟩
  exact ⟨gD ds es, M2, N2, Q, l3, C2.cm, hgd _ _ _ _ _ (r1.mono s2) r2 l1 l2, h2, fun d v M' N' H' q' fr cm r => (k.from (s1.trans s2)) d v M' N' H' q' (C2.step fr cm) fr.nn r⟩
theorem de_callK0 {nn : Nat} {gV' : List Value → List Value → List Value} {gV : List V → List V → List V} {gD : List D → List D → List D} (hgd : ∀ (N : Hp) vs ds ws es, RelL X.K N vs ds → RelL X.K N ws es → ds.length = 0 → es.length = ks.length → RelL X.K N (gV vs ws) (gD ds es))
    (F : FnOk X.prog X.w X.K X.mg X.base CX k g fd ps (lift X.K nn sp)) (hr : Room k X.A) (hg : Gl X x) (hm : X.mg x = some (.ref g)) (hk : PySem.W.keepIn X.K (.ref g) = true) (hb : KBn X.K fd ps 0 ks gV' gV) (hx : Passes CX X E0')
    (hkw : DK X kws tk ak) (hall : (backToKw pos (keywordEach kws X.env)).all (·.1.isSome) = true := by rfl) (hks : (backToKw pos (keywordEach kws X.env)).filterMap (·.1) = ks := by rfl) (hdb : (x == ("__debug__" : Str)) = false := by decide)
    (hpl : ((backTo pos (starEach [] X.env)).any (·.1) || (backToKw pos (keywordEach kws X.env)).any (·.1.isNone)) = false := by rfl) :
    DE X (.Call (.Name x p) [] kws pos) (tCallN 0 ks.length (lift X.K nn sp) gV E0' tNil tk) (aCallN 0 ks.length nn sp gD aNil ak) := ⟨pe_callK0 F hr hg hm hk hb hx hkw.pk hall hks hdb hpl, se_callN hgd sa_nil hkw.sa⟩
theorem de_callN {nn : Nat} {gV' : List Value → List Value → List Value} {gV : List V → List V → List V} {gD : List D → List D → List D} (hgd : ∀ (N : Hp) vs ds ws es, RelL X.K N vs ds → RelL X.K N ws es → ds.length = n → es.length = ks.length → RelL X.K N (gV vs ws) (gD ds es))
    (F : FnOk X.prog X.w X.K X.mg X.base CX k g fd ps (lift X.K nn sp)) (hr : Room k X.A) (hg : Gl X x) (hm : X.mg x = some (.ref g)) (hk : PySem.W.keepIn X.K (.ref g) = true) (hb : KBn X.K fd ps n ks gV' gV) (hx : Passes CX X E0')
    (ha : DA X (e :: es) t at1) (hkw : DK X kws tk ak) (hall : (backToKw pos (keywordEach kws X.env)).all (·.1.isSome) = true := by rfl) (hks : (backToKw pos (keywordEach kws X.env)).filterMap (·.1) = ks := by rfl)
    (hdb : (x == ("__debug__" : Str)) = false := by decide) (he : starEach (e :: es) X.env = (false, eval e X.env) :: starEach es X.env := by rfl)
    (hpl : ((backTo pos (starEach (e :: es) X.env)).any (·.1) || (backToKw pos (keywordEach kws X.env)).any (·.1.isNone)) = false := by rfl) :
    DE X (.Call (.Name x p) (e :: es) kws pos) (tCallN n ks.length (lift X.K nn sp) gV E0' t tk) (aCallN n ks.length nn sp gD at1 ak) := ⟨pe_callN F hr hg hm hk hb hx ha.pa hkw.pk hall hks hdb he hpl, se_callN hgd ha.sa hkw.sa⟩
end
end DL

set_option Elab.async false
set_option linter.all false
set_option maxRecDepth 100000
namespace DL
open PySem PySem.Spec PyProof.Rows L2
theorem atI_nn {α : Type} (xs : List α) {i : Int} (h : 0 ≤ i) : atI xs i = xs[i.toNat]? := by
  unfold atI ixN
  rw [if_pos h]
  by_cases q : i < xs.length
  · rw [if_pos q]; rfl
  · rw [if_neg q, List.getElem?_eq_none (by omega)]; rfl
theorem atI_c {α : Type} (xs : List α) (j : Nat) : atI xs (j : Int) = xs[j]? := by rw [atI_nn xs (Int.natCast_nonneg j)]; rfl
theorem atI_0 {α : Type} (xs : List α) : atI xs 0 = xs[0]? := atI_c xs 0
theorem atI_1 {α : Type} (xs : List α) : atI xs 1 = xs[1]? := atI_c xs 1
theorem atI_2 {α : Type} (xs : List α) : atI xs 2 = xs[2]? := atI_c xs 2
theorem atI_3 {α : Type} (xs : List α) : atI xs 3 = xs[3]? := atI_c xs 3
theorem atI_4 {α : Type} (xs : List α) : atI xs 4 = xs[4]? := atI_c xs 4
theorem atI_5 {α : Type} (xs : List α) : atI xs 5 = xs[5]? := atI_c xs 5
theorem ixN_c {n j : Nat} (h : j < n) : ixN n (j : Int) = some j := by
  unfold ixN
  rw [if_pos (Int.natCast_nonneg j), if_pos (by omega)]; rfl
theorem ixN_nn {n : Nat} {i : Int} (h : 0 ≤ i) (h' : i < n) : ixN n i = some i.toNat := by
  unfold ixN
  rw [if_pos h, if_pos h']
theorem snap_i (M : Mp) (i : Int) : snap M (.int i) = .int i := rfl
theorem snap_b (M : Mp) (i : Bool) : snap M (.bl i) = .bl i := rfl
theorem snap_s (M : Mp) (i : Str) : snap M (.str i) = .str i := rfl
theorem snap_n (M : Mp) : snap M .non = .non := rfl
theorem snap_l (M : Mp) (xs : List D) : snap M (.list xs) = .list xs := rfl
theorem snap_t (M : Mp) (xs : List D) : snap M (.tup xs) = .tup xs := rfl
theorem eqOk_i (i : Int) : eqOk 9 (.int i) = true := rfl
theorem eqOk_b (i : Bool) : eqOk 9 (.bl i) = true := rfl
theorem eqOk_n : eqOk 9 .non = true := rfl
theorem eqv_i (i j : Int) : eqv (.int i) (.int j) = (i == j) := rfl
theorem eqv_b (i j : Bool) : eqv (.bl i) (.bl j) = (i == j) := rfl
theorem eqv_s (i j : Str) : eqv (.str i) (.str j) = (i == j) := rfl
theorem RelL.split {K : PySem.W.Frag} {N : Hp} {vs : List V} {ds : List D} {n : Nat} (r : RelL K N vs ds) (h : ds.length = n + 1) : ∃ v vs' d ds', vs = v :: vs' ∧ ds = d :: ds' ∧ RelD K N v d ∧ RelL K N vs' ds' ∧ ds'.length = n := by
  cases r with
  | nil => simp at h
  | cons a b => exact ⟨_, _, _, _, rfl, rfl, a, b, by simpa using h⟩
theorem RelL.split0 {K : PySem.W.Frag} {N : Hp} {vs : List V} {ds : List D} (r : RelL K N vs ds) (h : ds.length = 0) : vs = [] ∧ ds = [] := by
  cases r with
  | nil => exact ⟨rfl, rfl⟩
  | cons a b => simp at h
end DL

set_option Elab.async false
set_option linter.all false
set_option maxRecDepth 100000
namespace DL
open PySem PySem.Spec PyProof.Rows L2
/-! ### continuations by name -/
def kPar (i j : Nat) (nx : Gm → Mp → Prop) (G : Gm) (ds : List D) (M : Mp) : Prop := match ds with
  | [d, e] => nx ((G.set i (some d)).set j (some e)) M
  | _ => False
def kPar3 (i j l : Nat) (nx : Gm → Mp → Prop) (G : Gm) (ds : List D) (M : Mp) : Prop := match ds with
  | [d, e, f] => nx (((G.set i (some d)).set j (some e)).set l (some f)) M
  | _ => False
def kSub (G : Gm) (d : D) (QG : Gm → Mp → Prop) (o i : D) (M : Mp) : Prop := match o, i with
  | .ref p, .int z => (match M p with
    | some (.lst ds) => (match ixN ds.length z with | some j => QG G (mupd M p (.lst (ds.set j d))) | none => False)
    | _ => False)
  | _, _ => False
def kTest (QT : Bool → Mp → Prop) (d : D) (M : Mp) : Prop := match d with
  | .bl k => QT k M
  | _ => False
def kTru (QT : Bool → Mp → Prop) (d : D) (M : Mp) : Prop := match truD M d with
  | some k => QT k M
  | none => False
def kAndV (G : Gm) (y : aE) (Q : QD) (d : D) (M : Mp) : Prop := match d with
  | .bl k => if k = true then y G M Q else Q (.bl false) M
  | _ => False
def kOrV (G : Gm) (y : aE) (Q : QD) (d : D) (M : Mp) : Prop := match d with
  | .bl k => if k = true then Q (.bl true) M else y G M Q
  | _ => False
def kItems (QA : List D → Mp → Prop) (d : D) (M : Mp) : Prop := match items d with | some ds => QA ds M | none => False
def kRng1 (QA : List D → Mp → Prop) (ds : List D) (M : Mp) : Prop := match ds with
  | [.int j] => j ≤ 1000000 ∧ -1000000 ≤ j ∧ QA (rng 0 j.toNat) M
  | _ => False
def kRng2 (QA : List D → Mp → Prop) (ds : List D) (M : Mp) : Prop := match ds with
  | [.int i, .int j] => (j ≤ 1000000 ∧ -1000000 ≤ j ∧ i ≤ 1000000 ∧ -1000000 ≤ i) ∧ QA (rng i (j - i).toNat) M
  | _ => False
def kZip (QA : List D → Mp → Prop) (ds : List D) (M : Mp) : Prop := match ds with
  | [d, e] => isL d = isL e ∧ (match items d, items e with | some xs, some ys => QA (zipD xs ys) M | _, _ => False)
  | _ => False
def kFld (K : PySem.W.Frag) (f : Str) (Q : QD) (d : D) (M : Mp) : Prop := match d with
  | .obj C gs => Cls K C ∧ NoAttr K C f ∧ (match gs.lookup f with | some y => Q y M | none => False)
  | .ref p => (match M p with
    | some (.ins C gs) => Cls K C ∧ NoAttr K C f ∧ (match gs.lookup f with | some y => Q y M | none => False)
    | _ => False)
  | _ => False
def kMeth (C : Addr) (m : Str) (d : D) (M : Mp) : Prop := match d with
  | .obj C' gs => C' = C ∧ gs.lookup m = none
  | .ref p => (match M p with | some (.ins C' gs) => C' = C ∧ gs.lookup m = none | _ => False)
  | _ => False
def kSetF (K : PySem.W.Frag) (f : Str) (G : Gm) (nx : Gm → Mp → Prop) (y d : D) (M : Mp) : Prop := match d with
  | .ref p => (match M p with
    | some (.ins C gs) => Cls K C ∧ NoAttr K C f ∧ gs.length < 1000 ∧ nx G (mupd M p (.ins C (asFld.putG f y gs)))
    | _ => False)
  | _ => False
def kDPut (G : Gm) (nx : Gm → Mp → Prop) (v d k : D) (M : Mp) : Prop := match d with
  | .ref p => (match putDk M p k v with | some c => nx G (mupd M p c) | none => False)
  | _ => False
def kDisK (Q : QD) (qs : List (D × D)) (M : Mp) : Prop := match keyPs qs with
  | some ms => ms.length ≤ 15 ∧ ∀ p, M p = none → Q (.ref p) (mupd M p (.dK (mergeD [] ms)))
  | none => False
def kDisT (Q : QD) (qs : List (D × D)) (M : Mp) : Prop := match keyTs qs with
  | some ms => ms.length ≤ 15 ∧ ∀ p, M p = none → Q (.ref p) (mupd M p (.dT (mergeD [] ms)))
  | none => False
def kPart (QO : Option Int → Mp → Prop) (d : D) (M : Mp) : Prop := match d with | .int i => QO (some i) M | _ => False
def kChain (G : Gm) (g : V2) (z : aE) (Q : QD) (e r : D) (M : Mp) : Prop := match r with
  | .bl k => if k = true then z G M fun w M4 => g e w M4 Q else Q (.bl false) M
  | _ => False
section
variable {m0 M : Mp} {nx bk ct : Gm → Mp → Prop} {rt Q : QD} {G : Gm} {t u : aS} {x y z : aE} {g : aG} {gs : aGs} {c c1 c2 : aT} {al a2 : aA} {i j l n m : Nat} {d e : D} {ds es : List D}
  {QT : Bool → Mp → Prop} {QA : List D → Mp → Prop} {QG : Gm → Mp → Prop} {a b : Addr} {k : Bool} {K : PySem.W.Frag}
/-! ### statements -/
theorem go_seq (h : t ⟨m0, cvU u ⟨m0, nx, rt, bk, ct⟩, rt, bk, ct⟩ G M) : asSeq t u ⟨m0, nx, rt, bk, ct⟩ G M := h
theorem go_sAsg (h : asAsg x g ⟨m0, cvU u ⟨m0, nx, rt, bk, ct⟩, rt, bk, ct⟩ G M) : asSeq (asAsg x g) u ⟨m0, nx, rt, bk, ct⟩ G M := h
theorem go_sDrop (h : asDrop x ⟨m0, cvU u ⟨m0, nx, rt, bk, ct⟩, rt, bk, ct⟩ G M) : asSeq (asDrop x) u ⟨m0, nx, rt, bk, ct⟩ G M := h
theorem go_sPar (h : asPar i j al ⟨m0, cvU u ⟨m0, nx, rt, bk, ct⟩, rt, bk, ct⟩ G M) : asSeq (asPar i j al) u ⟨m0, nx, rt, bk, ct⟩ G M := h
theorem go_sPar3 (h : asPar3 i j l al ⟨m0, cvU u ⟨m0, nx, rt, bk, ct⟩, rt, bk, ct⟩ G M) : asSeq (asPar3 i j l al) u ⟨m0, nx, rt, bk, ct⟩ G M := h
theorem go_sAug {f : V2} (h : asAug j x f ⟨m0, cvU u ⟨m0, nx, rt, bk, ct⟩, rt, bk, ct⟩ G M) : asSeq (asAug j x f) u ⟨m0, nx, rt, bk, ct⟩ G M := h
theorem go_sFld {f : Str} (h : asFld K x y f ⟨m0, cvU u ⟨m0, nx, rt, bk, ct⟩, rt, bk, ct⟩ G M) : asSeq (asFld K x y f) u ⟨m0, nx, rt, bk, ct⟩ G M := h
theorem go_sDPut (h : asDPut x y z ⟨m0, cvU u ⟨m0, nx, rt, bk, ct⟩, rt, bk, ct⟩ G M) : asSeq (asDPut x y z) u ⟨m0, nx, rt, bk, ct⟩ G M := h
/-- what follows a statement, by what is known ahead of it -/
theorem go_seqK {J : Gm → Mp → Prop} (h : ∀ nx', (∀ G M, J G M → nx' G M) → t ⟨m0, nx', rt, bk, ct⟩ G M) (h2 : ∀ G M, J G M → u ⟨m0, nx, rt, bk, ct⟩ G M) : asSeq t u ⟨m0, nx, rt, bk, ct⟩ G M := h _ fun G M j => ⟨G, M, .refl, h2 G M j⟩
/-- .. told in another way -/
theorem go_seqC {J : Gm → Mp → Prop} (h : ∀ nx', (∀ G M, (∃ G' M', Cvt m0 G M G' M' ∧ J G' M') → nx' G M) → t ⟨m0, nx', rt, bk, ct⟩ G M) (h2 : ∀ G M, J G M → u ⟨m0, nx, rt, bk, ct⟩ G M) : asSeq t u ⟨m0, nx, rt, bk, ct⟩ G M := h _ fun G M ⟨G', M', c, j⟩ => ⟨G', M', c, h2 _ _ j⟩
theorem go_cvU (h : u ⟨m0, nx, rt, bk, ct⟩ G M) : cvU u ⟨m0, nx, rt, bk, ct⟩ G M := ⟨G, M, .refl, h⟩
/-- for, by an invariant -/
theorem go_forI (I : Nat → Gm → Mp → Prop) (h0 : I 0 G M) (hs : ∀ i d G M nx', ds[i]? = some d → I i G M → (∀ G M, I (i + 1) G M → nx' G M) → g d G M fun G' M' => t ⟨m0, nx', rt, nx, nx'⟩ G' M') (hd : ∀ G M, I ds.length G M → nx G M) : forGo g t ds ⟨m0, nx, rt, bk, ct⟩ G M := by
  have main : ∀ (r : List D) (i : Nat) (G : Gm) (M : Mp), i ≤ ds.length → ds.drop i = r → I i G M → forGo g t r ⟨m0, nx, rt, bk, ct⟩ G M := by
    intro r
    induction r with
    | nil =>
      intro i G M hl e hi
      have h1 : ds.length ≤ i := List.drop_eq_nil_iff.mp e
      have q : i = ds.length := by omega
      subst q
      exact hd G M hi
    | cons d r ih =>
      intro i G M hl e hi
      have hlt : i < ds.length := by
        by_cases q : i < ds.length
        · exact q
        · rw [List.drop_eq_nil_of_le (by omega)] at e; cases e
      rw [List.drop_eq_getElem_cons hlt] at e
      injection e with e1 e2
      exact hs i d G M _ (by rw [List.getElem?_eq_getElem hlt, e1]) hi fun G M h => ih (i + 1) G M hlt e2 h
  exact main ds 0 G M (Nat.zero_le _) rfl h0
/-- a comprehension, by an invariant over the turn, what is made, the objects -/
theorem go_lcI {t : aT} (I : Nat → List D → Mp → Prop) (h0 : I 0 [] M) (hs : ∀ i d acc M (KY : D → Mp → Prop) (KN : Mp → Prop), ds[i]? = some d → I i acc M → (∀ y M, I (i + 1) (acc ++ [y]) M → KY y M) → (∀ M, I (i + 1) acc M → KN M) →
    g d G M fun G' M1 => t G' M1 fun b M2 => if b = true then x G' M2 KY else KN M2) (hd : ∀ acc M, I ds.length acc M → QA acc M) : lcGo g t x G ds [] M QA := by
  have main : ∀ (r : List D) (i : Nat) (acc : List D) (M : Mp), i ≤ ds.length → ds.drop i = r → I i acc M → lcGo g t x G r acc M QA := by
    intro r
    induction r with
    | nil =>
      intro i acc M hl e hi
      have h1 : ds.length ≤ i := List.drop_eq_nil_iff.mp e
      have q : i = ds.length := by omega
      subst q
      exact hd acc M hi
    | cons d r ih =>
      intro i acc M hl e hi
      have hlt : i < ds.length := by
        by_cases q : i < ds.length
        · exact q
        · rw [List.drop_eq_nil_of_le (by omega)] at e; cases e
      rw [List.drop_eq_getElem_cons hlt] at e
      injection e with e1 e2
      exact hs i d acc M _ _ (by rw [List.getElem?_eq_getElem hlt, e1]) hi (fun y M h => ih (i + 1) _ M hlt e2 h) (fun M h => ih (i + 1) acc M hlt e2 h)
  exact main ds 0 [] M (Nat.zero_le _) rfl h0
/-- a comprehension whose element and test are plain functions of the item -/
theorem go_lcP {t : aT} (p : D → Bool) (f : D → D) (h : ∀ (i : Nat) d (KY : D → Mp → Prop) (KN : Mp → Prop), ds[i]? = some d → (p d = true → KY (f d) M) → (p d = false → KN M) → g d G M fun G' M1 => t G' M1 fun b M2 => if b = true then x G' M2 KY else KN M2)
    (q : QA ((ds.filter p).map f) M) : lcGo g t x G ds [] M QA := by
  refine go_lcI (fun i acc M' => M' = M ∧ acc = ((ds.take i).filter p).map f) ⟨rfl, rfl⟩ (fun i d acc M' KY KN hd hI hY hN => ?_) (fun acc M' hI => ?_)
  · obtain ⟨rfl, rfl⟩ := hI
    refine h i d KY KN hd (fun hp => hY _ _ ⟨rfl, ?_⟩) (fun hp => hN _ ⟨rfl, ?_⟩)
    · rw [List.take_add_one, hd, List.filter_append, List.map_append]
      simp [hp]
    · rw [List.take_add_one, hd, List.filter_append, List.map_append]
      simp [hp]
  · obtain ⟨rfl, rfl⟩ := hI
    rw [List.take_length]
    exact q
/-- .. without a test -/
theorem go_lcM' {t : aT} (f : D → D) (h : ∀ (i : Nat) d (KY : D → Mp → Prop) (KN : Mp → Prop), ds[i]? = some d → KY (f d) M → g d G M fun G' M1 => t G' M1 fun b M2 => if b = true then x G' M2 KY else KN M2)
    (q : QA (ds.map f) M) : lcGo g t x G ds [] M QA := by
  refine go_lcP (fun _ => true) f (fun i d KY KN hd hY hN => h i d KY KN hd (hY rfl)) ?_
  rw [List.filter_eq_self.mpr fun _ _ => rfl]
  exact q
theorem go_whileI {W : Nat → Gm → Mp → Prop} (m : Nat) (h0 : W m G M) (hs : ∀ m G M nx', W m G M → (∀ m' G M, m' < m → W m' G M → nx' G M) → c G M fun k M1 => if k = true then t ⟨m0, nx', rt, nx, nx'⟩ G M1 else nx G M1) : asWhile c t ⟨m0, nx, rt, bk, ct⟩ G M :=
  ⟨W, ⟨m, h0⟩, fun m G M hw => hs m G M _ hw fun m' G M l h => ⟨m', l, h⟩⟩
theorem go_next (h : nx G M) : asNext ⟨m0, nx, rt, bk, ct⟩ G M := h
theorem go_break (h : bk G M) : asBreak ⟨m0, nx, rt, bk, ct⟩ G M := h
theorem go_cont (h : ct G M) : asCont ⟨m0, nx, rt, bk, ct⟩ G M := h
theorem go_drop (h : x G M fun _ M1 => nx G M1) : asDrop x ⟨m0, nx, rt, bk, ct⟩ G M := h
theorem go_ret (h : x G M rt) : asRet x ⟨m0, nx, rt, bk, ct⟩ G M := h
theorem go_retN (h : rt .non M) : asRetN ⟨m0, nx, rt, bk, ct⟩ G M := h
theorem go_if (h : c G M fun b M1 => if b = true then t ⟨m0, nx, rt, bk, ct⟩ G M1 else u ⟨m0, nx, rt, bk, ct⟩ G M1) : asIf c t u ⟨m0, nx, rt, bk, ct⟩ G M := h
theorem go_asg (h : x G M fun d M1 => g d G M1 nx) : asAsg x g ⟨m0, nx, rt, bk, ct⟩ G M := h
theorem go_par (h : al G M (kPar i j nx G)) : asPar i j al ⟨m0, nx, rt, bk, ct⟩ G M := h
theorem go_kpar {G1 G2 : Gm} (e1 : G.set i (some d) = G1) (e2 : G1.set j (some e) = G2) (h : nx G2 M) : kPar i j nx G [d, e] M := by subst e1; subst e2; exact h
theorem go_par3 (h : al G M (kPar3 i j l nx G)) : asPar3 i j l al ⟨m0, nx, rt, bk, ct⟩ G M := h
theorem go_kpar3 {f : D} {G1 G2 G3 : Gm} (e1 : G.set i (some d) = G1) (e2 : G1.set j (some e) = G2) (e3 : G2.set l (some f) = G3) (h : nx G3 M) : kPar3 i j l nx G [d, e, f] M := by subst e1; subst e2; subst e3; exact h
theorem go_aug {f : V2} (h : G[j]? = some (some d)) (q : x G M fun e M1 => f d e M1 fun z M2 => nx (G.set j (some z)) M2) : asAug j x f ⟨m0, nx, rt, bk, ct⟩ G M := by
  unfold asAug
  rw [h]
  exact q
theorem go_for {src : aA} (h : src G M fun ds M1 => forGo g t ds ⟨m0, nx, rt, bk, ct⟩ G M1) : asFor src g t ⟨m0, nx, rt, bk, ct⟩ G M := h
theorem go_forN (h : nx G M) : forGo g t [] ⟨m0, nx, rt, bk, ct⟩ G M := h
theorem go_forC (h : g d G M fun G' M' => t ⟨m0, forGo g t ds ⟨m0, nx, rt, bk, ct⟩, rt, nx, forGo g t ds ⟨m0, nx, rt, bk, ct⟩⟩ G' M') : forGo g t (d :: ds) ⟨m0, nx, rt, bk, ct⟩ G M := h
/-! ### targets -/
theorem go_name {G' : Gm} (e : G.set j (some d) = G') (h : QG G' M) : agName j d G M QG := by subst e; exact h
theorem go_tup (e : ds.length = n) (h : gs ds G M QG) : agTup n gs (.tup ds) G M QG := ⟨e, h⟩
theorem go_gcons (h : g d G M fun G' M' => gs ds G' M' QG) : agCons g gs (d :: ds) G M QG := h
theorem go_gnil (h : QG G M) : agNil [] G M QG := ⟨rfl, h⟩
theorem go_subL (h : x G M fun o M1 => y G M1 (kSub G d QG o)) : agSubL x y d G M QG := h
theorem go_ksub {z : Int} (h1 : M a = some (.lst ds)) (h2 : ixN ds.length z = some j) (e : ds.set j d = es) (h : QG G (mupd M a (.lst es))) : kSub G d QG (.ref a) (.int z) M := by
  subst e
  unfold kSub
  simp only [h1, h2]
  exact h
/-! ### expressions -/
theorem go_var (h : G[i]? = some (some d)) (q : Q d M) : aVar i G M Q := by
  unfold aVar
  rw [h]
  exact q
theorem go_c (q : Q d M) : aC d G M Q := q
theorem go_bin {f : V2} (h : x G M fun d M1 => y G M1 fun e M2 => f d e M2 Q) : aBin f x y G M Q := h
theorem go_un {f : V1} (h : x G M fun d M1 => f d M1 Q) : aUn f x G M Q := h
theorem go_anil (q : QA [] M) : aNil G M QA := q
theorem go_acons (h : x G M fun d M1 => al G M1 fun ds M2 => QA (d :: ds) M2) : aCons x al G M QA := h
theorem go_atup (h : al G M fun ds M1 => ds.length ≤ 1000000 ∧ Q (.tup ds) M1) : aTup al G M Q := h
theorem go_alst (h : al G M fun ds M1 => ds.length ≤ 1000000 ∧ Q (.list ds) M1) : aLst al G M Q := h
theorem go_alstM (h : al G M fun ds M1 => ds.length ≤ 1000000 ∧ ∀ p, M1 p = none → Q (.ref p) (mupd M1 p (.lst ds))) : aLstM al G M Q := h
theorem go_cb {f : VL} (h : al G M fun ds M1 => f ds M1 Q) : aCB f al G M Q := h
theorem go_bm {T : String} {f : VM} (h : x G M fun d M1 => tyD M1 d = some T ∧ al G M1 fun ds M2 => f d ds M2 Q) : aBM T f x al G M Q := h
theorem go_bm0 {T : String} {f : VM} (h : x G M fun d M1 => tyD M1 d = some T ∧ f d [] M1 Q) : aBM0 T f x G M Q := h
theorem go_call {sp : aSp} (h : al G M fun ds M1 => ds.length = n ∧ sp ds M1 Q) : aCall n sp al G M Q := h
theorem go_if' (h : c G M fun k M1 => if k = true then x G M1 Q else y G M1 Q) : aIf c x y G M Q := h
/-! ### tests -/
theorem go_test (h : x G M (kTest QT)) : aTest x G M QT := h
theorem go_ktest (q : QT k M) : kTest QT (.bl k) M := q
theorem go_tru (h : x G M (kTru QT)) : aTru x G M QT := h
theorem go_ktru (h : truD M d = some k) (q : QT k M) : kTru QT d M := by
  unfold kTru
  rw [h]
  exact q
theorem go_tand (h : c1 G M fun b M1 => if b = true then c2 G M1 QT else QT false M1) : atAnd c1 c2 G M QT := h
theorem go_tor (h : c1 G M fun b M1 => if b = true then QT true M1 else c2 G M1 QT) : atOr c1 c2 G M QT := h
theorem go_tnot (h : c1 G M fun b M1 => QT (!b) M1) : atNot c1 G M QT := h
theorem go_andV (h : x G M (kAndV G y Q)) : aAndV x y G M Q := h
theorem go_kandV (h : if k = true then y G M Q else Q (.bl false) M) : kAndV G y Q (.bl k) M := h
theorem go_orV (h : x G M (kOrV G y Q)) : aOrV x y G M Q := h
theorem go_korV (h : if k = true then Q (.bl true) M else y G M Q) : kOrV G y Q (.bl k) M := h
theorem go_tyes (q : QT true M) : atYes G M QT := q
/-! ### operations on values -/
theorem go_addI {i j : Int} (q : Q (.int (i + j)) M) : fAdd (.int i) (.int j) M Q := q
theorem go_addS {i j : Str} (h : i.length + j.length ≤ 1000000) (q : Q (.str (i ++ j)) M) : fAdd (.str i) (.str j) M Q := ⟨h, q⟩
theorem go_addL (h : ds.length + es.length ≤ 1000000) (q : Q (.list (ds ++ es)) M) : fAdd (.list ds) (.list es) M Q := ⟨h, q⟩
theorem go_fI0 {g : Int → Int → D} {i j : Int} (q : Q (g i j) M) : fI0 g (.int i) (.int j) M Q := q
theorem go_fI {C : Int → Int → Prop} {g : Int → Int → D} {i j : Int} (h : C i j) (q : Q (g i j) M) : fI C g (.int i) (.int j) M Q := ⟨h, q⟩
theorem go_mulI {i j : Int} (h : CMul i j) (q : Q (.int (i * j)) M) : fMul (.int i) (.int j) M Q := ⟨h, q⟩
theorem go_neg {i : Int} (q : Q (.int (-i)) M) : fNeg (.int i) M Q := q
theorem go_notB (q : Q (.bl (!k)) M) : fNot (.bl k) M Q := q
theorem go_eqI {i j : Int} (q : Q (.bl (i == j)) M) : fEq (.int i) (.int j) M Q := ⟨rfl, rfl, q⟩
theorem go_neI {i j : Int} (q : Q (.bl (!(i == j))) M) : fNe (.int i) (.int j) M Q := ⟨rfl, rfl, q⟩
theorem go_eqB {i j : Bool} (q : Q (.bl (i == j)) M) : fEq (.bl i) (.bl j) M Q := ⟨rfl, rfl, q⟩
theorem go_neB {i j : Bool} (q : Q (.bl (!(i == j))) M) : fNe (.bl i) (.bl j) M Q := ⟨rfl, rfl, q⟩
theorem go_is (q : Q (.bl (isNon d)) M) : fIs d .non M Q := q
theorem go_isnot (q : Q (.bl (!isNon d)) M) : fIsNot d .non M Q := q
theorem go_ix {i : Int} (h : itemsM M d = some ds) (h2 : atI ds i = some e) (q : Q e M) : fIx d (.int i) M Q := by
  unfold fIx
  simp only [h, h2]
  exact q
theorem itemsM_ref (h : M a = some (.lst ds)) : itemsM M (.ref a) = some ds := by simp only [itemsM, h]
theorem go_int {i : Int} (q : Q (.int i) M) : fInt [.int i] M Q := q
theorem go_abs {i : Int} (q : Q (.int (if i < 0 then -i else i)) M) : fAbs [.int i] M Q := q
theorem go_len (h : itemsM M d = some ds) (q : Q (.int (ds.length : Nat)) M) : fLen [d] M Q := by
  unfold fLen
  simp only [h]
  exact q
theorem go_lenS {z : Str} (h : z.length ≤ 1000000) (q : Q (.int (z.length : Nat)) M) : fLen [.str z] M Q := ⟨h, q⟩
theorem go_list (h : itemsM M d = some ds) (q : Q (.list ds) M) : fList [d] M Q := by
  unfold fList
  simp only [h]
  exact q
theorem go_listM (h : itemsM M d = some ds) (q : ∀ p, M p = none → Q (.ref p) (mupd M p (.lst ds))) : fListM [d] M Q := by
  unfold fListM
  simp only [h]
  exact q
theorem go_tuple (h : itemsM M d = some ds) (q : Q (if isLM d then .tup ds else d) M) : fTuple [d] M Q := by
  unfold fTuple
  simp only [h]
  exact q
theorem go_append (h : M a = some (.lst ds)) (h2 : ds.length < 1000000) (q : Q .non (mupd M a (.lst (ds ++ [d])))) : fAppend (.ref a) [d] M Q := by
  unfold fAppend
  simp only [h]
  exact ⟨h2, q⟩
theorem go_pop (h : M a = some (.lst ds)) (h2 : ds[ds.length - 1]? = some e) (q : Q e (mupd M a (.lst ds.dropLast))) : fPop (.ref a) [] M Q := by
  unfold fPop
  simp only [h, h2]
  exact q
theorem tyD_ref (h : M a = some (.lst ds)) : tyD M (.ref a) = some "list" := by simp only [tyD, h]
/-- a test whose answer is open -/
theorem go_ite {A B : Prop} (h1 : k = true → A) (h2 : k = false → B) : if k = true then A else B := by
  cases k with
  | true => rw [if_pos rfl]; exact h1 rfl
  | false => rw [if_neg Bool.false_ne_true]; exact h2 rfl
theorem go_iteT {A B : Prop} (h : k = true) (q : A) : if k = true then A else B := by rw [if_pos h]; exact q
theorem go_iteF {A B : Prop} (h : k = false) (q : B) : if k = true then A else B := by rw [h, if_neg Bool.false_ne_true]; exact q
/-! ### walks -/
theorem go_iseq (h : x G M (kItems QA)) : aiSeq x G M QA := h
theorem go_kitems (h : items d = some ds) (q : QA ds M) : kItems QA d M := by
  unfold kItems
  rw [h]
  exact q
theorem go_rng1 (h : al G M (kRng1 QA)) : aiRng1 al G M QA := h
theorem go_krng1 {j : Int} (h1 : j ≤ 1000000) (h2 : -1000000 ≤ j) (q : QA (rng 0 j.toNat) M) : kRng1 QA [.int j] M := ⟨h1, h2, q⟩
theorem go_rng2 (h : al G M (kRng2 QA)) : aiRng2 al G M QA := h
theorem go_krng2 {i j : Int} (h1 : j ≤ 1000000) (h2 : -1000000 ≤ j) (h3 : i ≤ 1000000) (h4 : -1000000 ≤ i) (q : QA (rng i (j - i).toNat) M) : kRng2 QA [.int i, .int j] M := ⟨⟨h1, h2, h3, h4⟩, q⟩
theorem go_zip (h : al G M (kZip QA)) : aiZip al G M QA := h
theorem go_kzip (h0 : isL d = isL e) (h1 : items d = some ds) (h2 : items e = some es) (q : QA (zipD ds es) M) : kZip QA [d, e] M := by
  unfold kZip
  simp only [h1, h2]
  exact ⟨h0, q⟩
theorem go_lc {src : aA} {t : aT} {vs : List Nat} {G1 : Gm} (e : wipeG G vs = G1) (h : src G M fun ds M1 => ds.length ≤ 1000000 ∧ lcGo g t x G1 ds [] M1 fun acc M2 => Q (.list acc) M2) : aLc src g t x vs G M Q := by subst e; exact h
theorem go_lcM {src : aA} {t : aT} {vs : List Nat} {G1 : Gm} (e : wipeG G vs = G1) (h : src G M fun ds M1 => ds.length ≤ 1000000 ∧ lcGo g t x G1 ds [] M1 fun acc M2 => ∀ p, M2 p = none → Q (.ref p) (mupd M2 p (.lst acc))) : aLcM src g t x vs G M Q := by subst e; exact h
theorem go_fld {f : Str} (h : x G M (kFld K f Q)) : aFld K x f G M Q := h
theorem go_kfldO {f : Str} {C : Addr} {gs : List (Str × D)} (h1 : Cls K C) (h2 : NoAttr K C f) (h3 : gs.lookup f = some d) (q : Q d M) : kFld K f Q (.obj C gs) M := by
  unfold kFld
  simp only [h3]
  exact ⟨h1, h2, q⟩
theorem go_kfldM {f : Str} {C : Addr} {gs : List (Str × D)} (h : M a = some (.ins C gs)) (h1 : Cls K C) (h2 : NoAttr K C f) (h3 : gs.lookup f = some d) (q : Q d M) : kFld K f Q (.ref a) M := by
  unfold kFld
  simp only [h, h3]
  exact ⟨h1, h2, q⟩
theorem go_meth {C : Addr} {mm : Str} {sp : aSp} (h : x G M fun d M1 => kMeth C mm d M1 ∧ al G M1 fun ds M2 => ds.length + 1 = n ∧ sp (d :: ds) M2 Q) : aMeth C mm n sp x al G M Q := h
theorem go_kmethO {C : Addr} {mm : Str} {gs : List (Str × D)} (h : gs.lookup mm = none) : kMeth C mm (.obj C gs) M := ⟨rfl, h⟩
theorem go_setF {f : Str} (h : y G M fun v M1 => x G M1 (kSetF K f G nx v)) : asFld K x y f ⟨m0, nx, rt, bk, ct⟩ G M := h
theorem go_ksetF {f : Str} {C : Addr} {gs gs' : List (Str × D)} (h : M a = some (.ins C gs)) (h1 : Cls K C) (h2 : NoAttr K C f) (h3 : gs.length < 1000) (e : asFld.putG f d gs = gs') (q : nx G (mupd M a (.ins C gs'))) : kSetF K f G nx d (.ref a) M := by
  subst e
  unfold kSetF
  simp only [h]
  exact ⟨h1, h2, h3, q⟩
theorem go_dput {v : aE} (h : v G M fun v M1 => x G M1 fun d M2 => y G M2 (kDPut G nx v d)) : asDPut x y v ⟨m0, nx, rt, bk, ct⟩ G M := h
theorem go_kdputK {gs : List (Key × D)} {kk : Key} {v : D} (h : M a = some (.dK gs)) (h1 : gs.length < 1000000) (h2 : keyOf d = some kk) (q : nx G (mupd M a (.dK (putD gs kk v)))) : kDPut G nx v (.ref a) d M := by
  unfold kDPut putDk
  simp only [h, if_pos h1, h2, Option.map_some]
  exact q
theorem go_kdputT {gs : List (List Key × D)} {kk : List Key} {v : D} (h : M a = some (.dT gs)) (h1 : gs.length < 1000000) (h2 : keyT d = some kk) (q : nx G (mupd M a (.dT (putD gs kk v)))) : kDPut G nx v (.ref a) d M := by
  unfold kDPut putDk
  simp only [h, if_pos h1, h2, Option.map_some]
  exact q
theorem go_make {C : Addr} {sp : aSp} (h : al G M fun ds M1 => ds.length + 1 = n ∧ ∀ x, M1 x = none →
  sp (.ref x :: ds) (mupd M1 x (.ins C [])) fun r M2 => r = .non ∧ ∃ gs, M2 x = some (.ins C gs) ∧ Q (.obj C gs) (mdel M2 x)) : aMake C n sp al G M Q := h
variable {QP : List (D × D) → Mp → Prop} {ps : List (aE × aE)} {QO : Option Int → Mp → Prop}
theorem go_pnil (q : QP [] M) : aPairs [] G M QP := q
theorem go_pcons (h : x G M fun d M1 => y G M1 fun e M2 => aPairs ps G M2 fun qs M3 => QP ((d, e) :: qs) M3) : aPairs ((x, y) :: ps) G M QP := h
theorem go_dispK (h : aPairs ps G M (kDisK Q)) : aDispKM ps G M Q := h
theorem go_dispT (h : aPairs ps G M (kDisT Q)) : aDispTM ps G M Q := h
theorem go_kdisK {qs : List (D × D)} {ms : List (Key × D)} (h : keyPs qs = some ms) (h2 : ms.length ≤ 15) (q : ∀ p, M p = none → Q (.ref p) (mupd M p (.dK (mergeD [] ms)))) : kDisK Q qs M := by
  unfold kDisK
  simp only [h]
  exact ⟨h2, q⟩
theorem go_kdisT {qs : List (D × D)} {ms : List (List Key × D)} (h : keyTs qs = some ms) (h2 : ms.length ≤ 15) (q : ∀ p, M p = none → Q (.ref p) (mupd M p (.dT (mergeD [] ms)))) : kDisT Q qs M := by
  unfold kDisT
  simp only [h]
  exact ⟨h2, q⟩
theorem go_sl {f : D → Option Int → Option Int → Mp → QD → Prop} {lo hi : aO} (h : x G M fun d M1 => lo G M1 fun lo M2 => hi G M2 fun hi M3 => f d lo hi M3 Q) : aSl f x lo hi G M Q := h
theorem go_onone (q : QO none M) : aoNone G M QO := q
theorem go_osome (h : x G M (kPart QO)) : aoSome x G M QO := h
theorem go_kpart {i : Int} (q : QO (some i) M) : kPart QO (.int i) M := q
theorem go_slL {lo hi : Option Int} (h : itemsM M d = some ds) (h2 : isLM d = true) (q : Q (.list (cutD ds lo hi)) M) : fSl d lo hi M Q := by
  cases d <;> first | (simp [isLM, isL] at h2; done) | (unfold fSl; simp only [h, h2, if_true]; exact q)
theorem go_chain {f g : V2} {z : aE} (h : x G M fun d M1 => y G M1 fun e M2 => f d e M2 (kChain G g z Q e)) : aChain f g x y z G M Q := h
theorem go_kchain {g : V2} {z : aE} (h : if k = true then z G M fun w M4 => g d w M4 Q else Q (.bl false) M) : kChain G g z Q d (.bl k) M := h
theorem go_inI {neg : Bool} {i : Int} (h : itemsM M e = some ds) (h2 : ds.all flatD = true) (q : Q (.bl (if neg then !memD (.int i) ds else memD (.int i) ds)) M) : fIn neg (.int i) e M Q := by
  unfold fIn
  simp only [h]
  exact ⟨rfl, h2, q⟩
theorem go_inD {neg : Bool} {o : Option D} (h0 : itemsM M e = none) (h : getDk M e d = some o) (q : Q (.bl (if neg then !o.isSome else o.isSome)) M) : fIn neg d e M Q := by
  unfold fIn
  simp only [h0, h]
  exact q
theorem itemsM_dT {gs : List (List Key × D)} (h : M a = some (.dT gs)) : itemsM M (.ref a) = none := by simp only [itemsM, h]
theorem itemsM_dK {gs : List (Key × D)} (h : M a = some (.dK gs)) : itemsM M (.ref a) = none := by simp only [itemsM, h]
theorem getDk_dT {gs : List (List Key × D)} {kk : List Key} (h : M a = some (.dT gs)) (h2 : keyT d = some kk) : getDk M (.ref a) d = some (valD gs kk) := by simp only [getDk, h, h2, Option.map_some]
theorem getDk_dK {gs : List (Key × D)} {kk : Key} (h : M a = some (.dK gs)) (h2 : keyOf d = some kk) : getDk M (.ref a) d = some (valD gs kk) := by simp only [getDk, h, h2, Option.map_some]
theorem go_maxT (h : items d = some ds) (h0 : isL d = false) {bs : List Int} (h2 : intsD ds = some bs) (h3 : 0 < bs.length) (q : ∀ mm, mm ∈ bs → (∀ y, y ∈ bs → y ≤ mm) → Q (.int mm) M) : fMaxT [d] M Q := by
  unfold fMaxT
  simp only [h, Option.bind_some, h2]
  exact ⟨h0, h3, q⟩
theorem go_all {bs : List Bool} (h : itemsM M d = some ds) (h0 : isLM d = true) (h2 : bools ds = some bs) (q : Q (.bl (bs.all _root_.id)) M) : fAll [d] M Q := by
  unfold fAll
  simp only [h, Option.bind_some, h2]
  exact ⟨h0, q⟩
theorem go_mulL {k : Int} (h0 : 0 ≤ k) (h1 : k ≤ 1000000) (h2 : ds.length * k.toNat ≤ 1000000) (q : Q (.list (List.replicate k.toNat ds).flatten) M) : fMul (.list ds) (.int k) M Q := ⟨h0, h1, h2, q⟩
theorem cmulL {i j : Int} (h1 : -18446744073709551616 < i) (h2 : i < 18446744073709551616) : CMul i j := .inl ⟨by omega, by omega⟩
theorem cmulR {i j : Int} (h1 : -18446744073709551616 < j) (h2 : j < 18446744073709551616) : CMul i j := .inr ⟨by omega, by omega⟩
end
end DL

set_option Elab.async false
set_option linter.all false
set_option maxRecDepth 100000
namespace DL
open PySem PySem.Spec PyProof.Rows L2
/-! ### lists within a value stand still from now on -/
mutual
inductive Dz (M : Mp) (L : List Addr) : D → D → Prop
  | same (d : D) : Dz M L d d
  | ref {a : Addr} {ds es : List D} : a ∈ L → M a = some (.lst ds) → Dzs M L ds es → Dz M L (.ref a) (.list es)
  | list {ds es : List D} : Dzs M L ds es → Dz M L (.list ds) (.list es)
  | tup {ds es : List D} : Dzs M L ds es → Dz M L (.tup ds) (.tup es)
inductive Dzs (M : Mp) (L : List Addr) : List D → List D → Prop
  | nil : Dzs M L [] []
  | cons {d e : D} {ds es : List D} : Dz M L d e → Dzs M L ds es → Dzs M L (d :: ds) (e :: es)
end
def mdelL (M : Mp) : List Addr → Mp
  | [] => M
  | a :: r => mdelL (mdel M a) r
theorem mdel_ne {M : Mp} {a b : Addr} (h : b ≠ a) : mdel M a b = M b := by unfold mdel; rw [if_neg h]
theorem mdel_same {M : Mp} {a : Addr} : mdel M a a = none := by unfold mdel; rw [if_pos rfl]
theorem mdelL_get {b : Addr} : ∀ {L : List Addr} {M : Mp}, mdelL M L b = if b ∈ L then none else M b
  | [], M => by simp [mdelL]
  | a :: r, M => by
    rw [mdelL, mdelL_get (L := r)]
    by_cases q : b = a
    · subst q; simp [mdel_same]
    · rw [mdel_ne q]; simp [q]
section
variable {K : PySem.W.Frag} {M0 M M' : Mp} {d : D} {Q : QD} {L : List Addr}
mutual
theorem dz_sound {N N' H : Hp} (s : Same N N') (hL : ∀ a ds, a ∈ L → M a = some (.lst ds) → ∃ xs, N' a = some (.lst xs) ∧ RelL K N xs ds) : ∀ {d e : D} {v : V}, Dz M L d e → RelD K N v d → RelD K N' v e
  | _, _, _, .same d, r => r.mono s
  | _, _, _, .ref ha hm z, r => by
    have e := rel_ref r
    subst e
    obtain ⟨xs, h1, h2⟩ := hL _ _ ha hm
    exact .list h1 (dzs_sound (H := H) s hL z h2)
  | _, _, _, .list z, r => by
    cases r with
    | list h1 h2 => exact .list (s _ _ h1) (dzs_sound (H := H) s hL z h2)
  | _, _, _, .tup z, r => by
    cases r with
    | tup h1 h2 => exact .tup (s _ _ h1) (dzs_sound (H := H) s hL z h2)
theorem dzs_sound {N N' H : Hp} (s : Same N N') (hL : ∀ a ds, a ∈ L → M a = some (.lst ds) → ∃ xs, N' a = some (.lst xs) ∧ RelL K N xs ds) : ∀ {d e : List D} {v : List V}, Dzs M L d e → RelL K N v d → RelL K N' v e
  | _, _, _, .nil, r => by cases r; exact .nil
  | _, _, _, .cons z zs, r => by
    cases r with
    | cons h1 h2 => exact .cons (dz_sound (H := H) s hL z h1) (dzs_sound (H := H) s hL zs h2)
end
/-- all lists of L are read as standing -/
theorem freezeL : ∀ (L : List Addr) {M : Mp} {N0 H0 N H : Hp}, L.Nodup → (∀ a, a ∈ L → (∃ ds, M a = some (.lst ds)) ∧ M0 a = none) → Fr M0 N0 H0 M N H → CM K M N H →
    ∃ N', Fr M0 N0 H0 (mdelL M L) N' H ∧ CM K (mdelL M L) N' H ∧ Same N N' ∧ ∀ a ds, a ∈ L → M a = some (.lst ds) → ∃ xs, N' a = some (.lst xs) ∧ RelL K N xs ds
  | [], M, N0, H0, N, H, _, _, f, c => ⟨N, f, c, Same.refl N, fun a ds h => by simp at h⟩
  | a :: r, M, N0, H0, N, H, nd, h, f, c => by
    obtain ⟨⟨ds, ha⟩, h0⟩ := h a (by simp)
    obtain ⟨hn, hr⟩ := List.nodup_cons.mp nd
    obtain ⟨hN, xs, hH, rx⟩ := c.hm a _ ha
    have C : CC K ⟨M0, N0, H0⟩ [] M N [] H := ⟨f, c, rfl, fun i d e => by simp at e⟩
    have C2 := C.freeze hN hH (f.h0 ha h0)
    obtain ⟨N', f', c', s', k'⟩ := freezeL r (M := mdel M a) hr (fun b hb => by
      have hne : b ≠ a := fun e => hn (e ▸ hb)
      rw [mdel_ne hne]
      exact h b (by simp [hb])) C2.fr C2.cm
    refine ⟨N', f', c', (same_new hN).trans s', fun b es hb hm => ?_⟩
    rcases List.mem_cons.mp hb with rfl | hb
    · rw [ha] at hm
      cases hm
      exact ⟨xs, s' _ _ upd_same, rx⟩
    · have hne : b ≠ a := fun e => hn (e ▸ hb)
      obtain ⟨N1, hx, rz⟩ := c.hm b _ hm
      obtain ⟨ys, h1, h2⟩ := k' b es hb (by rw [mdel_ne hne]; exact hm)
      obtain ⟨h3, h4⟩ := rz
      have := c'.sm _ _ h1
      rw [h3] at this
      cases this
      exact ⟨_, h1, h4⟩
theorem cv_deep {d d' : D} (z : Dz M L d d') (hn : L.Nodup) (h : ∀ a, a ∈ L → (∃ ds, M a = some (.lst ds)) ∧ M0 a = none) : Cv K M0 d M d' (mdelL M L) := fun N0 H0 N H v f c r => by
  obtain ⟨N', f', c', s', k'⟩ := freezeL L hn h f c
  exact ⟨N', f', c', dz_sound (H := H) s' k' z r⟩
theorem Fin.deep {d d' : D} (z : Dz M L d d') (hn : L.Nodup) (h : ∀ a, a ∈ L → (∃ ds, M a = some (.lst ds)) ∧ M0 a = none) (s : Sub M' (mdelL M L)) (q : Q d' M') : Fin K M0 Q d M := ⟨_, _, (cv_deep z hn h).trans (cv_sub s), q⟩
end
end DL
namespace DL
open PySem PySem.Spec PyProof.Rows L2
theorem length_rng {lo : Int} {n : Nat} : (rng lo n).length = n := by simp [rng]
theorem rng_get {lo : Int} {n i : Nat} {d : D} (h : (rng lo n)[i]? = some d) : i < n ∧ d = .int (lo + (i : Int)) := by
  unfold rng at h
  rw [List.getElem?_map] at h
  obtain ⟨j, h1, h2⟩ := Option.map_eq_some_iff.mp h
  rw [List.getElem?_range (by
    by_cases q : i < n
    · exact q
    · rw [List.getElem?_eq_none (by simp; omega)] at h1; cases h1)] at h1
  cases h1
  refine ⟨?_, h2.symm⟩
  by_cases q : i < n
  · exact q
  · rw [List.getElem?_eq_none (by simp; omega)] at h; cases h
theorem length_zipD {ds es : List D} : (zipD ds es).length = min ds.length es.length := by simp [zipD]
theorem dzs_same {M : Mp} {L : List Addr} : ∀ ds : List D, Dzs M L ds ds
  | [] => .nil
  | d :: r => .cons (.same d) (dzs_same r)
end DL
namespace DL
open PySem PySem.Spec PyProof.Rows L2
section
variable {M : Mp} {G : Gm} {x : aE} {g : aG} {t : aT} {ds : List D} {QA : List D → Mp → Prop}
/-- a comprehension that only picks -/
theorem go_lcF (p : D → Bool) (h : ∀ (i : Nat) d (KY : D → Mp → Prop) (KN : Mp → Prop), ds[i]? = some d → (p d = true → KY d M) → (p d = false → KN M) → g d G M fun G' M1 => t G' M1 fun b M2 => if b = true then x G' M2 KY else KN M2)
    (q : QA (ds.filter p) M) : lcGo g t x G ds [] M QA := go_lcP p (fun d => d) h (by rw [List.map_id']; exact q)
/-- a pick from a range -/
theorem go_lcR {n : Nat} (P : Int → Prop) (h : ∀ (i : Int) (KY : D → Mp → Prop) (KN : Mp → Prop), 0 ≤ i → i < n → (P i → KY (.int i) M) → (¬ P i → KN M) → g (.int i) G M fun G' M1 => t G' M1 fun b M2 => if b = true then x G' M2 KY else KN M2)
    (q : ∀ ns : List Int, (∀ i, i ∈ ns ↔ 0 ≤ i ∧ i < n ∧ P i) → ns.length ≤ n → QA (ns.map .int) M) : lcGo g t x G (rng 0 n) [] M QA := by
  refine go_lcI (fun i acc M' => M' = M ∧ ∃ ns : List Int, acc = ns.map .int ∧ ns.length ≤ i ∧ ∀ j, j ∈ ns ↔ 0 ≤ j ∧ j < i ∧ P j) ⟨rfl, [], rfl, by simp, fun j => ⟨fun h => by simp at h, fun h => by omega⟩⟩ (fun i d acc M' KY KN hd hI hY hN => ?_) (fun acc M' hI => ?_)
  · obtain ⟨rfl, ns, rfl, hl, hm⟩ := hI
    obtain ⟨hlt, rfl⟩ := rng_get hd
    refine h _ KY KN (by omega) (by omega) (fun hp => hY _ _ ⟨rfl, ns ++ [0 + (i : Int)], by simp, by simp; omega, fun j => ?_⟩) (fun hp => hN _ ⟨rfl, ns, rfl, by omega, fun j => ?_⟩)
    · rw [List.mem_append, hm, List.mem_singleton]
      constructor
      · rintro (⟨h1, h2, h3⟩ | rfl)
        · exact ⟨h1, by omega, h3⟩
        · exact ⟨by omega, by omega, hp⟩
      · rintro ⟨h1, h2, h3⟩
        by_cases q : j = 0 + (i : Int)
        · exact .inr q
        · exact .inl ⟨h1, by omega, h3⟩
    · rw [hm]
      constructor
      · rintro ⟨h1, h2, h3⟩; exact ⟨h1, by omega, h3⟩
      · rintro ⟨h1, h2, h3⟩
        by_cases q : j = 0 + (i : Int)
        · subst q; exact absurd h3 hp
        · exact ⟨h1, by omega, h3⟩
  · obtain ⟨rfl, ns, rfl, hl, hm⟩ := hI
    rw [length_rng] at hl hm
    exact q ns hm hl
end
end DL
namespace DL
open PySem PySem.Spec PyProof.Rows L2
section
variable {K : PySem.W.Frag} {M : Mp} {d : D} {Q : QD} {n t : String} {b : Bool} {ts : List D} {ns : List String}
theorem go_isi (hn : n ∈ tyNames) (ht : tyD M d = some t) (hb : tyIs t n = b) (q : Q (.bl b) M) : fIsi K [d, .ty n] M Q := by
  subst hb
  refine ⟨hn, ?_⟩
  split
  · cases ht
  · rw [ht]; exact q
theorem go_isiC {C : Addr} {gs : List (Str × D)} (hn : n ∈ tyNames) (ho : ObT K C) (q : Q (.bl false) M) : fIsi K [.obj C gs, .ty n] M Q := ⟨hn, ho, q⟩
theorem go_isiT (h0 : tysOf ts = some ns) (hn : (ns.all fun n => tyNames.contains n) = true) (ht : tyD M d = some t) (hb : (ns.any fun n => tyIs t n) = b) (q : Q (.bl b) M) : fIsiT K [d, .tup ts] M Q := by
  subst hb
  unfold fIsiT
  simp only [h0]
  refine ⟨hn, ?_⟩
  split
  · cases ht
  · rw [ht]; exact q
end
/-- a promise that is never used -/
theorem ok_never {P : Program} {w : World} {K : PySem.W.Frag} {mg : Str → Option Value} {base : Heap} {CX : CXT} {k : Nat} {f : Addr} {fd : FuncData} {ps : List Str} {n : Nat} {sp : aSp} (h : ∀ ds M Q, ¬ sp ds M Q) : FnOk P w K mg base CX k f fd ps (lift K n sp) :=
  ⟨fun _ _ _ _ ⟨_, _, _, _, _, _, _, z, _⟩ => (h _ _ _ z).elim, fun _ _ _ _ _ _ _ _ _ _ _ _ _ ⟨_, _, _, _, _, _, _, z, _⟩ => (h _ _ _ z).elim⟩
end DL
namespace DL
open PySem PySem.Spec PyProof.Rows L2
theorem go_isB {M : Mp} {d : D} {Q : QD} {b : Bool} (h : isNon d = b) (q : Q (.bl b) M) : fIs d .non M Q := by subst h; exact q
theorem go_isnotB {M : Mp} {d : D} {Q : QD} {b : Bool} (h : isNon d = b) (q : Q (.bl (!b)) M) : fIsNot d .non M Q := by subst h; exact q
end DL
namespace DL
open PySem PySem.Spec PyProof.Rows L2
theorem go_eqS {M : Mp} {i j : Str} {Q : QD} (h : PyData.strOk i = true) (h2 : PyData.strOk j = true) (q : Q (.bl (i == j)) M) : fEq (.str i) (.str j) M Q := ⟨h, h2, q⟩
end DL
namespace DL
open PySem PySem.Spec PyProof.Rows L2
theorem truD_ref {M : Mp} {a : Addr} {ds : List D} (h : M a = some (.lst ds)) : truD M (.ref a) = some (!ds.isEmpty) := by simp only [truD, h]
end DL
namespace DL
open PySem PySem.Spec PyProof.Rows L2
inductive Dzg (M : Mp) (L : List Addr) : Gm → Gm → Prop
  | nil : Dzg M L [] []
  | non {G G' : Gm} : Dzg M L G G' → Dzg M L (none :: G) (none :: G')
  | drop {d : D} {G G' : Gm} : Dzg M L G G' → Dzg M L (some d :: G) (none :: G')
  | cons {d e : D} {G G' : Gm} : Dz M L d e → Dzg M L G G' → Dzg M L (some d :: G) (some e :: G')
theorem Dzg.len {M : Mp} {L : List Addr} : ∀ {G G' : Gm}, Dzg M L G G' → G.length = G'.length
  | _, _, .nil => rfl
  | _, _, .non h => by simp [h.len]
  | _, _, .drop h => by simp [h.len]
  | _, _, .cons _ h => by simp [h.len]
theorem Dzg.get {M : Mp} {L : List Addr} : ∀ {G G' : Gm} {i : Nat} {e : D}, Dzg M L G G' → G'[i]? = some (some e) → ∃ d, G[i]? = some (some d) ∧ Dz M L d e
  | _, _, _, _, .nil, h => by simp at h
  | _, _, 0, _, .non _, h => by simp at h
  | _, _, 0, _, .drop _, h => by simp at h
  | _, _, 0, _, .cons z _, h => by simp at h; subst h; exact ⟨_, rfl, z⟩
  | _, _, i + 1, _, .non z, h => by simp at h; simpa using z.get h
  | _, _, i + 1, _, .drop z, h => by simp at h; simpa using z.get h
  | _, _, i + 1, _, .cons _ z, h => by simp at h; simpa using z.get h
theorem Dzg.same {M : Mp} {L : List Addr} : ∀ G : Gm, Dzg M L G G
  | [] => .nil
  | none :: G => .non (Dzg.same G)
  | some d :: G => .cons (.same d) (Dzg.same G)
/-- lists of ours stand still from now on, wherever they are held -/
theorem Cvt.freeze {m0 M M' : Mp} {G G' : Gm} {L : List Addr} (hn : L.Nodup) (h : ∀ a, a ∈ L → (∃ ds, M a = some (.lst ds)) ∧ m0 a = none) (hg : Dzg M L G G')
    (hM : ∀ x c, M' x = some c → x ∉ L ∧ (M x = some c ∨ ∃ ds es, M x = some (.lst ds) ∧ c = .lst es ∧ Dzs M L ds es)) : Cvt m0 G M G' M' := by
  intro K E N σ H e C
  subst e
  obtain ⟨N', f', c', s', k'⟩ := freezeL L hn h C.fr C.cm
  refine ⟨N', ⟨⟨f'.nn, fun a o h1 h2 => ?_, f'.new, f'.dom⟩, ⟨c'.sm, fun x c hx => ?_⟩, ?_⟩, s'⟩
  · obtain ⟨h3, h4⟩ := C.fr.keep a o h1 h2
    refine ⟨h3, ?_⟩
    cases q : M' a with
    | none => rfl
    | some c =>
      rcases (hM a c q).2 with h5 | ⟨_, _, h5, _⟩ <;> (rw [h4] at h5; cases h5)
  · obtain ⟨h1, h2⟩ := hM x c hx
    have hd : ∀ c0, M x = some c0 → mdelL M L x = some c0 := fun c0 e => by rw [mdelL_get, if_neg h1]; exact e
    rcases h2 with h2 | ⟨ds, es, h2, rfl, z⟩
    · exact c'.hm x c (hd _ h2)
    · obtain ⟨n1, _⟩ := c'.hm x _ (hd _ h2)
      obtain ⟨_, xs, h3, h4⟩ := C.cm.hm x _ h2
      exact ⟨n1, xs, h3, dzs_sound (H := H) s' k' z h4⟩
  · refine ⟨by rw [C.sl.1, hg.len], fun i d hi => ?_⟩
    obtain ⟨d0, h1, h2⟩ := hg.get hi
    obtain ⟨v, h3, h4⟩ := C.sl.2 i d0 h1
    exact ⟨v, h3, dz_sound (H := H) s' k' h2 h4⟩
end DL
namespace DL
open PySem PySem.Spec PyProof.Rows L2
theorem go_callN {n m nn : Nat} {sp : aSp} {gD : List D → List D → List D} {al a2 : aA} {G : Gm} {M : Mp} {Q : QD} (h : al G M fun ds M1 => a2 G M1 fun es M2 => ds.length = n ∧ es.length = m ∧ (gD ds es).length = nn ∧ sp (gD ds es) M2 Q) : aCallN n m nn sp gD al a2 G M Q := h
end DL

set_option Elab.async false
set_option linter.all false
set_option maxRecDepth 100000
namespace DL
open PySem PySem.Spec PyProof.Rows L2
/-! ### slices with a step -/
def stIx (n : Nat) (lo hi st : Option Int) : List Nat := sliceRange (sliceBounds lo hi st n).1 (sliceBounds lo hi st n).2.1 (sliceBounds lo hi st n).2.2
def pickL {t : Type} (xs : List t) (lo hi st : Option Int) : List t := (stIx xs.length lo hi st).filterMap (xs[·]?)
theorem pickL_mem {t : Type} {xs : List t} {lo hi st : Option Int} {x : t} (h : x ∈ pickL xs lo hi st) : x ∈ xs := by
  obtain ⟨i, _, h2⟩ := List.mem_filterMap.mp h
  exact List.mem_of_getElem? h2
theorem vals_pick {xs : List V} {us : List Value} (r : Vals xs us) : ∀ ix : List Nat, Vals (ix.filterMap (xs[·]?)) (ix.filterMap (us[·]?))
  | [] => .nil
  | i :: ix => by
    have ih := vals_pick r ix
    rw [List.filterMap_cons, List.filterMap_cons]
    by_cases h : i < xs.length
    · have e1 : xs[i]? = some (xs[i]'h) := List.getElem?_eq_getElem h
      obtain ⟨u, e2, r2⟩ := r.get e1
      simp only [e1, e2]
      exact .cons r2 ih
    · have e1 : xs[i]? = none := List.getElem?_eq_none (by omega)
      have e2 : us[i]? = none := List.getElem?_eq_none (by have := r.length; omega)
      simp only [e1, e2]
      exact ih
theorem rel_pick {K : PySem.W.Frag} {N : Hp} {xs : List V} {ds : List D} (r : RelL K N xs ds) : ∀ ix : List Nat, RelL K N (ix.filterMap (xs[·]?)) (ix.filterMap (ds[·]?))
  | [] => .nil
  | i :: ix => by
    have ih := rel_pick r ix
    rw [List.filterMap_cons, List.filterMap_cons]
    by_cases h : i < xs.length
    · have e1 : xs[i]? = some (xs[i]'h) := List.getElem?_eq_getElem h
      obtain ⟨u, e2, r2⟩ := r.get e1
      simp only [e1, e2]
      exact .cons r2 ih
    · have e1 : xs[i]? = none := List.getElem?_eq_none (by omega)
      have e2 : ds[i]? = none := List.getElem?_eq_none (by have := r.length; omega)
      simp only [e1, e2]
      exact ih
def tSl3 (K : PySem.W.Frag) (te : TE) (tl th ts : TO) : TE := fun σ H Q => te σ H fun x H1 => tl σ H1 fun l H2 => th σ H2 fun u H3 => ts σ H3 fun o H4 => ∃ a xs, x = .ref a ∧ SqL K H4 a xs ∧ o ≠ some 0 ∧ ∀ p, H4 p = none → Q (.ref p) (upd H4 p (.lst (pickL xs l u o)))
theorem pe_sl3 {X : Cx} {e st : Expr} {lo hi : Option Expr} {te : TE} {tl th ts : TO} {p3 pos : Pos} (he : PE X e te) (hl : PO X lo tl) (hu : PO X hi th) (hs : PO X (some st) ts) : PE X (.Subscript e (.Slice lo hi (some st) p3) pos) (tSl3 X.K te tl th ts) := by
  refine ⟨fun pins s σ H Q I h => ?_⟩
  refine Subscript_ (thn (he.run pins s σ H _ I h) fun v s1 ⟨x, H1, I1, r1, q1⟩ => ?_)
  refine wpAny_Slice (thn (hl.run pins s1 σ H1 _ I1 q1) fun vl s2 ⟨l, H2, I2, pl, q2⟩ => thn (hu.run pins s2 σ H2 _ I2 q2) fun vu s3 ⟨u, H3, I3, pu, q3⟩ => thn (hs.run pins s3 σ H3 _ I3 q3) fun vs s4 ⟨o, H4, I4, ps, q4⟩ => ?_)
  obtain ⟨a, xs, ex, hx, h0, q⟩ := q4
  subst ex
  obtain rfl : v = Value.ref a := r1
  have I5 : Inv X pins σ H4 { s4 with heap := s4.heap.push { cls := .type "slice", data := .fields #[vl, vu, vs] } } := I4.kept (t' := s4.toks) fun b ob q => Heap.get?_push_of_some _ q
  obtain ⟨its, r, ht, hz⟩ := I5.list hx
  have hlen := r.length
  have hzz : its.toArray.size ≤ sizeLine := by rw [List.size_toArray]; omega
  show wpAny (model X.prog X.w) X.A (subscriptTail e (.Slice lo hi (some st) p3) (.ref a) (.ref s4.heap.objs.size)) (EP X pins σ Q) X.xe { s4 with heap := s4.heap.push { cls := .type "slice", data := .fields #[vl, vu, vs] } }
  refine tail_any (ops := [.ref a, .ref s4.heap.objs.size]) ht.isList.typeIs (PySem.slot_list_getitem.lookup) ?_ (by with_unfolding_all rfl)
  refine wpAny_getItem_list_slice ht.isList (Heap.IsSliceOf.new _ vl vu vs) pl pu ps h0 ?_ hzz
  have ep : slicePick its.toArray l u o = (pickL its l u o).toArray := by
    unfold slicePick pickL stIx
    rw [List.size_toArray]
    simp only [List.getElem?_toArray]
  have rv : Vals (pickL xs l u o) (pickL its l u o) := by
    unfold pickL
    rw [hlen]
    exact vals_pick r _
  have hz2 := slicePick_size_le its.toArray l u o
  rw [ep, List.size_toArray] at hz2
  rw [ep]
  refine ⟨.ref _, _, I5.laid (t' := s4.toks) (o := .lst (pickL xs l u o)) (fun b ob q => Heap.get?_push_of_some _ q) (Nat.le_refl _) ?_, rfl, q _ (I5.hok.fresh (Nat.le_refl _))⟩
  exact ⟨by rw [rv.length]; exact Nat.le_trans hz2 hzz, _, 0, rv, Heap.get?_push_size _ rfl⟩
def kSl3 (Q : QD) (d : D) (lo hi st : Option Int) (M : Mp) : Prop := match itemsM M d with
  | some xs => isLM d = true ∧ st ≠ some 0 ∧ Q (.list (pickL xs lo hi st)) M
  | none => False
def aSl3 (x : aE) (l u s : aO) : aE := fun G M Q => x G M fun d M1 => l G M1 fun lo M2 => u G M2 fun hi M3 => s G M3 fun st M4 => kSl3 Q d lo hi st M4
section
variable {X : Cx} {K : PySem.W.Frag} {e st : Expr} {lo hi : Option Expr} {te : TE} {tl th ts : TO} {ae : aE} {al ah as : aO} {p3 pos : Pos}
theorem se_sl3 (h : SE K te ae) (h1 : SO K tl al) (h2 : SO K th ah) (h3 : SO K ts as) : SE K (tSl3 K te tl th ts) (aSl3 ae al ah as) := by
  intro E G M N σ H C Q Qc q k
  refine h E G M N σ H C _ _ q fun d v M1 N1 H1 q1 C1 s1 r1 => ?_
  refine h1 E G M1 N1 σ H1 C1 _ _ q1 fun lo M2 N2 H2 q2 C2 s2 => ?_
  refine h2 E G M2 N2 σ H2 C2 _ _ q2 fun hi M3 N3 H3 q3 C3 s3 => ?_
  refine h3 E G M3 N3 σ H3 C3 _ _ q3 fun st M4 N4 H4 q4 C4 s4 => ?_
  have r4 := ((r1.mono s2).mono s3).mono s4
  have k4 := k.from (s1.trans (s2.trans (s3.trans s4)))
  unfold kSl3 at q4
  split at q4
  · rename_i xs hx
    obtain ⟨p, vs, rfl, r5, h5⟩ := rel_itemsM C4.cm r4 hx
    rcases h5 with ⟨_, h5⟩ | ⟨e5, h5⟩
    · refine ⟨p, vs, rfl, h5, q4.2.1, fun q hq => k4.new C4 hq q4.2.2 fun N' s e => .list e ?_⟩
      unfold pickL
      rw [← r5.length]
      exact (rel_pick r5 _).mono s
    · rw [e5] at q4; cases q4.1
  · exact q4.elim
theorem de_slice3 (he : DE X e te ae) (hl : DO X lo tl al) (hu : DO X hi th ah) (hs : DO X (some st) ts as) : DE X (.Subscript e (.Slice lo hi (some st) p3) pos) (tSl3 X.K te tl th ts) (aSl3 ae al ah as) := ⟨pe_sl3 he.pe hl.po hu.po hs.po, se_sl3 he.se hl.so hu.so hs.so⟩
end
theorem go_sl3 {x : aE} {l u s : aO} {G : Gm} {M : Mp} {Q : QD} (h : x G M fun d M1 => l G M1 fun lo M2 => u G M2 fun hi M3 => s G M3 fun st M4 => kSl3 Q d lo hi st M4) : aSl3 x l u s G M Q := h
theorem go_ksl3 {d : D} {ds : List D} {lo hi st : Option Int} {M : Mp} {Q : QD} (h : itemsM M d = some ds) (h2 : isLM d = true) (h3 : st ≠ some 0) (q : Q (.list (pickL ds lo hi st)) M) : kSl3 Q d lo hi st M := by
  unfold kSl3
  rw [h]
  exact ⟨h2, h3, q⟩
theorem range_all {t : Type} : ∀ ds : List t, (List.range ds.length).filterMap (ds[·]?) = ds := fun ds => by
  apply List.ext_getElem?
  intro i
  have : (List.range ds.length).filterMap (ds[·]?) = ds := by
    induction ds with
    | nil => rfl
    | cons a r ih =>
      rw [List.length_cons, List.range_succ_eq_map, List.filterMap_cons]
      simp only [List.getElem?_cons_zero, List.filterMap_map]
      congr 1
  rw [this]
theorem pick_rev {t : Type} (ds : List t) : pickL ds none none (some (-1)) = ds.reverse := by
  unfold pickL stIx
  have hb := PySem.W.krv_bounds ds.length
  rw [hb]
  show (sliceRange ((ds.length : Int) - 1) (-1) (-1)).filterMap (ds[·]?) = _
  rw [PySem.W.krv_sliceRange, PySem.W.krv_range, List.filterMap_reverse, range_all]
end DL
namespace DL
open PySem PySem.Spec PyProof.Rows L2
/-! ### the keys of a dict that changes, as a list -/
def keyD : Key → D
  | .inl i => .int i
  | .inr x => .str x
theorem keyD_rel {K : PySem.W.Frag} {N : Hp} : ∀ k : Key, RelD K N (kV k) (keyD k)
  | .inl i => .int i
  | .inr x => .str x
theorem keysD_rel {K : PySem.W.Frag} {N : Hp} : ∀ {kvs : List (Key × V)} {gs : List (Key × D)}, RelF K N kvs gs → RelL K N (kvs.map fun kv => kV kv.1) (gs.map fun kv => keyD kv.1)
  | _, _, .nil => .nil
  | _, _, .cons (x := x) _ r => .cons (keyD_rel x) (keysD_rel r)
def fListD : VL := fun ds M Q => match ds with
  | [.ref a] => (match M a with | some (.dK gs) => Q (.list (gs.map fun kv => keyD kv.1)) M | _ => False)
  | _ => False
theorem sl_listD {K : PySem.W.Frag} : SL K rListD fListD := by
  intro E G M N σ H C xs ds rx Q Qc h k
  unfold fListD at h
  split at h
  · rename_i a
    obtain ⟨v, rfl, r⟩ := rel1 rx
    have e := rel_ref r
    subst e
    split at h
    · rename_i gs e
      obtain ⟨kvs, hd, rf⟩ := C.cm.dKs e
      unfold rListD
      exact ⟨a, kvs, rfl, hd, fun q hq => k.new C hq h fun N' s e => .list e ((keysD_rel rf).mono s)⟩
    · exact h.elim
  · exact h.elim
theorem go_listD {a : Addr} {gs : List (Key × D)} {M : Mp} {Q : QD} (h : M a = some (.dK gs)) (q : Q (.list (gs.map fun kv => keyD kv.1)) M) : fListD [.ref a] M Q := by
  unfold fListD
  simp only [h]
  exact q
/-! ### dicts that only tell what was seen -/
def dSeen {k : Type} (F : List k) : List (k × D) := F.map fun q => (q, .bl true)
theorem valD_dSeen {k : Type} [DecidableEq k] (q : k) : ∀ F : List k, (valD (dSeen F) q).isSome = decide (q ∈ F)
  | [] => by simp [dSeen, valD]
  | p :: F => by
    have ih := valD_dSeen q F
    unfold dSeen valD at *
    rw [List.map_cons, List.find?_cons]
    by_cases h : p = q
    · subst h; simp
    · simp only [h, decide_false]
      rw [ih]
      simp [Ne.symm h]
theorem putD_new {k : Type} [DecidableEq k] {q : k} {F : List k} (h : q ∉ F) : putD (dSeen F) q (.bl true) = dSeen (F ++ [q]) := by
  unfold putD
  rw [if_neg]
  · simp [dSeen]
  · intro e
    obtain ⟨kv, h1, h2⟩ := List.any_eq_true.mp e
    obtain ⟨p, hp, rfl⟩ := List.mem_map.mp h1
    have := of_decide_eq_true h2
    subst this
    exact h hp
theorem putD_old {k : Type} [DecidableEq k] {q : k} {F : List k} (h : q ∈ F) : putD (dSeen F) q (.bl true) = dSeen F := by
  unfold putD
  have e : ((dSeen F).any fun kv => decide (kv.1 = q)) = true := List.any_eq_true.mpr ⟨(q, .bl true), List.mem_map.mpr ⟨q, h, rfl⟩, by simp⟩
  rw [if_pos e]
  unfold dSeen
  rw [List.map_map]
  apply List.map_congr_left
  intro p hp
  simp only [Function.comp]
  split <;> rfl
theorem putD_seen' {k : Type} [DecidableEq k] (q : k) (F : List k) : ∃ F', putD (dSeen F) q (.bl true) = dSeen F' ∧ (∀ p, p ∈ F' ↔ p ∈ F ∨ p = q) ∧ F'.length ≤ F.length + 1 := by
  by_cases h : q ∈ F
  · exact ⟨F, putD_old h, fun p => ⟨.inl, fun z => z.elim (fun y => y) (fun e => e ▸ h)⟩, by omega⟩
  · exact ⟨F ++ [q], putD_new h, fun p => by simp, by simp⟩
theorem keys_dSeen (F : List Int) : (dSeen (F.map Sum.inl : List Key)).map (fun kv => keyD kv.1) = F.map D.int := by
  unfold dSeen
  rw [List.map_map, List.map_map]
  rfl
/-! ### more forms -/
theorem go_extend {a : Addr} {xs ys : List D} {M : Mp} {Q : QD} (h : M a = some (.lst xs)) (h2 : xs.length + ys.length ≤ 1000000) (q : Q .non (mupd M a (.lst (xs ++ ys)))) : fExtend (.ref a) [.list ys] M Q := by
  unfold fExtend
  simp only [h]
  exact ⟨h2, q⟩
def kEnum (QA : List D → Mp → Prop) (ds : List D) (M : Mp) : Prop := match ds with
  | [d] => isL d = true ∧ (match items d with | some xs => QA (enumD xs) M | _ => False)
  | _ => False
theorem go_enum {al : aA} {G : Gm} {M : Mp} {QA : List D → Mp → Prop} (h : al G M (kEnum QA)) : aiEnum al G M QA := h
theorem go_kenum {d : D} {ds : List D} {M : Mp} {QA : List D → Mp → Prop} (h : items d = some ds) (h0 : isL d = true) (q : QA (enumD ds) M) : kEnum QA [d] M := by
  unfold kEnum
  simp only [h]
  exact ⟨h0, q⟩
theorem length_enumD {ds : List D} : (enumD ds).length = ds.length := by simp [enumD]
theorem eqOks_ints : ∀ (n : Nat) (cs : List Int), eqOks n (cs.map D.int) = true
  | _, [] => by simp [eqOks]
  | n, c :: cs => by
    simp only [List.map_cons, eqOks, Bool.and_eq_true]
    exact ⟨by simp [eqOk], eqOks_ints n cs⟩
end DL
namespace DL
open PySem PySem.Spec PyProof.Rows L2
/-! ### a, b = a list -/
def agUnl (n : Nat) (r : aGs) : aG := fun d G M Q => match d with
  | .list ds => ds.length = n ∧ r ds G M Q
  | _ => False
theorem dg_unl {X : Cx} {tgs : List Expr} {gs : TGs} {ags : aGs} {pos : Pos} {k n : Nat} (h : DGs X tgs gs ags) (hc : X.calm = true := by rfl) (hn : (assignEach tgs X.env).length = n := by rfl) (hst : (assignEach tgs X.env).findIdx? (·.1) = none := by rfl) :
    DG X (.Tuple tgs k pos) (gUnl X.K n gs) (agUnl n ags) := ⟨pg_unl hc h.pg hn hst, by
  intro E G M N σ H C v d r Q Qc q k
  unfold agUnl at q
  split at q
  · cases r with | list h1 r1 =>
    exact ⟨_, _, rfl, C.cm.sm.seq (.inl (.inl h1)), by rw [r1.length]; exact q.1, h.sg E G M N σ H C _ _ r1 Q Qc q.2 k⟩
  · exact q.elim⟩
theorem go_unl {n : Nat} {gs : aGs} {ds : List D} {G : Gm} {M : Mp} {QG : Gm → Mp → Prop} (e : ds.length = n) (h : gs ds G M QG) : agUnl n gs (.list ds) G M QG := ⟨e, h⟩
end DL

set_option Elab.async false
set_option linter.all false
set_option maxRecDepth 100000
namespace DL
open PySem PySem.Spec PyProof.Rows L2
/-! ### a list many times, as a list that may change -/
section
variable {X : Cx} {K : PySem.W.Frag} {a b : Expr} {ta tb : TE} {aa ab : aE} {pos : Pos}
def fMulM : V2 := fun d e M Q => match d, e with
  | .list xs, .int k => 0 ≤ k ∧ k ≤ 1000000 ∧ xs.length * k.toNat ≤ 1000000 ∧ ∀ p, M p = none → Q (.ref p) (mupd M p (.lst (List.replicate k.toNat xs).flatten))
  | _, _ => False
theorem s2_mulM : S2 K rMulA fMulM := by
  intro E G M N σ H C x y d e rx ry Q Qc h k
  unfold fMulM at h
  split at h
  · cases rx with | list h1 r1 => cases ry with | int z =>
    obtain ⟨z0, z1, z2, z3⟩ := h
    refine .inr ⟨_, _, _, rfl, rfl, C.cm.sm _ _ h1, by omega, by omega, ?_, fun p hp => ?_⟩
    · rw [r1.length]; exact big_le z2
    · exact k.newM C hp (hasL upd_same (r1.rep _)) (z3 p (C.cm.noneM hp))
  · exact h.elim
theorem de_mulM (ha : DE X a ta aa) (hb : DE X b tb ab) : DE X (.BinOp a .Mult b pos) (tOp rMulA ta tb) (aBin fMulM aa ab) := ⟨pe_op (OpR.or op_mul op_rep) ha.pe hb.pe, se_op s2_mulM ha.se hb.se⟩
theorem go_mulM {M : Mp} {Q : QD} {ds : List D} {k : Int} (h0 : 0 ≤ k) (h1 : k ≤ 1000000) (h2 : ds.length * k.toNat ≤ 1000000) (q : ∀ p, M p = none → Q (.ref p) (mupd M p (.lst (List.replicate k.toNat ds).flatten))) : fMulM (.list ds) (.int k) M Q := ⟨h0, h1, h2, q⟩
end
/-! ### a value equals itself -/
theorem eqv_self {d : D} {n : Nat} (h : eqOk n d = true) : eqv d d = true := PySem.SeqAt.eqv_refl _ (shaped_of n d h).1
theorem go_neSame {M : Mp} {d : D} {Q : QD} (hs : snap M d = d) (h : eqOk 9 d = true) (q : Q (.bl false) M) : fNe d d M Q := by
  refine ⟨by rw [hs]; exact h, by rw [hs]; exact h, ?_⟩
  rw [hs, eqv_self h]
  exact q
theorem go_eqSame {M : Mp} {d : D} {Q : QD} (hs : snap M d = d) (h : eqOk 9 d = true) (q : Q (.bl true) M) : fEq d d M Q := by
  refine ⟨by rw [hs]; exact h, by rw [hs]; exact h, ?_⟩
  rw [hs, eqv_self h]
  exact q
end DL

set_option Elab.async false
set_option linter.all false
set_option maxRecDepth 100000
namespace DL
open PySem PySem.Spec PyProof.Rows L2
/-! ### a new dict is locked for ever -/
def tFrz (t : TE) : TE := fun σ H Q => t σ H fun v H' => ∃ d u, v = .ref d ∧ H' d = some u ∧ Mut (some u) ∧ ∀ od, Q v (upd H' d (.frz od u))
theorem pe_frz {X : Cx} {e : Expr} {t : TE} (h : PE X e t) : PE X e (tFrz t) := by
  refine ⟨fun pins s σ H Q I hw => ?_⟩
  refine thn (h.run pins s σ H _ I hw) fun v s1 ⟨x, H1, I2, r, d, u, e1, hd, mu, q⟩ => ?_
  obtain ⟨od, I3⟩ := I2.lock hd mu
  exact ⟨x, _, I3, r, q od⟩
section
variable {K : PySem.W.Frag} {E : En} {G : Gm} {M : Mp} {N H : Hp} {σ : L2.St}
/-- a thing that nobody knows may be anything -/
theorem CC.put {a : Addr} {o : HO} (c : CC K E G M N σ H) (hM : M a = none) (hN : N a = none) (h0 : E.H a = none) : CC K E G M N σ (upd H a o) where
  fr := ⟨c.fr.nn, fun b u e m => by
    obtain ⟨z1, z2⟩ := c.fr.keep b u e m
    exact ⟨by rw [upd_ne (ne_of_none e h0)]; exact z1, z2⟩, c.fr.new, fun b u e => by
    obtain ⟨o', z⟩ := c.fr.dom b u e
    exact ⟨o', by rw [upd_ne (ne_of_none e h0)]; exact z⟩⟩
  cm := ⟨fun b u e => by rw [upd_ne (ne_of_none e hN)]; exact c.cm.sm _ _ e, fun b x e => by
    obtain ⟨z1, z2⟩ := c.cm.hm b x e
    have qn : b ≠ a := fun z => by subst z; rw [hM] at e; cases e
    exact ⟨z1, z2.mono (Same.refl _) fun o e => by rw [upd_ne qn]; exact e⟩⟩
  sl := c.sl
theorem mdel_none {a : Addr} (h : M a = none) : mdel M a = M := by
  funext b
  unfold mdel
  split
  · rename_i e; subst e; exact h.symm
  · rfl
theorem CC.frz {a : Addr} {o : HO} (c : CC K E G M N σ H) (hM : M a = none) (hN : N a = none) (h0 : E.H a = none) : CC K E G M (upd N a o) σ (upd H a o) := by
  have := (c.put (o := o) hM hN h0).freeze hN upd_same h0
  rwa [mdel_none hM] at this
theorem CC.h0 {a : Addr} (c : CC K E G M N σ H) (h : H a = none) : E.H a = none := by
  cases w : E.H a with
  | none => rfl
  | some o =>
    obtain ⟨o', e'⟩ := c.fr.dom a o w
    rw [e'] at h; cases h
end
/-! ### {} that stands -/
def aDNil : aE := fun _ M Q => Q (.dK []) M
theorem de_dnil {X : Cx} {pos : Pos} : DE X (.Dict [] [] pos) (tFrz tDNewK) aDNil := ⟨pe_frz pe_dnewK, by
  intro E G M N σ H C Q Qc q k p hp
  refine ⟨p, _, rfl, upd_same, True.intro, fun od => ?_⟩
  obtain ⟨hN, hM⟩ := C.cm.none hp
  have C2 := C.frz (o := .frz od (.dK [])) hM hN (C.h0 hp)
  rw [show upd (upd H p (.dK [])) p (.frz od (.dK [])) = upd H p (.frz od (.dK [])) by funext b; unfold upd; split <;> rfl]
  exact k _ _ _ _ _ q C2 (same_new hN) (.dK upd_same .nil)⟩
/-! ### dict comprehensions -/
theorem length_putD {k : Type} [DecidableEq k] (gs : List (k × D)) (x : k) (d : D) : (putD gs x d).length ≤ gs.length + 1 := by
  unfold putD
  split
  · rw [List.length_map]; omega
  · simp
def dcGo (g : aG) (t : aT) (kx vx : aE) (G : Gm) : List D → List (Key × D) → Mp → (List (Key × D) → Mp → Prop) → Prop
  | [], acc, M, Q => Q acc M
  | d :: ds, acc, M, Q => g d G M fun G' M1 => t G' M1 fun b M2 => if b = true then kx G' M2 fun y M3 => vx G' M3 fun z M4 => (match keyOf y with | some k => dcGo g t kx vx G ds (putD acc k z) M4 Q | none => False) else dcGo g t kx vx G ds acc M2 Q
def aDc (src : aA) (g : aG) (t : aT) (kx vx : aE) (vs : List Nat) : aE := fun G M Q => src G M fun ds M1 => ds.length ≤ 1000000 ∧ dcGo g t kx vx (wipeG G vs) ds [] M1 fun acc M2 => Q (.dK acc) M2
theorem RelF.empty {K : PySem.W.Frag} {N : Hp} {k : Type} : RelF K N ([] : List (k × V)) ([] : List (k × D)) := .nil
section
variable {X : Cx} {K : PySem.W.Frag}
theorem dc_gen {wi : TI} {awi : aA} {g : TG} {ag : aG} {tt : TT} {at' : aT} {tk tv : TE} {ak av : aE} {vs : List Nat} (hi : SI K wi awi) (hg : SG K g ag) (ho : OwnM vs g) (ht : ST K tt at') (hk : SE K tk ak) (he : SE K tv av)
    {E : En} {G : Gm} {M : Mp} {N H : Hp} {σ : L2.St} (C : CC K E G M N σ H) {Qa : List (Key × D) → Mp → Prop} {Qc : VK} (q : awi G M fun ds M1 => ds.length ≤ 1000000 ∧ dcGo ag at' ak av (wipeG G vs) ds [] M1 Qa)
    (k : ∀ p acc accV M' N' H', Qa acc M' → CC K E G M' N' σ H' → Same N N' → H' p = some (.dK accV) → M' p = none → N' p = none → E.H p = none → RelF K N' accV acc → Qc (.ref p) H') : tDc wi g tt tk tv vs σ H Qc := by
  refine hi E G M N σ H C _ _ q fun ds M1 N1 H1 J h1 C1 s1 dr => ?_
  intro p hp
  obtain ⟨hN, hM⟩ := C1.cm.none hp
  have h0 : E.H p = none := C1.h0 hp
  have first : Fr M1 N1 H1 M1 N1 (upd H1 p (.dK [])) := ⟨Same.refl _, fun a u e m => ⟨by rw [upd_ne (ne_of_none e hp)]; exact e, m⟩, fun a u e n => n, fun a u e => ⟨u, by rw [upd_ne (ne_of_none e hp)]; exact e⟩⟩
  have cm1 : CM K M1 N1 (upd H1 p (.dK [])) := ⟨fun a u e => by rw [upd_ne (ne_of_none e hN)]; exact C1.cm.sm _ _ e, fun a c e => by
    obtain ⟨x1, x2⟩ := C1.cm.hm a c e
    exact ⟨x1, x2.mono (Same.refl _) fun o e => by rw [upd_ne (ne_of_none e hp)]; exact e⟩⟩
  refine ⟨fun i m H => ∃ M N acc accV, Fr M1 N1 H1 M N H ∧ CM K M N H ∧ H p = some (.dK accV) ∧ M p = none ∧ N p = none ∧ RelF K N accV acc ∧ acc.length ≤ i ∧ m = ds.length - i ∧ dcGo ag at' ak av (wipeG G vs) (ds.drop i) acc M Qa,
    ⟨_, M1, N1, [], [], first, cm1, upd_same, hM, hN, .nil, Nat.le_refl _, rfl, h1.2⟩, ?_⟩
  rintro i m H ⟨M, N, acc, accV, fr, cm, hH, hMp, hNp, ra, hai, rfl, hl⟩
  have C0 : CC K ⟨M, N, H⟩ (wipeG G vs) M N (wipe σ vs) H := ⟨.refl, cm, ((C1.sl.mono fr.nn).wipe vs)⟩
  obtain ⟨d1, d2⟩ := dr _ _ M N _ H C0 fr.nn i
  by_cases hlt : ds.length ≤ i
  · rw [List.drop_eq_nil_of_le hlt] at hl
    refine .inl ⟨d1 hlt, k p acc accV M N H hl ⟨C1.fr.trans fr, cm, C1.sl.mono fr.nn⟩ (s1.trans fr.nn) hH hMp hNp h0 ra⟩
  · have hlt : i < ds.length := by omega
    rw [List.drop_eq_getElem_cons hlt] at hl
    obtain ⟨g1, g2⟩ := d2 ds[i] (List.getElem?_eq_getElem hlt)
    refine .inr ⟨g1, fun H' => ∃ M N acc accV, Fr M1 N1 H1 M N H' ∧ CM K M N H' ∧ H' p = some (.dK accV) ∧ M p = none ∧ N p = none ∧ RelF K N accV acc ∧ acc.length ≤ i + 1 ∧ dcGo ag at' ak av (wipeG G vs) (ds.drop (i + 1)) acc M Qa,
      fun H' ⟨M, N, acc, accV, x1, x2, x3, x4, x5, x6, x7, x8⟩ => ⟨ds.length - (i + 1), by omega, M, N, acc, accV, x1, x2, x3, x4, x5, x6, x7, rfl, x8⟩, fun x H' hy => ?_⟩
    obtain ⟨N2, s2, f2, c2, r2⟩ := g2 x H' hy
    have go : g x (wipe σ vs) H' fun σ2 H2 => tt σ2 H2 fun b H3 => if b = true then tk σ2 H3 fun y H4 => tv σ2 H4 fun z H5 => ∃ kvs k, y = kV k ∧ H5 p = some (.dK kvs) ∧ kvs.length < sizeLine ∧
        (∃ M N acc' accV, Fr M1 N1 H1 M N (upd H5 p (.dK (putK kvs k z))) ∧ CM K M N (upd H5 p (.dK (putK kvs k z))) ∧ (upd H5 p (.dK (putK kvs k z))) p = some (.dK accV) ∧ M p = none ∧ N p = none ∧ RelF K N accV acc' ∧ acc'.length ≤ i + 1 ∧ dcGo ag at' ak av (wipeG G vs) (ds.drop (i + 1)) acc' M Qa)
        else ∃ M N acc accV, Fr M1 N1 H1 M N H3 ∧ CM K M N H3 ∧ H3 p = some (.dK accV) ∧ M p = none ∧ N p = none ∧ RelF K N accV acc ∧ acc.length ≤ i + 1 ∧ dcGo ag at' ak av (wipeG G vs) (ds.drop (i + 1)) acc M Qa := by
      refine hg _ _ M N2 _ H' (C0.step f2 c2) x _ r2 _ _ hl fun G3 M3 N3 σ3 H3 h3 C3 s3 => ?_
      refine ht _ _ M3 N3 σ3 H3 C3 _ _ h3 fun b M4 N4 H4 h4 C4 s4 => ?_
      cases b with
      | false =>
        rw [if_neg Bool.false_ne_true] at h4 ⊢
        obtain ⟨y1, y2⟩ := C4.fr.keep p _ hH hMp
        exact ⟨M4, N4, acc, accV, fr.trans C4.fr, C4.cm, y1, y2, C4.fr.new p _ hH hNp, ra.mono C4.fr.nn, by omega, h4⟩
      | true =>
        rw [if_pos rfl] at h4 ⊢
        refine hk _ _ M4 N4 σ3 H4 C4 _ _ h4 fun dk kk M6 N6 H6 h6 C6 s6 r6 => ?_
        refine he _ _ M6 N6 σ3 H6 C6 _ _ h6 fun dy y M5 N5 H5 h5 C5 s5 r5 => ?_
        split at h5
        · rename_i ky eky
          obtain ⟨y1, y2⟩ := C5.fr.keep p _ hH hMp
          have y3 := C5.fr.new p _ hH hNp
          have ra5 := ra.mono C5.fr.nn
          refine ⟨accV, ky, key_rel r6 eky, y1, by rw [ra.length]; exact big_lt (by omega), M5, N5, putD acc ky dy, putK accV ky y, ?_, ?_, upd_same, y2, y3, ra5.put ky r5, by have := length_putD acc ky dy; omega, h5⟩
          · have f5 := fr.trans C5.fr
            exact ⟨f5.nn, fun a u e m => by
              obtain ⟨z1, z2⟩ := f5.keep a u e m
              exact ⟨by rw [upd_ne (ne_of_none e hp)]; exact z1, z2⟩, f5.new, fun a u e => by
              obtain ⟨o, z⟩ := f5.dom a u e
              exact ⟨o, by rw [upd_ne (ne_of_none e hp)]; exact z⟩⟩
          · exact ⟨fun a u e => by rw [upd_ne (ne_of_none e y3)]; exact C5.cm.sm _ _ e, fun a c e => by
              obtain ⟨z1, z2⟩ := C5.cm.hm a c e
              have qn : a ≠ p := fun z => by subst z; rw [y2] at e; cases e
              exact ⟨z1, z2.mono (Same.refl _) fun o e => by rw [upd_ne qn]; exact e⟩⟩
        · exact h5.elim
    refine ho.mono x _ H' _ _ (fun σ2 H2 ⟨e2, q2⟩ => ?_) (ho.own x _ H' _ go)
    exact ⟨by rw [e2, wipe_wipe], q2⟩
theorem se_dc {wi : TI} {awi : aA} {g : TG} {ag : aG} {tt : TT} {at' : aT} {tk tv : TE} {ak av : aE} {vs : List Nat} (hi : SI K wi awi) (hg : SG K g ag) (ho : OwnM vs g) (ht : ST K tt at') (hk : SE K tk ak) (he : SE K tv av) : SE K (tFrz (tDc wi g tt tk tv vs)) (aDc awi ag at' ak av vs) := by
  intro E G M N σ H C Q Qc q k
  refine dc_gen hi hg ho ht hk he C q fun p acc accV M' N' H' q' C' s' hH hM hN h0 r => ?_
  refine ⟨p, _, rfl, hH, True.intro, fun od => ?_⟩
  have C2 := C'.frz (o := .frz od (.dK accV)) hM hN h0
  exact k _ _ _ _ _ q' C2 (s'.trans (same_new hN)) (.dK upd_same (r.mono (same_new hN)))
variable {kx vx tg iter : Expr} {ifs : List Expr} {scope : Scope} {own : List (Str × Nat)} {pos : Pos} {wi : TI} {awi : aA}
/-- name = {..} on one line, the name a local -/
theorem ps_setDc {i : Nat} {y : Str} {py spos : Pos} {g : TG} {tt : TT} {tk tv : TE} (hc : X.calm = true) (hN : X.N.Nodup) (hy : X.N[i]? = some y) (hyl : X.env.scope.names.lookup y = some .local)
    (hsw : swapsWith (.DictComp kx vx [⟨tg, iter, ifs, 0⟩] scope pos) (some (.Name y py)) spos.line X.env = pure true) (hi : PI X tg iter wi) (ok : BlkOk X.N X.env.scope scope own)
    (hg : ∀ (s : Shared) (H : Hp) (C : Addr) (cl : List (Str × Addr)) (fp : List Addr), PG (X.blk s H scope (compEnvC scope cl C X.env) fp) tg g) (ht : ∀ (s : Shared) (H : Hp) (C : Addr) (cl : List (Str × Addr)) (fp : List Addr), PTs (X.blk s H scope (compEnvC scope cl C X.env) fp) ifs tt)
    (hk : ∀ (s : Shared) (H : Hp) (C : Addr) (cl : List (Str × Addr)) (fp : List Addr), PE (X.blk s H scope (compEnvC scope cl C X.env) fp) kx tk)
    (he : ∀ (s : Shared) (H : Hp) (C : Addr) (cl : List (Str × Addr)) (fp : List Addr), PE (X.blk s H scope (compEnvC scope cl C X.env) fp) vx tv) (hs : ∀ x, foldedSetIterable iter X.env x = pure x := by intro _; rfl) :
    PS X (.Assign [.Name y py] (.DictComp kx vx [⟨tg, iter, ifs, 0⟩] scope pos) spos) (tAsg (tFrz (tDc wi g tt tk tv (own.map (·.2)))) (gName i)) := by
  refine ⟨fun pins s σ H D I h => ?_⟩
  rw [exec_Assign_Name_used _ _ _ _ hsw]
  refine wpAny_bind (wpAny_standAt (wpAny_bind ?_))
  show wpAny _ X.A (do let _ ← comprehension (.DictComp kx vx [⟨tg, iter, ifs, 0⟩] scope pos) scope X.env (firstIterPos [⟨tg, iter, ifs, 0⟩] pos) newDict false (eval iter X.env) (some (assign (.Name y py) X.env))) _ _ s
  have h : tDc wi g tt tk tv (own.map (·.2)) σ H (fun v H' => ∃ d u, v = .ref d ∧ H' d = some u ∧ Mut (some u) ∧ ∀ od, gName i v σ (upd H' d (.frz od u)) D.nx) := h
  refine wpAny_bind (thn (dc_core (Qf := fun _ s' => SP X pins D .next s') hc hN I hi ok hg ht hk he hs h fun L C s' m H' I' q hn f => ?_) fun _ s' hq => wpAny_pure (wpAny_pure hq))
  obtain ⟨d, u, ed, hd, mu, q⟩ := q
  cases ed
  obtain ⟨od, I'⟩ := I'.lock hd mu
  have f' : FpOk X pins (upd H' L (.frz od u)) C := by
    obtain ⟨f0, f1, f2, f3, f4, f5⟩ := f
    exact ⟨by rw [upd_ne (fun z => by rw [z, hd] at f0; cases f0)]; exact f0, f1, f2, f3, f4, f5⟩
  show wpAny _ _ (assign (.Name y py) X.env (.ref L)) _ _ _
  refine wpAny_assign_Name (store_ok2 (v := V.ref L) I' hN hy (.inl hyl) rfl (fun s2 I2 ⟨a, sb, ha⟩ => ?_) (.inr hyl))
  obtain ⟨f0, f1, f2, f3, f4, f5⟩ := f'
  have haC : C ≠ a := by
    rcases ha with z | z
    · rw [z]; exact f1
    · exact fun e => f4 y a z e.symm
  refine ⟨m, hn.sameBut sb haC, fun h3 sb3 => ?_⟩
  exact ⟨_, _, I2.turned (t' := s2.toks) (fun b o hb e => (sb3.2 b hb).trans e) f0 f1 f3 f4 f5, q od⟩
theorem de_dc {g' : BV TG} {ag' : BV aG} {tt' : BV TT} {at'' : BV aT} {tk' : BV TE} {ak' : BV aE} {te' : BV TE} {ae' : BV aE} (hc : X.calm = true) (hN : X.N.Nodup) (hi : DI X tg iter wi awi) (ok : BlkOk X.N X.env.scope scope own)
    (hg : ∀ (s : Shared) (H : Hp) (C : Addr) (cl : List (Str × Addr)) (fp : List Addr), DG (X.blk s H scope (compEnvC scope cl C X.env) fp) tg (g' s H C cl fp) (ag' s H C cl fp)) (ht : ∀ (s : Shared) (H : Hp) (C : Addr) (cl : List (Str × Addr)) (fp : List Addr), DTs (X.blk s H scope (compEnvC scope cl C X.env) fp) ifs (tt' s H C cl fp) (at'' s H C cl fp))
    (hk : ∀ (s : Shared) (H : Hp) (C : Addr) (cl : List (Str × Addr)) (fp : List Addr), DE (X.blk s H scope (compEnvC scope cl C X.env) fp) kx (tk' s H C cl fp) (ak' s H C cl fp))
    (he : ∀ (s : Shared) (H : Hp) (C : Addr) (cl : List (Str × Addr)) (fp : List Addr), DE (X.blk s H scope (compEnvC scope cl C X.env) fp) vx (te' s H C cl fp) (ae' s H C cl fp)) (ho : OwnM (own.map (·.2)) (g' X.s_0 X.H_0 0 [] [])) (hs : ∀ x, foldedSetIterable iter X.env x = pure x := by intro _; rfl)
    (eg : ∀ s H C cl fp, g' s H C cl fp = g' X.s_0 X.H_0 0 [] [] := by intro _ _ _ _ _; rfl) (et : ∀ s H C cl fp, tt' s H C cl fp = tt' X.s_0 X.H_0 0 [] [] := by intro _ _ _ _ _; rfl) (ek : ∀ s H C cl fp, tk' s H C cl fp = tk' X.s_0 X.H_0 0 [] [] := by intro _ _ _ _ _; rfl) (ee : ∀ s H C cl fp, te' s H C cl fp = te' X.s_0 X.H_0 0 [] [] := by intro _ _ _ _ _; rfl) :
    DE X (.DictComp kx vx [⟨tg, iter, ifs, 0⟩] scope pos) (tFrz (tDc wi (g' X.s_0 X.H_0 0 [] []) (tt' X.s_0 X.H_0 0 [] []) (tk' X.s_0 X.H_0 0 [] []) (te' X.s_0 X.H_0 0 [] []) (own.map (·.2)))) (aDc awi (ag' X.s_0 X.H_0 0 [] []) (at'' X.s_0 X.H_0 0 [] []) (ak' X.s_0 X.H_0 0 [] []) (ae' X.s_0 X.H_0 0 [] []) (own.map (·.2))) :=
  ⟨pe_frz (pe_dc hc hN hi.pi ok (fun s H C cl fp => by rw [← eg s H C cl fp]; exact (hg s H C cl fp).pg) (fun s H C cl fp => by rw [← et s H C cl fp]; exact (ht s H C cl fp).pt) (fun s H C cl fp => by rw [← ek s H C cl fp]; exact (hk s H C cl fp).pe) (fun s H C cl fp => by rw [← ee s H C cl fp]; exact (he s H C cl fp).pe) hs), se_dc hi.si (hg X.s_0 X.H_0 0 [] []).sg ho (ht X.s_0 X.H_0 0 [] []).st (hk X.s_0 X.H_0 0 [] []).se (he X.s_0 X.H_0 0 [] []).se⟩
theorem ds_setDc {g' : BV TG} {ag' : BV aG} {tt' : BV TT} {at'' : BV aT} {tk' : BV TE} {ak' : BV aE} {te' : BV TE} {ae' : BV aE} {j : Nat} {y : Str} {py spos : Pos} (hc : X.calm = true) (hN : X.N.Nodup) (hy : X.N[j]? = some y) (hyl : X.env.scope.names.lookup y = some .local)
    (hsw : swapsWith (.DictComp kx vx [⟨tg, iter, ifs, 0⟩] scope pos) (some (.Name y py)) spos.line X.env = pure true) (hi : DI X tg iter wi awi) (ok : BlkOk X.N X.env.scope scope own)
    (hg : ∀ (s : Shared) (H : Hp) (C : Addr) (cl : List (Str × Addr)) (fp : List Addr), DG (X.blk s H scope (compEnvC scope cl C X.env) fp) tg (g' s H C cl fp) (ag' s H C cl fp)) (ht : ∀ (s : Shared) (H : Hp) (C : Addr) (cl : List (Str × Addr)) (fp : List Addr), DTs (X.blk s H scope (compEnvC scope cl C X.env) fp) ifs (tt' s H C cl fp) (at'' s H C cl fp))
    (hk : ∀ (s : Shared) (H : Hp) (C : Addr) (cl : List (Str × Addr)) (fp : List Addr), DE (X.blk s H scope (compEnvC scope cl C X.env) fp) kx (tk' s H C cl fp) (ak' s H C cl fp))
    (he : ∀ (s : Shared) (H : Hp) (C : Addr) (cl : List (Str × Addr)) (fp : List Addr), DE (X.blk s H scope (compEnvC scope cl C X.env) fp) vx (te' s H C cl fp) (ae' s H C cl fp)) (ho : OwnM (own.map (·.2)) (g' X.s_0 X.H_0 0 [] [])) (hs : ∀ x, foldedSetIterable iter X.env x = pure x := by intro _; rfl)
    (eg : ∀ s H C cl fp, g' s H C cl fp = g' X.s_0 X.H_0 0 [] [] := by intro _ _ _ _ _; rfl) (et : ∀ s H C cl fp, tt' s H C cl fp = tt' X.s_0 X.H_0 0 [] [] := by intro _ _ _ _ _; rfl) (ek : ∀ s H C cl fp, tk' s H C cl fp = tk' X.s_0 X.H_0 0 [] [] := by intro _ _ _ _ _; rfl) (ee : ∀ s H C cl fp, te' s H C cl fp = te' X.s_0 X.H_0 0 [] [] := by intro _ _ _ _ _; rfl) :
    DS X (.Assign [.Name y py] (.DictComp kx vx [⟨tg, iter, ifs, 0⟩] scope pos) spos) (tAsg (tFrz (tDc wi (g' X.s_0 X.H_0 0 [] []) (tt' X.s_0 X.H_0 0 [] []) (tk' X.s_0 X.H_0 0 [] []) (te' X.s_0 X.H_0 0 [] []) (own.map (·.2)))) (gName j)) (asAsg (aDc awi (ag' X.s_0 X.H_0 0 [] []) (at'' X.s_0 X.H_0 0 [] []) (ak' X.s_0 X.H_0 0 [] []) (ae' X.s_0 X.H_0 0 [] []) (own.map (·.2))) (agName j)) :=
  ⟨ps_setDc hc hN hy hyl hsw hi.pi ok (fun s H C cl fp => by rw [← eg s H C cl fp]; exact (hg s H C cl fp).pg) (fun s H C cl fp => by rw [← et s H C cl fp]; exact (ht s H C cl fp).pt) (fun s H C cl fp => by rw [← ek s H C cl fp]; exact (hk s H C cl fp).pe) (fun s H C cl fp => by rw [← ee s H C cl fp]; exact (he s H C cl fp).pe) hs, ss_asg (se_dc hi.si (hg X.s_0 X.H_0 0 [] []).sg ho (ht X.s_0 X.H_0 0 [] []).st (hk X.s_0 X.H_0 0 [] []).se (he X.s_0 X.H_0 0 [] []).se) sg_name⟩
theorem sw_trueD {gs : List Comprehension} {py : Pos} {y : Str} {l : Nat} {env : Env} (hk : env.scope.kind = .function) (hy : env.scope.names.lookup y = some .local) (hl : (py.line == pos.line) = true)
    (ha : (scope.names.any fun (n, k) => n == y && (k == .local || k == .cell)) = false) : swapsWith (.DictComp kx vx gs scope pos) (some (.Name y py)) l env = pure true := by
  have ky : env.kindOf y = some .local := hy
  have hb : env.blockKind = .function := by unfold Env.blockKind; rw [hk]; rfl
  unfold swapsWith
  simp only [hb, ky, ha, Expr.pos, hl]
  rfl
/-! ### over a locked dict: its keys -/
def aiKeys (x : aE) : aA := fun G M Q => x G M fun d M1 => match d with | .dK gs => Q (gs.map fun kv => keyD kv.1) M1 | _ => False
theorem drv_keys {N1 : Hp} {p : Addr} {ob : Obj} {kvs : List (Key × V)} {gs : List (Key × D)} (h : N1 p = some (.frz ob (.dK kvs))) (r : RelF K N1 kvs gs) : Drv K (Itk p ob kvs) (gs.map fun kv => keyD kv.1) N1 := fun E G M N σ H C s1 i => by
  have hs : H p = some (.frz ob (.dK kvs)) := C.cm.sm _ _ (s1 _ _ h)
  have hk := keysD_rel r
  have hl := r.length
  refine ⟨fun hi => ⟨hs, by rw [List.length_map] at hi; omega⟩, fun d hd => ?_⟩
  obtain ⟨x, hx, rx⟩ := hk.getR hd
  rw [List.getElem?_map] at hx
  obtain ⟨kv, hkv, rfl⟩ := Option.map_eq_some_iff.mp hx
  refine ⟨⟨hs, (List.getElem?_eq_some_iff.mp hkv).1⟩, fun v H' hv => ?_⟩
  obtain ⟨rfl, k', v', e, rfl⟩ := hv
  rw [hkv] at e
  cases e
  exact ⟨N, Same.refl _, .refl, C.cm, rx.mono s1⟩
theorem di_keys {l : Expr} {tl : TE} {al : aE} (hl : DE X l tl al) : DI X tg l (iKeys tl) (aiKeys al) := ⟨pi_keys hl.pe, by
  intro E G M N σ H C Q R q k
  refine hl.se E G M N σ H C _ _ q fun d v M1 N1 H1 h1 C1 s1 r1 => ?_
  split at h1
  · cases r1 with | dK h2 r2 =>
    exact ⟨_, _, rfl, .inl ⟨_, C1.cm.sm _ _ h2, k _ M1 N1 H1 _ h1 C1 s1 (drv_keys h2 r2)⟩⟩
  · exact h1.elim⟩
end
end DL

set_option Elab.async false
set_option linter.all false
set_option maxRecDepth 100000
namespace DL
open PySem PySem.Spec PyProof.Rows L2
/-! ### enumerate of a tuple -/
def IteT (K : PySem.W.Frag) (a : Addr) : It :=
  ⟨fun i H => ∃ (xs : List V) (x : V), SqT K H a xs ∧ xs[i]? = some x, fun i H v H' => ∃ T x, v = .ref T ∧ H T = none ∧ H' = upd H T (.tup [.int (i : Nat), x]) ∧ ∀ xs, SqT K H a xs → xs[i]? = some x, fun i H => ∃ xs : List V, SqT K H a xs ∧ xs.length ≤ i⟩
theorem enum_endT {prog : Program} {w : World} {A : Around} {E : Value → Shared → Prop} {s : Shared} {e it t : Addr} {i : Nat} {c : Int} {items : Array Value} {old : Value} {Q : Option Value → Shared → Prop} (hh : A.handled = none)
    (he : IsEnum s.heap e it c old) (hit : s.heap.IsTupleIter it t i) (ht : s.heap.IsTuple t items) (hx : items[i]? = none)
    (hQ : ∀ h', Heap.ExtBut it s.heap h' → Q none { s with heap := h' }) : wpAny (model prog w) A (pyNext (.ref e)) Q E s := by
  have hT : s.TypeIs (.ref e) "enumerate" := ⟨_, he, rfl⟩
  unfold pyNext
  refine wpAny_bind (wpAny_attempt (wpAny_callSpecial?_slot (name := Str.ofString "__next__") hT F.slot_enumerate_next
    (wpAny_call_entry F.slot_enumerate_next hT F.entry_enumerate_next ?_ (F.args_enumerate_next_1 _))))
  show wpAny _ _ (field (.ref e) 2 >>= _) _ _ _
  refine wpAny_bind (wpAny_field he rfl (x := .ref it) rfl ?_)
  refine wpAny_bind (wpAny_nextOf_tuple_end (by exact hh) hit ht hx fun h' x he' hx' => ?_)
  obtain ⟨o, ho, hc⟩ := hx'
  refine wpAny_bind (wpAny_isInstance (T := "StopIteration") (b := true) ⟨o, ho, hc⟩ isSubtype_stop ?_)
  exact wpAny_pure (hQ _ he')
theorem turn_enumT {P : Program} {w : World} {K : PySem.W.Frag} {elts : List Expr} {kk : Nat} {tpos : Pos} (a e it : Addr) (hea : e ≠ a) (hia : a ≠ it) :
    Turn P w K (.Tuple elts kk tpos) (IteT K a) [e, it] e (fun i h => (∃ old, IsEnum h e it ((i : Nat) : Int) old) ∧ h.IsTupleIter it a i ∧ e ≠ it) where
  mem := by simp
  obj := fun i h st b hb => by
    obtain ⟨⟨old, he⟩, ⟨o, ho, hc, hd⟩, _⟩ := st
    have e' : b = e ∨ b = it := by simpa using hb
    rcases e' with z | z
    · rw [z]; exact ⟨_, he, fun v q => nomatch q⟩
    · rw [z]; exact ⟨o, ho, fun v q => by rw [hd] at q; cases q⟩
  keep := fun i h h' st k => let ⟨⟨old, he⟩, hi, hne⟩ := st; ⟨⟨old, k e (by simp) _ he⟩, hi.at fun o q => k it (by simp) o q, hne⟩
  item := by
    intro X hP hw hK hc i pins s σ H E I hf st hg
    subst hP hw hK
    obtain ⟨⟨old, he⟩, hit, hne⟩ := st
    obtain ⟨xs, x, hq, hx⟩ := hg
    obtain ⟨its, rv, p, hz⟩ := I.tuple hq
    obtain ⟨u, hu, ru⟩ := rv.get hx
    have hel : e < s.heap.objs.size := Heap.lt_size he
    have hil : it < s.heap.objs.size := by obtain ⟨_, q, _⟩ := hit; exact Heap.lt_size q
    have hlt : i < its.toArray.size := by
      have := (List.getElem?_eq_some_iff.mp hu).1
      simpa using this
    refine wpAny_pyNext_enum_itemD (Draws.tuple (A := X.A.in1) (I.ok.hd hc) it a hia its.toArray) he ⟨hit, p⟩ hlt hne (by simp [hne, hea]) fun y h' tk hy ho hit' hT hsz hk => ?_
    have hyu : y = u := by
      have h1 : its.toArray[i]? = some u := by simpa using hu
      exact Option.some.inj (hy.symm.trans h1)
    subst hyu
    refine ⟨_, rfl, wpAny_letOwnedTupleGo_enum (s := { s with heap := h', toks := tk + 1 }) ho fun h'' he' sb => ?_⟩
    have hT2 : h''.get? s.heap.objs.size = some { cls := .type "tuple", data := .seq #[.int i tk, y] } := (sb.2 _ (Nat.ne_of_gt hel)).trans hT
    have new : ObjOk X.prog X.w (upd H s.heap.objs.size (.tup [.int (i : Nat), x])) h'' s.heap.objs.size (.tup [.int (i : Nat), x]) :=
      ⟨by show 2 ≤ sizeLine; decide, [.int i tk, y], .cons ⟨_, rfl⟩ (.cons ru .nil), ⟨_, hT2, rfl, _, rfl⟩⟩
    have I1 : Inv X pins σ (upd H s.heap.objs.size (.tup [.int (i : Nat), x])) { s with heap := h'', toks := tk + 1 } :=
      I.turnedNew (ch := [e, it]) (fun b ob hb q => (sb.2 b (fun z => hb (by simp [z]))).trans (hk b ob (fun z => hb (by simp [z])) (fun z => hb (by simp [z])) q)) hf (Nat.le_refl _) new
    refine ⟨.ref s.heap.objs.size, _, I1, rfl, ⟨_, x, rfl, I.hok.fresh (Nat.le_refl _), rfl, fun ys hy => by rw [I.tuple_inj hy hq]; exact hx⟩, ⟨⟨y, ?_⟩, hit'.1.at fun o q => (sb.2 it (Ne.symm hne)).trans q, hne⟩, fun b hb => ?_⟩
    · have e1 : ((i + 1 : Nat) : Int) = (i : Int) + 1 := by omega
      rw [e1]; exact he'
    · have hb' : b < s.heap.objs.size := by
        have e' : b = e ∨ b = it := by simpa using hb
        rcases e' with z | z
        · rw [z]; exact hel
        · rw [z]; exact hil
      rw [upd_ne (Nat.ne_of_lt hb')]
      exact (hf b hb).1
  done := by
    intro X hP hw hK hc i pins s σ H E I hf st hg
    subst hP hw hK
    obtain ⟨⟨old, he⟩, hit, hne⟩ := st
    obtain ⟨xs, hq, hx⟩ := hg
    obtain ⟨its, rv, p, hz⟩ := I.tuple hq
    obtain ⟨f0, f1, f2, f3, f4, f5⟩ := hf it (by simp)
    have hl := rv.length
    exact enum_endT (I.ok.hd hc) he hit p (by simp; omega) fun h' eb => ⟨rfl, I.turned (t' := s.toks) (fun b o hb q => eb b o hb q) f0 f1 f3 f4 f5⟩
  self := fun A i s Q E st h => let ⟨⟨_, he⟩, _⟩ := st; wpAny_pyIter_enum he h
set_option maxHeartbeats 1000000 in
theorem meets_enumerate_newB1 {v : Value} {o : Obj} {H : Heap → Prop} (B : Begins v o H) :
    Meets (Builtin.«enumerate.__new__» ⟨[.type "enumerate", v], []⟩) (fun _ R s => H s.heap ∧
      R (.ok (.ret (.ref (s.heap.push o).objs.size))) { s with heap := (s.heap.push o).push { cls := .type "enumerate", data := .fields #[.none, .bool false, .ref s.heap.objs.size, rawInt 0, .none, .none] } }) :=
  .of_wp fun prog w A R s h => by
    obtain ⟨hp, g, d, tk, os⟩ := s; obtain ⟨h1, h⟩ := h
    have hsub := sub_enumerate
    have q1 : ∀ {A' : Around} {E : Value → Shared → Prop} {Q : Value → Shared → Prop}, Q (.ref hp.objs.size) ⟨hp.push o, g, d, tk, os⟩ → wpAny (model prog w) A' (pyIter v) Q E ⟨hp, g, d, tk, os⟩ :=
      fun q => B.iter prog w _ _ ⟨hp, g, d, tk, os⟩ _ h1 q
    wp_walk using q1
    refine wpAny_stack_any fun st => wpAny_pure ?_
    split
    · rename_i c _ _ _ _ _
      cases (c == Value.type "enumerate")
      · wp_walk using q1
        exact ⟨_, rfl, h⟩
      · wp_walk using q1
        exact ⟨_, rfl, h⟩
    · wp_walk using q1
      exact ⟨_, rfl, h⟩
theorem enum_begins1 {prog : Program} {w : World} {A : Around} {E : Value → Shared → Prop} {s : Shared} {v : Value} {o : Obj} {H : Heap → Prop} {Q : Value → Shared → Prop} (B : Begins v o H) (h1 : H s.heap)
    (h : ∀ h', IsEnum h' (s.heap.objs.size + 1) s.heap.objs.size 0 .none → h'.get? s.heap.objs.size = some o → h'.objs.size = s.heap.objs.size + 2 →
      (∀ b o, s.heap.get? b = some o → h'.get? b = some o) → Q (.ref (s.heap.objs.size + 1)) { s with heap := h' }) :
    wpAny (model prog w) A (call (.type "enumerate") [v]) Q E s := by
  refine callType_new F.called_enumerate (by decide) (F.typeCall_enumerate_1 _) (F.newCall_enumerate_1 _) (fun obj => F.args_object_init_2 obj _) F.entry_enumerate_new
    (meets_enumerate_newB1 B) ⟨h1, ?_⟩
  have hz : (s.heap.push o).objs.size = s.heap.objs.size + 1 := Heap.size_push ..
  show _ ∧ _
  rw [hz]
  have he : IsEnum ((s.heap.push o).push { cls := .type "enumerate", data := .fields #[.none, .bool false, .ref s.heap.objs.size, rawInt 0, .none, .none] }) (s.heap.objs.size + 1) s.heap.objs.size 0 .none := by
    have := Heap.get?_push_size (s.heap.push o) (o := { cls := .type "enumerate", data := .fields #[.none, .bool false, .ref s.heap.objs.size, rawInt 0, .none, .none] }) rfl
    rw [hz] at this; exact this
  refine ⟨⟨_, he, rfl⟩, h _ he (Heap.get?_push_of_some _ (Heap.get?_push_size _ B.free)) (by rw [Heap.size_push, hz]) fun b o x => Heap.get?_push_of_some _ (Heap.get?_push_of_some _ x)⟩
def iEnumT (K : PySem.W.Frag) (ta : TA) : TI := fun σ H R => ta σ H fun vs H1 => ∃ a xs, vs = [.ref a] ∧ SqT K H1 a xs ∧ R (IteT K a) H1
theorem pi_enumT {X : Cx} {e : Expr} {ta : TA} {p pos tpos : Pos} {elts : List Expr} {kk : Nat} (hg : Gl X "enumerate") (hm : X.mg "enumerate" = none) (ha : PA X [e] ta) (hs : starEach [e] X.env = [(false, eval e X.env)] := by rfl) :
    PI X (.Tuple elts kk tpos) (.Call (.Name "enumerate" p) [e] [] pos) (iEnumT X.K ta) := by
  refine ⟨fun pins s σ H R I h => ?_⟩
  refine Call_ (ld_blt I hg hm boot_enumerate (PyProof.Rows.callWith_type1 (thn (ha.run pos pins s σ H _ I h) fun us s1 ⟨vs, H1, I1, r1, q1⟩ => ?_) hs rfl))
  obtain ⟨a, xs, ex, hq, q⟩ := q1
  subst ex
  cases r1 with
  | cons r rr =>
    cases rr
    cases r
    obtain ⟨its, rv, p', hz⟩ := I1.tuple hq
    have hal : a < s1.heap.objs.size := by obtain ⟨_, q, _⟩ := p'; exact Heap.lt_size q
    refine enum_begins1 (begins_tuple a its.toArray) p' fun h' he hit hsz hk => wpAny_pyIter_enum he ?_
    have I2 : Inv X pins σ H1 { s1 with heap := h' } := I1.kept (t' := s1.toks) hk
    refine ⟨s1.heap.objs.size + 1, [s1.heap.objs.size + 1, s1.heap.objs.size], _, _, H1, rfl, I2, turn_enumT a (s1.heap.objs.size + 1) s1.heap.objs.size (Nat.ne_of_gt (Nat.lt_succ_of_lt hal)) (Nat.ne_of_lt hal), ⟨⟨.none, he⟩, ⟨_, hit, rfl, rfl⟩, Nat.succ_ne_self _⟩, fun b hb => ?_, q⟩
    have e' : b = s1.heap.objs.size + 1 ∨ b = s1.heap.objs.size := by simpa using hb
    have hle : s1.heap.objs.size ≤ b := by
      rcases e' with z | z
      · rw [z]; exact Nat.le_add_right _ _
      · rw [z]; exact Nat.le_refl _
    exact I1.fpOk hle (I1.hok.fresh hle)
section
variable {X : Cx} {K : PySem.W.Frag} {a : Expr} {t : TA} {at1 : aA} {pos : Pos}
theorem drv_enumT {N1 : Hp} {p : Addr} {xs : List V} {ds : List D} (h : SqT K N1 p xs) (r : RelL K N1 xs ds) : Drv K (IteT K p) (enumD ds) N1 := fun E G M N σ H C s1 i =>
  have hs : SqT K H p xs := same_seqT C.cm.sm (same_seqT s1 h)
  ⟨fun hi => ⟨xs, hs, by rw [r.length]; simp only [enumD, List.length_map, List.length_zip, List.length_range] at hi; omega⟩, fun d hd => by
    obtain ⟨d1, e1, rfl⟩ := enumD_get hd
    obtain ⟨x, hx, rx⟩ := r.getR e1
    refine ⟨⟨xs, x, hs, hx⟩, fun v H' hv => ?_⟩
    obtain ⟨T, x', rfl, hT, rfl, f1⟩ := hv
    obtain rfl : x = x' := Option.some.inj (hx.symm.trans (f1 xs hs))
    have s := same_new (o := .tup [.int (i : Nat), x]) (C.cm.none hT).1
    exact ⟨_, s, fr_new hT (C.cm.none hT).1, cm_new C.cm hT, .tup upd_same (.cons (.int _) (.cons ((rx.mono s1).mono s) .nil))⟩⟩
def aiEnumT (x : aA) : aA := fun G M Q => x G M fun ds M1 => match ds with
  | [d] => isL d = false ∧ (match items d with | some xs => Q (enumD xs) M1 | _ => False)
  | _ => False
theorem di_enumT {p tpos : Pos} {elts : List Expr} {kk : Nat} (hg : Gl X "enumerate") (hm : X.mg "enumerate" = none) (ha : DA X [a] t at1) (hs : starEach [a] X.env = [(false, eval a X.env)] := by rfl) :
    DI X (.Tuple elts kk tpos) (.Call (.Name "enumerate" p) [a] [] pos) (iEnumT X.K t) (aiEnumT at1) := ⟨pi_enumT hg hm ha.pa hs, by
  intro E G M N σ H C Q R q k
  refine ha.sa E G M N σ H C _ _ q fun ds vs M1 N1 H1 h1 C1 s1 r1 => ?_
  split at h1
  · obtain ⟨v, rfl, r2⟩ := rel1 r1
    obtain ⟨h0, h1⟩ := h1
    split at h1
    · rename_i xs hx
      obtain ⟨p1, us, rfl, q2, h4⟩ := rel_items r2 hx
      rcases h4 with ⟨e4, h4⟩ | ⟨e4, h4⟩
      · rw [e4] at h0; cases h0
      · exact ⟨p1, us, rfl, same_seqT C1.cm.sm h4, k _ M1 N1 H1 _ h1 C1 s1 (drv_enumT h4 q2)⟩
    · exact h1.elim
  · exact h1.elim⟩
/-! ### list.index of ints, list.insert -/
theorem idxOf_le_get {c : Int} : ∀ {cs : List Int} {m : Nat}, cs[m]? = some c → cs.idxOf c ≤ m
  | [], m, h => by simp at h
  | x :: cs, 0, h => by
    simp at h
    subst h
    simp
  | x :: cs, m + 1, h => by
    have ih := idxOf_le_get (cs := cs) (m := m) (by simpa using h)
    rw [List.idxOf_cons]
    cases x == c <;> simp <;> omega
def fIndex : VM := fun d ds M Q => isLM d = true ∧ (match (itemsM M d).bind intsD, ds with | some cs, [.int z] => z ∈ cs ∧ Q (.int (cs.idxOf z : Nat)) M | _, _ => False)
theorem sm_index : SM K "list" (rIndex K) fIndex := by
  intro E G M N σ H C x d xs ds rx rxs Q Qc h k
  obtain ⟨h0, h⟩ := h
  split at h
  · rename_i cs z e1 
    obtain ⟨hz, h⟩ := h
    obtain ⟨us, hi, hc⟩ := Option.bind_eq_some_iff.mp e1
    obtain ⟨a, vs, rfl, r2, h4⟩ := rel_itemsM C.cm rx hi
    have ev := ints_rel r2 hc
    subst ev
    obtain ⟨v, rfl, rv⟩ := rel1 rxs
    obtain rfl := rel_int rv
    rcases h4 with ⟨_, h4⟩ | ⟨e4, _⟩
    · have hlt := List.idxOf_lt_length_of_mem hz
      refine ⟨a, _, .int z, cs.idxOf z, .int z, rfl, rfl, h4, rfl, ?_, ?_, ?_, fun m z' hm hz' => ?_, k.at C h (.int _)⟩
      · rw [List.all_eq_true]
        intro v hv
        obtain ⟨i, _, rfl⟩ := List.mem_map.mp hv
        rfl
      · rw [List.getElem?_map, List.getElem?_eq_getElem hlt, List.getElem_idxOf hlt]
        rfl
      · show (z == z) = true
        simp
      · rw [List.getElem?_map] at hz'
        obtain ⟨c, hc', rfl⟩ := Option.map_eq_some_iff.mp hz'
        show (c == z) = false
        have hn : ¬ c = z := fun e => by
          subst e
          have := idxOf_le_get hc'
          omega
        simpa using hn
    · rw [e4] at h0; cases h0
  · exact h.elim
def fInsert : VM := fun d ds M Q => match d, ds with
  | .ref a, [.int i, x] => (match M a with | some (.lst xs) => (xs.length < 1000000 ∧ 0 ≤ i ∧ i ≤ 1000000) ∧ Q .non (mupd M a (.lst (xs.take i.toNat ++ [x] ++ xs.drop i.toNat))) | _ => False)
  | _, _ => False
theorem sm_insert : SM K "list" (fun x vs H Q => ∃ (l : Addr) (xs : List V) (i : Int) (y : V), x = .ref l ∧ vs = [.int i, y] ∧ H l = some (.lst xs) ∧ xs.length < sizeLine ∧ 0 ≤ i ∧ i < 2 ^ 63 ∧
    Q .non (upd H l (.lst (xs.take i.toNat ++ [y] ++ xs.drop i.toNat)))) fInsert := by
  intro E G M N σ H C x d xs ds rx rxs Q Qc h k
  unfold fInsert at h
  split at h
  · rename_i a i y
    obtain ⟨v, w, rfl, rv, rw'⟩ := rel2 rxs
    obtain rfl := rel_int rv
    have e := rel_ref rx
    subst e
    split at h
    · rename_i ys e
      obtain ⟨vs, h1, r1⟩ := C.cm.lst e
      obtain ⟨⟨z1, z2, z3⟩, h⟩ := h
      exact ⟨a, vs, i, w, rfl, rfl, h1, by rw [r1.length]; exact big_lt (by omega), z2, by omega, k.mut C e (hasL upd_same (((r1.take _).append (.cons rw' .nil)).append (r1.drop _))) h .non⟩
    · exact h.elim
  · exact h.elim
end
/-! ### forms -/
section
variable {G : Gm} {M : Mp} {Q : QD} {d e : D} {ds : List D} {x : aE} {al : aA} {QA : List D → Mp → Prop}
def kKeys (QA : List D → Mp → Prop) (d : D) (M : Mp) : Prop := match d with | .dK gs => QA (gs.map fun kv => keyD kv.1) M | _ => False
theorem go_ikeys (h : x G M (kKeys QA)) : aiKeys x G M QA := h
theorem go_kkeys {gs : List (Key × D)} (q : QA (gs.map fun kv => keyD kv.1) M) : kKeys QA (.dK gs) M := q
def kEnumT (QA : List D → Mp → Prop) (ds : List D) (M : Mp) : Prop := match ds with
  | [d] => isL d = false ∧ (match items d with | some xs => QA (enumD xs) M | _ => False)
  | _ => False
theorem go_enumT (h : al G M (kEnumT QA)) : aiEnumT al G M QA := h
theorem go_kenumT (h : items d = some ds) (h0 : isL d = false) (q : QA (enumD ds) M) : kEnumT QA [d] M := by
  refine ⟨h0, ?_⟩
  rw [h]
  exact q
theorem go_dnil (q : Q (.dK []) M) : aDNil G M Q := q
theorem go_dc {src : aA} {g : aG} {t : aT} {kx vx : aE} {vs : List Nat} {G' : Gm} (e : wipeG G vs = G') (h : src G M fun ds M1 => ds.length ≤ 1000000 ∧ dcGo g t kx vx G' ds [] M1 fun acc M2 => Q (.dK acc) M2) : aDc src g t kx vx vs G M Q := by
  subst e; exact h
theorem getDk_dKs {gs : List (Key × D)} {kk : Key} (h2 : keyOf d = some kk) : getDk M (.dK gs) d = some (valD gs kk) := by
  simp only [getDk, h2, Option.map_some]
theorem getDk_items {o : Option D} (h : getDk M d e = some o) : itemsM M d = none ∧ ∀ z, d ≠ .str z := by
  unfold getDk at h
  split at h
  · exact ⟨rfl, fun z h => by cases h⟩
  · exact ⟨rfl, fun z h => by cases h⟩
  · split at h
    · rename_i h2
      exact ⟨itemsM_dK h2, fun z h => by cases h⟩
    · rename_i h2
      exact ⟨itemsM_dT h2, fun z h => by cases h⟩
    · cases h
  · cases h
theorem go_ixGet {y : D} (h : getDk M d e = some (some y)) (q : Q y M) : fIx d e M Q := by
  obtain ⟨h1, h2⟩ := getDk_items h
  have go : (match getDk M d e with | some (some x) => Q x M | _ => False) := by rw [h]; exact q
  unfold fIx
  cases e <;> first | exact go | skip
  simp only [h1]
  cases d <;> first | exact go | exact (h2 _ rfl).elim
theorem go_index {cs : List Int} {z : Int} {us : List D} (h : itemsM M d = some us) (h0 : isLM d = true) (hc : intsD us = some cs) (hz : z ∈ cs) (q : Q (.int (cs.idxOf z : Nat)) M) : fIndex d [.int z] M Q := by
  refine ⟨h0, ?_⟩
  rw [h]
  simp only [Option.bind_some, hc]
  exact ⟨hz, q⟩
theorem go_insert {a : Addr} {xs : List D} {i : Int} (h : M a = some (.lst xs)) (h1 : xs.length < 1000000) (h2 : 0 ≤ i) (h3 : i ≤ 1000000) (q : Q .non (mupd M a (.lst (xs.take i.toNat ++ [e] ++ xs.drop i.toNat)))) : fInsert (.ref a) [.int i, e] M Q := by
  show match M a with | some (.lst xs) => _ | _ => False
  rw [h]
  exact ⟨⟨h1, h2, h3⟩, q⟩
theorem go_any {bs : List Bool} (h : itemsM M d = some ds) (h0 : isLM d = true) (h2 : bools ds = some bs) (q : Q (.bl (bs.any _root_.id)) M) : fAny [d] M Q := by
  refine ⟨h0, ?_⟩
  rw [h]
  simp only [Option.bind_some, h2]
  exact q
/-- a dict comprehension by its turns -/
theorem go_dcI {g : aG} {t : aT} {kx vx : aE} {QK : List (Key × D) → Mp → Prop} (I : Nat → List (Key × D) → Mp → Prop) (h0 : I 0 [] M)
    (hs : ∀ i d acc M (KY : D → D → Mp → Prop) (KN : Mp → Prop), ds[i]? = some d → I i acc M → (∀ y z k M, keyOf y = some k → I (i + 1) (putD acc k z) M → KY y z M) → (∀ M, I (i + 1) acc M → KN M) →
      g d G M fun G' M1 => t G' M1 fun b M2 => if b = true then kx G' M2 fun y M3 => vx G' M3 (KY y) else KN M2) (hd : ∀ acc M, I ds.length acc M → QK acc M) : dcGo g t kx vx G ds [] M QK := by
  have main : ∀ (r : List D) (i : Nat) (acc : List (Key × D)) (M : Mp), i ≤ ds.length → ds.drop i = r → I i acc M → dcGo g t kx vx G r acc M QK := by
    intro r
    induction r with
    | nil =>
      intro i acc M hl e hi
      have h1 : ds.length ≤ i := List.drop_eq_nil_iff.mp e
      have q : i = ds.length := by omega
      subst q
      exact hd acc M hi
    | cons d r ih =>
      intro i acc M hl e hi
      have hlt : i < ds.length := by
        by_cases q : i < ds.length
        · exact q
        · rw [List.drop_eq_nil_of_le (by omega)] at e; cases e
      rw [List.drop_eq_getElem_cons hlt] at e
      injection e with e1 e2
      exact hs i d acc M (fun y z M4 => match keyOf y with | some k => dcGo g t kx vx G r (putD acc k z) M4 QK | none => False) _ (by rw [List.getElem?_eq_getElem hlt, e1]) hi (fun y z k M hk h => by
        show match keyOf y with | some k => _ | none => False
        rw [hk]
        exact ih (i + 1) _ M hlt e2 h) (fun M h => ih (i + 1) acc M hlt e2 h)
  exact main ds 0 [] M (Nat.zero_le _) rfl h0
end
end DL

set_option Elab.async false
set_option linter.all false
set_option maxRecDepth 100000
/-! DX4: sorted and min of lists of plain data. -/
namespace DL
open PySem PySem.Spec PyProof.Rows L2
open PySem.W (dataLe dataLt AllAlike Sortable EachIs minD AlikeAll alike)
/-! ### sorted -/
theorem each_vals {α : Type} {f : α → V} : ∀ {us : List Value} {bs : List α}, EachIs (fun u b => RelV (f b) u) us bs → Vals (bs.map f) us
  | _, _, .nil => .nil
  | _, _, .cons h t => .cons h (each_vals t)
theorem vals_each {K : PySem.W.Frag} {H : Hp} : ∀ {xs : List V} {ps : List PyData} {us : List Value}, Vals xs us → DpAll K H xs ps → EachIs (fun u b => RelV b.1 u) us (xs.zip ps)
  | _, _, _, .nil, .nil => .nil
  | _, _, _, .cons r t, .cons _ d => .cons r (vals_each t d)
theorem dp_zip {K : PySem.W.Frag} {H : Hp} : ∀ {xs : List V} {ps : List PyData}, DpAll K H xs ps → (xs.zip ps).map (·.2) = ps ∧ (xs.zip ps).length = xs.length ∧ xs.length = ps.length
  | _, _, .nil => ⟨rfl, rfl, rfl⟩
  | _, _, .cons _ d => by
    obtain ⟨a, b, c⟩ := dp_zip d
    simp [a, b, c]
section
variable {X : Cx}
theorem each_reads {pins : List (Addr × Obj)} {σ : L2.St} {H : Hp} {s : Shared} (I : L2.Inv X pins σ H s) : ∀ {xs : List V} {ps : List PyData} {us : List Value}, Vals xs us → DpAll X.K H xs ps → EachIs (fun u b => ∃ as, Reads s.heap u b.2 as) us (xs.zip ps)
  | _, _, _, .nil, .nil => .nil
  | _, _, _, .cons r t, .cons h d => .cons (Dp.reads I _ _ _ h r) (each_reads I t d)
def rSortedD (K : PySem.W.Frag) : List V → Hp → VK → Prop := fun vs H Q => ∃ (a : Addr) (xs : List V) (ps : List PyData), vs = [.ref a] ∧ SqL K H a xs ∧ DpAll K H xs ps ∧ AllAlike ps ∧ Sortable ps ∧ (∀ p ∈ ps, p.depth ≤ 60) ∧
  ∀ q, H q = none → Q (.ref q) (upd H q (.lst (((xs.zip ps).mergeSort (dataLe false (·.2))).map (·.1))))
theorem cr_sortedD (hu : X.A.units + 64 < cLine) : CallR X (.builtin "sorted") (rSortedD X.K) := by
  intro pins s σ H vs us Q I r h
  obtain ⟨a, xs, ps, rfl, hs, hd, hal, hso, hdep, q⟩ := h
  obtain ⟨its, rv, hl, hz⟩ := I.list hs
  rw [Vals.ref1 r]
  obtain ⟨z1, z2, z3⟩ := dp_zip hd
  refine PySem.W.sorted_data (bs := xs.zip ps) (enc := (·.2)) hl.isList (vals_each rv hd) (each_reads I rv hd) (by rw [z1]; exact hal) (by rw [z1]; exact hso) (by rw [z2]; exact hz) (fun b hb => ?_) fun out h1 h2 => ?_
  · have := hdep b.2 (by rw [← z1]; exact List.mem_map.mpr ⟨b, hb, rfl⟩)
    show X.A.units + 2 + b.2.depth < cLine
    omega
  obtain ⟨ep, he'⟩ := PyProof.Rows.sortedAll_at s.heap its out.toArray
  have hlen : (((xs.zip ps).mergeSort (dataLe false (·.2))).map (·.1)).length ≤ sizeLine := by
    rw [List.length_map, List.length_mergeSort, z2]
    exact hz
  exact ⟨.ref _, upd H (s.heap.objs.size + 1) (.lst (((xs.zip ps).mergeSort (dataLe false (·.2))).map (·.1))), I.laid (t' := s.toks) (fun _ _ => PyProof.Rows.sortedAll_old) (Nat.le_succ _) ⟨hlen, out, ep, each_vals h2, he'⟩, rfl, q _ (I.hok.fresh (Nat.le_succ _))⟩
end
theorem toPys_map : ∀ ds : List D, toPys ds = ds.map toPy
  | [] => rfl
  | d :: ds => by rw [toPys, toPys_map ds]; rfl
theorem eqOks_all {n : Nat} : ∀ {ds : List D}, (∀ d ∈ ds, eqOk n d = true) → eqOks n ds = true
  | [], _ => by simp [eqOks]
  | d :: ds, h => by
    simp only [eqOks, Bool.and_eq_true]
    exact ⟨h d (by simp), eqOks_all fun e he => h e (by simp [he])⟩
/-- sorted(x) of a list of plain data that can be compared -/
def fSorted : VL := fun ds M Q => match ds with
  | [d] => isLM d = true ∧ (match itemsM M d with | some xs => (∀ x ∈ xs, eqOk 9 x = true) ∧ AllAlike (xs.map toPy) ∧ Sortable (xs.map toPy) ∧ Q (.list (xs.mergeSort (dataLe false toPy))) M | none => False)
  | _ => False
section
variable {K : PySem.W.Frag}
theorem rel_sort {N : Hp} {vs : List V} {ys : List D} (r : RelL K N vs ys) : RelL K N (((vs.zip (ys.map toPy)).mergeSort (dataLe false (·.2))).map (·.1)) (ys.mergeSort (dataLe false toPy)) := by
  have e1 : vs.zip (ys.map toPy) = (vs.zip ys).map fun b => (b.1, toPy b.2) := by
    rw [List.zip_map_right]
    rfl
  have e2 : (vs.zip ys).map (·.2) = ys := List.map_snd_zip (Nat.le_of_eq r.length.symm)
  have s1 : ((vs.zip ys).mergeSort (dataLe false fun b => toPy b.2)).map (fun b => (b.1, toPy b.2)) = (vs.zip (ys.map toPy)).mergeSort (dataLe false (·.2)) := by
    rw [e1]
    exact PySem.W.sort_maps (fun b : V × D => (b.1, toPy b.2)) fun a _ b _ => rfl
  have s2 : ((vs.zip ys).mergeSort (dataLe false fun b => toPy b.2)).map (·.2) = ys.mergeSort (dataLe false toPy) := by
    have := PySem.W.sort_maps (r := dataLe false fun b : V × D => toPy b.2) (s := dataLe false toPy) (fun b : V × D => b.2) (l := vs.zip ys) fun a _ b _ => rfl
    rw [this, e2]
  rw [← s1, ← s2, List.map_map]
  have hm : ∀ b ∈ (vs.zip ys).mergeSort (dataLe false fun b => toPy b.2), RelD K N b.1 b.2 := fun b hb => by
    have hb := (List.mergeSort_perm _ _).mem_iff.mp hb
    obtain ⟨i, hi⟩ := List.getElem?_of_mem hb
    obtain ⟨h1, h2⟩ := List.getElem?_zip_eq_some.mp hi
    obtain ⟨d, h3, h4⟩ := r.get h1
    rw [h2] at h3
    cases h3
    exact h4
  generalize (vs.zip ys).mergeSort (dataLe false fun b => toPy b.2) = L at hm
  clear s1 s2 e1 e2 r
  induction L with
  | nil => exact .nil
  | cons b L ih => exact .cons (hm b (by simp)) (ih fun c hc => hm c (by simp [hc]))
theorem dp_depth {d : D} (h : eqOk 9 d = true) : (toPy d).depth ≤ 60 := by
  obtain ⟨h1, h2⟩ := shaped_of 9 d h
  omega
theorem sl_sorted : SL K (rSortedD K) fSorted := by
  intro E G M N σ H C xs ds rx Q Qc h k
  unfold fSorted at h
  split at h
  · obtain ⟨v, rfl, r⟩ := rel1 rx
    obtain ⟨h0, h⟩ := h
    split at h
    · rename_i ys hi
      obtain ⟨a, vs, rfl, r2, h4⟩ := rel_itemsM C.cm r hi
      rw [h0] at h4
      obtain ⟨h1, h2, h3, h⟩ := h
      rcases h4 with ⟨_, h4⟩ | ⟨e, _⟩
      · refine ⟨a, vs, ys.map toPy, rfl, h4, ?_, h2, h3, fun p hp => ?_, fun l hl => k.new C hl h fun N' s e => .list e ((rel_sort r2).mono s)⟩
        · rw [← toPys_map]
          exact dps_of C.cm.sm 9 _ _ (eqOks_all h1) r2
        · obtain ⟨d, hd, rfl⟩ := List.mem_map.mp hp
          exact dp_depth (h1 d hd)
      · cases e
    · exact h.elim
  · exact h.elim
end
/-! ### min of a list of plain data -/
def rMinD (K : PySem.W.Frag) : List V → Hp → VK → Prop := fun vs H Q => ∃ (a : Addr) (xs : List V) (p : PyData) (ps : List PyData), vs = [.ref a] ∧ SqL K H a xs ∧ DpAll K H xs (p :: ps) ∧ AlikeAll (p :: ps) ∧ PyData.depthAll (p :: ps) ≤ 60 ∧
  ∀ (i : Nat) x, xs[i]? = some x → (p :: ps)[i]? = some (minD p ps) → Q x H
section
variable {X : Cx}
theorem dp_readsAll {pins : List (Addr × Obj)} {σ : L2.St} {H : Hp} {s : Shared} (I : L2.Inv X pins σ H s) {xs : List V} {ps : List PyData} {us : List Value} (r : Vals xs us) (h : DpAll X.K H xs ps) : ∃ as, ReadsAll s.heap us ps as := Dp.readsAll I _ _ _ h r
theorem vals_at : ∀ {xs : List V} {us : List Value} {i : Nat} {u : Value}, Vals xs us → us[i]? = some u → ∃ x, xs[i]? = some x ∧ RelV x u
  | _, _, i, u, .nil, e => by simp at e
  | _, _, 0, u, .cons r _, e => by simp at e; subst e; exact ⟨_, rfl, r⟩
  | _, _, i + 1, u, .cons _ t, e => by
    obtain ⟨x, h1, h2⟩ := vals_at (i := i) (u := u) t (by simpa using e)
    exact ⟨x, by simpa using h1, h2⟩
theorem dp_at {K : PySem.W.Frag} {H : Hp} : ∀ {xs : List V} {ps : List PyData} {i : Nat} {x : V} {p : PyData}, DpAll K H xs ps → xs[i]? = some x → ps[i]? = some p → Dp K H x p
  | _, _, i, x, p, .nil, h, _ => by simp at h
  | _, _, 0, x, p, .cons h1 _, h, h' => by simp at h h'; subst h; subst h'; exact h1
  | _, _, i + 1, x, p, .cons _ h2, h, h' => dp_at (i := i) h2 (by simpa using h) (by simpa using h')
theorem cr_minD (hc : X.calm = true) (hu : X.A.units + 64 < cLine) : CallR X (.builtin "min") (rMinD X.K) := by
  intro pins s σ H vs us Q I r h
  obtain ⟨a, xs, p, ps, rfl, hs, hd, hal, hdep, q⟩ := h
  obtain ⟨its, rv, hl, hz⟩ := I.list hs
  rw [Vals.ref1 r]
  obtain ⟨as, hr⟩ := dp_readsAll I rv hd
  refine PySem.W.min_list_data (I.ok.hd hc) hl.isList (x := p) (xs := ps) (as := as) (by simpa using hr) hal (by omega) fun i v h' tk bs hv hm hk => ?_
  have hv : its[i]? = some v := by simpa using hv
  obtain ⟨x, hx, rx⟩ := vals_at rv hv
  have J : L2.Inv X pins σ H { s with heap := h', toks := tk } := I.kept hk
  refine ⟨x, H, J, rx, q i x hx ?_⟩
  have hi : i < (p :: ps).length := by
    have h1 := (List.getElem?_eq_some_iff.mp hx).1
    have h2 := (dp_zip hd).2.2
    omega
  have e : (p :: ps)[i]? = some ((p :: ps)[i]'hi) := List.getElem?_eq_getElem hi
  rw [e]
  have hdx : Dp X.K H x ((p :: ps)[i]'hi) := dp_at hd hx e
  obtain ⟨as', hr'⟩ := Dp.reads J _ _ _ hdx rx
  exact congrArg some (PySem.Reads.unique hr' _ _ hm).1
end
/-- min(x) of a list of plain data that can be compared -/
def fMinD : VL := fun ds M Q => match ds with
  | [d] => isLM d = true ∧ (match itemsM M d with | some xs => eqOk 9 (.list xs) = true ∧ AlikeAll (xs.map toPy) ∧ xs ≠ [] ∧ (∀ x ∈ xs, ∀ y r, xs = y :: r → toPy x = minD (toPy y) (r.map toPy) → Q x M) | none => False)
  | _ => False
section
variable {K : PySem.W.Frag}
theorem sl_minD : SL K (rMinD K) fMinD := by
  intro E G M N σ H C xs ds rx Q Qc h k
  unfold fMinD at h
  split at h
  · obtain ⟨v, rfl, r⟩ := rel1 rx
    obtain ⟨h0, h⟩ := h
    split at h
    · rename_i ys hi
      obtain ⟨a, vs, rfl, r2, h4⟩ := rel_itemsM C.cm r hi
      rw [h0] at h4
      obtain ⟨h1, h2, h3, h⟩ := h
      rcases h4 with ⟨_, h4⟩ | ⟨e, _⟩
      · obtain ⟨y, ys', rfl⟩ := List.exists_cons_of_ne_nil h3
        have hdp := dps_of C.cm.sm 8 _ _ (by simpa [eqOk] using h1) r2
        rw [toPys_map] at hdp
        have hsh := (shaped_of 9 _ h1).2
        refine ⟨a, vs, toPy y, ys'.map toPy, rfl, h4, hdp, h2, ?_, fun i x hx hp => ?_⟩
        · rw [← List.map_cons, ← toPys_map]
          rw [toPy] at hsh
          simp only [PyData.depth] at hsh
          omega
        · obtain ⟨d, hd, rd⟩ := r2.get hx
          refine k.at C (h d (List.mem_of_getElem? hd) y ys' rfl ?_) rd
          have : ((y :: ys').map toPy)[i]? = some (toPy d) := by rw [List.getElem?_map, hd]; rfl
          rw [List.map_cons, hp] at this
          exact (Option.some.inj this).symm
      · cases e
    · exact h.elim
  · exact h.elim
end
/-- sorted(d) of a dict with whole keys -/
def intKeys : List (Key × D) → Option (List Int)
  | [] => some []
  | (.inl i, _) :: r => (intKeys r).map (i :: ·)
  | _ :: _ => none
def fSortedK : VL := fun ds M Q => match ds with
  | [.ref a] => (match M a with | some (.dK gs) => (match intKeys gs with | some ks => ks.length < 64 ∧ ∀ ys : List Int, ys.Perm ks → ys.Pairwise (· ≤ ·) → Q (.list (ys.map .int)) M | none => False) | _ => False)
  | _ => False
section
variable {K : PySem.W.Frag}
theorem intKeys_rel {N : Hp} : ∀ {kvs : List (Key × V)} {gs : List (Key × D)} {ks : List Int}, RelF K N kvs gs → intKeys gs = some ks → kvs.map (·.1) = ks.map Sum.inl
  | _, _, ks, .nil, h => by simp [intKeys] at h; subst h; rfl
  | _, (.inl i, d) :: gs, ks, .cons h1 r, h => by
    simp only [intKeys, Option.map_eq_some_iff] at h
    obtain ⟨ks', h2, rfl⟩ := h
    rw [List.map_cons, intKeys_rel r h2]
    rfl
  | _, (.inr i, d) :: gs, ks, .cons h1 r, h => by simp [intKeys] at h
theorem rel_ints {N : Hp} : ∀ ys : List Int, RelL K N (ys.map V.int) (ys.map D.int)
  | [] => .nil
  | y :: ys => .cons (.int y) (rel_ints ys)
theorem sl_sortedK : SL K (fun xs H Q => ∃ (a : Addr) (kvs : List (Key × V)) (ks : List Int), xs = [.ref a] ∧ Rd H a (.dK kvs) ∧ kvs.map (·.1) = ks.map Sum.inl ∧ ks.length < 64 ∧
    ∀ (ys : List Int) (p : Addr), ys.Perm ks → ys.Pairwise (· ≤ ·) → H p = none → Q (.ref p) (upd H p (.lst (ys.map V.int)))) fSortedK := by
  intro E G M N σ H C xs ds rx Q Qc h k
  unfold fSortedK at h
  split at h
  · rename_i a
    obtain ⟨v, rfl, r⟩ := rel1 rx
    have e := rel_ref r
    subst e
    split at h
    · rename_i gs hM
      split at h
      · rename_i ks hk
        obtain ⟨kvs, hd, rf⟩ := C.cm.dKs hM
        exact ⟨a, kvs, ks, rfl, .of hd, intKeys_rel rf hk, h.1, fun ys p h1 h2 hp => k.new C hp (h.2 ys h1 h2) fun N' s e => .list e (rel_ints ys)⟩
      · exact h.elim
    · exact h.elim
  · exact h.elim
end
/-! ### list(range(n)) -/
def fListRg : V1 := fun d M Q => match d with
  | .int n => n ≤ 1000000 ∧ -1000000 ≤ n ∧ Q (.list (rng 0 n.toNat)) M
  | _ => False
section
variable {X : Cx} {K : PySem.W.Frag} {a : Expr} {ta : TE} {aa : aE}
theorem rel_rng {N : Hp} (lo : Int) : ∀ l : List Nat, RelL K N (l.map fun (i : Nat) => V.int (lo + (i : Int))) (l.map fun (j : Nat) => D.int (lo + (j : Int)))
  | [] => .nil
  | i :: l => .cons (.int _) (rel_rng lo l)
theorem de_listRg {p p2 pos pos2 : Pos} (hg : Gl X "list") (hm : X.mg "list" = none) (hg2 : Gl X "range") (hm2 : X.mg "range" = none) (ha : DE X a ta aa) (hc : X.calm = true := by rfl) (na : starEach [a] X.env = (false, eval a X.env) :: starEach [] X.env := by rfl)
    (na2 : starEach [Expr.Call (.Name "range" p2) [a] [] pos2] X.env = (false, eval (Expr.Call (.Name "range" p2) [a] [] pos2) X.env) :: starEach [] X.env := by rfl) :
    DE X (.Call (.Name "list" p) [.Call (.Name "range" p2) [a] [] pos2] [] pos) (tLstRg (tRg1 ta)) (aUn fListRg aa) := ⟨pe_listRg hc hg hm (prg_1 hg2 hm2 ha.pe na) na2, by
  intro E G M N σ H C Q Qc h k
  refine ha.se E G M N σ H C _ _ h fun d v M1 N1 H1 h1 C1 s1 r1 => ?_
  unfold fListRg at h1
  split at h1
  · cases r1
    rename_i n
    refine ⟨n, rfl, ⟨by omega, by omega, by omega, by omega, by omega⟩, fun q hq => (k.from s1).new C1 hq h1.2.2 fun N' s e => .list e ?_⟩
    unfold rgV
    rw [Int.sub_zero]
    exact rel_rng 0 _
  · exact h1.elim⟩
end
section
variable {M : Mp} {Q : QD} {al : aE} {G : Gm}
theorem go_listRg {n : Int} (h1 : n ≤ 1000000) (h2 : -1000000 ≤ n) (q : Q (.list (rng 0 n.toNat)) M) : fListRg (.int n) M Q := ⟨h1, h2, q⟩
theorem go_sorted {d : D} {xs : List D} (h0 : isLM d = true) (h : itemsM M d = some xs) (h1 : ∀ x ∈ xs, eqOk 9 x = true) (h2 : PySem.W.AllAlike (xs.map toPy)) (h3 : PySem.W.Sortable (xs.map toPy)) (q : Q (.list (xs.mergeSort (PySem.W.dataLe false toPy))) M) : fSorted [d] M Q := by
  unfold fSorted
  simp only [h]
  exact ⟨h0, h1, h2, h3, q⟩
theorem go_sortedK {a : Addr} {gs : List (Key × D)} {ks : List Int} (h : M a = some (.dK gs)) (h1 : intKeys gs = some ks) (h2 : ks.length < 64) (q : ∀ ys : List Int, ys.Perm ks → ys.Pairwise (· ≤ ·) → Q (.list (ys.map .int)) M) : fSortedK [.ref a] M Q := by
  unfold fSortedK
  simp only [h, h1]
  exact ⟨h2, q⟩
theorem go_minD {d : D} {xs : List D} (h0 : isLM d = true) (h : itemsM M d = some xs) (h1 : eqOk 9 (.list xs) = true) (h2 : PySem.W.AlikeAll (xs.map toPy)) (h3 : xs ≠ []) (q : ∀ x ∈ xs, ∀ y r, xs = y :: r → toPy x = PySem.W.minD (toPy y) (r.map toPy) → Q x M) : fMinD [d] M Q := by
  unfold fMinD
  simp only [h]
  exact ⟨h0, h1, h2, h3, q⟩
end
/-! ### d.get(k, x) -/
def isDct (M : Mp) : D → Bool
  | .dK _ => true
  | .dT _ => true
  | .ref a => (match M a with | some (.dK _) => true | some (.dT _) => true | _ => false)
  | _ => false
def aDGet2 (ad ay ax : aE) : aE := fun G M Q => ad G M fun d M1 => isDct M1 d = true ∧ ay G M1 fun y M2 => ax G M2 fun z M3 => ∃ o, getDk M3 d y = some o ∧ Q (o.getD z) M3
section
variable {X : Cx} {K : PySem.W.Frag} {o e f : Expr} {apos cpos : Pos} {td ty tx : TE} {ad ay ax : aE}
theorem isDct_rel {M : Mp} {N H : Hp} {v : V} {d : D} (c : CM K M N H) (r : RelD K N v d) (h : isDct M d = true) : ∃ a, v = .ref a ∧ IsD H a := by
  unfold isDct at h
  split at h
  · cases r with | dK h1 r1 => exact ⟨_, rfl, .inl ⟨_, .inr ⟨_, c.sm _ _ h1⟩⟩⟩
  · cases r with | dT h1 r1 => exact ⟨_, rfl, .inr ⟨_, .of (c.sm _ _ h1)⟩⟩
  · have e := rel_ref r
    subst e
    split at h
    · rename_i e
      obtain ⟨kvs, h1, _⟩ := c.dKs e
      exact ⟨_, rfl, .inl ⟨_, .of h1⟩⟩
    · rename_i e
      obtain ⟨kvs, h1, _⟩ := c.dTs e
      exact ⟨_, rfl, .inr ⟨_, .of h1⟩⟩
    · cases h
  · cases h
theorem de_dget2 (hu : X.A.units + 1 < cLine) (ho : DE X o td ad) (he : DE X e ty ay) (hf : DE X f tx ax) (m : M2 X o "get" apos e f cpos) : DE X (.Call (.Attribute o "get" apos) [e, f] [] cpos) (tDGet2 td ty tx) (aDGet2 ad ay ax) := ⟨pe_dget2 hu ho.pe he.pe hf.pe m, by
  intro E G M N σ H C Q Qc h k
  refine ho.se E G M N σ H C _ _ h fun d v M1 N1 H1 h1 C1 s1 r1 => ?_
  obtain ⟨hd, h1⟩ := h1
  obtain ⟨a, rfl, ha⟩ := isDct_rel C1.cm r1 hd
  refine ⟨a, rfl, ha, ?_⟩
  refine he.se E G M1 N1 σ H1 C1 _ _ h1 fun y u M2 N2 H2 h2 C2 s2 r2 => ?_
  refine hf.se E G M2 N2 σ H2 C2 _ _ h2 fun z w M3 N3 H3 h3 C3 s3 r3 => ?_
  obtain ⟨od, hg, q⟩ := h3
  obtain ⟨a', oV, ea, g, e⟩ := dget_of C3.cm (r1.mono (s2.trans s3)) (r2.mono s3) hg
  cases ea
  refine ⟨oV, g, ?_⟩
  have kk := k.from (s1.trans (s2.trans s3))
  rcases e with ⟨rfl, rfl⟩ | ⟨x1, x2, rfl, rfl, r⟩
  · exact kk.at C3 q r3
  · exact kk.at C3 q r⟩
theorem go_dget2 {G : Gm} {M : Mp} {Q : QD} (h : ad G M fun d M1 => isDct M1 d = true ∧ ay G M1 fun y M2 => ax G M2 fun z M3 => ∃ o, getDk M3 d y = some o ∧ Q (o.getD z) M3) : aDGet2 ad ay ax G M Q := h
end
theorem isDctK {M : Mp} {a : Addr} {gs : List (Key × D)} (h : M a = some (.dK gs)) : isDct M (.ref a) = true := by
  unfold isDct
  simp only [h]
theorem isDctT {M : Mp} {a : Addr} {gs : List (List Key × D)} (h : M a = some (.dT gs)) : isDct M (.ref a) = true := by
  unfold isDct
  simp only [h]
/-! ### d[k] as a target, and two targets -/
def rSetDk : V → V → V → Hp → (Hp → Prop) → Prop := fun x y v H Q => ∃ a H', x = .ref a ∧ DPut H a y v H' ∧ Q H'
def agSubD (x y : aE) : aG := fun d G M Q => x G M fun o M1 => y G M1 (kDPut G Q d o)
def asAsg2 (x : aE) (g g' : aG) : aS := fun A G M => x G M fun d M1 => g d G M1 fun G2 M2 => g' d G2 M2 A.nx
section
variable {X : Cx} {K : PySem.W.Frag} {o i e tg tg2 : Expr} {to ti te : TE} {ao ai ae : aE} {pos : Pos} {g g' : TG} {ag ag' : aG}
theorem set_dictk (hu : X.A.units + 1 < cLine) : PSet X rSetDk := by
  intro pins s σ H x y v ov iv u Q I rx ry rv h
  obtain ⟨a, H', rfl, g, q⟩ := h
  obtain rfl : ov = Value.ref a := rx
  exact d_setItem hu I g ry rv fun s4 I4 => ⟨H', I4, q⟩
theorem dg_subD (hu : X.A.units + 1 < cLine) (ho : DE X o to ao) (hi : DE X i ti ai) (ha : ∀ v, assign (.Subscript o i pos) X.env v = (do
      let ov ← holding [v] (eval o X.env)
      let iv ← holding [v, ov] (eval i X.env)
      standAt pos
      holding [v, ov, iv] (setItem ov iv v)
      release [v, ov, iv] []) := by intro _; rfl) : DG X (.Subscript o i pos) (gSub to ti rSetDk) (agSubD ao ai) := ⟨pg_sub ho.pe hi.pe (set_dictk hu) ha, by
  intro E G M N σ H C v d r Q Qc q k
  refine ho.se E G M N σ H C _ _ q fun x xv M1 N1 H1 h1 C1 s1 r1 => ?_
  refine hi.se E G M1 N1 σ H1 C1 _ _ h1 fun y yv M2 N2 H2 h2 C2 s2 r2 => ?_
  unfold kDPut at h2
  split at h2
  · have e := rel_ref (r1.mono s2)
    subst e
    split at h2
    · rename_i c hc
      unfold putDk at hc
      split at hc
      · rename_i gs e
        split at hc
        · rename_i hl
          obtain ⟨kk, e1, rfl⟩ := Option.map_eq_some_iff.mp hc
          obtain ⟨kvs, hd, rf⟩ := C2.cm.dKs e
          have e3 := key_rel r2 e1
          subst e3
          refine ⟨_, _, rfl, .k hd (by rw [rf.length]; exact big_lt (Nat.le_of_lt hl)), ?_⟩
          exact k _ _ N2 _ _ h2 (C2.mut e (hasK upd_same (rf.put kk ((r.mono s1).mono s2)))) (s1.trans s2)
        · cases hc
      · rename_i gs e
        split at hc
        · rename_i hl
          obtain ⟨kk, e1, rfl⟩ := Option.map_eq_some_iff.mp hc
          obtain ⟨kvs, hd, rf⟩ := C2.cm.dTs e
          obtain ⟨b, rfl, hb⟩ := keyT_rel r2 e1
          refine ⟨_, _, rfl, .t hd (C2.cm.sm _ _ hb) (by rw [rf.length]; exact big_lt (Nat.le_of_lt hl)), ?_⟩
          exact k _ _ N2 _ _ h2 (C2.mut e (hasT upd_same (rf.put kk ((r.mono s1).mono s2)))) (s1.trans s2)
        · cases hc
      · cases hc
    · exact h2.elim
  · exact h2.elim⟩
theorem ds_asg2 (he : DE X e te ae) (h1 : DG X tg g ag) (h2 : DG X tg2 g' ag') (ha : (assignEach [tg, tg2] X.env).map (·.2) = [assign tg X.env, assign tg2 X.env] := by rfl) (hw : swappedStores [tg, tg2] e X.env = pure none := by rfl) :
    DS X (.Assign [tg, tg2] e pos) (tAsg2 te g g') (asAsg2 ae ag ag') := ⟨ps_asg2 he.pe h1.pg h2.pg ha hw, by
  intro E G M N σ H C A B m0 q k
  refine he.se E G M N σ H C _ _ q fun d v M1 N1 H1 h1' C1 s1 r1 => ?_
  refine h1.sg E G M1 N1 σ H1 C1 v d r1 _ _ h1' fun G2 M2 N2 σ2 H2 q2 C2 s2 => ?_
  exact h2.sg E G2 M2 N2 σ2 H2 C2 v d (r1.mono s2) _ _ q2 fun G' M' N' σ' H' q' C' s' => k.nx G' M' N' σ' H' q' C' (s1.trans (s2.trans s'))⟩
end
section
variable {x y : aE} {g g' : aG} {u : aS} {G : Gm} {M m0 : Mp} {d : D} {QG nx : Gm → Mp → Prop} {rt : QD} {bk ct : Gm → Mp → Prop}
theorem go_subD (h : x G M fun o M1 => y G M1 (kDPut G QG d o)) : agSubD x y d G M QG := h
theorem go_asg2 (h : x G M fun d M1 => g d G M1 fun G2 M2 => g' d G2 M2 nx) : asAsg2 x g g' ⟨m0, nx, rt, bk, ct⟩ G M := h
theorem go_sAsg2 (h : asAsg2 x g g' ⟨m0, cvU u ⟨m0, nx, rt, bk, ct⟩, rt, bk, ct⟩ G M) : asSeq (asAsg2 x g g') u ⟨m0, nx, rt, bk, ct⟩ G M := h
end
section
variable {M : Mp} {Q : QD}
theorem go_min2 {i j : Int} (q : Q (.int (if j < i then j else i)) M) : fMin2 [.int i, .int j] M Q := q
theorem go_max2 {i j : Int} (q : Q (.int (if j > i then j else i)) M) : fMax2 [.int i, .int j] M Q := q
end
end DL

section
open PySem PySem.Spec PyProof.Rows L2 DL
local macro_rules | `(tactic| walk_at "ne") => `(tactic| first
  | assumption
  | exact Ne.symm (by assumption)
  | exact mne (by assumption) (by assumption)
  | exact Ne.symm (mne (by assumption) (by assumption)))
local macro_rules | `(tactic| walk_at "look") => `(tactic| first
  | assumption
  | exact mupd_same
  | (refine (mupd_ne ?k1).trans ?k2; (case k1 => walk_at "ne"); (case k2 => walk_at "look")))
local macro_rules | `(tactic| walk_at "itm") => `(tactic| first
  | exact rfl
  | exact itemsM_ref (by walk_at "look"))
local macro_rules | `(tactic| walk_at "lia") => `(tactic| first
  | omega
  | (simp only [List.length_cons, List.length_nil, List.length_map, List.length_append, List.length_set, length_rng, length_zipD, length_enumD]; omega))
local macro_rules | `(tactic| walk_at "cnd") => `(tactic| first
  | assumption
  | omega
  | (simp only [List.length_cons, List.length_nil, List.length_map, List.length_append, List.length_set, length_rng, length_zipD, length_enumD]; omega)
  | exact cmulR (by omega) (by omega)
  | exact cmulL (by omega) (by omega)
  | exact ⟨by omega, by omega⟩
  | exact ⟨by decide, by decide, by decide⟩)
local macro_rules | `(tactic| walk_at "go1") => `(tactic| first
  | (with_reducible refine' go_cvU ?_)
  | (with_reducible refine' go_sAsg ?_) | (with_reducible refine' go_sDrop ?_) | (with_reducible refine' go_sPar ?_) | (with_reducible refine' go_sPar3 ?_) | (with_reducible refine' go_sAug ?_) | (with_reducible refine' go_sFld ?_) | (with_reducible refine' go_sDPut ?_) | (with_reducible refine' go_next ?_) | (with_reducible refine' go_break ?_) | (with_reducible refine' go_cont ?_)
  | (with_reducible refine' go_drop ?_) | (with_reducible refine' go_ret ?_) | (with_reducible refine' go_retN ?_) | (with_reducible refine' go_if ?_) | (with_reducible refine' go_asg ?_)
  | (with_reducible refine' go_par ?_) | ((with_reducible refine' go_kpar ?k1 ?k2 ?_); (case k1 => simp only [List.set_cons_zero, List.set_cons_succ]; exact rfl); (case k2 => simp only [List.set_cons_zero, List.set_cons_succ]; exact rfl))
  | (with_reducible refine' go_par3 ?_) | ((with_reducible refine' go_kpar3 ?k1 ?k2 ?k3 ?_); (case k1 => simp only [List.set_cons_zero, List.set_cons_succ]; exact rfl); (case k2 => simp only [List.set_cons_zero, List.set_cons_succ]; exact rfl); (case k3 => simp only [List.set_cons_zero, List.set_cons_succ]; exact rfl))
  | ((with_reducible refine' go_aug ?k1 ?_); (case k1 => exact rfl)) | (with_reducible refine' go_for ?_)
  | ((with_reducible refine' go_name ?k1 ?_); (case k1 => simp only [List.set_cons_zero, List.set_cons_succ]; exact rfl))
  | ((with_reducible refine' go_tup ?k1 ?_); (case k1 => exact rfl)) | ((with_reducible refine' go_unl ?k1 ?_); (case k1 => exact rfl)) | (with_reducible refine' go_gcons ?_) | (with_reducible refine' go_gnil ?_)
  | (with_reducible refine' go_subL ?_) | ((with_reducible refine' go_ksub ?k1 ?k2 ?k3 ?_); (case k1 => walk_at "look"); (first | (case k2 => first | exact rfl | assumption) | (case' k2 => skip)); (first | (case k3 => first | (simp only [Int.reduceToNat, List.set_cons_zero, List.set_cons_succ]; exact rfl) | exact rfl) | (case' k3 => skip)))
  | ((with_reducible refine' go_var ?k1 ?_); (case k1 => exact rfl)) | (with_reducible refine' go_c ?_) | (with_reducible refine' go_bin ?_) | (with_reducible refine' go_un ?_)
  | (with_reducible refine' go_anil ?_) | (with_reducible refine' go_acons ?_)
  | (with_reducible refine' go_atup ?_) | (with_reducible refine' go_alst ?_) | (with_reducible refine' go_alstM ?_) | (with_reducible refine' go_cb ?_)
  | (with_reducible refine' go_bm ?_) | (with_reducible refine' go_bm0 ?_) | (with_reducible refine' go_call ?_) | (with_reducible refine' go_callN ?_) | (with_reducible refine' go_if' ?_)
  | (with_reducible refine' go_test ?_) | (with_reducible refine' go_ktest ?_) | (with_reducible refine' go_tru ?_) | ((with_reducible refine' go_ktru ?k1 ?_); (case k1 => first | exact rfl | exact truD_ref (by walk_at "look")))
  | (with_reducible refine' go_tand ?_) | (with_reducible refine' go_tor ?_) | (with_reducible refine' go_tnot ?_) | (with_reducible refine' go_andV ?_) | (with_reducible refine' go_kandV ?_) | (with_reducible refine' go_orV ?_) | (with_reducible refine' go_korV ?_) | (with_reducible refine' go_tyes ?_)
  | (with_reducible refine' go_addI ?_) | ((with_reducible refine' go_addL ?k1 ?_); (first | (case k1 => walk_at "lia") | (case' k1 => skip))) | ((with_reducible refine' go_addS ?k1 ?_); (first | (case k1 => walk_at "lia") | (case' k1 => skip)))
  | ((with_reducible refine' go_mulI ?k1 ?_); (first | (case k1 => walk_at "cnd") | (case' k1 => skip))) | ((with_reducible refine' go_mulL ?k1 ?k2 ?k3 ?_); (first | (case k1 => walk_at "lia") | (case' k1 => skip)); (first | (case k2 => walk_at "lia") | (case' k2 => skip)); (first | (case k3 => walk_at "lia") | (case' k3 => skip)))
  | ((with_reducible refine' go_mulM ?k1 ?k2 ?k3 ?_); (first | (case k1 => walk_at "lia") | (case' k1 => skip)); (first | (case k2 => walk_at "lia") | (case' k2 => skip)); (first | (case k3 => walk_at "lia") | (case' k3 => skip)))
  | (with_reducible refine' go_fI0 ?_) | ((with_reducible refine' go_fI ?k1 ?_); (first | (case k1 => walk_at "cnd") | (case' k1 => skip)))
  | (with_reducible refine' go_neg ?_) | (with_reducible refine' go_notB ?_) | (with_reducible refine' go_eqI ?_) | (with_reducible refine' go_neI ?_) | (with_reducible refine' go_eqB ?_) | (with_reducible refine' go_neB ?_) | ((with_reducible refine' go_isB (b := false) ?k1 ?_); (case k1 => exact rfl)) | ((with_reducible refine' go_isB (b := true) ?k1 ?_); (case k1 => exact rfl)) | ((with_reducible refine' go_isnotB (b := false) ?k1 ?_); (case k1 => exact rfl)) | ((with_reducible refine' go_isnotB (b := true) ?k1 ?_); (case k1 => exact rfl)) | (with_reducible refine' go_is ?_) | (with_reducible refine' go_isnot ?_)
  | ((with_reducible refine' go_ix ?k1 ?k2 ?_); (case k1 => walk_at "itm"); (first | (case k2 => first | exact rfl | assumption) | (case' k2 => skip)))
  | (with_reducible refine' go_int ?_) | (with_reducible refine' go_abs ?_) | ((with_reducible refine' go_len ?k1 ?_); (case k1 => walk_at "itm")) | ((with_reducible refine' go_list ?k1 ?_); (case k1 => walk_at "itm")) | ((with_reducible refine' go_listM ?k1 ?_); (case k1 => walk_at "itm")) | ((with_reducible refine' go_tuple ?k1 ?_); (case k1 => walk_at "itm"))
  | ((with_reducible refine' go_append ?k1 ?k2 ?_); (case k1 => walk_at "look"); (first | (case k2 => walk_at "lia") | (case' k2 => skip))) | ((with_reducible refine' go_pop ?k1 ?k2 ?_); (case k1 => walk_at "look"); (first | (case k2 => first | assumption | exact rfl) | (case' k2 => skip)))
  | ((with_reducible refine' go_isi (b := true) ?k1 ?k2 ?k3 ?_); (case k1 => decide +kernel); (case k2 => first | exact rfl | exact tyD_ref (by walk_at "look")); (case k3 => decide +kernel))
  | ((with_reducible refine' go_isi (b := false) ?k1 ?k2 ?k3 ?_); (case k1 => decide +kernel); (case k2 => first | exact rfl | exact tyD_ref (by walk_at "look")); (case k3 => decide +kernel))
  | ((with_reducible refine' go_isiT (b := true) ?k1 ?k2 ?k3 ?k4 ?_); (case k1 => exact rfl); (case k2 => decide +kernel); (case k3 => first | exact rfl | exact tyD_ref (by walk_at "look")); (case k4 => decide +kernel))
  | ((with_reducible refine' go_isiT (b := false) ?k1 ?k2 ?k3 ?k4 ?_); (case k1 => exact rfl); (case k2 => decide +kernel); (case k3 => first | exact rfl | exact tyD_ref (by walk_at "look")); (case k4 => decide +kernel))
  | (with_reducible refine' go_iteT (k := true) rfl ?_) | (with_reducible refine' go_iteF (k := false) rfl ?_)
  | ((with_reducible refine' go_iteT ?k1 ?_); (case k1 => exact rfl)) | ((with_reducible refine' go_iteF ?k1 ?_); (case k1 => exact rfl))
  | (with_reducible refine' go_iseq ?_) | ((with_reducible refine' go_kitems ?k1 ?_); (case k1 => first | exact rfl | assumption)) | (with_reducible refine' go_rng1 ?_) | (with_reducible refine' go_rng2 ?_)
  | ((with_reducible refine' go_krng1 ?k1 ?k2 ?_); (first | (case k1 => walk_at "lia") | (case' k1 => skip)); (first | (case k2 => walk_at "lia") | (case' k2 => skip))) | ((with_reducible refine' go_krng2 ?k1 ?k2 ?k3 ?k4 ?_); (first | (case k1 => walk_at "lia") | (case' k1 => skip)); (first | (case k2 => walk_at "lia") | (case' k2 => skip)); (first | (case k3 => walk_at "lia") | (case' k3 => skip)); (first | (case k4 => walk_at "lia") | (case' k4 => skip)))
  | (with_reducible refine' go_zip ?_) | ((with_reducible refine' go_kzip ?k1 ?k2 ?k3 ?_); (case k1 => exact rfl); (case k2 => exact rfl); (case k3 => exact rfl))
  | ((with_reducible refine' go_lc ?k1 ?_); (case k1 => simp only [wipeG, List.set_cons_zero, List.set_cons_succ]; exact rfl)) | ((with_reducible refine' go_lcM ?k1 ?_); (case k1 => simp only [wipeG, List.set_cons_zero, List.set_cons_succ]; exact rfl))
  | (with_reducible refine' go_fld ?_) | ((with_reducible refine' go_kfldO ?k1 ?k2 ?k3 ?_); (first | (case k1 => assumption) | (case' k1 => skip)); (first | (case k2 => assumption) | (case' k2 => skip)); (first | (case k3 => exact rfl) | (case' k3 => skip))) | (with_reducible refine' go_meth ?_) | (with_reducible refine' go_setF ?_) | (with_reducible refine' go_dput ?_) | (with_reducible refine' go_make ?_)
  | (with_reducible refine' go_pnil ?_) | (with_reducible refine' go_pcons ?_) | (with_reducible refine' go_dispK ?_) | (with_reducible refine' go_dispT ?_) | ((with_reducible refine' go_kdisK ?k1 ?k2 ?_); (case k1 => exact rfl); (case k2 => exact Nat.le_of_ble_eq_true rfl)) | ((with_reducible refine' go_kdisT ?k1 ?k2 ?_); (case k1 => exact rfl); (case k2 => exact Nat.le_of_ble_eq_true rfl))
  | (with_reducible refine' go_sl ?_) | (with_reducible refine' go_onone ?_) | (with_reducible refine' go_osome ?_) | (with_reducible refine' go_kpart ?_) | ((with_reducible refine' go_slL ?k1 ?k2 ?_); (case k1 => walk_at "itm"); (case k2 => exact rfl))
  | (with_reducible refine' go_sl3 ?_) | ((with_reducible refine' go_ksl3 ?k1 ?k2 ?k3 ?_); (case k1 => walk_at "itm"); (case k2 => exact rfl); (case k3 => simp))
  | ((with_reducible refine' go_listD ?k1 ?_); (case k1 => walk_at "look"))
  | ((with_reducible refine' go_extend ?k1 ?k2 ?_); (case k1 => walk_at "look"); (first | (case k2 => walk_at "lia") | (case' k2 => skip)))
  | (with_reducible refine' go_dnil ?_) | (with_reducible refine' go_ikeys ?_) | (with_reducible refine' go_kkeys ?_) | (with_reducible refine' go_enumT ?_) | ((with_reducible refine' go_kenumT ?k1 ?k2 ?_); (case k1 => exact rfl); (case k2 => exact rfl))
  | ((with_reducible refine' go_dc ?k1 ?_); (case k1 => simp only [wipeG, List.set_cons_zero, List.set_cons_succ]; exact rfl))
  | ((with_reducible refine' go_insert ?k1 ?k2 ?k3 ?k4 ?_); (case k1 => walk_at "look"); (first | (case k2 => walk_at "lia") | (case' k2 => skip)); (first | (case k3 => walk_at "lia") | (case' k3 => skip)); (first | (case k4 => walk_at "lia") | (case' k4 => skip)))
  | ((with_reducible refine' go_ixGet ?k1 ?_); (case k1 => assumption))
  | ((with_reducible refine' go_listRg ?k1 ?k2 ?_); (first | (case k1 => walk_at "lia") | (case' k1 => skip)); (first | (case k2 => walk_at "lia") | (case' k2 => skip)))
  | (with_reducible refine' go_enum ?_) | ((with_reducible refine' go_kenum ?k1 ?k2 ?_); (case k1 => exact rfl); (case k2 => exact rfl))
  | (with_reducible refine' go_chain ?_) | (with_reducible refine' go_kchain ?_)
  | (with_reducible refine' go_dget2 ?_) | (with_reducible refine' go_subD ?_) | (with_reducible refine' go_min2 ?_) | (with_reducible refine' go_max2 ?_) | (with_reducible refine' go_asg2 ?_) | (with_reducible refine' go_sAsg2 ?_) | ((with_reducible refine' (⟨?k1, ?_⟩ : isDct _ _ = true ∧ _)); (case k1 => first | exact rfl | exact isDctK (by walk_at "look") | exact isDctT (by walk_at "look")))
  | ((with_reducible refine' (⟨?k1, ?_⟩ : _ ≤ 1000000 ∧ _)); (case k1 => walk_at "lia"))
  | ((with_reducible refine' (⟨?k1, ?_⟩ : List.length _ = _ ∧ _)); (case k1 => exact rfl))
  | ((with_reducible refine' (⟨?k1, ?_⟩ : List.length _ + 1 = _ ∧ _)); (case k1 => exact rfl))
  | ((with_reducible refine' (⟨?k1, ?_⟩ : kMeth _ _ _ _ ∧ _)); (case k1 => exact go_kmethO rfl))
  | ((with_reducible refine' (⟨?k1, ?_⟩ : tyD _ _ = some _ ∧ _)); (case k1 => first | exact rfl | exact tyD_ref (by walk_at "look"))))
local macro_rules | `(tactic| walk_at "go") => `(tactic| repeat walk_at "go1")
local macro_rules | `(tactic| walk_at "goS") => `(tactic| repeat (first | walk_at "go1" | (with_reducible refine' go_seq ?_)))
local macro_rules | `(tactic| walk_at "start") => `(tactic| simp only [startG, List.map_cons, List.map_nil, List.cons_append, List.nil_append, List.length_cons, List.length_nil, List.replicate, Nat.zero_add, Nat.reduceAdd, Nat.reduceSub])


set_option Elab.async false
set_option linter.all false
set_option maxRecDepth 100000
set_option maxHeartbeats 4000000
namespace L29
open PySem PySem.Spec PyProof.Rows L2 DL
def topS (i : Nat) : Stmt := PySem.Challenge.pw_sameforever_k30_whole_killing_words.main.body.getD i (.Pass ⟨0, 0, 0, 0⟩)
abbrev s_first_walk : Stmt := topS 1
theorem sc_first_walk : FnScope ["after", "start", "found", "seen", "at", "target"] ["after", "start"] (defScope s_first_walk) := ⟨rfl, rfl, rfl, by decide +kernel, rfl, by decide +kernel, by decide +kernel⟩

abbrev s_walked : Stmt := topS 2
theorem sc_walked : FnScope ["after", "start", "letters", "letter"] ["after", "start", "letters"] (defScope s_walked) := ⟨rfl, rfl, rfl, by decide +kernel, rfl, by decide +kernel, by decide +kernel⟩

abbrev s_shortest_way : Stmt := topS 3
theorem sc_shortest_way : FnScope ["steps", "start", "goals", "found", "came", "at", "one", "letter", "target"] ["steps", "start", "goals"] (defScope s_shortest_way) := ⟨rfl, rfl, rfl, by decide +kernel, rfl, by decide +kernel, by decide +kernel⟩

abbrev s_way_back : Stmt := topS 4
theorem sc_way_back : FnScope ["came", "end", "letters", "one", "letter"] ["came", "end"] (defScope s_way_back) := ⟨rfl, rfl, rfl, by decide +kernel, rfl, by decide +kernel, by decide +kernel⟩

abbrev s_stepped : Stmt := topS 9
theorem sc_stepped : FnScope ["rooms", "alive", "letters", "letter", "kept", "room", "target"] ["rooms", "alive", "letters"] (defScope s_stepped) := ⟨rfl, rfl, rfl, by decide +kernel, rfl, by decide +kernel, by decide +kernel⟩

abbrev s_holds_row : Stmt := topS 10
theorem sc_holds_row : FnScope ["walker", "rooms", "at_class", "beginning", "period", "here", "seen", "letters", "there", "alive", "_", "room", "kind", "steps"] ["walker", "rooms", "at_class", "beginning", "period"] (defScope s_holds_row) := ⟨rfl, rfl, rfl, by decide +kernel, rfl, by decide +kernel, by decide +kernel⟩

abbrev s_inner_steps : Stmt := topS 11
theorem sc_inner_steps : FnScope ["rooms", "room", "after", "before", "one", "targets", "target", "back", "hall", "steps", "kind", "letter"] ["rooms", "room"] (defScope s_inner_steps) := ⟨rfl, rfl, rfl, by decide +kernel, rfl, by decide +kernel, by decide +kernel⟩

abbrev s_killing_loop : Stmt := topS 12
theorem sc_killing_loop : FnScope ["steps", "room", "rooms", "start", "found", "came", "at", "one", "other", "letter", "target", "step"] ["steps", "room", "rooms", "start"] (defScope s_killing_loop) := ⟨rfl, rfl, rfl, by decide +kernel, rfl, by decide +kernel, by decide +kernel⟩

abbrev s_killing_or_room : Stmt := topS 13
theorem sc_killing_or_room : FnScope ["rooms", "others", "room", "steps", "first", "loops", "start", "loop", "letters", "alive", "at", "kind", "row"] ["rooms", "others", "room"] (defScope s_killing_or_room) := ⟨rfl, rfl, rfl, by decide +kernel, rfl, by decide +kernel, by decide +kernel⟩

abbrev s_RoomBook___init__ : Stmt := inClass (topS 17) 0
theorem sc_RoomBook___init__ : FnScope ["self", "walker", "rooms", "row", "kind", "steps"] ["self", "walker", "rooms"] (defScope s_RoomBook___init__) := ⟨rfl, rfl, rfl, by decide +kernel, rfl, by decide +kernel, by decide +kernel⟩

abbrev s_RoomBook_walker : Stmt := inClass (topS 17) 1
theorem sc_RoomBook_walker : FnScope ["self", "row"] ["self"] (defScope s_RoomBook_walker) := ⟨rfl, rfl, rfl, by decide +kernel, rfl, by decide +kernel, by decide +kernel⟩

abbrev s_RoomBook_rooms : Stmt := inClass (topS 17) 2
theorem sc_RoomBook_rooms : FnScope ["self"] ["self"] (defScope s_RoomBook_rooms) := ⟨rfl, rfl, rfl, by decide +kernel, rfl, by decide +kernel, by decide +kernel⟩

abbrev s_is_held : Stmt := topS 18
theorem sc_is_held : FnScope ["book", "at_class", "beginning", "period"] ["book", "at_class", "beginning", "period"] (defScope s_is_held) := ⟨rfl, rfl, rfl, by decide +kernel, rfl, by decide +kernel, by decide +kernel⟩

abbrev s_killing_word : Stmt := topS 19
theorem sc_killing_word : FnScope ["book", "other", "room"] ["book", "other", "room"] (defScope s_killing_word) := ⟨rfl, rfl, rfl, by decide +kernel, rfl, by decide +kernel, by decide +kernel⟩

abbrev s__law_bag : Stmt := topS 21
theorem sc__law_bag : FnScope ["script", "mixed", "cell"] ["script"] (defScope s__law_bag) := ⟨rfl, rfl, rfl, by decide +kernel, rfl, by decide +kernel, by decide +kernel⟩

abbrev s__law_draw : Stmt := topS 22
theorem sc__law_draw : FnScope ["bag", "sides", "cell", "digit", "mixed"] ["bag", "sides"] (defScope s__law_draw) := ⟨rfl, rfl, rfl, by decide +kernel, rfl, by decide +kernel, by decide +kernel⟩

abbrev s__law_of : Stmt := topS 23
theorem sc__law_of : FnScope ["bag", "things"] ["bag", "things"] (defScope s__law_of) := ⟨rfl, rfl, rfl, by decide +kernel, rfl, by decide +kernel, by decide +kernel⟩

abbrev s__law_order : Stmt := topS 24
theorem sc__law_order : FnScope ["steps", "seen", "found", "thing", "way", "here", "at", "there"] ["steps"] (defScope s__law_order) := ⟨rfl, rfl, rfl, by decide +kernel, rfl, by decide +kernel, by decide +kernel⟩

abbrev s__law_halls : Stmt := topS 25
theorem sc__law_halls : FnScope ["steps", "back", "here", "there", "found", "taken", "count", "thing", "lot", "left", "step"] ["steps"] (defScope s__law_halls) := ⟨rfl, rfl, rfl, by decide +kernel, rfl, by decide +kernel, by decide +kernel⟩

abbrev s__law_along : Stmt := topS 26
theorem sc__law_along : FnScope ["web", "spot", "path", "here", "x"] ["web", "spot", "path"] (defScope s__law_along) := ⟨rfl, rfl, rfl, by decide +kernel, rfl, by decide +kernel, by decide +kernel⟩

abbrev s__law_covered : Stmt := topS 27
theorem sc__law_covered : FnScope ["ours", "p", "yours", "q", "seen", "left", "low", "high", "x", "pair"] ["ours", "p", "yours", "q"] (defScope s__law_covered) := ⟨rfl, rfl, rfl, by decide +kernel, rfl, by decide +kernel, by decide +kernel⟩

abbrev s__law_room_halls : Stmt := topS 28
theorem sc__law_room_halls : FnScope ["cells", "spot", "steps", "there"] ["cells"] (defScope s__law_room_halls) := ⟨rfl, rfl, rfl, by decide +kernel, rfl, by decide +kernel, by decide +kernel⟩

abbrev s__law_stripped : Stmt := topS 29
theorem sc__law_stripped : FnScope ["cells", "halls", "found", "k", "row", "there"] ["cells"] (defScope s__law_stripped) := ⟨rfl, rfl, rfl, by decide +kernel, rfl, by decide +kernel, by decide +kernel⟩

abbrev s__law_kept : Stmt := topS 30
theorem sc__law_kept : FnScope ["cells", "spots", "found", "k", "there"] ["cells", "spots"] (defScope s__law_kept) := ⟨rfl, rfl, rfl, by decide +kernel, rfl, by decide +kernel, by decide +kernel⟩

abbrev s__law_least : Stmt := topS 31
theorem sc__law_least : FnScope ["cells", "kept", "halls", "live", "turn", "p", "heads", "lot", "spots", "k", "q", "there"] ["cells"] (defScope s__law_least) := ⟨rfl, rfl, rfl, by decide +kernel, rfl, by decide +kernel, by decide +kernel⟩

abbrev s__law_held : Stmt := topS 32
theorem sc__law_held : FnScope ["web", "cells", "spot", "lead", "turn", "here", "seen", "k", "at", "x"] ["web", "cells", "spot", "lead", "turn"] (defScope s__law_held) := ⟨rfl, rfl, rfl, by decide +kernel, rfl, by decide +kernel, by decide +kernel⟩

abbrev s__law_class_web : Stmt := topS 33
theorem sc__law_class_web : FnScope ["bag", "many", "size", "shift", "web", "row", "k", "x"] ["bag", "many"] (defScope s__law_class_web) := ⟨rfl, rfl, rfl, by decide +kernel, rfl, by decide +kernel, by decide +kernel⟩

abbrev s__law_cells : Stmt := topS 34
theorem sc__law_cells : FnScope ["bag", "web", "count", "spots", "found", "k", "row", "there", "lot", "lack", "pick", "q"] ["bag", "web", "count"] (defScope s__law_cells) := ⟨rfl, rfl, rfl, by decide +kernel, rfl, by decide +kernel, by decide +kernel⟩

abbrev s__law_like : Stmt := topS 35
theorem sc__law_like : FnScope ["found", "due", "mark", "mine", "yours"] ["found", "due"] (defScope s__law_like) := ⟨rfl, rfl, rfl, by decide +kernel, rfl, by decide +kernel, by decide +kernel⟩

abbrev s__law_letters : Stmt := topS 36
theorem sc__law_letters : FnScope ["found", "many", "x"] ["found", "many"] (defScope s__law_letters) := ⟨rfl, rfl, rfl, by decide +kernel, rfl, by decide +kernel, by decide +kernel⟩

abbrev s__law_bent : Stmt := topS 37
theorem sc__law_bent : FnScope ["bag", "web", "cells", "found", "turn", "spot", "steps", "x", "pick", "way", "lot", "q"] ["bag", "web", "cells"] (defScope s__law_bent) := ⟨rfl, rfl, rfl, by decide +kernel, rfl, by decide +kernel, by decide +kernel⟩

abbrev s__law_stepped : Stmt := topS 38
theorem sc__law_stepped : FnScope ["cells", "p", "path", "at", "x"] ["cells", "p", "path"] (defScope s__law_stepped) := ⟨rfl, rfl, rfl, by decide +kernel, rfl, by decide +kernel, by decide +kernel⟩

abbrev s__law_word_right : Stmt := topS 39
theorem sc__law_word_right : FnScope ["web", "tome", "mine", "far", "theirs", "p", "path", "spots", "due", "q"] ["web", "tome", "mine", "far", "theirs", "p", "path"] (defScope s__law_word_right) := ⟨rfl, rfl, rfl, by decide +kernel, rfl, by decide +kernel, by decide +kernel⟩

abbrev s__law_right : Stmt := topS 40
theorem sc__law_right : FnScope ["web", "tome", "mine", "far", "theirs", "p", "told", "spots", "inner", "due", "q"] ["web", "tome", "mine", "far", "theirs", "p", "told"] (defScope s__law_right) := ⟨rfl, rfl, rfl, by decide +kernel, rfl, by decide +kernel, by decide +kernel⟩

abbrev s__law_asked : Stmt := topS 41
theorem sc__law_asked : FnScope ["web", "mine", "theirs", "tome", "far", "p", "told"] ["web", "mine", "theirs"] (defScope s__law_asked) := ⟨rfl, rfl, rfl, by decide +kernel, rfl, by decide +kernel, by decide +kernel⟩

abbrev s_law : Stmt := topS 42
theorem sc_law : FnScope ["script", "bag", "many", "web", "turn", "mine", "theirs", "cells", "spot"] ["script"] (defScope s_law) := ⟨rfl, rfl, rfl, by decide +kernel, rfl, by decide +kernel, by decide +kernel⟩

structure Ad where
  f_first_walk : Addr
  fd_first_walk : FuncData
  f_walked : Addr
  fd_walked : FuncData
  f_shortest_way : Addr
  fd_shortest_way : FuncData
  f_way_back : Addr
  fd_way_back : FuncData
  f_stepped : Addr
  fd_stepped : FuncData
  f_holds_row : Addr
  fd_holds_row : FuncData
  f_inner_steps : Addr
  fd_inner_steps : FuncData
  f_killing_loop : Addr
  fd_killing_loop : FuncData
  f_killing_or_room : Addr
  fd_killing_or_room : FuncData
  f_RoomBook___init__ : Addr
  fd_RoomBook___init__ : FuncData
  f_RoomBook_walker : Addr
  fd_RoomBook_walker : FuncData
  f_RoomBook_rooms : Addr
  fd_RoomBook_rooms : FuncData
  f_is_held : Addr
  fd_is_held : FuncData
  f_killing_word : Addr
  fd_killing_word : FuncData
  f__law_bag : Addr
  fd__law_bag : FuncData
  f__law_draw : Addr
  fd__law_draw : FuncData
  f__law_of : Addr
  fd__law_of : FuncData
  f__law_order : Addr
  fd__law_order : FuncData
  f__law_halls : Addr
  fd__law_halls : FuncData
  f__law_along : Addr
  fd__law_along : FuncData
  f__law_covered : Addr
  fd__law_covered : FuncData
  f__law_room_halls : Addr
  fd__law_room_halls : FuncData
  f__law_stripped : Addr
  fd__law_stripped : FuncData
  f__law_kept : Addr
  fd__law_kept : FuncData
  f__law_least : Addr
  fd__law_least : FuncData
  f__law_held : Addr
  fd__law_held : FuncData
  f__law_class_web : Addr
  fd__law_class_web : FuncData
  f__law_cells : Addr
  fd__law_cells : FuncData
  f__law_like : Addr
  fd__law_like : FuncData
  f__law_letters : Addr
  fd__law_letters : FuncData
  f__law_bent : Addr
  fd__law_bent : FuncData
  f__law_stepped : Addr
  fd__law_stepped : FuncData
  f__law_word_right : Addr
  fd__law_word_right : FuncData
  f__law_right : Addr
  fd__law_right : FuncData
  f__law_asked : Addr
  fd__law_asked : FuncData
  f_law : Addr
  fd_law : FuncData
  C_RoomBook : Addr
def kg_killing_word_k_0_room_other_book {t : Type} : List t → List t → List t
  | [], [k0, k1, k2] => [k2, k1, k0]
  | _, _ => []
theorem kr_killing_word_k_0_room_other_book {K : PySem.W.Frag} : ∀ (N : Hp) vs ds ws es, RelL K N vs ds → RelL K N ws es → ds.length = 0 → es.length = ["room", "other", "book"].length → RelL K N (kg_killing_word_k_0_room_other_book vs ws) (kg_killing_word_k_0_room_other_book ds es) := by
  intro N vs ds ws es r1 r2 l1 l2
  obtain ⟨rfl, rfl⟩ := r1.split0 l1
  obtain ⟨vk0, ws, dk0, es, rfl, rfl, b0, r2, l2⟩ := r2.split l2
  obtain ⟨vk1, ws, dk1, es, rfl, rfl, b1, r2, l2⟩ := r2.split l2
  obtain ⟨vk2, ws, dk2, es, rfl, rfl, b2, r2, l2⟩ := r2.split l2
  obtain ⟨rfl, rfl⟩ := r2.split0 l2
  exact (.cons b2 (.cons b1 (.cons b0 .nil)))
structure TX (K : PySem.W.Frag) (mg : Str → Option Value) (a : Ad) : Prop where
  fn_first_walk : Fun K "first_walk" "first_walk" s_first_walk a.f_first_walk a.fd_first_walk
  bd_first_walk : Binds K a.fd_first_walk ["after", "start"] []
  mg_first_walk : mg "first_walk" = some (.ref a.f_first_walk)
  kp_first_walk : PySem.W.keepIn K (.ref a.f_first_walk) = true
  fn_walked : Fun K "walked" "walked" s_walked a.f_walked a.fd_walked
  bd_walked : Binds K a.fd_walked ["after", "start", "letters"] []
  mg_walked : mg "walked" = some (.ref a.f_walked)
  kp_walked : PySem.W.keepIn K (.ref a.f_walked) = true
  fn_shortest_way : Fun K "shortest_way" "shortest_way" s_shortest_way a.f_shortest_way a.fd_shortest_way
  bd_shortest_way : Binds K a.fd_shortest_way ["steps", "start", "goals"] []
  mg_shortest_way : mg "shortest_way" = some (.ref a.f_shortest_way)
  kp_shortest_way : PySem.W.keepIn K (.ref a.f_shortest_way) = true
  fn_way_back : Fun K "way_back" "way_back" s_way_back a.f_way_back a.fd_way_back
  bd_way_back : Binds K a.fd_way_back ["came", "end"] []
  mg_way_back : mg "way_back" = some (.ref a.f_way_back)
  kp_way_back : PySem.W.keepIn K (.ref a.f_way_back) = true
  fn_stepped : Fun K "stepped" "stepped" s_stepped a.f_stepped a.fd_stepped
  bd_stepped : Binds K a.fd_stepped ["rooms", "alive", "letters"] []
  mg_stepped : mg "stepped" = some (.ref a.f_stepped)
  kp_stepped : PySem.W.keepIn K (.ref a.f_stepped) = true
  fn_holds_row : Fun K "holds_row" "holds_row" s_holds_row a.f_holds_row a.fd_holds_row
  bd_holds_row : Binds K a.fd_holds_row ["walker", "rooms", "at_class", "beginning", "period"] []
  mg_holds_row : mg "holds_row" = some (.ref a.f_holds_row)
  kp_holds_row : PySem.W.keepIn K (.ref a.f_holds_row) = true
  fn_inner_steps : Fun K "inner_steps" "inner_steps" s_inner_steps a.f_inner_steps a.fd_inner_steps
  bd_inner_steps : Binds K a.fd_inner_steps ["rooms", "room"] []
  mg_inner_steps : mg "inner_steps" = some (.ref a.f_inner_steps)
  kp_inner_steps : PySem.W.keepIn K (.ref a.f_inner_steps) = true
  fn_killing_loop : Fun K "killing_loop" "killing_loop" s_killing_loop a.f_killing_loop a.fd_killing_loop
  bd_killing_loop : Binds K a.fd_killing_loop ["steps", "room", "rooms", "start"] []
  mg_killing_loop : mg "killing_loop" = some (.ref a.f_killing_loop)
  kp_killing_loop : PySem.W.keepIn K (.ref a.f_killing_loop) = true
  fn_killing_or_room : Fun K "killing_or_room" "killing_or_room" s_killing_or_room a.f_killing_or_room a.fd_killing_or_room
  bd_killing_or_room : Binds K a.fd_killing_or_room ["rooms", "others", "room"] []
  mg_killing_or_room : mg "killing_or_room" = some (.ref a.f_killing_or_room)
  kp_killing_or_room : PySem.W.keepIn K (.ref a.f_killing_or_room) = true
  fn_RoomBook___init__ : Fun K "__init__" "RoomBook.__init__" s_RoomBook___init__ a.f_RoomBook___init__ a.fd_RoomBook___init__
  bd_RoomBook___init__ : Binds K a.fd_RoomBook___init__ ["self", "walker", "rooms"] []
  fn_RoomBook_walker : Fun K "walker" "RoomBook.walker" s_RoomBook_walker a.f_RoomBook_walker a.fd_RoomBook_walker
  bd_RoomBook_walker : Binds K a.fd_RoomBook_walker ["self"] []
  me_RoomBook_walker : Meth K a.C_RoomBook "walker" a.f_RoomBook_walker
  fn_RoomBook_rooms : Fun K "rooms" "RoomBook.rooms" s_RoomBook_rooms a.f_RoomBook_rooms a.fd_RoomBook_rooms
  bd_RoomBook_rooms : Binds K a.fd_RoomBook_rooms ["self"] []
  me_RoomBook_rooms : Meth K a.C_RoomBook "rooms" a.f_RoomBook_rooms
  fn_is_held : Fun K "is_held" "is_held" s_is_held a.f_is_held a.fd_is_held
  bd_is_held : Binds K a.fd_is_held ["book", "at_class", "beginning", "period"] []
  mg_is_held : mg "is_held" = some (.ref a.f_is_held)
  kp_is_held : PySem.W.keepIn K (.ref a.f_is_held) = true
  fn_killing_word : Fun K "killing_word" "killing_word" s_killing_word a.f_killing_word a.fd_killing_word
  bd_killing_word : Binds K a.fd_killing_word ["book", "other", "room"] []
  mg_killing_word : mg "killing_word" = some (.ref a.f_killing_word)
  kp_killing_word : PySem.W.keepIn K (.ref a.f_killing_word) = true
  fn__law_bag : Fun K "_law_bag" "_law_bag" s__law_bag a.f__law_bag a.fd__law_bag
  bd__law_bag : Binds K a.fd__law_bag ["script"] []
  mg__law_bag : mg "_law_bag" = some (.ref a.f__law_bag)
  kp__law_bag : PySem.W.keepIn K (.ref a.f__law_bag) = true
  fn__law_draw : Fun K "_law_draw" "_law_draw" s__law_draw a.f__law_draw a.fd__law_draw
  bd__law_draw : Binds K a.fd__law_draw ["bag", "sides"] []
  mg__law_draw : mg "_law_draw" = some (.ref a.f__law_draw)
  kp__law_draw : PySem.W.keepIn K (.ref a.f__law_draw) = true
  fn__law_of : Fun K "_law_of" "_law_of" s__law_of a.f__law_of a.fd__law_of
  bd__law_of : Binds K a.fd__law_of ["bag", "things"] []
  mg__law_of : mg "_law_of" = some (.ref a.f__law_of)
  kp__law_of : PySem.W.keepIn K (.ref a.f__law_of) = true
  fn__law_order : Fun K "_law_order" "_law_order" s__law_order a.f__law_order a.fd__law_order
  bd__law_order : Binds K a.fd__law_order ["steps"] []
  mg__law_order : mg "_law_order" = some (.ref a.f__law_order)
  kp__law_order : PySem.W.keepIn K (.ref a.f__law_order) = true
  fn__law_halls : Fun K "_law_halls" "_law_halls" s__law_halls a.f__law_halls a.fd__law_halls
  bd__law_halls : Binds K a.fd__law_halls ["steps"] []
  mg__law_halls : mg "_law_halls" = some (.ref a.f__law_halls)
  kp__law_halls : PySem.W.keepIn K (.ref a.f__law_halls) = true
  fn__law_along : Fun K "_law_along" "_law_along" s__law_along a.f__law_along a.fd__law_along
  bd__law_along : Binds K a.fd__law_along ["web", "spot", "path"] []
  mg__law_along : mg "_law_along" = some (.ref a.f__law_along)
  kp__law_along : PySem.W.keepIn K (.ref a.f__law_along) = true
  fn__law_covered : Fun K "_law_covered" "_law_covered" s__law_covered a.f__law_covered a.fd__law_covered
  bd__law_covered : Binds K a.fd__law_covered ["ours", "p", "yours", "q"] []
  mg__law_covered : mg "_law_covered" = some (.ref a.f__law_covered)
  kp__law_covered : PySem.W.keepIn K (.ref a.f__law_covered) = true
  fn__law_room_halls : Fun K "_law_room_halls" "_law_room_halls" s__law_room_halls a.f__law_room_halls a.fd__law_room_halls
  bd__law_room_halls : Binds K a.fd__law_room_halls ["cells"] []
  mg__law_room_halls : mg "_law_room_halls" = some (.ref a.f__law_room_halls)
  kp__law_room_halls : PySem.W.keepIn K (.ref a.f__law_room_halls) = true
  fn__law_stripped : Fun K "_law_stripped" "_law_stripped" s__law_stripped a.f__law_stripped a.fd__law_stripped
  bd__law_stripped : Binds K a.fd__law_stripped ["cells"] []
  mg__law_stripped : mg "_law_stripped" = some (.ref a.f__law_stripped)
  kp__law_stripped : PySem.W.keepIn K (.ref a.f__law_stripped) = true
  fn__law_kept : Fun K "_law_kept" "_law_kept" s__law_kept a.f__law_kept a.fd__law_kept
  bd__law_kept : Binds K a.fd__law_kept ["cells", "spots"] []
  mg__law_kept : mg "_law_kept" = some (.ref a.f__law_kept)
  kp__law_kept : PySem.W.keepIn K (.ref a.f__law_kept) = true
  fn__law_least : Fun K "_law_least" "_law_least" s__law_least a.f__law_least a.fd__law_least
  bd__law_least : Binds K a.fd__law_least ["cells"] []
  mg__law_least : mg "_law_least" = some (.ref a.f__law_least)
  kp__law_least : PySem.W.keepIn K (.ref a.f__law_least) = true
  fn__law_held : Fun K "_law_held" "_law_held" s__law_held a.f__law_held a.fd__law_held
  bd__law_held : Binds K a.fd__law_held ["web", "cells", "spot", "lead", "turn"] []
  mg__law_held : mg "_law_held" = some (.ref a.f__law_held)
  kp__law_held : PySem.W.keepIn K (.ref a.f__law_held) = true
  fn__law_class_web : Fun K "_law_class_web" "_law_class_web" s__law_class_web a.f__law_class_web a.fd__law_class_web
  bd__law_class_web : Binds K a.fd__law_class_web ["bag", "many"] []
  mg__law_class_web : mg "_law_class_web" = some (.ref a.f__law_class_web)
  kp__law_class_web : PySem.W.keepIn K (.ref a.f__law_class_web) = true
  fn__law_cells : Fun K "_law_cells" "_law_cells" s__law_cells a.f__law_cells a.fd__law_cells
  bd__law_cells : Binds K a.fd__law_cells ["bag", "web", "count"] []
  mg__law_cells : mg "_law_cells" = some (.ref a.f__law_cells)
  kp__law_cells : PySem.W.keepIn K (.ref a.f__law_cells) = true
  fn__law_like : Fun K "_law_like" "_law_like" s__law_like a.f__law_like a.fd__law_like
  bd__law_like : Binds K a.fd__law_like ["found", "due"] []
  mg__law_like : mg "_law_like" = some (.ref a.f__law_like)
  kp__law_like : PySem.W.keepIn K (.ref a.f__law_like) = true
  fn__law_letters : Fun K "_law_letters" "_law_letters" s__law_letters a.f__law_letters a.fd__law_letters
  bd__law_letters : Binds K a.fd__law_letters ["found", "many"] []
  mg__law_letters : mg "_law_letters" = some (.ref a.f__law_letters)
  kp__law_letters : PySem.W.keepIn K (.ref a.f__law_letters) = true
  fn__law_bent : Fun K "_law_bent" "_law_bent" s__law_bent a.f__law_bent a.fd__law_bent
  bd__law_bent : Binds K a.fd__law_bent ["bag", "web", "cells"] []
  mg__law_bent : mg "_law_bent" = some (.ref a.f__law_bent)
  kp__law_bent : PySem.W.keepIn K (.ref a.f__law_bent) = true
  fn__law_stepped : Fun K "_law_stepped" "_law_stepped" s__law_stepped a.f__law_stepped a.fd__law_stepped
  bd__law_stepped : Binds K a.fd__law_stepped ["cells", "p", "path"] []
  mg__law_stepped : mg "_law_stepped" = some (.ref a.f__law_stepped)
  kp__law_stepped : PySem.W.keepIn K (.ref a.f__law_stepped) = true
  fn__law_word_right : Fun K "_law_word_right" "_law_word_right" s__law_word_right a.f__law_word_right a.fd__law_word_right
  bd__law_word_right : Binds K a.fd__law_word_right ["web", "tome", "mine", "far", "theirs", "p", "path"] []
  mg__law_word_right : mg "_law_word_right" = some (.ref a.f__law_word_right)
  kp__law_word_right : PySem.W.keepIn K (.ref a.f__law_word_right) = true
  fn__law_right : Fun K "_law_right" "_law_right" s__law_right a.f__law_right a.fd__law_right
  bd__law_right : Binds K a.fd__law_right ["web", "tome", "mine", "far", "theirs", "p", "told"] []
  mg__law_right : mg "_law_right" = some (.ref a.f__law_right)
  kp__law_right : PySem.W.keepIn K (.ref a.f__law_right) = true
  fn__law_asked : Fun K "_law_asked" "_law_asked" s__law_asked a.f__law_asked a.fd__law_asked
  bd__law_asked : Binds K a.fd__law_asked ["web", "mine", "theirs"] []
  mg__law_asked : mg "_law_asked" = some (.ref a.f__law_asked)
  kp__law_asked : PySem.W.keepIn K (.ref a.f__law_asked) = true
  fn_law : Fun K "law" "law" s_law a.f_law a.fd_law
  bd_law : Binds K a.fd_law ["script"] []
  mg_law : mg "law" = some (.ref a.f_law)
  kp_law : PySem.W.keepIn K (.ref a.f_law) = true
  mg_RoomBook : mg "RoomBook" = some (.ref a.C_RoomBook)
  cl_RoomBook : Cls K a.C_RoomBook
  mk_RoomBook : Mk K a.C_RoomBook a.f_RoomBook___init__
  na_RoomBook__walker : NoAttr K a.C_RoomBook "_walker"
  na_RoomBook__rooms : NoAttr K a.C_RoomBook "_rooms"
  b_abs : mg "abs" = none
  b_all : mg "all" = none
  b_any : mg "any" = none
  b_bool : mg "bool" = none
  b_dict : mg "dict" = none
  b_enumerate : mg "enumerate" = none
  b_int : mg "int" = none
  b_isinstance : mg "isinstance" = none
  b_len : mg "len" = none
  b_list : mg "list" = none
  b_range : mg "range" = none
  b_str : mg "str" = none
  b_tuple : mg "tuple" = none
  b_zip : mg "zip" = none
  kb_killing_word_k_0_room_other_book : KBn K a.fd_killing_word ["book", "other", "room"] 0 ["room", "other", "book"] kg_killing_word_k_0_room_other_book kg_killing_word_k_0_room_other_book
end L29

set_option Elab.async false
set_option linter.all false
set_option maxRecDepth 100000
set_option maxHeartbeats 4000000
namespace L29
open PySem PySem.Spec PyProof.Rows L2 DL
def GoodBag (c : MC) : Prop := ∃ (cs : List Int) (i r m c' : Int), c = .lst [.list (cs.map D.int), .int i, .int r, .int m, .int c'] ∧ 0 ≤ i ∧ 0 ≤ r ∧ 0 ≤ m ∧ m < 2147483648
def Bag (M : Mp) (b : Addr) : Prop := ∃ c, M b = some c ∧ GoodBag c
def sp__law_draw : aSp := fun ds M Q => ∃ b n, ds = [.ref b, .int n] ∧ 0 < n ∧ n < 1073741824 ∧ Bag M b ∧ ∀ (i : Int) c, 0 ≤ i → i < n → GoodBag c → Q (.int i) (mupd M b c)
theorem ints_at (cs : List Int) {i : Int} (h : 0 ≤ i) (h2 : i < (cs.map D.int).length) : ∃ x, atI (cs.map D.int) i = some (.int x) := by
  rw [List.length_map] at h2
  refine ⟨cs[i.toNat]'(by omega), ?_⟩
  rw [atI_nn _ h, List.getElem?_map, List.getElem?_eq_getElem (by omega)]
  rfl
section
variable {P : Program} {w : World} {K : PySem.W.Frag} {mg : Str → Option Value} {base : Heap} {a : Ad}
theorem ok__law_draw (T : TX K mg a) : FnOk P w K mg base CX0 1 a.f__law_draw a.fd__law_draw ["bag", "sides"] (lift K 2 sp__law_draw) := by
  refine okD (k := 0) T.fn__law_draw sc__law_draw rfl fun cdv A outer s H E hr => ⟨_, _, (dss_cons (ds_asg (de_add (de_ix (hu_of hr) (dv 0) de_int (fun _ _ => rfl)) de_int) (dg_subL (dv 0) de_int))
      (dss_cons (ds_if (DW.dt (dw_and (dt_cmp (op_eqD hr.units) s2_eq (de_ix (hu_of hr) (dv 0) de_int (fun _ _ => rfl)) de_int (nomark _)) (dw_and1 (dt_cmp op_lt s2_lt (de_ix (hu_of hr) (dv 0) de_int (fun _ _ => rfl)) (de_callB call_lenA sl_len (by rfl) T.b_len (by decide +kernel) (da_cons (de_ix (hu_of hr) (dv 0) de_int (fun _ _ => rfl)) da_nil)) (nomark _))))) (dss_cons (ds_set (j := 2) sc__law_draw.nd rfl (by first | exact .inl rfl | exact .inr rfl) (de_callB call_abs sl_abs (by rfl) T.b_abs (by decide +kernel) (da_cons (de_callTy call_int1 sl_int (by rfl) T.b_int (by decide +kernel) (da_cons (de_ix (hu_of hr) (de_ix (hu_of hr) (dv 0) de_int (fun _ _ => rfl)) (de_ix (hu_of hr) (dv 0) de_int (fun _ _ => rfl)) (fun _ _ => rfl)) da_nil)) da_nil)))
      (dss_cons (ds_asg (de_add (de_ix (hu_of hr) (dv 0) de_int (fun _ _ => rfl)) de_int) (dg_subL (dv 0) de_int))
      (dss_one (ds_if (dt_cmp op_ge s2_ge (dv 2) (de_pow de_int de_int) (nomark _)) (dss_one (ds_asg (dv 2) (dg_subL (dv 0) de_int))) (dss_one (ds_asg (de_mod (de_callTy call_int1 sl_int (by rfl) T.b_int (by decide +kernel) (da_cons (de_add (de_add (de_mul (de_ix (hu_of hr) (dv 0) de_int (fun _ _ => rfl)) de_int) (de_mul (de_mod (de_callTy call_int1 sl_int (by rfl) T.b_int (by decide +kernel) (da_cons (dv 2) da_nil)) de_int) de_int)) de_int) da_nil)) de_int) (dg_subL (dv 0) de_int))))))) dss_nil)
      (dss_cons (ds_if (dt_cmp op_gt s2_gt (de_ix (hu_of hr) (dv 0) de_int (fun _ _ => rfl)) de_int (nomark _)) (dss_cons (ds_set (j := 3) sc__law_draw.nd rfl (by first | exact .inl rfl | exact .inr rfl) (de_mod (de_callTy call_int1 sl_int (by rfl) T.b_int (by decide +kernel) (da_cons (de_ix (hu_of hr) (dv 0) de_int (fun _ _ => rfl)) da_nil)) (dv 1)))
      (dss_cons (ds_asg (de_div (de_ix (hu_of hr) (dv 0) de_int (fun _ _ => rfl)) (dv 1)) (dg_subL (dv 0) de_int))
      (dss_one (ds_ret (dv 3))))) dss_nil)
      (dss_cons (ds_set (j := 4) sc__law_draw.nd rfl (by first | exact .inl rfl | exact .inr rfl) (de_callTy call_int1 sl_int (by rfl) T.b_int (by decide +kernel) (da_cons (de_ix (hu_of hr) (dv 0) de_int (fun _ _ => rfl)) da_nil)))
      (dss_cons (ds_asg (de_mod (de_callTy call_int1 sl_int (by rfl) T.b_int (by decide +kernel) (da_cons (de_add (de_add (de_add (de_mul (de_mul (dv 4) (dv 4)) de_int) (de_mul (dv 4) de_int)) (de_mul (de_ix (hu_of hr) (dv 0) de_int (fun _ _ => rfl)) de_int)) de_int) da_nil)) de_int) (dg_subL (dv 0) de_int))
      (dss_one (ds_ret (de_mod (de_callTy call_int1 sl_int (by rfl) T.b_int (by decide +kernel) (da_cons (de_add (de_div (de_ix (hu_of hr) (dv 0) de_int (fun _ _ => rfl)) de_int) (de_mul (de_mod (de_callTy call_int1 sl_int (by rfl) T.b_int (by decide +kernel) (da_cons (de_ix (hu_of hr) (dv 0) de_int (fun _ _ => rfl)) da_nil)) de_int) de_int)) da_nil)) (dv 1))))))))), fun ds M Q hl h => ?_⟩
  obtain ⟨b, n, rfl, h0, h1, ⟨c, hb, cs, i, r, m, c', rfl, hi, hr0, hm0, hm1⟩, q⟩ := h
  simp only [startG, List.map_cons, List.map_nil, List.cons_append, List.nil_append, List.length_cons, List.length_nil, List.replicate, Nat.zero_add, Nat.reduceAdd, Nat.reduceSub]
  walk_at "go"
  refine go_seqK (J := fun G' M' => ∃ (x : Option D) (cs : List Int) (i r m c' : Int), G' = [some (.ref b), some (.int n), x, none, none] ∧ M' = mupd M b (.lst [.list (cs.map D.int), .int i, .int r, .int m, .int c']) ∧ 0 ≤ i ∧ 0 ≤ r ∧ 0 ≤ m ∧ m < 2147483648) (fun nx hk => ?_) (fun G' M' hJ => ?_)
  · walk_at "go"
    refine go_ite (fun e1 => ?_) (fun e1 => ?_)
    · walk_at "go"
      refine go_ite (fun e2 => ?_) (fun e2 => ?_)
      · have e2 := of_decide_eq_true e2
        obtain ⟨x, hx⟩ := ints_at cs hi e2
        walk_at "go"
        refine go_ite (fun e3 => ?_) (fun e3 => ?_)
        · walk_at "go"
          rw [mupd_mupd, mupd_mupd]
          exact hk _ _ ⟨_, cs, i + 1, _, m, c' + 1, rfl, rfl, by omega, by split <;> omega, hm0, hm1⟩
        · walk_at "go"
          rw [mupd_mupd, mupd_mupd]
          exact hk _ _ ⟨_, cs, i + 1, r, _, c' + 1, rfl, rfl, by omega, by omega, Int.emod_nonneg _ (by decide), by have := Int.emod_lt_of_pos (if x < 0 then -x else x) (show (0:Int) < 2147483587 by decide); omega⟩
      · walk_at "go"
        exact hk _ _ ⟨_, cs, i, r, m, c' + 1, rfl, rfl, hi, hr0, hm0, hm1⟩
    · walk_at "go"
      exact hk _ _ ⟨_, cs, i, r, m, c' + 1, rfl, rfl, hi, hr0, hm0, hm1⟩
  · obtain ⟨x, cs, i, r, m, c', rfl, rfl, hi, hr0, hm0, hm1⟩ := hJ
    refine go_seq ?_
    walk_at "go"
    refine go_ite (fun e1 => ?_) (fun e1 => ?_)
    · have e1 := of_decide_eq_true e1
      walk_at "go"
      rw [mupd_mupd]
      exact Fin.of (q _ _ (Int.emod_nonneg _ (by omega)) (Int.emod_lt_of_pos _ h0) ⟨cs, i, _, m, c', rfl, hi, Int.ediv_nonneg hr0 (by omega), hm0, hm1⟩)
    · walk_at "go"
      rw [mupd_mupd]
      have z := Int.emod_nonneg (m * m * 29 + m * 45013 + c' * 104743 + 50023) (show (2147483549 : Int) ≠ 0 by decide)
      have z2 := Int.emod_lt_of_pos (m * m * 29 + m * 45013 + c' * 104743 + 50023) (show (0 : Int) < 2147483549 by decide)
      exact Fin.of (q _ _ (Int.emod_nonneg _ (by omega)) (Int.emod_lt_of_pos _ h0) ⟨cs, i, r, _, c', rfl, hi, hr0, z, by omega⟩)
end
end L29

set_option Elab.async false
set_option linter.all false
set_option maxRecDepth 100000
set_option maxHeartbeats 4000000
namespace L29
open PySem PySem.Spec PyProof.Rows L2 DL
def sp__law_bag : aSp := fun ds M Q => ∃ ns : List Int, ds = [.rol (ns.map .int)] ∧ ns.length ≤ 63 ∧ ∀ b c, M b = none → GoodBag c → Q (.ref b) (mupd M b c)
def sp__law_of : aSp := fun ds M Q => ∃ b things, ds = [.ref b, .list things] ∧ things ≠ [] ∧ things.length < 1073741824 ∧ Bag M b ∧ ∀ d c, d ∈ things → GoodBag c → Q d (mupd M b c)
theorem cut63 (ns : List Int) : DL.cutD (ns.map D.int) none (some 63) = (ns.take 63).map D.int := by
  unfold DL.cutD
  rw [HT.sIx_none, List.drop_zero, show (some (63 : Int)) = some ((63 : Nat) : Int) from rfl, HT.sIx_nat, List.length_map, Nat.sub_zero, List.map_take]
  by_cases h : 63 ≤ ns.length
  · rw [Nat.min_eq_left h]
  · rw [Nat.min_eq_right (by omega), List.take_of_length_le (by simp), List.take_of_length_le (by simp; omega)]
section
variable {P : Program} {w : World} {K : PySem.W.Frag} {mg : Str → Option Value} {base : Heap} {a : Ad}
theorem ok__law_bag (T : TX K mg a) : FnOk P w K mg base CX0 1 a.f__law_bag a.fd__law_bag ["script"] (lift K 1 sp__law_bag) := by
  refine okD (k := 0) T.fn__law_bag sc__law_bag rfl fun cdv A outer s H E hr => ⟨_, _, (dss_cons (ds_set (j := 1) sc__law_bag.nd rfl (by first | exact .inl rfl | exact .inr rfl) de_int)
      (dss_cons (ds_for (di_seq (de_slice (dv 0) do_none (do_some de_int))) (dg_name (j := 2) sc__law_bag.nd rfl (by first | exact .inl rfl | exact .inr rfl)) (dss_one (ds_set (j := 1) sc__law_bag.nd rfl (by first | exact .inl rfl | exact .inr rfl) (de_mod (de_callTy call_int1 sl_int (by rfl) T.b_int (by decide +kernel) (da_cons (de_add (de_add (de_mul (dv 1) de_int) (de_mul (de_mod (de_callTy call_int1 sl_int (by rfl) T.b_int (by decide +kernel) (da_cons (dv 2) da_nil)) de_int) de_int)) de_int) da_nil)) de_int))) PassesOwn.never)
      (dss_one (ds_ret (de_lstM (da_cons (de_callTy call_list_of sl_list (by rfl) T.b_list (by decide +kernel) (da_cons (de_slice (dv 0) do_none (do_some de_int)) da_nil)) (da_cons de_int (da_cons de_int (da_cons (dv 1) (da_cons de_int da_nil)))))))))), fun ds M Q hl h => ?_⟩
  obtain ⟨ns, rfl, hns, q⟩ := h
  walk_at "start"
  walk_at "go"
  refine go_seqK (J := fun G' M' => ∃ (m : Int) (x : Option D), G' = [some (.rol (ns.map .int)), some (.int m), x] ∧ M' = M ∧ 0 ≤ m ∧ m < 2147483648) (fun nx hk => ?_) (fun G' M' hJ => ?_)
  · walk_at "go"
    rw [cut63]
    refine go_forI (fun i G' M' => ∃ (m : Int) (x : Option D), G' = [some (.rol (ns.map .int)), some (.int m), x] ∧ M' = M ∧ 0 ≤ m ∧ m < 2147483648) ⟨20113979, none, rfl, rfl, by decide, by decide⟩ (fun i d G' M' nx' hd hI hn => ?_) (fun G' M' hI => hk G' M' hI)
    obtain ⟨m, x, rfl, rfl, hm0, hm1⟩ := hI
    rw [List.getElem?_map] at hd
    obtain ⟨z, _, rfl⟩ := Option.map_eq_some_iff.mp hd
    walk_at "go"
    exact hn _ _ ⟨_, _, rfl, rfl, Int.emod_nonneg _ (by decide), by have := Int.emod_lt_of_pos (m * 52433 + z % 1000621 * 887 + 59) (show (0:Int) < 2147483563 by decide); omega⟩
  · obtain ⟨m, x, rfl, rfl, hm0, hm1⟩ := hJ
    walk_at "go"
    intro p hp
    rw [cut63]
    exact Fin.of (q p _ hp ⟨ns.take 63, 0, 0, m, 0, rfl, by decide, by decide, hm0, hm1⟩)
theorem ok__law_of (T : TX K mg a) : FnOk P w K mg base CX0 2 a.f__law_of a.fd__law_of ["bag", "things"] (lift K 2 sp__law_of) := by
  refine okD (k := 1) T.fn__law_of sc__law_of rfl fun cdv A outer s H E hr => ⟨_, _, (dss_one (ds_ret (de_ix (hu_of hr) (dv 1) (de_call (ok__law_draw T) (hr.mono (by decide)) (by rfl) T.mg__law_draw T.kp__law_draw T.bd__law_draw pass0 (da_cons (dv 0) (da_cons (de_callB call_lenA sl_len (by rfl) T.b_len (by decide +kernel) (da_cons (dv 1) da_nil)) da_nil))) (fun _ _ => rfl)))), fun ds M Q hl h => ?_⟩
  obtain ⟨b, things, rfl, h0, h1, hb, q⟩ := h
  walk_at "start"
  walk_at "go"
  have hl : 0 < things.length := List.length_pos_iff.mpr h0
  refine ⟨b, (things.length : Int), rfl, by omega, by omega, hb, fun i c hi0 hi1 hc => ?_⟩
  walk_at "go"
  · rw [atI_nn _ hi0]
    exact List.getElem?_eq_getElem (by omega)
  exact Fin.of (q _ c (List.getElem_mem _) hc)
end
end L29

set_option Elab.async false
set_option linter.all false
set_option maxRecDepth 100000
set_option maxHeartbeats 4000000
namespace L29
open PySem PySem.Spec PyProof.Rows L2 DL
/-- the bag stands, what was there stands -/
def Kp (M : Mp) (b : Addr) (M' : Mp) : Prop := Bag M' b ∧ ∀ a x, a ≠ b → M a = some x → M' a = some x
theorem Kp.bag {M M' : Mp} {b : Addr} (k : Kp M b M') : Bag M' b := k.1
theorem Kp.refl {M : Mp} {b : Addr} (k : Bag M b) : Kp M b M := ⟨k, fun _ _ _ h => h⟩
theorem Kp.draw {M M' : Mp} {b : Addr} {c : MC} (k : Kp M b M') (g : GoodBag c) : Kp M b (mupd M' b c) := ⟨⟨c, mupd_same, g⟩, fun a x h e => by rw [mupd_ne h]; exact k.2 a x h e⟩
theorem Kp.ne {M M' : Mp} {b p : Addr} (k : Kp M b M') (h : M' p = none) : p ≠ b := by
  intro e; subst e
  obtain ⟨c, h1, _⟩ := k.1
  rw [h] at h1; cases h1
theorem Kp.fresh {M M' : Mp} {b p : Addr} (k : Kp M b M') (h : M' p = none) : M p = none := by
  cases e : M p with
  | none => rfl
  | some x => rw [k.2 p x (k.ne h) e] at h; cases h
theorem Kp.mut {M M' : Mp} {b p : Addr} {c : MC} (k : Kp M b M') (h : M p = none) (hn : p ≠ b) : Kp M b (mupd M' p c) := by
  refine ⟨?_, fun a x ha e => ?_⟩
  · obtain ⟨c', h1, h2⟩ := k.1
    exact ⟨c', by rw [mupd_ne (Ne.symm hn)]; exact h1, h2⟩
  · have : a ≠ p := fun z => by subst z; rw [h] at e; cases e
    rw [mupd_ne this]
    exact k.2 a x ha e
theorem Kp.new {M M' : Mp} {b p : Addr} {c : MC} (k : Kp M b M') (h : M' p = none) : Kp M b (mupd M' p c) := k.mut (k.fresh h) (k.ne h)
theorem Kp.sub {M M' : Mp} {b : Addr} (k : Kp M b M') : ∃ c, GoodBag c ∧ Sub (mupd M b c) M' := by
  obtain ⟨⟨c, h1, h2⟩, h3⟩ := k
  refine ⟨c, h2, fun a x e => ?_⟩
  by_cases q : a = b
  · subst q
    rw [mupd_same] at e
    cases e
    exact h1
  · rw [mupd_ne q] at e
    exact h3 a x q e
/-- .. also where lists are read as standing -/
theorem Kp.subL {M M' : Mp} {b : Addr} (k : Kp M b M') {L : List Addr} (hL : ∀ p ∈ L, M p = none ∧ p ≠ b) : ∃ c, GoodBag c ∧ Sub (mupd M b c) (mdelL M' L) := by
  obtain ⟨c, h1, h2⟩ := k.sub
  refine ⟨c, h1, fun a x e => ?_⟩
  rw [mdelL_get]
  by_cases q : a ∈ L
  · obtain ⟨h3, h4⟩ := hL a q
    rw [mupd_ne h4, h3] at e
    cases e
  · rw [if_neg q]
    exact h2 a x e
theorem draw_go {M M' : Mp} {b : Addr} {n : Int} {Q : QD} (k : Kp M b M') (h0 : 0 < n) (h1 : n < 1073741824) (q : ∀ (i : Int) c, 0 ≤ i → i < n → GoodBag c → Kp M b (mupd M' b c) → Q (.int i) (mupd M' b c)) : sp__law_draw [.ref b, .int n] M' Q :=
  ⟨b, n, rfl, h0, h1, k.bag, fun i c a1 a2 g => q i c a1 a2 g (k.draw g)⟩
theorem of_go {M M' : Mp} {b : Addr} {things : List D} {Q : QD} (k : Kp M b M') (h0 : things ≠ []) (h1 : things.length < 1073741824) (q : ∀ d c, d ∈ things → GoodBag c → Kp M b (mupd M' b c) → Q d (mupd M' b c)) : sp__law_of [.ref b, .list things] M' Q :=
  ⟨b, things, rfl, h0, h1, k.bag, fun i c a1 g => q i c a1 g (k.draw g)⟩
/-- rows that are lists of ints, of one length, our own -/
def Rw (M : Mp) (b : Addr) (sz n : Int) (M' : Mp) (ps : List Addr) : Prop := ∀ p ∈ ps, (M p = none ∧ p ≠ b) ∧ ∃ r : List Int, ((r.length : Int) = n ∧ ∀ t ∈ r, 0 ≤ t ∧ t < sz) ∧ M' p = some (.lst (r.map .int))
theorem Rw.oth {M M' : Mp} {b x : Addr} {sz n : Int} {ps : List Addr} {c : MC} (h : Rw M b sz n M' ps) (hx : x ∉ ps) : Rw M b sz n (mupd M' x c) ps := fun p hp => by
  obtain ⟨h1, r, h2, h3⟩ := h p hp
  exact ⟨h1, r, h2, by rw [mupd_ne (fun e => by subst e; exact hx hp)]; exact h3⟩
theorem Rw.put {M M' : Mp} {b x : Addr} {sz n : Int} {ps : List Addr} (h : Rw M b sz n M' ps) {r : List Int} (hr : (r.length : Int) = n ∧ ∀ t ∈ r, 0 ≤ t ∧ t < sz) : Rw M b sz n (mupd M' x (.lst (r.map .int))) ps := fun p hp => by
  obtain ⟨h1, r', h2, h3⟩ := h p hp
  by_cases q : p = x
  · subst q
    exact ⟨h1, r, hr, mupd_same⟩
  · exact ⟨h1, r', h2, by rw [mupd_ne q]; exact h3⟩
theorem Rw.fresh {M M' : Mp} {b x : Addr} {sz n : Int} {ps : List Addr} (h : Rw M b sz n M' ps) (hx : M' x = none) : x ∉ ps := fun hp => by
  obtain ⟨h1, r, h2, h3⟩ := h x hp
  rw [hx] at h3; cases h3
theorem Rw.nb {M M' : Mp} {b : Addr} {sz n : Int} {ps : List Addr} (h : Rw M b sz n M' ps) : b ∉ ps := fun hp => (h b hp).1.2 rfl
theorem Rw.dz {M M' : Mp} {b : Addr} {sz n : Int} {L : List Addr} : ∀ {ps : List Addr}, Rw M b sz n M' ps → (∀ p ∈ ps, p ∈ L) → ∃ web : List (List Int), web.length = ps.length ∧ (∀ r ∈ web, (r.length : Int) = n ∧ ∀ t ∈ r, 0 ≤ t ∧ t < sz) ∧ Dzs M' L (ps.map .ref) (web.map fun r => .list (r.map .int))
  | [], _, _ => ⟨[], rfl, by simp, .nil⟩
  | p :: ps, h, hl => by
    obtain ⟨_, r, h2, h3⟩ := h p (by simp)
    obtain ⟨web, e1, e2, e3⟩ := Rw.dz (ps := ps) (fun q hq => h q (by simp [hq])) (fun q hq => hl q (by simp [hq]))
    refine ⟨r :: web, by simp [e1], fun x hx => ?_, .cons (.ref (hl p (by simp)) h3 (dzs_same _)) e3⟩
    rcases List.mem_cons.mp hx with rfl | hx
    · exact h2
    · exact e2 x hx
def sp__law_class_web : aSp := fun ds M Q => ∃ b many, ds = [.ref b, .int many] ∧ 0 < many ∧ many < 1000 ∧ Bag M b ∧ ∀ web : List (List Int), ∀ c, web ≠ [] → web.length ≤ 3 → (∀ r ∈ web, (r.length : Int) = many ∧ ∀ t ∈ r, 0 ≤ t ∧ t < (web.length : Int)) → GoodBag c → Q (.list (web.map fun r => .list (r.map .int))) (mupd M b c)
section
variable {P : Program} {w : World} {K : PySem.W.Frag} {mg : Str → Option Value} {base : Heap} {a : Ad}
theorem ok__law_class_web (T : TX K mg a) : FnOk P w K mg base CX0 3 a.f__law_class_web a.fd__law_class_web ["bag", "many"] (lift K 2 sp__law_class_web) := by
  refine okD (k := 2) T.fn__law_class_web sc__law_class_web rfl fun cdv A outer s H E hr => ⟨_, _, (dss_cons (ds_asg (de_tup (da_cons (de_call (ok__law_of T) (hr.mono (by decide)) (by rfl) T.mg__law_of T.kp__law_of T.bd__law_of pass0 (da_cons (dv 0) (da_cons (de_lst (da_cons de_int (da_cons de_int (da_cons de_int (da_cons de_int (da_cons de_int da_nil)))))) da_nil))) (da_cons (de_call (ok__law_draw T) (hr.mono (by decide)) (by rfl) T.mg__law_draw T.kp__law_draw T.bd__law_draw pass0 (da_cons (dv 0) (da_cons (dv 1) da_nil))) da_nil))) (dg_tup (dgs_cons (dg_name (j := 2) sc__law_class_web.nd rfl (by first | exact .inl rfl | exact .inr rfl)) (dgs_cons (dg_name (j := 3) sc__law_class_web.nd rfl (by first | exact .inl rfl | exact .inr rfl)) dgs_nil))))
      (dss_cons (ds_setLc (j := 4) (own := [("k", 6)]) rfl sc__law_class_web.nd rfl rfl (sw_true rfl rfl rfl (by decide +kernel)) (di_range1 (by rfl) T.b_range (da_cons (dv 2) da_nil)) (blkOk_by (by rfl)) (fun _ _ _ _ _ => (dg_name (j := 6) sc__law_class_web.nd rfl (by first | exact .inl rfl | exact .inr rfl))) (fun _ _ _ _ _ => dts_nil) (fun _ _ _ _ _ => (de_lcM (own := [("x", 7)]) rfl sc__law_class_web.nd (di_range1 (by rfl) T.b_range (da_cons (dv 1) da_nil)) (blkOk_by (by rfl)) (fun _ _ _ _ _ => (dg_name (j := 7) sc__law_class_web.nd rfl (by first | exact .inl rfl | exact .inr rfl))) (fun _ _ _ _ _ => dts_nil) (fun _ _ _ _ _ => (de_call (ok__law_draw T) (hr.mono (by decide)) (by rfl) T.mg__law_draw T.kp__law_draw T.bd__law_draw pass0 (da_cons (dv 0) (da_cons (dv 2) da_nil)))) om_name)) om_name)
      (dss_cons (ds_set (j := 5) sc__law_class_web.nd rfl (by first | exact .inl rfl | exact .inr rfl) (de_ix (hu_of hr) (dv 4) de_int (fun _ _ => rfl)))
      (dss_cons (ds_for (di_range2 (by rfl) T.b_range (da_cons de_int (da_cons (dv 2) da_nil))) (dg_name (j := 6) sc__law_class_web.nd rfl (by first | exact .inl rfl | exact .inr rfl)) (dss_one (ds_asg (dv 6) (dg_subL (dv 5) (de_mod (de_callTy call_int1 sl_int (by rfl) T.b_int (by decide +kernel) (da_cons (de_add (de_sub (dv 6) de_int) (dv 3)) da_nil)) (dv 1))))) PassesOwn.never)
      (dss_one (ds_ret (dv 4))))))), fun ds M Q hl h => ?_⟩
  obtain ⟨b, many, rfl, h0, h1, hb, q⟩ := h
  walk_at "start"
  walk_at "go"
  refine of_go (.refl hb) (by simp) (by decide) (fun d c hd hc k => ?_)
  obtain ⟨size, rfl, hs0, hs1⟩ : ∃ n : Int, d = .int n ∧ 1 ≤ n ∧ n ≤ 3 := by
    simp at hd
    rcases hd with rfl | rfl | rfl | rfl | rfl <;> exact ⟨_, rfl, by decide, by decide⟩
  walk_at "go"
  refine draw_go k h0 (by omega) (fun shift c2 i0 i1 hc2 k2 => ?_)
  walk_at "go"
  refine go_lcI (fun i acc M' => ∃ ps : List Addr, acc = ps.map .ref ∧ ps.length = i ∧ ps.Nodup ∧ Rw M b size many M' ps ∧ Kp M b M') ⟨[], rfl, rfl, .nil, fun p hp => by simp at hp, k2⟩ (fun i d acc M' KY KN hd hI hY hN => ?_) (fun acc M' hI => ?_)
  · obtain ⟨ps, rfl, hl, hn, hr, kk⟩ := hI
    walk_at "go"
    refine go_lcI (fun i acc M' => ∃ r : List Int, acc = r.map .int ∧ (r.length = i ∧ ∀ t ∈ r, 0 ≤ t ∧ t < size) ∧ Rw M b size many M' ps ∧ Kp M b M') ⟨[], rfl, ⟨rfl, by simp⟩, hr, kk⟩ (fun i d acc M' KY2 KN2 hd2 hI2 hY2 hN2 => ?_) (fun acc M' hI2 => ?_)
    · obtain ⟨r, rfl, hl2, hr2, kk2⟩ := hI2
      walk_at "go"
      refine draw_go kk2 (by omega) (by omega) (fun x c3 j0 j1 hc3 k3 => ?_)
      exact hY2 _ _ ⟨r ++ [x], by simp, ⟨by simp [hl2.1], fun t ht => by
        rcases List.mem_append.mp ht with ht | ht
        · exact hl2.2 t ht
        · rcases List.mem_singleton.mp ht with rfl
          exact ⟨j0, j1⟩⟩, hr2.oth hr.nb, k3⟩
    · obtain ⟨r, rfl, hl2, hr2, kk2⟩ := hI2
      intro p hp
      refine hY _ _ ⟨ps ++ [p], by simp, by simp [hl], ?_, ?_, kk2.new hp⟩
      · exact List.nodup_append.mpr ⟨hn, by simp, fun x hx y hy => by
          rcases List.mem_singleton.mp hy with rfl
          intro e
          subst e
          exact hr2.fresh hp hx⟩
      · intro x hx
        rcases List.mem_append.mp hx with hx | hx
        · exact hr2.oth (hr2.fresh hp) x hx
        · rcases List.mem_singleton.mp hx with rfl
          refine ⟨⟨kk2.fresh hp, kk2.ne hp⟩, r, ?_, mupd_same⟩
          refine ⟨?_, hl2.2⟩
          rw [hl2.1, length_rng]
          omega
  · obtain ⟨ps, rfl, hl, hn, hr, kk⟩ := hI
    rw [length_rng] at hl
    obtain _ | ⟨p0, ps⟩ := ps
    · simp at hl; omega
    walk_at "go"
    · rw [atI_nn _ (by decide)]
      exact rfl
    walk_at "go"
    refine go_seqK (J := fun G' M' => ∃ x : Option D, G' = [some (.ref b), some (.int many), some (.int size), some (.int shift), some (.list ((p0 :: ps).map .ref)), some (.ref p0), x, none] ∧ Rw M b size many M' (p0 :: ps) ∧ Kp M b M') (fun nx hk => ?_) (fun G' M' hJ => ?_)
    · walk_at "go"
      refine go_forI (fun i G' M' => ∃ x : Option D, G' = [some (.ref b), some (.int many), some (.int size), some (.int shift), some (.list ((p0 :: ps).map .ref)), some (.ref p0), x, none] ∧ Rw M b size many M' (p0 :: ps) ∧ Kp M b M') ⟨none, rfl, hr, kk⟩ (fun i d G' M' nx' hd hI hn => ?_) (fun G' M' hI => hk G' M' hI)
      obtain ⟨x, rfl, hr, kk⟩ := hI
      obtain ⟨hlt, rfl⟩ := rng_get hd
      obtain ⟨⟨a1, a2⟩, r, a3, a4⟩ := hr p0 (by simp)
      walk_at "go"
      · exact ixN_nn (Int.emod_nonneg _ (by omega)) (by rw [List.length_map, a3.1]; exact Int.emod_lt_of_pos _ h0)
      walk_at "go"
      rw [← List.map_set]
      exact hn _ _ ⟨_, rfl, hr.put (by
        refine ⟨by rw [List.length_set]; exact a3.1, fun t ht => ?_⟩
        rcases List.mem_or_eq_of_mem_set ht with ht | rfl
        · exact a3.2 t ht
        · omega), kk.mut a1 a2⟩
    · obtain ⟨x, rfl, hr, kk⟩ := hJ
      walk_at "go"
      obtain ⟨web, e1, e2, e3⟩ := hr.dz (L := p0 :: ps) (fun _ h => h)
      obtain ⟨c', g1, g2⟩ := kk.subL (L := p0 :: ps) (fun p hp => (hr p hp).1)
      refine Fin.deep (L := p0 :: ps) (.list e3) hn (fun p hp => ?_) g2 (q web c' ?_ ?_ (fun r hr => ⟨(e2 r hr).1, fun t ht => by have := (e2 r hr).2 t ht; omega⟩) g1)
      · obtain ⟨h1, r, h2, h3⟩ := hr p hp
        exact ⟨⟨_, h3⟩, h1.1⟩
      · intro e; subst e; simp at e1
      · rw [e1]; omega
end
end L29

set_option Elab.async false
set_option linter.all false
set_option maxRecDepth 100000
set_option maxHeartbeats 4000000
namespace L29
open PySem PySem.Spec PyProof.Rows L2 DL
abbrev Rm := Int × List Int
abbrev dInts (r : List Int) : List D := r.map .int
abbrev dWeb (web : List (List Int)) : D := .list (web.map fun r => .list (r.map .int))
abbrev dRoom (r : Rm) : D := .tup [.int r.1, .tup (r.2.map .int)]
abbrev dRooms (rs : List Rm) : List D := rs.map dRoom
structure GoodWeb (web : List (List Int)) (many : Int) : Prop where
  ne : web ≠ []
  le : web.length ≤ 3
  row : ∀ r ∈ web, (r.length : Int) = many ∧ ∀ t ∈ r, 0 ≤ t ∧ t < (web.length : Int)
  pos : 0 < many
  le2 : many < 1000
/-- the class behind a letter -/
def stepW (web : List (List Int)) (c x : Int) : Int := (web.getD c.toNat []).getD x.toNat 0
/-- a room: its steps lead to rooms of the class behind the letter -/
structure GoodR (web : List (List Int)) (many : Int) (spots : List Int) (r : Rm) : Prop where
  lo : 0 ≤ r.1
  hi : r.1 < (web.length : Int)
  len : (r.2.length : Int) = many
  tgt : ∀ (x : Nat) t, r.2[x]? = some t → 0 ≤ t → t < (spots.length : Int) ∧ spots.getD t.toNat 0 = stepW web r.1 (x : Int)
def GoodRs (web : List (List Int)) (many : Int) (rs : List Rm) : Prop := ∀ r ∈ rs, GoodR web many (rs.map (·.1)) r
theorem web_at {web : List (List Int)} {many : Int} (g : GoodWeb web many) {i : Int} (h0 : 0 ≤ i) (h1 : i < (web.length : Int)) : ∃ r : List Int, web.getD i.toNat [] = r ∧ r ∈ web ∧ (r.length : Int) = many ∧ atI (web.map fun r => D.list (r.map .int)) i = some (.list (r.map .int)) := by
  have h : web[i.toNat]? = some (web[i.toNat]'(by omega)) := List.getElem?_eq_getElem (by omega)
  refine ⟨web[i.toNat]'(by omega), by rw [List.getD_eq_getElem?_getD, h]; rfl, List.getElem_mem _, (g.row _ (List.getElem_mem _)).1, ?_⟩
  rw [atI_nn _ h0, List.getElem?_map, h]
  rfl
theorem int_at {cs : List Int} {i : Int} (h : 0 ≤ i) (h2 : i < (cs.length : Int)) : ∃ x, cs[i.toNat]? = some x ∧ x ∈ cs ∧ atI (cs.map D.int) i = some (.int x) := by
  have e : cs[i.toNat]? = some (cs[i.toNat]'(by omega)) := List.getElem?_eq_getElem (by omega)
  refine ⟨_, e, List.getElem_mem _, ?_⟩
  rw [atI_nn _ h, List.getElem?_map, e]
  rfl
theorem getD_of {cs : List Int} {n : Nat} {x d : Int} (h : cs[n]? = some x) : cs.getD n d = x := by rw [List.getD_eq_getElem?_getD, h]; rfl
theorem stepW_in {web : List (List Int)} {many : Int} (g : GoodWeb web many) {c x : Int} (h0 : 0 ≤ c) (h1 : c < (web.length : Int)) (x0 : 0 ≤ x) (x1 : x < many) : 0 ≤ stepW web c x ∧ stepW web c x < (web.length : Int) := by
  obtain ⟨r, e, hm, hl, _⟩ := web_at g h0 h1
  obtain ⟨t, ht, htm, _⟩ := int_at (cs := r) x0 (by omega)
  unfold stepW
  rw [e, getD_of ht]
  exact (g.row r hm).2 t htm
def Tgt (web : List (List Int)) (spots : List Int) (sp : Int) (ts : List Int) : Prop := ∀ (x : Nat) t, ts[x]? = some t → 0 ≤ t → t < (spots.length : Int) ∧ spots.getD t.toNat 0 = stepW web sp (x : Int)
theorem Tgt.snoc {web : List (List Int)} {spots : List Int} {sp : Int} {ts : List Int} (h : Tgt web spots sp ts) {v : Int} (hv : 0 ≤ v → v < (spots.length : Int) ∧ spots.getD v.toNat 0 = stepW web sp (ts.length : Int)) : Tgt web spots sp (ts ++ [v]) := fun x t hx ht => by
  by_cases q : x < ts.length
  · rw [List.getElem?_append_left q] at hx
    exact h x t hx ht
  · rw [List.getElem?_append_right (by omega)] at hx
    have : x - ts.length = 0 := by
      by_cases z : x - ts.length = 0
      · exact z
      · rw [List.getElem?_eq_none (by simp; omega)] at hx; cases hx
    rw [this] at hx
    cases hx
    have : x = ts.length := by omega
    subst this
    exact hv ht
def sp__law_cells : aSp := fun ds M Q => ∃ b web many count, ds = [.ref b, dWeb web, .int count] ∧ GoodWeb web many ∧ 0 ≤ count ∧ count ≤ 100 ∧ Bag M b ∧
  ∀ cells : List Rm, ∀ c, (cells.length : Int) = count → GoodRs web many cells → GoodBag c → Q (.list (dRooms cells)) (mupd M b c)
section
variable {P : Program} {w : World} {K : PySem.W.Frag} {mg : Str → Option Value} {base : Heap} {a : Ad}
theorem ok__law_cells (T : TX K mg a) : FnOk P w K mg base CX0 2 a.f__law_cells a.fd__law_cells ["bag", "web", "count"] (lift K 3 sp__law_cells) := by
  refine okD (k := 1) T.fn__law_cells sc__law_cells rfl fun cdv A outer s H E hr => ⟨_, _, (dss_cons (ds_asg (de_tup (da_cons (de_lc (own := [("k", 5)]) rfl sc__law_cells.nd (di_range1 (by rfl) T.b_range (da_cons (dv 2) da_nil)) (blkOk_by (by rfl)) (fun _ _ _ _ _ => (dg_name (j := 5) sc__law_cells.nd rfl (by first | exact .inl rfl | exact .inr rfl))) (fun _ _ _ _ _ => dts_nil) (fun _ _ _ _ _ => (de_call (ok__law_draw T) (hr.mono (by decide)) (by rfl) T.mg__law_draw T.kp__law_draw T.bd__law_draw pass0 (da_cons (dv 0) (da_cons (de_callB call_lenA sl_len (by rfl) T.b_len (by decide +kernel) (da_cons (dv 1) da_nil)) da_nil)))) om_name) (da_cons (de_lstM da_nil) da_nil))) (dg_tup (dgs_cons (dg_name (j := 3) sc__law_cells.nd rfl (by first | exact .inl rfl | exact .inr rfl)) (dgs_cons (dg_name (j := 4) sc__law_cells.nd rfl (by first | exact .inl rfl | exact .inr rfl)) dgs_nil))))
      (dss_cons (ds_for (di_range1 (by rfl) T.b_range (da_cons (dv 2) da_nil)) (dg_name (j := 5) sc__law_cells.nd rfl (by first | exact .inl rfl | exact .inr rfl)) (dss_cons (ds_set (j := 6) sc__law_cells.nd rfl (by first | exact .inl rfl | exact .inr rfl) (de_lstM da_nil))
      (dss_cons (ds_for (di_seq (de_ix (hu_of hr) (dv 1) (de_ix (hu_of hr) (dv 3) (dv 5) (fun _ _ => rfl)) (fun _ _ => rfl))) (dg_name (j := 7) sc__law_cells.nd rfl (by first | exact .inl rfl | exact .inr rfl)) (dss_cons (ds_setLc (j := 8) (own := [("q", 11)]) rfl sc__law_cells.nd rfl rfl (sw_true rfl rfl rfl (by decide +kernel)) (di_range1 (by rfl) T.b_range (da_cons (dv 2) da_nil)) (blkOk_by (by rfl)) (fun _ _ _ _ _ => (dg_name (j := 11) sc__law_cells.nd rfl (by first | exact .inl rfl | exact .inr rfl))) (fun _ _ _ _ _ => (dts_one (dt_cmp (op_eqD hr.units) s2_eq (de_ix (hu_of hr) (dv 3) (dv 11) (fun _ _ => rfl)) (dv 7) (nomark _)))) (fun _ _ _ _ _ => (dv 11)) om_name)
      (dss_cons (ds_par (i := 9) (j := 10) sc__law_cells.nd rfl rfl (da_cons (de_call (ok__law_draw T) (hr.mono (by decide)) (by rfl) T.mg__law_draw T.kp__law_draw T.bd__law_draw pass0 (da_cons (dv 0) (da_cons de_int da_nil))) (da_cons (de_call (ok__law_draw T) (hr.mono (by decide)) (by rfl) T.mg__law_draw T.kp__law_draw T.bd__law_draw pass0 (da_cons (dv 0) (da_cons (dv 2) da_nil))) da_nil)))
      (dss_one (ds_expr (de_bm PySem.F.plainAttrs_list PySem.F.slot_list_append PySem.F.type_list_append mt_append sm_append (.inl rfl) (dv 6) (da_cons (de_ifExp (DW.dt (dw_and (dt_tru (dv 8)) (dw_and1 (dt_cmp op_gt s2_gt (dv 9) de_int (nomark _))))) (de_ix (hu_of hr) (dv 8) (de_mod (de_callTy call_int1 sl_int (by rfl) T.b_int (by decide +kernel) (da_cons (dv 10) da_nil)) (de_callB call_lenA sl_len (by rfl) T.b_len (by decide +kernel) (da_cons (dv 8) da_nil))) (fun _ _ => rfl)) (de_neg de_int)) da_nil)))))) PassesOwn.never)
      (dss_one (ds_expr (de_bm PySem.F.plainAttrs_list PySem.F.slot_list_append PySem.F.type_list_append mt_append sm_append (.inl rfl) (dv 4) (da_cons (de_tup (da_cons (de_ix (hu_of hr) (dv 3) (dv 5) (fun _ _ => rfl)) (da_cons (de_callTy call_tuple_of sl_tuple (by rfl) T.b_tuple (by decide +kernel) (da_cons (dv 6) da_nil)) da_nil))) da_nil)))))) PassesOwn.never)
      (dss_one (ds_ret (dv 4))))), fun ds M Q hl h => ?_⟩
  obtain ⟨b, web, many, count, rfl, gw, h0, h1, hb, q⟩ := h
  have gl := gw.le
  have gn : 0 < web.length := List.length_pos_iff.mpr gw.ne
  walk_at "start"
  walk_at "go"
  refine go_lcI (fun i acc M' => ∃ ps : List Int, acc = dInts ps ∧ ps.length = i ∧ (∀ p ∈ ps, 0 ≤ p ∧ p < web.length) ∧ Kp M b M') ⟨[], rfl, rfl, by simp, .refl hb⟩ (fun i d acc M' KY KN hd hI hY hN => ?_) (fun acc M' hI => ?_)
  · obtain ⟨ps, rfl, hl, hp, kk⟩ := hI
    walk_at "go"
    refine draw_go kk (by simp only [List.length_map]; omega) (by simp only [List.length_map]; omega) (fun x c2 i0 i1 hc2 k2 => ?_)
    exact hY _ _ ⟨ps ++ [x], by simp [dInts], by simp [hl], fun p hp' => by
      rcases List.mem_append.mp hp' with hp' | hp'
      · exact hp p hp'
      · rcases List.mem_singleton.mp hp' with rfl
        simp only [List.length_map] at i1
        exact ⟨i0, i1⟩, k2⟩
  obtain ⟨spots, rfl, hl, hs, kk⟩ := hI
  rw [length_rng] at hl
  walk_at "go"
  intro pf hpf
  walk_at "go"
  refine go_seqK (J := fun G' M' => ∃ (x1 x2 x3 x4 x5 x6 : Option D), G' = [some (.ref b), some (dWeb web), some (.int count), some (.list (dInts spots)), some (.ref pf), x1, x2, x3, x4, x5, x6, none] ∧ (M pf = none ∧ pf ≠ b) ∧ Kp M b M' ∧
    ∃ cells : List Rm, cells.map (·.1) = spots ∧ (∀ r ∈ cells, GoodR web many spots r) ∧ M' pf = some (.lst (dRooms cells))) (fun nx hk => ?_) (fun G' M' hJ => ?_)
  · walk_at "go"
    refine go_forI (fun i G' M' => ∃ (x1 x2 x3 x4 x5 x6 : Option D), G' = [some (.ref b), some (dWeb web), some (.int count), some (.list (dInts spots)), some (.ref pf), x1, x2, x3, x4, x5, x6, none] ∧ (M pf = none ∧ pf ≠ b) ∧ Kp M b M' ∧
      ∃ cells : List Rm, cells.map (·.1) = spots.take i ∧ (∀ r ∈ cells, GoodR web many spots r) ∧ M' pf = some (.lst (dRooms cells))) ⟨_, _, _, _, _, _, rfl, ⟨kk.fresh hpf, kk.ne hpf⟩, kk.new hpf, [], rfl, by simp, mupd_same⟩ (fun i d G' M' nx' hd hI hn => ?_) (fun G' M' hI => ?_)
    · obtain ⟨x1, x2, x3, x4, x5, x6, rfl, hm, kk, cells, hc1, hc2, hc3⟩ := hI
      obtain ⟨hlt, rfl⟩ := rng_get hd
      walk_at "go"
      intro pr hpr
      have kk0 := kk
      obtain ⟨sp, esp, hsm, es⟩ := int_at (cs := spots) (i := 0 + (i : Int)) (by omega) (by omega)
      obtain ⟨r, hre, hrm, hr1, er⟩ := web_at gw (hs sp hsm).1 (hs sp hsm).2
      walk_at "go"
      refine go_seqK (J := fun G' M' => ∃ (x3 x4 x5 x6 : Option D), G' = [some (.ref b), some (dWeb web), some (.int count), some (.list (dInts spots)), some (.ref pf), some (.int (0 + (i : Int))), some (.ref pr), x3, x4, x5, x6, none] ∧ (M pf = none ∧ pf ≠ b) ∧ Kp M b M' ∧
        M' pf = some (.lst (dRooms cells)) ∧ (M pr = none ∧ pr ≠ b ∧ pr ≠ pf) ∧ ∃ ts : List Int, (ts.length : Int) = many ∧ Tgt web spots sp ts ∧ M' pr = some (.lst (dInts ts))) (fun nx2 hk2 => ?_) (fun G' M' hJ => ?_)
      · walk_at "go"
        refine go_forI (fun j G' M' => ∃ (x3 x4 x5 x6 : Option D), G' = [some (.ref b), some (dWeb web), some (.int count), some (.list (dInts spots)), some (.ref pf), some (.int (0 + (i : Int))), some (.ref pr), x3, x4, x5, x6, none] ∧ Kp M b M' ∧
          M' pf = some (.lst (dRooms cells)) ∧ ∃ ts : List Int, ts.length = j ∧ Tgt web spots sp ts ∧ M' pr = some (.lst (dInts ts))) ⟨_, _, _, _, rfl, kk.new hpr, by rw [mupd_ne (mne hc3 hpr)]; exact hc3, [], rfl, fun x t hx => by simp at hx, mupd_same⟩ (fun j d G' M' nx' hd hI hn => ?_) (fun G' M' hI => ?_)
        · obtain ⟨x3, x4, x5, x6, rfl, kk, c3, ts, t1, t2, t3⟩ := hI
          rw [List.getElem?_map] at hd
          obtain ⟨there, hth, rfl⟩ := Option.map_eq_some_iff.mp hd
          walk_at "go"
          refine go_lcR (fun q => spots[q.toNat]? = some there) (fun q KY KN q0 q1 hY hN => ?_) (fun lot hlot hlen => ?_)
          · obtain ⟨sq, e0, hsq, eq2⟩ := int_at (cs := spots) (i := q) q0 (by omega)
            walk_at "go"
            refine go_ite (fun e => ?_) (fun e => ?_)
            · walk_at "go"
              exact hY (by rw [e0, eq_of_beq e])
            · exact hN (fun z => by rw [e0] at z; cases z; simp at e)
          walk_at "go"
          refine draw_go kk (by decide) (by decide) (fun lack c4 j0 j1 hc4 k4 => ?_)
          walk_at "go"
          refine draw_go k4 (by omega) (by omega) (fun pick c5 j2 j3 hc5 k5 => ?_)
          have npr := kk0.ne hpr
          have c35 : (mupd (mupd M' b c4) b c5) pf = some (.lst (dRooms cells)) := by rw [mupd_ne hm.2, mupd_ne hm.2]; exact c3
          have t35 : (mupd (mupd M' b c4) b c5) pr = some (.lst (dInts ts)) := by rw [mupd_ne npr, mupd_ne npr]; exact t3
          have hj : j < r.length := (List.getElem?_eq_some_iff.mp hth).1
          have gl2 := gw.le2
          have hst : stepW web sp (ts.length : Int) = there := by
            unfold stepW
            rw [hre, t1]
            exact getD_of (by simpa using hth)
          have out : ∀ v : Int, (0 ≤ v → v < (spots.length : Int) ∧ spots.getD v.toNat 0 = there) → Tgt web spots sp (ts ++ [v]) := fun v hv => t2.snoc (by rw [hst]; exact hv)
          walk_at "go"
          refine go_ite (fun e => ?_) (fun e => ?_)
          · have hne : 0 < lot.length := by
              cases lot with
              | nil => simp at e
              | cons => simp
            walk_at "go"
            refine go_ite (fun e => ?_) (fun e => ?_)
            · obtain ⟨v, _, hv, ev⟩ := int_at (cs := lot) (i := pick % (lot.length : Int)) (Int.emod_nonneg _ (by omega)) (Int.emod_lt_of_pos _ (by omega))
              walk_at "go"
              · rw [List.length_map]
                exact ev
              walk_at "go"
              exact hn _ _ ⟨_, _, _, _, rfl, k5.mut (kk0.fresh hpr) npr, by rw [mupd_ne (mne hc3 hpr)]; exact c35, ts ++ [v], by simp; omega, out v (fun v0 => by have h := (hlot v).mp hv; exact ⟨by omega, getD_of h.2.2⟩), by rw [mupd_same]; simp [dInts]⟩
            · walk_at "go"
              exact hn _ _ ⟨_, _, _, _, rfl, k5.mut (kk0.fresh hpr) npr, by rw [mupd_ne (mne hc3 hpr)]; exact c35, ts ++ [-1], by simp; omega, out (-1) (fun h => absurd h (by decide)), by rw [mupd_same]; simp [dInts]⟩
          · walk_at "go"
            exact hn _ _ ⟨_, _, _, _, rfl, k5.mut (kk0.fresh hpr) npr, by rw [mupd_ne (mne hc3 hpr)]; exact c35, ts ++ [-1], by simp; omega, out (-1) (fun h => absurd h (by decide)), by rw [mupd_same]; simp [dInts]⟩
        · obtain ⟨x3, x4, x5, x6, rfl, kk, c3, ts, t1, t2, t3⟩ := hI
          rw [List.length_map] at t1
          exact hk2 _ _ ⟨x3, x4, x5, x6, rfl, hm, kk, c3, ⟨kk0.fresh hpr, kk0.ne hpr, Ne.symm (mne hc3 hpr)⟩, ts, by omega, t2, t3⟩
      · obtain ⟨x3, x4, x5, x6, rfl, hm, kk, c3, npr, ts, t1, t2, t3⟩ := hJ
        have hcl : cells.length ≤ 100 := by
          have := congrArg List.length hc1
          rw [List.length_map, List.length_take] at this
          omega
        walk_at "go"
        rw [show (dRooms cells ++ [D.tup [D.int sp, if isLM (D.ref pr) = true then D.tup (dInts ts) else D.ref pr]]) = dRooms (cells ++ [(sp, ts)]) by simp [dRooms, isLM]]
        refine hn _ _ ⟨_, _, _, _, _, _, rfl, hm, kk.mut hm.1 hm.2, cells ++ [(sp, ts)], ?_, fun r hr => ?_, mupd_same⟩
        · rw [List.map_append, hc1, List.take_add_one, show spots[i]? = some sp by simpa using esp]
          rfl
        · rcases List.mem_append.mp hr with hr | hr
          · exact hc2 r hr
          · rcases List.mem_singleton.mp hr with rfl
            exact ⟨(hs sp hsm).1, (hs sp hsm).2, t1, t2⟩
    · obtain ⟨x1, x2, x3, x4, x5, x6, rfl, hm, kk, cells, hc1, hc2, hc3⟩ := hI
      rw [length_rng, List.take_of_length_le (by omega)] at hc1
      exact hk _ _ ⟨x1, x2, x3, x4, x5, x6, rfl, hm, kk, cells, hc1, hc2, hc3⟩
  · obtain ⟨x1, x2, x3, x4, x5, x6, rfl, hm, kk, cells, hc1, hc2, hc3⟩ := hJ
    walk_at "go"
    obtain ⟨c', g1, g2⟩ := kk.subL (L := [pf]) (fun p hp => by rcases List.mem_singleton.mp hp with rfl; exact hm)
    have hlc := congrArg List.length hc1
    rw [List.length_map] at hlc
    exact Fin.list hc3 hm.1 g2 (q cells c' (by omega) (by unfold GoodRs; rw [hc1]; exact hc2) g1)
end
end L29

set_option Elab.async false
set_option linter.all false
set_option maxRecDepth 100000
set_option maxHeartbeats 4000000
namespace L29
open PySem PySem.Spec PyProof.Rows L2 DL
/-! ### books of rooms -/
abbrev dBook (a : Ad) (web : List (List Int)) (rs : List Rm) : D := .obj a.C_RoomBook [("_walker", dWeb web), ("_rooms", .list (dRooms rs))]
def sp_RoomBook___init__ (a : Ad) : aSp := fun ds M Q => ∃ x web rs, ds = [.ref x, dWeb web, .list (dRooms rs)] ∧ web.length ≤ 1000 ∧ rs.length ≤ 1000 ∧ M x = some (.ins a.C_RoomBook []) ∧ Q .non (mupd M x (.ins a.C_RoomBook [("_walker", dWeb web), ("_rooms", .list (dRooms rs))]))
def sp_RoomBook_rooms (a : Ad) : aSp := fun ds M Q => ∃ web rs, ds = [dBook a web rs] ∧ Q (.list (dRooms rs)) M
def sp_RoomBook_walker (a : Ad) : aSp := fun ds M Q => ∃ web rs, ds = [dBook a web rs] ∧ web.length ≤ 1000 ∧ Q (dWeb web) M
theorem room_at {rs : List Rm} {i : Int} (h0 : 0 ≤ i) (h1 : i < rs.length) : ∃ r : Rm, rs[i.toNat]? = some r ∧ r ∈ rs ∧ atI (dRooms rs) i = some (dRoom r) := by
  have h : rs[i.toNat]? = some (rs[i.toNat]'(by omega)) := List.getElem?_eq_getElem (by omega)
  refine ⟨_, h, List.getElem_mem _, ?_⟩
  rw [atI_nn _ h0, List.getElem?_map, h]
  rfl
section
variable {P : Program} {w : World} {K : PySem.W.Frag} {mg : Str → Option Value} {base : Heap} {a : Ad}
theorem ok_RoomBook___init__ (T : TX K mg a) : FnOk P w K mg base CX0 1 a.f_RoomBook___init__ a.fd_RoomBook___init__ ["self", "walker", "rooms"] (lift K 3 (sp_RoomBook___init__ a)) := by
  refine okD (k := 0) T.fn_RoomBook___init__ sc_RoomBook___init__ rfl fun cdv A outer s H E hr => ⟨_, _, (dss_cons (ds_fld (dv 0) (de_lc (own := [("row", 3)]) rfl sc_RoomBook___init__.nd (di_seq (dv 1)) (blkOk_by (by rfl)) (fun _ _ _ _ _ => (dg_name (j := 3) sc_RoomBook___init__.nd rfl (by first | exact .inl rfl | exact .inr rfl))) (fun _ _ _ _ _ => dts_nil) (fun _ _ _ _ _ => (de_callTy call_list_of sl_list (by rfl) T.b_list (by decide +kernel) (da_cons (dv 3) da_nil))) om_name))
      (dss_one (ds_fld (dv 0) (de_lc (own := [("kind", 4), ("steps", 5)]) rfl sc_RoomBook___init__.nd (di_seq (dv 2)) (blkOk_by (by rfl)) (fun _ _ _ _ _ => (dg_tup (dgs_cons (dg_name (j := 4) sc_RoomBook___init__.nd rfl (by first | exact .inl rfl | exact .inr rfl)) (dgs_cons (dg_name (j := 5) sc_RoomBook___init__.nd rfl (by first | exact .inl rfl | exact .inr rfl)) dgs_nil)))) (fun _ _ _ _ _ => dts_nil) (fun _ _ _ _ _ => (de_tup (da_cons (dv 4) (da_cons (de_callTy call_tuple_of sl_tuple (by rfl) T.b_tuple (by decide +kernel) (da_cons (dv 5) da_nil)) da_nil)))) (om_tup (om_cons om_name (om_cons om_name om_nil))))))), fun ds M Q hl h => ?_⟩
  obtain ⟨x, web, rs, rfl, h1, h2, hx, q⟩ := h
  walk_at "start"
  walk_at "go"
  refine go_lcM' (fun d => d) (fun i d KY KN hd hY => ?_) ?_
  · rw [List.getElem?_map] at hd
    obtain ⟨r, _, rfl⟩ := Option.map_eq_some_iff.mp hd
    walk_at "go"
    exact hY
  rw [List.map_id']
  walk_at "go"
  refine go_ksetF hx T.cl_RoomBook T.na_RoomBook__walker (by decide) rfl ?_
  walk_at "go"
  refine go_lcM' (fun d => d) (fun i d KY KN hd hY => ?_) ?_
  · rw [List.getElem?_map] at hd
    obtain ⟨r, _, rfl⟩ := Option.map_eq_some_iff.mp hd
    walk_at "go"
    exact hY
  rw [List.map_id']
  walk_at "go"
  refine go_ksetF mupd_same T.cl_RoomBook T.na_RoomBook__rooms (Nat.le_of_ble_eq_true rfl) rfl ?_
  rw [mupd_mupd]
  exact Fin.of q
theorem ok_RoomBook_rooms (T : TX K mg a) : FnOk P w K mg base CX0 1 a.f_RoomBook_rooms a.fd_RoomBook_rooms ["self"] (lift K 1 (sp_RoomBook_rooms a)) := by
  refine okD (k := 0) T.fn_RoomBook_rooms sc_RoomBook_rooms rfl fun cdv A outer s H E hr => ⟨_, _, (dss_one (ds_ret (de_callTy call_list_of sl_list (by rfl) T.b_list (by decide +kernel) (da_cons (de_fld (dv 0)) da_nil)))), fun ds M Q hl h => ?_⟩
  obtain ⟨web, rs, rfl, q⟩ := h
  have hc := T.cl_RoomBook
  have hf := T.na_RoomBook__rooms
  walk_at "start"
  walk_at "go"
  exact Fin.of q
theorem ok_RoomBook_walker (T : TX K mg a) : FnOk P w K mg base CX0 1 a.f_RoomBook_walker a.fd_RoomBook_walker ["self"] (lift K 1 (sp_RoomBook_walker a)) := by
  refine okD (k := 0) T.fn_RoomBook_walker sc_RoomBook_walker rfl fun cdv A outer s H E hr => ⟨_, _, (dss_one (ds_ret (de_lc (own := [("row", 1)]) rfl sc_RoomBook_walker.nd (di_seq (de_fld (dv 0))) (blkOk_by (by rfl)) (fun _ _ _ _ _ => (dg_name (j := 1) sc_RoomBook_walker.nd rfl (by first | exact .inl rfl | exact .inr rfl))) (fun _ _ _ _ _ => dts_nil) (fun _ _ _ _ _ => (de_callTy call_list_of sl_list (by rfl) T.b_list (by decide +kernel) (da_cons (dv 1) da_nil))) om_name))), fun ds M Q hl h => ?_⟩
  obtain ⟨web, rs, rfl, hl, q⟩ := h
  have hc := T.cl_RoomBook
  have hf := T.na_RoomBook__walker
  walk_at "start"
  walk_at "go"
  refine go_lcM' (fun d => d) (fun i d KY KN hd hY => ?_) ?_
  · rw [List.getElem?_map] at hd
    obtain ⟨r, _, rfl⟩ := Option.map_eq_some_iff.mp hd
    walk_at "go"
    exact hY
  rw [List.map_id']
  exact Fin.of q
end
end L29

set_option Elab.async false
set_option linter.all false
set_option maxRecDepth 100000
set_option maxHeartbeats 4000000
namespace L29
open PySem PySem.Spec PyProof.Rows L2 DL
/-! ### plain mathematics: steps again and again -/
def iter (h : Int → Int) : Nat → Int → Int
  | 0, k => k
  | n + 1, k => iter h n (h k)
theorem iter_add (h : Int → Int) : ∀ (a b : Nat) (k : Int), iter h (a + b) k = iter h b (iter h a k)
  | 0, b, k => by rw [Nat.zero_add]; rfl
  | a + 1, b, k => by
    rw [show a + 1 + b = (a + b) + 1 by omega]
    exact iter_add h a b (h k)
theorem iter_mul (h : Int → Int) (m : Nat) : ∀ (j : Nat) (k : Int), iter (iter h m) j k = iter h (m * j) k
  | 0, k => rfl
  | j + 1, k => by
    rw [show m * (j + 1) = m + m * j by rw [Nat.mul_add]; omega, iter_add h m (m * j)]
    exact iter_mul h m j (iter h m k)
theorem iter_neg {h : Int → Int} (hn : ∀ k, k < 0 → h k < 0) : ∀ (n : Nat) (k : Int), k < 0 → iter h n k < 0
  | 0, _, e => e
  | n + 1, k, e => iter_neg hn n (h k) (hn k e)
theorem iter_le {h : Int → Int} (hn : ∀ k, k < 0 → h k < 0) {a b : Nat} {k : Int} (hab : a ≤ b) (e : 0 ≤ iter h b k) : 0 ≤ iter h a k := by
  by_cases q : 0 ≤ iter h a k
  · exact q
  · have : iter h b k < 0 := by
      rw [show b = a + (b - a) by omega, iter_add]
      exact iter_neg hn _ _ (by omega)
    omega
theorem nodup_lt : ∀ (n : Nat) (l : List Nat), l.Nodup → (∀ x ∈ l, x < n) → l.length ≤ n
  | 0, l, _, h => by
    cases l with
    | nil => simp
    | cons a r => exact absurd (h a (by simp)) (by omega)
  | n + 1, l, hn, h => by
    have h1 : (l.filter fun x => decide (x ≠ n)).length ≤ n := nodup_lt n _ (hn.filter _) fun x hx => by
      simp at hx
      have := h x hx.1
      omega
    have h2 : l.length ≤ (l.filter fun x => decide (x ≠ n)).length + 1 := by
      clear h1 h
      induction l with
      | nil => simp
      | cons a r ih =>
        have hr := (List.nodup_cons.mp hn).2
        by_cases q : a = n
        · subst q
          have e : r.filter (fun x => decide (x ≠ a)) = r := List.filter_eq_self.mpr fun x hx => by
            simp
            intro z
            subst z
            exact (List.nodup_cons.mp hn).1 hx
          rw [List.filter_cons_of_neg (by simp), e]
          simp
        · rw [List.filter_cons_of_pos (by simp [q]), List.length_cons, List.length_cons]
          have := ih hr
          omega
    omega
theorem nodup_sub {t : Type} [DecidableEq t] {l S : List t} (hn : l.Nodup) (hs : ∀ x ∈ l, x ∈ S) : l.length ≤ S.length := by
  have h1 : (l.map S.idxOf).Nodup := by
    unfold List.Nodup at *
    rw [List.pairwise_map]
    refine hn.imp_of_mem fun {a b} ha hb hne e => hne ?_
    have qa := List.getElem_idxOf (List.idxOf_lt_length_of_mem (hs a ha))
    have qb := List.getElem_idxOf (List.idxOf_lt_length_of_mem (hs b hb))
    rw [← qa, ← qb]
    congr 1
  have h2 := nodup_lt S.length _ h1 (fun x hx => by
    obtain ⟨q, hq, rfl⟩ := List.mem_map.mp hx
    exact List.idxOf_lt_length_of_mem (hs q hq))
  rwa [List.length_map] at h2
/-- who stays n steps among n comes again, and so for ever -/
theorem forever {h : Int → Int} (hn : ∀ k, k < 0 → h k < 0) {S : List Int} (hS : ∀ x ∈ S, 0 ≤ x) {k : Int} (hi : ∀ i, i ≤ S.length → iter h i k ∈ S) (j : Nat) : 0 ≤ iter h j k := by
  have h1 : ¬ ((List.range (S.length + 1)).map fun i => iter h i k).Nodup := fun nd => by
    have := nodup_sub nd (S := S) (fun x hx => by
      obtain ⟨i, hi', rfl⟩ := List.mem_map.mp hx
      exact hi i (by have := List.mem_range.mp hi'; omega))
    simp at this
    omega
  have h2 : ∃ a b, a < b ∧ b ≤ S.length ∧ iter h a k = iter h b k := by
    refine Classical.byContradiction fun no => h1 ?_
    unfold List.Nodup
    rw [List.pairwise_map]
    refine (List.pairwise_lt_range (n := S.length + 1)).imp_of_mem fun {a b} ha hb hlt e => no ⟨a, b, hlt, ?_, e⟩
    have := List.mem_range.mp hb
    omega
  obtain ⟨a, b, hab, hb, e⟩ := h2
  induction j using Nat.strongRecOn with
  | _ j ih =>
    by_cases q : j ≤ S.length
    · exact hS _ (hi j q)
    · have e2 : iter h j k = iter h (a + (j - b)) k := by
        rw [show j = b + (j - b) by omega, iter_add, ← e, ← iter_add]
        congr 1
        omega
      rw [e2]
      exact ih _ (by omega)
end L29

set_option Elab.async false
set_option linter.all false
set_option maxRecDepth 100000
set_option maxHeartbeats 4000000
namespace L29
open PySem PySem.Spec PyProof.Rows L2 DL
def runW (web : List (List Int)) (c : Int) (w : List Int) : Int := w.foldl (stepW web) c
def clsR (rs : List Rm) (k : Int) : Int := (rs.map (·.1)).getD k.toNat 0
def stepR (rs : List Rm) (k x : Int) : Int := if 0 ≤ k then ((rs.map (·.2)).getD k.toNat []).getD x.toNat (-1) else -1
def runR (rs : List Rm) (k : Int) (w : List Int) : Int := w.foldl (stepR rs) k
theorem runR_app {rs : List Rm} {k : Int} {v w : List Int} : runR rs k (v ++ w) = runR rs (runR rs k v) w := List.foldl_append ..
theorem runW_app {web : List (List Int)} {k : Int} {v w : List Int} : runW web k (v ++ w) = runW web (runW web k v) w := List.foldl_append ..
theorem runR_rep {rs : List Rm} {w : List Int} : ∀ (n : Nat) (k : Int), runR rs k (List.replicate n w).flatten = iter (fun k => runR rs k w) n k
  | 0, k => rfl
  | n + 1, k => by
    rw [List.replicate_succ, List.flatten_cons, runR_app]
    exact runR_rep n _
theorem runW_rep {web : List (List Int)} {w : List Int} : ∀ (n : Nat) (k : Int), runW web k (List.replicate n w).flatten = iter (fun k => runW web k w) n k
  | 0, k => rfl
  | n + 1, k => by
    rw [List.replicate_succ, List.flatten_cons, runW_app]
    exact runW_rep n _
theorem stepR_neg {rs : List Rm} {k : Int} (h : k < 0) (x : Int) : stepR rs k x < 0 := by
  unfold stepR
  rw [if_neg (by omega)]
  decide
theorem runR_neg {rs : List Rm} : ∀ (w : List Int) (k : Int), k < 0 → runR rs k w < 0
  | [], k, h => h
  | x :: w, k, h => runR_neg w _ (stepR_neg h x)
theorem runW_in {web : List (List Int)} {many : Int} (g : GoodWeb web many) : ∀ (w : List Int) (c : Int), (∀ x ∈ w, 0 ≤ x ∧ x < many) → 0 ≤ c → c < (web.length : Int) → 0 ≤ runW web c w ∧ runW web c w < (web.length : Int)
  | [], c, _, h0, h1 => ⟨h0, h1⟩
  | x :: w, c, hw, h0, h1 => by
    obtain ⟨a, b⟩ := hw x (by simp)
    obtain ⟨p, q⟩ := stepW_in g h0 h1 a b
    exact runW_in g w _ (fun y hy => hw y (by simp [hy])) p q
theorem stepR_ok {web : List (List Int)} {many : Int} {rs : List Rm} (g : GoodRs web many rs) {k x : Int} (k0 : 0 ≤ k) (k1 : k < (rs.length : Int)) (x0 : 0 ≤ x) (h : 0 ≤ stepR rs k x) : stepR rs k x < (rs.length : Int) ∧ clsR rs (stepR rs k x) = stepW web (clsR rs k) x := by
  have e1 : rs[k.toNat]? = some (rs[k.toNat]'(by omega)) := List.getElem?_eq_getElem (by omega)
  have gr := g _ (List.getElem_mem (show k.toNat < rs.length by omega))
  generalize rs[k.toNat]'(by omega) = r at e1 gr
  have e2 : (rs.map (·.2)).getD k.toNat [] = r.2 := by rw [List.getD_eq_getElem?_getD, List.getElem?_map, e1]; rfl
  have e3 : clsR rs k = r.1 := by unfold clsR; rw [List.getD_eq_getElem?_getD, List.getElem?_map, e1]; rfl
  have e4 : stepR rs k x = r.2.getD x.toNat (-1) := by unfold stepR; rw [if_pos k0, e2]
  rw [e4] at h ⊢
  by_cases q : x.toNat < r.2.length
  · have e5 : r.2[x.toNat]? = some (r.2[x.toNat]'q) := List.getElem?_eq_getElem q
    rw [getD_of e5] at h ⊢
    obtain ⟨a, b⟩ := gr.tgt x.toNat _ e5 h
    rw [List.length_map] at a
    refine ⟨a, ?_⟩
    rw [e3]
    unfold clsR
    rw [b, show ((x.toNat : Nat) : Int) = x by omega]
  · rw [List.getD_eq_getElem?_getD, List.getElem?_eq_none (by omega)] at h
    exact absurd h (by decide)
theorem runR_ok {web : List (List Int)} {many : Int} {rs : List Rm} (g : GoodRs web many rs) : ∀ (w : List Int) (k : Int), (∀ x ∈ w, 0 ≤ x ∧ x < many) → 0 ≤ k → k < (rs.length : Int) → 0 ≤ runR rs k w → runR rs k w < (rs.length : Int) ∧ clsR rs (runR rs k w) = runW web (clsR rs k) w
  | [], k, _, _, h1, _ => ⟨h1, rfl⟩
  | x :: w, k, hw, h0, h1, h => by
    obtain ⟨a, b⟩ := hw x (by simp)
    have hs : 0 ≤ stepR rs k x := by
      by_cases q : 0 ≤ stepR rs k x
      · exact q
      · have := runR_neg (rs := rs) w (stepR rs k x) (by omega)
        have e : runR rs k (x :: w) = runR rs (stepR rs k x) w := rfl
        omega
    obtain ⟨p, q⟩ := stepR_ok g h0 h1 a hs
    have r := runR_ok g w (stepR rs k x) (fun y hy => hw y (by simp [hy])) hs p h
    refine ⟨r.1, r.2.trans ?_⟩
    rw [q]
    rfl
/-- the class that comes again: what both programs reckon -/
def comeAgain (f : Int → Int) : Nat → List Int → Int → Int
  | 0, _, c => c
  | n + 1, seen, c => if c ∈ seen then c else comeAgain f n (seen ++ [c]) (f c)
/-- rooms that step a round again and again: told in two ways -/
theorem held_iff {web : List (List Int)} {many : Int} {rs : List Rm} (g : GoodRs web many rs) {turn : List Int} (ht : ∀ x ∈ turn, 0 ≤ x ∧ x < many) {here : Int} {m : Nat} (hm : 1 ≤ m) (hh : iter (fun c => runW web c turn) m here = here)
    {al : List Int} (hal : ∀ k, k ∈ al ↔ 0 ≤ k ∧ k < (rs.length : Int) ∧ clsR rs k = here) :
    (∃ k ∈ al, 0 ≤ iter (fun k => runR rs k (List.replicate m turn).flatten) al.length k) ↔ (∃ k, 0 ≤ k ∧ k < (rs.length : Int) ∧ clsR rs k = here ∧ 0 ≤ iter (fun k => runR rs k turn) (rs.length + 1) k) := by
  have hn : ∀ k, k < 0 → (fun k => runR rs k turn) k < 0 := fun k hk => runR_neg turn k hk
  have em : ∀ k, (fun k => runR rs k (List.replicate m turn).flatten) k = iter (fun k => runR rs k turn) m k := fun k => runR_rep m k
  have emf : (fun k => runR rs k (List.replicate m turn).flatten) = iter (fun k => runR rs k turn) m := funext em
  rw [emf]
  have okT : ∀ (n : Nat) (k : Int), 0 ≤ k → k < (rs.length : Int) → 0 ≤ iter (fun k => runR rs k turn) n k → iter (fun k => runR rs k turn) n k < (rs.length : Int) ∧ clsR rs (iter (fun k => runR rs k turn) n k) = iter (fun c => runW web c turn) n (clsR rs k) := fun n k k0 k1 h => by
    rw [← runR_rep] at h ⊢
    rw [← runW_rep]
    refine runR_ok g _ k (fun x hx => ?_) k0 k1 h
    obtain ⟨l, hl, hx⟩ := List.mem_flatten.mp hx
    rw [(List.mem_replicate.mp hl).2] at hx
    exact ht x hx
  constructor
  · rintro ⟨k, hk, h⟩
    obtain ⟨k0, k1, kc⟩ := (hal k).mp hk
    refine ⟨k, k0, k1, kc, ?_⟩
    have hnm : ∀ k, k < 0 → iter (fun k => runR rs k turn) m k < 0 := fun k hk => iter_neg hn m k hk
    have hc : ∀ j, iter (fun c => runW web c turn) (m * j) here = here := fun j => by
      induction j with
      | zero => rfl
      | succ j ih => rw [show m * (j + 1) = m + m * j by rw [Nat.mul_add]; omega, iter_add, hh, ih]
    have fe := forever hnm (S := al) (fun x hx => ((hal x).mp hx).1) (k := k) (fun i hi => by
      have hp : 0 ≤ iter (iter (fun k => runR rs k turn) m) i k := iter_le hnm hi h
      have := okT (m * i) k k0 k1 (by rw [← iter_mul]; exact hp)
      rw [iter_mul] at hp ⊢
      refine (hal _).mpr ⟨hp, this.1, ?_⟩
      rw [this.2, kc, hc]) (rs.length + 1)
    rw [iter_mul] at fe
    refine iter_le hn (b := m * (rs.length + 1)) ?_ fe
    exact Nat.le_mul_of_pos_left _ hm
  · rintro ⟨k, k0, k1, kc, h⟩
    refine ⟨k, (hal k).mpr ⟨k0, k1, kc⟩, ?_⟩
    rw [iter_mul]
    refine forever hn (S := (List.range rs.length).map fun (i : Nat) => (i : Int)) (fun x hx => ?_) (fun i hi => ?_) _
    · obtain ⟨i, _, rfl⟩ := List.mem_map.mp hx
      omega
    · rw [List.length_map, List.length_range] at hi
      have hp : 0 ≤ iter (fun k => runR rs k turn) i k := iter_le hn (by omega) h
      have := (okT i k k0 k1 hp).1
      refine List.mem_map.mpr ⟨(iter (fun k => runR rs k turn) i k).toNat, List.mem_range.mpr (by omega), by omega⟩
end L29

set_option Elab.async false
set_option linter.all false
set_option maxRecDepth 100000
set_option maxHeartbeats 4000000
namespace L29
open PySem PySem.Spec PyProof.Rows L2 DL
open Classical in
/-- some room behind the word, of the class that comes again, steps the round for ever -/
noncomputable def heldB (web : List (List Int)) (rs : List Rm) (c : Int) (lead turn : List Int) : Bool :=
  decide (∃ k, 0 ≤ k ∧ k < (rs.length : Int) ∧ clsR rs k = comeAgain (fun c => runW web c turn) (web.length + 1) [] (runW web c lead) ∧ 0 ≤ iter (fun k => runR rs k turn) (rs.length + 1) k)
def Ltr (many : Int) (w : List Int) : Prop := ∀ x ∈ w, 0 ≤ x ∧ x < many
def sp_walked : aSp := fun ds M Q => ∃ web many c w L, ds = [dWeb web, .int c, L] ∧ items L = some (dInts w) ∧ GoodWeb web many ∧ 0 ≤ c ∧ c < (web.length : Int) ∧ Ltr many w ∧ Q (.int (runW web c w)) M
/-- where letters lead, each once, in order -/
def stepF (rs : List Rm) (y : Int) (F : List Int) (r : Int) : List Int := if 0 ≤ stepR rs r y ∧ stepR rs r y ∉ F then F ++ [stepR rs r y] else F
def stepL1 (rs : List Rm) (al : List Int) (y : Int) : List Int := al.foldl (stepF rs y) []
def stepL (rs : List Rm) (al w : List Int) : List Int := w.foldl (stepL1 rs) al
def sp_stepped : aSp := fun ds M Q => ∃ web many rs al w L, ds = [.list (dRooms rs), .list (dInts al), L] ∧ items L = some (dInts w) ∧ GoodRs web many rs ∧ Ltr many w ∧ al.length ≤ 1000 ∧ (∀ k ∈ al, 0 ≤ k ∧ k < (rs.length : Int)) ∧
  ∀ out : List Int, out = stepL rs al w → out.length ≤ al.length → (∀ t, t ∈ out ↔ ∃ k ∈ al, runR rs k w = t ∧ 0 ≤ t) → Q (.list (dInts out)) M
theorem atStep {web : List (List Int)} {many : Int} (g : GoodWeb web many) {c x : Int} (h0 : 0 ≤ c) (h1 : c < (web.length : Int)) (x0 : 0 ≤ x) (x1 : x < many) : ∃ r : List Int, atI (web.map fun r => D.list (r.map .int)) c = some (.list (dInts r)) ∧ atI (dInts r) x = some (.int (stepW web c x)) := by
  obtain ⟨r, e, hm, hl, ea⟩ := web_at g h0 h1
  obtain ⟨t, ht, _, et⟩ := int_at (cs := r) x0 (by omega)
  refine ⟨r, ea, ?_⟩
  rw [et]
  unfold stepW
  rw [e, getD_of ht]
theorem atStepR {web : List (List Int)} {many : Int} {rs : List Rm} (g : GoodRs web many rs) {k x : Int} (k0 : 0 ≤ k) (k1 : k < (rs.length : Int)) (x0 : 0 ≤ x) (x1 : x < many) : ∃ r : Rm, atI (dRooms rs) k = some (dRoom r) ∧ atI (dInts r.2) x = some (.int (stepR rs k x)) ∧ clsR rs k = r.1 := by
  obtain ⟨r, e1, hm, ea⟩ := room_at k0 k1
  have gr := g r hm
  obtain ⟨t, ht, _, et⟩ := int_at (cs := r.2) x0 (by have := gr.len; omega)
  refine ⟨r, ea, ?_, by unfold clsR; rw [List.getD_eq_getElem?_getD, List.getElem?_map, e1]; rfl⟩
  rw [et]
  unfold stepR
  rw [if_pos k0, List.getD_eq_getElem?_getD (l := rs.map (·.2)), List.getElem?_map, e1]
  show _ = some (D.int (r.2.getD x.toNat (-1)))
  rw [getD_of ht]
theorem freeze1 {m0 M : Mp} {G G' : Gm} {p : Addr} {ds : List D} (h : M p = some (.lst ds)) (h0 : m0 p = none) (hg : Dzg M [p] G G') : Cvt m0 G M G' (mdel M p) :=
  Cvt.freeze (L := [p]) (by simp) (fun a ha => by rcases List.mem_singleton.mp ha with rfl; exact ⟨⟨_, h⟩, h0⟩) hg fun x c hx => by
    by_cases q : x = p
    · subst q; rw [mdel_same] at hx; cases hx
    · rw [mdel_ne q] at hx
      exact ⟨by simpa using q, .inl hx⟩
theorem Kp.del {M M' : Mp} {b p : Addr} (k : Kp M b M') (h : M p = none) (hn : p ≠ b) : Kp M b (mdel M' p) := by
  refine ⟨?_, fun a x ha e => ?_⟩
  · obtain ⟨c', h1, h2⟩ := k.1
    exact ⟨c', by rw [mdel_ne (Ne.symm hn)]; exact h1, h2⟩
  · have : a ≠ p := fun z => by subst z; rw [h] at e; cases e
    rw [mdel_ne this]
    exact k.2 a x ha e
theorem sub_mupd {M M' : Mp} {x : Addr} {c : MC} (h : Sub M M') (hx : M x = none) : Sub M (mupd M' x c) := fun y d e => by
  rw [mupd_ne (fun z => by subst z; rw [hx] at e; cases e)]
  exact h y d e
section
variable {P : Program} {w : World} {K : PySem.W.Frag} {mg : Str → Option Value} {base : Heap} {a : Ad}
theorem ok_walked (T : TX K mg a) : FnOk P w K mg base CX0 1 a.f_walked a.fd_walked ["after", "start", "letters"] (lift K 3 sp_walked) := by
  refine okD (k := 0) T.fn_walked sc_walked rfl fun cdv A outer s H E hr => ⟨_, _, (dss_cons (ds_for (di_seq (dv 2)) (dg_name (j := 3) sc_walked.nd rfl (by first | exact .inl rfl | exact .inr rfl)) (dss_one (ds_set (j := 1) sc_walked.nd rfl (by first | exact .inl rfl | exact .inr rfl) (de_ix (hu_of hr) (de_ix (hu_of hr) (dv 0) (dv 1) (fun _ _ => rfl)) (dv 3) (fun _ _ => rfl)))) PassesOwn.never)
      (dss_one (ds_ret (dv 1)))), fun ds M Q hl h => ?_⟩
  obtain ⟨web, many, c, w, L, rfl, hL, gw, c0, c1, hw, q⟩ := h
  walk_at "start"
  walk_at "go"
  refine go_seqK (J := fun G' M' => ∃ (x : Option D), G' = [some (dWeb web), some (.int (runW web c w)), some L, x] ∧ M = M') (fun nx hk => ?_) (fun G' M' hJ => ?_)
  · walk_at "go"
    refine go_forI (fun i G' M' => ∃ (x : Option D), G' = [some (dWeb web), some (.int (runW web c (w.take i))), some L, x] ∧ M = M') ⟨none, rfl, rfl⟩ (fun i d G' M' nx' hd hI hn => ?_) (fun G' M' hI => ?_)
    · obtain ⟨x, rfl, rfl⟩ := hI
      rw [List.getElem?_map] at hd
      obtain ⟨y, hy, rfl⟩ := Option.map_eq_some_iff.mp hd
      obtain ⟨y0, y1⟩ := hw y (List.mem_of_getElem? hy)
      obtain ⟨i0, i1⟩ := runW_in gw (w.take i) c (fun z hz => hw z (List.mem_of_mem_take hz)) c0 c1
      obtain ⟨r, er, et⟩ := atStep gw i0 i1 y0 y1
      walk_at "go"
      refine hn _ _ ⟨some (.int y), ?_, rfl⟩
      rw [List.take_add_one, hy, runW_app]
      rfl
    · obtain ⟨x, rfl, rfl⟩ := hI
      refine hk _ _ ⟨x, ?_, rfl⟩
      rw [List.length_map, List.take_length]
  · obtain ⟨x, rfl, rfl⟩ := hJ
    walk_at "go"
    exact Fin.of q
theorem ok_stepped (T : TX K mg a) : FnOk P w K mg base CX0 1 a.f_stepped a.fd_stepped ["rooms", "alive", "letters"] (lift K 3 sp_stepped) := by
  refine okD (k := 0) T.fn_stepped sc_stepped rfl fun cdv A outer s H E hr => ⟨_, _, (dss_cons (ds_for (di_seq (dv 2)) (dg_name (j := 3) sc_stepped.nd rfl (by first | exact .inl rfl | exact .inr rfl)) (dss_cons (ds_set (j := 4) sc_stepped.nd rfl (by first | exact .inl rfl | exact .inr rfl) de_dnewK)
      (dss_cons (ds_for (di_seq (dv 1)) (dg_name (j := 5) sc_stepped.nd rfl (by first | exact .inl rfl | exact .inr rfl)) (dss_cons (ds_set (j := 6) sc_stepped.nd rfl (by first | exact .inl rfl | exact .inr rfl) (de_ix (hu_of hr) (de_ix (hu_of hr) (de_ix (hu_of hr) (dv 0) (dv 5) (fun _ _ => rfl)) de_int (fun _ _ => rfl)) (dv 3) (fun _ _ => rfl)))
      (dss_one (ds_if (dt_cmp op_ge s2_ge (dv 6) de_int (nomark _)) (dss_one (ds_dput (hu_of hr) (dv 4) (dv 6) de_bl)) dss_nil))) PassesOwn.never)
      (dss_one (ds_set (j := 1) sc_stepped.nd rfl (by first | exact .inl rfl | exact .inr rfl) (de_callTy (call_list_dK rfl) sl_listD (by rfl) T.b_list (by decide +kernel) (da_cons (dv 4) da_nil)))))) PassesOwn.never)
      (dss_one (ds_ret (dv 1)))), fun ds M Q hl h => ?_⟩
  obtain ⟨web, many, rs, al, w, L, rfl, hL, gr, hw, hl, hal, q⟩ := h
  walk_at "start"
  walk_at "go"
  refine go_seqK (J := fun G' M' => ∃ (out : List Int) (x3 x4 x5 x6 : Option D), G' = [some (.list (dRooms rs)), some (.list (dInts out)), some L, x3, x4, x5, x6] ∧ Sub M M' ∧ out = stepL rs al w ∧ out.length ≤ al.length ∧ ∀ t, t ∈ out ↔ ∃ k ∈ al, runR rs k w = t ∧ 0 ≤ t) (fun nx hk => ?_) (fun G' M' hJ => ?_)
  · walk_at "go"
    refine go_forI (fun i G' M' => ∃ (out : List Int) (x3 x4 x5 x6 : Option D), G' = [some (.list (dRooms rs)), some (.list (dInts out)), some L, x3, x4, x5, x6] ∧ Sub M M' ∧ out = stepL rs al (w.take i) ∧ out.length ≤ al.length ∧ ∀ t, t ∈ out ↔ ∃ k ∈ al, runR rs k (w.take i) = t ∧ 0 ≤ t) ⟨al, _, _, _, _, rfl, fun _ _ h => h, rfl, Nat.le_refl _, fun t => ⟨fun h => ⟨t, h, rfl, (hal t h).1⟩, fun ⟨k, h1, h2, _⟩ => h2 ▸ h1⟩⟩ (fun i d G' M' nx' hd hI hn => ?_) (fun G' M' hI => ?_)
    · obtain ⟨out, x3, x4, x5, x6, rfl, sb, hex, hlo, hout⟩ := hI
      rw [List.getElem?_map] at hd
      obtain ⟨y, hy, rfl⟩ := Option.map_eq_some_iff.mp hd
      obtain ⟨y0, y1⟩ := hw y (List.mem_of_getElem? hy)
      walk_at "go"
      intro pk hpk
      have hMp : M pk = none := sb.none hpk
      walk_at "go"
      refine go_seqK (J := fun G' M2 => ∃ (F : List Int) (x5 x6 : Option D), G' = [some (.list (dRooms rs)), some (.list (dInts out)), some L, some (.int y), some (.ref pk), x5, x6] ∧ Sub M M2 ∧ F = stepL1 rs out y ∧ F.length ≤ out.length ∧ M2 pk = some (.dK (dSeen (F.map Sum.inl))) ∧ ∀ t, t ∈ F ↔ ∃ r ∈ out, stepR rs r y = t ∧ 0 ≤ t) (fun nx2 hk2 => ?_) (fun G' M2 hJ => ?_)
      · walk_at "go"
        refine go_forI (fun j G' M2 => ∃ (F : List Int) (x5 x6 : Option D), G' = [some (.list (dRooms rs)), some (.list (dInts out)), some L, some (.int y), some (.ref pk), x5, x6] ∧ Sub M M2 ∧ F = (out.take j).foldl (stepF rs y) [] ∧ F.length ≤ j ∧ M2 pk = some (.dK (dSeen (F.map Sum.inl))) ∧ ∀ t, t ∈ F ↔ ∃ r ∈ out.take j, stepR rs r y = t ∧ 0 ≤ t) ⟨[], _, _, rfl, sub_mupd sb hMp, rfl, Nat.le_refl _, mupd_same, by simp⟩ (fun j d G' M2 nx3 hd2 hI hn3 => ?_) (fun G' M2 hI => ?_)
        · obtain ⟨F, x5, x6, rfl, sb2, hFx, hlF, c2, hF⟩ := hI
          rw [List.getElem?_map] at hd2
          obtain ⟨r, hr, rfl⟩ := Option.map_eq_some_iff.mp hd2
          have hj := (List.getElem?_eq_some_iff.mp hr).1
          obtain ⟨k0, hk0, hk1, hk2'⟩ := (hout r).mp (List.mem_of_getElem? hr)
          have hrin : r < (rs.length : Int) := by
            have := (runR_ok gr (w.take i) k0 (fun z hz => hw z (List.mem_of_mem_take hz)) (hal k0 hk0).1 (hal k0 hk0).2 (by omega)).1
            omega
          obtain ⟨rm, er, et, _⟩ := atStepR gr hk2' hrin y0 y1
          have fstep : (out.take (j + 1)).foldl (stepF rs y) [] = stepF rs y F r := by
            rw [List.take_add_one, hr, List.foldl_append, ← hFx]
            rfl
          walk_at "goS"
          refine go_ite (fun e => ?_) (fun e => ?_)
          · have e := of_decide_eq_true e
            walk_at "goS"
            refine go_kdputK (kk := .inl (stepR rs r y)) c2 (by simp only [dSeen, List.length_map]; omega) rfl ?_
            by_cases hm : stepR rs r y ∈ F
            · rw [putD_old (List.mem_map.mpr ⟨_, hm, rfl⟩)]
              refine hn3 _ _ ⟨F, _, _, rfl, sub_mupd sb2 hMp, by rw [fstep, stepF, if_neg (fun z => z.2 hm)], by omega, mupd_same, fun t => ?_⟩
              rw [hF, List.take_add_one, hr]
              simp only [Option.toList_some, List.mem_append, List.mem_singleton]
              constructor
              · rintro ⟨r', h1, h2⟩; exact ⟨r', .inl h1, h2⟩
              · rintro ⟨r', h1 | rfl, h2⟩
                · exact ⟨r', h1, h2⟩
                · rw [← hF, ← h2.1]; exact hm
            · rw [putD_new (by simpa using hm)]
              refine hn3 _ _ ⟨F ++ [stepR rs r y], _, _, rfl, sub_mupd sb2 hMp, by rw [fstep, stepF, if_pos ⟨e, hm⟩], by simp; omega, by rw [mupd_same]; simp, fun t => ?_⟩
              rw [List.mem_append, hF, List.take_add_one, hr]
              simp only [Option.toList_some, List.mem_append, List.mem_singleton]
              constructor
              · rintro (⟨r', h1, h2⟩ | rfl)
                · exact ⟨r', .inl h1, h2⟩
                · exact ⟨r, .inr rfl, rfl, e⟩
              · rintro ⟨r', h1 | rfl, h2⟩
                · exact .inl ⟨r', h1, h2⟩
                · exact .inr h2.1.symm
          · have e := of_decide_eq_false e
            walk_at "goS"
            refine hn3 _ _ ⟨F, _, _, rfl, sb2, by rw [fstep, stepF, if_neg (fun z => e z.1)], by omega, c2, fun t => ?_⟩
            rw [hF, List.take_add_one, hr]
            simp only [Option.toList_some, List.mem_append, List.mem_singleton]
            constructor
            · rintro ⟨r', h1, h2⟩; exact ⟨r', .inl h1, h2⟩
            · rintro ⟨r', h1 | rfl, h2⟩
              · exact ⟨r', h1, h2⟩
              · omega
        · obtain ⟨F, x5, x6, rfl, sb2, hFx, hlF, c2, hF⟩ := hI
          rw [List.length_map] at hlF hF hFx
          rw [List.take_length] at hF hFx
          exact hk2 _ _ ⟨F, _, _, rfl, sb2, hFx, hlF, c2, hF⟩
      · obtain ⟨F, x5, x6, rfl, sb2, hFx, hlF, c2, hF⟩ := hJ
        walk_at "goS"
        rw [keys_dSeen]
        refine hn _ _ ⟨F, _, _, _, _, rfl, sb2, ?_, by omega, fun t => ?_⟩
        · rw [stepL, List.take_add_one, hy, List.foldl_append, hFx, hex]
          rfl
        rw [hF, List.take_add_one, hy]
        constructor
        · rintro ⟨r, h1, h2, h3⟩
          obtain ⟨k, h4, h5, h6⟩ := (hout r).mp h1
          refine ⟨k, h4, ?_, h3⟩
          rw [runR_app, h5]
          exact h2
        · rintro ⟨k, h4, h5, h6⟩
          rw [runR_app] at h5
          refine ⟨runR rs k (w.take i), (hout _).mpr ⟨k, h4, rfl, ?_⟩, h5, h6⟩
          by_cases q : 0 ≤ runR rs k (w.take i)
          · exact q
          · have := stepR_neg (rs := rs) (show runR rs k (w.take i) < 0 by omega) y
            have e : stepR rs (runR rs k (w.take i)) y = t := h5
            omega
    · obtain ⟨out, x3, x4, x5, x6, rfl, sb, hex, hlo, hout⟩ := hI
      rw [List.length_map, List.take_length] at hout hex
      exact hk _ _ ⟨out, _, _, _, _, rfl, sb, hex, hlo, hout⟩
  · obtain ⟨out, x3, x4, x5, x6, rfl, sb, hex, hlo, hout⟩ := hJ
    walk_at "go"
    exact DL.Fin.sub sb (q out hex hlo hout)
end
end L29

set_option Elab.async false
set_option linter.all false
set_option maxRecDepth 100000
set_option maxHeartbeats 4000000
namespace L29
open PySem PySem.Spec PyProof.Rows L2 DL
def sp_holds_row : aSp := fun ds M Q => ∃ web many rs c lead turn L, ds = [dWeb web, .list (dRooms rs), .int c, L, .list (dInts turn)] ∧ items L = some (dInts lead) ∧ GoodWeb web many ∧ GoodRs web many rs ∧ rs.length ≤ 100 ∧ 0 ≤ c ∧ c < (web.length : Int) ∧ Ltr many lead ∧ Ltr many turn ∧ turn.length ≤ 1000 ∧ Q (.bl (heldB web rs c lead turn)) M
def sp_is_held (a : Ad) : aSp := fun ds M Q => ∃ web many rs c lead turn L, ds = [dBook a web rs, .int c, L, .list (dInts turn)] ∧ items L = some (dInts lead) ∧ GoodWeb web many ∧ GoodRs web many rs ∧ rs.length ≤ 100 ∧ 0 ≤ c ∧ c < (web.length : Int) ∧ Ltr many lead ∧ Ltr many turn ∧ turn.length ≤ 1000 ∧ Q (.bl (heldB web rs c lead turn)) M
/-- a class that was seen comes again -/
structure Come (web : List (List Int)) (f : Int → Int) (F : List Int) (h : Int) : Prop where
  nd : F.Nodup
  rg : ∀ x ∈ F, 0 ≤ x ∧ x < (web.length : Int)
  h0 : 0 ≤ h
  h1 : h < (web.length : Int)
  bk : ∀ x ∈ F, ∃ j, 1 ≤ j ∧ j ≤ F.length ∧ iter f j x = h
theorem Come.le {web : List (List Int)} {f : Int → Int} {F : List Int} {h : Int} (c : Come web f F h) : F.length ≤ web.length := by
  have := nodup_sub c.nd (S := (List.range web.length).map fun (i : Nat) => (i : Int)) (fun x hx => by
    obtain ⟨a, b⟩ := c.rg x hx
    exact List.mem_map.mpr ⟨x.toNat, List.mem_range.mpr (by omega), by omega⟩)
  simpa using this
theorem iter_succ (f : Int → Int) (n : Nat) (k : Int) : iter f (n + 1) k = f (iter f n k) := by rw [iter_add f n 1]; rfl
theorem Come.step {web : List (List Int)} {f : Int → Int} {F : List Int} {h : Int} (c : Come web f F h) (hn : h ∉ F) (a : 0 ≤ f h) (b : f h < (web.length : Int)) : Come web f (F ++ [h]) (f h) where
  nd := List.nodup_append.mpr ⟨c.nd, by simp, fun x hx y hy => by
    rcases List.mem_singleton.mp hy with rfl
    intro e
    subst e
    exact hn hx⟩
  rg := fun x hx => by
    rcases List.mem_append.mp hx with hx | hx
    · exact c.rg x hx
    · rcases List.mem_singleton.mp hx with rfl
      exact ⟨c.h0, c.h1⟩
  h0 := a
  h1 := b
  bk := fun x hx => by
    rcases List.mem_append.mp hx with hx | hx
    · obtain ⟨j, j0, j1, e⟩ := c.bk x hx
      exact ⟨j + 1, by omega, by simp; omega, by rw [iter_succ, e]⟩
    · rcases List.mem_singleton.mp hx with rfl
      exact ⟨1, by omega, by simp, rfl⟩
theorem comeAgain_in {f : Int → Int} {m : Nat} {F : List Int} {h : Int} (hm : 1 ≤ m) (hf : h ∈ F) : comeAgain f m F h = h := by
  obtain _ | m := m
  · omega
  · rw [comeAgain, if_pos hf]
theorem comeAgain_out {f : Int → Int} {m : Nat} {F : List Int} {h : Int} (hm : 1 ≤ m) (hf : h ∉ F) : comeAgain f m F h = comeAgain f (m - 1) (F ++ [h]) (f h) := by
  obtain _ | m := m
  · omega
  · rw [comeAgain, if_neg hf]
    rfl
open Classical in
theorem heldB_of {web : List (List Int)} {rs : List Rm} {c : Int} {lead turn : List Int} {b : Bool} (h : (∃ k, 0 ≤ k ∧ k < (rs.length : Int) ∧ clsR rs k = comeAgain (fun c => runW web c turn) (web.length + 1) [] (runW web c lead) ∧ 0 ≤ iter (fun k => runR rs k turn) (rs.length + 1) k) ↔ b = true) : heldB web rs c lead turn = b := by
  unfold heldB
  cases b with
  | false => exact decide_eq_false fun z => Bool.noConfusion (h.mp z)
  | true => exact decide_eq_true (h.mpr rfl)
theorem mem_inl {h : Int} {F : List Int} : (Sum.inl h : Key) ∈ F.map Sum.inl ↔ h ∈ F := by simp
theorem go_neInts {cs : List Int} {M : Mp} {Q : QD} (q : Q (.bl (!cs.isEmpty)) M) : fNe (.list (cs.map D.int)) (.list []) M Q := by
  refine ⟨eqOks_ints 8 cs, rfl, ?_⟩
  cases cs with
  | nil => exact q
  | cons => exact q
section
variable {P : Program} {w : World} {K : PySem.W.Frag} {mg : Str → Option Value} {base : Heap} {a : Ad}
theorem ok_holds_row (T : TX K mg a) : FnOk P w K mg base CX0 2 a.f_holds_row a.fd_holds_row ["walker", "rooms", "at_class", "beginning", "period"] (lift K 5 sp_holds_row) := by
  refine okD (k := 1) T.fn_holds_row sc_holds_row rfl fun cdv A outer s H E hr => ⟨_, _, (dss_cons (ds_set (j := 5) sc_holds_row.nd rfl (by first | exact .inl rfl | exact .inr rfl) (de_call (ok_walked T) (hr.mono (by decide)) (by rfl) T.mg_walked T.kp_walked T.bd_walked pass0 (da_cons (dv 0) (da_cons (dv 2) (da_cons (dv 3) da_nil)))))
      (dss_cons (ds_set (j := 6) sc_holds_row.nd rfl (by first | exact .inl rfl | exact .inr rfl) de_dnewK)
      (dss_cons (ds_while (dt_cmp (op_notInA (hu_of hr)) s2_in (dv 5) (dv 6) (by rfl)) (dss_cons (ds_dput (hu_of hr) (dv 6) (dv 5) de_bl)
      (dss_one (ds_set (j := 5) sc_holds_row.nd rfl (by first | exact .inl rfl | exact .inr rfl) (de_call (ok_walked T) (hr.mono (by decide)) (by rfl) T.mg_walked T.kp_walked T.bd_walked pass0 (da_cons (dv 0) (da_cons (dv 5) (da_cons (dv 4) da_nil))))))) PassesOwn.never)
      (dss_cons (ds_set (j := 7) sc_holds_row.nd rfl (by first | exact .inl rfl | exact .inr rfl) (de_callTy call_list_of sl_listM (by rfl) T.b_list (by decide +kernel) (da_cons (dv 4) da_nil)))
      (dss_cons (ds_set (j := 8) sc_holds_row.nd rfl (by first | exact .inl rfl | exact .inr rfl) (de_call (ok_walked T) (hr.mono (by decide)) (by rfl) T.mg_walked T.kp_walked T.bd_walked pass0 (da_cons (dv 0) (da_cons (dv 5) (da_cons (dv 4) da_nil)))))
      (dss_cons (ds_while (dt_cmp (op_neD hr.units) s2_ne (dv 8) (dv 5) (nomark _)) (dss_cons (ds_expr (de_bm PySem.F.plainAttrs_list PySem.F.slot_list_extend PySem.F.type_list_extend mt_extend sm_extend (.inl rfl) (dv 7) (da_cons (dv 4) da_nil)))
      (dss_one (ds_set (j := 8) sc_holds_row.nd rfl (by first | exact .inl rfl | exact .inr rfl) (de_call (ok_walked T) (hr.mono (by decide)) (by rfl) T.mg_walked T.kp_walked T.bd_walked pass0 (da_cons (dv 0) (da_cons (dv 8) (da_cons (dv 4) da_nil))))))) PassesOwn.never)
      (dss_cons (ds_setLc (j := 9) (own := [("room", 11), ("kind", 12), ("steps", 13)]) rfl sc_holds_row.nd rfl rfl (sw_true rfl rfl rfl (by decide +kernel)) (di_enum (by rfl) T.b_enumerate (da_cons (dv 1) da_nil)) (blkOk_by (by rfl)) (fun _ _ _ _ _ => (dg_tup (dgs_cons (dg_name (j := 11) sc_holds_row.nd rfl (by first | exact .inl rfl | exact .inr rfl)) (dgs_cons (dg_tup (dgs_cons (dg_name (j := 12) sc_holds_row.nd rfl (by first | exact .inl rfl | exact .inr rfl)) (dgs_cons (dg_name (j := 13) sc_holds_row.nd rfl (by first | exact .inl rfl | exact .inr rfl)) dgs_nil))) dgs_nil)))) (fun _ _ _ _ _ => (dts_one (dt_cmp (op_eqD hr.units) s2_eq (dv 12) (dv 5) (nomark _)))) (fun _ _ _ _ _ => (dv 11)) (om_tup (om_cons om_name (om_cons (om_tup (om_cons om_name (om_cons om_name om_nil))) om_nil))))
      (dss_cons (ds_for (di_range1 (by rfl) T.b_range (da_cons (de_callB call_lenA sl_len (by rfl) T.b_len (by decide +kernel) (da_cons (dv 9) da_nil)) da_nil)) (dg_name (j := 10) sc_holds_row.nd rfl (by first | exact .inl rfl | exact .inr rfl)) (dss_one (ds_set (j := 9) sc_holds_row.nd rfl (by first | exact .inl rfl | exact .inr rfl) (de_call (ok_stepped T) (hr.mono (by decide)) (by rfl) T.mg_stepped T.kp_stepped T.bd_stepped pass0 (da_cons (dv 1) (da_cons (dv 9) (da_cons (dv 7) da_nil)))))) PassesOwn.never)
      (dss_one (ds_ret (de_cmp (op_neD hr.units) s2_ne (dv 9) (de_lst da_nil) (nomark _)))))))))))), fun ds M Q hl h => ?_⟩
  obtain ⟨web, many, rs, c, lead, turn, L, rfl, hL, gw, gr, hrl, c0, c1, hle, ht, htl, q⟩ := h
  have gwl := gw.le
  obtain ⟨s0, s1⟩ := runW_in gw lead c hle c0 c1
  walk_at "start"
  walk_at "go"
  refine ⟨web, many, c, lead, L, rfl, hL, gw, c0, c1, hle, ?_⟩
  walk_at "go"
  intro ps hps
  walk_at "go"
  refine go_seqK (J := fun G' M' => ∃ R : Int, G' = [some (dWeb web), some (.list (dRooms rs)), some (.int c), some L, some (.list (dInts turn)), some (.int R), some (.ref ps), none, none, none, none, none, none, none] ∧ Sub M M' ∧
    R = comeAgain (fun c => runW web c turn) (web.length + 1) [] (runW web c lead) ∧ 0 ≤ R ∧ R < (web.length : Int) ∧ ∃ j, 1 ≤ j ∧ j ≤ 3 ∧ iter (fun c => runW web c turn) j R = R) (fun nx hk => ?_) (fun G' M' hJ => ?_)
  · refine go_whileI (W := fun m G' M' => ∃ (F : List Int) (h : Int), G' = [some (dWeb web), some (.list (dRooms rs)), some (.int c), some L, some (.list (dInts turn)), some (.int h), some (.ref ps), none, none, none, none, none, none, none] ∧ Sub M M' ∧
      M' ps = some (.dK (dSeen (F.map Sum.inl))) ∧ Come web (fun c => runW web c turn) F h ∧ comeAgain (fun c => runW web c turn) m F h = comeAgain (fun c => runW web c turn) (web.length + 1) [] (runW web c lead) ∧ m + F.length = web.length + 1) (web.length + 1) ?_ (fun m G' M' nx' hW hn => ?_)
    · exact ⟨[], _, rfl, sub_mupd (fun _ _ h => h) hps, mupd_same, ⟨.nil, by simp, s0, s1, by simp⟩, rfl, by simp⟩
    · obtain ⟨F, h, rfl, sb, c2, cm, hc, hm⟩ := hW
      have cl := cm.le
      obtain ⟨t0, t1⟩ := runW_in gw turn h ht cm.h0 cm.h1
      walk_at "goS"
      refine go_inD (itemsM_dK c2) (getDk_dK (kk := .inl h) c2 rfl) ?_
      rw [valD_dSeen]
      walk_at "goS"
      refine go_ite (fun e => ?_) (fun e => ?_)
      · have e : h ∉ F := fun z => by
          have := mem_inl.mpr z
          simp [this] at e
        walk_at "goS"
        refine go_kdputK (kk := .inl h) c2 (by simp only [dSeen, List.length_map]; omega) rfl ?_
        rw [putD_new (fun z => e (mem_inl.mp z))]
        walk_at "goS"
        refine ⟨web, many, h, turn, _, rfl, rfl, gw, cm.h0, cm.h1, ht, ?_⟩
        walk_at "goS"
        refine hn (m - 1) _ _ (by omega) ⟨F ++ [h], _, rfl, sub_mupd sb hps, by rw [mupd_same]; simp, cm.step e t0 t1, ?_, by simp; omega⟩
        rw [← hc, comeAgain_out (by omega) e]
      · have e : h ∈ F := by
          refine Classical.byContradiction fun z => ?_
          have : (Sum.inl h : Key) ∉ F.map Sum.inl := fun y => z (mem_inl.mp y)
          simp [this] at e
        obtain ⟨j, j0, j1, ej⟩ := cm.bk h e
        exact hk _ _ ⟨h, rfl, sb, by rw [← hc, comeAgain_in (by omega) e], cm.h0, cm.h1, j, j0, by omega, ej⟩
  obtain ⟨R, rfl, sb, hR, R0, R1, j, j0, j1, ej⟩ := hJ
  walk_at "go"
  intro pl hpl
  have hMl : M pl = none := sb.none hpl
  walk_at "go"
  refine ⟨web, many, R, turn, _, rfl, rfl, gw, R0, R1, ht, ?_⟩
  walk_at "go"
  refine go_seqC (J := fun G' M2 => ∃ (n : Nat) (x8 : Option D), G' = [some (dWeb web), some (.list (dRooms rs)), some (.int c), some L, some (.list (dInts turn)), some (.int R), some (.ref ps), some (.list (dInts (List.replicate n turn).flatten)), x8, none, none, none, none, none] ∧ Sub M M2 ∧ 1 ≤ n ∧ iter (fun c => runW web c turn) n R = R) (fun nx hk => ?_) (fun G' M2 hJ => ?_)
  · refine go_whileI (W := fun m G' M2 => ∃ (n : Nat), G' = [some (dWeb web), some (.list (dRooms rs)), some (.int c), some L, some (.list (dInts turn)), some (.int R), some (.ref ps), some (.ref pl), some (.int (iter (fun c => runW web c turn) n R)), none, none, none, none, none] ∧ Sub M M2 ∧
      M2 pl = some (.lst (dInts (List.replicate n turn).flatten)) ∧ 1 ≤ n ∧ m + n = j) (j - 1) ?_ (fun m G' M2 nx' hW hn => ?_)
    · exact ⟨1, rfl, sub_mupd sb hMl, by rw [mupd_same]; simp, by omega, by omega⟩
    · obtain ⟨n, rfl, sb2, c2, n1, hm⟩ := hW
      obtain ⟨t0, t1⟩ : 0 ≤ iter (fun c => runW web c turn) n R ∧ iter (fun c => runW web c turn) n R < (web.length : Int) := by
        rw [← runW_rep]
        refine runW_in gw _ R (fun x hx => ?_) R0 R1
        obtain ⟨l, hl, hx⟩ := List.mem_flatten.mp hx
        rw [(List.mem_replicate.mp hl).2] at hx
        exact ht x hx
      walk_at "goS"
      refine go_ite (fun e => ?_) (fun e => ?_)
      · have e : iter (fun c => runW web c turn) n R ≠ R := by simpa using e
        have hnj : n ≠ j := fun z => by subst z; exact e ej
        have hfl : ((List.replicate n turn).flatten).length ≤ 3000 := by
          rw [List.length_flatten, List.map_replicate, List.sum_replicate_nat]
          calc n * turn.length ≤ 3 * 1000 := Nat.mul_le_mul (by omega) htl
            _ ≤ 3000 := by decide
        walk_at "goS"
        refine ⟨web, many, _, turn, _, rfl, rfl, gw, t0, t1, ht, ?_⟩
        walk_at "goS"
        refine hn (m - 1) _ _ (by omega) ⟨n + 1, ?_, sub_mupd sb2 hMl, ?_, by omega, by omega⟩
        · rw [iter_succ]
        · rw [mupd_same, List.replicate_succ', List.flatten_append]
          simp [dInts]
      · have e : iter (fun c => runW web c turn) n R = R := by simpa using e
        exact hk _ _ ⟨_, _, freeze1 c2 hMl (.cons (.same _) (.cons (.same _) (.cons (.same _) (.cons (.same _) (.cons (.same _) (.cons (.same _) (.cons (.same _) (.cons (.ref (by simp) c2 (dzs_same _)) (Dzg.same _))))))))), n, _, rfl, fun x d hx => by
          have hx2 : x ≠ pl := fun z => by subst z; rw [hMl] at hx; cases hx
          rw [mdel_ne hx2]; exact sb2 x d hx, n1, e⟩
  obtain ⟨n, x8, rfl, sb2, n1, en⟩ := hJ
  have hlt : Ltr many (List.replicate n turn).flatten := fun x hx => by
    obtain ⟨l, hl, hx⟩ := List.mem_flatten.mp hx
    rw [(List.mem_replicate.mp hl).2] at hx
    exact ht x hx
  walk_at "go"
  refine go_lcI (fun i acc M3 => M2 = M3 ∧ ∃ al : List Int, acc = dInts al ∧ al.length ≤ i ∧ ∀ k, k ∈ al ↔ 0 ≤ k ∧ k < (i : Int) ∧ clsR rs k = R) ⟨rfl, [], rfl, Nat.le_refl _, fun k => ⟨fun h => by simp at h, fun h => by omega⟩⟩ (fun i d acc M3 KY KN hd hI hY hN => ?_) (fun acc M3 hI => ?_)
  · obtain ⟨rfl, al, rfl, hl, hal⟩ := hI
    obtain ⟨x, hx, rfl⟩ := enumD_get hd
    rw [List.getElem?_map] at hx
    obtain ⟨r, hr, rfl⟩ := Option.map_eq_some_iff.mp hx
    have hcl : clsR rs (i : Int) = r.1 := by unfold clsR; rw [List.getD_eq_getElem?_getD, List.getElem?_map, Int.toNat_natCast, hr]; rfl
    walk_at "go"
    refine go_ite (fun e => ?_) (fun e => ?_)
    · have e : r.1 = R := by simpa using e
      walk_at "go"
      refine hY (.int (i : Int)) _ ⟨rfl, al ++ [(i : Int)], by simp [dInts], by simp; omega, fun k => ?_⟩
      rw [List.mem_append, hal, List.mem_singleton]
      constructor
      · rintro (⟨h1, h2, h3⟩ | rfl)
        · exact ⟨h1, by omega, h3⟩
        · exact ⟨by omega, by omega, by rw [hcl, e]⟩
      · rintro ⟨h1, h2, h3⟩
        by_cases z : k = (i : Int)
        · exact .inr z
        · exact .inl ⟨h1, by omega, h3⟩
    · have e : r.1 ≠ R := by simpa using e
      refine hN _ ⟨rfl, al, rfl, by omega, fun k => ?_⟩
      rw [hal]
      constructor
      · rintro ⟨h1, h2, h3⟩; exact ⟨h1, by omega, h3⟩
      · rintro ⟨h1, h2, h3⟩
        by_cases z : k = (i : Int)
        · subst z; rw [hcl] at h3; exact absurd h3 e
        · exact ⟨h1, by omega, h3⟩
  obtain ⟨rfl, al, rfl, hl, hal⟩ := hI
  rw [length_enumD, List.length_map] at hl hal
  walk_at "go"
  refine go_seqK (J := fun G' M3 => ∃ (out : List Int) (x10 : Option D), G' = [some (dWeb web), some (.list (dRooms rs)), some (.int c), some L, some (.list (dInts turn)), some (.int R), some (.ref ps), some (.list (dInts (List.replicate n turn).flatten)), x8, some (.list (dInts out)), x10, none, none, none] ∧ Sub M M3 ∧
    ∀ t, t ∈ out ↔ ∃ k ∈ al, iter (fun k => runR rs k (List.replicate n turn).flatten) al.length k = t ∧ 0 ≤ t) (fun nx hk => ?_) (fun G' M3 hJ => ?_)
  · walk_at "go"
    refine go_forI (fun i G' M3 => ∃ (out : List Int) (x10 : Option D), G' = [some (dWeb web), some (.list (dRooms rs)), some (.int c), some L, some (.list (dInts turn)), some (.int R), some (.ref ps), some (.list (dInts (List.replicate n turn).flatten)), x8, some (.list (dInts out)), x10, none, none, none] ∧ Sub M M3 ∧
      out.length ≤ al.length ∧ ∀ t, t ∈ out ↔ ∃ k ∈ al, iter (fun k => runR rs k (List.replicate n turn).flatten) i k = t ∧ 0 ≤ t) ⟨al, none, rfl, sb2, Nat.le_refl _, fun t => ⟨fun h => ⟨t, h, rfl, ((hal t).mp h).1⟩, fun ⟨k, h1, h2, _⟩ => h2 ▸ h1⟩⟩ (fun i d G' M3 nx' hd hI hn => ?_) (fun G' M3 hI => ?_)
    · obtain ⟨out, x10, rfl, sb3, hlo, hout⟩ := hI
      walk_at "go"
      refine ⟨web, many, rs, out, _, _, rfl, rfl, gr, hlt, by omega, fun k hk => ?_, fun out2 _ ho1 ho2 => ?_⟩
      · obtain ⟨k', h1, h2, h3⟩ := (hout k).mp hk
        refine ⟨h3, ?_⟩
        rw [← runR_rep] at h2
        rw [← h2] at h3 ⊢
        refine (runR_ok gr _ k' (fun x hx => ?_) ((hal k').mp h1).1 ((hal k').mp h1).2.1 h3).1
        obtain ⟨l, hl, hx⟩ := List.mem_flatten.mp hx
        rw [(List.mem_replicate.mp hl).2] at hx
        exact hlt x hx
      · walk_at "go"
        refine hn _ _ ⟨out2, _, rfl, sb3, by omega, fun t => ?_⟩
        rw [ho2]
        constructor
        · rintro ⟨k', h1, h2, h3⟩
          obtain ⟨k, h4, h5, h6⟩ := (hout k').mp h1
          exact ⟨k, h4, by rw [iter_succ, h5]; exact h2, h3⟩
        · rintro ⟨k, h4, h5, h6⟩
          rw [iter_succ] at h5
          refine ⟨iter (fun k => runR rs k (List.replicate n turn).flatten) i k, (hout _).mpr ⟨k, h4, rfl, ?_⟩, h5, h6⟩
          by_cases z : 0 ≤ iter (fun k => runR rs k (List.replicate n turn).flatten) i k
          · exact z
          · have z2 := runR_neg (rs := rs) (List.replicate n turn).flatten (iter (fun k => runR rs k (List.replicate n turn).flatten) i k) (by omega)
            have h5' : runR rs (iter (fun k => runR rs k (List.replicate n turn).flatten) i k) (List.replicate n turn).flatten = t := h5
            omega
    · obtain ⟨out, x10, rfl, sb3, hlo, hout⟩ := hI
      rw [length_rng] at hout
      simp only [List.length_map, Int.toNat_natCast] at hout
      exact hk _ _ ⟨out, x10, rfl, sb3, hout⟩
  obtain ⟨out, x10, rfl, sb3, hout⟩ := hJ
  walk_at "go"
  refine go_neInts ?_
  have hb : heldB web rs c lead turn = !out.isEmpty := by
    have iff := held_iff gr ht n1 en hal
    refine heldB_of ?_
    rw [← hR, ← iff]
    cases out with
    | nil =>
      refine ⟨fun ⟨k, h1, h2⟩ => ?_, fun h => Bool.noConfusion h⟩
      have := (hout _).mpr ⟨k, h1, rfl, h2⟩
      simp at this
    | cons t r =>
      refine ⟨fun _ => rfl, fun _ => ?_⟩
      obtain ⟨k, h1, h2, h3⟩ := (hout t).mp (by simp)
      exact ⟨k, h1, by rw [h2]; exact h3⟩
  rw [hb] at q
  exact DL.Fin.sub sb3 q
theorem ok_is_held (T : TX K mg a) : FnOk P w K mg base CX0 3 a.f_is_held a.fd_is_held ["book", "at_class", "beginning", "period"] (lift K 4 (sp_is_held a)) := by
  refine okD (k := 2) T.fn_is_held sc_is_held rfl fun cdv A outer s H E hr => ⟨_, _, (dss_one (ds_ret (de_call (ok_holds_row T) (hr.mono (by decide)) (by rfl) T.mg_holds_row T.kp_holds_row T.bd_holds_row pass0 (da_cons (de_meth0 (dv 0) T.cl_RoomBook T.me_RoomBook_walker (ok_RoomBook_walker T) (hr.mono (by decide)) T.bd_RoomBook_walker pass0) (da_cons (de_meth0 (dv 0) T.cl_RoomBook T.me_RoomBook_rooms (ok_RoomBook_rooms T) (hr.mono (by decide)) T.bd_RoomBook_rooms pass0) (da_cons (dv 1) (da_cons (dv 2) (da_cons (dv 3) da_nil)))))))), fun ds M Q hl h => ?_⟩
  obtain ⟨web, many, rs, c, lead, turn, L, rfl, hL, gw, gr, hrl, c0, c1, hle, ht, htl, q⟩ := h
  have gwl := gw.le
  walk_at "start"
  walk_at "go"
  refine ⟨web, rs, rfl, by omega, ?_⟩
  walk_at "go"
  refine ⟨web, rs, rfl, ?_⟩
  walk_at "go"
  exact ⟨web, many, rs, c, lead, turn, L, rfl, hL, gw, gr, hrl, c0, c1, hle, ht, htl, Fin.of q⟩
end
end L29

set_option Elab.async false
set_option linter.all false
set_option maxRecDepth 100000
set_option maxHeartbeats 4000000
namespace L29
open PySem PySem.Spec PyProof.Rows L2 DL
mutual
/-- plain data, at most k deep -/
def plainN : Nat → D → Bool
  | _, .non => true
  | _, .bl _ => true
  | _, .int _ => true
  | _, .str x => PyData.strOk x
  | k + 1, .list ds => decide (ds.length ≤ 1000000) && plainsN k ds
  | k + 1, .tup ds => decide (ds.length ≤ 1000000) && plainsN k ds
  | _, _ => false
def plainsN : Nat → List D → Bool
  | _, [] => true
  | k, d :: ds => plainN k d && plainsN k ds
end
theorem plains_get {k : Nat} : ∀ {ds : List D} {i : Nat} {d : D}, plainsN k ds = true → ds[i]? = some d → plainN k d = true
  | [], i, d, _, h => by simp at h
  | x :: xs, 0, d, h, e => by
    simp only [plainsN, Bool.and_eq_true] at h
    simp at e
    subst e
    exact h.1
  | x :: xs, i + 1, d, h, e => by
    simp only [plainsN, Bool.and_eq_true] at h
    simp at e
    exact plains_get h.2 e
theorem bools_tt : ∀ (ds : List D), bools (ds.map fun _ => D.bl true) = some (ds.map fun _ => true)
  | [] => rfl
  | d :: ds => by
    rw [List.map_cons, bools, bools_tt ds]
    rfl
/-- asked of a thing and itself -/
def sp__law_like : Nat → aSp
  | 0 => fun _ _ _ => False
  | k + 1 => fun ds M Q => ∃ f, ds = [f, f] ∧ plainN k f = true ∧ Q (.bl true) M
section
variable {P : Program} {w : World} {K : PySem.W.Frag} {mg : Str → Option Value} {base : Heap} {a : Ad}
theorem ok__law_like (T : TX K mg a) (k : Nat) : FnOk P w K mg base CX0 k a.f__law_like a.fd__law_like ["found", "due"] (lift K 2 (sp__law_like k)) := by
  induction k with
  | zero => exact ok_never (fun _ _ _ h => h)
  | succ k IH => ?_
  refine okD (k := k) T.fn__law_like sc__law_like rfl fun cdv A outer s H E hr => ⟨_, _, (dss_cons (ds_if (dt_cmp op_isN s2_is (dv 1) de_non (nomark _)) (dss_one (ds_ret (de_cmp op_isN s2_is (dv 0) de_non (nomark _)))) dss_nil)
      (dss_cons (ds_if (dt_tru (de_callB call_isi sl_isi (by rfl) T.b_isinstance (by decide +kernel) (da_cons (dv 1) (da_cons (de_ty (n := "dict") (by rfl) T.b_dict) da_nil)))) (dss_cons (ds_if (DW.dt (dw_or (dt_not (dt_tru (de_callB call_isi sl_isi (by rfl) T.b_isinstance (by decide +kernel) (da_cons (dv 0) (da_cons (de_ty (n := "dict") (by rfl) T.b_dict) da_nil))))) (dw_or1 (dt_not (dt_tru (de_call IH (hr.mono (by first | decide | exact Nat.le_refl _)) (by rfl) T.mg__law_like T.kp__law_like T.bd__law_like pass0 (da_cons (de_callTy call_list_of sl_list (by rfl) T.b_list (by decide +kernel) (da_cons (dv 0) da_nil)) (da_cons (de_callTy call_list_of sl_list (by rfl) T.b_list (by decide +kernel) (da_cons (dv 1) da_nil)) da_nil)))))))) (dss_one (ds_ret de_bl)) dss_nil)
      (dss_one (ds_ret (de_callB (cr_all rfl) sl_all (by rfl) T.b_all (by decide +kernel) (da_cons (de_lc (own := [("mark", 2)]) rfl sc__law_like.nd (di_seq (dv 1)) (blkOk_by (by rfl)) (fun _ _ _ _ _ => (dg_name (j := 2) sc__law_like.nd rfl (by first | exact .inl rfl | exact .inr rfl))) (fun _ _ _ _ _ => dts_nil) (fun _ _ _ _ _ => (de_call IH (hr.mono (by first | decide | exact Nat.le_refl _)) (by rfl) T.mg__law_like T.kp__law_like T.bd__law_like pass0 (da_cons (de_ix (hu_of hr) (dv 0) (dv 2) (fun _ _ => rfl)) (da_cons (de_ix (hu_of hr) (dv 1) (dv 2) (fun _ _ => rfl)) da_nil)))) om_name) da_nil))))) dss_nil)
      (dss_cons (ds_if (dt_tru (de_callB call_isiT sl_isiT (by rfl) T.b_isinstance (by decide +kernel) (da_cons (dv 1) (da_cons (de_tup (da_cons (de_ty (n := "list") (by rfl) T.b_list) (da_cons (de_ty (n := "tuple") (by rfl) T.b_tuple) da_nil))) da_nil)))) (dss_cons (ds_if (DW.dt (dw_or (dt_cmp (op_neD hr.units) s2_ne (de_callB call_isi sl_isi (by rfl) T.b_isinstance (by decide +kernel) (da_cons (dv 1) (da_cons (de_ty (n := "list") (by rfl) T.b_list) da_nil))) (de_callB call_isi sl_isi (by rfl) T.b_isinstance (by decide +kernel) (da_cons (dv 0) (da_cons (de_ty (n := "list") (by rfl) T.b_list) da_nil))) (nomark _)) (dw_or1 (dt_cmp (op_neD hr.units) s2_ne (de_callB call_isi sl_isi (by rfl) T.b_isinstance (by decide +kernel) (da_cons (dv 1) (da_cons (de_ty (n := "tuple") (by rfl) T.b_tuple) da_nil))) (de_callB call_isi sl_isi (by rfl) T.b_isinstance (by decide +kernel) (da_cons (dv 0) (da_cons (de_ty (n := "tuple") (by rfl) T.b_tuple) da_nil))) (nomark _))))) (dss_one (ds_ret de_bl)) dss_nil)
      (dss_one (ds_ret (de_and (de_cmp (op_eqD hr.units) s2_eq (de_callB call_lenA sl_len (by rfl) T.b_len (by decide +kernel) (da_cons (dv 0) da_nil)) (de_callB call_lenA sl_len (by rfl) T.b_len (by decide +kernel) (da_cons (dv 1) da_nil)) (nomark _)) (de_one (de_callB (cr_all rfl) sl_all (by rfl) T.b_all (by decide +kernel) (da_cons (de_lc (own := [("mine", 3), ("yours", 4)]) rfl sc__law_like.nd (di_zip (by rfl) T.b_zip (da_cons (dv 0) (da_cons (dv 1) da_nil))) (blkOk_by (by rfl)) (fun _ _ _ _ _ => (dg_tup (dgs_cons (dg_name (j := 3) sc__law_like.nd rfl (by first | exact .inl rfl | exact .inr rfl)) (dgs_cons (dg_name (j := 4) sc__law_like.nd rfl (by first | exact .inl rfl | exact .inr rfl)) dgs_nil)))) (fun _ _ _ _ _ => dts_nil) (fun _ _ _ _ _ => (de_call IH (hr.mono (by first | decide | exact Nat.le_refl _)) (by rfl) T.mg__law_like T.kp__law_like T.bd__law_like pass0 (da_cons (dv 3) (da_cons (dv 4) da_nil)))) (om_tup (om_cons om_name (om_cons om_name om_nil)))) da_nil))))))) dss_nil)
      (dss_cons (ds_if (dt_tru (de_callB call_isi sl_isi (by rfl) T.b_isinstance (by decide +kernel) (da_cons (dv 1) (da_cons (de_ty (n := "str") (by rfl) T.b_str) da_nil)))) (dss_one (ds_ret (de_and (de_callB call_isi sl_isi (by rfl) T.b_isinstance (by decide +kernel) (da_cons (dv 0) (da_cons (de_ty (n := "str") (by rfl) T.b_str) da_nil))) (de_one (de_cmp (op_eqD hr.units) s2_eq (dv 0) (dv 1) (nomark _)))))) dss_nil)
      (dss_cons (ds_if (DW.dt (dw_or (dt_tru (de_callB call_isiT sl_isiT (by rfl) T.b_isinstance (by decide +kernel) (da_cons (dv 0) (da_cons (de_tup (da_cons (de_ty (n := "list") (by rfl) T.b_list) (da_cons (de_ty (n := "tuple") (by rfl) T.b_tuple) (da_cons (de_ty (n := "dict") (by rfl) T.b_dict) (da_cons (de_ty (n := "str") (by rfl) T.b_str) da_nil))))) da_nil)))) (dw_or1 (dt_cmp (op_neD hr.units) s2_ne (de_callB call_isi sl_isi (by rfl) T.b_isinstance (by decide +kernel) (da_cons (dv 1) (da_cons (de_ty (n := "bool") (by rfl) T.b_bool) da_nil))) (de_callB call_isi sl_isi (by rfl) T.b_isinstance (by decide +kernel) (da_cons (dv 0) (da_cons (de_ty (n := "bool") (by rfl) T.b_bool) da_nil))) (nomark _))))) (dss_one (ds_ret de_bl)) dss_nil)
      (dss_one (ds_ret (de_and (de_callB call_isi sl_isi (by rfl) T.b_isinstance (by decide +kernel) (da_cons (dv 0) (da_cons (de_ty (n := "int") (by rfl) T.b_int) da_nil))) (de_one (de_cmp (op_eqD hr.units) s2_eq (dv 0) (dv 1) (nomark _))))))))))), fun ds M Q hl h => ?_⟩
  obtain ⟨d, rfl, hd, q⟩ := h
  walk_at "start"
  cases d <;> first | (cases k <;> (simp [plainN] at hd; done)) | skip
  case non =>
    walk_at "goS"
    exact Fin.of q
  case bl x =>
    walk_at "goS"
    rw [beq_self_eq_true]
    exact Fin.of q
  case int x =>
    walk_at "goS"
    rw [beq_self_eq_true]
    exact Fin.of q
  case str y =>
    have hy : PyData.strOk y = true := by cases k <;> simpa [plainN] using hd
    walk_at "goS"
    refine go_eqS hy hy ?_
    rw [beq_self_eq_true]
    exact Fin.of q
  case list xs =>
    walk_at "goS"
    obtain _ | k := k
    · simp [plainN] at hd
    simp only [plainN, Bool.and_eq_true, decide_eq_true_eq] at hd
    refine go_ite (fun e => ?_) (fun e => by simp at e)
    walk_at "go"
    refine go_lcM' (fun _ => .bl true) (fun i d KY KN hd2 hY => ?_) ?_
    · obtain ⟨x, y, h1, h2, rfl⟩ := zipD_get hd2
      rw [h1] at h2
      cases h2
      walk_at "go"
      exact ⟨x, rfl, plains_get hd.2 h1, hY⟩
    walk_at "go"
    refine go_all rfl rfl (bools_tt _) ?_
    rw [show ((zipD xs xs).map fun _ => true).all _root_.id = true by simp]
    exact Fin.of q
  case tup xs =>
    walk_at "goS"
    obtain _ | k := k
    · simp [plainN] at hd
    simp only [plainN, Bool.and_eq_true, decide_eq_true_eq] at hd
    refine go_ite (fun e => ?_) (fun e => by simp at e)
    walk_at "go"
    refine go_lcM' (fun _ => .bl true) (fun i d KY KN hd2 hY => ?_) ?_
    · obtain ⟨x, y, h1, h2, rfl⟩ := zipD_get hd2
      rw [h1] at h2
      cases h2
      walk_at "go"
      exact ⟨x, rfl, plains_get hd.2 h1, hY⟩
    walk_at "go"
    refine go_all rfl rfl (bools_tt _) ?_
    rw [show ((zipD xs xs).map fun _ => true).all _root_.id = true by simp]
    exact Fin.of q
end
end L29

set_option Elab.async false
set_option linter.all false
set_option maxRecDepth 100000
set_option maxHeartbeats 4000000
namespace L29
open PySem PySem.Spec PyProof.Rows L2 DL
theorem rep_flat {n : Nat} {w : List Int} : (List.replicate n (dInts w)).flatten = dInts (List.replicate n w).flatten := by
  rw [dInts, dInts, List.map_flatten, List.map_replicate]
def sp__law_along : aSp := fun ds M Q => ∃ web many c w L, ds = [dWeb web, .int c, L] ∧ items L = some (dInts w) ∧ GoodWeb web many ∧ 0 ≤ c ∧ c < (web.length : Int) ∧ Ltr many w ∧ Q (.int (runW web c w)) M
def sp__law_held : aSp := fun ds M Q => ∃ web many rs c lead turn L, ds = [dWeb web, .list (dRooms rs), .int c, L, .list (dInts turn)] ∧ items L = some (dInts lead) ∧ GoodWeb web many ∧ GoodRs web many rs ∧ rs.length ≤ 100 ∧ 0 ≤ c ∧ c < (web.length : Int) ∧ Ltr many lead ∧ Ltr many turn ∧ turn.length ≤ 1000 ∧ Q (.bl (heldB web rs c lead turn)) M
section
variable {P : Program} {w : World} {K : PySem.W.Frag} {mg : Str → Option Value} {base : Heap} {a : Ad}
theorem ok__law_along (T : TX K mg a) : FnOk P w K mg base CX0 1 a.f__law_along a.fd__law_along ["web", "spot", "path"] (lift K 3 sp__law_along) := by
  refine okD (k := 0) T.fn__law_along sc__law_along rfl fun cdv A outer s H E hr => ⟨_, _, (dss_cons (ds_set (j := 3) sc__law_along.nd rfl (by first | exact .inl rfl | exact .inr rfl) (dv 1))
      (dss_cons (ds_for (di_seq (dv 2)) (dg_name (j := 4) sc__law_along.nd rfl (by first | exact .inl rfl | exact .inr rfl)) (dss_one (ds_set (j := 3) sc__law_along.nd rfl (by first | exact .inl rfl | exact .inr rfl) (de_ix (hu_of hr) (de_ix (hu_of hr) (dv 0) (dv 3) (fun _ _ => rfl)) (dv 4) (fun _ _ => rfl)))) PassesOwn.never)
      (dss_one (ds_ret (dv 3))))), fun ds M Q hl h => ?_⟩
  obtain ⟨web, many, c, w, L, rfl, hL, gw, c0, c1, hw, q⟩ := h
  walk_at "start"
  walk_at "go"
  refine go_seqK (J := fun G' M' => ∃ (x : Option D), G' = [some (dWeb web), some (.int c), some L, some (.int (runW web c w)), x] ∧ M = M') (fun nx hk => ?_) (fun G' M' hJ => ?_)
  · walk_at "go"
    refine go_forI (fun i G' M' => ∃ (x : Option D), G' = [some (dWeb web), some (.int c), some L, some (.int (runW web c (w.take i))), x] ∧ M = M') ⟨none, rfl, rfl⟩ (fun i d G' M' nx' hd hI hn => ?_) (fun G' M' hI => ?_)
    · obtain ⟨x, rfl, rfl⟩ := hI
      rw [List.getElem?_map] at hd
      obtain ⟨y, hy, rfl⟩ := Option.map_eq_some_iff.mp hd
      obtain ⟨y0, y1⟩ := hw y (List.mem_of_getElem? hy)
      obtain ⟨i0, i1⟩ := runW_in gw (w.take i) c (fun z hz => hw z (List.mem_of_mem_take hz)) c0 c1
      obtain ⟨r, er, et⟩ := atStep gw i0 i1 y0 y1
      walk_at "go"
      refine hn _ _ ⟨some (.int y), ?_, rfl⟩
      rw [List.take_add_one, hy, runW_app]
      rfl
    · obtain ⟨x, rfl, rfl⟩ := hI
      refine hk _ _ ⟨x, ?_, rfl⟩
      rw [List.length_map, List.take_length]
  · obtain ⟨x, rfl, rfl⟩ := hJ
    walk_at "go"
    exact Fin.of q
theorem ok__law_held (T : TX K mg a) : FnOk P w K mg base CX0 2 a.f__law_held a.fd__law_held ["web", "cells", "spot", "lead", "turn"] (lift K 5 sp__law_held) := by
  refine okD (k := 1) T.fn__law_held sc__law_held rfl fun cdv A outer s H E hr => ⟨_, _, (dss_cons (ds_par (i := 5) (j := 6) sc__law_held.nd rfl rfl (da_cons (de_call (ok__law_along T) (hr.mono (by decide)) (by rfl) T.mg__law_along T.kp__law_along T.bd__law_along pass0 (da_cons (dv 0) (da_cons (dv 2) (da_cons (dv 3) da_nil)))) (da_cons de_dnewK da_nil)))
      (dss_cons (ds_while (dt_cmp (op_notInA (hu_of hr)) s2_in (dv 5) (dv 6) (by rfl)) (dss_cons (ds_dput (hu_of hr) (dv 6) (dv 5) de_bl)
      (dss_one (ds_set (j := 5) sc__law_held.nd rfl (by first | exact .inl rfl | exact .inr rfl) (de_call (ok__law_along T) (hr.mono (by decide)) (by rfl) T.mg__law_along T.kp__law_along T.bd__law_along pass0 (da_cons (dv 0) (da_cons (dv 5) (da_cons (dv 4) da_nil))))))) PassesOwn.never)
      (dss_cons (ds_for (di_range1 (by rfl) T.b_range (da_cons (de_callB call_lenA sl_len (by rfl) T.b_len (by decide +kernel) (da_cons (dv 1) da_nil)) da_nil)) (dg_name (j := 7) sc__law_held.nd rfl (by first | exact .inl rfl | exact .inr rfl)) (dss_one (ds_if (dt_cmp (op_eqD hr.units) s2_eq (de_ix (hu_of hr) (de_ix (hu_of hr) (dv 1) (dv 7) (fun _ _ => rfl)) de_int (fun _ _ => rfl)) (dv 5) (nomark _)) (dss_cons (ds_set (j := 8) sc__law_held.nd rfl (by first | exact .inl rfl | exact .inr rfl) (dv 7))
      (dss_cons (ds_for (di_seq (de_mul (de_callTy call_list_of sl_list (by rfl) T.b_list (by decide +kernel) (da_cons (dv 4) da_nil)) (de_add (de_callB call_lenA sl_len (by rfl) T.b_len (by decide +kernel) (da_cons (dv 1) da_nil)) de_int))) (dg_name (j := 9) sc__law_held.nd rfl (by first | exact .inl rfl | exact .inr rfl)) (dss_one (ds_set (j := 8) sc__law_held.nd rfl (by first | exact .inl rfl | exact .inr rfl) (de_ifExp (dt_cmp op_ge s2_ge (dv 8) de_int (nomark _)) (de_ix (hu_of hr) (de_ix (hu_of hr) (de_ix (hu_of hr) (dv 1) (dv 8) (fun _ _ => rfl)) de_int (fun _ _ => rfl)) (dv 9) (fun _ _ => rfl)) (de_neg de_int)))) PassesOwn.never)
      (dss_one (ds_if (dt_cmp op_ge s2_ge (dv 8) de_int (nomark _)) (dss_one (ds_ret de_bl)) dss_nil)))) dss_nil)) PassesOwn.never)
      (dss_one (ds_ret de_bl))))), fun ds M Q hl h => ?_⟩
  obtain ⟨web, many, rs, c, lead, turn, L, rfl, hL, gw, gr, hrl, c0, c1, hle, ht, htl, q⟩ := h
  have gwl := gw.le
  obtain ⟨s0, s1⟩ := runW_in gw lead c hle c0 c1
  walk_at "start"
  walk_at "go"
  refine ⟨web, many, c, lead, L, rfl, hL, gw, c0, c1, hle, ?_⟩
  walk_at "go"
  intro ps hps
  walk_at "go"
  refine go_seqK (J := fun G' M' => ∃ R : Int, G' = [some (dWeb web), some (.list (dRooms rs)), some (.int c), some L, some (.list (dInts turn)), some (.int R), some (.ref ps), none, none, none] ∧ Sub M M' ∧
    R = comeAgain (fun c => runW web c turn) (web.length + 1) [] (runW web c lead)) (fun nx hk => ?_) (fun G' M' hJ => ?_)
  · refine go_whileI (W := fun m G' M' => ∃ (F : List Int) (h : Int), G' = [some (dWeb web), some (.list (dRooms rs)), some (.int c), some L, some (.list (dInts turn)), some (.int h), some (.ref ps), none, none, none] ∧ Sub M M' ∧
      M' ps = some (.dK (dSeen (F.map Sum.inl))) ∧ Come web (fun c => runW web c turn) F h ∧ comeAgain (fun c => runW web c turn) m F h = comeAgain (fun c => runW web c turn) (web.length + 1) [] (runW web c lead) ∧ m + F.length = web.length + 1) (web.length + 1) ?_ (fun m G' M' nx' hW hn => ?_)
    · exact ⟨[], _, rfl, sub_mupd (fun _ _ h => h) hps, mupd_same, ⟨.nil, by simp, s0, s1, by simp⟩, rfl, by simp⟩
    · obtain ⟨F, h, rfl, sb, c2, cm, hc, hm⟩ := hW
      have cl := cm.le
      obtain ⟨t0, t1⟩ := runW_in gw turn h ht cm.h0 cm.h1
      walk_at "goS"
      refine go_inD (itemsM_dK c2) (getDk_dK (kk := .inl h) c2 rfl) ?_
      rw [valD_dSeen]
      walk_at "goS"
      refine go_ite (fun e => ?_) (fun e => ?_)
      · have e : h ∉ F := fun z => by
          have := mem_inl.mpr z
          simp [this] at e
        walk_at "goS"
        refine go_kdputK (kk := .inl h) c2 (by simp only [dSeen, List.length_map]; omega) rfl ?_
        rw [putD_new (fun z => e (mem_inl.mp z))]
        walk_at "goS"
        refine ⟨web, many, h, turn, _, rfl, rfl, gw, cm.h0, cm.h1, ht, ?_⟩
        walk_at "goS"
        refine hn (m - 1) _ _ (by omega) ⟨F ++ [h], _, rfl, sub_mupd sb hps, by rw [mupd_same]; simp, cm.step e t0 t1, ?_, by simp; omega⟩
        rw [← hc, comeAgain_out (by omega) e]
      · have e : h ∈ F := by
          refine Classical.byContradiction fun z => ?_
          have : (Sum.inl h : Key) ∉ F.map Sum.inl := fun y => z (mem_inl.mp y)
          simp [this] at e
        exact hk _ _ ⟨h, rfl, sb, by rw [← hc, comeAgain_in (by omega) e]⟩
  obtain ⟨R, rfl, sb, hR⟩ := hJ
  walk_at "go"
  refine go_seqK (J := fun G' M2 => Sub M M2 ∧ ∀ k, 0 ≤ k → k < (rs.length : Int) → clsR rs k = R → iter (fun k => runR rs k turn) (rs.length + 1) k < 0) (fun nx hk => ?_) (fun G' M2 hJ => ?_)
  · walk_at "go"
    refine go_forI (fun i G' M2 => ∃ (x7 x8 x9 : Option D), G' = [some (dWeb web), some (.list (dRooms rs)), some (.int c), some L, some (.list (dInts turn)), some (.int R), some (.ref ps), x7, x8, x9] ∧ Sub M M2 ∧
      ∀ k, 0 ≤ k → k < (i : Int) → clsR rs k = R → iter (fun k => runR rs k turn) (rs.length + 1) k < 0) ⟨none, none, none, rfl, sb, fun k h0 h1 => by omega⟩ (fun i d G' M2 nx' hd hI hn => ?_) (fun G' M2 hI => ?_)
    · obtain ⟨x7, x8, x9, rfl, sb2, hno⟩ := hI
      obtain ⟨hlt, rfl⟩ := rng_get hd
      simp only [List.length_map, Int.toNat_natCast] at hlt
      obtain ⟨r, hr, hrm, er⟩ := room_at (rs := rs) (i := 0 + (i : Int)) (by omega) (by omega)
      have hcl : clsR rs (0 + (i : Int)) = r.1 := by unfold clsR; rw [List.getD_eq_getElem?_getD, List.getElem?_map, hr]; rfl
      have hsz : turn.length * (rs.length + 1) ≤ 1000 * 101 := Nat.mul_le_mul htl (by omega)
      walk_at "goS"
      refine go_ite (fun e => ?_) (fun e => ?_)
      · have e : r.1 = R := by simpa using e
        have hN : ((rs.length : Int) + 1).toNat = rs.length + 1 := by omega
        walk_at "goS"
        · rw [List.length_map, List.length_map, hN]
          omega
        walk_at "goS"
        rw [rep_flat]
        simp only [List.length_map, hN]
        have hlt : Ltr many (List.replicate (rs.length + 1) turn).flatten := fun x hx => by
          obtain ⟨l, hl, hx⟩ := List.mem_flatten.mp hx
          rw [(List.mem_replicate.mp hl).2] at hx
          exact ht x hx
        generalize hw : (List.replicate (rs.length + 1) turn).flatten = w at hlt ⊢
        refine go_seqK (J := fun G' M3 => ∃ (x9 : Option D), G' = [some (dWeb web), some (.list (dRooms rs)), some (.int c), some L, some (.list (dInts turn)), some (.int R), some (.ref ps), some (.int (0 + (i : Int))), some (.int (runR rs (0 + (i : Int)) w)), x9] ∧ Sub M M3) (fun nx2 hk2 => ?_) (fun G' M3 hJ => ?_)
        · refine go_forI (fun j G' M3 => ∃ (x9 : Option D), G' = [some (dWeb web), some (.list (dRooms rs)), some (.int c), some L, some (.list (dInts turn)), some (.int R), some (.ref ps), some (.int (0 + (i : Int))), some (.int (runR rs (0 + (i : Int)) (w.take j))), x9] ∧ Sub M M3) ⟨_, rfl, sb2⟩ (fun j d G' M3 nx3 hd2 hI hn3 => ?_) (fun G' M3 hI => ?_)
          · obtain ⟨x9, rfl, sb3⟩ := hI
            rw [List.getElem?_map] at hd2
            obtain ⟨y, hy, rfl⟩ := Option.map_eq_some_iff.mp hd2
            obtain ⟨y0, y1⟩ := hlt y (List.mem_of_getElem? hy)
            have step : runR rs (0 + (i : Int)) (w.take (j + 1)) = stepR rs (runR rs (0 + (i : Int)) (w.take j)) y := by
              rw [List.take_add_one, hy, runR_app]
              rfl
            walk_at "goS"
            refine go_ite (fun e1 => ?_) (fun e1 => ?_)
            · have e1 := of_decide_eq_true e1
              obtain ⟨rm, er2, et2, _⟩ := atStepR gr e1 (runR_ok gr (w.take j) (0 + (i : Int)) (fun z hz => hlt z (List.mem_of_mem_take hz)) (by omega) (by omega) e1).1 y0 y1
              walk_at "goS"
              exact hn3 _ _ ⟨_, by rw [step], sb3⟩
            · have e1 := of_decide_eq_false e1
              walk_at "goS"
              refine hn3 _ _ ⟨some (.int y), ?_, sb3⟩
              rw [step]
              unfold stepR
              rw [if_neg e1]
          · obtain ⟨x9, rfl, sb3⟩ := hI
            rw [List.length_map, List.take_length]
            exact hk2 _ _ ⟨_, rfl, sb3⟩
        · obtain ⟨x9, rfl, sb3⟩ := hJ
          have hit : runR rs (0 + (i : Int)) w = iter (fun k => runR rs k turn) (rs.length + 1) (0 + (i : Int)) := by rw [← hw, runR_rep]
          walk_at "goS"
          refine go_ite (fun e1 => ?_) (fun e1 => ?_)
          · have e1 := of_decide_eq_true e1
            walk_at "goS"
            rw [heldB_of (b := true) ⟨fun _ => rfl, fun _ => ⟨0 + (i : Int), by omega, by omega, by rw [hcl, e, hR], by rw [← hit]; exact e1⟩⟩] at q
            exact DL.Fin.sub sb3 q
          · have e1 := of_decide_eq_false e1
            walk_at "goS"
            refine hn _ _ ⟨_, _, _, rfl, sb3, fun k k0 k1 kc => ?_⟩
            by_cases z : k = 0 + (i : Int)
            · subst z; rw [← hit]; omega
            · exact hno k k0 (by omega) kc
      · have e : r.1 ≠ R := by simpa using e
        walk_at "goS"
        refine hn _ _ ⟨_, _, _, rfl, sb2, fun k k0 k1 kc => ?_⟩
        by_cases z : k = 0 + (i : Int)
        · subst z; rw [hcl] at kc; exact absurd kc e
        · exact hno k k0 (by omega) kc
    · obtain ⟨x7, x8, x9, rfl, sb2, hno⟩ := hI
      rw [length_rng] at hno
      simp only [List.length_map, Int.toNat_natCast] at hno
      exact hk _ _ ⟨sb2, hno⟩
  · obtain ⟨sb2, hno⟩ := hJ
    walk_at "go"
    rw [heldB_of (b := false) ⟨fun ⟨k, k0, k1, kc, kh⟩ => by have := hno k k0 k1 (by rw [kc, hR]); omega, fun h => Bool.noConfusion h⟩] at q
    exact DL.Fin.sub sb2 q
end
end L29

set_option Elab.async false
set_option linter.all false
set_option maxRecDepth 100000
set_option maxHeartbeats 4000000
namespace L29
open PySem PySem.Spec PyProof.Rows L2 DL
/-! ### plain mathematics: reach, and the order in which a walk in depth ends -/
def succS (steps : List (List Int)) (v : Int) : List Int := steps.getD v.toNat []
inductive Rch (s : Int → List Int) : Int → Int → Prop
  | refl (u : Int) : Rch s u u
  | step {u t v : Int} : t ∈ s u → Rch s t v → Rch s u v
section
variable {s : Int → List Int}
theorem Rch.trans {u v x : Int} (h : Rch s u v) (h2 : Rch s v x) : Rch s u x := by
  induction h with
  | refl => exact h2
  | step h _ ih => exact .step h (ih h2)
theorem Rch.one {u v : Int} (h : v ∈ s u) : Rch s u v := .step h (.refl _)
theorem Rch.snoc {u v x : Int} (h : Rch s u v) (h2 : x ∈ s v) : Rch s u x := h.trans (.one h2)
/-- a walk that leaves a set leaves it by an arrow -/
theorem Rch.leave {P : Int → Prop} {u v : Int} (h : Rch s u v) (hu : P u) (hv : ¬ P v) : ∃ k y, Rch s u k ∧ P k ∧ y ∈ s k ∧ ¬ P y ∧ Rch s y v := by
  induction h with
  | refl => exact absurd hu hv
  | @step a t b ht hr ih =>
    by_cases q : P t
    · obtain ⟨k, y, h1, h2, h3, h4, h5⟩ := ih q hv
      exact ⟨k, y, .step ht h1, h2, h3, h4, h5⟩
    · exact ⟨a, t, .refl _, hu, ht, q, hr⟩
theorem Rch.stay {P : Int → Prop} {u v : Int} (h : Rch s u v) (hu : P u) (hs : ∀ k y, P k → y ∈ s k → P y) : P v := by
  induction h with
  | refl => exact hu
  | step ht _ ih => exact ih (hs _ _ hu ht)
def Scc (s : Int → List Int) (u v : Int) : Prop := Rch s u v ∧ Rch s v u
theorem Scc.rfl {u : Int} : Scc s u u := ⟨.refl _, .refl _⟩
theorem Scc.symm {u v : Int} (h : Scc s u v) : Scc s v u := ⟨h.2, h.1⟩
theorem Scc.trans {u v x : Int} (h : Scc s u v) (h2 : Scc s v x) : Scc s u x := ⟨h.1.trans h2.1, h2.2.trans h.2⟩
/-- comes back to itself -/
def Cyc (s : Int → List Int) (u : Int) : Prop := ∃ t ∈ s u, Rch s t u
theorem Cyc.of_ne {u v : Int} (h : Scc s u v) (hn : u ≠ v) : Cyc s u := by
  obtain ⟨h1, h2⟩ := h
  cases h1 with
  | refl => exact absurd _root_.rfl hn
  | step ht hr => exact ⟨_, ht, hr.trans h2⟩
theorem Cyc.scc {u v : Int} (h : Scc s u v) (hc : Cyc s u) : Cyc s v := by
  obtain ⟨t, ht, hr⟩ := hc
  by_cases q : v = u
  · subst q; exact ⟨t, ht, hr⟩
  · exact .of_ne h.symm q
/-- what the order of ends tells: when a thing ended, what was begun and not ended leads to it -/
def OrdP (s : Int → List Int) (ord : List Int) : Prop := ∀ pre x post, ord = pre ++ x :: post → ∀ k ∈ pre ++ [x], ∀ y ∈ s k, y ∈ pre ++ [x] ∨ Rch s y x
theorem OrdP.nil : OrdP s [] := fun pre x post h => by simp at h
theorem OrdP.snoc {ord : List Int} {x : Int} (h : OrdP s ord) (hx : ∀ k ∈ ord ++ [x], ∀ y ∈ s k, y ∈ ord ++ [x] ∨ Rch s y x) : OrdP s (ord ++ [x]) := fun pre z post e => by
  rcases List.eq_nil_or_concat post with rfl | ⟨post', w, rfl⟩
  · obtain ⟨rfl, e2⟩ := List.append_inj' e _root_.rfl
    cases e2
    exact hx
  · have e3 : ord ++ [x] = (pre ++ z :: post') ++ [w] := by rw [e]; simp
    obtain ⟨rfl, _⟩ := List.append_inj' e3 _root_.rfl
    exact h pre z post' _root_.rfl
/-- of all that is come to from a thing, the last to end leads back to it -/
theorem OrdP.last {ord : List Int} (h : OrdP s ord) (hall : ∀ u v, u ∈ ord → v ∈ s u → v ∈ ord) : ∀ (n : Nat) pre x post, post.length = n → ord = pre ++ x :: post → ∃ pre' z post', ord = pre' ++ z :: post' ∧ Scc s x z ∧ ∀ y, Rch s x y → y ∈ pre' ++ [z] := by
  intro n
  induction n using Nat.strongRecOn with
  | _ n ih =>
    intro pre x post hn e
    by_cases q : ∀ y, Rch s x y → y ∈ pre ++ [x]
    · exact ⟨pre, x, post, e, .rfl, q⟩
    · obtain ⟨y, hy⟩ := Classical.not_forall.mp q
      obtain ⟨hy, hny⟩ : Rch s x y ∧ y ∉ pre ++ [x] := ⟨Classical.byContradiction fun z => hy fun w => absurd w z, fun w => hy fun _ => w⟩
      obtain ⟨k, z, h1, h2, h3, h4, _⟩ := hy.leave (P := fun y => y ∈ pre ++ [x]) (by simp) hny
      have hzx : Rch s z x := by
        rcases h pre x post e k h2 z h3 with h | h
        · exact absurd h h4
        · exact h
      have hzo : z ∈ ord := by
        refine hall k z ?_ h3
        rw [e]
        simp only [List.mem_append, List.mem_cons, List.mem_singleton, List.not_mem_nil, or_false] at h2 ⊢
        rcases h2 with h2 | h2
        · exact .inl h2
        · exact .inr (.inl h2)
      have hzp : z ∈ post := by
        rw [e] at hzo
        simp only [List.mem_append, List.mem_cons, List.mem_singleton, List.not_mem_nil, or_false, not_or] at hzo h4
        rcases hzo with h | h | h
        · exact absurd h h4.1
        · exact absurd h h4.2
        · exact h
      obtain ⟨p1, p2, rfl⟩ := List.append_of_mem hzp
      have hl : p2.length < n := by rw [← hn]; simp; omega
      obtain ⟨pre', w, post', e', sc, hall'⟩ := ih p2.length hl (pre ++ x :: p1) z p2 _root_.rfl (by rw [e]; simp)
      have sxz : Scc s x z := ⟨h1.snoc h3, hzx⟩
      exact ⟨pre', w, post', e', sxz.trans sc, fun y hy => hall' y (hzx.trans hy)⟩
/-- the last of the rest: what leads to it and is of no part yet is of its part -/
theorem OrdP.root {ord : List Int} (h : OrdP s ord) (hn : ord.Nodup) (hall : ∀ u v, u ∈ ord → v ∈ s u → v ∈ ord) {rest done : List Int} {r v : Int} (e : ord = rest ++ r :: done) {T : Int → Prop} (hT : ∀ v, T v ↔ ∃ u ∈ done, Scc s u v) (hv : v ∈ ord) (hTv : ¬ T v) (hr : Rch s v r) : Scc s v r := by
  obtain ⟨pre, post, e1⟩ := List.append_of_mem hv
  obtain ⟨pre', z, post', e2, sc, hz⟩ := h.last hall post.length pre v post _root_.rfl e1
  have hrz := hz r hr
  have hzo : z ∈ ord := by rw [e2]; simp
  have hzd : z ∉ done := fun hd => hTv ((hT v).mpr ⟨z, hd, sc.symm⟩)
  by_cases q : z = r
  · subst q; exact sc
  · -- r stands before z, so z stands in done
    exfalso
    have hrp : r ∈ pre' := by
      rcases List.mem_append.mp hrz with h | h
      · exact h
      · exact absurd (List.mem_singleton.mp h).symm q
    obtain ⟨a1, a2, rfl⟩ := List.append_of_mem hrp
    have e3 : rest ++ r :: done = a1 ++ r :: (a2 ++ z :: post') := by rw [← e, e2]; simp
    have hnd : (rest ++ r :: done).Nodup := by rw [← e]; exact hn
    have hnd2 : (a1 ++ r :: (a2 ++ z :: post')).Nodup := by rw [← e3]; exact hnd
    have hr1 : r ∉ rest := fun hm => by
      have := (List.nodup_append.mp hnd).2.2 r hm r (by simp)
      exact this _root_.rfl
    have hr2 : r ∉ a1 := fun hm => by
      have := (List.nodup_append.mp hnd2).2.2 r hm r (by simp)
      exact this _root_.rfl
    have : done = a2 ++ z :: post' := by
      have i1 : (rest ++ r :: done).idxOf r = rest.length := by
        rw [List.idxOf_append, if_neg hr1]; simp
      have i2 : (a1 ++ r :: (a2 ++ z :: post')).idxOf r = a1.length := by
        rw [List.idxOf_append, if_neg hr2]; simp
      have hl : rest.length = a1.length := by rw [← i1, ← i2, e3]
      have := (List.append_inj e3 hl).2
      exact (List.cons.inj this).2
    exact hzd (by rw [this]; simp)
end
/-- what _law_halls tells: the number of each thing's part, -1 for what doesn't come back to itself -/
structure HallsOk (steps : List (List Int)) (found : List Int) : Prop where
  len : found.length = steps.length
  lo : ∀ t ∈ found, -1 ≤ t
  cyc : ∀ u, 0 ≤ u → u < (steps.length : Int) → (0 ≤ found.getD u.toNat 0 ↔ Cyc (succS steps) u)
  scc : ∀ u v, 0 ≤ u → u < (steps.length : Int) → 0 ≤ v → v < (steps.length : Int) → 0 ≤ found.getD u.toNat 0 → (found.getD u.toNat 0 = found.getD v.toNat 0 ↔ Scc (succS steps) u v)
structure GoodSt (steps : List (List Int)) : Prop where
  rg : ∀ r ∈ steps, ∀ t ∈ r, 0 ≤ t ∧ t < (steps.length : Int)
  le : steps.length ≤ 200
  wd : ∀ r ∈ steps, r.length ≤ 200
theorem succS_mem {steps : List (List Int)} {u : Int} {r : List Int} (h : steps[u.toNat]? = some r) : succS steps u = r := by
  unfold succS
  rw [List.getD_eq_getElem?_getD, h]
  rfl
theorem GoodSt.succ {steps : List (List Int)} (g : GoodSt steps) {u t : Int} (h : t ∈ succS steps u) : 0 ≤ t ∧ t < (steps.length : Int) := by
  unfold succS at h
  rw [List.getD_eq_getElem?_getD] at h
  by_cases q : u.toNat < steps.length
  · rw [List.getElem?_eq_getElem q] at h
    exact g.rg _ (List.getElem_mem q) t h
  · rw [List.getElem?_eq_none (by omega)] at h
    simp at h
end L29

set_option Elab.async false
set_option linter.all false
set_option maxRecDepth 100000
set_option maxHeartbeats 4000000
namespace L29
open PySem PySem.Spec PyProof.Rows L2 DL
abbrev dBls (bs : List Bool) : List D := bs.map .bl
abbrev dWay (w : List (Int × Int)) : List D := w.map fun p => .tup [.int p.1, .int p.2]
/-- the walk in depth: what was seen, what ended, the way -/
structure Dfs (steps : List (List Int)) (bs : List Bool) (ord : List Int) (way : List (Int × Int)) : Prop where
  len : bs.length = steps.length
  seen : ∀ v, 0 ≤ v → v < (steps.length : Int) → (bs.getD v.toNat false = true ↔ v ∈ ord ++ way.map (·.1))
  nd : (ord ++ way.map (·.1)).Nodup
  rg : ∀ v ∈ ord ++ way.map (·.1), 0 ≤ v ∧ v < (steps.length : Int)
  at' : ∀ p ∈ way, 0 ≤ p.2 ∧ p.2 ≤ ((succS steps p.1).length : Int)
  clo : ∀ k ∈ ord, ∀ y ∈ succS steps k, y ∈ ord ++ way.map (·.1)
  part : ∀ p ∈ way, ∀ (j : Nat) y, (j : Int) < p.2 → (succS steps p.1)[j]? = some y → y ∈ ord ++ way.map (·.1)
  pw : way.Pairwise fun a b => Rch (succS steps) a.1 b.1
  op : OrdP (succS steps) ord
def wt (steps : List (List Int)) (way : List (Int × Int)) : Nat := (way.map fun p => (succS steps p.1).length + 1 - p.2.toNat).sum
theorem wt_snoc {steps : List (List Int)} {way : List (Int × Int)} {p : Int × Int} : wt steps (way ++ [p]) = wt steps way + ((succS steps p.1).length + 1 - p.2.toNat) := by
  unfold wt
  rw [List.map_append, List.sum_append]
  simp
theorem nodup_le {l : List Int} {n : Nat} (hn : l.Nodup) (h : ∀ v ∈ l, 0 ≤ v ∧ v < (n : Int)) : l.length ≤ n := by
  have := nodup_sub hn (S := (List.range n).map fun (i : Nat) => (i : Int)) (fun x hx => by
    obtain ⟨a, b⟩ := h x hx
    exact List.mem_map.mpr ⟨x.toNat, List.mem_range.mpr (by omega), by omega⟩)
  simpa using this
/-- the measure of the walk -/
def msr (steps : List (List Int)) (ord : List Int) (way : List (Int × Int)) : Nat := (steps.length - ord.length - way.length) * 202 + wt steps way
section
variable {steps : List (List Int)} {bs : List Bool} {ord : List Int} {way : List (Int × Int)}
theorem getD_set {bs : List Bool} {v y : Int} (h0 : 0 ≤ v) (h1 : v < (bs.length : Int)) (y0 : 0 ≤ y) : (bs.set v.toNat true).getD y.toNat false = true ↔ y = v ∨ bs.getD y.toNat false = true := by
  rw [List.getD_eq_getElem?_getD, List.getD_eq_getElem?_getD]
  by_cases q : v.toNat = y.toNat
  · rw [← q, List.getElem?_set_self (by omega)]
    simp
    omega
  · rw [List.getElem?_set_ne q]
    constructor
    · exact .inr
    · rintro (h | h)
      · omega
      · exact h
theorem Dfs.len_le (d : Dfs steps bs ord way) : ord.length + way.length ≤ steps.length := by
  have := nodup_le d.nd d.rg
  simpa using this
/-- begin a thing -/
theorem Dfs.push (d : Dfs steps bs ord way) {v : Int} (h0 : 0 ≤ v) (h1 : v < (steps.length : Int)) (hn : v ∉ ord ++ way.map (·.1)) (hp : ∀ p ∈ way, Rch (succS steps) p.1 v) : Dfs steps (bs.set v.toNat true) ord (way ++ [(v, 0)]) := by
  have em : ∀ x, x ∈ ord ++ (way ++ [(v, (0 : Int))]).map (·.1) ↔ x ∈ ord ++ way.map (·.1) ∨ x = v := fun x => by
    simp only [List.map_append, List.map_cons, List.map_nil, List.mem_append, List.mem_singleton, List.mem_cons, List.not_mem_nil, or_false, or_assoc]
  refine ⟨by rw [List.length_set]; exact d.len, fun y y0 y1 => ?_, ?_, fun x hx => ?_, fun p hp' => ?_, fun k hk y hy => (em _).mpr (.inl (d.clo k hk y hy)), fun p hp' j y hj hy => ?_, ?_, d.op⟩
  · rw [getD_set h0 (by rw [d.len]; exact h1) y0, em, d.seen y y0 y1]
    constructor
    · rintro (h | h)
      · exact .inr h
      · exact .inl h
    · rintro (h | h)
      · exact .inr h
      · exact .inl h
  · rw [List.map_append, ← List.append_assoc]
    exact List.nodup_append.mpr ⟨d.nd, by simp, fun a ha b hb => by
      have hb : b = v := by simpa using hb
      subst hb
      intro e
      subst e
      exact hn ha⟩
  · rcases (em x).mp hx with h | rfl
    · exact d.rg x h
    · exact ⟨h0, h1⟩
  · rcases List.mem_append.mp hp' with h | h
    · exact d.at' p h
    · rcases List.mem_singleton.mp h with rfl
      exact ⟨Int.le_refl _, by show (0 : Int) ≤ _; omega⟩
  · rcases List.mem_append.mp hp' with h | h
    · exact (em _).mpr (.inl (d.part p h j y hj hy))
    · rcases List.mem_singleton.mp h with rfl
      exact absurd hj (by show ¬ (j : Int) < 0; omega)
  · exact List.pairwise_append.mpr ⟨d.pw, by simp, fun a ha b hb => by
      rcases List.mem_singleton.mp hb with rfl
      exact hp a ha⟩
/-- look at the next arrow -/
theorem Dfs.next {post : List (Int × Int)} {u a t : Int} (d : Dfs steps bs ord (way ++ (u, a) :: post)) (ha : a < ((succS steps u).length : Int)) (ht : (succS steps u)[a.toNat]? = some t) (hs : t ∈ ord ++ (way ++ (u, a) :: post).map (·.1)) : Dfs steps bs ord (way ++ (u, a + 1) :: post) := by
  have a0 := (d.at' (u, a) (by simp)).1
  have em : (way ++ (u, a + 1) :: post).map (·.1) = (way ++ (u, a) :: post).map (·.1) := by simp
  have cs : ∀ p ∈ way ++ (u, a + 1) :: post, p ∈ way ++ (u, a) :: post ∨ p = (u, a + 1) := fun p hp => by
    simp only [List.mem_append, List.mem_cons] at hp ⊢
    rcases hp with h | h | h
    · exact .inl (.inl h)
    · exact .inr h
    · exact .inl (.inr (.inr h))
  refine ⟨d.len, by rw [em]; exact d.seen, by rw [em]; exact d.nd, by rw [em]; exact d.rg, fun p hp => ?_, by rw [em]; exact d.clo, fun p hp j y hj hy => ?_, ?_, d.op⟩
  · rcases cs p hp with h | rfl
    · exact d.at' p h
    · exact ⟨by show 0 ≤ a + 1; omega, by show a + 1 ≤ ((succS steps u).length : Int); omega⟩
  · rw [em]
    rcases cs p hp with h | rfl
    · exact d.part p h j y hj hy
    · by_cases q : (j : Int) < a
      · exact d.part (u, a) (by simp) j y q hy
      · have hj : (j : Int) < a + 1 := hj
        have : j = a.toNat := by omega
        subst this
        have hy : (succS steps u)[a.toNat]? = some y := hy
        rw [ht] at hy
        cases hy
        exact hs
  · have := d.pw
    have e1 := (List.pairwise_map (f := fun p : Int × Int => p.1) (R := fun a b => Rch (succS steps) a b)).mpr this
    rw [← em] at e1
    exact List.pairwise_map.mp e1
/-- end a thing -/
theorem Dfs.fin {u a : Int} (d : Dfs steps bs ord (way ++ [(u, a)])) (g : GoodSt steps) (ha : ¬ a < ((succS steps u).length : Int)) : Dfs steps bs (ord ++ [u]) way := by
  have em : ∀ x, x ∈ (ord ++ [u]) ++ way.map (·.1) ↔ x ∈ ord ++ (way ++ [(u, a)]).map (·.1) := fun x => by
    simp only [List.map_append, List.map_cons, List.map_nil, List.mem_append, List.mem_singleton, List.mem_cons, List.not_mem_nil, or_false, or_assoc]
    constructor
    · rintro (h | h | h)
      · exact .inl h
      · exact .inr (.inr h)
      · exact .inr (.inl h)
    · rintro (h | h | h)
      · exact .inl h
      · exact .inr (.inr h)
      · exact .inr (.inl h)
  have hpw := d.pw
  rw [List.pairwise_append] at hpw
  have hu : ∀ y ∈ succS steps u, y ∈ ord ++ (way ++ [(u, a)]).map (·.1) := fun y hy => by
    obtain ⟨j, hj⟩ := List.getElem?_of_mem hy
    have hj2 := (List.getElem?_eq_some_iff.mp hj).1
    exact d.part (u, a) (by simp) j y (by show (j : Int) < a; omega) hj
  have clo : ∀ k ∈ ord ++ [u], ∀ y ∈ succS steps k, y ∈ ord ++ (way ++ [(u, a)]).map (·.1) := fun k hk y hy => by
    rcases List.mem_append.mp hk with h | h
    · exact d.clo k h y hy
    · rcases List.mem_singleton.mp h with rfl
      exact hu y hy
  refine ⟨d.len, fun v v0 v1 => by rw [em]; exact d.seen v v0 v1, ?_, fun v hv => d.rg v ((em v).mp hv), fun p hp => d.at' p (by simp [hp]), fun k hk y hy => (em y).mpr (clo k hk y hy), fun p hp j y hj hy => (em y).mpr (d.part p (by simp [hp]) j y hj hy), hpw.1, ?_⟩
  · refine (List.Perm.nodup_iff ?_).mp d.nd
    rw [List.map_append, List.append_assoc]
    refine List.Perm.append_left _ ?_
    exact List.perm_append_comm
  · refine d.op.snoc fun k hk y hy => ?_
    have := clo k hk y hy
    simp only [List.map_append, List.map_cons, List.map_nil, List.mem_append, List.mem_singleton, List.mem_cons, List.not_mem_nil, or_false] at this ⊢
    rcases this with h | h | h
    · exact .inl (.inl h)
    · obtain ⟨p, hp, rfl⟩ := List.mem_map.mp h
      exact .inr (hpw.2.2 p hp (u, a) (by simp))
    · exact .inl (.inr h)
theorem Dfs.start (n : Nat) (h : steps.length = n) : Dfs steps (List.replicate n false) [] [] :=
  ⟨by simp [h], fun v _ _ => by simp [List.getD_eq_getElem?_getD, List.getElem?_replicate]; split <;> simp, by simp, by simp, by simp, by simp, by simp, .nil, .nil⟩
end
end L29

set_option Elab.async false
set_option linter.all false
set_option maxRecDepth 100000
set_option maxHeartbeats 4000000
namespace L29
open PySem PySem.Spec PyProof.Rows L2 DL
/-! ### the search backwards, and the parts that it tells -/
structure Srch (steps : List (List Int)) (bs0 : List Bool) (r : Int) (bs : List Bool) (lot left C : List Int) : Prop where
  len : bs.length = steps.length
  tk : ∀ v, 0 ≤ v → v < (steps.length : Int) → (bs.getD v.toNat false = true ↔ bs0.getD v.toNat false = true ∨ v ∈ lot ++ left)
  nd : (lot ++ left).Nodup
  rg : ∀ v ∈ lot ++ left, 0 ≤ v ∧ v < (steps.length : Int)
  nw : ∀ v ∈ lot ++ left, bs0.getD v.toNat false = false ∧ Rch (succS steps) v r
  hd : (lot = [] ∧ left = [r]) ∨ lot[0]? = some r
  clo : ∀ h ∈ C, ∀ y, 0 ≤ y → y < (steps.length : Int) → h ∈ succS steps y → bs.getD y.toNat false = true
section
variable {steps : List (List Int)} {bs0 bs : List Bool} {r : Int} {lot left C : List Int}
theorem Srch.start {bs0 : List Bool} (h : bs0.length = steps.length) {r : Int} (r0 : 0 ≤ r) (r1 : r < (steps.length : Int)) (hr : bs0.getD r.toNat false = false) : Srch steps bs0 r (bs0.set r.toNat true) [] [r] [] :=
  ⟨by rw [List.length_set]; exact h, fun v v0 v1 => by
    rw [getD_set r0 (by rw [h]; exact r1) v0]
    simp only [List.nil_append, List.mem_singleton]
    constructor
    · rintro (h | h)
      · exact .inr h
      · exact .inl h
    · rintro (h | h)
      · exact .inr h
      · exact .inl h, by simp, fun v hv => by
    have : v = r := by simpa using hv
    subst this
    exact ⟨r0, r1⟩, fun v hv => by
    have : v = r := by simpa using hv
    subst this
    exact ⟨hr, .refl _⟩, .inl ⟨rfl, rfl⟩, by simp⟩
theorem Srch.pop {h : Int} (d : Srch steps bs0 r bs lot (left ++ [h]) C) : Srch steps bs0 r bs (lot ++ [h]) left C := by
  have em : ∀ x, x ∈ (lot ++ [h]) ++ left ↔ x ∈ lot ++ (left ++ [h]) := fun x => by
    simp only [List.mem_append, List.mem_singleton, or_assoc]
    constructor
    · rintro (h | h | h)
      · exact .inl h
      · exact .inr (.inr h)
      · exact .inr (.inl h)
    · rintro (h | h | h)
      · exact .inl h
      · exact .inr (.inr h)
      · exact .inr (.inl h)
  refine ⟨d.len, fun v v0 v1 => by rw [em]; exact d.tk v v0 v1, ?_, fun v hv => d.rg v ((em v).mp hv), fun v hv => d.nw v ((em v).mp hv), .inr ?_, d.clo⟩
  · refine (List.Perm.nodup_iff ?_).mp d.nd
    rw [List.append_assoc]
    exact List.Perm.append_left _ List.perm_append_comm
  · rcases d.hd with ⟨rfl, e⟩ | e
    · have : left ++ [h] = [] ++ [r] := by simpa using e
      obtain ⟨_, e2⟩ := List.append_inj' this rfl
      cases e2
      rfl
    · have hl := (List.getElem?_eq_some_iff.mp e).1
      rw [List.getElem?_append_left hl]
      exact e
theorem Srch.add {h y : Int} (d : Srch steps bs0 r bs lot left C) (hl : lot[0]? = some r) (hh : h ∈ lot) (y0 : 0 ≤ y) (y1 : y < (steps.length : Int)) (hy : h ∈ succS steps y) (hb : bs.getD y.toNat false = false) : Srch steps bs0 r (bs.set y.toNat true) lot (left ++ [y]) C := by
  have hn : y ∉ lot ++ left := fun z => by
    rw [(d.tk y y0 y1).mpr (.inr z)] at hb
    cases hb
  have hn0 : bs0.getD y.toNat false = false := by
    cases e : bs0.getD y.toNat false with
    | false => rfl
    | true =>
      rw [(d.tk y y0 y1).mpr (.inl e)] at hb
      cases hb
  have em : ∀ x, x ∈ lot ++ (left ++ [y]) ↔ x ∈ lot ++ left ∨ x = y := fun x => by simp only [List.mem_append, List.mem_singleton, or_assoc]
  have hst : ∀ v, 0 ≤ v → ((bs.set y.toNat true).getD v.toNat false = true ↔ v = y ∨ bs.getD v.toNat false = true) := fun v v0 => getD_set y0 (by rw [d.len]; exact y1) v0
  refine ⟨by rw [List.length_set]; exact d.len, fun v v0 v1 => ?_, ?_, fun v hv => ?_, fun v hv => ?_, .inr hl, fun k hk z z0 z1 hz => (hst z z0).mpr (.inr (d.clo k hk z z0 z1 hz))⟩
  · rw [hst v v0, em, d.tk v v0 v1]
    constructor
    · rintro (h | h | h)
      · exact .inr (.inr h)
      · exact .inl h
      · exact .inr (.inl h)
    · rintro (h | h | h)
      · exact .inr (.inl h)
      · exact .inr (.inr h)
      · exact .inl h
  · rw [← List.append_assoc]
    exact List.nodup_append.mpr ⟨d.nd, by simp, fun a ha b hb e => by
      have hb : b = y := by simpa using hb
      subst hb
      subst e
      exact hn ha⟩
  · rcases (em v).mp hv with h | rfl
    · exact d.rg v h
    · exact ⟨y0, y1⟩
  · rcases (em v).mp hv with h | rfl
    · exact d.nw v h
    · exact ⟨hn0, .step hy (d.nw h (by simp [hh])).2⟩
theorem Srch.close {h : Int} (d : Srch steps bs0 r bs lot left C) (hc : ∀ y, 0 ≤ y → y < (steps.length : Int) → h ∈ succS steps y → bs.getD y.toNat false = true) : Srch steps bs0 r bs lot left (C ++ [h]) :=
  ⟨d.len, d.tk, d.nd, d.rg, d.nw, d.hd, fun k hk => by
    rcases List.mem_append.mp hk with hk | hk
    · exact d.clo k hk
    · rcases List.mem_singleton.mp hk with rfl
      exact hc⟩
/-- the numbers of the parts so far -/
structure Kos (steps : List (List Int)) (done : List Int) (bs : List Bool) (found : List Int) (count : Int) : Prop where
  len : bs.length = steps.length
  fl : found.length = steps.length
  tk : ∀ v, 0 ≤ v → v < (steps.length : Int) → (bs.getD v.toNat false = true ↔ ∃ u ∈ done, Scc (succS steps) u v)
  c0 : 0 ≤ count
  lo : ∀ t ∈ found, -1 ≤ t ∧ t < count
  un : ∀ v, 0 ≤ v → v < (steps.length : Int) → bs.getD v.toNat false = false → found.getD v.toNat 0 = -1
  cyc : ∀ v, 0 ≤ v → v < (steps.length : Int) → bs.getD v.toNat false = true → (0 ≤ found.getD v.toNat 0 ↔ Cyc (succS steps) v)
  scc : ∀ u v, 0 ≤ u → u < (steps.length : Int) → 0 ≤ v → v < (steps.length : Int) → 0 ≤ found.getD u.toNat 0 → (found.getD u.toNat 0 = found.getD v.toNat 0 ↔ Scc (succS steps) u v)
theorem Kos.start : Kos steps [] (List.replicate steps.length false) (List.replicate steps.length (-1)) 0 := by
  have g : ∀ v : Int, 0 ≤ v → v < (steps.length : Int) → (List.replicate steps.length (-1 : Int)).getD v.toNat 0 = -1 := fun v v0 v1 => by
    rw [List.getD_eq_getElem?_getD, List.getElem?_replicate, if_pos (by omega)]
    rfl
  have gb : ∀ v : Int, (List.replicate steps.length false).getD v.toNat false = false := fun v => by
    rw [List.getD_eq_getElem?_getD, List.getElem?_replicate]
    split <;> rfl
  refine ⟨by simp, by simp, fun v v0 v1 => by rw [gb]; simp, by decide, fun t ht => ?_, fun v v0 v1 _ => g v v0 v1, fun v v0 v1 h => (by rw [gb] at h; cases h), fun u v u0 u1 _ _ h => by rw [g u u0 u1] at h; omega⟩
  have := List.eq_of_mem_replicate ht
  omega
theorem Kos.same {done : List Int} {found : List Int} {count : Int} (k : Kos steps done bs found count) (r0 : 0 ≤ r) (r1 : r < (steps.length : Int)) (hr : bs.getD r.toNat false = true) : Kos steps (r :: done) bs found count := by
  refine ⟨k.len, k.fl, fun v v0 v1 => ?_, k.c0, k.lo, k.un, k.cyc, k.scc⟩
  rw [k.tk v v0 v1]
  obtain ⟨u, hu, hs⟩ := (k.tk r r0 r1).mp hr
  constructor
  · rintro ⟨x, hx, h⟩
    exact ⟨x, by simp [hx], h⟩
  · rintro ⟨x, hx, h⟩
    rcases List.mem_cons.mp hx with rfl | hx
    · exact ⟨u, hu, hs.trans h⟩
    · exact ⟨x, hx, h⟩
/-- the lot is the part of its root -/
theorem Srch.isLot {ord rest done : List Int} {found : List Int} {count : Int} (g : GoodSt steps) (op : OrdP (succS steps) ord) (hn : ord.Nodup) (hall : ∀ v, v ∈ ord ↔ 0 ≤ v ∧ v < (steps.length : Int)) (e : ord = rest ++ r :: done) (k : Kos steps done bs0 found count)
    (d : Srch steps bs0 r bs lot [] lot) (v : Int) : v ∈ lot ↔ Scc (succS steps) v r := by
  have hr : r ∈ ord := by rw [e]; simp
  obtain ⟨r0, r1⟩ := (hall r).mp hr
  have hT : ∀ v, (0 ≤ v ∧ v < (steps.length : Int) ∧ bs0.getD v.toNat false = true) ↔ ∃ u ∈ done, Scc (succS steps) u v := fun v => by
    constructor
    · rintro ⟨v0, v1, h⟩
      exact (k.tk v v0 v1).mp h
    · rintro ⟨u, hu, h⟩
      have hv : 0 ≤ v ∧ v < (steps.length : Int) := by
        have hu' : 0 ≤ u ∧ u < (steps.length : Int) := (hall u).mp (by rw [e]; simp [hu])
        exact h.1.stay (P := fun v => 0 ≤ v ∧ v < (steps.length : Int)) hu' fun k y _ hy => g.succ hy
      exact ⟨hv.1, hv.2, (k.tk v hv.1 hv.2).mpr ⟨u, hu, h⟩⟩
  have hrl : r ∈ lot := by
    rcases d.hd with ⟨_, h⟩ | h
    · cases h
    · exact List.mem_of_getElem? h
  have hr0 : bs0.getD r.toNat false = false := (d.nw r (by simp [hrl])).1
  constructor
  · intro hv
    obtain ⟨h1, h2⟩ := d.nw v (by simp [hv])
    obtain ⟨v0, v1⟩ := d.rg v (by simp [hv])
    exact op.root hn (fun u v _ hv => (hall v).mpr (g.succ hv)) e hT ((hall v).mpr ⟨v0, v1⟩) (fun z => by rw [z.2.2] at h1; cases h1) h2
  · rintro ⟨h1, h2⟩
    have key : ∀ {x z : Int}, Rch (succS steps) x z → z = r → Rch (succS steps) r x → x ∈ lot := fun {x z} h => by
      induction h with
      | refl => intro e _; rw [e]; exact hrl
      | @step u t v ht hr' ih =>
        intro ez hru
        have htl := ih ez (hru.snoc ht)
        have hu : 0 ≤ u ∧ u < (steps.length : Int) := hru.stay (P := fun v => 0 ≤ v ∧ v < (steps.length : Int)) ⟨r0, r1⟩ fun k y _ hy => g.succ hy
        have hb := d.clo t htl u hu.1 hu.2 ht
        rcases (d.tk u hu.1 hu.2).mp hb with hb | hb
        · exfalso
          obtain ⟨w, hw, hs⟩ := (k.tk u hu.1 hu.2).mp hb
          have hur : Scc (succS steps) u r := ⟨by rw [← ez]; exact .step ht hr', hru⟩
          have := (k.tk r r0 r1).mpr ⟨w, hw, hs.trans hur⟩
          rw [this] at hr0
          cases hr0
        · simpa using hb
    exact key h1 rfl h2
/-- the numbers behind a new part -/
def paint (found : List Int) (lot : List Int) (c : Int) : List Int := lot.foldl (fun f v => f.set v.toNat c) found
theorem paint_len {found lot : List Int} {c : Int} : (paint found lot c).length = found.length := by
  unfold paint
  induction lot generalizing found with
  | nil => rfl
  | cons a l ih => rw [List.foldl_cons, ih, List.length_set]
theorem paint_at {c : Int} : ∀ {lot found : List Int}, (∀ v ∈ lot, 0 ≤ v ∧ v < (found.length : Int)) → ∀ v, 0 ≤ v → (paint found lot c).getD v.toNat 0 = if v ∈ lot then c else found.getD v.toNat 0
  | [], found, _, v, _ => by simp [paint]
  | a :: l, found, h, v, v0 => by
    obtain ⟨a0, a1⟩ := h a (by simp)
    have e : paint found (a :: l) c = paint (found.set a.toNat c) l c := rfl
    rw [e, paint_at (fun v hv => by rw [List.length_set]; exact h v (by simp [hv])) v v0]
    by_cases q : v ∈ l
    · rw [if_pos q, if_pos (by simp [q])]
    · rw [if_neg q]
      by_cases q2 : v = a
      · subst q2
        rw [if_pos (by simp), List.getD_eq_getElem?_getD, List.getElem?_set_self (by omega)]
        rfl
      · rw [if_neg (by simp [q, q2]), List.getD_eq_getElem?_getD, List.getElem?_set_ne (by omega), ← List.getD_eq_getElem?_getD]
theorem paint_mem {c t : Int} : ∀ {lot found : List Int}, t ∈ paint found lot c → t = c ∨ t ∈ found
  | [], found, h => .inr h
  | a :: l, found, h => by
    rcases paint_mem (lot := l) (found := found.set a.toNat c) h with h | h
    · exact .inl h
    · rcases List.mem_or_eq_of_mem_set h with h | h
      · exact .inr h
      · exact .inl h
theorem Kos.part {done : List Int} {found : List Int} {count : Int} (k : Kos steps done bs0 found count) (d : Srch steps bs0 r bs lot [] lot) (hlot : ∀ v, v ∈ lot ↔ Scc (succS steps) v r) (hc : Cyc (succS steps) r) : Kos steps (r :: done) bs (paint found lot count) (count + 1) := by
  have c0 := k.c0
  have rgl : ∀ v ∈ lot, 0 ≤ v ∧ v < (found.length : Int) := fun v hv => by rw [k.fl]; exact d.rg v (by simp [hv])
  have pa := paint_at (c := count) rgl
  have tk' : ∀ v, 0 ≤ v → v < (steps.length : Int) → (bs.getD v.toNat false = true ↔ bs0.getD v.toNat false = true ∨ v ∈ lot) := fun v v0 v1 => by
    have := d.tk v v0 v1
    simpa using this
  have fm : ∀ v, 0 ≤ v → v < (steps.length : Int) → found.getD v.toNat 0 < count := fun v v0 v1 => by
    have h : found[v.toNat]? = some (found[v.toNat]'(by rw [k.fl]; omega)) := List.getElem?_eq_getElem _
    rw [List.getD_eq_getElem?_getD, h]
    exact (k.lo _ (List.getElem_mem _)).2
  refine ⟨d.len, by rw [paint_len]; exact k.fl, fun v v0 v1 => ?_, by omega, fun t ht => ?_, fun v v0 v1 hv => ?_, fun v v0 v1 hv => ?_, fun u v u0 u1 v0 v1 hu => ?_⟩
  · rw [tk' v v0 v1, k.tk v v0 v1, hlot]
    constructor
    · rintro (⟨u, hu, h⟩ | h)
      · exact ⟨u, by simp [hu], h⟩
      · exact ⟨r, by simp, h.symm⟩
    · rintro ⟨u, hu, h⟩
      rcases List.mem_cons.mp hu with rfl | hu
      · exact .inr h.symm
      · exact .inl ⟨u, hu, h⟩
  · rcases paint_mem ht with h | h
    · omega
    · have := k.lo t h
      omega
  · have hn : ¬ (bs0.getD v.toNat false = true ∨ v ∈ lot) := fun z => by
      rw [(tk' v v0 v1).mpr z] at hv
      cases hv
    rw [pa v v0, if_neg (fun z => hn (.inr z))]
    exact k.un v v0 v1 (by cases e : bs0.getD v.toNat false with | false => rfl | true => exact absurd (.inl e) hn)
  · rw [pa v v0]
    by_cases q : v ∈ lot
    · rw [if_pos q]
      exact ⟨fun _ => hc.scc ((hlot v).mp q).symm, fun _ => c0⟩
    · rw [if_neg q]
      rcases (tk' v v0 v1).mp hv with h | h
      · exact k.cyc v v0 v1 h
      · exact absurd h q
  · rw [pa u u0] at hu ⊢
    rw [pa v v0]
    by_cases q : u ∈ lot
    · rw [if_pos q]
      by_cases q2 : v ∈ lot
      · rw [if_pos q2]
        exact ⟨fun _ => ((hlot u).mp q).trans ((hlot v).mp q2).symm, fun _ => rfl⟩
      · rw [if_neg q2]
        refine ⟨fun e => ?_, fun h => absurd ((hlot v).mpr (h.symm.trans ((hlot u).mp q))) q2⟩
        have := fm v v0 v1
        omega
    · rw [if_neg q] at hu ⊢
      by_cases q2 : v ∈ lot
      · rw [if_pos q2]
        refine ⟨fun e => ?_, fun h => absurd ((hlot u).mpr (h.trans ((hlot v).mp q2))) q⟩
        have := fm u u0 u1
        omega
      · rw [if_neg q2]
        exact k.scc u v u0 u1 v0 v1 hu
theorem Kos.lone {done : List Int} {found : List Int} {count : Int} (k : Kos steps done bs0 found count) (d : Srch steps bs0 r bs lot [] lot) (hlot : ∀ v, v ∈ lot ↔ Scc (succS steps) v r) (hc : ¬ Cyc (succS steps) r) : Kos steps (r :: done) bs found count := by
  have only : ∀ v ∈ lot, v = r := fun v hv => Classical.byContradiction fun z => hc (.of_ne ((hlot v).mp hv).symm (Ne.symm z))
  have tk' : ∀ v, 0 ≤ v → v < (steps.length : Int) → (bs.getD v.toNat false = true ↔ bs0.getD v.toNat false = true ∨ v ∈ lot) := fun v v0 v1 => by
    have := d.tk v v0 v1
    simpa using this
  refine ⟨d.len, k.fl, fun v v0 v1 => ?_, k.c0, k.lo, fun v v0 v1 hv => ?_, fun v v0 v1 hv => ?_, k.scc⟩
  · rw [tk' v v0 v1, k.tk v v0 v1, hlot]
    constructor
    · rintro (⟨u, hu, h⟩ | h)
      · exact ⟨u, by simp [hu], h⟩
      · exact ⟨r, by simp, h.symm⟩
    · rintro ⟨u, hu, h⟩
      rcases List.mem_cons.mp hu with rfl | hu
      · exact .inr h.symm
      · exact .inl ⟨u, hu, h⟩
  · refine k.un v v0 v1 ?_
    cases e : bs0.getD v.toNat false with
    | false => rfl
    | true =>
      rw [(tk' v v0 v1).mpr (.inl e)] at hv
      cases hv
  · rcases (tk' v v0 v1).mp hv with h | h
    · exact k.cyc v v0 v1 h
    · have e := only v h
      subst e
      have hb := (d.nw v (by simp [h])).1
      rw [k.un v v0 v1 hb]
      exact ⟨fun z => absurd z (by decide), fun z => absurd z hc⟩
theorem Kos.halls {done : List Int} {found : List Int} {count : Int} (k : Kos steps done bs found count) (hd : ∀ v, 0 ≤ v → v < (steps.length : Int) → v ∈ done) : HallsOk steps found :=
  ⟨k.fl, fun t ht => (k.lo t ht).1, fun u u0 u1 => k.cyc u u0 u1 ((k.tk u u0 u1).mpr ⟨u, hd u u0 u1, .rfl⟩), k.scc⟩
/-- the test whether a part comes back to itself -/
theorem Srch.test (d : Srch steps bs0 r bs lot [] lot) (hlot : ∀ v, v ∈ lot ↔ Scc (succS steps) v r) : Cyc (succS steps) r ↔ (1 < lot.length ∨ r ∈ succS steps r) := by
  have hrl : r ∈ lot := (hlot r).mpr .rfl
  constructor
  · rintro ⟨t, ht, hr⟩
    by_cases q : t = r
    · subst q; exact .inr ht
    · have htl : t ∈ lot := (hlot t).mpr ⟨hr, .one ht⟩
      refine .inl ?_
      obtain ⟨i, hi⟩ := List.getElem?_of_mem hrl
      obtain ⟨j, hj⟩ := List.getElem?_of_mem htl
      have := (List.getElem?_eq_some_iff.mp hi).1
      have := (List.getElem?_eq_some_iff.mp hj).1
      have hij : i ≠ j := fun z => by subst z; rw [hi] at hj; cases hj; exact q rfl
      omega
  · rintro (h | h)
    · have nd := d.nd
      rw [List.append_nil] at nd
      have h0 : ∃ v ∈ lot, v ≠ r := by
        refine Classical.byContradiction fun z => ?_
        have hall : ∀ v ∈ lot, v = r := fun v hv => Classical.byContradiction fun w => z ⟨v, hv, w⟩
        have a0 := hall _ (List.getElem_mem (show 0 < lot.length by omega))
        have a1 := hall _ (List.getElem_mem h)
        have := (List.getElem_inj nd).mp (a0.trans a1.symm)
        omega
      obtain ⟨v, hv, hne⟩ := h0
      exact .of_ne ((hlot v).mp hv).symm (Ne.symm hne)
    · exact ⟨r, h, .refl _⟩
end
end L29

set_option Elab.async false
set_option linter.all false
set_option maxRecDepth 100000
set_option maxHeartbeats 4000000
namespace L29
open PySem PySem.Spec PyProof.Rows L2 DL
def sp__law_order : aSp := fun ds M Q => ∃ steps, ds = [dWeb steps] ∧ GoodSt steps ∧ ∀ ord : List Int, OrdP (succS steps) ord → ord.Nodup → (∀ v, v ∈ ord ↔ 0 ≤ v ∧ v < (steps.length : Int)) → Q (.list (dInts ord)) M
theorem row_at {steps : List (List Int)} {v : Int} (h0 : 0 ≤ v) (h1 : v < (steps.length : Int)) : atI (steps.map fun r => D.list (r.map .int)) v = some (.list (dInts (succS steps v))) := by
  have h : steps[v.toNat]? = some (steps[v.toNat]'(by omega)) := List.getElem?_eq_getElem (by omega)
  rw [atI_nn _ h0, List.getElem?_map, h, succS_mem h]
  rfl
theorem bl_at {bs : List Bool} {v : Int} (h0 : 0 ≤ v) (h1 : v < (bs.length : Int)) : atI (dBls bs) v = some (.bl (bs.getD v.toNat false)) := by
  have h : bs[v.toNat]? = some (bs[v.toNat]'(by omega)) := List.getElem?_eq_getElem (by omega)
  rw [atI_nn _ h0, List.getElem?_map, List.getD_eq_getElem?_getD, h]
  rfl
theorem rep_bl {n : Nat} {k : Bool} : (List.replicate n [D.bl k]).flatten = dBls (List.replicate n k) := by
  induction n with
  | zero => rfl
  | succ n ih => rw [List.replicate_succ, List.flatten_cons, ih, List.replicate_succ]; rfl
theorem nil_or_snoc {t : Type} (l : List t) : l = [] ∨ ∃ L b, l = L ++ [b] := by
  rcases List.eq_nil_or_concat l with h | ⟨L, b, h⟩
  · exact .inl h
  · exact .inr ⟨L, b, by rw [h]; simp⟩
theorem set_same {bs : List Bool} {i : Nat} (h : bs.getD i false = true) : bs.set i true = bs := by
  apply List.ext_getElem?
  intro j
  by_cases q : i = j
  · subst q
    rw [List.getD_eq_getElem?_getD] at h
    by_cases l : i < bs.length
    · rw [List.getElem?_set_self l]
      rw [List.getElem?_eq_getElem l] at h ⊢
      simp at h
      rw [h]
    · rw [List.getElem?_eq_none (by omega)] at h
      cases h
  · rw [List.getElem?_set_ne q]
theorem mupd_comm {M : Mp} {a b : Addr} {c e : MC} (h : a ≠ b) : mupd (mupd M a c) b e = mupd (mupd M b e) a c := by
  funext x
  unfold mupd
  by_cases q : x = b
  · rw [if_pos q]
    by_cases q2 : x = a
    · exact absurd (q2.symm.trans q) h
    · rw [if_neg q2, if_pos q]
  · rw [if_neg q]
    by_cases q2 : x = a
    · rw [if_pos q2, if_pos q2]
    · rw [if_neg q2, if_neg q2, if_neg q]
section
variable {P : Program} {w : World} {K : PySem.W.Frag} {mg : Str → Option Value} {base : Heap} {a : Ad}
theorem ok__law_order (T : TX K mg a) : FnOk P w K mg base CX0 1 a.f__law_order a.fd__law_order ["steps"] (lift K 1 sp__law_order) := by
  refine okD (k := 0) T.fn__law_order sc__law_order rfl fun cdv A outer s H E hr => ⟨_, _, (dss_cons (ds_par (i := 1) (j := 2) sc__law_order.nd rfl rfl (da_cons (de_mulM (de_lst (da_cons de_bl da_nil)) (de_callB call_lenA sl_len (by rfl) T.b_len (by decide +kernel) (da_cons (dv 0) da_nil))) (da_cons (de_lstM da_nil) da_nil)))
      (dss_cons (ds_for (di_range1 (by rfl) T.b_range (da_cons (de_callB call_lenA sl_len (by rfl) T.b_len (by decide +kernel) (da_cons (dv 0) da_nil)) da_nil)) (dg_name (j := 3) sc__law_order.nd rfl (by first | exact .inl rfl | exact .inr rfl)) (dss_cons (ds_set (j := 4) sc__law_order.nd rfl (by first | exact .inl rfl | exact .inr rfl) (de_ifExp (dt_tru (de_ix (hu_of hr) (dv 1) (dv 3) (fun _ _ => rfl))) (de_lstM da_nil) (de_lstM (da_cons (de_tup (da_cons (dv 3) (da_cons de_int da_nil))) da_nil))))
      (dss_cons (ds_asg de_bl (dg_subL (dv 1) (dv 3)))
      (dss_one (ds_while (dt_tru (dv 4)) (dss_cons (ds_asg (de_bm0 PySem.F.plainAttrs_list PySem.F.slot_list_pop PySem.F.type_list_pop mt_pop sm_pop (.inl rfl) (dv 4)) (dg_tup (dgs_cons (dg_name (j := 5) sc__law_order.nd rfl (by first | exact .inl rfl | exact .inr rfl)) (dgs_cons (dg_name (j := 6) sc__law_order.nd rfl (by first | exact .inl rfl | exact .inr rfl)) dgs_nil))))
      (dss_one (ds_if (dt_cmp op_lt s2_lt (dv 6) (de_callB call_lenA sl_len (by rfl) T.b_len (by decide +kernel) (da_cons (de_ix (hu_of hr) (dv 0) (dv 5) (fun _ _ => rfl)) da_nil)) (nomark _)) (dss_cons (ds_expr (de_bm PySem.F.plainAttrs_list PySem.F.slot_list_append PySem.F.type_list_append mt_append sm_append (.inl rfl) (dv 4) (da_cons (de_tup (da_cons (dv 5) (da_cons (de_add (dv 6) de_int) da_nil))) da_nil)))
      (dss_cons (ds_set (j := 7) sc__law_order.nd rfl (by first | exact .inl rfl | exact .inr rfl) (de_ix (hu_of hr) (de_ix (hu_of hr) (dv 0) (dv 5) (fun _ _ => rfl)) (dv 6) (fun _ _ => rfl)))
      (dss_one (ds_if (dt_not (dt_tru (de_ix (hu_of hr) (dv 1) (dv 7) (fun _ _ => rfl)))) (dss_cons (ds_asg de_bl (dg_subL (dv 1) (dv 7)))
      (dss_one (ds_expr (de_bm PySem.F.plainAttrs_list PySem.F.slot_list_append PySem.F.type_list_append mt_append sm_append (.inl rfl) (dv 4) (da_cons (de_tup (da_cons (dv 7) (da_cons de_int da_nil))) da_nil))))) dss_nil)))) (dss_one (ds_expr (de_bm PySem.F.plainAttrs_list PySem.F.slot_list_append PySem.F.type_list_append mt_append sm_append (.inl rfl) (dv 2) (da_cons (dv 5) da_nil))))))) PassesOwn.never)))) PassesOwn.never)
      (dss_one (ds_ret (dv 2))))), fun ds M Q hl h => ?_⟩
  obtain ⟨steps, rfl, g, q⟩ := h
  have gl := g.le
  walk_at "start"
  walk_at "go"
  intro ps hps
  walk_at "go"
  intro pf hpf
  have npf : pf ≠ ps := fun z => by subst z; rw [mupd_same] at hpf; cases hpf
  have hMf : M pf = none := by rw [mupd_ne npf] at hpf; exact hpf
  simp only [List.length_map, Int.toNat_natCast]
  rw [rep_bl]
  walk_at "go"
  refine go_seqK (J := fun G' M' => ∃ (x3 x4 x5 x6 x7 : Option D) (bs : List Bool) (ord : List Int), G' = [some (dWeb steps), some (.ref ps), some (.ref pf), x3, x4, x5, x6, x7] ∧ Sub M M' ∧ M' pf = some (.lst (dInts ord)) ∧ Dfs steps bs ord [] ∧ ∀ v, 0 ≤ v → v < (steps.length : Int) → v ∈ ord) (fun nx hk => ?_) (fun G' M' hJ => ?_)
  · walk_at "go"
    refine go_forI (fun i G' M' => ∃ (x3 x4 x5 x6 x7 : Option D) (bs : List Bool) (ord : List Int), G' = [some (dWeb steps), some (.ref ps), some (.ref pf), x3, x4, x5, x6, x7] ∧ Sub M M' ∧ M' ps = some (.lst (dBls bs)) ∧ M' pf = some (.lst (dInts ord)) ∧ Dfs steps bs ord [] ∧ ∀ v, 0 ≤ v → v < (i : Int) → v ∈ ord) ⟨_, _, _, _, _, _, [], rfl, sub_mupd (sub_mupd (fun _ _ h => h) hps) hMf, by rw [mupd_ne (Ne.symm npf)]; exact mupd_same, mupd_same, .start _ rfl, fun v h0 h1 => by omega⟩ (fun i d G' M' nx' hd hI hn => ?_) (fun G' M' hI => ?_)
    · obtain ⟨x3, x4, x5, x6, x7, bs, ord, rfl, sb, c1, c2, dfs, hal⟩ := hI
      obtain ⟨hlt, rfl⟩ := rng_get hd
      simp only [List.length_map, Int.toNat_natCast] at hlt
      have ebl := bl_at (bs := bs) (v := 0 + (i : Int)) (by omega) (by rw [dfs.len]; omega)
      rw [show (0 + (i : Int)).toNat = i by omega] at ebl
      refine go_seqK (J := fun G' M2 => ∃ (pw : Addr) (way : List (Int × Int)), G' = [some (dWeb steps), some (.ref ps), some (.ref pf), some (.int (0 + (i : Int))), some (.ref pw), x5, x6, x7] ∧ M' pw = none ∧ M2 = mupd M' pw (.lst (dWay way)) ∧ ((way = [] ∧ bs.getD i false = true) ∨ (way = [(0 + (i : Int), 0)] ∧ bs.getD i false = false))) (fun nx2 hk2 => ?_) (fun G' M2 hJ => ?_)
      · walk_at "go"
        refine go_ite (fun e => ?_) (fun e => ?_)
        · walk_at "go"
          intro pw hpw
          walk_at "go"
          exact hk2 _ _ ⟨pw, [], rfl, hpw, rfl, .inl ⟨rfl, e⟩⟩
        · walk_at "go"
          intro pw hpw
          walk_at "go"
          exact hk2 _ _ ⟨pw, [(0 + (i : Int), 0)], rfl, hpw, rfl, .inr ⟨rfl, by simpa using e⟩⟩
      · obtain ⟨pw, way, rfl, hpw, rfl, hway⟩ := hJ
        have nws : pw ≠ ps := Ne.symm (mne c1 hpw)
        have nwf : pw ≠ pf := Ne.symm (mne c2 hpw)
        have hMw : M pw = none := sb.none hpw
        have c1' : (mupd M' pw (.lst (dWay way))) ps = some (.lst (dBls bs)) := by rw [mupd_ne (Ne.symm nws)]; exact c1
        have hix : ixN (dBls bs).length (0 + (i : Int)) = some i := by
          rw [ixN_nn (by omega) (by rw [List.length_map, dfs.len]; omega)]
          congr 1
          omega
        walk_at "goS"
        rw [← List.map_set]
        walk_at "go"
        refine go_whileI (W := fun m G' M2 => ∃ (x5 x6 x7 : Option D) (bs : List Bool) (ord : List Int) (way : List (Int × Int)), G' = [some (dWeb steps), some (.ref ps), some (.ref pf), some (.int (0 + (i : Int))), some (.ref pw), x5, x6, x7] ∧ Sub M M2 ∧
          M2 ps = some (.lst (dBls bs)) ∧ M2 pf = some (.lst (dInts ord)) ∧ M2 pw = some (.lst (dWay way)) ∧ Dfs steps bs ord way ∧ (∀ v, 0 ≤ v → v < (i : Int) → v ∈ ord) ∧ (0 + (i : Int)) ∈ ord ++ way.map (·.1) ∧ m = msr steps ord way) (msr steps ord way) ?_ (fun m G' M2 nx3 hW hn3 => ?_)
        · refine ⟨_, _, _, bs.set i true, ord, way, rfl, sub_mupd (sub_mupd sb hMw) hps, mupd_same, by rw [mupd_ne npf, mupd_ne (Ne.symm nwf)]; exact c2, by rw [mupd_ne nws]; exact mupd_same, ?_, hal, ?_, rfl⟩
          · rcases hway with ⟨rfl, e⟩ | ⟨rfl, e⟩
            · rw [set_same e]
              exact dfs
            · have := dfs.push (v := 0 + (i : Int)) (by omega) (by omega) (fun h => by
                have h2 := (dfs.seen (0 + (i : Int)) (by omega) (by omega)).mpr h
                rw [show (0 + (i : Int)).toNat = i by omega, e] at h2
                cases h2) (fun p hp => by simp at hp)
              rw [show (0 + (i : Int)).toNat = i by omega] at this
              exact this
          · rcases hway with ⟨rfl, e⟩ | ⟨rfl, e⟩
            · refine (dfs.seen (0 + (i : Int)) (by omega) (by omega)).mp ?_
              rw [show (0 + (i : Int)).toNat = i by omega]
              exact e
            · simp
        · obtain ⟨x5, x6, x7, bs, ord, way, rfl, sb2, d1, d2, d3, df, hal2, hin, rfl⟩ := hW
          walk_at "goS"
          refine go_ite (fun e => ?_) (fun e => ?_)
          · rcases nil_or_snoc way with rfl | ⟨way', ⟨u, at0⟩, rfl⟩
            · simp at e
            obtain ⟨u0, u1⟩ := df.rg u (by simp)
            obtain ⟨a0, a1⟩ := df.at' (u, at0) (by simp)
            have er := row_at u0 u1
            have hp : (dWay (way' ++ [(u, at0)]))[(dWay (way' ++ [(u, at0)])).length - 1]? = some (.tup [.int u, .int at0]) := by simp [dWay]
            have hdl : (dWay (way' ++ [(u, at0)])).dropLast = dWay way' := by simp [dWay]
            have wl := df.len_le
            simp only [List.length_append, List.length_singleton] at wl
            have hwt : wt steps (way' ++ [(u, at0)]) = wt steps way' + ((succS steps u).length + 1 - at0.toNat) := wt_snoc
            have a0 : 0 ≤ at0 := a0
            have a1 : at0 ≤ ((succS steps u).length : Int) := a1
            have hsl : (succS steps u).length ≤ 200 := by
              unfold succS
              rw [List.getD_eq_getElem?_getD, List.getElem?_eq_getElem (by omega)]
              exact g.wd _ (List.getElem_mem _)
            walk_at "goS"
            rw [hdl]
            walk_at "goS"
            simp only [List.length_map]
            refine go_ite (fun e1 => ?_) (fun e1 => ?_)
            · have e1 := of_decide_eq_true e1
              obtain ⟨t, ht, htm, et⟩ := int_at (cs := succS steps u) a0 e1
              obtain ⟨t0, t1⟩ := g.succ htm
              have etb := bl_at (bs := bs) t0 (by rw [df.len]; exact t1)
              have hwy : (dWay way' ++ [D.tup [D.int u, D.int (at0 + 1)]]) = dWay (way' ++ [(u, at0 + 1)]) := by simp [dWay]
              have hwt2 : wt steps (way' ++ [(u, at0 + 1)]) = wt steps way' + ((succS steps u).length + 1 - (at0 + 1).toNat) := wt_snoc
              walk_at "goS"
              refine go_ite (fun e2 => ?_) (fun e2 => ?_)
              · have e2 : bs.getD t.toNat false = false := by simpa using e2
                have hnt : t ∉ ord ++ (way' ++ [(u, at0)]).map (·.1) := fun z => by
                  rw [(df.seen t t0 t1).mpr z] at e2
                  cases e2
                have hixt : ixN (dBls bs).length t = some t.toNat := ixN_nn t0 (by rw [List.length_map, df.len]; exact t1)
                have hpw := List.pairwise_append.mp df.pw
                have dp := df.push t0 t1 hnt (fun p hp => by
                  rcases List.mem_append.mp hp with h | h
                  · exact (hpw.2.2 p h (u, at0) (by simp)).snoc htm
                  · rcases List.mem_singleton.mp h with rfl
                    exact .one htm)
                rw [List.append_assoc, List.singleton_append] at dp
                have dn := dp.next e1 ht (by simp)
                have wl2 := dn.len_le
                simp only [List.length_append, List.length_cons, List.length_nil] at wl2
                have hst : (succS steps t).length ≤ 200 := by
                  unfold succS
                  rw [List.getD_eq_getElem?_getD, List.getElem?_eq_getElem (by omega)]
                  exact g.wd _ (List.getElem_mem _)
                have hwt3 : wt steps (way' ++ [(u, at0 + 1)] ++ [(t, 0)]) = wt steps (way' ++ [(u, at0 + 1)]) + ((succS steps t).length + 1 - (0 : Int).toNat) := wt_snoc
                have ewy : way' ++ (u, at0 + 1) :: [(t, 0)] = way' ++ [(u, at0 + 1)] ++ [(t, 0)] := by simp
                walk_at "goS"
                refine hn3 (msr steps ord (way' ++ (u, at0 + 1) :: [(t, 0)])) _ _ ?_ ⟨_, _, _, bs.set t.toNat true, ord, way' ++ (u, at0 + 1) :: [(t, 0)], rfl, ?_, ?_, ?_, ?_, dn, hal2, ?_, rfl⟩
                · simp only [msr, ewy, hwt3, hwt2, hwt, List.length_append, List.length_singleton, Int.toNat_zero]
                  omega
                · exact sub_mupd (sub_mupd (sub_mupd (sub_mupd sb2 hMw) hMw) hps) hMw
                · rw [mupd_ne (Ne.symm nws), mupd_same, ← List.map_set]
                · rw [mupd_ne (Ne.symm nwf), mupd_ne npf, mupd_ne (Ne.symm nwf), mupd_ne (Ne.symm nwf)]; exact d2
                · rw [mupd_same]; simp [dWay]
                · simp only [List.map_append, List.map_cons, List.map_nil, List.mem_append, List.mem_cons, List.not_mem_nil, or_false] at hin ⊢
                  rcases hin with h | h | h
                  · exact .inl h
                  · exact .inr (.inl h)
                  · exact .inr (.inr (.inl h))
              · have e2 : bs.getD t.toNat false = true := by simpa using e2
                have dn := df.next e1 ht ((df.seen t t0 t1).mp e2)
                walk_at "goS"
                refine hn3 (msr steps ord (way' ++ [(u, at0 + 1)])) _ _ ?_ ⟨_, _, _, bs, ord, way' ++ [(u, at0 + 1)], rfl, ?_, ?_, ?_, ?_, dn, hal2, ?_, rfl⟩
                · simp only [msr, hwt2, hwt, List.length_append, List.length_singleton]
                  omega
                · exact sub_mupd (sub_mupd sb2 hMw) hMw
                · rw [mupd_ne (Ne.symm nws), mupd_ne (Ne.symm nws)]; exact d1
                · rw [mupd_ne (Ne.symm nwf), mupd_ne (Ne.symm nwf)]; exact d2
                · rw [mupd_same, hwy]
                · simpa using hin
            · have e1 := of_decide_eq_false e1
              have dn := df.fin g e1
              walk_at "goS"
              refine hn3 (msr steps (ord ++ [u]) way') _ _ ?_ ⟨_, _, _, bs, ord ++ [u], way', rfl, ?_, ?_, ?_, ?_, dn, fun v v0 v1 => List.mem_append_left _ (hal2 v v0 v1), ?_, rfl⟩
              · simp only [msr, hwt, List.length_append, List.length_singleton]
                omega
              · exact sub_mupd (sub_mupd sb2 hMw) hMf
              · rw [mupd_ne (Ne.symm npf), mupd_ne (Ne.symm nws)]; exact d1
              · rw [mupd_same]; simp [dInts]
              · rw [mupd_ne nwf, mupd_same]
              · simp only [List.map_append, List.map_cons, List.map_nil, List.mem_append, List.mem_cons, List.not_mem_nil, or_false] at hin ⊢
                rcases hin with h | h | h
                · exact .inl (.inl h)
                · exact .inr h
                · exact .inl (.inr h)
          · have e : way = [] := by
              cases way with
              | nil => rfl
              | cons => simp at e
            subst e
            refine hn _ _ ⟨_, _, _, _, _, bs, ord, rfl, sb2, d1, d2, df, fun v v0 v1 => ?_⟩
            by_cases z : v = 0 + (i : Int)
            · subst z
              simpa using hin
            · exact hal2 v v0 (by omega)
    · obtain ⟨x3, x4, x5, x6, x7, bs, ord, rfl, sb, c1, c2, dfs, hal⟩ := hI
      rw [length_rng] at hal
      simp only [List.length_map, Int.toNat_natCast] at hal
      exact hk _ _ ⟨_, _, _, _, _, bs, ord, rfl, sb, c2, dfs, hal⟩
  · obtain ⟨x3, x4, x5, x6, x7, bs, ord, rfl, sb, c2, dfs, hal⟩ := hJ
    walk_at "go"
    have nd := dfs.nd
    simp only [List.map_nil, List.append_nil] at nd
    refine Fin.list c2 hMf (fun x d e => ?_) (q ord dfs.op nd (fun v => ⟨fun h => dfs.rg v (by simp [h]), fun h => hal v h.1 h.2⟩))
    have hx : x ≠ pf := fun z => by subst z; rw [hMf] at e; cases e
    rw [mdel_ne hx]
    exact sb x d e
end
end L29

set_option Elab.async false
set_option linter.all false
set_option maxRecDepth 100000
set_option maxHeartbeats 4000000
namespace L29
open PySem PySem.Spec PyProof.Rows L2 DL
/-! ### rows that are lists of our own, held by a list -/
structure Rws (M M' : Mp) (ps : List Addr) (rows : List (List Int)) : Prop where
  len : ps.length = rows.length
  nd : ps.Nodup
  at' : ∀ (j : Nat) p r, ps[j]? = some p → rows[j]? = some r → M p = none ∧ M' p = some (.lst (dInts r))
section
variable {M M' : Mp} {ps : List Addr} {rows : List (List Int)}
theorem Rws.mem (h : Rws M M' ps rows) {p : Addr} (hp : p ∈ ps) : M p = none ∧ ∃ r ∈ rows, M' p = some (.lst (dInts r)) := by
  obtain ⟨j, hj⟩ := List.getElem?_of_mem hp
  have hl := (List.getElem?_eq_some_iff.mp hj).1
  have hr : rows[j]? = some (rows[j]'(by rw [← h.len]; exact hl)) := List.getElem?_eq_getElem _
  obtain ⟨h1, h2⟩ := h.at' j p _ hj hr
  exact ⟨h1, _, List.getElem_mem _, h2⟩
theorem Rws.fresh (h : Rws M M' ps rows) {x : Addr} (hx : M' x = none) : x ∉ ps := fun hp => by
  obtain ⟨_, r, _, h2⟩ := h.mem hp
  rw [hx] at h2
  cases h2
theorem Rws.out (h : Rws M M' ps rows) {x : Addr} {c : MC} (hx : M x = some c) : x ∉ ps := fun hp => by
  rw [(h.mem hp).1] at hx
  cases hx
theorem Rws.oth (h : Rws M M' ps rows) {x : Addr} {c : MC} (hx : x ∉ ps) : Rws M (mupd M' x c) ps rows :=
  ⟨h.len, h.nd, fun j p r hp hr => by
    obtain ⟨h1, h2⟩ := h.at' j p r hp hr
    exact ⟨h1, by rw [mupd_ne (fun e => by subst e; exact hx (List.mem_of_getElem? hp))]; exact h2⟩⟩
theorem Rws.nil : Rws M M' [] [] := ⟨rfl, .nil, fun j p r h => by simp at h⟩
theorem Rws.snoc (h : Rws M M' ps rows) {p : Addr} (hp : M' p = none) (h0 : M p = none) {r : List Int} : Rws M (mupd M' p (.lst (dInts r))) (ps ++ [p]) (rows ++ [r]) := by
  have hn := h.fresh hp
  refine ⟨by simp [h.len], List.nodup_append.mpr ⟨h.nd, by simp, fun x hx y hy e => ?_⟩, fun j q s hq hs => ?_⟩
  · rcases List.mem_singleton.mp hy with rfl
    subst e
    exact hn hx
  · by_cases z : j < ps.length
    · rw [List.getElem?_append_left z] at hq
      rw [List.getElem?_append_left (by rw [← h.len]; exact z)] at hs
      obtain ⟨h1, h2⟩ := h.at' j q s hq hs
      exact ⟨h1, by rw [mupd_ne (fun e => by subst e; exact hn (List.mem_of_getElem? hq))]; exact h2⟩
    · rw [List.getElem?_append_right (by omega)] at hq
      rw [List.getElem?_append_right (by rw [← h.len]; omega)] at hs
      rw [h.len] at hq
      generalize j - rows.length = i at hq hs
      cases i with
      | zero => cases hq; cases hs; exact ⟨h0, mupd_same⟩
      | succ i => simp at hq
theorem Rws.put (h : Rws M M' ps rows) {j : Nat} {p : Addr} {r : List Int} (hp : ps[j]? = some p) : Rws M (mupd M' p (.lst (dInts r))) ps (rows.set j r) := by
  have hl := (List.getElem?_eq_some_iff.mp hp).1
  refine ⟨by simp [h.len], h.nd, fun i q s hq hs => ?_⟩
  by_cases z : i = j
  · subst z
    rw [hp] at hq
    cases hq
    rw [List.getElem?_set_self (by rw [← h.len]; exact hl)] at hs
    cases hs
    have hr : rows[i]? = some (rows[i]'(by rw [← h.len]; exact hl)) := List.getElem?_eq_getElem _
    exact ⟨(h.at' i p _ hp hr).1, mupd_same⟩
  · rw [List.getElem?_set_ne (Ne.symm z)] at hs
    obtain ⟨h1, h2⟩ := h.at' i q s hq hs
    have hqp : q ≠ p := fun e => by
      subst e
      have a1 := (List.getElem?_eq_some_iff.mp hq)
      have a2 := (List.getElem?_eq_some_iff.mp hp)
      obtain ⟨b1, c1⟩ := a1
      obtain ⟨b2, c2⟩ := a2
      exact z ((List.getElem_inj h.nd).mp (c1.trans c2.symm))
    exact ⟨h1, by rw [mupd_ne hqp]; exact h2⟩
theorem rws_dzs {M' : Mp} {L : List Addr} : ∀ {ps : List Addr} {rows : List (List Int)}, ps.length = rows.length → (∀ p ∈ ps, p ∈ L) → (∀ (j : Nat) p r, ps[j]? = some p → rows[j]? = some r → M' p = some (.lst (dInts r))) → Dzs M' L (ps.map .ref) (rows.map fun r => .list (r.map .int))
  | [], [], _, _, _ => .nil
  | [], _ :: _, h, _, _ => by simp at h
  | _ :: _, [], h, _, _ => by simp at h
  | p :: ps, r :: rows, h, hl, ha => .cons (.ref (hl p (by simp)) (ha 0 p r rfl rfl) (dzs_same _)) (rws_dzs (by simpa using h) (fun q hq => hl q (by simp [hq])) fun j q s hq hs => ha (j + 1) q s (by simpa using hq) (by simpa using hs))
theorem Rws.dz (h : Rws M M' ps rows) : Dz M' ps (.list (ps.map .ref)) (dWeb rows) := .list (rws_dzs h.len (fun _ h => h) fun j p r hp hr => (h.at' j p r hp hr).2)
theorem Rws.cvt (h : Rws M M' ps rows) {G G' : Gm} (hg : Dzg M' ps G G') : Cvt M G M' G' (mdelL M' ps) :=
  Cvt.freeze h.nd (fun p hp => by
    obtain ⟨h1, r, _, h2⟩ := h.mem hp
    exact ⟨⟨_, h2⟩, h1⟩) hg fun x c hx => by
    rw [mdelL_get] at hx
    by_cases q : x ∈ ps
    · rw [if_pos q] at hx; cases hx
    · rw [if_neg q] at hx
      exact ⟨q, .inl hx⟩
theorem Rws.sub (h : Rws M M' ps rows) (s : Sub M M') : Sub M (mdelL M' ps) := fun x c e => by
  rw [mdelL_get, if_neg (h.out e)]
  exact s x c e
theorem ps_at {ps : List Addr} {v : Int} (h0 : 0 ≤ v) (h1 : v < (ps.length : Int)) : ∃ p, ps[v.toNat]? = some p ∧ atI (ps.map D.ref) v = some (.ref p) := by
  have h : ps[v.toNat]? = some (ps[v.toNat]'(by omega)) := List.getElem?_eq_getElem (by omega)
  refine ⟨_, h, ?_⟩
  rw [atI_nn _ h0, List.getElem?_map, h]
  rfl
end
theorem rep_int {n : Nat} {k : Int} : (List.replicate n [D.int k]).flatten = dInts (List.replicate n k) := by
  induction n with
  | zero => rfl
  | succ n ih => rw [List.replicate_succ, List.flatten_cons, ih, List.replicate_succ]; rfl
/-- the arrows turned around, so far -/
structure BackP (steps rows : List (List Int)) (i j : Nat) : Prop where
  len : rows.length = steps.length
  mem : ∀ v, 0 ≤ v → v < (steps.length : Int) → ∀ y, y ∈ succS rows v ↔ (0 ≤ y ∧ y < (i : Int) ∧ v ∈ succS steps y) ∨ (y = (i : Int) ∧ v ∈ (succS steps (i : Int)).take j)
  sz : ∀ r ∈ rows, r.length ≤ i * 200 + j
section
variable {steps rows : List (List Int)} {i j : Nat}
theorem succS_rep {n : Nat} {v : Int} : succS (List.replicate n []) v = [] := by
  unfold succS
  rw [List.getD_eq_getElem?_getD, List.getElem?_replicate]
  split <;> rfl
theorem BackP.start : BackP steps (List.replicate steps.length []) 0 0 :=
  ⟨by simp, fun v v0 v1 y => by rw [succS_rep]; simp; omega, fun r hr => by rw [List.eq_of_mem_replicate hr]; simp⟩
theorem succS_set {rows : List (List Int)} {t v : Int} {r : List Int} (t0 : 0 ≤ t) (t1 : t < (rows.length : Int)) (v0 : 0 ≤ v) : succS (rows.set t.toNat r) v = if v = t then r else succS rows v := by
  unfold succS
  rw [List.getD_eq_getElem?_getD, List.getD_eq_getElem?_getD]
  by_cases q : v = t
  · subst q
    rw [if_pos rfl, List.getElem?_set_self (by omega)]
    rfl
  · rw [if_neg q, List.getElem?_set_ne (by omega)]
theorem BackP.step {t : Int} (h : BackP steps rows i j) (g : GoodSt steps) (ht : (succS steps (i : Int))[j]? = some t) : BackP steps (rows.set t.toNat (succS rows t ++ [(i : Int)])) i (j + 1) := by
  obtain ⟨t0, t1⟩ := g.succ (List.mem_of_getElem? ht)
  refine ⟨by rw [List.length_set]; exact h.len, fun v v0 v1 y => ?_, fun r hr => ?_⟩
  · rw [succS_set t0 (by rw [h.len]; exact t1) v0, List.take_add_one, ht]
    by_cases q : v = t
    · subst q
      rw [if_pos rfl, List.mem_append, h.mem v v0 v1 y]
      simp only [List.mem_singleton, Option.toList_some, List.mem_append]
      constructor
      · rintro ((h | h) | h)
        · exact .inl h
        · exact .inr ⟨h.1, .inl h.2⟩
        · exact .inr ⟨h, .inr trivial⟩
      · rintro (h | ⟨h, h2 | h2⟩)
        · exact .inl (.inl h)
        · exact .inl (.inr ⟨h, h2⟩)
        · exact .inr h
    · rw [if_neg q, h.mem v v0 v1 y]
      simp only [List.mem_singleton, Option.toList_some, List.mem_append]
      constructor
      · rintro (h | h)
        · exact .inl h
        · exact .inr ⟨h.1, .inl h.2⟩
      · rintro (h | ⟨h, h2 | h2⟩)
        · exact .inl h
        · exact .inr ⟨h, h2⟩
        · exact absurd h2 q
  · rcases List.mem_or_eq_of_mem_set hr with hr | rfl
    · have := h.sz r hr
      omega
    · have hm : succS rows t ∈ rows := by
        have e : rows[t.toNat]? = some (rows[t.toNat]'(by rw [h.len]; omega)) := List.getElem?_eq_getElem _
        rw [succS_mem e]
        exact List.getElem_mem _
      have := h.sz _ hm
      simp
      omega
theorem GoodSt.row_le (g : GoodSt steps) (u : Int) : (succS steps u).length ≤ 200 := by
  unfold succS
  rw [List.getD_eq_getElem?_getD]
  by_cases q : u.toNat < steps.length
  · rw [List.getElem?_eq_getElem q]
    exact g.wd _ (List.getElem_mem q)
  · rw [List.getElem?_eq_none (by omega)]
    simp
theorem BackP.row (h : BackP steps rows i (succS steps (i : Int)).length) (g : GoodSt steps) : BackP steps rows (i + 1) 0 := by
  refine ⟨h.len, fun v v0 v1 y => ?_, fun r hr => ?_⟩
  · rw [h.mem v v0 v1 y, List.take_length]
    simp only [List.take_zero, List.not_mem_nil, and_false, or_false]
    constructor
    · rintro (⟨a, b, c⟩ | ⟨rfl, c⟩)
      · exact ⟨a, by omega, c⟩
      · exact ⟨by omega, by omega, c⟩
    · rintro ⟨a, b, c⟩
      by_cases q : y = (i : Int)
      · exact .inr ⟨q, by rw [← q]; exact c⟩
      · exact .inl ⟨a, by omega, c⟩
  · have := h.sz r hr
    have := g.row_le (i : Int)
    omega
/-- the arrows turned around -/
structure BackOk (steps backs : List (List Int)) : Prop where
  len : backs.length = steps.length
  mem : ∀ v, 0 ≤ v → v < (steps.length : Int) → ∀ y, y ∈ succS backs v ↔ 0 ≤ y ∧ y < (steps.length : Int) ∧ v ∈ succS steps y
  sz : ∀ r ∈ backs, r.length ≤ 40000
theorem BackP.ok (h : BackP steps rows steps.length 0) (g : GoodSt steps) : BackOk steps rows :=
  ⟨h.len, fun v v0 v1 y => by rw [h.mem v v0 v1 y]; simp, fun r hr => by have := h.sz r hr; have := g.le; omega⟩
end
end L29

set_option Elab.async false
set_option linter.all false
set_option maxRecDepth 100000
set_option maxHeartbeats 4000000
namespace L29
open PySem PySem.Spec PyProof.Rows L2 DL
def sp__law_halls : aSp := fun ds M Q => ∃ steps, ds = [dWeb steps] ∧ GoodSt steps ∧ ∀ found : List Int, HallsOk steps found → Q (.list (dInts found)) M
theorem memD_ints {z : Int} : ∀ cs : List Int, memD (.int z) (dInts cs) = decide (z ∈ cs)
  | [] => rfl
  | c :: cs => by
    have e : memD (.int z) (dInts (c :: cs)) = (eqF (.int c) (.int z) || memD (.int z) (dInts cs)) := rfl
    rw [e, memD_ints cs]
    show ((c == z) || decide (z ∈ cs)) = _
    by_cases q : c = z
    · subst q; simp
    · have : (c == z) = false := by simpa using q
      rw [this]
      simp
      exact fun h => absurd h.symm q
theorem flat_ints : ∀ cs : List Int, (dInts cs).all flatD = true
  | [] => rfl
  | c :: cs => by
    show (flatD (.int c) && (dInts cs).all flatD) = true
    rw [flat_ints cs]
    rfl
theorem Dzg.keep {M : Mp} {L : List Addr} {o : Option D} {G G' : Gm} (h : Dzg M L G G') : Dzg M L (o :: G) (o :: G') := by
  cases o with
  | none => exact .non h
  | some d => exact .cons (.same _) h
section
variable {P : Program} {w : World} {K : PySem.W.Frag} {mg : Str → Option Value} {base : Heap} {a : Ad}
theorem ok__law_halls (T : TX K mg a) : FnOk P w K mg base CX0 2 a.f__law_halls a.fd__law_halls ["steps"] (lift K 1 sp__law_halls) := by
  refine okD (k := 1) T.fn__law_halls sc__law_halls rfl fun cdv A outer s H E hr => ⟨_, _, (dss_cons (ds_setLc (j := 1) (own := [("step", 10)]) rfl sc__law_halls.nd rfl rfl (sw_true rfl rfl rfl (by decide +kernel)) (di_seq (dv 0)) (blkOk_by (by rfl)) (fun _ _ _ _ _ => (dg_name (j := 10) sc__law_halls.nd rfl (by first | exact .inl rfl | exact .inr rfl))) (fun _ _ _ _ _ => dts_nil) (fun _ _ _ _ _ => (de_lstM da_nil)) om_name)
      (dss_cons (ds_for (di_range1 (by rfl) T.b_range (da_cons (de_callB call_lenA sl_len (by rfl) T.b_len (by decide +kernel) (da_cons (dv 0) da_nil)) da_nil)) (dg_name (j := 2) sc__law_halls.nd rfl (by first | exact .inl rfl | exact .inr rfl)) (dss_one (ds_for (di_seq (de_ix (hu_of hr) (dv 0) (dv 2) (fun _ _ => rfl))) (dg_name (j := 3) sc__law_halls.nd rfl (by first | exact .inl rfl | exact .inr rfl)) (dss_one (ds_expr (de_bm PySem.F.plainAttrs_list PySem.F.slot_list_append PySem.F.type_list_append mt_append sm_append (.inl rfl) (de_ix (hu_of hr) (dv 1) (dv 3) (fun _ _ => rfl)) (da_cons (dv 2) da_nil)))) PassesOwn.never)) PassesOwn.never)
      (dss_cons (ds_par3 (i := 4) (j := 5) (l := 6) sc__law_halls.nd rfl rfl rfl (da_cons (de_mulM (de_lst (da_cons (de_neg de_int) da_nil)) (de_callB call_lenA sl_len (by rfl) T.b_len (by decide +kernel) (da_cons (dv 0) da_nil))) (da_cons (de_mulM (de_lst (da_cons de_bl da_nil)) (de_callB call_lenA sl_len (by rfl) T.b_len (by decide +kernel) (da_cons (dv 0) da_nil))) (da_cons de_int da_nil))))
      (dss_cons (ds_for (di_seq (de_slice3 (de_call (ok__law_order T) (hr.mono (by decide)) (by rfl) T.mg__law_order T.kp__law_order T.bd__law_order pass0 (da_cons (dv 0) da_nil)) do_none do_none (do_some (de_neg de_int)))) (dg_name (j := 7) sc__law_halls.nd rfl (by first | exact .inl rfl | exact .inr rfl)) (dss_cons (ds_par (i := 8) (j := 9) sc__law_halls.nd rfl rfl (da_cons (de_lstM da_nil) (da_cons (de_ifExp (dt_tru (de_ix (hu_of hr) (dv 5) (dv 7) (fun _ _ => rfl))) (de_lstM da_nil) (de_lstM (da_cons (dv 7) da_nil))) da_nil)))
      (dss_cons (ds_asg de_bl (dg_subL (dv 5) (dv 7)))
      (dss_cons (ds_while (dt_tru (dv 9)) (dss_cons (ds_set (j := 2) sc__law_halls.nd rfl (by first | exact .inl rfl | exact .inr rfl) (de_bm0 PySem.F.plainAttrs_list PySem.F.slot_list_pop PySem.F.type_list_pop mt_pop sm_pop (.inl rfl) (dv 9)))
      (dss_cons (ds_expr (de_bm PySem.F.plainAttrs_list PySem.F.slot_list_append PySem.F.type_list_append mt_append sm_append (.inl rfl) (dv 8) (da_cons (dv 2) da_nil)))
      (dss_one (ds_for (di_seq (de_ix (hu_of hr) (dv 1) (dv 2) (fun _ _ => rfl))) (dg_name (j := 3) sc__law_halls.nd rfl (by first | exact .inl rfl | exact .inr rfl)) (dss_one (ds_if (dt_not (dt_tru (de_ix (hu_of hr) (dv 5) (dv 3) (fun _ _ => rfl)))) (dss_cons (ds_asg de_bl (dg_subL (dv 5) (dv 3)))
      (dss_one (ds_expr (de_bm PySem.F.plainAttrs_list PySem.F.slot_list_append PySem.F.type_list_append mt_append sm_append (.inl rfl) (dv 9) (da_cons (dv 3) da_nil))))) dss_nil)) PassesOwn.never)))) PassesOwn.never)
      (dss_one (ds_if (DW.dt (dw_or (dt_cmp op_gt s2_gt (de_callB call_lenA sl_len (by rfl) T.b_len (by decide +kernel) (da_cons (dv 8) da_nil)) de_int (nomark _)) (dw_or1 (DW.dt (dw_and (dt_tru (dv 8)) (dw_and1 (dt_cmp (op_inA (hu_of hr)) s2_in (de_ix (hu_of hr) (dv 8) de_int (fun _ _ => rfl)) (de_ix (hu_of hr) (dv 0) (de_ix (hu_of hr) (dv 8) de_int (fun _ _ => rfl)) (fun _ _ => rfl)) (by rfl)))))))) (dss_cons (ds_for (di_seq (dv 8)) (dg_name (j := 2) sc__law_halls.nd rfl (by first | exact .inl rfl | exact .inr rfl)) (dss_one (ds_asg (dv 6) (dg_subL (dv 4) (dv 2)))) PassesOwn.never)
      (dss_one (ds_set (j := 6) sc__law_halls.nd rfl (by first | exact .inl rfl | exact .inr rfl) (de_add (dv 6) de_int)))) dss_nil))))) PassesOwn.never)
      (dss_one (ds_ret (dv 4))))))), fun ds M Q hl h => ?_⟩
  obtain ⟨steps, rfl, g, q⟩ := h
  have gl := g.le
  walk_at "start"
  walk_at "go"
  refine go_lcI (fun i acc M' => ∃ ps : List Addr, acc = ps.map .ref ∧ Sub M M' ∧ Rws M M' ps (List.replicate i [])) ⟨[], rfl, fun _ _ h => h, .nil⟩ (fun i d acc M' KY KN hd hI hY hN => ?_) (fun acc M' hI => ?_)
  · obtain ⟨ps, rfl, sb, rw'⟩ := hI
    walk_at "go"
    intro p hp
    refine hY _ _ ⟨ps ++ [p], by simp, sub_mupd sb (sb.none hp), ?_⟩
    rw [List.replicate_succ']
    exact rw'.snoc (r := []) hp (sb.none hp)
  obtain ⟨ps, rfl, sb, rw'⟩ := hI
  rw [List.length_map] at rw'
  walk_at "go"
  refine go_seqC (J := fun G' M2 => ∃ (x2 x3 : Option D) (backs : List (List Int)), G' = [some (dWeb steps), some (dWeb backs), x2, x3, none, none, none, none, none, none, none] ∧ Sub M M2 ∧ BackOk steps backs) (fun nx hk => ?_) (fun G' M2 hJ => ?_)
  · walk_at "go"
    refine go_forI (fun i G' M' => ∃ (x2 x3 : Option D) (rows : List (List Int)), G' = [some (dWeb steps), some (.list (ps.map .ref)), x2, x3, none, none, none, none, none, none, none] ∧ Sub M M' ∧ Rws M M' ps rows ∧ BackP steps rows i 0) ⟨_, _, _, rfl, sb, rw', .start⟩ (fun i d G' M' nx' hd hI hn => ?_) (fun G' M' hI => ?_)
    · obtain ⟨x2, x3, rows, rfl, sb, rw', bp⟩ := hI
      obtain ⟨hlt, rfl⟩ := rng_get hd
      simp only [List.length_map, Int.toNat_natCast] at hlt
      have er := row_at (steps := steps) (v := 0 + (i : Int)) (by omega) (by omega)
      rw [Int.zero_add] at er ⊢
      walk_at "go"
      refine go_forI (fun j G' M' => ∃ (x3 : Option D) (rows : List (List Int)), G' = [some (dWeb steps), some (.list (ps.map .ref)), some (.int (i : Int)), x3, none, none, none, none, none, none, none] ∧ Sub M M' ∧ Rws M M' ps rows ∧ BackP steps rows i j) ⟨_, rows, rfl, sb, rw', bp⟩ (fun j d G' M' nx2 hd2 hI hn2 => ?_) (fun G' M' hI => ?_)
      · obtain ⟨x3, rows, rfl, sb, rw', bp⟩ := hI
        rw [List.getElem?_map] at hd2
        obtain ⟨t, ht, rfl⟩ := Option.map_eq_some_iff.mp hd2
        obtain ⟨t0, t1⟩ := g.succ (List.mem_of_getElem? ht)
        obtain ⟨p, hp, ep⟩ := ps_at (ps := ps) (v := t) t0 (by rw [rw'.len, bp.len]; exact t1)
        have hr : rows[t.toNat]? = some (succS rows t) := by
          have e : rows[t.toNat]? = some (rows[t.toNat]'(by rw [bp.len]; omega)) := List.getElem?_eq_getElem _
          rw [e, succS_mem e]
        obtain ⟨p0, c1⟩ := rw'.at' _ p _ hp hr
        have hsz := bp.sz _ (List.mem_of_getElem? hr)
        have hj := (List.getElem?_eq_some_iff.mp ht).1
        have hj2 := g.row_le (i : Int)
        have hb : i * 200 + j ≤ 50000 := by omega
        walk_at "go"
        refine hn2 _ _ ⟨_, rows.set t.toNat (succS rows t ++ [(i : Int)]), rfl, sub_mupd sb p0, ?_, bp.step g ht⟩
        have := rw'.put (r := succS rows t ++ [(i : Int)]) hp
        simpa [dInts] using this
      · obtain ⟨x3, rows, rfl, sb, rw', bp⟩ := hI
        rw [List.length_map] at bp
        exact hn _ _ ⟨_, _, rows, rfl, sb, rw', bp.row g⟩
    · obtain ⟨x2, x3, rows, rfl, sb, rw', bp⟩ := hI
      rw [length_rng] at bp
      simp only [List.length_map, Int.toNat_natCast] at bp
      exact hk _ _ ⟨_, _, rw'.cvt (.cons (.same _) (.cons rw'.dz (Dzg.same _))), _, _, rows, rfl, rw'.sub sb, bp.ok g⟩
  obtain ⟨x2, x3, backs, rfl, sb, bk⟩ := hJ
  walk_at "go"
  intro pf hpf
  simp only [List.length_map, Int.toNat_natCast]
  rw [rep_int]
  walk_at "go"
  intro pt hpt
  simp only [List.length_map, Int.toNat_natCast]
  rw [rep_bl]
  have npt : pt ≠ pf := fun z => by subst z; rw [mupd_same] at hpt; cases hpt
  have hMf : M pf = none := sb.none hpf
  have hMt : M pt = none := by
    rw [mupd_ne npt] at hpt
    exact sb.none hpt
  walk_at "go"
  refine go_seqK (J := fun G' M' => ∃ (x2 x3 x5 x6 x7 x8 x9 : Option D) (found : List Int), G' = [some (dWeb steps), some (dWeb backs), x2, x3, some (.ref pf), x5, x6, x7, x8, x9, none] ∧ Sub M M' ∧ M' pf = some (.lst (dInts found)) ∧ HallsOk steps found) (fun nx hk => ?_) (fun G' M' hJ => ?_)
  · walk_at "go"
    refine ⟨steps, rfl, g, fun ord op on oall => ?_⟩
    walk_at "go"
    rw [pick_rev]
    refine go_forI (fun i G' M' => ∃ (x2 x3 x7 x8 x9 : Option D) (bs : List Bool) (found : List Int) (count : Int), G' = [some (dWeb steps), some (dWeb backs), x2, x3, some (.ref pf), some (.ref pt), some (.int count), x7, x8, x9, none] ∧ Sub M M' ∧ M' pf = some (.lst (dInts found)) ∧ M' pt = some (.lst (dBls bs)) ∧ Kos steps (ord.reverse.take i).reverse bs found count)
      ⟨_, _, _, _, _, _, _, _, rfl, sub_mupd (sub_mupd sb hMf) hMt, by rw [mupd_ne (Ne.symm npt)]; exact mupd_same, mupd_same, .start⟩ (fun i d G' M' nx' hd hI hn => ?_) (fun G' M' hI => ?_)
    · obtain ⟨x2, x3, x7, x8, x9, bs, found, count, rfl, sb, c1, c2, ko⟩ := hI
      rw [← List.map_reverse, List.getElem?_map] at hd
      obtain ⟨r, hr, rfl⟩ := Option.map_eq_some_iff.mp hd
      have hi := (List.getElem?_eq_some_iff.mp hr).1
      obtain ⟨r0, r1⟩ := (oall r).mp (List.mem_reverse.mp (List.mem_of_getElem? hr))
      have hdone : (ord.reverse.take (i + 1)).reverse = r :: (ord.reverse.take i).reverse := by
        rw [List.take_add_one, hr]
        simp
      have hord : ord = (ord.reverse.drop (i + 1)).reverse ++ r :: (ord.reverse.take i).reverse := by
        have h1 : ord.reverse = ord.reverse.take i ++ r :: ord.reverse.drop (i + 1) := by
          have h2 := (List.take_append_drop i ord.reverse).symm
          rw [List.drop_eq_getElem_cons hi] at h2
          have h3 : ord.reverse[i] = r := (List.getElem?_eq_some_iff.mp hr).2
          rw [h3] at h2
          exact h2
        have h4 := congrArg List.reverse h1
        rw [List.reverse_reverse] at h4
        refine h4.trans ?_
        rw [List.reverse_append, List.reverse_cons, List.append_assoc]
        rfl
      have ebl := bl_at (bs := bs) r0 (by rw [ko.len]; exact r1)
      have hix : ixN (dBls bs).length r = some r.toNat := ixN_nn r0 (by rw [List.length_map, ko.len]; exact r1)
      refine go_seqK (J := fun G' M3 => ∃ (pl pe : Addr) (left : List Int), G' = [some (dWeb steps), some (dWeb backs), x2, x3, some (.ref pf), some (.ref pt), some (.int count), some (.int r), some (.ref pl), some (.ref pe), none] ∧ M' pl = none ∧ pe ≠ pl ∧ M' pe = none ∧ M3 = mupd (mupd M' pl (.lst [])) pe (.lst (dInts left)) ∧
        ((left = [] ∧ bs.getD r.toNat false = true) ∨ (left = [r] ∧ bs.getD r.toNat false = false))) (fun nx2 hk2 => ?_) (fun G' M3 hJ => ?_)
      · walk_at "go"
        intro pl hpl
        have c2' : (mupd M' pl (.lst [])) pt = some (.lst (dBls bs)) := by rw [mupd_ne (mne c2 hpl)]; exact c2
        walk_at "go"
        refine go_ite (fun e => ?_) (fun e => ?_)
        · walk_at "go"
          intro pe hpe
          have nel : pe ≠ pl := fun z => by subst z; rw [mupd_same] at hpe; cases hpe
          walk_at "go"
          exact hk2 _ _ ⟨pl, pe, [], rfl, hpl, nel, by rw [mupd_ne nel] at hpe; exact hpe, rfl, .inl ⟨rfl, e⟩⟩
        · walk_at "go"
          intro pe hpe
          have nel : pe ≠ pl := fun z => by subst z; rw [mupd_same] at hpe; cases hpe
          walk_at "go"
          exact hk2 _ _ ⟨pl, pe, [r], rfl, hpl, nel, by rw [mupd_ne nel] at hpe; exact hpe, rfl, .inr ⟨rfl, by simpa using e⟩⟩
      obtain ⟨pl, pe, left, rfl, hpl, nel, hpe, rfl, hleft⟩ := hJ
      have nlt := mne c2 hpl
      have nlf := mne c1 hpl
      have net := mne c2 hpe
      have nef := mne c1 hpe
      have hMl : M pl = none := sb.none hpl
      have hMe : M pe = none := sb.none hpe
      have c2' : (mupd (mupd M' pl (.lst [])) pe (.lst (dInts left))) pt = some (.lst (dBls bs)) := by rw [mupd_ne net, mupd_ne nlt]; exact c2
      refine go_seq ?_
      walk_at "go"
      rw [← List.map_set]
      refine go_seqC (J := fun G' M4 => ∃ (x2 x3 x9 : Option D) (bs' : List Bool) (lot : List Int), G' = [some (dWeb steps), some (dWeb backs), x2, x3, some (.ref pf), some (.ref pt), some (.int count), some (.int r), some (.list (dInts lot)), x9, none] ∧ Sub M M4 ∧
        M4 pf = some (.lst (dInts found)) ∧ M4 pt = some (.lst (dBls bs')) ∧ ((bs.getD r.toNat false = true ∧ bs' = bs ∧ lot = []) ∨ (bs.getD r.toNat false = false ∧ Srch steps bs r bs' lot [] lot))) (fun nx2 hk2 => ?_) (fun G' M4 hJ => ?_)
      · refine go_whileI (W := fun m G' M3 => ∃ (x2 x3 : Option D) (bs' : List Bool) (lot left : List Int), G' = [some (dWeb steps), some (dWeb backs), x2, x3, some (.ref pf), some (.ref pt), some (.int count), some (.int r), some (.ref pl), some (.ref pe), none] ∧ Sub M M3 ∧
          M3 pf = some (.lst (dInts found)) ∧ M3 pt = some (.lst (dBls bs')) ∧ M3 pl = some (.lst (dInts lot)) ∧ M3 pe = some (.lst (dInts left)) ∧
          ((bs.getD r.toNat false = true ∧ bs' = bs ∧ lot = [] ∧ left = []) ∨ (bs.getD r.toNat false = false ∧ Srch steps bs r bs' lot left lot)) ∧ m = steps.length - lot.length) steps.length ?_ (fun m G' M3 nx3 hW hn3 => ?_)
        · refine ⟨_, _, bs.set r.toNat true, [], left, rfl, sub_mupd (sub_mupd (sub_mupd sb hMl) hMe) hMt, ?_, mupd_same, ?_, ?_, ?_, rfl⟩
          · rw [mupd_ne (Ne.symm npt), mupd_ne nef, mupd_ne nlf]; exact c1
          · rw [mupd_ne (Ne.symm nlt), mupd_ne (Ne.symm nel)]; exact mupd_same
          · rw [mupd_ne (Ne.symm net)]; exact mupd_same
          · rcases hleft with ⟨rfl, e⟩ | ⟨rfl, e⟩
            · exact .inl ⟨e, set_same e, rfl, rfl⟩
            · exact .inr ⟨e, .start ko.len r0 r1 e⟩
        · obtain ⟨x2, x3, bs', lot, left, rfl, sb3, d1, d2, d3, d4, hst, rfl⟩ := hW
          walk_at "goS"
          refine go_ite (fun e => ?_) (fun e => ?_)
          · rcases nil_or_snoc left with rfl | ⟨left', h, rfl⟩
            · simp at e
            rcases hst with ⟨_, _, _, z⟩ | ⟨e0, sr⟩
            · simp at z
            obtain ⟨h0, h1⟩ := sr.rg h (by simp)
            have hp : (dInts (left' ++ [h]))[(dInts (left' ++ [h])).length - 1]? = some (.int h) := by simp [dInts]
            have hdl : (dInts (left' ++ [h])).dropLast = dInts left' := by simp [dInts]
            have sp := sr.pop
            have hlot0 : (lot ++ [h])[0]? = some r := by
              rcases sp.hd with ⟨z, _⟩ | z
              · simp at z
              · exact z
            have hll : (lot ++ [h]).length ≤ steps.length := nodup_le (List.nodup_append.mp sp.nd).1 fun v hv => sp.rg v (List.mem_append_left _ hv)
            simp only [List.length_append, List.length_singleton] at hll
            have ebk := row_at (steps := backs) h0 (by rw [bk.len]; exact h1)
            walk_at "goS"
            rw [hdl]
            walk_at "goS"
            rw [show dInts lot ++ [D.int h] = dInts (lot ++ [h]) by simp [dInts]]
            refine go_forI (fun j G' M5 => ∃ (x3 : Option D) (bs' : List Bool) (left : List Int), G' = [some (dWeb steps), some (dWeb backs), some (.int h), x3, some (.ref pf), some (.ref pt), some (.int count), some (.int r), some (.ref pl), some (.ref pe), none] ∧ Sub M M5 ∧
              M5 pf = some (.lst (dInts found)) ∧ M5 pt = some (.lst (dBls bs')) ∧ M5 pl = some (.lst (dInts (lot ++ [h]))) ∧ M5 pe = some (.lst (dInts left)) ∧
              Srch steps bs r bs' (lot ++ [h]) left lot ∧ ∀ y ∈ (succS backs h).take j, bs'.getD y.toNat false = true) ⟨_, bs', left', rfl, sub_mupd (sub_mupd sb3 hMe) hMl, by rw [mupd_ne nlf, mupd_ne nef]; exact d1, by rw [mupd_ne nlt, mupd_ne net]; exact d2, mupd_same, by rw [mupd_ne nel]; exact mupd_same, sp, by simp⟩ (fun j d G' M5 nx4 hd4 hI hn4 => ?_) (fun G' M5 hI => ?_)
            · obtain ⟨x3, bs', left, rfl, sb5, f1, f2, f3, f4, sr5, hall⟩ := hI
              rw [List.getElem?_map] at hd4
              obtain ⟨y, hy, rfl⟩ := Option.map_eq_some_iff.mp hd4
              obtain ⟨y0, y1, hhy⟩ := (bk.mem h h0 h1 y).mp (List.mem_of_getElem? hy)
              have eby := bl_at (bs := bs') y0 (by rw [sr5.len]; exact y1)
              have hixy : ixN (dBls bs').length y = some y.toNat := ixN_nn y0 (by rw [List.length_map, sr5.len]; exact y1)
              have hlf : left.length ≤ steps.length := nodup_le (List.nodup_append.mp sr5.nd).2.1 fun v hv => sr5.rg v (List.mem_append_right _ hv)
              walk_at "goS"
              refine go_ite (fun e2 => ?_) (fun e2 => ?_)
              · have e2 : bs'.getD y.toNat false = false := by simpa using e2
                walk_at "goS"
                refine hn4 _ _ ⟨_, bs'.set y.toNat true, left ++ [y], rfl, sub_mupd (sub_mupd sb5 hMt) hMe, ?_, ?_, ?_, ?_, sr5.add hlot0 (by simp) y0 y1 hhy e2, fun z hz => ?_⟩
                · rw [mupd_ne nef, mupd_ne (Ne.symm npt)]; exact f1
                · rw [mupd_ne net, mupd_same, ← List.map_set]
                · rw [mupd_ne (Ne.symm nel), mupd_ne (Ne.symm nlt)]; exact f3
                · rw [mupd_same]; simp [dInts]
                · obtain ⟨z0, z1, _⟩ := (bk.mem h h0 h1 z).mp (List.mem_of_mem_take hz)
                  rw [List.take_add_one, hy] at hz
                  refine (getD_set y0 (by rw [sr5.len]; exact y1) z0).mpr ?_
                  rcases List.mem_append.mp hz with hz | hz
                  · exact .inr (hall z hz)
                  · exact .inl (by simpa using hz)
              · have e2 : bs'.getD y.toNat false = true := by simpa using e2
                walk_at "goS"
                refine hn4 _ _ ⟨_, bs', left, rfl, sb5, f1, f2, f3, f4, sr5, fun z hz => ?_⟩
                rw [List.take_add_one, hy] at hz
                rcases List.mem_append.mp hz with hz | hz
                · exact hall z hz
                · have : z = y := by simpa using hz
                  rw [this]; exact e2
            · obtain ⟨x3, bs', left, rfl, sb5, f1, f2, f3, f4, sr5, hall⟩ := hI
              rw [List.length_map, List.take_length] at hall
              refine hn3 (steps.length - (lot ++ [h]).length) _ _ (by simp; omega) ⟨_, _, bs', lot ++ [h], left, rfl, sb5, f1, f2, f3, f4, .inr ⟨e0, sr5.close fun y y0 y1 hy => hall y ((bk.mem h h0 h1 y).mpr ⟨y0, y1, hy⟩)⟩, rfl⟩
          · have e : left = [] := by
              cases left with
              | nil => rfl
              | cons => simp at e
            subst e
            refine hk2 _ _ ⟨_, _, freeze1 d3 hMl (.cons (.same _) (.cons (.same _) (Dzg.keep (Dzg.keep (.cons (.same _) (.cons (.same _) (.cons (.same _) (.cons (.same _) (.cons (.ref (by simp) d3 (dzs_same _)) (Dzg.same _)))))))))), _, _, _, bs', lot, rfl, fun x d hx => ?_, ?_, ?_, ?_⟩
            · have hx2 : x ≠ pl := fun z => by subst z; rw [hMl] at hx; cases hx
              rw [mdel_ne hx2]; exact sb3 x d hx
            · rw [mdel_ne nlf]; exact d1
            · rw [mdel_ne nlt]; exact d2
            · rcases hst with ⟨a1, a2, a3, _⟩ | ⟨a1, a2⟩
              · exact .inl ⟨a1, a2, a3⟩
              · exact .inr ⟨a1, a2⟩
      obtain ⟨x2, x3, x9, bs', lot, rfl, sb4, f1, f2, hst⟩ := hJ
      walk_at "goS"
      rcases hst with ⟨e0, rfl, rfl⟩ | ⟨e0, sr⟩
      · walk_at "goS"
        exact hn _ _ ⟨_, _, _, _, _, bs', found, count, rfl, sb4, f1, f2, by rw [hdone]; exact ko.same r0 r1 e0⟩
      have hlot := sr.isLot g op on oall hord ko
      have htest := sr.test hlot
      have hl0 : lot[0]? = some r := by
        rcases sr.hd with ⟨_, z⟩ | z
        · cases z
        · exact z
      have hlne : lot ≠ [] := fun z => by rw [z] at hl0; simp at hl0
      have el0 : atI (dInts lot) 0 = some (.int r) := by
        rw [atI_nn _ (by decide), List.getElem?_map]
        show Option.map D.int lot[0]? = _
        rw [hl0]
        rfl
      have es := row_at r0 r1
      refine go_ite (fun e => ?_) (fun e => ?_)
      · have e := of_decide_eq_true e
        simp only [List.length_map] at e
        have hcyc : Cyc (succS steps) r := htest.mpr (.inl (by omega))
        walk_at "goS"
        refine go_forI (fun j G' M5 => ∃ (x2 : Option D), G' = [some (dWeb steps), some (dWeb backs), x2, x3, some (.ref pf), some (.ref pt), some (.int count), some (.int r), some (.list (dInts lot)), x9, none] ∧ Sub M M5 ∧ M5 pf = some (.lst (dInts (paint found (lot.take j) count))) ∧ M5 pt = some (.lst (dBls bs'))) ⟨_, rfl, sb4, f1, f2⟩ (fun j d G' M5 nx5 hd5 hI hn5 => ?_) (fun G' M5 hI => ?_)
        · obtain ⟨x2, rfl, sb5, e1, e2⟩ := hI
          rw [List.getElem?_map] at hd5
          obtain ⟨v, hv, rfl⟩ := Option.map_eq_some_iff.mp hd5
          obtain ⟨v0, v1⟩ := sr.rg v (by simp [List.mem_of_getElem? hv])
          have hixv : ixN (dInts (paint found (lot.take j) count)).length v = some v.toNat := ixN_nn v0 (by rw [List.length_map, paint_len, ko.fl]; exact v1)
          walk_at "goS"
          refine hn5 _ _ ⟨_, rfl, sub_mupd sb5 hMf, ?_, by rw [mupd_ne npt]; exact e2⟩
          rw [mupd_same, ← List.map_set, List.take_add_one, hv]
          simp [paint]
        · obtain ⟨x2, rfl, sb5, e1, e2⟩ := hI
          rw [List.length_map, List.take_length] at e1
          walk_at "goS"
          exact hn _ _ ⟨_, _, _, _, _, bs', _, count + 1, rfl, sb5, e1, e2, by rw [hdone]; exact ko.part sr hlot hcyc⟩
      · have e := of_decide_eq_false e
        simp only [List.length_map] at e
        walk_at "goS"
        refine go_ite (fun e2 => ?_) (fun e2 => ?_)
        · walk_at "goS"
          refine go_inI rfl (flat_ints _) ?_
          rw [memD_ints]
          walk_at "goS"
          refine go_ite (fun e3 => ?_) (fun e3 => ?_)
          · have e3 : r ∈ succS steps r := by simpa using e3
            have hcyc : Cyc (succS steps) r := htest.mpr (.inr e3)
            walk_at "goS"
            refine go_forI (fun j G' M5 => ∃ (x2 : Option D), G' = [some (dWeb steps), some (dWeb backs), x2, x3, some (.ref pf), some (.ref pt), some (.int count), some (.int r), some (.list (dInts lot)), x9, none] ∧ Sub M M5 ∧ M5 pf = some (.lst (dInts (paint found (lot.take j) count))) ∧ M5 pt = some (.lst (dBls bs'))) ⟨_, rfl, sb4, f1, f2⟩ (fun j d G' M5 nx5 hd5 hI hn5 => ?_) (fun G' M5 hI => ?_)
            · obtain ⟨x2, rfl, sb5, e1, e2⟩ := hI
              rw [List.getElem?_map] at hd5
              obtain ⟨v, hv, rfl⟩ := Option.map_eq_some_iff.mp hd5
              obtain ⟨v0, v1⟩ := sr.rg v (by simp [List.mem_of_getElem? hv])
              have hixv : ixN (dInts (paint found (lot.take j) count)).length v = some v.toNat := ixN_nn v0 (by rw [List.length_map, paint_len, ko.fl]; exact v1)
              walk_at "goS"
              refine hn5 _ _ ⟨_, rfl, sub_mupd sb5 hMf, ?_, by rw [mupd_ne npt]; exact e2⟩
              rw [mupd_same, ← List.map_set, List.take_add_one, hv]
              simp [paint]
            · obtain ⟨x2, rfl, sb5, e1, e2⟩ := hI
              rw [List.length_map, List.take_length] at e1
              walk_at "goS"
              exact hn _ _ ⟨_, _, _, _, _, bs', _, count + 1, rfl, sb5, e1, e2, by rw [hdone]; exact ko.part sr hlot hcyc⟩
          · have e3 : r ∉ succS steps r := by simpa using e3
            walk_at "goS"
            have hnc : ¬ Cyc (succS steps) r := fun z => by
              rcases htest.mp z with h | h
              · omega
              · exact e3 h
            exact hn _ _ ⟨_, _, _, _, _, bs', found, count, rfl, sb4, f1, f2, by rw [hdone]; exact ko.lone sr hlot hnc⟩
        · exfalso
          cases lot with
          | nil => exact hlne rfl
          | cons => simp at e2
    · obtain ⟨x2, x3, x7, x8, x9, bs, found, count, rfl, sb, c1, c2, ko⟩ := hI
      refine hk _ _ ⟨_, _, _, _, _, _, _, found, rfl, sb, c1, ko.halls fun v v0 v1 => ?_⟩
      rw [List.length_reverse, List.length_map, ← List.length_reverse (as := ord), List.take_length, List.reverse_reverse]
      exact (oall v).mpr ⟨v0, v1⟩
  · obtain ⟨x2, x3, x5, x6, x7, x8, x9, found, rfl, sb, c1, ho⟩ := hJ
    walk_at "go"
    refine Fin.list c1 hMf (fun x d e => ?_) (q found ho)
    have hx : x ≠ pf := fun z => by subst z; rw [hMf] at e; cases e
    rw [mdel_ne hx]
    exact sb x d e
end
end L29

set_option Elab.async false
set_option linter.all false
set_option maxRecDepth 100000
set_option maxHeartbeats 4000000
/-! plain mathematics: two walks over pairs -/
namespace P29
abbrev Pr := Int × Int
abbrev Room := Int × List Int
/-- the steps of two rooms by one letter -/
def At (rs : List Room) (k : Int) (x : Nat) (t : Int) : Prop := 0 ≤ k ∧ ∃ r, rs[k.toNat]? = some r ∧ r.2[x]? = some t
inductive Reach (rs ss : List Room) (p : Pr) : Pr → Prop
  | refl : Reach rs ss p p
  | step {q : Pr} {x : Nat} {t s : Int} : Reach rs ss p q → At rs q.1 x t → At ss q.2 x s → 0 ≤ t → 0 ≤ s → Reach rs ss p (t, s)
def Bad (rs ss : List Room) (q : Pr) : Prop := ∃ x t s, At rs q.1 x t ∧ At ss q.2 x s ∧ 0 ≤ t ∧ s < 0
/-- each word that can be stepped from p can be stepped from q -/
def Cov (rs ss : List Room) (p : Pr) : Prop := ∀ q, Reach rs ss p q → ¬ Bad rs ss q
theorem cov_closed {rs ss : List Room} {p : Pr} (S : Pr → Prop) (h0 : S p) (hs : ∀ q x t s, S q → At rs q.1 x t → At ss q.2 x s → 0 ≤ t → 0 ≤ s → S (t, s)) (hb : ∀ q, S q → ¬ Bad rs ss q) : Cov rs ss p := by
  intro q hq
  have : S q := by
    induction hq with
    | refl => exact h0
    | step _ a b c d ih => exact hs _ _ _ _ ih a b c d
  exact hb q this
theorem nodup_le : ∀ (n : Nat) (l : List Nat), l.Nodup → (∀ x ∈ l, x < n) → l.length ≤ n
  | 0, l, _, h => by
    cases l with
    | nil => simp
    | cons a r => exact absurd (h a (by simp)) (by omega)
  | n + 1, l, hn, h => by
    have h1 : (l.filter fun x => decide (x ≠ n)).length ≤ n := nodup_le n _ (hn.filter _) fun x hx => by
      simp at hx
      have := h x hx.1
      omega
    have h2 : l.length ≤ (l.filter fun x => decide (x ≠ n)).length + 1 := by
      clear h1 h
      induction l with
      | nil => simp
      | cons a r ih =>
        have hr := (List.nodup_cons.mp hn).2
        by_cases q : a = n
        · subst q
          have e : r.filter (fun x => decide (x ≠ a)) = r := List.filter_eq_self.mpr fun x hx => by
            simp
            intro z
            subst z
            exact (List.nodup_cons.mp hn).1 hx
          rw [List.filter_cons_of_neg (by simp), e]
          simp
        · rw [List.filter_cons_of_pos (by simp [q]), List.length_cons, List.length_cons]
          have := ih hr
          omega
    omega
theorem pairs_le {n m : Nat} {l : List Pr} (hn : l.Nodup) (h : ∀ q ∈ l, (0 ≤ q.1 ∧ q.1 < n) ∧ 0 ≤ q.2 ∧ q.2 < m) : l.length ≤ n * m := by
  have h1 : (l.map fun q => q.1.toNat * m + q.2.toNat).Nodup := by
    unfold List.Nodup at *
    rw [List.pairwise_map]
    refine hn.imp_of_mem fun {a b} ha hb hne e => hne ?_
    have qa := h a ha
    have qb := h b hb
    have e2 : a.2.toNat = b.2.toNat := by
      have := congrArg (· % m) e
      simp only [Nat.mul_add_mod_self_right] at this
      rw [Nat.mod_eq_of_lt (by omega), Nat.mod_eq_of_lt (by omega)] at this
      exact this
    have e1 : a.1.toNat * m = b.1.toNat * m := by omega
    have e3 : a.1.toNat = b.1.toNat := Nat.eq_of_mul_eq_mul_right (by omega) e1
    exact Prod.ext (by omega) (by omega)
  have h2 := nodup_le (n * m) _ h1 (fun x hx => by
    obtain ⟨q, hq, rfl⟩ := List.mem_map.mp hx
    have hq := h q hq
    have : (q.1.toNat + 1) * m ≤ n * m := Nat.mul_le_mul_right m (by omega)
    rw [Nat.add_mul, Nat.one_mul] at this
    omega)
  rw [List.length_map] at h2
  exact h2
end P29

namespace L29
open PySem PySem.Spec PyProof.Rows L2 DL
open P29 (Room Pr Cov Reach Bad At)
/-! ### seen pairs -/
def pk (q : Pr) : List Key := [.inl q.1, .inl q.2]
def seenD (F : List Pr) : List (List Key × D) := F.map fun q => (pk q, .bl true)
theorem pk_eq {p q : Pr} : (pk p = pk q) ↔ p = q := by
  obtain ⟨a, b⟩ := p
  obtain ⟨c, d⟩ := q
  simp [pk]
theorem valD_seen (q : Pr) : ∀ F : List Pr, (valD (seenD F) (pk q)).isSome = decide (q ∈ F)
  | [] => by simp [seenD, valD]
  | p :: F => by
    have ih := valD_seen q F
    unfold seenD valD at *
    rw [List.map_cons, List.find?_cons]
    by_cases h : p = q
    · subst h; simp
    · have h2 : ¬ pk p = pk q := fun e => h (pk_eq.mp e)
      simp only [h2, decide_false]
      rw [ih]
      simp [Ne.symm h]
theorem putD_seen {q : Pr} {F : List Pr} (h : q ∉ F) : putD (seenD F) (pk q) (.bl true) = seenD (F ++ [q]) := by
  unfold putD
  rw [if_neg]
  · simp [seenD]
  · intro e
    obtain ⟨kv, h1, h2⟩ := List.any_eq_true.mp e
    obtain ⟨p, hp, rfl⟩ := List.mem_map.mp h1
    have := pk_eq.mp (of_decide_eq_true h2)
    subst this
    exact h hp
abbrev dPair (q : Pr) : D := .tup [.int q.1, .int q.2]
abbrev dPairs (F : List Pr) : List D := F.map dPair
/-- rooms whose steps stay within -/
structure Wf (many : Int) (rs : List Room) : Prop where
  len : ∀ r ∈ rs, (r.2.length : Int) = many
  tgt : ∀ r ∈ rs, ∀ t ∈ r.2, t < rs.length
open Classical in
/-- each word from p can be stepped from q, their classes are one -/
noncomputable def covB (rs ss : List Room) (p : Pr) : Bool := decide (∃ r s, rs[p.1.toNat]? = some r ∧ ss[p.2.toNat]? = some s ∧ r.1 = s.1 ∧ Cov rs ss p)
structure Two (many : Int) (rs ss : List Room) (p q : Int) : Prop where
  wr : Wf many rs
  ws : Wf many ss
  lr : rs.length ≤ 30
  ls : ss.length ≤ 30
  m : many ≤ 1000
  p0 : 0 ≤ p
  p1 : p < rs.length
  q0 : 0 ≤ q
  q1 : q < ss.length
structure Bfs (rs ss : List Room) (p : Pr) (F : List Pr) : Prop where
  nd : F.Nodup
  rc : ∀ e ∈ F, Reach rs ss p e
  rg : ∀ e ∈ F, (0 ≤ e.1 ∧ e.1 < rs.length) ∧ 0 ≤ e.2 ∧ e.2 < ss.length
  st : p ∈ F
def Done (rs ss : List Room) (F : List Pr) (e : Pr) (j : Nat) : Prop := ∀ (x : Nat) t s, x < j → At rs e.1 x t → At ss e.2 x s → 0 ≤ t → 0 ≤ s ∧ (t, s) ∈ F
theorem Done.mono {rs ss : List Room} {F F' : List Pr} {e : Pr} {j : Nat} (h : Done rs ss F e j) (hf : ∀ q ∈ F, q ∈ F') : Done rs ss F' e j := fun x t s hx a b c => ⟨(h x t s hx a b c).1, hf _ (h x t s hx a b c).2⟩
theorem at_iff {rs : List Room} {k : Int} {r : Room} (h0 : 0 ≤ k) (h : rs[k.toNat]? = some r) {x : Nat} {t : Int} : At rs k x t ↔ r.2[x]? = some t := by
  constructor
  · rintro ⟨_, r', h1, h2⟩
    rw [h] at h1
    cases h1
    exact h2
  · exact fun e => ⟨h0, r, h, e⟩
theorem Bfs.le {rs ss : List Room} {p : Pr} {F : List Pr} (h : Bfs rs ss p F) : F.length ≤ rs.length * ss.length := P29.pairs_le h.nd h.rg
theorem Bfs.snoc {rs ss : List Room} {p : Pr} {F : List Pr} (h : Bfs rs ss p F) {q : Pr} (hq : q ∉ F) (hr : Reach rs ss p q) (hg : (0 ≤ q.1 ∧ q.1 < rs.length) ∧ 0 ≤ q.2 ∧ q.2 < ss.length) : Bfs rs ss p (F ++ [q]) where
  nd := List.nodup_append.mpr ⟨h.nd, by simp, fun x hx y hy => by
    rcases List.mem_singleton.mp hy with rfl
    intro e
    subst e
    exact hq hx⟩
  rc := fun e he => by
    rcases List.mem_append.mp he with he | he
    · exact h.rc e he
    · rcases List.mem_singleton.mp he with rfl
      exact hr
  rg := fun e he => by
    rcases List.mem_append.mp he with he | he
    · exact h.rg e he
    · rcases List.mem_singleton.mp he with rfl
      exact hg
  st := List.mem_append_left _ h.st
open Classical in
theorem covB_true {rs ss : List Room} {p : Pr} {r s : Room} (hr : rs[p.1.toNat]? = some r) (hs : ss[p.2.toNat]? = some s) (e : r.1 = s.1) (h : Cov rs ss p) : covB rs ss p = true := by
  unfold covB
  exact decide_eq_true ⟨r, s, hr, hs, e, h⟩
open Classical in
theorem covB_false {rs ss : List Room} {p : Pr} {r s : Room} (hr : rs[p.1.toNat]? = some r) (hs : ss[p.2.toNat]? = some s) (h : r.1 = s.1 → ¬ Cov rs ss p) : covB rs ss p = false := by
  unfold covB
  refine decide_eq_false ?_
  rintro ⟨r', s', h1, h2, h3, h4⟩
  rw [hr] at h1
  rw [hs] at h2
  cases h1
  cases h2
  exact h h3 h4
theorem Wf.at {many : Int} {rs : List Room} (h : Wf many rs) {k : Int} {x : Nat} {t : Int} (a : At rs k x t) : t < rs.length := by
  obtain ⟨_, r, h1, h2⟩ := a
  exact h.tgt r (List.mem_of_getElem? h1) t (List.mem_of_getElem? h2)
theorem pair_at {F : List Pr} {i : Int} (h0 : 0 ≤ i) (h1 : i < F.length) : ∃ e : Pr, F[i.toNat]? = some e ∧ e ∈ F ∧ atI (dPairs F) i = some (dPair e) := by
  have h : F[i.toNat]? = some (F[i.toNat]'(by omega)) := List.getElem?_eq_getElem (by omega)
  refine ⟨_, h, List.getElem_mem _, ?_⟩
  rw [atI_nn _ h0, List.getElem?_map, h]
  rfl
end L29

set_option Elab.async false
set_option linter.all false
set_option maxRecDepth 100000
set_option maxHeartbeats 4000000
namespace L29
open PySem PySem.Spec PyProof.Rows L2 DL
open P29 (Room Pr Cov Reach Bad At)
def sp__law_covered : aSp := fun ds M Q => ∃ many rs ss p q, ds = [.list (dRooms rs), .int p, .list (dRooms ss), .int q] ∧ Two many rs ss p q ∧ Q (.bl (covB rs ss (p, q))) M
section
variable {P : Program} {w : World} {K : PySem.W.Frag} {mg : Str → Option Value} {base : Heap} {a : Ad}
theorem ok__law_covered (T : TX K mg a) : FnOk P w K mg base CX0 1 a.f__law_covered a.fd__law_covered ["ours", "p", "yours", "q"] (lift K 4 sp__law_covered) := by
  refine okD (k := 0) T.fn__law_covered sc__law_covered rfl fun cdv A outer s H E hr => ⟨_, _, (dss_cons (ds_if (dt_cmp (op_neD hr.units) s2_ne (de_ix (hu_of hr) (de_ix (hu_of hr) (dv 0) (dv 1) (fun _ _ => rfl)) de_int (fun _ _ => rfl)) (de_ix (hu_of hr) (de_ix (hu_of hr) (dv 2) (dv 3) (fun _ _ => rfl)) de_int (fun _ _ => rfl)) (nomark _)) (dss_one (ds_ret de_bl)) dss_nil)
      (dss_cons (ds_par (i := 4) (j := 5) sc__law_covered.nd rfl rfl (da_cons (de_dispT (hu_of hr) (dps_cons (de_tup (da_cons (dv 1) (da_cons (dv 3) da_nil))) de_bl dps_nil)) (da_cons (de_lstM (da_cons (de_tup (da_cons (dv 1) (da_cons (dv 3) da_nil))) da_nil)) da_nil)))
      (dss_cons (ds_while (dt_tru (dv 5)) (dss_cons (ds_asg (de_bm0 PySem.F.plainAttrs_list PySem.F.slot_list_pop PySem.F.type_list_pop mt_pop sm_pop (.inl rfl) (dv 5)) (dg_tup (dgs_cons (dg_name (j := 6) sc__law_covered.nd rfl (by first | exact .inl rfl | exact .inr rfl)) (dgs_cons (dg_name (j := 7) sc__law_covered.nd rfl (by first | exact .inl rfl | exact .inr rfl)) dgs_nil))))
      (dss_one (ds_for (di_range1 (by rfl) T.b_range (da_cons (de_callB call_lenA sl_len (by rfl) T.b_len (by decide +kernel) (da_cons (de_ix (hu_of hr) (de_ix (hu_of hr) (dv 0) (dv 6) (fun _ _ => rfl)) de_int (fun _ _ => rfl)) da_nil)) da_nil)) (dg_name (j := 8) sc__law_covered.nd rfl (by first | exact .inl rfl | exact .inr rfl)) (dss_cons (ds_set (j := 9) sc__law_covered.nd rfl (by first | exact .inl rfl | exact .inr rfl) (de_tup (da_cons (de_ix (hu_of hr) (de_ix (hu_of hr) (de_ix (hu_of hr) (dv 0) (dv 6) (fun _ _ => rfl)) de_int (fun _ _ => rfl)) (dv 8) (fun _ _ => rfl)) (da_cons (de_ix (hu_of hr) (de_ix (hu_of hr) (de_ix (hu_of hr) (dv 2) (dv 7) (fun _ _ => rfl)) de_int (fun _ _ => rfl)) (dv 8) (fun _ _ => rfl)) da_nil))))
      (dss_cons (ds_if (DW.dt (dw_and (dt_cmp op_ge s2_ge (de_ix (hu_of hr) (dv 9) de_int (fun _ _ => rfl)) de_int (nomark _)) (dw_and1 (dt_cmp op_lt s2_lt (de_ix (hu_of hr) (dv 9) de_int (fun _ _ => rfl)) de_int (nomark _))))) (dss_one (ds_ret de_bl)) dss_nil)
      (dss_one (ds_if (DW.dt (dw_and (dt_cmp op_ge s2_ge (de_ix (hu_of hr) (dv 9) de_int (fun _ _ => rfl)) de_int (nomark _)) (dw_and1 (dt_cmp (op_notInA (hu_of hr)) s2_in (dv 9) (dv 4) (by rfl))))) (dss_cons (ds_dput (hu_of hr) (dv 4) (dv 9) de_bl)
      (dss_one (ds_expr (de_bm PySem.F.plainAttrs_list PySem.F.slot_list_append PySem.F.type_list_append mt_append sm_append (.inl rfl) (dv 5) (da_cons (dv 9) da_nil))))) dss_nil)))) PassesOwn.never))) PassesOwn.never)
      (dss_one (ds_ret de_bl))))), fun ds M Q hl h => ?_⟩
  obtain ⟨many, rs, ss, p, q, rfl, two, k⟩ := h
  walk_at "start"
  obtain ⟨r0, hr0, hm0, er0⟩ := room_at two.p0 two.p1
  obtain ⟨s0, hs0, hn0, es0⟩ := room_at two.q0 two.q1
  walk_at "goS"
  refine go_ite (fun e => ?_) (fun e => ?_)
  · walk_at "goS"
    rw [covB_false hr0 hs0 (fun z => by rw [z] at e; simp at e)] at k
    exact Fin.of k
  have e0 : r0.1 = s0.1 := by simpa using e
  walk_at "goS"
  intro ps hps
  walk_at "goS"
  intro pl hpl
  have hfs : ps ≠ pl := mne mupd_same hpl
  have hMl : M pl = none := by rw [← hpl, mupd_ne (Ne.symm hfs)]
  walk_at "go"
  refine go_seqK (J := fun G' M' => ∃ (x0 x1 x2 x3 : Option D), G' = [some (.list (dRooms rs)), some (.int p), some (.list (dRooms ss)), some (.int q), some (.ref ps), some (.ref pl), x0, x1, x2, x3] ∧ Cov rs ss (p, q) ∧ Sub M M') (fun nx hk => ?_) (fun G' M' hJ => ?_)
  · have hmul : rs.length * ss.length ≤ 30 * 30 := Nat.mul_le_mul two.lr two.ls
    refine go_whileI (W := fun m G' M' => ∃ (F L : List Pr) (x0 x1 x2 x3 : Option D), G' = [some (.list (dRooms rs)), some (.int p), some (.list (dRooms ss)), some (.int q), some (.ref ps), some (.ref pl), x0, x1, x2, x3] ∧
      Bfs rs ss (p, q) F ∧ (∀ e ∈ L, e ∈ F) ∧ (∀ e ∈ F, e ∈ L ∨ ∀ j, Done rs ss F e j) ∧ M' ps = some (.dT (seenD F)) ∧ M' pl = some (.lst (dPairs L)) ∧ Sub M M' ∧ L.length ≤ F.length ∧ m + 2 * F.length = 2 * (rs.length * ss.length) + L.length) (2 * (rs.length * ss.length) - 1) ?_ (fun m G' M' nx' hW hn => ?_)
    · have bf : Bfs rs ss (p, q) [(p, q)] := by
        refine ⟨by simp, ?_, ?_, by simp⟩
        · intro e he
          rcases List.mem_singleton.mp he with rfl
          exact .refl
        · intro e he
          rcases List.mem_singleton.mp he with rfl
          exact ⟨⟨two.p0, two.p1⟩, two.q0, two.q1⟩
      have le := bf.le
      simp only [List.length_singleton] at le
      refine ⟨[(p, q)], [(p, q)], _, _, _, _, rfl, bf, fun _ h => h, fun e h => .inl h, ?_, mupd_same, ?_, Nat.le_refl _, by simp only [List.length_singleton]; omega⟩
      · rw [mupd_ne hfs, mupd_same]
        rfl
      · exact sub_mupd (sub_mupd (fun _ _ h => h) hps) hMl
    · obtain ⟨F, L, x0, x1, x2, x3, rfl, bf, sl, dn, c2, c1, sb, hlf, hm⟩ := hW
      walk_at "goS"
      refine go_ite (fun e => ?_) (fun e => ?_)
      · obtain ⟨L, t, rfl⟩ : ∃ L' t, L = L' ++ [t] := by
          have hL : L ≠ [] := fun z => by subst z; simp at e
          exact ⟨L.dropLast, L.getLast hL, (List.dropLast_concat_getLast hL).symm⟩
        have htm : t ∈ F := sl t (by simp)
        obtain ⟨⟨t0, t1⟩, t2, t3⟩ := bf.rg t htm
        obtain ⟨r, hr, hrm, er⟩ := room_at t0 t1
        obtain ⟨s, hs, hsm, es⟩ := room_at t2 t3
        simp only [List.length_append, List.length_singleton] at hm hlf
        have le0 := bf.le
        have epop : (dPairs (L ++ [t]))[(dPairs (L ++ [t])).length - 1]? = some (dPair t) := by simp [dPairs]
        have two_m := two.m
        have hrl := two.wr.len r hrm
        have hsl := two.ws.len s hsm
        walk_at "goS"
        rw [show (dPairs (L ++ [t])).dropLast = dPairs L by simp [dPairs]]
        refine go_forI (fun j G' M' => ∃ (F' : List Pr) (x2 x3 : Option D), G' = [some (.list (dRooms rs)), some (.int p), some (.list (dRooms ss)), some (.int q), some (.ref ps), some (.ref pl), some (.int t.1), some (.int t.2), x2, x3] ∧
          Bfs rs ss (p, q) (F ++ F') ∧ Done rs ss (F ++ F') t j ∧ M' pl = some (.lst (dPairs (L ++ F'))) ∧ M' ps = some (.dT (seenD (F ++ F'))) ∧ Sub M M') ⟨[], _, _, rfl, by rw [List.append_nil]; exact bf, fun _ _ _ h => absurd h (Nat.not_lt_zero _), by rw [List.append_nil]; exact mupd_same, by rw [List.append_nil, mupd_ne hfs]; exact c2, sub_mupd sb hMl⟩ (fun j d G' M' nx2 hd hI hn2 => ?_) (fun G' M' hI => ?_)
        · obtain ⟨F', x2, x3, rfl, bf', dn', c1, c2, sb⟩ := hI
          obtain ⟨hlt, rfl⟩ := rng_get hd
          simp only [List.length_map] at hlt
          obtain ⟨y, hy, _, ey⟩ := int_at (cs := r.2) (i := 0 + (j : Int)) (by omega) (by omega)
          obtain ⟨z, hz, _, ez⟩ := int_at (cs := s.2) (i := 0 + (j : Int)) (by omega) (by omega)
          have hj0 : (0 + (j : Int)).toNat = j := by omega
          rw [hj0] at hy hz
          have ay : At rs t.1 j y := (at_iff t0 hr).mpr hy
          have az : At ss t.2 j z := (at_iff t2 hs).mpr hz
          walk_at "goS"
          refine go_ite (fun e1 => ?_) (fun e1 => ?_)
          · have e1' := of_decide_eq_true e1
            walk_at "goS"
            refine go_ite (fun e2 => ?_) (fun e2 => ?_)
            · have e2 := of_decide_eq_true e2
              walk_at "goS"
              rw [covB_false hr0 hs0 (fun _ hc => hc t (bf.rc t htm) ⟨j, y, z, ay, az, e1', e2⟩)] at k
              exact DL.Fin.sub sb k
            · have e2 := of_decide_eq_false e2
              have hg : (0 ≤ (y, z).1 ∧ (y, z).1 < rs.length) ∧ 0 ≤ (y, z).2 ∧ (y, z).2 < (ss.length : Int) := ⟨⟨e1', two.wr.at ay⟩, by show 0 ≤ z; omega, two.ws.at az⟩
              have step : ∀ (F2 : List Pr), (∀ e ∈ F ++ F', e ∈ F2) → (y, z) ∈ F2 → Done rs ss F2 t (j + 1) := fun F2 h1 h2 x t' s' hx a b c0 => by
                by_cases hj : x < j
                · exact (dn'.mono h1) x t' s' hj a b c0
                · have : x = j := by omega
                  subst this
                  have q1 := (at_iff t0 hr).mp a
                  have q2 := (at_iff t2 hs).mp b
                  rw [hy] at q1
                  rw [hz] at q2
                  cases q1
                  cases q2
                  exact ⟨hg.2.1, h2⟩
              walk_at "goS"
              refine go_iteT e1 ?_
              walk_at "goS"
              refine go_inD (itemsM_dT c2) (getDk_dT (kk := pk (y, z)) c2 rfl) ?_
              rw [valD_seen]
              walk_at "goS"
              refine go_ite (fun e3 => ?_) (fun e3 => ?_)
              · have e3 : (y, z) ∉ F ++ F' := by simpa using e3
                have bf2 := bf'.snoc e3 (.step (bf.rc t htm) ay az e1' hg.2.1) hg
                have le2 := bf2.le
                rw [List.length_append] at le2
                simp only [List.length_append, List.length_singleton] at le2
                have le3 : L.length ≤ 2000 := by omega
                walk_at "goS"
                refine go_kdputT (kk := pk (y, z)) c2 (by simp only [seenD, List.length_map, List.length_append]; omega) rfl ?_
                rw [putD_seen e3]
                walk_at "goS"
                exact hn2 _ _ ⟨F' ++ [(y, z)], _, _, rfl, by rw [← List.append_assoc]; exact bf2, by rw [← List.append_assoc]; exact step _ (fun _ h => List.mem_append_left _ h) (by simp), by rw [mupd_same]; simp [dPairs], by rw [mupd_ne hfs, mupd_same, List.append_assoc], sub_mupd (sub_mupd sb hps) hMl⟩
              · have e3 : (y, z) ∈ F ++ F' := by
                  cases h : decide ((y, z) ∈ F ++ F') with
                  | true => exact of_decide_eq_true h
                  | false => rw [h] at e3; simp at e3
                walk_at "goS"
                exact hn2 _ _ ⟨F', _, _, rfl, bf', step _ (fun _ h => h) e3, c1, c2, sb⟩
          · have e1' := of_decide_eq_false e1
            walk_at "goS"
            refine go_iteF e1 ?_
            walk_at "goS"
            refine hn2 _ _ ⟨F', _, _, rfl, bf', fun x t' s' hx a b c0 => ?_, c1, c2, sb⟩
            by_cases hj : x < j
            · exact dn' x t' s' hj a b c0
            · have : x = j := by omega
              subst this
              have q1 := (at_iff t0 hr).mp a
              rw [hy] at q1
              cases q1
              omega
        · obtain ⟨F', x2, x3, rfl, bf', dn', c1, c2, sb⟩ := hI
          have le1 := bf'.le
          rw [List.length_append] at le1
          refine hn (m - 1 - F'.length) _ _ (by omega) ⟨F ++ F', L ++ F', _, _, _, _, rfl, bf', fun e he => ?_, fun e he => ?_, c2, c1, sb, by simp only [List.length_append]; omega, by simp only [List.length_append]; omega⟩
          · rcases List.mem_append.mp he with he | he
            · exact List.mem_append_left _ (sl e (List.mem_append_left _ he))
            · exact List.mem_append_right _ he
          · rcases List.mem_append.mp he with he | he
            · rcases dn e he with h | h
              · rcases List.mem_append.mp h with h | h
                · exact .inl (List.mem_append_left _ h)
                · rcases List.mem_singleton.mp h with rfl
                  refine .inr fun j x t' s' hx a b c0 => ?_
                  have q1 := (at_iff t0 hr).mp a
                  have := (List.getElem?_eq_some_iff.mp q1).1
                  exact dn' x t' s' (by rw [length_rng, List.length_map]; omega) a b c0
              · exact .inr fun j => (h j).mono (fun _ h => List.mem_append_left _ h)
            · exact .inl (List.mem_append_right _ he)
      · have e : L = [] := by
          cases L with
          | nil => rfl
          | cons => simp at e
        subst e
        have dn' : ∀ e ∈ F, ∀ j, Done rs ss F e j := fun e he => (dn e he).resolve_left (by simp)
        refine hk _ _ ⟨_, _, _, _, rfl, P29.cov_closed (· ∈ F) bf.st (fun t x y z ht a b y0 z0 => ?_) (fun t ht hb => ?_), sb⟩
        · exact (dn' t ht (x + 1) x y z (by omega) a b y0).2
        · obtain ⟨x, y, z, a, b, y0, z0⟩ := hb
          have := (dn' t ht (x + 1) x y z (by omega) a b y0).1
          omega
  · obtain ⟨x0, x1, x2, x3, rfl, hc, sb⟩ := hJ
    walk_at "goS"
    rw [covB_true hr0 hs0 e0 hc] at k
    exact DL.Fin.sub sb k
end
end L29

set_option Elab.async false
set_option linter.all false
set_option maxRecDepth 100000
set_option maxHeartbeats 4000000
namespace L29
open PySem PySem.Spec PyProof.Rows L2 DL
structure RgSt (steps : List (List Int)) : Prop where
  rg : ∀ r ∈ steps, ∀ t ∈ r, 0 ≤ t ∧ t < (steps.length : Int)
  le : steps.length ≤ 200
theorem GoodSt.rgs {steps : List (List Int)} (g : GoodSt steps) : RgSt steps := ⟨g.rg, g.le⟩
theorem RgSt.succ {steps : List (List Int)} (g : RgSt steps) {u t : Int} (h : t ∈ succS steps u) : 0 ≤ t ∧ t < (steps.length : Int) := by
  unfold succS at h
  rw [List.getD_eq_getElem?_getD] at h
  by_cases q : u.toNat < steps.length
  · rw [List.getElem?_eq_getElem q] at h
    exact g.rg _ (List.getElem_mem q) t h
  · rw [List.getElem?_eq_none (by omega)] at h
    simp at h
theorem merge_one {k : Type} [DecidableEq k] {x : k} {d : D} : mergeD [] [(x, d)] = [(x, d)] := by
  simp [mergeD, putD]
/-- the first walk, as it is made -/
def fwAdd (F : List Int) (y : Int) : List Int := if y ∈ F then F else F ++ [y]
def fwRun (steps : List (List Int)) : Nat → List Int → Nat → List Int
  | 0, F, _ => F
  | m + 1, F, i => match F[i]? with
    | none => F
    | some k => fwRun steps m ((succS steps k).foldl fwAdd F) (i + 1)
def fwF (steps : List (List Int)) (u : Int) : List Int := fwRun steps (steps.length + 1) [u] 0
theorem fwRun_end {steps : List (List Int)} {m i : Nat} {F : List Int} (h : F.length ≤ i) : fwRun steps m F i = F := by
  cases m with
  | zero => rfl
  | succ m => rw [fwRun, List.getElem?_eq_none h]
def sp_first_walk : aSp := fun ds M Q => ∃ steps u, ds = [dWeb steps, .int u] ∧ RgSt steps ∧ 0 ≤ u ∧ u < (steps.length : Int) ∧ ∀ F : List Int, F = fwF steps u → F.Nodup → (∀ v, v ∈ F ↔ Rch (succS steps) u v) → Q (.list (dInts F)) M
/-- what was come to so far -/
structure Fw (steps : List (List Int)) (u : Int) (F : List Int) : Prop where
  nd : F.Nodup
  rc : ∀ v ∈ F, Rch (succS steps) u v
  st : u ∈ F
theorem Fw.rg {steps : List (List Int)} {u : Int} {F : List Int} (h : Fw steps u F) (g : RgSt steps) (u0 : 0 ≤ u) (u1 : u < (steps.length : Int)) : ∀ v ∈ F, 0 ≤ v ∧ v < (steps.length : Int) := fun v hv =>
  (h.rc v hv).stay (P := fun v => 0 ≤ v ∧ v < (steps.length : Int)) ⟨u0, u1⟩ fun k y _ hy => g.succ hy
theorem Fw.snoc {steps : List (List Int)} {u k y : Int} {F : List Int} (h : Fw steps u F) (hk : k ∈ F) (hy : y ∈ succS steps k) (hn : y ∉ F) : Fw steps u (F ++ [y]) where
  nd := List.nodup_append.mpr ⟨h.nd, by simp, fun a ha b hb e => by
    rcases List.mem_singleton.mp hb with rfl
    subst e
    exact hn ha⟩
  rc := fun v hv => by
    rcases List.mem_append.mp hv with hv | hv
    · exact h.rc v hv
    · rcases List.mem_singleton.mp hv with rfl
      exact (h.rc k hk).snoc hy
  st := List.mem_append_left _ h.st
section
variable {P : Program} {w : World} {K : PySem.W.Frag} {mg : Str → Option Value} {base : Heap} {a : Ad}
theorem ok_first_walk (T : TX K mg a) : FnOk P w K mg base CX0 1 a.f_first_walk a.fd_first_walk ["after", "start"] (lift K 2 sp_first_walk) := by
  refine okD (k := 0) T.fn_first_walk sc_first_walk rfl fun cdv A outer s H E hr => ⟨_, _, (dss_cons (ds_set (j := 2) sc_first_walk.nd rfl (by first | exact .inl rfl | exact .inr rfl) (de_lstM (da_cons (dv 1) da_nil)))
      (dss_cons (ds_set (j := 3) sc_first_walk.nd rfl (by first | exact .inl rfl | exact .inr rfl) (de_dispK (dps_cons (dv 1) de_bl dps_nil)))
      (dss_cons (ds_set (j := 4) sc_first_walk.nd rfl (by first | exact .inl rfl | exact .inr rfl) de_int)
      (dss_cons (ds_while (dt_cmp op_lt s2_lt (dv 4) (de_callB call_lenA sl_len (by rfl) T.b_len (by decide +kernel) (da_cons (dv 2) da_nil)) (nomark _)) (dss_cons (ds_for (di_seq (de_ix (hu_of hr) (dv 0) (de_ix (hu_of hr) (dv 2) (dv 4) (fun _ _ => rfl)) (fun _ _ => rfl))) (dg_name (j := 5) sc_first_walk.nd rfl (by first | exact .inl rfl | exact .inr rfl)) (dss_one (ds_if (DW.dt (dw_and (dt_cmp op_ge s2_ge (dv 5) de_int (nomark _)) (dw_and1 (dt_cmp (op_notInA (hu_of hr)) s2_in (dv 5) (dv 3) (by rfl))))) (dss_cons (ds_dput (hu_of hr) (dv 3) (dv 5) de_bl)
      (dss_one (ds_expr (de_bm PySem.F.plainAttrs_list PySem.F.slot_list_append PySem.F.type_list_append mt_append sm_append (.inl rfl) (dv 2) (da_cons (dv 5) da_nil))))) dss_nil)) PassesOwn.never)
      (dss_one (ds_aug iop_add (s2_I0 fun _ _ _ => .int _) (j := 4) sc_first_walk.nd rfl (by first | exact .inl rfl | exact .inr rfl) de_int))) PassesOwn.never)
      (dss_one (ds_ret (dv 2))))))), fun ds M Q hl h => ?_⟩
  obtain ⟨steps, u, rfl, g, u0, u1, q⟩ := h
  have gl := g.le
  walk_at "start"
  walk_at "goS"
  intro pf hpf
  walk_at "goS"
  intro ps hps
  rw [merge_one]
  have nsf : ps ≠ pf := fun z => by subst z; rw [mupd_same] at hps; cases hps
  have hMs : M ps = none := by rw [mupd_ne nsf] at hps; exact hps
  walk_at "go"
  refine go_seqK (J := fun G' M' => ∃ (x4 x5 : Option D) (F : List Int), G' = [some (dWeb steps), some (.int u), some (.ref pf), some (.ref ps), x4, x5] ∧ Sub M M' ∧ M' pf = some (.lst (dInts F)) ∧ Fw steps u F ∧ F = fwF steps u ∧ ∀ k ∈ F, ∀ y ∈ succS steps k, y ∈ F) (fun nx hk => ?_) (fun G' M' hJ => ?_)
  · refine go_whileI (W := fun m G' M' => ∃ (x5 : Option D) (F : List Int) (i : Nat), G' = [some (dWeb steps), some (.int u), some (.ref pf), some (.ref ps), some (.int (i : Int)), x5] ∧ Sub M M' ∧ M' pf = some (.lst (dInts F)) ∧ M' ps = some (.dK (dSeen (F.map Sum.inl))) ∧
      Fw steps u F ∧ i ≤ F.length ∧ (∀ k ∈ F.take i, ∀ y ∈ succS steps k, y ∈ F) ∧ m + i = steps.length + 1 ∧ fwRun steps m F i = fwF steps u) (steps.length + 1) ?_ (fun m G' M' nx' hW hn => ?_)
    · refine ⟨_, [u], 0, rfl, sub_mupd (sub_mupd (fun _ _ h => h) hpf) hMs, by rw [mupd_ne (Ne.symm nsf)]; exact mupd_same, mupd_same, ⟨by simp, fun v hv => ?_, by simp⟩, by simp, by simp, rfl, rfl⟩
      rcases List.mem_singleton.mp hv with rfl
      exact .refl _
    · obtain ⟨x5, F, i, rfl, sb, c1, c2, fw, hi, hcl, hm, hrun⟩ := hW
      have rg := fw.rg g u0 u1
      have hFl : F.length ≤ steps.length := nodup_le fw.nd rg
      walk_at "goS"
      refine go_ite (fun e => ?_) (fun e => ?_)
      · have e := of_decide_eq_true e
        simp only [List.length_map] at e
        obtain ⟨k, hkF, hkm, ek⟩ := int_at (cs := F) (i := (i : Int)) (by omega) e
        obtain ⟨k0, k1⟩ := rg k hkm
        have er := row_at k0 k1
        rw [Int.toNat_natCast] at hkF
        walk_at "goS"
        refine go_forI (fun j G' M' => ∃ (x5 : Option D) (E : List Int), G' = [some (dWeb steps), some (.int u), some (.ref pf), some (.ref ps), some (.int (i : Int)), x5] ∧ Sub M M' ∧ M' pf = some (.lst (dInts (F ++ E))) ∧ M' ps = some (.dK (dSeen ((F ++ E).map Sum.inl))) ∧
          Fw steps u (F ++ E) ∧ F ++ E = ((succS steps k).take j).foldl fwAdd F ∧ ∀ y ∈ (succS steps k).take j, y ∈ F ++ E) ⟨_, [], rfl, sb, by rw [List.append_nil]; exact c1, by rw [List.append_nil]; exact c2, by rw [List.append_nil]; exact fw, by rw [List.append_nil]; rfl, by simp⟩ (fun j d G' M' nx2 hd hI hn2 => ?_) (fun G' M' hI => ?_)
        · obtain ⟨x5, E, rfl, sb, c1, c2, fw2, hfe, hall⟩ := hI
          rw [List.getElem?_map] at hd
          obtain ⟨y, hy, rfl⟩ := Option.map_eq_some_iff.mp hd
          have hym := List.mem_of_getElem? hy
          obtain ⟨y0, y1⟩ := g.succ hym
          have hFl2 : (F ++ E).length ≤ steps.length := nodup_le fw2.nd (fw2.rg g u0 u1)
          have fstep : ((succS steps k).take (j + 1)).foldl fwAdd F = fwAdd (F ++ E) y := by
            rw [List.take_add_one, hy, List.foldl_append, ← hfe]
            rfl
          have tk : ∀ z ∈ (succS steps k).take (j + 1), z ∈ (succS steps k).take j ∨ z = y := fun z hz => by
            rw [List.take_add_one, hy] at hz
            rcases List.mem_append.mp hz with hz | hz
            · exact .inl hz
            · exact .inr (by simpa using hz)
          walk_at "goS"
          refine go_ite (fun e1 => ?_) (fun e1 => ?_)
          · walk_at "goS"
            refine go_inD (itemsM_dK c2) (getDk_dK (kk := .inl y) c2 rfl) ?_
            rw [valD_dSeen]
            walk_at "goS"
            refine go_ite (fun e2 => ?_) (fun e2 => ?_)
            · have hny : y ∉ F ++ E := by
                simpa only [mem_inl, Bool.not_eq_true', decide_eq_false_iff_not, if_true, ↓reduceIte] using e2
              walk_at "goS"
              refine go_kdputK (kk := .inl y) c2 (by simp only [dSeen, List.length_map]; omega) rfl ?_
              rw [putD_new (fun z => hny (mem_inl.mp z))]
              have hlen : (dInts (F ++ E)).length ≤ 1000 := by rw [List.length_map]; omega
              walk_at "goS"
              refine hn2 _ _ ⟨_, E ++ [y], rfl, sub_mupd (sub_mupd sb hMs) hpf, by rw [mupd_same]; simp [dInts], by rw [mupd_ne nsf, mupd_same]; simp, by rw [← List.append_assoc]; exact fw2.snoc (List.mem_append_left _ hkm) hym hny, by rw [fstep, fwAdd, if_neg hny, List.append_assoc], fun z hz => ?_⟩
              rw [← List.append_assoc]
              rcases tk z hz with h | rfl
              · exact List.mem_append_left _ (hall z h)
              · simp
            · have hyF : y ∈ F ++ E := by
                simpa only [mem_inl, Bool.not_eq_true', decide_eq_false_iff_not, if_true, ↓reduceIte, Bool.not_eq_true, Bool.not_eq_false', decide_eq_true_eq] using e2
              refine hn2 _ _ ⟨_, E, rfl, sb, c1, c2, fw2, by rw [fstep, fwAdd, if_pos hyF], fun z hz => ?_⟩
              rcases tk z hz with h | rfl
              · exact hall z h
              · exact hyF
          · have := of_decide_eq_false e1
            omega
        · obtain ⟨x5, E, rfl, sb, c1, c2, fw2, hfe, hall⟩ := hI
          rw [List.length_map, List.take_length] at hall hfe
          walk_at "goS"
          refine hn (m - 1) _ _ (by omega) ⟨_, F ++ E, i + 1, rfl, sb, c1, c2, fw2, by simp; omega, fun z hz y hy => ?_, by omega, ?_⟩
          rotate_left
          · obtain ⟨m', rfl⟩ : ∃ m', m = m' + 1 := ⟨m - 1, by omega⟩
            rw [← hrun, fwRun, hkF, hfe]
            rfl
          have hz2 : z ∈ F.take (i + 1) := by
            rw [List.take_append_of_le_length (by omega)] at hz
            exact hz
          rw [List.take_add_one, hkF] at hz2
          rcases List.mem_append.mp hz2 with h | h
          · exact List.mem_append_left _ (hcl z h y hy)
          · have : z = k := by simpa using h
            subst this
            exact hall y hy
      · have e := of_decide_eq_false e
        simp only [List.length_map] at e
        rw [List.take_of_length_le (by omega)] at hcl
        exact hk _ _ ⟨_, _, F, rfl, sb, c1, fw, by rw [← hrun, fwRun_end (by omega)], hcl⟩
  · obtain ⟨x4, x5, F, rfl, sb, c1, fw, hex, hcl⟩ := hJ
    walk_at "go"
    refine Fin.list c1 hpf (fun x d e => ?_) (q F hex fw.nd (fun v => ⟨fun h => fw.rc v h, fun h => h.stay (P := fun v => v ∈ F) fw.st fun k y hk hy => hcl k hk y hy⟩))
    have hx : x ≠ pf := fun z => by subst z; rw [hpf] at e; cases e
    rw [mdel_ne hx]
    exact sb x d e
end
end L29

set_option Elab.async false
set_option linter.all false
set_option maxRecDepth 100000
set_option maxHeartbeats 4000000
namespace L29
open PySem PySem.Spec PyProof.Rows L2 DL
/-- a chain of a dict that tells whence each thing was found, back to the one of None -/
inductive Back (M : Mp) (c : D) : D → List Int → Nat → Prop
  | root {e : D} : getDk M c e = some (some .non) → Back M c e [] 0
  | step {e e' : D} {l : Int} {ls : List Int} {n : Nat} : getDk M c e = some (some (.tup [e', .int l])) → Back M c e' ls n → Back M c e (l :: ls) (n + 1)
theorem Back.len {M : Mp} {c e : D} {ls : List Int} {n : Nat} (h : Back M c e ls n) : ls.length = n := by
  induction h with
  | root => rfl
  | step _ _ ih => simp [ih]
theorem getDk_oth {M : Mp} {c e : D} {p : Addr} {x : MC} {o : Option D} (hp : M p = none) (h : getDk M c e = some o) : getDk (mupd M p x) c e = some o := by
  cases c <;> first | exact h | skip
  rename_i a
  have ha : a ≠ p := fun z => by
    subst z
    simp only [getDk, hp] at h
    cases h
  simp only [getDk, mupd_ne ha] at h ⊢
  exact h
theorem Back.oth {M : Mp} {c e : D} {ls : List Int} {n : Nat} {p : Addr} {x : MC} (h : Back M c e ls n) (hp : M p = none) : Back (mupd M p x) c e ls n := by
  induction h with
  | root h => exact .root (getDk_oth hp h)
  | step h _ ih => exact .step (getDk_oth hp h) ih
theorem getDk_over {M : Mp} {c e : D} {p : Addr} {x y : MC} {o : Option D} (hp : M p = none) (h : getDk (mupd M p x) c e = some o) (hc : c ≠ .ref p) : getDk (mupd M p y) c e = some o := by
  cases c <;> first | exact h | skip
  rename_i a
  have ha : a ≠ p := fun z => hc (by rw [z])
  simp only [getDk, mupd_ne ha] at h ⊢
  exact h
def sp_way_back : aSp := fun ds M Q => ∃ c e ls n, ds = [c, e] ∧ Back M c e ls n ∧ n ≤ 100000 ∧ Q (.list (dInts ls.reverse)) M
section
variable {P : Program} {w : World} {K : PySem.W.Frag} {mg : Str → Option Value} {base : Heap} {a : Ad}
theorem ok_way_back (T : TX K mg a) : FnOk P w K mg base CX0 1 a.f_way_back a.fd_way_back ["came", "end"] (lift K 2 sp_way_back) := by
  refine okD (k := 0) T.fn_way_back sc_way_back rfl fun cdv A outer s H E hr => ⟨_, _, (dss_cons (ds_set (j := 2) sc_way_back.nd rfl (by first | exact .inl rfl | exact .inr rfl) (de_lstM da_nil))
      (dss_cons (ds_set (j := 3) sc_way_back.nd rfl (by first | exact .inl rfl | exact .inr rfl) (dv 1))
      (dss_cons (ds_while (dt_cmp op_notN s2_isNot (de_ix (hu_of hr) (dv 0) (dv 3) (fun _ _ => rfl)) de_non (nomark _)) (dss_cons (ds_asg (de_ix (hu_of hr) (dv 0) (dv 3) (fun _ _ => rfl)) (dg_tup (dgs_cons (dg_name (j := 3) sc_way_back.nd rfl (by first | exact .inl rfl | exact .inr rfl)) (dgs_cons (dg_name (j := 4) sc_way_back.nd rfl (by first | exact .inl rfl | exact .inr rfl)) dgs_nil))))
      (dss_one (ds_expr (de_bm PySem.F.plainAttrs_list PySem.F.slot_list_append PySem.F.type_list_append mt_append sm_append (.inl rfl) (dv 2) (da_cons (dv 4) da_nil))))) PassesOwn.never)
      (dss_one (ds_ret (de_slice3 (dv 2) do_none do_none (do_some (de_neg de_int)))))))), fun ds M Q hl h => ?_⟩
  obtain ⟨c, e, ls, n, rfl, bk, hn, q⟩ := h
  walk_at "start"
  walk_at "goS"
  intro p hp
  walk_at "go"
  refine go_seqK (J := fun G' M' => ∃ (x3 x4 : Option D), G' = [some c, some e, some (.ref p), x3, x4] ∧ Sub M M' ∧ M' p = some (.lst (dInts ls))) (fun nx hk => ?_) (fun G' M' hJ => ?_)
  · refine go_whileI (W := fun m G' M' => ∃ (x4 : Option D) (e' : D) (done rest : List Int), G' = [some c, some e, some (.ref p), some e', x4] ∧ M' = mupd M p (.lst (dInts done)) ∧ Back M c e' rest m ∧ done ++ rest = ls ∧ done.length + m = n) n ?_ (fun m G' M' nx' hW hn' => ?_)
    · exact ⟨_, e, [], ls, rfl, rfl, bk, rfl, by simp⟩
    · obtain ⟨x4, e', done, rest, rfl, rfl, bk', hl, hm⟩ := hW
      cases bk' with
      | root h =>
        have h2 := getDk_oth (x := .lst (dInts done)) hp h
        walk_at "goS"
        refine hk _ _ ⟨_, _, rfl, sub_mupd (fun _ _ h => h) hp, ?_⟩
        rw [mupd_same, ← hl, List.append_nil]
      | @step _ e2 l ls' m' h h' =>
        have h2 := getDk_oth (x := .lst (dInts done)) hp h
        have hd : (dInts done).length ≤ 100000 := by rw [List.length_map]; omega
        walk_at "goS"
        refine hn' m' _ _ (by omega) ⟨_, e2, done ++ [l], ls', rfl, by rw [mupd_mupd]; simp [dInts], h', by rw [← hl]; simp, by simp; omega⟩
  · obtain ⟨x3, x4, rfl, sb, c1⟩ := hJ
    walk_at "go"
    rw [pick_rev, ← List.map_reverse]
    exact DL.Fin.sub sb q
end
end L29

set_option Elab.async false
set_option linter.all false
set_option maxRecDepth 100000
set_option maxHeartbeats 4000000
namespace L29
open PySem PySem.Spec PyProof.Rows L2 DL
open P29 (Pr)
/-! ### dicts that tell whence things were found -/
inductive BackC {t : Type} (came : List (t × Option (t × Int))) : t → List Int → Nat → Prop
  | root {v : t} : (v, none) ∈ came → BackC came v [] 0
  | step {v p : t} {l : Int} {ls : List Int} {n : Nat} : (v, some (p, l)) ∈ came → BackC came p ls n → BackC came v (l :: ls) (n + 1)
theorem BackC.mono {t : Type} {came came' : List (t × Option (t × Int))} {v : t} {ls : List Int} {n : Nat} (h : BackC came v ls n) (hs : ∀ e ∈ came, e ∈ came') : BackC came' v ls n := by
  induction h with
  | root h => exact .root (hs _ h)
  | step h _ ih => exact .step (hs _ h) ih
theorem assoc_uniq {t u : Type} : ∀ {c : List (t × u)} {v : t} {o o' : u}, (c.map (·.1)).Nodup → (v, o) ∈ c → (v, o') ∈ c → o = o'
  | [], _, _, _, _, h, _ => by simp at h
  | e :: c, v, o, o', hn, h, h' => by
    rw [List.map_cons, List.nodup_cons] at hn
    rcases List.mem_cons.mp h with h2 | h2
    · rcases List.mem_cons.mp h' with h3 | h3
      · rw [← h2] at h3
        exact ((Prod.mk.injEq _ _ _ _).mp h3).2.symm
      · exact (hn.1 (List.mem_map.mpr ⟨(v, o'), h3, by rw [← h2]⟩)).elim
    · rcases List.mem_cons.mp h' with h3 | h3
      · exact (hn.1 (List.mem_map.mpr ⟨(v, o), h2, by rw [← h3]⟩)).elim
      · exact assoc_uniq hn.2 h2 h3
theorem BackC.uniq {t : Type} {c : List (t × Option (t × Int))} (nd : (c.map (·.1)).Nodup) {v : t} {ls : List Int} {n : Nat} (h : BackC c v ls n) : ∀ {ls' : List Int} {n' : Nat}, BackC c v ls' n' → ls = ls' := by
  induction h with
  | root h =>
    intro ls' n' h'
    cases h' with
    | root => rfl
    | step h2 _ => exact absurd (assoc_uniq nd h h2) (by simp)
  | step h _ ih =>
    intro ls' n' h'
    cases h' with
    | root h2 => exact absurd (assoc_uniq nd h2 h) (by simp)
    | step h2 h3 =>
      have := assoc_uniq nd h h2
      cases this
      rw [ih h3]
/-- the letters that lead to a thing, the last one first -/
noncomputable def wordOf {t : Type} (c : List (t × Option (t × Int))) (v : t) : List Int := Classical.epsilon fun ls => ∃ n, BackC c v ls n
theorem wordOf_eq {t : Type} {c : List (t × Option (t × Int))} (nd : (c.map (·.1)).Nodup) {v : t} {ls : List Int} {n : Nat} (h : BackC c v ls n) : wordOf c v = ls := by
  have := Classical.epsilon_spec (p := fun ls => ∃ n, BackC c v ls n) ⟨ls, n, h⟩
  obtain ⟨n', h'⟩ := this
  exact (h.uniq nd h').symm
section
variable {k t u : Type} [DecidableEq k] {kf : t → k} {vf : u → D}
theorem valD_map (inj : ∀ a b, kf a = kf b → a = b) : ∀ {l : List (t × u)} {v : t} {o : u}, (l.map (·.1)).Nodup → (v, o) ∈ l → valD (l.map fun e => (kf e.1, vf e.2)) (kf v) = some (vf o)
  | [], v, o, _, h => by simp at h
  | e :: l, v, o, hn, h => by
    rw [List.map_cons, List.nodup_cons] at hn
    unfold valD
    rw [List.map_cons]
    rcases List.mem_cons.mp h with rfl | h
    · rw [List.find?_cons_of_pos (by simp)]
      rfl
    · have hne : ¬ kf e.1 = kf v := fun z => hn.1 (by rw [inj _ _ z]; exact List.mem_map.mpr ⟨_, h, rfl⟩)
      rw [List.find?_cons_of_neg (by simpa using hne)]
      exact valD_map inj hn.2 h
theorem valD_mapNo (inj : ∀ a b, kf a = kf b → a = b) : ∀ {l : List (t × u)} {v : t}, v ∉ l.map (·.1) → valD (l.map fun e => (kf e.1, vf e.2)) (kf v) = none
  | [], v, _ => rfl
  | e :: l, v, h => by
    rw [List.map_cons, List.mem_cons, not_or] at h
    have hne : ¬ kf e.1 = kf v := fun z => h.1 (inj _ _ z).symm
    unfold valD
    rw [List.map_cons, List.find?_cons_of_neg (by simpa using hne)]
    exact valD_mapNo inj h.2
theorem putD_map (inj : ∀ a b, kf a = kf b → a = b) {l : List (t × u)} {v : t} {o : u} (h : v ∉ l.map (·.1)) : putD (l.map fun e => (kf e.1, vf e.2)) (kf v) (vf o) = (l ++ [(v, o)]).map fun e => (kf e.1, vf e.2) := by
  unfold putD
  rw [if_neg]
  · simp
  · intro e
    obtain ⟨kv, h1, h2⟩ := List.any_eq_true.mp e
    obtain ⟨p, hp, rfl⟩ := List.mem_map.mp h1
    exact h (List.mem_map.mpr ⟨p, hp, inj _ _ (of_decide_eq_true h2)⟩)
end
abbrev Came := List (Int × Option (Int × Int))
def oD : Option (Int × Int) → D
  | none => .non
  | some p => .tup [.int p.1, .int p.2]
def dCame (c : Came) : List (Key × D) := c.map fun e => (Sum.inl e.1, oD e.2)
theorem inl_inj : ∀ a b : Int, (Sum.inl a : Key) = Sum.inl b → a = b := fun a b h => by cases h; rfl
theorem BackC.back {M : Mp} {c : Came} {pc : Addr} (hM : M pc = some (.dK (dCame c))) (nd : (c.map (·.1)).Nodup) {v : Int} {ls : List Int} {n : Nat} (h : BackC c v ls n) : Back M (.ref pc) (.int v) ls n := by
  induction h with
  | root h => exact .root ((getDk_dK (kk := .inl _) hM rfl).trans (congrArg some (valD_map (vf := oD) inl_inj nd h)))
  | step h _ ih => exact .step ((getDk_dK (kk := .inl _) hM rfl).trans (congrArg some (valD_map (vf := oD) inl_inj nd h))) ih
theorem came_in (v : Int) (c : Came) : (valD (dCame c) (.inl v)).isSome = decide (v ∈ c.map (·.1)) := by
  by_cases h : v ∈ c.map (·.1)
  · rw [decide_eq_true h]
    obtain ⟨e, he, rfl⟩ := List.mem_map.mp h
    unfold valD dCame
    rw [Option.isSome_map, List.find?_isSome]
    exact ⟨_, List.mem_map.mpr ⟨e, he, rfl⟩, by simp⟩
  · rw [decide_eq_false h, show valD (dCame c) (.inl v) = none from valD_mapNo (vf := oD) inl_inj h]
    rfl
theorem BackC.len {t : Type} {came : List (t × Option (t × Int))} {v : t} {ls : List Int} {n : Nat} (h : BackC came v ls n) : ls.length = n := by
  induction h with
  | root => rfl
  | step _ _ ih => simp [ih]
/-! ### a hall as a dict of its steps -/
abbrev dArr (p : Int × Int) : D := .tup [.int p.1, .int p.2]
def hallG (F : List Int) (row : Int → List (Int × Int)) : List (Key × D) := F.map fun v => (Sum.inl v, .list ((row v).map dArr))
abbrev dHall (F : List Int) (row : Int → List (Int × Int)) : D := .dK (hallG F row)
structure HallW (F : List Int) (row : Int → List (Int × Int)) : Prop where
  nd : F.Nodup
  le : F.length ≤ 200
  wd : ∀ v ∈ F, (row v).length ≤ 1000
  tg : ∀ v ∈ F, ∀ p ∈ row v, p.2 ∈ F
theorem hall_at {M : Mp} {F : List Int} {row : Int → List (Int × Int)} {v : Int} (hv : v ∈ F) : getDk M (dHall F row) (.int v) = some (some (.list ((row v).map dArr))) := by
  rw [getDk_dKs (kk := .inl v) rfl]
  congr 1
  unfold hallG valD
  rw [List.find?_map]
  induction F with
  | nil => simp at hv
  | cons a F ih =>
    by_cases q : a = v
    · subst q
      rw [List.find?_cons_of_pos (by simp)]
      rfl
    · rw [List.find?_cons_of_neg (by simpa using q)]
      exact ih ((List.mem_cons.mp hv).resolve_left (Ne.symm q))
inductive HP (row : Int → List (Int × Int)) (u : Int) : List Int → Int → Prop
  | nil : HP row u [] u
  | snoc {w : List Int} {v x t : Int} : HP row u w v → (x, t) ∈ row v → HP row u (w ++ [x]) t
theorem HP.app {row : Int → List (Int × Int)} {u v z : Int} {w w' : List Int} (h : HP row u w v) (h2 : HP row v w' z) : HP row u (w ++ w') z := by
  induction h2 with
  | nil => rw [List.append_nil]; exact h
  | snoc _ hx ih => rw [← List.append_assoc]; exact .snoc ih hx
theorem HP.stay {row : Int → List (Int × Int)} {P : Int → Prop} {u v : Int} {w : List Int} (h : HP row u w v) (hu : P u) (hs : ∀ k p, P k → p ∈ row k → P p.2) : P v := by
  induction h with
  | nil => exact hu
  | snoc _ hx ih => exact hs _ _ ih hx
/-- the search, as it is made -/
def swRow (r k : Int) : List (Int × Int) → List Int → Came → Came ⊕ (List Int × Came)
  | [], fd, c => .inr (fd, c)
  | p :: ps, fd, c => if p.2 ∈ fd then swRow r k ps fd c else if r = p.2 then .inl (c ++ [(p.2, some (k, p.1))]) else swRow r k ps (fd ++ [p.2]) (c ++ [(p.2, some (k, p.1))])
def swRun (row : Int → List (Int × Int)) (r : Int) : Nat → Nat → List Int → Came → Option Came
  | 0, _, _, _ => none
  | m + 1, i, fd, c => match fd[i]? with
    | none => none
    | some k => match swRow r k (row k) fd c with
      | .inl c' => some c'
      | .inr x => swRun row r m (i + 1) x.1 x.2
noncomputable def swW (row : Int → List (Int × Int)) (s r : Int) (N : Nat) : List Int := if r = s then [] else match swRun row r N 0 [s] [(s, none)] with
  | some c => (wordOf c r).reverse
  | none => []
def sp_shortest_way : aSp := fun ds M Q => ∃ F row s r a, ds = [dHall F row, .int s, .ref a] ∧ HallW F row ∧ M a = some (.dK [(.inl r, .bl true)]) ∧ s ∈ F ∧ (∃ w, HP row s w r) ∧ ∀ w, w = swW row s r (F.length + 1) → HP row s w r → w.length ≤ F.length → Q (.tup [.list (dInts w), .int r]) M
theorem goal_at {M : Mp} {a : Addr} {r v : Int} (h : M a = some (.dK [(.inl r, .bl true)])) : getDk M (.ref a) (.int v) = some (if r = v then some (.bl true) else none) := by
  rw [getDk_dK (kk := .inl v) h rfl]
  congr 1
  unfold valD
  by_cases q : r = v
  · subst q
    rw [List.find?_cons_of_pos (by simp), if_pos rfl]
    rfl
  · rw [List.find?_cons_of_neg (by simpa using q), if_neg q]
    rfl
/-- what was found so far, and whence -/
structure Sw (F : List Int) (row : Int → List (Int × Int)) (s r : Int) (fd : List Int) (c : Came) : Prop where
  ks : c.map (·.1) = fd
  nd : fd.Nodup
  sb : ∀ v ∈ fd, v ∈ F
  bk : ∀ v ∈ fd, ∃ ls n, n < fd.length ∧ BackC c v ls n ∧ HP row s ls.reverse v
  st : s ∈ fd
section
variable {P : Program} {w : World} {K : PySem.W.Frag} {mg : Str → Option Value} {base : Heap} {a : Ad}
theorem ok_shortest_way (T : TX K mg a) : FnOk P w K mg base CX0 2 a.f_shortest_way a.fd_shortest_way ["steps", "start", "goals"] (lift K 3 sp_shortest_way) := by
  refine okD (k := 1) T.fn_shortest_way sc_shortest_way rfl fun cdv A outer s H E hr => ⟨_, _, (dss_cons (ds_if (dt_cmp (op_inA (hu_of hr)) s2_in (dv 1) (dv 2) (by rfl)) (dss_one (ds_ret (de_tup (da_cons (de_lst da_nil) (da_cons (dv 1) da_nil))))) dss_nil)
      (dss_cons (ds_set (j := 3) sc_shortest_way.nd rfl (by first | exact .inl rfl | exact .inr rfl) (de_lstM (da_cons (dv 1) da_nil)))
      (dss_cons (ds_set (j := 4) sc_shortest_way.nd rfl (by first | exact .inl rfl | exact .inr rfl) (de_dispK (dps_cons (dv 1) de_non dps_nil)))
      (dss_cons (ds_set (j := 5) sc_shortest_way.nd rfl (by first | exact .inl rfl | exact .inr rfl) de_int)
      (dss_cons (ds_while (dt_cmp op_lt s2_lt (dv 5) (de_callB call_lenA sl_len (by rfl) T.b_len (by decide +kernel) (da_cons (dv 3) da_nil)) (nomark _)) (dss_cons (ds_set (j := 6) sc_shortest_way.nd rfl (by first | exact .inl rfl | exact .inr rfl) (de_ix (hu_of hr) (dv 3) (dv 5) (fun _ _ => rfl)))
      (dss_cons (ds_aug iop_add (s2_I0 fun _ _ _ => .int _) (j := 5) sc_shortest_way.nd rfl (by first | exact .inl rfl | exact .inr rfl) de_int)
      (dss_one (ds_for (di_seq (de_ix (hu_of hr) (dv 0) (dv 6) (fun _ _ => rfl))) (dg_tup (dgs_cons (dg_name (j := 7) sc_shortest_way.nd rfl (by first | exact .inl rfl | exact .inr rfl)) (dgs_cons (dg_name (j := 8) sc_shortest_way.nd rfl (by first | exact .inl rfl | exact .inr rfl)) dgs_nil))) (dss_one (ds_if (dt_cmp (op_notInA (hu_of hr)) s2_in (dv 8) (dv 4) (by rfl)) (dss_cons (ds_dput (hu_of hr) (dv 4) (dv 8) (de_tup (da_cons (dv 6) (da_cons (dv 7) da_nil))))
      (dss_cons (ds_if (dt_cmp (op_inA (hu_of hr)) s2_in (dv 8) (dv 2) (by rfl)) (dss_one (ds_ret (de_tup (da_cons (de_call (ok_way_back T) (hr.mono (by decide)) (by rfl) T.mg_way_back T.kp_way_back T.bd_way_back pass0 (da_cons (dv 4) (da_cons (dv 8) da_nil))) (da_cons (dv 8) da_nil))))) dss_nil)
      (dss_one (ds_expr (de_bm PySem.F.plainAttrs_list PySem.F.slot_list_append PySem.F.type_list_append mt_append sm_append (.inl rfl) (dv 3) (da_cons (dv 8) da_nil)))))) dss_nil)) PassesOwn.never)))) PassesOwn.never)
      (dss_one (ds_ret de_non))))))), fun ds M Q hl h => ?_⟩
  obtain ⟨F, row, s0, r, ga, rfl, hw, hg, hs, hex, q⟩ := h
  have hle := hw.le
  have gis : ∀ {M' : Mp} {v : Int}, Sub M M' → getDk M' (.ref ga) (.int v) = some (if r = v then some (.bl true) else none) := fun sb => goal_at (sb _ _ hg)
  walk_at "start"
  walk_at "goS"
  refine go_inD (itemsM_dK hg) (goal_at hg) ?_
  walk_at "goS"
  refine go_ite (fun e => ?_) (fun e => ?_)
  · have e : r = s0 := by
      by_cases z : r = s0
      · exact z
      · rw [if_neg z] at e
        simp at e
    subst e
    walk_at "goS"
    exact Fin.of (q [] (by rw [swW, if_pos rfl]) .nil (by simp))
  have hrs : r ≠ s0 := fun z => by
    rw [if_pos z] at e
    simp at e
  walk_at "goS"
  intro pf hpf
  walk_at "goS"
  intro pc hpc
  rw [merge_one]
  have ncf : pc ≠ pf := fun z => by subst z; rw [mupd_same] at hpc; cases hpc
  have hMc : M pc = none := by rw [mupd_ne ncf] at hpc; exact hpc
  walk_at "go"
  refine go_seqK (J := fun G' M' => False) (fun nx hk => ?_) (fun G' M' hJ => hJ.elim)
  refine go_whileI (W := fun m G' M' => ∃ (x6 x7 x8 : Option D) (fd : List Int) (c : Came) (i : Nat), G' = [some (dHall F row), some (.int s0), some (.ref ga), some (.ref pf), some (.ref pc), some (.int (i : Int)), x6, x7, x8] ∧ Sub M M' ∧ M' pf = some (.lst (dInts fd)) ∧ M' pc = some (.dK (dCame c)) ∧
      Sw F row s0 r fd c ∧ r ∉ fd ∧ i ≤ fd.length ∧ (∀ k ∈ fd.take i, ∀ p ∈ row k, p.2 ∈ fd) ∧ m + i = F.length + 1 ∧ swRun row r m i fd c = swRun row r (F.length + 1) 0 [s0] [(s0, none)]) (F.length + 1) ?_ (fun m G' M' nx' hW hn => ?_)
  · refine ⟨_, _, _, [s0], [(s0, none)], 0, rfl, sub_mupd (sub_mupd (fun _ _ h => h) hpf) hMc, by rw [mupd_ne (Ne.symm ncf)]; exact mupd_same, by rw [mupd_same]; rfl, ⟨rfl, by simp, fun v hv => ?_, fun v hv => ?_, by simp⟩, by simpa using hrs, by simp, by simp, rfl, rfl⟩
    · rcases List.mem_singleton.mp hv with rfl
      exact hs
    · rcases List.mem_singleton.mp hv with rfl
      exact ⟨[], 0, by simp, .root (by simp), .nil⟩
  · obtain ⟨x6, x7, x8, fd, cc, i, rfl, sb, c1, c2, sw, hr, hi, hcl, hm, hrun⟩ := hW
    have hfl : fd.length ≤ F.length := nodup_sub sw.nd sw.sb
    walk_at "goS"
    refine go_ite (fun e => ?_) (fun e => ?_)
    · have e := of_decide_eq_true e
      simp only [List.length_map] at e
      obtain ⟨k, hkf, hkm, ek⟩ := int_at (cs := fd) (i := (i : Int)) (by omega) e
      have hkF := sw.sb k hkm
      have ehk : ∀ {M' : Mp}, getDk M' (dHall F row) (.int k) = some (some (.list ((row k).map dArr))) := hall_at hkF
      rw [Int.toNat_natCast] at hkf
      walk_at "goS"
      refine go_ixGet ehk ?_
      walk_at "goS"
      simp only [List.set_cons_succ, List.set_cons_zero]
      refine go_forI (fun j G' M' => ∃ (x7 x8 : Option D) (E : List Int) (c : Came), G' = [some (dHall F row), some (.int s0), some (.ref ga), some (.ref pf), some (.ref pc), some (.int ((i : Int) + 1)), some (.int k), x7, x8] ∧ Sub M M' ∧ M' pf = some (.lst (dInts (fd ++ E))) ∧ M' pc = some (.dK (dCame c)) ∧
        Sw F row s0 r (fd ++ E) c ∧ r ∉ fd ++ E ∧ swRow r k ((row k).drop j) (fd ++ E) c = swRow r k (row k) fd cc ∧ ∀ p ∈ (row k).take j, p.2 ∈ fd ++ E) ⟨_, _, [], cc, rfl, sb, by rw [List.append_nil]; exact c1, c2, by rw [List.append_nil]; exact sw, by rw [List.append_nil]; exact hr, by rw [List.append_nil]; rfl, by simp⟩ (fun j d G' M' nx2 hd hI hn2 => ?_) (fun G' M' hI => ?_)
      · obtain ⟨x7, x8, E, c, rfl, sb, c1, c2, sw2, hr2, hrel, hall⟩ := hI
        rw [List.getElem?_map] at hd
        obtain ⟨p, hp, rfl⟩ := Option.map_eq_some_iff.mp hd
        have hpm := List.mem_of_getElem? hp
        have hdj : (row k).drop j = p :: (row k).drop (j + 1) := by
          obtain ⟨a1, a2⟩ := List.getElem?_eq_some_iff.mp hp
          rw [List.drop_eq_getElem_cons a1, a2]
        rw [hdj, swRow] at hrel
        have hfl2 : (fd ++ E).length ≤ F.length := nodup_sub sw2.nd sw2.sb
        have tk : ∀ z ∈ (row k).take (j + 1), z ∈ (row k).take j ∨ z = p := fun z hz => by
          rw [List.take_add_one, hp] at hz
          rcases List.mem_append.mp hz with hz | hz
          · exact .inl hz
          · exact .inr (by simpa using hz)
        walk_at "goS"
        refine go_inD (itemsM_dK c2) (getDk_dK (kk := .inl p.2) c2 rfl) ?_
        rw [came_in, sw2.ks]
        walk_at "goS"
        refine go_ite (fun e1 => ?_) (fun e1 => ?_)
        · have hny : p.2 ∉ fd ++ E := by
            simpa only [Bool.not_eq_true', decide_eq_false_iff_not, if_true, ↓reduceIte] using e1
          rw [if_neg hny] at hrel
          have nd' : ((c ++ [(p.2, some (k, p.1))]).map (·.1)).Nodup := by
            rw [List.map_append, sw2.ks]
            exact List.nodup_append.mpr ⟨sw2.nd, by simp, fun a ha b hb e => by
              have hb : b = p.2 := by simpa using hb
              subst hb
              subst e
              exact hny ha⟩
          have hcl' : c.length ≤ 200 := by
            have := congrArg List.length sw2.ks
            rw [List.length_map] at this
            omega
          obtain ⟨ls, n, hn1, hb1, hp1⟩ := sw2.bk k (List.mem_append_left _ hkm)
          have hb2 : BackC (c ++ [(p.2, some (k, p.1))]) p.2 (p.1 :: ls) (n + 1) := .step (by simp) (hb1.mono fun e he => List.mem_append_left _ he)
          have hp2 : HP row s0 (p.1 :: ls).reverse p.2 := by
            rw [List.reverse_cons]
            exact .snoc hp1 hpm
          have hlen := hb2.len
          walk_at "goS"
          refine go_kdputK (kk := .inl p.2) c2 (by simp only [dCame, List.length_map]; omega) rfl ?_
          rw [show putD (dCame c) (.inl p.2) (D.tup [D.int k, D.int p.1]) = dCame (c ++ [(p.2, some (k, p.1))]) from putD_map (vf := oD) (o := some (k, p.1)) inl_inj (by rw [sw2.ks]; exact hny)]
          have sb3 : Sub M (mupd M' pc (.dK (dCame (c ++ [(p.2, some (k, p.1))])))) := sub_mupd sb hMc
          walk_at "goS"
          refine go_inD (itemsM_dK (sb3 _ _ hg)) (gis sb3) ?_
          walk_at "goS"
          refine go_ite (fun e2 => ?_) (fun e2 => ?_)
          · have e2 : r = p.2 := by
              by_cases z : r = p.2
              · exact z
              · rw [if_neg z] at e2
                simp at e2
            subst e2
            rw [if_pos rfl] at hrel
            have hsw : (p.1 :: ls).reverse = swW row s0 p.2 (F.length + 1) := by
              obtain ⟨m', rfl⟩ : ∃ m', m = m' + 1 := ⟨m - 1, by omega⟩
              rw [swW, if_neg hrs, ← hrun, swRun, hkf]
              simp only
              rw [← hrel]
              simp only
              rw [wordOf_eq nd' hb2]
            walk_at "goS"
            refine ⟨_, _, _, _, rfl, hb2.back mupd_same nd', by omega, ?_⟩
            walk_at "goS"
            exact DL.Fin.sub sb3 (q _ hsw hp2 (by rw [List.length_reverse]; omega))
          · have e2 : r ≠ p.2 := fun z => by
              rw [if_pos z] at e2
              simp at e2
            rw [if_neg e2] at hrel
            have hlen3 : (dInts (fd ++ E)).length ≤ 1000 := by rw [List.length_map]; omega
            have c1' : (mupd M' pc (.dK (dCame (c ++ [(p.2, some (k, p.1))])))) pf = some (.lst (dInts (fd ++ E))) := by rw [mupd_ne (Ne.symm ncf)]; exact c1
            walk_at "goS"
            refine hn2 _ _ ⟨_, _, E ++ [p.2], c ++ [(p.2, some (k, p.1))], rfl, sub_mupd sb3 hpf, by rw [mupd_same]; simp [dInts], by rw [mupd_ne ncf, mupd_same], ⟨by rw [List.map_append, sw2.ks]; simp, ?_, fun v hv => ?_, fun v hv => ?_, ?_⟩, ?_, by rw [← List.append_assoc]; exact hrel, fun z hz => ?_⟩
            · have := nd'
              rw [List.map_append, sw2.ks] at this
              simpa using this
            · rw [← List.append_assoc] at hv
              rcases List.mem_append.mp hv with hv | hv
              · exact sw2.sb v hv
              · rcases List.mem_singleton.mp hv with rfl
                exact hw.tg k hkF p hpm
            · rw [← List.append_assoc] at hv
              rcases List.mem_append.mp hv with hv | hv
              · obtain ⟨ls', n', a1, a2, a3⟩ := sw2.bk v hv
                exact ⟨ls', n', by simp only [List.length_append] at a1 ⊢; simp; omega, a2.mono fun e he => List.mem_append_left _ he, a3⟩
              · rcases List.mem_singleton.mp hv with rfl
                exact ⟨_, _, by simp only [List.length_append] at hn1 ⊢; simp; omega, hb2, hp2⟩
            · rw [← List.append_assoc]
              exact List.mem_append_left _ sw2.st
            · rw [← List.append_assoc]
              intro z
              rcases List.mem_append.mp z with z | z
              · exact hr2 z
              · exact e2 (List.mem_singleton.mp z)
            · rw [← List.append_assoc]
              rcases tk z hz with h | rfl
              · exact List.mem_append_left _ (hall z h)
              · simp
        · have hyF : p.2 ∈ fd ++ E := by
            simpa only [Bool.not_eq_true', decide_eq_false_iff_not, if_true, ↓reduceIte, Bool.not_eq_true, Bool.not_eq_false', decide_eq_true_eq] using e1
          rw [if_pos hyF] at hrel
          refine hn2 _ _ ⟨_, _, E, c, rfl, sb, c1, c2, sw2, hr2, hrel, fun z hz => ?_⟩
          rcases tk z hz with h | rfl
          · exact hall z h
          · exact hyF
      · obtain ⟨x7, x8, E, c, rfl, sb, c1, c2, sw2, hr2, hrel, hall⟩ := hI
        rw [List.length_map] at hall hrel
        rw [List.take_length] at hall
        rw [List.drop_length, swRow] at hrel
        refine hn (m - 1) _ _ (by omega) ⟨_, _, _, fd ++ E, c, i + 1, rfl, sb, c1, c2, sw2, hr2, by simp; omega, fun z hz p hp => ?_, by omega, ?_⟩
        rotate_left
        · obtain ⟨m', rfl⟩ : ∃ m', m = m' + 1 := ⟨m - 1, by omega⟩
          rw [← hrun, swRun, hkf]
          simp only
          rw [← hrel]
          rfl
        have hz2 : z ∈ fd.take (i + 1) := by
          rw [List.take_append_of_le_length (by omega)] at hz
          exact hz
        rw [List.take_add_one, hkf] at hz2
        rcases List.mem_append.mp hz2 with h | h
        · exact List.mem_append_left _ (hcl z h p hp)
        · have : z = k := by simpa using h
          subst this
          exact hall p hp
    · have e := of_decide_eq_false e
      simp only [List.length_map] at e
      rw [List.take_of_length_le (by omega)] at hcl
      obtain ⟨w, hw'⟩ := hex
      exact absurd (hw'.stay (P := fun v => v ∈ fd) sw.st fun k p hk hp => hcl k hk p hp) hr
end
end L29

set_option Elab.async false
set_option linter.all false
set_option maxRecDepth 100000
set_option maxHeartbeats 4000000
namespace L29
open PySem PySem.Spec PyProof.Rows L2 DL
open P29 (Pr At)
/-- the steps of the rooms, letters forgotten -/
def afterS (rs : List Rm) : List (List Int) := rs.map fun r => r.2.filter fun t => decide (0 ≤ t)
theorem after_mem {rs : List Rm} {u t : Int} {r : Rm} (h : rs[u.toNat]? = some r) : t ∈ succS (afterS rs) u ↔ t ∈ r.2 ∧ 0 ≤ t := by
  unfold succS afterS
  rw [List.getD_eq_getElem?_getD, List.getElem?_map, h]
  simp
theorem after_good {web : List (List Int)} {many : Int} {rs : List Rm} (g : GoodRs web many rs) (h : rs.length ≤ 100) (hm : many ≤ 200) : GoodSt (afterS rs) := by
  refine ⟨fun r hr t ht => ?_, by unfold afterS; rw [List.length_map]; omega, fun r hr => ?_⟩
  · obtain ⟨rm, h1, rfl⟩ := List.mem_map.mp hr
    have gr := g rm h1
    obtain ⟨a, b⟩ := List.mem_filter.mp ht
    have t0 : 0 ≤ t := of_decide_eq_true b
    obtain ⟨x, hx⟩ := List.getElem?_of_mem a
    have := (gr.tgt x t hx t0).1
    rw [List.length_map] at this
    unfold afterS
    rw [List.length_map]
    exact ⟨t0, this⟩
  · obtain ⟨rm, h1, rfl⟩ := List.mem_map.mp hr
    have gr := (g rm h1).len
    have := List.length_filter_le (fun t => decide (0 ≤ t)) rm.2
    omega
theorem rch_back {steps backs : List (List Int)} (b : BackOk steps backs) (g : GoodSt steps) {u v : Int} (u0 : 0 ≤ u) (u1 : u < (steps.length : Int)) : Rch (succS backs) u v ↔ 0 ≤ v ∧ v < (steps.length : Int) ∧ Rch (succS steps) v u := by
  constructor
  · intro h
    have : ∀ {x y : Int}, Rch (succS backs) x y → 0 ≤ x → x < (steps.length : Int) → 0 ≤ y ∧ y < (steps.length : Int) ∧ Rch (succS steps) y x := fun {x y} h => by
      induction h with
      | refl => exact fun a b => ⟨a, b, .refl _⟩
      | step ht _ ih =>
        intro a c
        obtain ⟨t0, t1, h1⟩ := (b.mem _ a c _).mp ht
        obtain ⟨y0, y1, h2⟩ := ih t0 t1
        exact ⟨y0, y1, h2.snoc h1⟩
    exact this h u0 u1
  · rintro ⟨v0, v1, h⟩
    have : ∀ {x y : Int}, Rch (succS steps) x y → 0 ≤ x → x < (steps.length : Int) → Rch (succS backs) y x := fun {x y} h => by
      induction h with
      | refl => exact fun _ _ => .refl _
      | step ht _ ih =>
        intro a c
        obtain ⟨t0, t1⟩ := g.succ ht
        exact (ih t0 t1).snoc ((b.mem _ t0 t1 _).mpr ⟨a, c, ht⟩)
    exact this h v0 v1
/-- the steps of a row that lead to some rooms -/
def hrow (row F : List Int) (j : Nat) : List (Int × Int) := (List.range j).filterMap fun (x : Nat) => match row[x]? with | some t => if t ∈ F then some ((x : Int), t) else none | none => none
theorem hrow_succ {row F : List Int} {j : Nat} {t : Int} (h : row[j]? = some t) : hrow row F (j + 1) = hrow row F j ++ (if t ∈ F then [((j : Int), t)] else []) := by
  unfold hrow
  rw [List.range_succ, List.filterMap_append]
  congr 1
  simp only [List.filterMap_cons, List.filterMap_nil, h]
  split <;> rename_i e
  · split at e
    · cases e
    · rename_i q; rw [if_neg q]
  · split at e
    · rename_i q; cases e; rw [if_pos q]
    · cases e
theorem hrow_mem {row F : List Int} {p : Int × Int} : p ∈ hrow row F row.length ↔ 0 ≤ p.1 ∧ row[p.1.toNat]? = some p.2 ∧ p.2 ∈ F := by
  unfold hrow
  rw [List.mem_filterMap]
  constructor
  · rintro ⟨x, hx, e⟩
    cases hr : row[x]? with
    | none => rw [hr] at e; cases e
    | some t =>
      rw [hr] at e
      simp only at e
      split at e
      · rename_i q
        cases e
        exact ⟨by simp, by simpa using hr, q⟩
      · cases e
  · rintro ⟨h0, h1, h2⟩
    refine ⟨p.1.toNat, List.mem_range.mpr (List.getElem?_eq_some_iff.mp h1).1, ?_⟩
    rw [h1]
    simp only
    rw [if_pos h2]
    congr 1
    exact Prod.ext (by simp; omega) rfl
theorem hrow_len {row F : List Int} {j : Nat} : (hrow row F j).length ≤ j := by
  unfold hrow
  have := List.length_filterMap_le (fun (x : Nat) => match row[x]? with | some t => if t ∈ F then some ((x : Int), t) else none | none => none) (List.range j)
  simpa using this
def rowOf (rs : List Rm) (v : Int) : List Int := (rs.map (·.2)).getD v.toNat []
theorem rowOf_at {rs : List Rm} {v : Int} {r : Rm} (h : rs[v.toNat]? = some r) : rowOf rs v = r.2 := by
  unfold rowOf
  rw [List.getD_eq_getElem?_getD, List.getElem?_map, h]
  rfl
/-- the steps within the part of a room -/
def hallRow (rs : List Rm) (F : List Int) (v : Int) : List (Int × Int) := hrow (rowOf rs v) F (rowOf rs v).length
theorem putD_hall {F : List Int} {row : Int → List (Int × Int)} {v : Int} (h : v ∉ F) : putD (hallG F row) (.inl v) (.list ((row v).map dArr)) = hallG (F ++ [v]) row := by
  unfold putD
  rw [if_neg]
  · simp [hallG]
  · intro e
    obtain ⟨kv, h1, h2⟩ := List.any_eq_true.mp e
    obtain ⟨p, hp, rfl⟩ := List.mem_map.mp h1
    have := of_decide_eq_true h2
    cases this
    exact h hp
theorem nodup_take {F : List Int} {i : Nat} {v : Int} (h : F.Nodup) (hv : F[i]? = some v) : v ∉ F.take i := fun z => by
  obtain ⟨j, hj⟩ := List.getElem?_of_mem z
  have hj1 := (List.getElem?_eq_some_iff.mp hj).1
  rw [List.length_take] at hj1
  rw [List.getElem?_take_of_lt (by omega)] at hj
  obtain ⟨a1, b1⟩ := List.getElem?_eq_some_iff.mp hj
  obtain ⟨a2, b2⟩ := List.getElem?_eq_some_iff.mp hv
  have := (List.getElem_inj h).mp (b1.trans b2.symm)
  omega
/-- what inner_steps tells -/
structure HallOf (rs : List Rm) (p : Int) (F : List Int) : Prop where
  nd : F.Nodup
  mem : ∀ v, v ∈ F ↔ Scc (succS (afterS rs)) p v
  rg : ∀ v ∈ F, 0 ≤ v ∧ v < (rs.length : Int)
open Classical in
/-- the hall of a room, in the order in which it is told -/
noncomputable def hallF (rs : List Rm) (p : Int) : List Int := (fwF (afterS rs) p).filter fun v => decide (Rch (succS (afterS rs)) v p)
def sp_inner_steps : aSp := fun ds M Q => ∃ web many rs p, ds = [.list (dRooms rs), .int p] ∧ GoodRs web many rs ∧ rs.length ≤ 100 ∧ many ≤ 200 ∧ 0 ≤ p ∧ p < (rs.length : Int) ∧ (¬ Cyc (succS (afterS rs)) p → Q (.dK []) M) ∧ (Cyc (succS (afterS rs)) p → ∀ F, F = hallF rs p → HallOf rs p F → Q (dHall F (hallRow rs F)) M)
section
variable {P : Program} {w : World} {K : PySem.W.Frag} {mg : Str → Option Value} {base : Heap} {a : Ad}
theorem ok_inner_steps (T : TX K mg a) : FnOk P w K mg base CX0 2 a.f_inner_steps a.fd_inner_steps ["rooms", "room"] (lift K 2 sp_inner_steps) := by
  refine okD (k := 1) T.fn_inner_steps sc_inner_steps rfl fun cdv A outer s H E hr => ⟨_, _, (dss_cons (ds_setLc (j := 2) (own := [("kind", 10), ("steps", 9)]) rfl sc_inner_steps.nd rfl rfl (sw_true rfl rfl rfl (by decide +kernel)) (di_seq (dv 0)) (blkOk_by (by rfl)) (fun _ _ _ _ _ => (dg_tup (dgs_cons (dg_name (j := 10) sc_inner_steps.nd rfl (by first | exact .inl rfl | exact .inr rfl)) (dgs_cons (dg_name (j := 9) sc_inner_steps.nd rfl (by first | exact .inl rfl | exact .inr rfl)) dgs_nil)))) (fun _ _ _ _ _ => dts_nil) (fun _ _ _ _ _ => (de_lc (own := [("target", 6)]) rfl sc_inner_steps.nd (di_seq (dv 9)) (blkOk_by (by rfl)) (fun _ _ _ _ _ => (dg_name (j := 6) sc_inner_steps.nd rfl (by first | exact .inl rfl | exact .inr rfl))) (fun _ _ _ _ _ => (dts_one (dt_cmp op_ge s2_ge (dv 6) de_int (nomark _)))) (fun _ _ _ _ _ => (dv 6)) om_name)) (om_tup (om_cons om_name (om_cons om_name om_nil))))
      (dss_cons (ds_setLc (j := 3) (own := [("steps", 9)]) rfl sc_inner_steps.nd rfl rfl (sw_true rfl rfl rfl (by decide +kernel)) (di_seq (dv 2)) (blkOk_by (by rfl)) (fun _ _ _ _ _ => (dg_name (j := 9) sc_inner_steps.nd rfl (by first | exact .inl rfl | exact .inr rfl))) (fun _ _ _ _ _ => dts_nil) (fun _ _ _ _ _ => (de_lstM da_nil)) om_name)
      (dss_cons (ds_for (di_enum (by rfl) T.b_enumerate (da_cons (dv 2) da_nil)) (dg_tup (dgs_cons (dg_name (j := 4) sc_inner_steps.nd rfl (by first | exact .inl rfl | exact .inr rfl)) (dgs_cons (dg_name (j := 5) sc_inner_steps.nd rfl (by first | exact .inl rfl | exact .inr rfl)) dgs_nil))) (dss_one (ds_for (di_seq (dv 5)) (dg_name (j := 6) sc_inner_steps.nd rfl (by first | exact .inl rfl | exact .inr rfl)) (dss_one (ds_expr (de_bm PySem.F.plainAttrs_list PySem.F.slot_list_append PySem.F.type_list_append mt_append sm_append (.inl rfl) (de_ix (hu_of hr) (dv 3) (dv 6) (fun _ _ => rfl)) (da_cons (dv 4) da_nil)))) PassesOwn.never)) PassesOwn.never)
      (dss_cons (ds_set (j := 7) sc_inner_steps.nd rfl (by first | exact .inl rfl | exact .inr rfl) (de_dc (own := [("one", 4)]) rfl sc_inner_steps.nd (di_seq (de_call (ok_first_walk T) (hr.mono (by decide)) (by rfl) T.mg_first_walk T.kp_first_walk T.bd_first_walk pass0 (da_cons (dv 3) (da_cons (dv 1) da_nil)))) (blkOk_by (by rfl)) (fun _ _ _ _ _ => (dg_name (j := 4) sc_inner_steps.nd rfl (by first | exact .inl rfl | exact .inr rfl))) (fun _ _ _ _ _ => dts_nil) (fun _ _ _ _ _ => (dv 4)) (fun _ _ _ _ _ => de_bl) om_name))
      (dss_cons (ds_set (j := 8) sc_inner_steps.nd rfl (by first | exact .inl rfl | exact .inr rfl) (de_dc (own := [("one", 4)]) rfl sc_inner_steps.nd (di_seq (de_call (ok_first_walk T) (hr.mono (by decide)) (by rfl) T.mg_first_walk T.kp_first_walk T.bd_first_walk pass0 (da_cons (dv 2) (da_cons (dv 1) da_nil)))) (blkOk_by (by rfl)) (fun _ _ _ _ _ => (dg_name (j := 4) sc_inner_steps.nd rfl (by first | exact .inl rfl | exact .inr rfl))) (fun _ _ _ _ _ => (dts_one (dt_cmp (op_inA (hu_of hr)) s2_in (dv 4) (dv 7) (by rfl)))) (fun _ _ _ _ _ => (dv 4)) (fun _ _ _ _ _ => de_bl) om_name))
      (dss_cons (ds_setDc (j := 9) (own := [("one", 4)]) rfl sc_inner_steps.nd rfl rfl (sw_trueD rfl rfl rfl (by decide +kernel)) (di_keys (dv 8)) (blkOk_by (by rfl)) (fun _ _ _ _ _ => (dg_name (j := 4) sc_inner_steps.nd rfl (by first | exact .inl rfl | exact .inr rfl))) (fun _ _ _ _ _ => dts_nil) (fun _ _ _ _ _ => (dv 4)) (fun _ _ _ _ _ => (de_lc (own := [("letter", 11), ("target", 6)]) rfl sc_inner_steps.nd (di_enumT (by rfl) T.b_enumerate (da_cons (de_ix (hu_of hr) (de_ix (hu_of hr) (dv 0) (dv 4) (fun _ _ => rfl)) de_int (fun _ _ => rfl)) da_nil)) (blkOk_by (by rfl)) (fun _ _ _ _ _ => (dg_tup (dgs_cons (dg_name (j := 11) sc_inner_steps.nd rfl (by first | exact .inl rfl | exact .inr rfl)) (dgs_cons (dg_name (j := 6) sc_inner_steps.nd rfl (by first | exact .inl rfl | exact .inr rfl)) dgs_nil)))) (fun _ _ _ _ _ => (dts_one (dt_cmp (op_inA (hu_of hr)) s2_in (dv 6) (dv 8) (by rfl)))) (fun _ _ _ _ _ => (de_tup (da_cons (dv 11) (da_cons (dv 6) da_nil)))) (om_tup (om_cons om_name (om_cons om_name om_nil))))) om_name)
      (dss_one (ds_ret (de_ifExp (dt_tru (de_ix (hu_of hr) (dv 9) (dv 1) (fun _ _ => rfl))) (dv 9) de_dnil))))))))), fun ds M Q hl h => ?_⟩
  obtain ⟨web, many, rs, p, rfl, gr, hrl, hmy, p0, p1, q0, q1⟩ := h
  have g := after_good gr hrl hmy
  have gl : (afterS rs).length = rs.length := by unfold afterS; rw [List.length_map]
  walk_at "start"
  walk_at "goS"
  refine go_lcI (fun i acc M' => M = M' ∧ acc = (afterS (rs.take i)).map fun r => .list (dInts r)) ⟨rfl, rfl⟩ (fun i d acc M' KY KN hd hI hY hN => ?_) (fun acc M' hI => ?_)
  · obtain ⟨rfl, rfl⟩ := hI
    rw [List.getElem?_map] at hd
    obtain ⟨r, hr, rfl⟩ := Option.map_eq_some_iff.mp hd
    have hrm := List.mem_of_getElem? hr
    have hrw := (gr r hrm).len
    walk_at "goS"
    refine go_lcI (fun j acc M' => M = M' ∧ acc = dInts ((r.2.take j).filter fun t => decide (0 ≤ t))) ⟨rfl, rfl⟩ (fun j d acc M' KY2 KN2 hd2 hI2 hY2 hN2 => ?_) (fun acc M' hI2 => ?_)
    · obtain ⟨rfl, rfl⟩ := hI2
      rw [List.getElem?_map] at hd2
      obtain ⟨t, ht, rfl⟩ := Option.map_eq_some_iff.mp hd2
      have step : (r.2.take (j + 1)).filter (fun t => decide (0 ≤ t)) = (r.2.take j).filter (fun t => decide (0 ≤ t)) ++ (if 0 ≤ t then [t] else []) := by
        rw [List.take_add_one, ht, List.filter_append]
        congr 1
        simp only [Option.toList_some, List.filter_cons, List.filter_nil]
        by_cases z : 0 ≤ t <;> simp [z]
      walk_at "goS"
      refine go_ite (fun e => ?_) (fun e => ?_)
      · have e := of_decide_eq_true e
        walk_at "goS"
        refine hY2 _ _ ⟨rfl, ?_⟩
        rw [step, if_pos e]
        simp [dInts]
      · have e : ¬ (0 ≤ t) := by simpa using e
        refine hN2 _ ⟨rfl, ?_⟩
        rw [step, if_neg e, List.append_nil]
    · obtain ⟨rfl, rfl⟩ := hI2
      rw [List.length_map, List.take_length]
      refine hY _ _ ⟨rfl, ?_⟩
      rw [List.take_add_one, hr]
      simp [afterS]
  obtain ⟨rfl, rfl⟩ := hI
  rw [List.length_map, List.take_length]
  walk_at "go"
  refine go_lcI (fun i acc M' => ∃ ps : List Addr, acc = ps.map .ref ∧ Sub M M' ∧ Rws M M' ps (List.replicate i [])) ⟨[], rfl, fun _ _ h => h, .nil⟩ (fun i d acc M' KY KN hd hI hY hN => ?_) (fun acc M' hI => ?_)
  · obtain ⟨ps, rfl, sb, rw'⟩ := hI
    walk_at "go"
    intro p hp
    refine hY _ _ ⟨ps ++ [p], by simp, sub_mupd sb (sb.none hp), ?_⟩
    rw [List.replicate_succ']
    exact rw'.snoc (r := []) hp (sb.none hp)
  obtain ⟨ps, rfl, sb, rw'⟩ := hI
  rw [List.length_map] at rw'
  walk_at "go"
  refine go_seqC (J := fun G' M2 => ∃ (x4 x5 x6 x9 : Option D) (backs : List (List Int)), G' = [some (.list (dRooms rs)), some (.int p), some (dWeb (afterS rs)), some (dWeb backs), x4, x5, x6, none, none, none, none, none] ∧ Sub M M2 ∧ BackOk (afterS rs) backs) (fun nx hk => ?_) (fun G' M2 hJ => ?_)
  · walk_at "go"
    refine go_forI (fun i G' M' => ∃ (x4 x5 x6 : Option D) (rows : List (List Int)), G' = [some (.list (dRooms rs)), some (.int p), some (dWeb (afterS rs)), some (.list (ps.map .ref)), x4, x5, x6, none, none, none, none, none] ∧ Sub M M' ∧ Rws M M' ps rows ∧ BackP (afterS rs) rows i 0) ⟨_, _, _, _, rfl, sb, rw', .start⟩ (fun i d G' M' nx' hd hI hn => ?_) (fun G' M' hI => ?_)
    · obtain ⟨x4, x5, x6, rows, rfl, sb, rw', bp⟩ := hI
      obtain ⟨y, hy, rfl⟩ := enumD_get hd
      rw [List.getElem?_map] at hy
      obtain ⟨row, hrow, rfl⟩ := Option.map_eq_some_iff.mp hy
      have hsr : succS (afterS rs) (i : Int) = row := succS_mem (by simpa using hrow)
      walk_at "go"
      refine go_forI (fun j G' M' => ∃ (x6 : Option D) (rows : List (List Int)), G' = [some (.list (dRooms rs)), some (.int p), some (dWeb (afterS rs)), some (.list (ps.map .ref)), some (.int (i : Int)), some (.list (dInts row)), x6, none, none, none, none, none] ∧ Sub M M' ∧ Rws M M' ps rows ∧ BackP (afterS rs) rows i j) ⟨_, rows, rfl, sb, rw', bp⟩ (fun j d G' M' nx2 hd2 hI hn2 => ?_) (fun G' M' hI => ?_)
      · obtain ⟨x6, rows, rfl, sb, rw', bp⟩ := hI
        rw [List.getElem?_map] at hd2
        obtain ⟨t, ht, rfl⟩ := Option.map_eq_some_iff.mp hd2
        have ht' : (succS (afterS rs) (i : Int))[j]? = some t := by rw [hsr]; exact ht
        obtain ⟨t0, t1⟩ := g.succ (List.mem_of_getElem? ht')
        obtain ⟨p, hp, ep⟩ := ps_at (ps := ps) (v := t) t0 (by rw [rw'.len, bp.len]; exact t1)
        have hr : rows[t.toNat]? = some (succS rows t) := by
          have e : rows[t.toNat]? = some (rows[t.toNat]'(by rw [bp.len]; omega)) := List.getElem?_eq_getElem _
          rw [e, succS_mem e]
        obtain ⟨p0, c1⟩ := rw'.at' _ p _ hp hr
        have hsz := bp.sz _ (List.mem_of_getElem? hr)
        have hj := (List.getElem?_eq_some_iff.mp ht').1
        have hj2 := g.row_le (i : Int)
        have hi2 : i < (afterS rs).length := (List.getElem?_eq_some_iff.mp hrow).1
        have hb : i * 200 + j ≤ 50000 := by omega
        walk_at "go"
        refine hn2 _ _ ⟨_, rows.set t.toNat (succS rows t ++ [(i : Int)]), rfl, sub_mupd sb p0, ?_, bp.step g ht'⟩
        have := rw'.put (r := succS rows t ++ [(i : Int)]) hp
        simpa [dInts] using this
      · obtain ⟨x6, rows, rfl, sb, rw', bp⟩ := hI
        rw [List.length_map, ← hsr] at bp
        exact hn _ _ ⟨_, _, _, rows, rfl, sb, rw', bp.row g⟩
    · obtain ⟨x4, x5, x6, rows, rfl, sb, rw', bp⟩ := hI
      rw [length_enumD, List.length_map] at bp
      exact hk _ _ ⟨_, _, rw'.cvt (.cons (.same _) (.cons (.same _) (.cons (.same _) (.cons rw'.dz (Dzg.same _))))), _, _, _, none, rows, rfl, rw'.sub sb, bp.ok g⟩
  obtain ⟨x4, x5, x6, _, backs, rfl, sb, bk⟩ := hJ
  have rgb : RgSt backs := by
    refine ⟨fun r hr t ht => ?_, by rw [bk.len]; exact g.le⟩
    obtain ⟨j, hj⟩ := List.getElem?_of_mem hr
    have hj2 := (List.getElem?_eq_some_iff.mp hj).1
    have := (bk.mem (j : Int) (by omega) (by rw [← bk.len]; omega) t).mp (by rw [succS_mem (by simpa using hj)]; exact ht)
    rw [bk.len]
    exact ⟨this.1, this.2.1⟩
  walk_at "go"
  refine ⟨backs, p, rfl, rgb, p0, by rw [bk.len, gl]; exact p1, fun B _ bn bm => ?_⟩
  have rgB : ∀ v ∈ B, 0 ≤ v ∧ v < ((afterS rs).length : Int) := fun v hv => by
    obtain ⟨a, b, _⟩ := (rch_back bk g p0 (by rw [gl]; exact p1)).mp ((bm v).mp hv)
    exact ⟨a, b⟩
  have hBl := nodup_le bn rgB
  have hB6 : (dInts B).length ≤ 1000000 := by rw [List.length_map]; omega
  walk_at "go"
  refine go_dcI (fun i acc M' => M2 = M' ∧ acc = dSeen ((B.take i).map Sum.inl)) ⟨rfl, rfl⟩ (fun i d acc M' KY KN hd hI hY hN => ?_) (fun acc M' hI => ?_)
  · obtain ⟨rfl, rfl⟩ := hI
    rw [List.getElem?_map] at hd
    obtain ⟨v, hv, rfl⟩ := Option.map_eq_some_iff.mp hd
    walk_at "goS"
    refine hY _ _ (.inl v) _ rfl ⟨rfl, ?_⟩
    rw [putD_new (fun z => nodup_take bn hv (mem_inl.mp z)), List.take_add_one, hv]
    simp
  obtain ⟨rfl, rfl⟩ := hI
  rw [List.length_map, List.take_length]
  walk_at "go"
  refine ⟨afterS rs, p, rfl, g.rgs, p0, by rw [gl]; exact p1, fun F1 hF1 fn fm => ?_⟩
  have rgF : ∀ v ∈ F1, 0 ≤ v ∧ v < ((afterS rs).length : Int) := fun v hv => ((fm v).mp hv).stay (P := fun v => 0 ≤ v ∧ v < ((afterS rs).length : Int)) ⟨p0, by rw [gl]; exact p1⟩ fun k y _ hy => g.succ hy
  have hFl := nodup_le fn rgF
  have hF6 : (dInts F1).length ≤ 1000000 := by rw [List.length_map]; omega
  walk_at "go"
  refine go_dcI (fun i acc M' => M2 = M' ∧ acc = dSeen (((F1.take i).filter fun v => decide (v ∈ B)).map Sum.inl)) ⟨rfl, rfl⟩ (fun i d acc M' KY KN hd hI hY hN => ?_) (fun acc M' hI => ?_)
  · obtain ⟨rfl, rfl⟩ := hI
    rw [List.getElem?_map] at hd
    obtain ⟨v, hv, rfl⟩ := Option.map_eq_some_iff.mp hd
    have step : (F1.take (i + 1)).filter (fun v => decide (v ∈ B)) = (F1.take i).filter (fun v => decide (v ∈ B)) ++ (if v ∈ B then [v] else []) := by
      rw [List.take_add_one, hv, List.filter_append]
      congr 1
      simp only [Option.toList_some, List.filter_cons, List.filter_nil]
      by_cases z : v ∈ B <;> simp [z]
    walk_at "goS"
    refine go_inD rfl (getDk_dKs (kk := .inl v) rfl) ?_
    rw [valD_dSeen]
    walk_at "goS"
    refine go_ite (fun e => ?_) (fun e => ?_)
    · have e : v ∈ B := by simpa [mem_inl] using e
      walk_at "goS"
      refine hY _ _ (.inl v) _ rfl ⟨rfl, ?_⟩
      rw [putD_new (fun z => nodup_take fn hv (List.mem_filter.mp (mem_inl.mp z)).1), step, if_pos e]
      simp
    · have e : v ∉ B := by simpa [mem_inl] using e
      refine hN _ ⟨rfl, ?_⟩
      rw [step, if_neg e, List.append_nil]
  obtain ⟨rfl, rfl⟩ := hI
  rw [List.length_map, List.take_length]
  have hof : HallOf rs p (F1.filter fun v => decide (v ∈ B)) := by
    refine ⟨fn.filter _, fun v => ?_, fun v hv => by have := rgF v (List.mem_filter.mp hv).1; omega⟩
    rw [List.mem_filter, fm, decide_eq_true_eq, bm, rch_back bk g p0 (by rw [gl]; exact p1)]
    constructor
    · rintro ⟨a, _, _, b⟩
      exact ⟨a, b⟩
    · rintro ⟨a, b⟩
      have := rgF v ((fm v).mpr a)
      exact ⟨a, this.1, this.2, b⟩
  have hex : F1.filter (fun v => decide (v ∈ B)) = hallF rs p := by
    unfold hallF
    rw [← hF1]
    refine List.filter_congr fun v hv => ?_
    have hiff : v ∈ B ↔ Rch (succS (afterS rs)) v p := by
      rw [bm, rch_back bk g p0 (by rw [gl]; exact p1)]
      exact ⟨fun h => h.2.2, fun h => ⟨(rgF v hv).1, (rgF v hv).2, h⟩⟩
    exact decide_eq_decide.mpr hiff
  generalize F1.filter (fun v => decide (v ∈ B)) = F at hof hex
  have hFl2 : F.length ≤ rs.length := nodup_le hof.nd hof.rg
  have hpF : p ∈ F := (hof.mem p).mpr .rfl
  walk_at "go"
  rw [keys_dSeen]
  have hF6' : (dInts F).length ≤ 1000000 := by rw [List.length_map]; omega
  refine ⟨hF6', ?_⟩
  refine go_dcI (fun i acc M' => M2 = M' ∧ acc = hallG (F.take i) (hallRow rs F)) ⟨rfl, rfl⟩ (fun i d acc M' KY KN hd hI hY hN => ?_) (fun acc M' hI => ?_)
  · obtain ⟨rfl, rfl⟩ := hI
    rw [List.getElem?_map] at hd
    obtain ⟨v, hv, rfl⟩ := Option.map_eq_some_iff.mp hd
    obtain ⟨v0, v1⟩ := hof.rg v (List.mem_of_getElem? hv)
    obtain ⟨r, hr, hrm, er⟩ := room_at v0 v1
    have hro := rowOf_at hr
    have hrw := (gr r hrm).len
    walk_at "goS"
    refine go_lcI (fun j acc M' => M2 = M' ∧ acc = (hrow r.2 F j).map dArr) ⟨rfl, rfl⟩ (fun j d acc M' KY2 KN2 hd2 hI2 hY2 hN2 => ?_) (fun acc M' hI2 => ?_)
    · obtain ⟨rfl, rfl⟩ := hI2
      obtain ⟨y, hy, rfl⟩ := enumD_get hd2
      rw [List.getElem?_map] at hy
      obtain ⟨t, ht, rfl⟩ := Option.map_eq_some_iff.mp hy
      have step := hrow_succ (F := F) ht
      walk_at "goS"
      refine go_inD rfl (getDk_dKs (kk := .inl t) rfl) ?_
      rw [valD_dSeen]
      walk_at "goS"
      refine go_ite (fun e => ?_) (fun e => ?_)
      · have e : t ∈ F := by simpa [mem_inl] using e
        walk_at "goS"
        refine hY2 _ _ ⟨rfl, ?_⟩
        rw [step, if_pos e]
        simp
      · have e : t ∉ F := by simpa [mem_inl] using e
        refine hN2 _ ⟨rfl, ?_⟩
        rw [step, if_neg e, List.append_nil]
    · obtain ⟨rfl, rfl⟩ := hI2
      rw [length_enumD, List.length_map]
      refine hY _ _ (.inl v) _ rfl ⟨rfl, ?_⟩
      rw [show (hrow r.2 F r.2.length) = hallRow rs F v by unfold hallRow; rw [hro], putD_hall (nodup_take hof.nd hv), List.take_add_one, hv]
      rfl
  obtain ⟨rfl, rfl⟩ := hI
  rw [List.length_map, List.take_length]
  walk_at "go"
  refine go_ixGet (hall_at hpF) ?_
  walk_at "go"
  have hcyc : Cyc (succS (afterS rs)) p ↔ hallRow rs F p ≠ [] := by
    obtain ⟨r, hr, hrm, er⟩ := room_at p0 p1
    have hro := rowOf_at hr
    constructor
    · rintro ⟨t, ht, hrc⟩ z
      obtain ⟨h1, h2⟩ := (after_mem hr).mp ht
      obtain ⟨x, hx⟩ := List.getElem?_of_mem h1
      have : ((x : Int), t) ∈ hallRow rs F p := by
        unfold hallRow
        rw [hro]
        exact hrow_mem.mpr ⟨by simp, by simpa using hx, (hof.mem t).mpr ⟨.one ht, hrc⟩⟩
      rw [z] at this
      simp at this
    · intro z
      obtain ⟨e, he⟩ := List.exists_mem_of_ne_nil _ z
      unfold hallRow at he
      rw [hro] at he
      obtain ⟨h1, h2, h3⟩ := hrow_mem.mp he
      have h4 := hof.rg _ h3
      exact ⟨e.2, (after_mem hr).mpr ⟨List.mem_of_getElem? h2, h4.1⟩, ((hof.mem _).mp h3).2⟩
  refine go_ite (fun e => ?_) (fun e => ?_)
  · walk_at "go"
    exact DL.Fin.sub sb (q1 (hcyc.mpr fun z => by rw [z] at e; simp at e) F hex hof)
  · walk_at "go"
    refine DL.Fin.sub sb (q0 fun z => ?_)
    have := hcyc.mp z
    cases h : hallRow rs F p with
    | nil => exact this h
    | cons => rw [h] at e; simp at e
end
end L29

set_option Elab.async false
set_option linter.all false
set_option maxRecDepth 100000
set_option maxHeartbeats 4000000
namespace L29
open PySem PySem.Spec PyProof.Rows L2 DL
open P29 (Pr Cov Reach Bad At Room)
abbrev sccR (rs : List Rm) (u v : Int) : Prop := Scc (succS (afterS rs)) u v
open Classical in
/-- the rooms without the steps that leave their hall -/
noncomputable def strip (rs : List Rm) : List Rm := (List.range rs.length).map fun (k : Nat) => (clsR rs (k : Int), (rowOf rs (k : Int)).map fun t => if 0 ≤ t ∧ sccR rs (k : Int) t then t else -1)
theorem strip_len {rs : List Rm} : (strip rs).length = rs.length := by simp [strip]
open Classical in
theorem strip_get {rs : List Rm} {k : Nat} {r : Rm} (h : rs[k]? = some r) : (strip rs)[k]? = some (r.1, r.2.map fun t => if 0 ≤ t ∧ sccR rs (k : Int) t then t else -1) := by
  have hk := (List.getElem?_eq_some_iff.mp h).1
  unfold strip
  rw [List.getElem?_map, List.getElem?_range hk]
  have e1 : rowOf rs (k : Int) = r.2 := rowOf_at (by simpa using h)
  have e2 : clsR rs (k : Int) = r.1 := by unfold clsR; rw [List.getD_eq_getElem?_getD, List.getElem?_map, Int.toNat_natCast, h]; rfl
  simp only [Option.map_some, e1, e2]
theorem at_row {rs : List Rm} {u t : Int} {x : Nat} : At rs u x t ↔ 0 ≤ u ∧ u < (rs.length : Int) ∧ (rowOf rs u)[x]? = some t := by
  constructor
  · rintro ⟨u0, r, h1, h2⟩
    have := (List.getElem?_eq_some_iff.mp h1).1
    exact ⟨u0, by omega, by rw [rowOf_at h1]; exact h2⟩
  · rintro ⟨u0, u1, h⟩
    have e : rs[u.toNat]? = some (rs[u.toNat]'(by omega)) := List.getElem?_eq_getElem (by omega)
    rw [rowOf_at e] at h
    exact ⟨u0, _, e, h⟩
open Classical in
theorem strip_at {rs : List Rm} {u t : Int} {x : Nat} (t0 : 0 ≤ t) : At (strip rs) u x t ↔ At rs u x t ∧ sccR rs u t := by
  constructor
  · rintro ⟨u0, r, h1, h2⟩
    have hu := (List.getElem?_eq_some_iff.mp h1).1
    rw [strip_len] at hu
    have e : rs[u.toNat]? = some (rs[u.toNat]'hu) := List.getElem?_eq_getElem hu
    rw [strip_get e] at h1
    cases h1
    rw [List.getElem?_map] at h2
    obtain ⟨y, hy, hz⟩ := Option.map_eq_some_iff.mp h2
    have eu : ((u.toNat : Nat) : Int) = u := by omega
    rw [eu] at hz
    split at hz
    · rename_i q
      subst hz
      exact ⟨⟨u0, _, e, hy⟩, q.2⟩
    · omega
  · rintro ⟨⟨u0, r, h1, h2⟩, h3⟩
    refine ⟨u0, _, strip_get h1, ?_⟩
    have eu : ((u.toNat : Nat) : Int) = u := by omega
    rw [List.getElem?_map, h2, eu]
    simp only [Option.map_some]
    rw [if_pos ⟨t0, h3⟩]
theorem at_step {web : List (List Int)} {many : Int} {rs : List Rm} (g : GoodRs web many rs) {k x : Int} (k0 : 0 ≤ k) (k1 : k < (rs.length : Int)) (x0 : 0 ≤ x) (x1 : x < many) : At rs k x.toNat (stepR rs k x) := by
  obtain ⟨r, hr, hrm, _⟩ := room_at k0 k1
  have hl := (g r hrm).len
  obtain ⟨t, ht, _, _⟩ := int_at (cs := r.2) x0 (by omega)
  refine ⟨k0, r, hr, ?_⟩
  rw [ht]
  unfold stepR
  rw [if_pos k0, List.getD_eq_getElem?_getD (l := rs.map (·.2)), List.getElem?_map, hr]
  show some t = some (r.2.getD x.toNat (-1))
  rw [getD_of ht]
theorem at_fun {rs : List Rm} {k t s : Int} {x : Nat} (h : At rs k x t) (h2 : At rs k x s) : t = s := by
  obtain ⟨_, r, a, b⟩ := h
  obtain ⟨_, r', a', b'⟩ := h2
  rw [a] at a'
  cases a'
  rw [b] at b'
  exact Option.some.inj b'
theorem step_of_at {web : List (List Int)} {many : Int} {rs : List Rm} (g : GoodRs web many rs) {k t : Int} {x : Nat} (h : At rs k x t) : (x : Int) < many ∧ stepR rs k (x : Int) = t := by
  obtain ⟨k0, r, h1, h2⟩ := h
  have hk := (List.getElem?_eq_some_iff.mp h1).1
  have hl := (g r (List.mem_of_getElem? h1)).len
  have hx := (List.getElem?_eq_some_iff.mp h2).1
  have hx2 : (x : Int) < many := by omega
  exact ⟨hx2, at_fun (by have := at_step g k0 (by omega) (x := (x : Int)) (by omega) hx2; simpa using this) ⟨k0, r, h1, h2⟩⟩
theorem after_at {rs : List Rm} {u t : Int} (u0 : 0 ≤ u) (u1 : u < (rs.length : Int)) : t ∈ succS (afterS rs) u ↔ (∃ x, At rs u x t) ∧ 0 ≤ t := by
  obtain ⟨r, hr, hrm, _⟩ := room_at u0 u1
  rw [after_mem hr]
  constructor
  · rintro ⟨a, b⟩
    obtain ⟨x, hx⟩ := List.getElem?_of_mem a
    exact ⟨⟨x, u0, r, hr, hx⟩, b⟩
  · rintro ⟨⟨x, _, r', h1, h2⟩, b⟩
    rw [hr] at h1
    cases h1
    exact ⟨List.mem_of_getElem? h2, b⟩
theorem hallRow_mem {rs : List Rm} {F : List Int} {v : Int} (v0 : 0 ≤ v) (v1 : v < (rs.length : Int)) {p : Int × Int} : p ∈ hallRow rs F v ↔ 0 ≤ p.1 ∧ At rs v p.1.toNat p.2 ∧ p.2 ∈ F := by
  unfold hallRow
  rw [hrow_mem, at_row]
  constructor
  · rintro ⟨a, b, c⟩
    exact ⟨a, ⟨v0, v1, b⟩, c⟩
  · rintro ⟨a, ⟨_, _, b⟩, c⟩
    exact ⟨a, b, c⟩
theorem HallOf.wd {web : List (List Int)} {many : Int} {rs : List Rm} {p : Int} {F : List Int} (g : GoodRs web many rs) (hl : rs.length ≤ 100) (hm : many ≤ 200) (h : HallOf rs p F) : HallW F (hallRow rs F) := by
  refine ⟨h.nd, by have := nodup_le h.nd h.rg; omega, fun v hv => ?_, fun v hv e he => ?_⟩
  · obtain ⟨v0, v1⟩ := h.rg v hv
    obtain ⟨r, hr, hrm, _⟩ := room_at v0 v1
    have := (g r hrm).len
    unfold hallRow
    rw [rowOf_at hr]
    have := hrow_len (row := r.2) (F := F) (j := r.2.length)
    omega
  · obtain ⟨v0, v1⟩ := h.rg v hv
    exact ((hallRow_mem v0 v1).mp he).2.2
/-- within a hall each leads to each -/
theorem HallOf.path {rs : List Rm} {p : Int} {F : List Int} (h : HallOf rs p F) {u v : Int} (hu : u ∈ F) (hv : v ∈ F) : ∃ w, HP (hallRow rs F) u w v := by
  have hr : Rch (succS (afterS rs)) u v := ((h.mem u).mp hu).2.trans ((h.mem v).mp hv).1
  have key : ∀ {x y : Int}, Rch (succS (afterS rs)) x y → y = v → x ∈ F → ∃ w, HP (hallRow rs F) x w v := fun {x y} hxy => by
    induction hxy with
    | refl => intro e _; rw [e]; exact ⟨[], .nil⟩
    | @step x t y ht hty ih =>
      intro e hx
      subst e
      have htF : t ∈ F := (h.mem t).mpr ⟨((h.mem x).mp hx).1.snoc ht, hty.trans ((h.mem y).mp hv).2⟩
      obtain ⟨w, hw⟩ := ih rfl htF
      obtain ⟨x0, x1⟩ := h.rg x hx
      obtain ⟨⟨l, hl⟩, t0⟩ := (after_at x0 x1).mp ht
      have h1 : HP (hallRow rs F) x ([] ++ [(l : Int)]) t := .snoc .nil ((hallRow_mem x0 x1).mpr ⟨by simp, by simpa using hl, htF⟩)
      exact ⟨_, h1.app hw⟩
  exact key hr rfl hu
/-- a way within a hall is stepped -/
theorem HP.run {web : List (List Int)} {many : Int} {rs : List Rm} {F : List Int} (g : GoodRs web many rs) {p u v : Int} {w : List Int} (ho : HallOf rs p F) (hu : u ∈ F) (h : HP (hallRow rs F) u w v) : Ltr many w ∧ runR rs u w = v ∧ v ∈ F := by
  induction h with
  | nil => exact ⟨fun x hx => by simp at hx, rfl, hu⟩
  | @snoc w v x t _ hx ih =>
    obtain ⟨h1, h2, h3⟩ := ih
    obtain ⟨v0, v1⟩ := ho.rg v h3
    obtain ⟨x0, ha, ht⟩ := (hallRow_mem v0 v1).mp hx
    have x0 : 0 ≤ x := x0
    have ha : At rs v x.toNat t := ha
    obtain ⟨hm, hs⟩ := step_of_at g ha
    have ex : ((x.toNat : Nat) : Int) = x := by omega
    rw [ex] at hm hs
    refine ⟨fun y hy => ?_, ?_, ht⟩
    · rcases List.mem_append.mp hy with hy | hy
      · exact h1 y hy
      · rcases List.mem_singleton.mp hy with rfl
        exact ⟨x0, hm⟩
    · rw [runR_app, h2]
      exact hs
theorem lone_cov {rs ss : List Rm} {p q : Int} (p0 : 0 ≤ p) (p1 : p < (rs.length : Int)) (hc : ¬ Cyc (succS (afterS rs)) p) : Cov (strip rs) ss (p, q) := by
  have no : ∀ x t, At (strip rs) p x t → 0 ≤ t → False := fun x t h t0 => by
    obtain ⟨h1, h2⟩ := (strip_at t0).mp h
    exact hc ⟨t, (after_at p0 p1).mpr ⟨⟨x, h1⟩, t0⟩, h2.2⟩
  refine P29.cov_closed (· = (p, q)) rfl (fun e x t s he a b t0 s0 => ?_) (fun e he hb => ?_)
  · subst he
    exact (no x t a t0).elim
  · subst he
    obtain ⟨x, t, s, a, b, t0, s0⟩ := hb
    exact no x t a t0
end L29

set_option Elab.async false
set_option linter.all false
set_option maxRecDepth 100000
set_option maxHeartbeats 4000000
namespace L29
open PySem PySem.Spec PyProof.Rows L2 DL
open P29 (Pr Cov Reach Bad At Room)
abbrev Came2 := List (Pr × Option (Pr × Int))
def oD2 : Option (Pr × Int) → D
  | none => .non
  | some p => .tup [dPair p.1, .int p.2]
def dCame2 (c : Came2) : List (List Key × D) := c.map fun e => (pk e.1, oD2 e.2)
theorem pk_inj : ∀ a b : Pr, pk a = pk b → a = b := fun a b h => pk_eq.mp h
theorem BackC.back2 {M : Mp} {c : Came2} {pc : Addr} (hM : M pc = some (.dT (dCame2 c))) (nd : (c.map (·.1)).Nodup) {v : Pr} {ls : List Int} {n : Nat} (h : BackC c v ls n) : Back M (.ref pc) (dPair v) ls n := by
  induction h with
  | root h => exact .root ((getDk_dT (kk := pk _) hM rfl).trans (congrArg some (valD_map (vf := oD2) pk_inj nd h)))
  | step h _ ih => exact .step ((getDk_dT (kk := pk _) hM rfl).trans (congrArg some (valD_map (vf := oD2) pk_inj nd h))) ih
theorem came2_in (v : Pr) (c : Came2) : (valD (dCame2 c) (pk v)).isSome = decide (v ∈ c.map (·.1)) := by
  by_cases h : v ∈ c.map (·.1)
  · rw [decide_eq_true h]
    obtain ⟨e, he, rfl⟩ := List.mem_map.mp h
    unfold valD dCame2
    rw [Option.isSome_map, List.find?_isSome]
    exact ⟨_, List.mem_map.mpr ⟨e, he, rfl⟩, by simp⟩
  · rw [decide_eq_false h, show valD (dCame2 c) (pk v) = none from valD_mapNo (vf := oD2) pk_inj h]
    rfl
/-- a loop at a room, within its hall, that another room cannot step -/
structure KillW (rs ss : List Rm) (F : List Int) (p q : Int) (w : List Int) : Prop where
  hp : HP (hallRow rs F) p w p
  ng : runR ss q w < 0
  le : w.length ≤ rs.length * ss.length + rs.length + 1
structure Two2 (web : List (List Int)) (many : Int) (rs ss : List Rm) (p : Int) : Prop where
  gr : GoodRs web many rs
  gs : GoodRs web many ss
  lr : rs.length ≤ 30
  ls : ss.length ≤ 30
  m : many ≤ 200
  p0 : 0 ≤ p
  p1 : p < (rs.length : Int)
/-- the search, as it is made -/
def klRow (ss : List Rm) (t : Pr) : List (Int × Int) → List Pr → Came2 → ((Int × Int) × Came2) ⊕ (List Pr × Came2)
  | [], fd, c => .inr (fd, c)
  | z :: zs, fd, c => if stepR ss t.2 z.1 < 0 then .inl (z, c) else if (z.2, stepR ss t.2 z.1) ∈ fd then klRow ss t zs fd c else klRow ss t zs (fd ++ [(z.2, stepR ss t.2 z.1)]) (c ++ [((z.2, stepR ss t.2 z.1), some (t, z.1))])
def klRun (ss : List Rm) (row : Int → List (Int × Int)) : Nat → Nat → List Pr → Came2 → Option (Pr × (Int × Int) × Came2)
  | 0, _, _, _ => none
  | m + 1, i, fd, c => match fd[i]? with
    | none => none
    | some t => match klRow ss t (row t.1) fd c with
      | .inl x => some (t, x.1, x.2)
      | .inr x => klRun ss row m (i + 1) x.1 x.2
theorem klRun_end {ss : List Rm} {row : Int → List (Int × Int)} {m i : Nat} {fd : List Pr} {c : Came2} (h : fd.length ≤ i) : klRun ss row m i fd c = none := by
  cases m with
  | zero => rfl
  | succ m => rw [klRun, List.getElem?_eq_none h]
open Classical in
noncomputable def klF (rs ss : List Rm) (p q : Int) : Option (List Int) := if Cyc (succS (afterS rs)) p then
    match klRun ss (hallRow rs (hallF rs p)) (rs.length * ss.length + 1) 0 [(p, q)] [((p, q), none)] with
    | none => none
    | some x => some ((wordOf x.2.2 x.1).reverse ++ [x.2.1.1] ++ swW (hallRow rs (hallF rs p)) x.2.1.2 p ((hallF rs p).length + 1))
  else none
def sp_killing_loop : aSp := fun ds M Q => ∃ web many rs ss p q S, ds = [S, .int p, .list (dRooms ss), .int q] ∧ Two2 web many rs ss p ∧ 0 ≤ q ∧ q < (ss.length : Int) ∧ (klF rs ss p q = none → Cov (strip rs) ss (p, q) → Q .non M) ∧
  ((S = .dK [] ∧ ¬ Cyc (succS (afterS rs)) p) ∨ (∃ F, S = dHall F (hallRow rs F) ∧ F = hallF rs p ∧ Cyc (succS (afterS rs)) p ∧ HallOf rs p F ∧ (¬ Cov (strip rs) ss (p, q) → ∀ w, klF rs ss p q = some w → KillW rs ss F p q w → Q (.list (dInts w)) M)))
/-- the pairs found so far -/
structure Kw (rs ss : List Rm) (F : List Int) (p q : Int) (fd : List Pr) (c : Came2) : Prop where
  ks : c.map (·.1) = fd
  nd : fd.Nodup
  rg : ∀ e ∈ fd, e.1 ∈ F ∧ 0 ≤ e.2 ∧ e.2 < (ss.length : Int)
  bk : ∀ e ∈ fd, ∃ ls n, n < fd.length ∧ BackC c e ls n ∧ HP (hallRow rs F) p ls.reverse e.1 ∧ runR ss q ls.reverse = e.2
  rc : ∀ e ∈ fd, Reach (strip rs) ss (p, q) e
  st : (p, q) ∈ fd
def DoneE (rs ss : List Rm) (F : List Int) (fd : List Pr) (e : Pr) : Prop := ∀ z ∈ hallRow rs F e.1, ∃ s, At ss e.2 z.1.toNat s ∧ 0 ≤ s ∧ (z.2, s) ∈ fd
section
variable {P : Program} {w : World} {K : PySem.W.Frag} {mg : Str → Option Value} {base : Heap} {a : Ad}
theorem ok_killing_loop (T : TX K mg a) : FnOk P w K mg base CX0 3 a.f_killing_loop a.fd_killing_loop ["steps", "room", "rooms", "start"] (lift K 4 sp_killing_loop) := by
  refine okD (k := 2) T.fn_killing_loop sc_killing_loop rfl fun cdv A outer s H E hr => ⟨_, _, (dss_cons (ds_if (dt_not (dt_tru (dv 0))) (dss_one (ds_ret de_non)) dss_nil)
      (dss_cons (ds_set (j := 4) sc_killing_loop.nd rfl (by first | exact .inl rfl | exact .inr rfl) (de_lstM (da_cons (de_tup (da_cons (dv 1) (da_cons (dv 3) da_nil))) da_nil)))
      (dss_cons (ds_set (j := 5) sc_killing_loop.nd rfl (by first | exact .inl rfl | exact .inr rfl) (de_dispT (hu_of hr) (dps_cons (de_tup (da_cons (dv 1) (da_cons (dv 3) da_nil))) de_non dps_nil)))
      (dss_cons (ds_set (j := 6) sc_killing_loop.nd rfl (by first | exact .inl rfl | exact .inr rfl) de_int)
      (dss_cons (ds_while (dt_cmp op_lt s2_lt (dv 6) (de_callB call_lenA sl_len (by rfl) T.b_len (by decide +kernel) (da_cons (dv 4) da_nil)) (nomark _)) (dss_cons (ds_asg (de_ix (hu_of hr) (dv 4) (dv 6) (fun _ _ => rfl)) (dg_tup (dgs_cons (dg_name (j := 7) sc_killing_loop.nd rfl (by first | exact .inl rfl | exact .inr rfl)) (dgs_cons (dg_name (j := 8) sc_killing_loop.nd rfl (by first | exact .inl rfl | exact .inr rfl)) dgs_nil))))
      (dss_cons (ds_for (di_seq (de_ix (hu_of hr) (dv 0) (dv 7) (fun _ _ => rfl))) (dg_tup (dgs_cons (dg_name (j := 9) sc_killing_loop.nd rfl (by first | exact .inl rfl | exact .inr rfl)) (dgs_cons (dg_name (j := 10) sc_killing_loop.nd rfl (by first | exact .inl rfl | exact .inr rfl)) dgs_nil))) (dss_cons (ds_set (j := 11) sc_killing_loop.nd rfl (by first | exact .inl rfl | exact .inr rfl) (de_ix (hu_of hr) (de_ix (hu_of hr) (de_ix (hu_of hr) (dv 2) (dv 8) (fun _ _ => rfl)) de_int (fun _ _ => rfl)) (dv 9) (fun _ _ => rfl)))
      (dss_cons (ds_if (dt_cmp op_lt s2_lt (dv 11) de_int (nomark _)) (dss_one (ds_ret (de_add (de_add (de_call (ok_way_back T) (hr.mono (by decide)) (by rfl) T.mg_way_back T.kp_way_back T.bd_way_back pass0 (da_cons (dv 5) (da_cons (de_tup (da_cons (dv 7) (da_cons (dv 8) da_nil))) da_nil))) (de_lst (da_cons (dv 9) da_nil))) (de_ix (hu_of hr) (de_call (ok_shortest_way T) (hr.mono (by decide)) (by rfl) T.mg_shortest_way T.kp_shortest_way T.bd_shortest_way pass0 (da_cons (dv 0) (da_cons (dv 10) (da_cons (de_dispK (dps_cons (dv 1) de_bl dps_nil)) da_nil)))) de_int (fun _ _ => rfl))))) dss_nil)
      (dss_one (ds_if (dt_cmp (op_notInA (hu_of hr)) s2_in (de_tup (da_cons (dv 10) (da_cons (dv 11) da_nil))) (dv 5) (by rfl)) (dss_cons (ds_dput (hu_of hr) (dv 5) (de_tup (da_cons (dv 10) (da_cons (dv 11) da_nil))) (de_tup (da_cons (de_tup (da_cons (dv 7) (da_cons (dv 8) da_nil))) (da_cons (dv 9) da_nil))))
      (dss_one (ds_expr (de_bm PySem.F.plainAttrs_list PySem.F.slot_list_append PySem.F.type_list_append mt_append sm_append (.inl rfl) (dv 4) (da_cons (de_tup (da_cons (dv 10) (da_cons (dv 11) da_nil))) da_nil))))) dss_nil)))) PassesOwn.never)
      (dss_one (ds_aug iop_add (s2_I0 fun _ _ _ => .int _) (j := 6) sc_killing_loop.nd rfl (by first | exact .inl rfl | exact .inr rfl) de_int)))) PassesOwn.never)
      (dss_one (ds_ret de_non))))))), fun ds M Q hl h => ?_⟩
  obtain ⟨web, many, rs, ss, p, q, S, rfl, two, k0, k1, hno, hS⟩ := h
  have hlr := two.lr
  have hls := two.ls
  walk_at "start"
  rcases hS with ⟨rfl, hc⟩ | ⟨F, rfl, hF, hcy, ho, hyes⟩
  · walk_at "goS"
    exact Fin.of (hno (by rw [klF, if_neg hc]) (lone_cov two.p0 two.p1 hc))
  have hw := ho.wd two.gr (by omega) two.m
  have hle := hw.le
  have hpF : p ∈ F := (ho.mem p).mpr .rfl
  have hFl : F.length ≤ rs.length := nodup_le ho.nd ho.rg
  have hmul : rs.length * ss.length ≤ 30 * 30 := Nat.mul_le_mul hlr hls
  have hne : (hallG F (hallRow rs F)).isEmpty = false := by
    cases F with
    | nil => simp at hpF
    | cons => rfl
  walk_at "goS"
  refine go_ite (fun e => by rw [hne] at e; simp at e) (fun _ => ?_)
  walk_at "goS"
  intro pf hpf
  walk_at "goS"
  intro pc hpc
  have ncf : pc ≠ pf := fun z => by subst z; rw [mupd_same] at hpc; cases hpc
  have hMc : M pc = none := by rw [mupd_ne ncf] at hpc; exact hpc
  walk_at "go"
  rw [merge_one]
  refine go_seqK (J := fun G' M' => Sub M M' ∧ klF rs ss p q = none ∧ Cov (strip rs) ss (p, q)) (fun nx hk => ?_) (fun G' M' hJ => ?_)
  · refine go_whileI (W := fun m G' M' => ∃ (x7 x8 x9 x10 x11 : Option D) (fd : List Pr) (c : Came2) (i : Nat), G' = [some (dHall F (hallRow rs F)), some (.int p), some (.list (dRooms ss)), some (.int q), some (.ref pf), some (.ref pc), some (.int (i : Int)), x7, x8, x9, x10, x11] ∧ Sub M M' ∧
      M' pf = some (.lst (dPairs fd)) ∧ M' pc = some (.dT (dCame2 c)) ∧ Kw rs ss F p q fd c ∧ i ≤ fd.length ∧ (∀ e ∈ fd.take i, DoneE rs ss F fd e) ∧ m + i = rs.length * ss.length + 1 ∧ klRun ss (hallRow rs F) m i fd c = klRun ss (hallRow rs F) (rs.length * ss.length + 1) 0 [(p, q)] [((p, q), none)]) (rs.length * ss.length + 1) ?_ (fun m G' M' nx' hW hn => ?_)
    · refine ⟨_, _, _, _, _, [(p, q)], [((p, q), none)], 0, rfl, sub_mupd (sub_mupd (fun _ _ h => h) hpf) hMc, by rw [mupd_ne (Ne.symm ncf)]; exact mupd_same, mupd_same, ⟨rfl, by simp, fun e he => ?_, fun e he => ?_, fun e he => ?_, by simp⟩, by simp, by simp, rfl, rfl⟩
      · rcases List.mem_singleton.mp he with rfl
        exact ⟨hpF, k0, k1⟩
      · rcases List.mem_singleton.mp he with rfl
        exact ⟨[], 0, by simp, .root (by simp), .nil, rfl⟩
      · rcases List.mem_singleton.mp he with rfl
        exact .refl
    · obtain ⟨x7, x8, x9, x10, x11, fd, cc, i, rfl, sb, c1, c2, kw, hi, hdn, hm, hrun⟩ := hW
      have rgp : ∀ {fd : List Pr} {c : Came2}, Kw rs ss F p q fd c → fd.length ≤ rs.length * ss.length := fun kw => P29.pairs_le kw.nd fun e he => by
        obtain ⟨a, b, c⟩ := kw.rg e he
        exact ⟨ho.rg _ a, b, c⟩
      have hfl := rgp kw
      walk_at "goS"
      refine go_ite (fun e => ?_) (fun e => ?_)
      · have e := of_decide_eq_true e
        simp only [List.length_map] at e
        obtain ⟨t, ht, htm, et⟩ := pair_at (F := fd) (i := (i : Int)) (by omega) e
        rw [Int.toNat_natCast] at ht
        obtain ⟨tF, o0, o1⟩ := kw.rg t htm
        obtain ⟨t0, t1⟩ := ho.rg _ tF
        have ehk : ∀ {M' : Mp}, getDk M' (dHall F (hallRow rs F)) (.int t.1) = some (some (.list ((hallRow rs F t.1).map dArr))) := hall_at tF
        walk_at "goS"
        refine go_ixGet ehk ?_
        walk_at "goS"
        refine go_forI (fun j G' M' => ∃ (x9 x10 x11 : Option D) (E : List Pr) (c : Came2), G' = [some (dHall F (hallRow rs F)), some (.int p), some (.list (dRooms ss)), some (.int q), some (.ref pf), some (.ref pc), some (.int (i : Int)), some (.int t.1), some (.int t.2), x9, x10, x11] ∧ Sub M M' ∧
          M' pf = some (.lst (dPairs (fd ++ E))) ∧ M' pc = some (.dT (dCame2 c)) ∧ Kw rs ss F p q (fd ++ E) c ∧ klRow ss t ((hallRow rs F t.1).drop j) (fd ++ E) c = klRow ss t (hallRow rs F t.1) fd cc ∧ ∀ z ∈ (hallRow rs F t.1).take j, ∃ s, At ss t.2 z.1.toNat s ∧ 0 ≤ s ∧ (z.2, s) ∈ fd ++ E) ⟨_, _, _, [], cc, rfl, sb, by rw [List.append_nil]; exact c1, c2, by rw [List.append_nil]; exact kw, by rw [List.append_nil]; rfl, by simp⟩ (fun j d G' M' nx2 hd hI hn2 => ?_) (fun G' M' hI => ?_)
        · obtain ⟨x9, x10, x11, E, c, rfl, sb, c1, c2, kw2, hrel, hall⟩ := hI
          rw [List.getElem?_map] at hd
          obtain ⟨z, hz, rfl⟩ := Option.map_eq_some_iff.mp hd
          have hzm := List.mem_of_getElem? hz
          have hdj : (hallRow rs F t.1).drop j = z :: (hallRow rs F t.1).drop (j + 1) := by
            obtain ⟨a1, a2⟩ := List.getElem?_eq_some_iff.mp hz
            rw [List.drop_eq_getElem_cons a1, a2]
          rw [hdj, klRow] at hrel
          obtain ⟨z0, hza, hzF⟩ := (hallRow_mem t0 t1).mp hzm
          obtain ⟨zg0, zg1⟩ := ho.rg _ hzF
          have hzx := (step_of_at two.gr hza).1
          have z1 : z.1 < many := by omega
          obtain ⟨rm, er, es, _⟩ := atStepR two.gs o0 o1 z0 z1
          have has := at_step two.gs o0 o1 z0 z1
          have hfl2 := rgp kw2
          have hat : At (strip rs) t.1 z.1.toNat z.2 := (strip_at zg0).mpr ⟨hza, ((ho.mem _).mp tF).symm.trans ((ho.mem _).mp hzF)⟩
          have hrc := kw.rc t htm
          have tk : ∀ y ∈ (hallRow rs F t.1).take (j + 1), y ∈ (hallRow rs F t.1).take j ∨ y = z := fun y hy => by
            rw [List.take_add_one, hz] at hy
            rcases List.mem_append.mp hy with hy | hy
            · exact .inl hy
            · exact .inr (by simpa using hy)
          have nd2 : (c.map (·.1)).Nodup := by rw [kw2.ks]; exact kw2.nd
          obtain ⟨ls, n, hn1, hb1, hp1, hr1⟩ := kw2.bk t (List.mem_append_left _ htm)
          have hlen := hb1.len
          walk_at "goS"
          refine go_ite (fun e1 => ?_) (fun e1 => ?_)
          · have e1 := of_decide_eq_true e1
            rw [if_pos e1] at hrel
            have hnc : ¬ Cov (strip rs) ss (p, q) := fun hc => hc t hrc ⟨z.1.toNat, z.2, _, hat, has, zg0, e1⟩
            have hl2 : ls.reverse.length ≤ 1000 := by rw [List.length_reverse]; omega
            walk_at "goS"
            refine ⟨_, _, _, _, rfl, hb1.back2 c2 nd2, by omega, ?_⟩
            walk_at "goS"
            intro pg hpg
            rw [merge_one]
            walk_at "goS"
            refine ⟨F, hallRow rs F, z.2, p, pg, rfl, hw, mupd_same, hzF, ho.path hzF hpF, fun v hvE hv hvl => ?_⟩
            have hl3 : (dInts v).length ≤ 200 := by rw [List.length_map]; omega
            walk_at "goS"
            have hpw : HP (hallRow rs F) p (ls.reverse ++ [z.1] ++ v) p := (HP.snoc hp1 (by show (z.1, z.2) ∈ _; exact hzm)).app hv
            have hng : runR ss q (ls.reverse ++ [z.1] ++ v) < 0 := by
              rw [runR_app, runR_app, hr1]
              exact runR_neg v _ e1
            refine DL.Fin.sub (sub_mupd sb (sb.none hpg)) ?_
            have hkl : klF rs ss p q = some (ls.reverse ++ [z.1] ++ v) := by
              obtain ⟨m', rfl⟩ : ∃ m', m = m' + 1 := ⟨m - 1, by omega⟩
              rw [klF, if_pos hcy, ← hF, ← hrun, klRun, ht]
              simp only
              rw [← hrel]
              simp only
              rw [wordOf_eq nd2 hb1, hvE]
            have := hyes hnc _ hkl ⟨hpw, hng, by simp; omega⟩
            simpa [dInts] using this
          · have e1 := of_decide_eq_false e1
            rw [if_neg (show ¬ stepR ss t.2 z.1 < 0 by omega)] at hrel
            have s1 := (stepR_ok two.gs o0 o1 z0 (by omega : 0 ≤ stepR ss t.2 z.1)).1
            walk_at "goS"
            refine go_inD (itemsM_dT c2) (getDk_dT (kk := pk (z.2, stepR ss t.2 z.1)) c2 rfl) ?_
            rw [came2_in, kw2.ks]
            walk_at "goS"
            refine go_ite (fun e2 => ?_) (fun e2 => ?_)
            · have hny : (z.2, stepR ss t.2 z.1) ∉ fd ++ E := by
                simpa only [Bool.not_eq_true', decide_eq_false_iff_not, if_true, ↓reduceIte] using e2
              rw [if_neg hny] at hrel
              have hcl' : c.length ≤ 1000 := by
                have := congrArg List.length kw2.ks
                rw [List.length_map] at this
                omega
              have hlen3 : (dPairs (fd ++ E)).length ≤ 1000 := by rw [List.length_map]; omega
              have c1' : ∀ {x : MC}, (mupd M' pc x) pf = some (.lst (dPairs (fd ++ E))) := by
                intro x
                rw [mupd_ne (Ne.symm ncf)]; exact c1
              walk_at "goS"
              refine go_kdputT (kk := pk (z.2, stepR ss t.2 z.1)) c2 (by simp only [dCame2, List.length_map]; omega) rfl ?_
              rw [show putD (dCame2 c) (pk (z.2, stepR ss t.2 z.1)) (D.tup [D.tup [D.int t.1, D.int t.2], D.int z.1]) = dCame2 (c ++ [((z.2, stepR ss t.2 z.1), some (t, z.1))]) from putD_map (vf := oD2) (o := some (t, z.1)) pk_inj (by rw [kw2.ks]; exact hny)]
              walk_at "goS"
              refine hn2 _ _ ⟨_, _, _, E ++ [(z.2, stepR ss t.2 z.1)], c ++ [((z.2, stepR ss t.2 z.1), some (t, z.1))], rfl, sub_mupd (sub_mupd sb hMc) hpf, by rw [mupd_same]; simp [dPairs], by rw [mupd_ne ncf, mupd_same], ⟨by rw [List.map_append, kw2.ks]; simp, ?_, fun e he => ?_, fun e he => ?_, fun e he => ?_, ?_⟩, by rw [← List.append_assoc]; exact hrel, fun y hy => ?_⟩
              · rw [← List.append_assoc]
                exact List.nodup_append.mpr ⟨kw2.nd, by simp, fun a ha b hb e => by
                  rcases List.mem_singleton.mp hb with rfl
                  subst e
                  exact hny ha⟩
              · rw [← List.append_assoc] at he
                rcases List.mem_append.mp he with he | he
                · exact kw2.rg e he
                · rcases List.mem_singleton.mp he with rfl
                  exact ⟨hzF, by show 0 ≤ stepR ss t.2 z.1; omega, s1⟩
              · rw [← List.append_assoc] at he
                rcases List.mem_append.mp he with he | he
                · obtain ⟨ls', n', a1, a2, a3, a4⟩ := kw2.bk e he
                  exact ⟨ls', n', by simp only [List.length_append] at a1 ⊢; simp; omega, a2.mono fun e he => List.mem_append_left _ he, a3, a4⟩
                · rcases List.mem_singleton.mp he with rfl
                  refine ⟨z.1 :: ls, n + 1, by simp only [List.length_append] at hn1 ⊢; simp; omega, .step (by simp) (hb1.mono fun e he => List.mem_append_left _ he), ?_, ?_⟩
                  · rw [List.reverse_cons]
                    exact .snoc hp1 hzm
                  · rw [List.reverse_cons, runR_app, hr1]
                    rfl
              · rw [← List.append_assoc] at he
                rcases List.mem_append.mp he with he | he
                · exact kw2.rc e he
                · rcases List.mem_singleton.mp he with rfl
                  exact .step hrc hat has zg0 (by omega)
              · rw [← List.append_assoc]
                exact List.mem_append_left _ kw2.st
              · rw [← List.append_assoc]
                rcases tk y hy with h | rfl
                · obtain ⟨s, a, b, c⟩ := hall y h
                  exact ⟨s, a, b, List.mem_append_left _ c⟩
                · exact ⟨_, has, by omega, by simp⟩
            · have hyF : (z.2, stepR ss t.2 z.1) ∈ fd ++ E := by
                simpa only [Bool.not_eq_true', decide_eq_false_iff_not, if_true, ↓reduceIte, Bool.not_eq_true, Bool.not_eq_false', decide_eq_true_eq] using e2
              rw [if_pos hyF] at hrel
              refine hn2 _ _ ⟨_, _, _, E, c, rfl, sb, c1, c2, kw2, hrel, fun y hy => ?_⟩
              rcases tk y hy with h | rfl
              · exact hall y h
              · exact ⟨_, has, by omega, hyF⟩
        · obtain ⟨x9, x10, x11, E, c, rfl, sb, c1, c2, kw2, hrel, hall⟩ := hI
          rw [List.length_map] at hall hrel
          rw [List.take_length] at hall
          rw [List.drop_length, klRow] at hrel
          walk_at "goS"
          refine hn (m - 1) _ _ (by omega) ⟨_, _, _, _, _, fd ++ E, c, i + 1, rfl, sb, c1, c2, kw2, by simp; omega, fun y hy => ?_, by omega, ?_⟩
          rotate_left
          · obtain ⟨m', rfl⟩ : ∃ m', m = m' + 1 := ⟨m - 1, by omega⟩
            rw [← hrun, klRun, ht]
            simp only
            rw [← hrel]
            rfl
          have hy2 : y ∈ fd.take (i + 1) := by
            rw [List.take_append_of_le_length (by omega)] at hy
            exact hy
          rw [List.take_add_one, ht] at hy2
          rcases List.mem_append.mp hy2 with h | h
          · intro z hz
            obtain ⟨s, a, b, c⟩ := hdn y h z hz
            exact ⟨s, a, b, List.mem_append_left _ c⟩
          · have : y = t := by simpa using h
            subst this
            exact hall
      · have e := of_decide_eq_false e
        simp only [List.length_map] at e
        rw [List.take_of_length_le (by omega)] at hdn
        refine hk _ _ ⟨sb, by rw [klF, if_pos hcy, ← hF, ← hrun, klRun_end (by omega)], P29.cov_closed (· ∈ fd) kw.st (fun e x t s he a b t0 s0 => ?_) (fun e he hb => ?_)⟩
        · obtain ⟨eF, _⟩ := kw.rg e he
          obtain ⟨e0, e1⟩ := ho.rg _ eF
          obtain ⟨a1, a2⟩ := (strip_at t0).mp a
          have htF : t ∈ F := (ho.mem t).mpr (((ho.mem _).mp eF).trans a2)
          obtain ⟨s', b1, b2, b3⟩ := hdn e he ((x : Int), t) ((hallRow_mem e0 e1).mpr ⟨by simp, by simpa using a1, htF⟩)
          have : s = s' := at_fun b (by simpa using b1)
          subst this
          exact b3
        · obtain ⟨x, t, s, a, b, t0, s0⟩ := hb
          obtain ⟨eF, _⟩ := kw.rg e he
          obtain ⟨e0, e1⟩ := ho.rg _ eF
          obtain ⟨a1, a2⟩ := (strip_at t0).mp a
          have htF : t ∈ F := (ho.mem t).mpr (((ho.mem _).mp eF).trans a2)
          obtain ⟨s', b1, b2, b3⟩ := hdn e he ((x : Int), t) ((hallRow_mem e0 e1).mpr ⟨by simp, by simpa using a1, htF⟩)
          have : s = s' := at_fun b (by simpa using b1)
          omega
  · obtain ⟨sb, hnn, hc⟩ := hJ
    walk_at "go"
    exact DL.Fin.sub sb (hno hnn hc)
end
end L29

set_option Elab.async false
set_option linter.all false
set_option maxRecDepth 100000
set_option maxHeartbeats 4000000
namespace L29
open PySem PySem.Spec PyProof.Rows L2 DL
/-! ### rows in other writings are held alike -/
theorem iter_conj {f g h : Int → Int} (e : ∀ k, h (f k) = f (g k)) : ∀ (j : Nat) (k : Int), iter h j (f k) = f (iter g j k)
  | 0, k => rfl
  | j + 1, k => by
    show iter h j (h (f k)) = f (iter g j (g k))
    rw [e, iter_conj e j]
/-- a room steps a round for ever -/
def Live (rs : List Rm) (k : Int) (v : List Int) : Prop := ∀ j, 0 ≤ iter (fun k => runR rs k v) j k
/-- some room of a class that is come to at the end of a round steps the round for ever -/
def HeldS (web : List (List Int)) (rs : List Rm) (c : Int) (lead turn : List Int) : Prop :=
  ∃ (n : Nat) (k : Int), 0 ≤ k ∧ k < (rs.length : Int) ∧ clsR rs k = iter (fun c => runW web c turn) n (runW web c lead) ∧ Live rs k turn
theorem runR_pre {rs : List Rm} {k : Int} {a b : List Int} (h : 0 ≤ runR rs k (a ++ b)) : 0 ≤ runR rs k a := by
  by_cases q : 0 ≤ runR rs k a
  · exact q
  · rw [runR_app] at h
    have := runR_neg (rs := rs) b (runR rs k a) (by omega)
    omega
theorem Live.pre {rs : List Rm} {k : Int} {a b : List Int} (h : Live rs k (a ++ b)) : 0 ≤ runR rs k a := runR_pre (h 1)
theorem Live.push {rs : List Rm} {k : Int} {a b : List Int} (h : Live rs k (a ++ b)) : Live rs (runR rs k a) (b ++ a) := fun j => by
  have e := iter_conj (f := fun k => runR rs k a) (g := fun k => runR rs k (a ++ b)) (h := fun k => runR rs k (b ++ a)) (fun k => by
    show runR rs (runR rs k a) (b ++ a) = runR rs (runR rs k (a ++ b)) a
    rw [← runR_app, ← runR_app, List.append_assoc]) j k
  show 0 ≤ iter (fun k => runR rs k (b ++ a)) j (runR rs k a)
  rw [show iter (fun k => runR rs k (b ++ a)) j (runR rs k a) = runR rs (iter (fun k => runR rs k (a ++ b)) j k) a from e]
  have h1 := h (j + 1)
  rw [iter_succ] at h1
  exact runR_pre h1
section
variable {web : List (List Int)} {many : Int} {rs : List Rm}
theorem heldS_from (gr : GoodRs web many rs) {turn : List Int} (ht : ∀ x ∈ turn, 0 ≤ x ∧ x < many) {x k : Int} (h0 : 0 ≤ k) (h1 : k < (rs.length : Int)) : ∀ (m n : Nat), clsR rs k = iter (fun c => runW web c turn) n x → Live rs k turn →
    ∃ k, 0 ≤ k ∧ k < (rs.length : Int) ∧ clsR rs k = iter (fun c => runW web c turn) (n + m) x ∧ Live rs k turn
  | 0, n, hc, hl => ⟨k, h0, h1, hc, hl⟩
  | m + 1, n, hc, hl => by
    obtain ⟨k', a0, a1, ac, al⟩ := heldS_from gr ht h0 h1 m n hc hl
    have p := Live.pre (a := turn) (b := []) (by rw [List.append_nil]; exact al)
    obtain ⟨p1, p2⟩ := runR_ok gr turn k' ht a0 a1 p
    refine ⟨runR rs k' turn, p, p1, ?_, ?_⟩
    · rw [p2, ac, ← Nat.add_assoc, iter_succ]
    · have := Live.push (a := turn) (b := []) (by rw [List.append_nil]; exact al)
      simpa using this
/-- the round turned -/
theorem heldS_rot (gr : GoodRs web many rs) {a b : List Int} (ha : ∀ x ∈ a, 0 ≤ x ∧ x < many) (hb : ∀ x ∈ b, 0 ≤ x ∧ x < many) {c : Int} {lead : List Int} : HeldS web rs c (lead ++ a) (b ++ a) ↔ HeldS web rs c lead (a ++ b) := by
  have conj : ∀ (a b : List Int) (n : Nat) (x : Int), iter (fun c => runW web c (b ++ a)) n (runW web x a) = runW web (iter (fun c => runW web c (a ++ b)) n x) a := fun a b n x =>
    iter_conj (f := fun k => runW web k a) (g := fun k => runW web k (a ++ b)) (h := fun k => runW web k (b ++ a)) (fun k => by
      show runW web (runW web k a) (b ++ a) = runW web (runW web k (a ++ b)) a
      rw [← runW_app, ← runW_app, List.append_assoc]) n x
  constructor
  · rintro ⟨n, k, k0, k1, kc, hl⟩
    have p := hl.pre
    obtain ⟨p1, p2⟩ := runR_ok gr b k hb k0 k1 p
    refine ⟨n + 1, runR rs k b, p, p1, ?_, hl.push⟩
    rw [p2, kc, iter_succ, runW_app, conj, ← runW_app]
  · rintro ⟨n, k, k0, k1, kc, hl⟩
    have p := hl.pre
    obtain ⟨p1, p2⟩ := runR_ok gr a k ha k0 k1 p
    refine ⟨n, runR rs k a, p, p1, ?_, hl.push⟩
    rw [p2, kc, runW_app, conj]
/-- the round several times -/
theorem heldS_rep (gr : GoodRs web many rs) {t : List Int} (ht : ∀ x ∈ t, 0 ≤ x ∧ x < many) {c : Int} {lead : List Int} {m : Nat} (hm : 1 ≤ m) : HeldS web rs c lead (List.replicate m t).flatten ↔ HeldS web rs c lead t := by
  have eW : (fun c => runW web c (List.replicate m t).flatten) = iter (fun c => runW web c t) m := funext fun c => runW_rep m c
  have eR : (fun k => runR rs k (List.replicate m t).flatten) = iter (fun k => runR rs k t) m := funext fun k => runR_rep m k
  unfold HeldS Live
  rw [eW, eR]
  constructor
  · rintro ⟨n, k, k0, k1, kc, hl⟩
    refine ⟨m * n, k, k0, k1, by rw [kc, iter_mul], fun j => ?_⟩
    have := hl j
    rw [iter_mul] at this
    exact iter_le (fun k hk => runR_neg t k hk) (Nat.le_mul_of_pos_left _ hm) this
  · rintro ⟨n, k, k0, k1, kc, hl⟩
    have hmn : n ≤ m * n := Nat.le_mul_of_pos_left _ hm
    obtain ⟨k', a0, a1, ac, al⟩ := heldS_from gr ht k0 k1 (m * n - n) n kc hl
    refine ⟨n, k', a0, a1, by rw [iter_mul, ac]; congr 1; omega, fun j => ?_⟩
    rw [iter_mul]
    exact al _
/-- the round ahead of the round -/
theorem heldS_lead (gr : GoodRs web many rs) {t : List Int} (ht : ∀ x ∈ t, 0 ≤ x ∧ x < many) {c : Int} {lead : List Int} : HeldS web rs c (lead ++ t) t ↔ HeldS web rs c lead t := by
  have := heldS_rot gr (a := t) (b := []) ht (by simp) (c := c) (lead := lead)
  simpa using this
theorem heldS_cls {c : Int} {u v t : List Int} : HeldS web rs (runW web c u) v t ↔ HeldS web rs c (u ++ v) t := by
  unfold HeldS
  rw [runW_app]
theorem comeAgain_is (gw : GoodWeb web many) {turn : List Int} (ht : ∀ x ∈ turn, 0 ≤ x ∧ x < many) (h0 : Int) : ∀ (m : Nat) (F : List Int) (h : Int), Come web (fun c => runW web c turn) F h → m + F.length = web.length + 1 → h = iter (fun c => runW web c turn) F.length h0 →
    ∃ n p, 1 ≤ p ∧ comeAgain (fun c => runW web c turn) m F h = iter (fun c => runW web c turn) n h0 ∧ iter (fun c => runW web c turn) p (comeAgain (fun c => runW web c turn) m F h) = comeAgain (fun c => runW web c turn) m F h
  | 0, F, h, cm, hm, _ => by
    have := cm.le
    omega
  | m + 1, F, h, cm, hm, he => by
    by_cases q : h ∈ F
    · rw [comeAgain_in (by omega) q]
      obtain ⟨j, j0, _, ej⟩ := cm.bk h q
      exact ⟨F.length, j, j0, he, ej⟩
    · rw [comeAgain_out (by omega) q]
      obtain ⟨t0, t1⟩ := runW_in gw turn h ht cm.h0 cm.h1
      exact comeAgain_is gw ht h0 m _ _ (cm.step q t0 t1) (by simp; omega) (by rw [List.length_append, List.length_singleton, iter_succ, ← he])
open Classical in
theorem heldB_iff (gw : GoodWeb web many) (gr : GoodRs web many rs) {c : Int} {lead turn : List Int} (c0 : 0 ≤ c) (c1 : c < (web.length : Int)) (hl : Ltr many lead) (ht : Ltr many turn) : heldB web rs c lead turn = true ↔ HeldS web rs c lead turn := by
  obtain ⟨s0, s1⟩ := runW_in gw lead c hl c0 c1
  obtain ⟨N, p, p1, eN, ep⟩ := comeAgain_is gw ht (runW web c lead) (web.length + 1) [] (runW web c lead) ⟨.nil, by simp, s0, s1, by simp⟩ (by simp) rfl
  unfold heldB
  rw [decide_eq_true_iff]
  generalize comeAgain (fun c => runW web c turn) (web.length + 1) [] (runW web c lead) = R at eN ep
  have per : ∀ j, iter (fun c => runW web c turn) (p * j) R = R := fun j => by
    induction j with
    | zero => rfl
    | succ j ih => rw [show p * (j + 1) = p + p * j by rw [Nat.mul_add]; omega, iter_add, ep, ih]
  constructor
  · rintro ⟨k, k0, k1, kc, h⟩
    refine ⟨N, k, k0, k1, by rw [kc, eN], fun j => ?_⟩
    refine forever (fun k hk => runR_neg turn k hk) (S := (List.range rs.length).map fun (i : Nat) => (i : Int)) (fun x hx => ?_) (fun i hi => ?_) _
    · obtain ⟨i, _, rfl⟩ := List.mem_map.mp hx
      omega
    · rw [List.length_map, List.length_range] at hi
      have hp : 0 ≤ iter (fun k => runR rs k turn) i k := iter_le (fun k hk => runR_neg turn k hk) (by omega) h
      have h3 : iter (fun k => runR rs k turn) i k < (rs.length : Int) := by
        rw [← runR_rep] at hp ⊢
        refine (runR_ok gr _ k (fun x hx => ?_) k0 k1 hp).1
        obtain ⟨l, hl, hx⟩ := List.mem_flatten.mp hx
        rw [(List.mem_replicate.mp hl).2] at hx
        exact ht x hx
      exact List.mem_map.mpr ⟨(iter (fun k => runR rs k turn) i k).toNat, List.mem_range.mpr (by omega), by omega⟩
  · rintro ⟨n, k, k0, k1, kc, h⟩
    have hge : n ≤ N + p * n := Nat.le_trans (Nat.le_mul_of_pos_left n p1) (Nat.le_add_left _ _)
    obtain ⟨k', a0, a1, ac, al⟩ := heldS_from gr ht k0 k1 (N + p * n - n) n kc h
    refine ⟨k', a0, a1, ?_, al _⟩
    rw [ac, show n + (N + p * n - n) = N + p * n by omega, iter_add, ← eN, per]
theorem heldB_like (gw : GoodWeb web many) (gr : GoodRs web many rs) {c c' : Int} {lead turn lead' turn' : List Int} (c0 : 0 ≤ c) (c1 : c < (web.length : Int)) (hl : Ltr many lead) (ht : Ltr many turn) (d0 : 0 ≤ c') (d1 : c' < (web.length : Int)) (hl' : Ltr many lead') (ht' : Ltr many turn')
    (h : HeldS web rs c lead turn ↔ HeldS web rs c' lead' turn') : heldB web rs c lead turn = heldB web rs c' lead' turn' := by
  have e1 := heldB_iff gw gr c0 c1 hl ht
  have e2 := heldB_iff gw gr d0 d1 hl' ht'
  cases h1 : heldB web rs c lead turn <;> cases h2 : heldB web rs c' lead' turn' <;> simp_all
end
end L29

set_option Elab.async false
set_option linter.all false
set_option maxRecDepth 100000
set_option maxHeartbeats 4000000
namespace L29
open PySem PySem.Spec PyProof.Rows L2 DL
open P29 (Pr Cov Reach Bad At Room)
abbrev kB (rs ss : List Rm) : Nat := rs.length * ss.length + rs.length + 1
structure LoopOk (many : Int) (rs ss : List Rm) (p q : Int) (w : List Int) : Prop where
  lt : Ltr many w
  run : runR rs p w = p
  ng : runR ss q w < 0
  le : w.length ≤ kB rs ss
  nc : ¬ Cov (strip rs) ss (p, q)
/-- a killing word -/
structure KWord (many : Int) (rs ss : List Rm) (p : Int) (w : List Int) : Prop where
  lt : Ltr many w
  run : runR rs p w = p
  ng : ∀ q, 0 ≤ q → q < (ss.length : Int) → clsR ss q = clsR rs p → runR ss q w < 0
  nil : w = [] → ∀ q, 0 ≤ q → q < (ss.length : Int) → clsR ss q ≠ clsR rs p
  le : w.length ≤ ss.length * kB rs ss
  nc : ∀ q, 0 ≤ q → q < (ss.length : Int) → clsR ss q = clsR rs p → ¬ Cov (strip rs) ss (p, q)
/-! the result, as it is made -/
noncomputable def aliveF (rs ss : List Rm) (p : Int) (i : Nat) : List Int := ((List.range i).map fun (n : Nat) => (n : Int)).filter fun k => decide (clsR ss k = clsR rs p)
inductive KwR (ss : List Rm) (lp : Int → List Int) : List Int → List Int → List Int → Prop
  | done {w : List Int} : KwR ss lp [] w w
  | step {al w w' : List Int} {t : Int} : al[0]? = some t → KwR ss lp (stepL ss al (lp t)) (w ++ lp t) w' → KwR ss lp al w w'
theorem KwR.uniq {ss : List Rm} {lp : Int → List Int} {al w w' : List Int} (h : KwR ss lp al w w') : ∀ {w2 : List Int}, KwR ss lp al w w2 → w' = w2 := by
  induction h with
  | done =>
    intro w2 h2
    cases h2 with
    | done => rfl
    | step h _ => simp at h
  | step h _ ih =>
    intro w2 h2
    cases h2 with
    | done => simp at h
    | step h3 h4 =>
      rw [h] at h3
      cases h3
      exact ih h4
noncomputable def lpF (rs ss : List Rm) (p k : Int) : List Int := (klF rs ss p k).getD []
noncomputable def kF (rs ss : List Rm) (p : Int) : D := match (aliveF rs ss p ss.length).find? fun q => (klF rs ss p q).isNone with
  | some q => .tup [.str "room", .int q]
  | none => .tup [.str "word", .list (dInts (Classical.epsilon fun w => KwR ss (lpF rs ss p) (aliveF rs ss p ss.length) [] w))]
def KOk (web : List (List Int)) (many : Int) (rs ss : List Rm) (p : Int) (M : Mp) (Q : QD) : Prop :=
  (∀ q, 0 ≤ q → q < (ss.length : Int) → clsR ss q = clsR rs p → Cov (strip rs) ss (p, q) → kF rs ss p = .tup [.str "room", .int q] → Q (.tup [.str "room", .int q]) M) ∧ (∀ w, KWord many rs ss p w → kF rs ss p = .tup [.str "word", .list (dInts w)] → Q (.tup [.str "word", .list (dInts w)]) M)
def sp_killing_or_room : aSp := fun ds M Q => ∃ web many rs ss p, ds = [.list (dRooms ss), .list (dRooms rs), .int p] ∧ Two2 web many rs ss p ∧ KOk web many rs ss p M Q
def loopsD (l : List Int) (lp : Int → List Int) : List (Key × D) := l.map fun k => (Sum.inl k, .list (dInts (lp k)))
theorem loops_at {M : Mp} {pl : Addr} {l : List Int} {lp : Int → List Int} {v : Int} (hM : M pl = some (.dK (loopsD l lp))) (hv : v ∈ l) : getDk M (.ref pl) (.int v) = some (some (.list (dInts (lp v)))) := by
  rw [getDk_dK (kk := .inl v) hM rfl]
  congr 1
  unfold loopsD valD
  rw [List.find?_map]
  clear hM
  induction l with
  | nil => simp at hv
  | cons a F ih =>
    by_cases q : a = v
    · subst q
      rw [List.find?_cons_of_pos (by simp)]
      rfl
    · rw [List.find?_cons_of_neg (by simpa using q)]
      exact ih ((List.mem_cons.mp hv).resolve_left (Ne.symm q))
theorem putD_loops {l : List Int} {lp : Int → List Int} {v : Int} {w : List Int} (h : v ∉ l) : putD (loopsD l lp) (.inl v) (.list (dInts w)) = loopsD (l ++ [v]) (fun k => if k = v then w else lp k) := by
  unfold putD
  rw [if_neg]
  · unfold loopsD
    rw [List.map_append]
    congr 1
    · refine List.map_congr_left fun k hk => ?_
      show _ = (Sum.inl k, D.list (dInts (if k = v then w else lp k)))
      rw [if_neg (fun e => by subst e; exact h hk)]
    · simp
  · intro e
    obtain ⟨kv, h1, h2⟩ := List.any_eq_true.mp e
    obtain ⟨p, hp, rfl⟩ := List.mem_map.mp h1
    have := of_decide_eq_true h2
    cases this
    exact h hp
theorem filter_lt {l : List Int} {p q : Int → Bool} (h : ∀ x ∈ l, q x = true → p x = true) {x : Int} (hx : x ∈ l) (hp : p x = true) (hq : q x = false) : (l.filter q).length < (l.filter p).length := by
  induction l with
  | nil => simp at hx
  | cons a l ih =>
    have h' : ∀ x ∈ l, q x = true → p x = true := fun x hx => h x (by simp [hx])
    have le : (l.filter q).length ≤ (l.filter p).length := by
      clear ih hx
      induction l with
      | nil => simp
      | cons b l ih =>
        have h2 : ∀ x ∈ l, q x = true → p x = true := fun x hx => h' x (by simp [hx])
        have := ih (fun x hx => h x (by rcases List.mem_cons.mp hx with rfl | hx <;> simp [*])) h2
        rw [List.filter_cons, List.filter_cons]
        cases hq' : q b with
        | true => rw [h' b (by simp) hq']; simpa using this
        | false =>
          cases p b <;> simp <;> omega
    rw [List.filter_cons, List.filter_cons]
    rcases List.mem_cons.mp hx with rfl | hx
    · rw [hp, hq]
      simp
      omega
    · have := ih h' hx
      cases hq' : q a with
      | true => rw [h a (by simp) hq']; simpa using this
      | false => cases p a <;> simp <;> omega
section
variable {P : Program} {w : World} {K : PySem.W.Frag} {mg : Str → Option Value} {base : Heap} {a : Ad}
theorem ok_killing_or_room (T : TX K mg a) : FnOk P w K mg base CX0 4 a.f_killing_or_room a.fd_killing_or_room ["rooms", "others", "room"] (lift K 3 sp_killing_or_room) := by
  refine okD (k := 3) T.fn_killing_or_room sc_killing_or_room rfl fun cdv A outer s H E hr => ⟨_, _, (dss_cons (ds_set (j := 3) sc_killing_or_room.nd rfl (by first | exact .inl rfl | exact .inr rfl) (de_call (ok_inner_steps T) (hr.mono (by decide)) (by rfl) T.mg_inner_steps T.kp_inner_steps T.bd_inner_steps pass0 (da_cons (dv 1) (da_cons (dv 2) da_nil))))
      (dss_cons (ds_setLc (j := 4) (own := [("at", 10), ("kind", 11), ("row", 12)]) rfl sc_killing_or_room.nd rfl rfl (sw_true rfl rfl rfl (by decide +kernel)) (di_enum (by rfl) T.b_enumerate (da_cons (dv 0) da_nil)) (blkOk_by (by rfl)) (fun _ _ _ _ _ => (dg_tup (dgs_cons (dg_name (j := 10) sc_killing_or_room.nd rfl (by first | exact .inl rfl | exact .inr rfl)) (dgs_cons (dg_tup (dgs_cons (dg_name (j := 11) sc_killing_or_room.nd rfl (by first | exact .inl rfl | exact .inr rfl)) (dgs_cons (dg_name (j := 12) sc_killing_or_room.nd rfl (by first | exact .inl rfl | exact .inr rfl)) dgs_nil))) dgs_nil)))) (fun _ _ _ _ _ => (dts_one (dt_cmp (op_eqD hr.units) s2_eq (dv 11) (de_ix (hu_of hr) (de_ix (hu_of hr) (dv 1) (dv 2) (fun _ _ => rfl)) de_int (fun _ _ => rfl)) (nomark _)))) (fun _ _ _ _ _ => (dv 10)) (om_tup (om_cons om_name (om_cons (om_tup (om_cons om_name (om_cons om_name om_nil))) om_nil))))
      (dss_cons (ds_set (j := 5) sc_killing_or_room.nd rfl (by first | exact .inl rfl | exact .inr rfl) de_dnewK)
      (dss_cons (ds_for (di_seq (dv 4)) (dg_name (j := 6) sc_killing_or_room.nd rfl (by first | exact .inl rfl | exact .inr rfl)) (dss_cons (ds_set (j := 7) sc_killing_or_room.nd rfl (by first | exact .inl rfl | exact .inr rfl) (de_call (ok_killing_loop T) (hr.mono (by decide)) (by rfl) T.mg_killing_loop T.kp_killing_loop T.bd_killing_loop pass0 (da_cons (dv 3) (da_cons (dv 2) (da_cons (dv 0) (da_cons (dv 6) da_nil))))))
      (dss_cons (ds_if (dt_cmp op_isN s2_is (dv 7) de_non (nomark _)) (dss_one (ds_ret (de_tup (da_cons de_str (da_cons (dv 6) da_nil))))) dss_nil)
      (dss_one (ds_dput (hu_of hr) (dv 5) (dv 6) (dv 7))))) PassesOwn.never)
      (dss_cons (ds_set (j := 8) sc_killing_or_room.nd rfl (by first | exact .inl rfl | exact .inr rfl) (de_lstM da_nil))
      (dss_cons (ds_set (j := 9) sc_killing_or_room.nd rfl (by first | exact .inl rfl | exact .inr rfl) (dv 4))
      (dss_cons (ds_while (dt_tru (dv 9)) (dss_cons (ds_set (j := 7) sc_killing_or_room.nd rfl (by first | exact .inl rfl | exact .inr rfl) (de_ix (hu_of hr) (dv 5) (de_ix (hu_of hr) (dv 9) de_int (fun _ _ => rfl)) (fun _ _ => rfl)))
      (dss_cons (ds_expr (de_bm PySem.F.plainAttrs_list PySem.F.slot_list_extend PySem.F.type_list_extend mt_extend sm_extend (.inl rfl) (dv 8) (da_cons (dv 7) da_nil)))
      (dss_one (ds_set (j := 9) sc_killing_or_room.nd rfl (by first | exact .inl rfl | exact .inr rfl) (de_call (ok_stepped T) (hr.mono (by decide)) (by rfl) T.mg_stepped T.kp_stepped T.bd_stepped pass0 (da_cons (dv 0) (da_cons (dv 9) (da_cons (dv 7) da_nil)))))))) PassesOwn.never)
      (dss_one (ds_ret (de_tup (da_cons de_str (da_cons (dv 8) da_nil)))))))))))), fun ds M Q hl h => ?_⟩
  obtain ⟨web, many, rs, ss, p, rfl, two, q1, q2⟩ := h
  have hlr := two.lr
  have hls := two.ls
  have hkb : kB rs ss ≤ 931 := by
    have : rs.length * ss.length ≤ 30 * 30 := Nat.mul_le_mul hlr hls
    show rs.length * ss.length + rs.length + 1 ≤ 931
    omega
  walk_at "start"
  refine go_seqK (J := fun G' M' => ∃ S : D, G' = [some (.list (dRooms ss)), some (.list (dRooms rs)), some (.int p), some S, none, none, none, none, none, none, none, none, none] ∧ M = M' ∧ ((S = .dK [] ∧ ¬ Cyc (succS (afterS rs)) p) ∨ ∃ F, S = dHall F (hallRow rs F) ∧ F = hallF rs p ∧ Cyc (succS (afterS rs)) p ∧ HallOf rs p F)) (fun nx hk => ?_) (fun G' M' hJ => ?_)
  · walk_at "go"
    refine ⟨web, many, rs, p, rfl, two.gr, by omega, two.m, two.p0, two.p1, fun hc => ?_, fun hc F hF ho => ?_⟩
    · walk_at "go"
      exact hk _ _ ⟨_, rfl, rfl, .inl ⟨rfl, hc⟩⟩
    · walk_at "go"
      exact hk _ _ ⟨_, rfl, rfl, .inr ⟨F, rfl, hF, hc, ho⟩⟩
  obtain ⟨S, rfl, rfl, hS⟩ := hJ
  obtain ⟨rp, hrp, hrpm, erp⟩ := room_at two.p0 two.p1
  have hclp : clsR rs p = rp.1 := by unfold clsR; rw [List.getD_eq_getElem?_getD, List.getElem?_map, hrp]; rfl
  walk_at "go"
  refine go_lcI (fun i acc M3 => M = M3 ∧ ∃ al : List Int, acc = dInts al ∧ al = aliveF rs ss p i ∧ al.Nodup ∧ ∀ k, k ∈ al ↔ 0 ≤ k ∧ k < (i : Int) ∧ clsR ss k = clsR rs p) ⟨rfl, [], rfl, rfl, .nil, fun k => ⟨fun h => by simp at h, fun h => by omega⟩⟩ (fun i d acc M3 KY KN hd hI hY hN => ?_) (fun acc M3 hI => ?_)
  · obtain ⟨rfl, al, rfl, hex, hnd, hal⟩ := hI
    obtain ⟨x, hx, rfl⟩ := enumD_get hd
    rw [List.getElem?_map] at hx
    obtain ⟨r, hr, rfl⟩ := Option.map_eq_some_iff.mp hx
    have hcl : clsR ss (i : Int) = r.1 := by unfold clsR; rw [List.getD_eq_getElem?_getD, List.getElem?_map, Int.toNat_natCast, hr]; rfl
    have astep : aliveF rs ss p (i + 1) = al ++ (if clsR ss (i : Int) = clsR rs p then [(i : Int)] else []) := by
      unfold aliveF
      rw [List.range_succ, List.map_append, List.filter_append, hex]
      congr 1
      simp only [List.map_cons, List.map_nil, List.filter_cons, List.filter_nil]
      by_cases z : clsR ss (i : Int) = clsR rs p <;> simp [z]
    walk_at "go"
    refine go_ite (fun e => ?_) (fun e => ?_)
    · have e : r.1 = rp.1 := by simpa using e
      walk_at "go"
      refine hY (.int (i : Int)) _ ⟨rfl, al ++ [(i : Int)], by simp [dInts], by rw [astep, if_pos (by rw [hcl, hclp, e])], List.nodup_append.mpr ⟨hnd, by simp, fun a ha b hb e => ?_⟩, fun k => ?_⟩
      · rcases List.mem_singleton.mp hb with rfl
        subst e
        have := ((hal _).mp ha).2.1
        omega
      · rw [List.mem_append, hal, List.mem_singleton]
        constructor
        · rintro (⟨h1, h2, h3⟩ | rfl)
          · exact ⟨h1, by omega, h3⟩
          · exact ⟨by omega, by omega, by rw [hcl, e, hclp]⟩
        · rintro ⟨h1, h2, h3⟩
          by_cases z : k = (i : Int)
          · exact .inr z
          · exact .inl ⟨h1, by omega, h3⟩
    · have e : r.1 ≠ rp.1 := by simpa using e
      refine hN _ ⟨rfl, al, rfl, by rw [astep, if_neg (by rw [hcl, hclp]; exact e), List.append_nil], hnd, fun k => ?_⟩
      rw [hal]
      constructor
      · rintro ⟨h1, h2, h3⟩; exact ⟨h1, by omega, h3⟩
      · rintro ⟨h1, h2, h3⟩
        by_cases z : k = (i : Int)
        · subst z; rw [hcl, hclp] at h3; exact absurd h3 e
        · exact ⟨h1, by omega, h3⟩
  obtain ⟨rfl, al, rfl, hex, hnd, hal⟩ := hI
  rw [length_enumD, List.length_map] at hal hex
  have hall : al.length ≤ ss.length := nodup_le hnd fun v hv => ⟨((hal v).mp hv).1, ((hal v).mp hv).2.1⟩
  walk_at "go"
  intro pl hpl
  walk_at "go"
  refine go_seqK (J := fun G' M' => ∃ (x6 x7 : Option D) (lp : Int → List Int), G' = [some (.list (dRooms ss)), some (.list (dRooms rs)), some (.int p), some S, some (.list (dInts al)), some (.ref pl), x6, x7, none, none, none, none, none] ∧ Sub M M' ∧ M' pl = some (.dK (loopsD al lp)) ∧ ∀ k ∈ al, klF rs ss p k = some (lp k) ∧ LoopOk many rs ss p k (lp k)) (fun nx hk => ?_) (fun G' M' hJ => ?_)
  · walk_at "go"
    refine go_forI (fun j G' M' => ∃ (x6 x7 : Option D) (lp : Int → List Int), G' = [some (.list (dRooms ss)), some (.list (dRooms rs)), some (.int p), some S, some (.list (dInts al)), some (.ref pl), x6, x7, none, none, none, none, none] ∧ Sub M M' ∧ M' pl = some (.dK (loopsD (al.take j) lp)) ∧ ∀ k ∈ al.take j, klF rs ss p k = some (lp k) ∧ LoopOk many rs ss p k (lp k)) ⟨_, _, fun _ => [], rfl, sub_mupd (fun _ _ h => h) hpl, mupd_same, by simp⟩ (fun j d G' M' nx' hd hI hn => ?_) (fun G' M' hI => ?_)
    · obtain ⟨x6, x7, lp, rfl, sb, c1, hlp⟩ := hI
      rw [List.getElem?_map] at hd
      obtain ⟨q, hq, rfl⟩ := Option.map_eq_some_iff.mp hd
      have hqm := List.mem_of_getElem? hq
      obtain ⟨k0, k1, kc⟩ := (hal q).mp hqm
      have hj := (List.getElem?_eq_some_iff.mp hq).1
      walk_at "goS"
      refine ⟨web, many, rs, ss, p, q, S, rfl, two, k0, k1, fun hnn hc => ?_, ?_⟩
      · walk_at "goS"
        exact DL.Fin.sub sb (q1 q k0 k1 kc hc (by
          rw [kF, ← hex]
          have : al.find? (fun q => (klF rs ss p q).isNone) = some q := by
            have ea : al = al.take j ++ q :: al.drop (j + 1) := by
              obtain ⟨a1, a2⟩ := List.getElem?_eq_some_iff.mp hq
              rw [← a2, ← List.drop_eq_getElem_cons a1, List.take_append_drop]
            rw [ea, List.find?_append, List.find?_eq_none.mpr fun x hx => by rw [(hlp x hx).1]; simp]
            rw [List.find?_cons_of_pos (by rw [hnn]; rfl)]
            rfl
          rw [this]))
      · rcases hS with hS | ⟨F, hS, hF, hcy, ho⟩
        · exact .inl hS
        refine .inr ⟨F, hS, hF, hcy, ho, fun hnc w hkl kw => ?_⟩
        have hpF : p ∈ F := (ho.mem p).mpr .rfl
        obtain ⟨h1, h2, _⟩ := kw.hp.run (p := p) two.gr ho hpF
        walk_at "goS"
        refine go_kdputK (kk := .inl q) c1 (by simp only [loopsD, List.length_map, List.length_take]; omega) rfl ?_
        rw [putD_loops (nodup_take hnd hq)]
        refine hn _ _ ⟨_, _, fun k => if k = q then w else lp k, rfl, sub_mupd sb hpl, ?_, fun k hk => ?_⟩
        · rw [mupd_same, List.take_add_one, hq]
          rfl
        · rw [List.take_add_one, hq] at hk
          by_cases z : k = q
          · subst z
            show klF rs ss p k = some (if k = k then w else lp k) ∧ LoopOk many rs ss p k (if k = k then w else lp k)
            rw [if_pos rfl]
            exact ⟨hkl, h1, h2, kw.ng, kw.le, hnc⟩
          · show klF rs ss p k = some (if k = q then w else lp k) ∧ LoopOk many rs ss p k (if k = q then w else lp k)
            rw [if_neg z]
            rcases List.mem_append.mp hk with hk | hk
            · exact hlp k hk
            · exact absurd (by simpa using hk) z
    · obtain ⟨x6, x7, lp, rfl, sb, c1, hlp⟩ := hI
      rw [List.length_map, List.take_length] at c1 hlp
      exact hk _ _ ⟨_, _, lp, rfl, sb, c1, hlp⟩
  obtain ⟨x6, x7, lp, rfl, sb, c1, hlp0⟩ := hJ
  have hlp : ∀ k ∈ al, LoopOk many rs ss p k (lp k) := fun k hk => (hlp0 k hk).2
  have hlpF : ∀ k ∈ al, lpF rs ss p k = lp k := fun k hk => by rw [lpF, (hlp0 k hk).1]; rfl
  have hfn : al.find? (fun q => (klF rs ss p q).isNone) = none := List.find?_eq_none.mpr fun x hx => by rw [(hlp0 x hx).1]; simp
  walk_at "go"
  intro pt hpt
  have nlt : pl ≠ pt := mne c1 hpt
  have hMt : M pt = none := sb.none hpt
  walk_at "go"
  refine go_seqK (J := fun G' M' => ∃ (x6 x7 x9 : Option D) (w : List Int), G' = [some (.list (dRooms ss)), some (.list (dRooms rs)), some (.int p), some S, some (.list (dInts al)), some (.ref pl), x6, x7, some (.ref pt), x9, none, none, none] ∧ Sub M M' ∧ M' pt = some (.lst (dInts w)) ∧ KwR ss (lpF rs ss p) al [] w ∧ KWord many rs ss p w) (fun nx hk => ?_) (fun G' M' hJ => ?_)
  · refine go_whileI (W := fun m G' M' => ∃ (x7 : Option D) (alive w : List Int), G' = [some (.list (dRooms ss)), some (.list (dRooms rs)), some (.int p), some S, some (.list (dInts al)), some (.ref pl), x6, x7, some (.ref pt), some (.list (dInts alive)), none, none, none] ∧ Sub M M' ∧ M' pl = some (.dK (loopsD al lp)) ∧ M' pt = some (.lst (dInts w)) ∧
      Ltr many w ∧ runR rs p w = p ∧ alive.length ≤ al.length ∧ (∀ t, t ∈ alive ↔ ∃ k ∈ al, runR ss k w = t ∧ 0 ≤ t) ∧ (w = [] → ∀ k ∈ al, k ∈ alive) ∧ m = (al.filter fun k => decide (0 ≤ runR ss k w)).length ∧ w.length ≤ (al.length - m) * kB rs ss ∧ ∀ w', KwR ss (lpF rs ss p) alive w w' → KwR ss (lpF rs ss p) al [] w') (al.filter fun k => decide (0 ≤ runR ss k [])).length ?_ (fun m G' M' nx' hW hn => ?_)
    · refine ⟨_, al, [], rfl, sub_mupd sb hMt, by rw [mupd_ne nlt]; exact c1, mupd_same, fun x hx => by simp at hx, rfl, Nat.le_refl _, fun t => ⟨fun h => ⟨t, h, rfl, ((hal t).mp h).1⟩, fun ⟨k, h1, h2, _⟩ => by rw [← h2]; exact h1⟩, fun _ k hk => hk, rfl, by simp, fun _ h => h⟩
    · obtain ⟨x7, alive, w, rfl, sb2, d1, d2, wl, wr, hle, hmem, hnil, hm, hwl, hkr⟩ := hW
      walk_at "goS"
      refine go_ite (fun e => ?_) (fun e => ?_)
      · have hal0 : ∃ t, alive[0]? = some t := by
          cases alive with
          | nil => simp at e
          | cons t r => exact ⟨t, rfl⟩
        obtain ⟨t, ht⟩ := hal0
        have htm := List.mem_of_getElem? ht
        obtain ⟨k, hk1, hk2, t0⟩ := (hmem t).mp htm
        obtain ⟨kk0, kk1, kkc⟩ := (hal k).mp hk1
        obtain ⟨r1, r2⟩ := runR_ok two.gs w k wl kk0 kk1 (by omega)
        obtain ⟨_, r3⟩ := runR_ok two.gr w p wl two.p0 two.p1 (by have := two.p0; omega)
        have htal : t ∈ al := (hal t).mpr ⟨t0, by omega, by rw [← hk2, r2, kkc, ← r3, wr]⟩
        have lo := hlp t htal
        have lol := lo.le
        have et : atI (dInts alive) 0 = some (.int t) := by
          rw [atI_nn _ (by decide), List.getElem?_map]
          show Option.map D.int alive[0]? = _
          rw [ht]
          rfl
        have hwl2 : w.length ≤ 30 * 931 := Nat.le_trans hwl (Nat.mul_le_mul (by omega) hkb)
        walk_at "goS"
        refine go_ixGet (loops_at d1 htal) ?_
        walk_at "goS"
        refine ⟨web, many, ss, alive, lp t, _, rfl, rfl, two.gs, lo.lt, by omega, fun k hk => ?_, fun out hoe ho1 ho2 => ?_⟩
        · obtain ⟨k', a1, a2, a3⟩ := (hmem k).mp hk
          obtain ⟨b0, b1, _⟩ := (hal k').mp a1
          exact ⟨a3, by have := (runR_ok two.gs w k' wl b0 b1 (by omega)).1; omega⟩
        walk_at "goS"
        rw [show dInts w ++ dInts (lp t) = dInts (w ++ lp t) by simp [dInts]]
        have hlt : (al.filter fun k => decide (0 ≤ runR ss k (w ++ lp t))).length < (al.filter fun k => decide (0 ≤ runR ss k w)).length := by
          refine filter_lt (fun x _ hx => ?_) hk1 (by simpa [hk2] using t0) ?_
          · exact decide_eq_true (runR_pre (of_decide_eq_true hx))
          · rw [runR_app, hk2]
            exact decide_eq_false (by have := lo.ng; omega)
        refine hn (al.filter fun k => decide (0 ≤ runR ss k (w ++ lp t))).length _ _ (by omega) ⟨_, out, w ++ lp t, rfl, sub_mupd sb2 hMt, by rw [mupd_ne nlt]; exact d1, mupd_same, ?_, by rw [runR_app, wr]; exact lo.run, by omega, fun u => ?_, fun hz => ?_, rfl, ?_, fun w' hw' => hkr w' (.step ht (by rw [hlpF t htal, ← hoe]; exact hw'))⟩
        · intro x hx
          rcases List.mem_append.mp hx with hx | hx
          · exact wl x hx
          · exact lo.lt x hx
        · rw [ho2]
          constructor
          · rintro ⟨k', a1, a2, a3⟩
            obtain ⟨k2, b1, b2, b3⟩ := (hmem k').mp a1
            exact ⟨k2, b1, by rw [runR_app, b2]; exact a2, a3⟩
          · rintro ⟨k2, b1, b2, b3⟩
            rw [runR_app] at b2
            have hp : 0 ≤ runR ss k2 w := by
              by_cases z : 0 ≤ runR ss k2 w
              · exact z
              · have := runR_neg (rs := ss) (lp t) (runR ss k2 w) (by omega)
                omega
            exact ⟨runR ss k2 w, (hmem _).mpr ⟨k2, b1, rfl, hp⟩, b2, b3⟩
        · exfalso
          have hz2 : lp t = [] := (List.append_eq_nil_iff.mp hz).2
          have := lo.ng
          rw [hz2] at this
          have e2 : runR ss t [] = t := rfl
          omega
        · rw [List.length_append]
          have hf : (al.filter fun k => decide (0 ≤ runR ss k w)).length ≤ al.length := List.length_filter_le _ _
          have h1 : (al.length - m) * kB rs ss + kB rs ss ≤ (al.length - (al.filter fun k => decide (0 ≤ runR ss k (w ++ lp t))).length) * kB rs ss := by
            rw [← Nat.succ_mul]
            exact Nat.mul_le_mul_right _ (by omega)
          omega
      · have e : alive = [] := by
          cases alive with
          | nil => rfl
          | cons => simp at e
        subst e
        have dead : ∀ q, 0 ≤ q → q < (ss.length : Int) → clsR ss q = clsR rs p → runR ss q w < 0 := fun q a b c => by
          have hq := (hal q).mpr ⟨a, b, c⟩
          by_cases z : 0 ≤ runR ss q w
          · have := (hmem _).mpr ⟨q, hq, rfl, z⟩
            simp at this
          · omega
        refine hk _ _ ⟨_, _, _, w, rfl, sb2, d2, hkr w .done, wl, wr, dead, fun hz q a b c => ?_, ?_, fun q a b c => (hlp q ((hal q).mpr ⟨a, b, c⟩)).nc⟩
        · have := hnil hz q ((hal q).mpr ⟨a, b, c⟩)
          simp at this
        · refine Nat.le_trans hwl (Nat.mul_le_mul_right _ ?_)
          omega
  · obtain ⟨x6, x7, x9, w, rfl, sb2, d2, hkr, kw⟩ := hJ
    walk_at "go"
    refine Fin.deep (L := [pt]) (.tup (.cons (.same _) (.cons (.ref (by simp) d2 (dzs_same _)) .nil))) (by simp) (fun x hx => ?_) (fun x d hx => ?_) (q2 w kw (by
      rw [kF, ← hex, hfn]
      simp only
      rw [← hkr.uniq (Classical.epsilon_spec (p := fun w => KwR ss (lpF rs ss p) al [] w) ⟨w, hkr⟩)]))
    · rcases List.mem_singleton.mp hx with rfl
      exact ⟨⟨_, d2⟩, hMt⟩
    · rw [mdelL_get]
      have hx2 : x ∉ [pt] := fun z => by
        rcases List.mem_singleton.mp z with rfl
        rw [hMt] at hx
        cases hx
      rw [if_neg hx2]
      exact sb2 x d hx
end
end L29

set_option Elab.async false
set_option linter.all false
set_option maxRecDepth 100000
set_option maxHeartbeats 4000000
namespace L29
open PySem PySem.Spec PyProof.Rows L2 DL
open P29 (Pr Cov Reach Bad At Room)
def sp_killing_word (a : Ad) : aSp := fun ds M Q => ∃ web many rs ss p v v', ds = [dBook a v ss, dBook a v' rs, .int p] ∧ Two2 web many rs ss p ∧ KOk web many rs ss p M Q
section
variable {P : Program} {w : World} {K : PySem.W.Frag} {mg : Str → Option Value} {base : Heap} {a : Ad}
theorem ok_killing_word (T : TX K mg a) : FnOk P w K mg base CX0 5 a.f_killing_word a.fd_killing_word ["book", "other", "room"] (lift K 3 (sp_killing_word a)) := by
  refine okD (k := 4) T.fn_killing_word sc_killing_word rfl fun cdv A outer s H E hr => ⟨_, _, (dss_one (ds_ret (de_call (ok_killing_or_room T) (hr.mono (by decide)) (by rfl) T.mg_killing_or_room T.kp_killing_or_room T.bd_killing_or_room pass0 (da_cons (de_meth0 (dv 0) T.cl_RoomBook T.me_RoomBook_rooms (ok_RoomBook_rooms T) (hr.mono (by decide)) T.bd_RoomBook_rooms pass0) (da_cons (de_meth0 (dv 1) T.cl_RoomBook T.me_RoomBook_rooms (ok_RoomBook_rooms T) (hr.mono (by decide)) T.bd_RoomBook_rooms pass0) (da_cons (dv 2) da_nil)))))), fun ds M Q hl h => ?_⟩
  obtain ⟨web, many, rs, ss, p, v, v', rfl, two, q1, q2⟩ := h
  walk_at "start"
  walk_at "goS"
  refine ⟨v, ss, rfl, ?_⟩
  walk_at "goS"
  refine ⟨v', rs, rfl, ?_⟩
  walk_at "goS"
  exact ⟨web, many, rs, ss, p, rfl, two, fun q a b c d e => Fin.of (q1 q a b c d e), fun w kw e => Fin.of (q2 w kw e)⟩
end
end L29

set_option Elab.async false
set_option linter.all false
set_option maxRecDepth 100000
set_option maxHeartbeats 4000000
namespace L29
open PySem PySem.Spec PyProof.Rows L2 DL
open P29 (Pr Cov Reach Bad At Room)
def sp__law_room_halls : aSp := fun ds M Q => ∃ web many rs, ds = [.list (dRooms rs)] ∧ GoodRs web many rs ∧ rs.length ≤ 100 ∧ many ≤ 200 ∧ ∀ found, HallsOk (afterS rs) found → Q (.list (dInts found)) M
def sp__law_stripped : aSp := fun ds M Q => ∃ web many rs, ds = [.list (dRooms rs)] ∧ GoodRs web many rs ∧ rs.length ≤ 100 ∧ many ≤ 200 ∧ Q (.list (dRooms (strip rs))) M
open Classical in
noncomputable def stepIn (rs : List Rm) (k t : Int) : Int := if 0 ≤ t ∧ sccR rs k t then t else -1
theorem strip_row {rs : List Rm} {k : Nat} {r : Rm} (h : rs[k]? = some r) : (strip rs)[k]? = some (r.1, r.2.map (stepIn rs (k : Int))) := strip_get h
section
variable {P : Program} {w : World} {K : PySem.W.Frag} {mg : Str → Option Value} {base : Heap} {a : Ad}
theorem ok__law_room_halls (T : TX K mg a) : FnOk P w K mg base CX0 3 a.f__law_room_halls a.fd__law_room_halls ["cells"] (lift K 1 sp__law_room_halls) := by
  refine okD (k := 2) T.fn__law_room_halls sc__law_room_halls rfl fun cdv A outer s H E hr => ⟨_, _, (dss_one (ds_ret (de_call (ok__law_halls T) (hr.mono (by decide)) (by rfl) T.mg__law_halls T.kp__law_halls T.bd__law_halls pass0 (da_cons (de_lc (own := [("spot", 1), ("steps", 2)]) rfl sc__law_room_halls.nd (di_seq (dv 0)) (blkOk_by (by rfl)) (fun _ _ _ _ _ => (dg_tup (dgs_cons (dg_name (j := 1) sc__law_room_halls.nd rfl (by first | exact .inl rfl | exact .inr rfl)) (dgs_cons (dg_name (j := 2) sc__law_room_halls.nd rfl (by first | exact .inl rfl | exact .inr rfl)) dgs_nil)))) (fun _ _ _ _ _ => dts_nil) (fun _ _ _ _ _ => (de_lc (own := [("there", 3)]) rfl sc__law_room_halls.nd (di_seq (dv 2)) (blkOk_by (by rfl)) (fun _ _ _ _ _ => (dg_name (j := 3) sc__law_room_halls.nd rfl (by first | exact .inl rfl | exact .inr rfl))) (fun _ _ _ _ _ => (dts_one (dt_cmp op_ge s2_ge (dv 3) de_int (nomark _)))) (fun _ _ _ _ _ => (dv 3)) om_name)) (om_tup (om_cons om_name (om_cons om_name om_nil)))) da_nil)))), fun ds M Q hl h => ?_⟩
  obtain ⟨web, many, rs, rfl, gr, hrl, hmy, q⟩ := h
  have g := after_good gr hrl hmy
  walk_at "start"
  walk_at "goS"
  refine go_lcI (fun i acc M' => M = M' ∧ acc = (afterS (rs.take i)).map fun r => .list (dInts r)) ⟨rfl, rfl⟩ (fun i d acc M' KY KN hd hI hY hN => ?_) (fun acc M' hI => ?_)
  · obtain ⟨rfl, rfl⟩ := hI
    rw [List.getElem?_map] at hd
    obtain ⟨r, hr, rfl⟩ := Option.map_eq_some_iff.mp hd
    have hrm := List.mem_of_getElem? hr
    have hrw := (gr r hrm).len
    walk_at "goS"
    refine go_lcI (fun j acc M' => M = M' ∧ acc = dInts ((r.2.take j).filter fun t => decide (0 ≤ t))) ⟨rfl, rfl⟩ (fun j d acc M' KY2 KN2 hd2 hI2 hY2 hN2 => ?_) (fun acc M' hI2 => ?_)
    · obtain ⟨rfl, rfl⟩ := hI2
      rw [List.getElem?_map] at hd2
      obtain ⟨t, ht, rfl⟩ := Option.map_eq_some_iff.mp hd2
      have step : (r.2.take (j + 1)).filter (fun t => decide (0 ≤ t)) = (r.2.take j).filter (fun t => decide (0 ≤ t)) ++ (if 0 ≤ t then [t] else []) := by
        rw [List.take_add_one, ht, List.filter_append]
        congr 1
        simp only [Option.toList_some, List.filter_cons, List.filter_nil]
        by_cases z : 0 ≤ t <;> simp [z]
      walk_at "goS"
      refine go_ite (fun e => ?_) (fun e => ?_)
      · have e := of_decide_eq_true e
        walk_at "goS"
        refine hY2 _ _ ⟨rfl, ?_⟩
        rw [step, if_pos e]
        simp [dInts]
      · have e : ¬ (0 ≤ t) := by simpa using e
        refine hN2 _ ⟨rfl, ?_⟩
        rw [step, if_neg e, List.append_nil]
    · obtain ⟨rfl, rfl⟩ := hI2
      rw [List.length_map, List.take_length]
      refine hY _ _ ⟨rfl, ?_⟩
      rw [List.take_add_one, hr]
      simp [afterS]
  obtain ⟨rfl, rfl⟩ := hI
  rw [List.length_map, List.take_length]
  walk_at "go"
  exact ⟨afterS rs, rfl, g, fun found hf => Fin.of (q found hf)⟩
open Classical in
theorem ok__law_stripped (T : TX K mg a) : FnOk P w K mg base CX0 4 a.f__law_stripped a.fd__law_stripped ["cells"] (lift K 1 sp__law_stripped) := by
  refine okD (k := 3) T.fn__law_stripped sc__law_stripped rfl fun cdv A outer s H E hr => ⟨_, _, (dss_cons (ds_par (i := 1) (j := 2) sc__law_stripped.nd rfl rfl (da_cons (de_call (ok__law_room_halls T) (hr.mono (by decide)) (by rfl) T.mg__law_room_halls T.kp__law_room_halls T.bd__law_room_halls pass0 (da_cons (dv 0) da_nil)) (da_cons (de_lstM da_nil) da_nil)))
      (dss_cons (ds_for (di_range1 (by rfl) T.b_range (da_cons (de_callB call_lenA sl_len (by rfl) T.b_len (by decide +kernel) (da_cons (dv 0) da_nil)) da_nil)) (dg_name (j := 3) sc__law_stripped.nd rfl (by first | exact .inl rfl | exact .inr rfl)) (dss_cons (ds_set (j := 4) sc__law_stripped.nd rfl (by first | exact .inl rfl | exact .inr rfl) (de_lstM da_nil))
      (dss_cons (ds_for (di_seq (de_ix (hu_of hr) (de_ix (hu_of hr) (dv 0) (dv 3) (fun _ _ => rfl)) de_int (fun _ _ => rfl))) (dg_name (j := 5) sc__law_stripped.nd rfl (by first | exact .inl rfl | exact .inr rfl)) (dss_one (ds_expr (de_bm PySem.F.plainAttrs_list PySem.F.slot_list_append PySem.F.type_list_append mt_append sm_append (.inl rfl) (dv 4) (da_cons (de_ifExp (DW.dt (dw_and (dt_cmp op_ge s2_ge (dv 5) de_int (nomark _)) (dw_and (dt_cmp op_ge s2_ge (de_ix (hu_of hr) (dv 1) (dv 3) (fun _ _ => rfl)) de_int (nomark _)) (dw_and1 (dt_cmp (op_eqD hr.units) s2_eq (de_ix (hu_of hr) (dv 1) (dv 3) (fun _ _ => rfl)) (de_ix (hu_of hr) (dv 1) (dv 5) (fun _ _ => rfl)) (nomark _)))))) (dv 5) (de_neg de_int)) da_nil)))) PassesOwn.never)
      (dss_one (ds_expr (de_bm PySem.F.plainAttrs_list PySem.F.slot_list_append PySem.F.type_list_append mt_append sm_append (.inl rfl) (dv 2) (da_cons (de_tup (da_cons (de_ix (hu_of hr) (de_ix (hu_of hr) (dv 0) (dv 3) (fun _ _ => rfl)) de_int (fun _ _ => rfl)) (da_cons (de_callTy call_tuple_of sl_tuple (by rfl) T.b_tuple (by decide +kernel) (da_cons (dv 4) da_nil)) da_nil))) da_nil)))))) PassesOwn.never)
      (dss_one (ds_ret (dv 2))))), fun ds M Q hl h => ?_⟩
  obtain ⟨web, many, rs, rfl, gr, hrl, hmy, q⟩ := h
  have gl : (afterS rs).length = rs.length := by unfold afterS; rw [List.length_map]
  walk_at "start"
  walk_at "goS"
  refine ⟨web, many, rs, rfl, gr, hrl, hmy, fun found hf => ?_⟩
  have hfl := hf.len
  rw [gl] at hfl
  have hat : ∀ v : Int, 0 ≤ v → v < (rs.length : Int) → atI (dInts found) v = some (.int (found.getD v.toNat 0)) := fun v v0 v1 => by
    obtain ⟨x, hx, _, ex⟩ := int_at (cs := found) v0 (by omega)
    rw [ex, getD_of hx]
  walk_at "goS"
  intro pf hpf
  walk_at "go"
  refine go_seqK (J := fun G' M' => ∃ (x3 x4 x5 : Option D), G' = [some (.list (dRooms rs)), some (.list (dInts found)), some (.ref pf), x3, x4, x5] ∧ Sub M M' ∧ M' pf = some (.lst (dRooms (strip rs)))) (fun nx hk => ?_) (fun G' M' hJ => ?_)
  · walk_at "go"
    refine go_forI (fun i G' M' => ∃ (x3 x4 x5 : Option D), G' = [some (.list (dRooms rs)), some (.list (dInts found)), some (.ref pf), x3, x4, x5] ∧ Sub M M' ∧ M' pf = some (.lst (dRooms ((strip rs).take i)))) ⟨_, _, _, rfl, sub_mupd (fun _ _ h => h) hpf, mupd_same⟩ (fun i d G' M' nx' hd hI hn => ?_) (fun G' M' hI => ?_)
    · obtain ⟨x3, x4, x5, rfl, sb, c1⟩ := hI
      obtain ⟨hlt, rfl⟩ := rng_get hd
      simp only [List.length_map, Int.toNat_natCast] at hlt
      obtain ⟨r, hr, hrm, er⟩ := room_at (rs := rs) (i := 0 + (i : Int)) (by omega) (by omega)
      have hrw := (gr r hrm).len
      have hr' : rs[i]? = some r := by simpa using hr
      have hk := hat (0 + (i : Int)) (by omega) (by omega)
      walk_at "goS"
      intro pr hpr
      have npf : pr ≠ pf := Ne.symm (mne c1 hpr)
      have hMr : M pr = none := sb.none hpr
      walk_at "go"
      refine go_seqK (J := fun G' M2 => ∃ x5 : Option D, G' = [some (.list (dRooms rs)), some (.list (dInts found)), some (.ref pf), some (.int (0 + (i : Int))), some (.ref pr), x5] ∧ Sub M M2 ∧ M2 pf = some (.lst (dRooms ((strip rs).take i))) ∧ M2 pr = some (.lst (dInts (r.2.map (stepIn rs (i : Int)))))) (fun nx2 hk2 => ?_) (fun G' M2 hJ => ?_)
      · walk_at "go"
        refine go_forI (fun j G' M2 => ∃ x5 : Option D, G' = [some (.list (dRooms rs)), some (.list (dInts found)), some (.ref pf), some (.int (0 + (i : Int))), some (.ref pr), x5] ∧ Sub M M2 ∧ M2 pf = some (.lst (dRooms ((strip rs).take i))) ∧ M2 pr = some (.lst (dInts ((r.2.take j).map (stepIn rs (i : Int)))))) ⟨_, rfl, sub_mupd sb hMr, by rw [mupd_ne (Ne.symm npf)]; exact c1, mupd_same⟩ (fun j d G' M2 nx3 hd2 hI hn2 => ?_) (fun G' M2 hI => ?_)
        · obtain ⟨x5, rfl, sb2, d1, d2⟩ := hI
          rw [List.getElem?_map] at hd2
          obtain ⟨t, ht, rfl⟩ := Option.map_eq_some_iff.mp hd2
          have hlj : (r.2.take j).length ≤ 200 := by rw [List.length_take]; omega
          have hats : At rs (i : Int) j t := ⟨by omega, r, by simpa using hr', ht⟩
          have e0 : (0 + (i : Int)).toNat = i := by omega
          have fin : ∀ v : Int, v = stepIn rs (i : Int) t → ∀ {G'}, G' = [some (.list (dRooms rs)), some (.list (dInts found)), some (.ref pf), some (.int (0 + (i : Int))), some (.ref pr), some (.int t)] → nx3 G' (mupd M2 pr (.lst (dInts ((r.2.take j).map (stepIn rs (i : Int))) ++ [.int v]))) := fun v hv G' hG => by
            subst hG
            refine hn2 _ _ ⟨_, rfl, sub_mupd sb2 hMr, by rw [mupd_ne (Ne.symm npf)]; exact d1, ?_⟩
            rw [mupd_same, List.take_add_one, ht, hv]
            simp [dInts]
          walk_at "goS"
          refine go_ite (fun e1 => ?_) (fun e1 => ?_)
          · have e1 := of_decide_eq_true e1
            have htv : t < (rs.length : Int) := by
              have := ((gr r hrm).tgt j t ht e1).1
              rwa [List.length_map] at this
            have hkt := hat t e1 htv
            have hedge : t ∈ succS (afterS rs) (i : Int) := (after_at (by omega) (by omega)).mpr ⟨⟨j, hats⟩, e1⟩
            have hc := hf.cyc (i : Int) (by omega) (by rw [gl]; omega)
            have hs := hf.scc (i : Int) t (by omega) (by rw [gl]; omega) e1 (by rw [gl]; exact htv)
            rw [Int.toNat_natCast] at hc hs
            rw [e0] at hk
            walk_at "goS"
            refine go_ite (fun e2 => ?_) (fun e2 => ?_)
            · have e2 := of_decide_eq_true e2
              walk_at "goS"
              refine go_ite (fun e3 => ?_) (fun e3 => ?_)
              · have e3 : found.getD i 0 = found.getD t.toNat 0 := by simpa using e3
                walk_at "goS"
                refine fin t ?_ rfl
                unfold stepIn
                rw [if_pos ⟨e1, (hs e2).mp e3⟩]
              · have e3 : found.getD i 0 ≠ found.getD t.toNat 0 := by simpa using e3
                walk_at "goS"
                refine fin (-1) ?_ rfl
                unfold stepIn
                rw [if_neg (fun z => e3 ((hs e2).mpr z.2))]
            · have e2 := of_decide_eq_false e2
              walk_at "goS"
              refine fin (-1) ?_ rfl
              unfold stepIn
              rw [if_neg (fun z => e2 (hc.mpr ⟨t, hedge, z.2.2⟩))]
          · have e1 := of_decide_eq_false e1
            walk_at "goS"
            refine fin (-1) ?_ rfl
            unfold stepIn
            rw [if_neg (fun z => e1 z.1)]
        · obtain ⟨x5, rfl, sb2, d1, d2⟩ := hI
          rw [List.length_map, List.take_length] at d2
          exact hk2 _ _ ⟨_, rfl, sb2, d1, d2⟩
      · obtain ⟨x5, rfl, sb2, d1, d2⟩ := hJ
        have hsl : ((strip rs).take i).length ≤ 100 := by rw [List.length_take, strip_len]; omega
        walk_at "goS"
        refine hn _ _ ⟨_, _, _, rfl, sub_mupd sb2 hpf, ?_⟩
        rw [mupd_same, List.take_add_one, strip_row hr']
        simp [dRooms, isLM]
    · obtain ⟨x3, x4, x5, rfl, sb, c1⟩ := hI
      rw [length_rng] at c1
      simp only [List.length_map, Int.toNat_natCast] at c1
      rw [← strip_len, List.take_length] at c1
      exact hk _ _ ⟨_, _, _, rfl, sb, c1⟩
  · obtain ⟨x3, x4, x5, rfl, sb, c1⟩ := hJ
    walk_at "go"
    refine Fin.list c1 hpf (fun x d e => ?_) q
    have hx : x ≠ pf := fun z => by subst z; rw [hpf] at e; cases e
    rw [mdel_ne hx]
    exact sb x d e
end
end L29

set_option Elab.async false
set_option linter.all false
set_option maxRecDepth 100000
set_option maxHeartbeats 4000000
namespace L29
open PySem PySem.Spec PyProof.Rows L2 DL
open P29 (Pr Cov Reach Bad At Room)
theorem intsD_ints' : ∀ cs : List Int, intsD (cs.map D.int) = some cs
  | [] => rfl
  | c :: cs => by simp [intsD, intsD_ints' cs]
/-- some rooms alone, numbered in this order -/
def keptR (rs : List Rm) (sp : List Int) : List Rm := sp.map fun k => (clsR rs k, (rowOf rs k).map fun t => if t ∈ sp then ((sp.idxOf t : Nat) : Int) else -1)
def sp__law_kept : aSp := fun ds M Q => ∃ web many rs sp, ds = [.list (dRooms rs), .list (dInts sp)] ∧ GoodRs web many rs ∧ many ≤ 200 ∧ sp.length ≤ 100 ∧ (∀ k ∈ sp, 0 ≤ k ∧ k < (rs.length : Int)) ∧ Q (.list (dRooms (keptR rs sp))) M
theorem clsR_at {rs : List Rm} {k : Int} {r : Rm} (h : rs[k.toNat]? = some r) : clsR rs k = r.1 := by unfold clsR; rw [List.getD_eq_getElem?_getD, List.getElem?_map, h]; rfl
theorem kept_good {web : List (List Int)} {many : Int} {rs : List Rm} {sp : List Int} (g : GoodRs web many rs) (h : ∀ k ∈ sp, 0 ≤ k ∧ k < (rs.length : Int)) : GoodRs web many (keptR rs sp) := fun r hr => by
  obtain ⟨k, hk, rfl⟩ := List.mem_map.mp hr
  obtain ⟨k0, k1⟩ := h k hk
  obtain ⟨rm, e, hrm, _⟩ := room_at k0 k1
  have gr := g rm hrm
  have ec := clsR_at e
  have er := rowOf_at e
  refine ⟨by rw [ec]; exact gr.lo, by rw [ec]; exact gr.hi, by simp only [List.length_map, er]; exact gr.len, fun x t hx ht => ?_⟩
  simp only [er, List.getElem?_map] at hx
  obtain ⟨y, hy, hz⟩ := Option.map_eq_some_iff.mp hx
  by_cases q : y ∈ sp
  · rw [if_pos q] at hz
    subst hz
    obtain ⟨y0, _⟩ := h y q
    have hlt := List.idxOf_lt_length_of_mem q
    have hm : (keptR rs sp).map (·.1) = sp.map (clsR rs) := by simp [keptR]
    rw [hm, List.length_map]
    refine ⟨by omega, ?_⟩
    rw [List.getD_eq_getElem?_getD, Int.toNat_natCast, List.getElem?_map, List.getElem?_eq_getElem hlt, List.getElem_idxOf hlt]
    show clsR rs y = stepW web (clsR rs k) (x : Int)
    rw [ec]
    exact (gr.tgt x y hy y0).2
  · rw [if_neg q] at hz
    omega
theorem kept_len {rs : List Rm} {sp : List Int} : (keptR rs sp).length = sp.length := by simp [keptR]
def sp__law_letters : aSp := fun ds M Q => ∃ many w, ds = [.tup (dInts w), .int many] ∧ Ltr many w ∧ w.length ≤ 100000 ∧ Q (.bl true) M
def sp__law_stepped : aSp := fun ds M Q => ∃ web many rs p w, ds = [.list (dRooms rs), .int p, .list (dInts w)] ∧ GoodRs web many rs ∧ 0 ≤ p ∧ p < (rs.length : Int) ∧ Ltr many w ∧ Q (.int (runR rs p w)) M
theorem bools_true : ∀ n : Nat, bools (List.replicate n (D.bl true)) = some (List.replicate n true)
  | 0 => rfl
  | n + 1 => by
    rw [List.replicate_succ, List.replicate_succ]
    show (bools (List.replicate n (D.bl true))).map (true :: ·) = _
    rw [bools_true n]
    rfl
section
variable {P : Program} {w : World} {K : PySem.W.Frag} {mg : Str → Option Value} {base : Heap} {a : Ad}
theorem ok__law_kept (T : TX K mg a) : FnOk P w K mg base CX0 1 a.f__law_kept a.fd__law_kept ["cells", "spots"] (lift K 2 sp__law_kept) := by
  refine okD (k := 0) T.fn__law_kept sc__law_kept rfl fun cdv A outer s H E hr => ⟨_, _, (dss_cons (ds_set (j := 2) sc__law_kept.nd rfl (by first | exact .inl rfl | exact .inr rfl) (de_lstM da_nil))
      (dss_cons (ds_for (di_seq (dv 1)) (dg_name (j := 3) sc__law_kept.nd rfl (by first | exact .inl rfl | exact .inr rfl)) (dss_one (ds_expr (de_bm PySem.F.plainAttrs_list PySem.F.slot_list_append PySem.F.type_list_append mt_append sm_append (.inl rfl) (dv 2) (da_cons (de_tup (da_cons (de_ix (hu_of hr) (de_ix (hu_of hr) (dv 0) (dv 3) (fun _ _ => rfl)) de_int (fun _ _ => rfl)) (da_cons (de_callTy call_tuple_of sl_tuple (by rfl) T.b_tuple (by decide +kernel) (da_cons (de_lc (own := [("there", 4)]) rfl sc__law_kept.nd (di_seq (de_ix (hu_of hr) (de_ix (hu_of hr) (dv 0) (dv 3) (fun _ _ => rfl)) de_int (fun _ _ => rfl))) (blkOk_by (by rfl)) (fun _ _ _ _ _ => (dg_name (j := 4) sc__law_kept.nd rfl (by first | exact .inl rfl | exact .inr rfl))) (fun _ _ _ _ _ => dts_nil) (fun _ _ _ _ _ => (de_ifExp (dt_cmp (op_inA (hu_of hr)) s2_in (dv 4) (dv 1) (by rfl)) (de_bm PySem.F.plainAttrs_list PySem.F.slot_list_index PySem.F.type_list_index mt_index sm_index (.inl rfl) (dv 1) (da_cons (dv 4) da_nil)) (de_neg de_int))) om_name) da_nil)) da_nil))) da_nil)))) PassesOwn.never)
      (dss_one (ds_ret (dv 2))))), fun ds M Q hl h => ?_⟩
  obtain ⟨web, many, rs, sp, rfl, gr, hmy, hsl, hsp, q⟩ := h
  walk_at "start"
  walk_at "goS"
  intro pf hpf
  walk_at "go"
  refine go_seqK (J := fun G' M' => ∃ (x3 : Option D), G' = [some (.list (dRooms rs)), some (.list (dInts sp)), some (.ref pf), x3, none] ∧ Sub M M' ∧ M' pf = some (.lst (dRooms (keptR rs sp)))) (fun nx hk => ?_) (fun G' M' hJ => ?_)
  · walk_at "go"
    refine go_forI (fun i G' M' => ∃ (x3 : Option D), G' = [some (.list (dRooms rs)), some (.list (dInts sp)), some (.ref pf), x3, none] ∧ Sub M M' ∧ M' pf = some (.lst (dRooms ((keptR rs sp).take i)))) ⟨_, rfl, sub_mupd (fun _ _ h => h) hpf, mupd_same⟩ (fun i d G' M' nx' hd hI hn => ?_) (fun G' M' hI => ?_)
    · obtain ⟨x3, rfl, sb, c1⟩ := hI
      rw [List.getElem?_map] at hd
      obtain ⟨k, hk', rfl⟩ := Option.map_eq_some_iff.mp hd
      obtain ⟨k0, k1⟩ := hsp k (List.mem_of_getElem? hk')
      obtain ⟨r, hr, hrm, er⟩ := room_at k0 k1
      have hrw := (gr r hrm).len
      walk_at "goS"
      refine go_lcI (fun j acc M2 => M' = M2 ∧ acc = dInts ((r.2.take j).map fun t => if t ∈ sp then ((sp.idxOf t : Nat) : Int) else -1)) ⟨rfl, rfl⟩ (fun j d acc M2 KY KN hd2 hI2 hY hN => ?_) (fun acc M2 hI2 => ?_)
      · obtain ⟨rfl, rfl⟩ := hI2
        rw [List.getElem?_map] at hd2
        obtain ⟨t, ht, rfl⟩ := Option.map_eq_some_iff.mp hd2
        walk_at "goS"
        refine go_inI rfl (flat_ints _) ?_
        rw [memD_ints]
        walk_at "goS"
        refine go_ite (fun e => ?_) (fun e => ?_)
        · have e : t ∈ sp := by simpa using e
          walk_at "goS"
          refine go_index rfl rfl (intsD_ints' sp) e ?_
          refine hY _ _ ⟨rfl, ?_⟩
          rw [List.take_add_one, ht]
          simp [dInts, e]
        · have e : t ∉ sp := by simpa using e
          walk_at "goS"
          refine hY _ _ ⟨rfl, ?_⟩
          rw [List.take_add_one, ht]
          simp [dInts, e]
      obtain ⟨rfl, rfl⟩ := hI2
      rw [List.length_map, List.take_length]
      have hkl : ((keptR rs sp).take i).length ≤ 100 := by rw [List.length_take, kept_len]; omega
      walk_at "goS"
      refine hn _ _ ⟨_, rfl, sub_mupd sb hpf, ?_⟩
      rw [mupd_same, List.take_add_one]
      have : (keptR rs sp)[i]? = some (r.1, r.2.map fun t => if t ∈ sp then ((sp.idxOf t : Nat) : Int) else -1) := by
        unfold keptR
        rw [List.getElem?_map, hk', Option.map_some, clsR_at hr, rowOf_at hr]
      rw [this]
      simp [dRooms, isLM, isL]
    · obtain ⟨x3, rfl, sb, c1⟩ := hI
      rw [List.length_map, ← kept_len (rs := rs), List.take_length] at c1
      exact hk _ _ ⟨_, rfl, sb, c1⟩
  · obtain ⟨x3, rfl, sb, c1⟩ := hJ
    walk_at "go"
    refine Fin.list c1 hpf (fun x d e => ?_) q
    have hx : x ≠ pf := fun z => by subst z; rw [hpf] at e; cases e
    rw [mdel_ne hx]
    exact sb x d e
theorem ok__law_letters (T : TX K mg a) : FnOk P w K mg base CX0 1 a.f__law_letters a.fd__law_letters ["found", "many"] (lift K 2 sp__law_letters) := by
  refine okD (k := 0) T.fn__law_letters sc__law_letters rfl fun cdv A outer s H E hr => ⟨_, _, (dss_one (ds_ret (de_and (de_callB call_isi sl_isi (by rfl) T.b_isinstance (by decide +kernel) (da_cons (dv 0) (da_cons (de_ty (n := "tuple") (by rfl) T.b_tuple) da_nil))) (de_one (de_callB (cr_all rfl) sl_all (by rfl) T.b_all (by decide +kernel) (da_cons (de_lc (own := [("x", 2)]) rfl sc__law_letters.nd (di_seq (dv 0)) (blkOk_by (by rfl)) (fun _ _ _ _ _ => (dg_name (j := 2) sc__law_letters.nd rfl (by first | exact .inl rfl | exact .inr rfl))) (fun _ _ _ _ _ => dts_nil) (fun _ _ _ _ _ => (de_and (de_callB call_isi sl_isi (by rfl) T.b_isinstance (by decide +kernel) (da_cons (dv 2) (da_cons (de_ty (n := "int") (by rfl) T.b_int) da_nil))) (de_and (de_not (de_callB call_isi sl_isi (by rfl) T.b_isinstance (by decide +kernel) (da_cons (dv 2) (da_cons (de_ty (n := "bool") (by rfl) T.b_bool) da_nil)))) (de_and (de_cmp op_ge s2_ge (dv 2) de_int (nomark _)) (de_one (de_cmp op_lt s2_lt (dv 2) (dv 1) (nomark _))))))) om_name) da_nil)))))), fun ds M Q hl h => ?_⟩
  obtain ⟨many, w, rfl, hw, hl, q⟩ := h
  walk_at "start"
  walk_at "goS"
  refine go_lcI (fun i acc M' => M = M' ∧ acc = List.replicate i (.bl true)) ⟨rfl, rfl⟩ (fun i d acc M' KY KN hd hI hY hN => ?_) (fun acc M' hI => ?_)
  · obtain ⟨rfl, rfl⟩ := hI
    rw [List.getElem?_map] at hd
    obtain ⟨x, hx, rfl⟩ := Option.map_eq_some_iff.mp hd
    obtain ⟨x0, x1⟩ := hw x (List.mem_of_getElem? hx)
    walk_at "goS"
    refine go_iteT (decide_eq_true x0) ?_
    walk_at "goS"
    rw [decide_eq_true x1]
    exact hY _ _ ⟨rfl, by rw [List.replicate_succ']⟩
  obtain ⟨rfl, rfl⟩ := hI
  walk_at "goS"
  refine go_all rfl rfl (bools_true _) ?_
  rw [show (List.replicate (List.map D.int w).length true).all _root_.id = true by simp]
  exact Fin.of q
theorem ok__law_stepped (T : TX K mg a) : FnOk P w K mg base CX0 1 a.f__law_stepped a.fd__law_stepped ["cells", "p", "path"] (lift K 3 sp__law_stepped) := by
  refine okD (k := 0) T.fn__law_stepped sc__law_stepped rfl fun cdv A outer s H E hr => ⟨_, _, (dss_cons (ds_set (j := 3) sc__law_stepped.nd rfl (by first | exact .inl rfl | exact .inr rfl) (dv 1))
      (dss_cons (ds_for (di_seq (dv 2)) (dg_name (j := 4) sc__law_stepped.nd rfl (by first | exact .inl rfl | exact .inr rfl)) (dss_one (ds_set (j := 3) sc__law_stepped.nd rfl (by first | exact .inl rfl | exact .inr rfl) (de_ifExp (dt_cmp op_ge s2_ge (dv 3) de_int (nomark _)) (de_ix (hu_of hr) (de_ix (hu_of hr) (de_ix (hu_of hr) (dv 0) (dv 3) (fun _ _ => rfl)) de_int (fun _ _ => rfl)) (dv 4) (fun _ _ => rfl)) (de_neg de_int)))) PassesOwn.never)
      (dss_one (ds_ret (dv 3))))), fun ds M Q hl h => ?_⟩
  obtain ⟨web, many, rs, p, w, rfl, gr, p0, p1, hw, q⟩ := h
  walk_at "start"
  walk_at "goS"
  refine go_seqK (J := fun G' M' => ∃ (x4 : Option D), G' = [some (.list (dRooms rs)), some (.int p), some (.list (dInts w)), some (.int (runR rs p w)), x4] ∧ M = M') (fun nx hk => ?_) (fun G' M' hJ => ?_)
  · walk_at "go"
    refine go_forI (fun j G' M' => ∃ (x4 : Option D), G' = [some (.list (dRooms rs)), some (.int p), some (.list (dInts w)), some (.int (runR rs p (w.take j))), x4] ∧ M = M') ⟨_, rfl, rfl⟩ (fun j d G' M' nx3 hd2 hI hn3 => ?_) (fun G' M' hI => ?_)
    · obtain ⟨x4, rfl, rfl⟩ := hI
      rw [List.getElem?_map] at hd2
      obtain ⟨y, hy, rfl⟩ := Option.map_eq_some_iff.mp hd2
      obtain ⟨y0, y1⟩ := hw y (List.mem_of_getElem? hy)
      have step : runR rs p (w.take (j + 1)) = stepR rs (runR rs p (w.take j)) y := by
        rw [List.take_add_one, hy, runR_app]
        rfl
      walk_at "goS"
      refine go_ite (fun e1 => ?_) (fun e1 => ?_)
      · have e1 := of_decide_eq_true e1
        obtain ⟨rm, er2, et2, _⟩ := atStepR gr e1 (runR_ok gr (w.take j) p (fun z hz => hw z (List.mem_of_mem_take hz)) p0 p1 e1).1 y0 y1
        walk_at "goS"
        exact hn3 _ _ ⟨_, by rw [step], rfl⟩
      · have e1 := of_decide_eq_false e1
        walk_at "goS"
        refine hn3 _ _ ⟨some (.int y), ?_, rfl⟩
        rw [step]
        unfold stepR
        rw [if_neg e1]
    · obtain ⟨x4, rfl, rfl⟩ := hI
      rw [List.length_map, List.take_length]
      exact hk _ _ ⟨_, rfl, rfl⟩
  · obtain ⟨x4, rfl, rfl⟩ := hJ
    walk_at "go"
    exact Fin.of q
end
end L29

set_option Elab.async false
set_option linter.all false
set_option maxRecDepth 100000
set_option maxHeartbeats 4000000
namespace L29
open PySem PySem.Spec PyProof.Rows L2 DL
/-- a list of rooms whose steps are lists of ours -/
abbrev dOpen (z : Int × Addr) : D := .tup [.int z.1, .ref z.2]
def Opn (M : Mp) (b : Addr) (web : List (List Int)) (many : Int) (spots : List Int) (M' : Mp) (ps : List (Int × Addr)) : Prop := ∀ z ∈ ps, (M z.2 = none ∧ z.2 ≠ b) ∧ ∃ ts : List Int, M' z.2 = some (.lst (dInts ts)) ∧ GoodR web many spots (z.1, ts)
section
variable {M M' : Mp} {b x : Addr} {web : List (List Int)} {many : Int} {spots : List Int} {ps : List (Int × Addr)}
theorem Opn.oth {c : MC} (h : Opn M b web many spots M' ps) (hx : ∀ z ∈ ps, z.2 ≠ x) : Opn M b web many spots (mupd M' x c) ps := fun z hz => by
  obtain ⟨h1, ts, h2, h3⟩ := h z hz
  exact ⟨h1, ts, by rw [mupd_ne (hx z hz)]; exact h2, h3⟩
theorem Opn.nb (h : Opn M b web many spots M' ps) : ∀ z ∈ ps, z.2 ≠ b := fun z hz => (h z hz).1.2
theorem Opn.nn (h : Opn M b web many spots M' ps) (hx : M' x = none) : ∀ z ∈ ps, z.2 ≠ x := fun z hz => by
  obtain ⟨h1, ts, h2, h3⟩ := h z hz
  intro e
  rw [e, hx] at h2
  cases h2
end
theorem same_addr {ps : List (Int × Addr)} (h : (ps.map (·.2)).Nodup) {y z : Int × Addr} (hy : y ∈ ps) (hz : z ∈ ps) (e : y.2 = z.2) : y = z := by
  obtain ⟨i, hi⟩ := List.getElem?_of_mem hy
  obtain ⟨j, hj⟩ := List.getElem?_of_mem hz
  have h1 : (ps.map (·.2))[i]? = some y.2 := by rw [List.getElem?_map, hi]; rfl
  have h2 : (ps.map (·.2))[j]? = some z.2 := by rw [List.getElem?_map, hj]; rfl
  obtain ⟨a1, b1⟩ := List.getElem?_eq_some_iff.mp h1
  obtain ⟨a2, b2⟩ := List.getElem?_eq_some_iff.mp h2
  have := (List.getElem_inj h).mp (b1.trans (e.trans b2.symm))
  subst this
  rw [hi] at hj
  exact Option.some.inj hj
def sp__law_bent : aSp := fun ds M Q => ∃ b web many cells, ds = [.ref b, dWeb web, .list (dRooms cells)] ∧ GoodWeb web many ∧ cells.length ≤ 20 ∧ GoodRs web many cells ∧ Bag M b ∧
  ∀ bent : List Rm, ∀ c, bent.length = cells.length → GoodRs web many bent → GoodBag c → Q (.list (dRooms bent)) (mupd M b c)
section
variable {P : Program} {w : World} {K : PySem.W.Frag} {mg : Str → Option Value} {base : Heap} {a : Ad}
theorem ok__law_bent (T : TX K mg a) : FnOk P w K mg base CX0 3 a.f__law_bent a.fd__law_bent ["bag", "web", "cells"] (lift K 3 sp__law_bent) := by
  refine okD (k := 2) T.fn__law_bent sc__law_bent rfl fun cdv A outer s H E hr => ⟨_, _, (dss_cons (ds_setLc (j := 3) (own := [("spot", 5), ("steps", 6)]) rfl sc__law_bent.nd rfl rfl (sw_true rfl rfl rfl (by decide +kernel)) (di_seq (dv 2)) (blkOk_by (by rfl)) (fun _ _ _ _ _ => (dg_tup (dgs_cons (dg_name (j := 5) sc__law_bent.nd rfl (by first | exact .inl rfl | exact .inr rfl)) (dgs_cons (dg_name (j := 6) sc__law_bent.nd rfl (by first | exact .inl rfl | exact .inr rfl)) dgs_nil)))) (fun _ _ _ _ _ => dts_nil) (fun _ _ _ _ _ => (de_tup (da_cons (dv 5) (da_cons (de_callTy call_list_of sl_listM (by rfl) T.b_list (by decide +kernel) (da_cons (dv 6) da_nil)) da_nil)))) (om_tup (om_cons om_name (om_cons om_name om_nil))))
      (dss_cons (ds_for (di_range1 (by rfl) T.b_range (da_cons (de_ifExp (dt_tru (dv 3)) de_int de_int) da_nil)) (dg_name (j := 4) sc__law_bent.nd rfl (by first | exact .inl rfl | exact .inr rfl)) (dss_cons (ds_asg (de_call (ok__law_of T) (hr.mono (by decide)) (by rfl) T.mg__law_of T.kp__law_of T.bd__law_of pass0 (da_cons (dv 0) (da_cons (dv 3) da_nil))) (dg_tup (dgs_cons (dg_name (j := 5) sc__law_bent.nd rfl (by first | exact .inl rfl | exact .inr rfl)) (dgs_cons (dg_name (j := 6) sc__law_bent.nd rfl (by first | exact .inl rfl | exact .inr rfl)) dgs_nil))))
      (dss_cons (ds_asg (de_tup (da_cons (de_call (ok__law_draw T) (hr.mono (by decide)) (by rfl) T.mg__law_draw T.kp__law_draw T.bd__law_draw pass0 (da_cons (dv 0) (da_cons (de_callB call_lenA sl_len (by rfl) T.b_len (by decide +kernel) (da_cons (dv 6) da_nil)) da_nil))) (da_cons (de_call (ok__law_draw T) (hr.mono (by decide)) (by rfl) T.mg__law_draw T.kp__law_draw T.bd__law_draw pass0 (da_cons (dv 0) (da_cons de_int da_nil))) (da_cons (de_call (ok__law_draw T) (hr.mono (by decide)) (by rfl) T.mg__law_draw T.kp__law_draw T.bd__law_draw pass0 (da_cons (dv 0) (da_cons de_int da_nil))) da_nil)))) (dg_tup (dgs_cons (dg_name (j := 7) sc__law_bent.nd rfl (by first | exact .inl rfl | exact .inr rfl)) (dgs_cons (dg_name (j := 8) sc__law_bent.nd rfl (by first | exact .inl rfl | exact .inr rfl)) (dgs_cons (dg_name (j := 9) sc__law_bent.nd rfl (by first | exact .inl rfl | exact .inr rfl)) dgs_nil)))))
      (dss_cons (ds_setLc (j := 10) (own := [("q", 11)]) rfl sc__law_bent.nd rfl rfl (sw_true rfl rfl rfl (by decide +kernel)) (di_range1 (by rfl) T.b_range (da_cons (de_callB call_lenA sl_len (by rfl) T.b_len (by decide +kernel) (da_cons (dv 2) da_nil)) da_nil)) (blkOk_by (by rfl)) (fun _ _ _ _ _ => (dg_name (j := 11) sc__law_bent.nd rfl (by first | exact .inl rfl | exact .inr rfl))) (fun _ _ _ _ _ => (dts_one (dt_cmp (op_eqD hr.units) s2_eq (de_ix (hu_of hr) (de_ix (hu_of hr) (dv 2) (dv 11) (fun _ _ => rfl)) de_int (fun _ _ => rfl)) (de_ix (hu_of hr) (de_ix (hu_of hr) (dv 1) (dv 5) (fun _ _ => rfl)) (dv 7) (fun _ _ => rfl)) (nomark _)))) (fun _ _ _ _ _ => (dv 11)) om_name)
      (dss_one (ds_asg (de_ifExp (DW.dt (dw_or (dt_cmp (op_eqD hr.units) s2_eq (dv 9) de_int (nomark _)) (dw_or1 (dt_not (dt_tru (dv 10)))))) (de_neg de_int) (de_ix (hu_of hr) (dv 10) (de_mod (de_callTy call_int1 sl_int (by rfl) T.b_int (by decide +kernel) (da_cons (dv 8) da_nil)) (de_callB call_lenA sl_len (by rfl) T.b_len (by decide +kernel) (da_cons (dv 10) da_nil))) (fun _ _ => rfl))) (dg_subL (dv 6) (dv 7))))))) PassesOwn.never)
      (dss_one (ds_ret (de_lc (own := [("spot", 5), ("steps", 6)]) rfl sc__law_bent.nd (di_seq (dv 3)) (blkOk_by (by rfl)) (fun _ _ _ _ _ => (dg_tup (dgs_cons (dg_name (j := 5) sc__law_bent.nd rfl (by first | exact .inl rfl | exact .inr rfl)) (dgs_cons (dg_name (j := 6) sc__law_bent.nd rfl (by first | exact .inl rfl | exact .inr rfl)) dgs_nil)))) (fun _ _ _ _ _ => dts_nil) (fun _ _ _ _ _ => (de_tup (da_cons (dv 5) (da_cons (de_callTy call_tuple_of sl_tuple (by rfl) T.b_tuple (by decide +kernel) (da_cons (dv 6) da_nil)) da_nil)))) (om_tup (om_cons om_name (om_cons om_name om_nil)))))))), fun ds M Q hl h => ?_⟩
  obtain ⟨b, web, many, cells, rfl, gw, hle, hgr, hb, q⟩ := h
  have gl := gw.le
  have gn : 0 < web.length := List.length_pos_iff.mpr gw.ne
  have gp := gw.pos
  have gl2 := gw.le2
  walk_at "start"
  walk_at "go"
  refine go_lcI (fun i acc M' => ∃ ps : List (Int × Addr), acc = ps.map dOpen ∧ ps.map (·.1) = (cells.take i).map (·.1) ∧ (ps.map (·.2)).Nodup ∧ Opn M b web many (cells.map (·.1)) M' ps ∧ Kp M b M') ⟨[], rfl, rfl, .nil, fun z hz => by simp at hz, .refl hb⟩ (fun i d acc M' KY KN hd hI hY hN => ?_) (fun acc M' hI => ?_)
  · obtain ⟨ps, rfl, hl, hnd, ho, kk⟩ := hI
    rw [List.getElem?_map] at hd
    obtain ⟨r, hr, rfl⟩ := Option.map_eq_some_iff.mp hd
    walk_at "go"
    intro p hp
    walk_at "go"
    refine hY (dOpen (r.1, p)) _ ⟨ps ++ [(r.1, p)], by simp [dOpen], by rw [List.map_append, hl, List.take_add_one, hr]; simp, ?_, fun z hz => ?_, kk.new hp⟩
    · rw [List.map_append]
      exact List.nodup_append.mpr ⟨hnd, by simp, fun x hx y hy e => by
        obtain ⟨z, hz, rfl⟩ := List.mem_map.mp hx
        have hy : y = p := by simpa using hy
        subst hy
        exact ho.nn hp z hz e⟩
    rcases List.mem_append.mp hz with hz | hz
    · exact ho.oth (ho.nn hp) z hz
    · rcases List.mem_singleton.mp hz with rfl
      exact ⟨⟨kk.fresh hp, kk.ne hp⟩, r.2, mupd_same, hgr r (List.mem_of_getElem? hr)⟩
  obtain ⟨ps, rfl, hl, hnd, ho, kk⟩ := hI
  rw [List.length_map, List.take_length] at hl
  have hpl : ps.length = cells.length := by
    have := congrArg List.length hl
    simpa using this
  walk_at "go"
  refine go_seqK (J := fun G' M' => ∃ (x4 x5 x6 x7 x8 x9 x10 : Option D), G' = [some (.ref b), some (dWeb web), some (.list (dRooms cells)), some (.list (ps.map dOpen)), x4, x5, x6, x7, x8, x9, x10, none] ∧ Opn M b web many (cells.map (·.1)) M' ps ∧ Kp M b M') (fun nx hk => ?_) (fun G' M' hJ => ?_)
  · walk_at "go"
    refine go_ite (fun e => ?_) (fun e => ?_)
    · have hne : ps ≠ [] := fun z => by subst z; simp at e
      have hp0 : 0 < ps.length := List.length_pos_iff.mpr hne
      walk_at "go"
      refine go_forI (fun i G' M' => ∃ (x4 x5 x6 x7 x8 x9 x10 : Option D), G' = [some (.ref b), some (dWeb web), some (.list (dRooms cells)), some (.list (ps.map dOpen)), x4, x5, x6, x7, x8, x9, x10, none] ∧ Opn M b web many (cells.map (·.1)) M' ps ∧ Kp M b M') ⟨_, _, _, _, _, _, _, rfl, ho, kk⟩ (fun i d G' M' nx' hd hI hn => ?_) (fun G' M' hI => hk _ _ hI)
      obtain ⟨x4, x5, x6, x7, x8, x9, x10, rfl, ho, kk⟩ := hI
      obtain ⟨hlt, rfl⟩ := rng_get hd
      walk_at "go"
      refine of_go kk (by simpa using hne) (by simp only [List.length_map]; omega) (fun d c1 hd1 g1 k1 => ?_)
      obtain ⟨z, hz, rfl⟩ := List.mem_map.mp hd1
      have ho := ho.oth (x := b) (c := c1) ho.nb
      generalize hM1 : mupd M' b c1 = M1 at k1 ho
      obtain ⟨⟨z1, z2⟩, ts, z3, gz⟩ := ho z hz
      have gzl : (ts.length : Int) = many := gz.len
      obtain ⟨row, hrow, hrl, hrlen, erow⟩ := web_at gw gz.lo gz.hi
      simp only at erow hrl hrow
      walk_at "go"
      refine draw_go k1 (by simp only [List.length_map]; omega) (by simp only [List.length_map]; omega) (fun x c2 x0 x1 g2 k2 => ?_)
      simp only [List.length_map] at x1
      walk_at "go"
      refine draw_go k2 (by decide) (by decide) (fun pick c3 _ _ g3 k3 => ?_)
      walk_at "go"
      refine draw_go k3 (by decide) (by decide) (fun way c4 _ _ g4 k4 => ?_)
      have ho := ((ho.oth (x := b) (c := c2) ho.nb).oth (x := b) (c := c3) ho.nb).oth (x := b) (c := c4) ho.nb
      generalize hM3 : mupd (mupd (mupd M1 b c2) b c3) b c4 = M3 at k4 ho
      have z3 : M3 z.2 = some (.lst (dInts ts)) := by rw [← hM3, mupd_ne z2, mupd_ne z2, mupd_ne z2]; exact z3
      clear hM3 hM1
      obtain ⟨w0, hw0, _, ew⟩ := int_at (cs := row) (i := x) x0 (by omega)
      have hst : stepW web z.1 x = w0 := by
        unfold stepW
        rw [hrow]
        exact getD_of hw0
      walk_at "go"
      refine go_lcR (fun l => ∃ r, cells[l.toNat]? = some r ∧ r.1 = w0) (fun l KY KN l0 l1 hY hN => ?_) (fun lot hlot hlen => ?_)
      · simp only [List.length_map] at l1
        obtain ⟨r, hr0, hrm, er⟩ := room_at (rs := cells) l0 (by omega)
        walk_at "go"
        refine go_ite (fun e => ?_) (fun e => ?_)
        · walk_at "go"
          exact hY ⟨r, hr0, eq_of_beq e⟩
        · refine hN ?_
          rintro ⟨r', h1, h2⟩
          rw [hr0] at h1
          cases h1
          rw [h2] at e
          simp at e
      have ixx : ixN (dInts ts).length x = some x.toNat := ixN_nn x0 (by rw [List.length_map]; omega)
      have out : ∀ v : Int, (0 ≤ v → v < ((cells.map (·.1)).length : Int) ∧ (cells.map (·.1)).getD v.toNat 0 = w0) → nx' [some (.ref b), some (dWeb web), some (.list (dRooms cells)), some (.list (ps.map dOpen)), some (.int (0 + (i : Int))), some (.int z.1), some (.ref z.2), some (.int x), some (.int pick), some (.int way), some (.list (dInts lot)), none] (mupd M3 z.2 (.lst ((dInts ts).set x.toNat (.int v)))) := fun v hv => by
        refine hn _ _ ⟨_, _, _, _, _, _, _, rfl, fun y hy => ?_, k4.mut z1 z2⟩
        obtain ⟨y1, us, y2, y3⟩ := ho y hy
        by_cases q : y.2 = z.2
        · rw [q, z3] at y2
          have e1 : dInts ts = dInts us := by injection (Option.some.inj y2)
          have e2 : ts = us := (List.map_inj_right (fun a b h => by injection h)).mp e1
          subst e2
          have hyz : y = z := same_addr hnd hy hz q
          subst hyz
          refine ⟨y1, ts.set x.toNat v, by rw [q, mupd_same, ← List.map_set], y3.lo, y3.hi, by rw [List.length_set]; exact y3.len, fun l t hl ht => ?_⟩
          by_cases qx : x.toNat = l
          · subst qx
            rw [List.getElem?_set_self (by omega)] at hl
            cases hl
            have := hv ht
            refine ⟨this.1, ?_⟩
            rw [this.2, ← hst]
            congr 1
            omega
          · rw [List.getElem?_set_ne qx] at hl
            exact gz.tgt l t hl ht
        · exact ⟨y1, us, by rw [mupd_ne q]; exact y2, y3⟩
      walk_at "goS"
      refine go_ite (fun e => ?_) (fun e => ?_)
      · walk_at "goS"
        exact out (-1) (fun h => absurd h (by decide))
      · walk_at "goS"
        refine go_ite (fun e => ?_) (fun e => ?_)
        · walk_at "goS"
          exact out (-1) (fun h => absurd h (by decide))
        · have hn0 : 0 < lot.length := by
            cases lot with
            | nil => simp at e
            | cons => simp
          obtain ⟨v, _, hv, ev⟩ := int_at (cs := lot) (i := pick % (lot.length : Int)) (Int.emod_nonneg _ (by omega)) (Int.emod_lt_of_pos _ (by omega))
          have ev : atI (List.map D.int lot) (pick % ((List.map D.int lot).length : Int)) = some (.int v) := by rw [List.length_map]; exact ev
          obtain ⟨hv0, hv2, rv, hv3, hv4⟩ := (hlot v).mp hv
          simp only [List.length_map] at hv2
          walk_at "goS"
          refine out v (fun _ => ⟨by rw [List.length_map]; omega, ?_⟩)
          rw [List.getD_eq_getElem?_getD, List.getElem?_map, hv3]
          exact hv4
    · walk_at "go"
      refine go_forI (fun i G' M' => ∃ (x4 x5 x6 x7 x8 x9 x10 : Option D), G' = [some (.ref b), some (dWeb web), some (.list (dRooms cells)), some (.list (ps.map dOpen)), x4, x5, x6, x7, x8, x9, x10, none] ∧ Opn M b web many (cells.map (·.1)) M' ps ∧ Kp M b M') ⟨_, _, _, _, _, _, _, rfl, ho, kk⟩ (fun i d G' M' nx' hd hI hn => ?_) (fun G' M' hI => hk _ _ hI)
      obtain ⟨hlt, rfl⟩ := rng_get hd
      exact absurd hlt (by simp)
  · obtain ⟨x4, x5, x6, x7, x8, x9, x10, rfl, ho, kk⟩ := hJ
    walk_at "go"
    refine go_lcI (fun i acc M2 => M2 = M' ∧ ∃ bent : List Rm, acc = dRooms bent ∧ bent.map (·.1) = (cells.take i).map (·.1) ∧ ∀ r ∈ bent, GoodR web many (cells.map (·.1)) r) ⟨rfl, [], rfl, rfl, by simp⟩ (fun i d acc M2 KY KN hd hI hY hN => ?_) (fun acc M2 hI => ?_)
    · obtain ⟨rfl, bent, rfl, hl3, hb2⟩ := hI
      rw [List.getElem?_map] at hd
      obtain ⟨z, hz, rfl⟩ := Option.map_eq_some_iff.mp hd
      obtain ⟨_, ts, z3, gz⟩ := ho z (List.mem_of_getElem? hz)
      walk_at "go"
      refine hY (dRoom (z.1, ts)) _ ⟨rfl, bent ++ [(z.1, ts)], by simp [dRooms], ?_, fun r hr => ?_⟩
      · rw [List.map_append, hl3]
        have h1 : (ps.map (·.1))[i]? = some z.1 := by rw [List.getElem?_map, hz]; rfl
        rw [hl] at h1
        rw [List.map_take, List.map_take, List.take_add_one, h1]
        simp
      · rcases List.mem_append.mp hr with hr | hr
        · exact hb2 r hr
        · rcases List.mem_singleton.mp hr with rfl
          exact gz
    · obtain ⟨rfl, bent, rfl, hl3, hb2⟩ := hI
      rw [List.length_map, hpl, List.take_length] at hl3
      walk_at "go"
      obtain ⟨c', g1, g2⟩ := kk.sub
      refine DL.Fin.sub g2 (q bent c' ?_ (fun r hr => by rw [hl3]; exact hb2 r hr) g1)
      have := congrArg List.length hl3
      simpa using this
end
end L29

set_option Elab.async false
set_option linter.all false
set_option maxRecDepth 100000
set_option maxHeartbeats 4000000
namespace L29
open PySem PySem.Spec PyProof.Rows L2 DL
open P29 (Pr Cov Reach Bad At Room)
theorem strip_good {web : List (List Int)} {many : Int} {rs : List Rm} (g : GoodRs web many rs) : GoodRs web many (strip rs) := fun r hr => by
  obtain ⟨k, hk⟩ := List.getElem?_of_mem hr
  have hk2 := (List.getElem?_eq_some_iff.mp hk).1
  rw [strip_len] at hk2
  have e : rs[k]? = some rs[k] := List.getElem?_eq_getElem hk2
  rw [strip_row e] at hk
  cases hk
  have gr := g _ (List.getElem_mem hk2)
  refine ⟨gr.lo, gr.hi, by simp only [List.length_map]; exact gr.len, fun x t hx ht => ?_⟩
  simp only [List.getElem?_map] at hx
  obtain ⟨y, hy, hz⟩ := Option.map_eq_some_iff.mp hx
  have hm : (strip rs).map (·.1) = rs.map (·.1) := by
    apply List.ext_getElem?
    intro i
    by_cases q : i < rs.length
    · have e2 : rs[i]? = some rs[i] := List.getElem?_eq_getElem q
      rw [List.getElem?_map, List.getElem?_map, strip_row e2, e2]
      rfl
    · rw [List.getElem?_eq_none (by simp [strip_len]; omega), List.getElem?_eq_none (by simp; omega)]
  rw [hm]
  unfold stepIn at hz
  split at hz
  · subst hz
    exact gr.tgt x y hy ht
  · omega
theorem good_wf {web : List (List Int)} {many : Int} {rs : List Rm} (g : GoodRs web many rs) : Wf many rs := ⟨fun r hr => (g r hr).len, fun r hr t ht => by
  by_cases q : 0 ≤ t
  · obtain ⟨x, hx⟩ := List.getElem?_of_mem ht
    have := ((g r hr).tgt x t hx q).1
    rwa [List.length_map] at this
  · have : 0 < rs.length := List.length_pos_iff.mpr (List.ne_nil_of_mem hr)
    omega⟩
theorem good_two {web : List (List Int)} {many : Int} {rs ss : List Rm} {p q : Int} (g : GoodRs web many rs) (g' : GoodRs web many ss) (l : rs.length ≤ 30) (l' : ss.length ≤ 30) (m : many ≤ 200) (p0 : 0 ≤ p) (p1 : p < (rs.length : Int)) (q0 : 0 ≤ q) (q1 : q < (ss.length : Int)) : Two many rs ss p q :=
  ⟨good_wf g, good_wf g', l, l', by omega, p0, p1, q0, q1⟩
theorem cov_refl {rs : List Rm} {p : Int} : Cov rs rs (p, p) := by
  refine P29.cov_closed (fun e => e.1 = e.2) rfl (fun e x t s he a b _ _ => ?_) (fun e he hb => ?_)
  · rw [he] at a
    exact at_fun a b
  · obtain ⟨x, t, s, a, b, t0, s0⟩ := hb
    rw [he] at a
    have := at_fun a b
    omega
theorem cov_trans {web : List (List Int)} {many : Int} {rs ss us : List Rm} (gr : GoodRs web many rs) (g : GoodRs web many ss) {p q r : Int} (q0 : 0 ≤ q) (q1 : q < (ss.length : Int)) (h : Cov rs ss (p, q)) (h2 : Cov ss us (q, r)) : Cov rs us (p, r) := by
  have mid : ∀ {b : Int} {e : Pr}, Reach ss us (q, r) e → 0 ≤ e.1 ∧ e.1 < (ss.length : Int) := fun {b e} h => by
    induction h with
    | refl => exact ⟨q0, q1⟩
    | @step e x t s _ a _ t0 _ _ => exact ⟨t0, (good_wf g).at a⟩
  have key : ∀ (a c : Int) (x : Nat) (t : Int), (∃ b, Reach rs ss (p, q) (a, b) ∧ Reach ss us (q, r) (b, c)) → At rs a x t → 0 ≤ t → ∃ b u, Reach rs ss (p, q) (a, b) ∧ Reach ss us (q, r) (b, c) ∧ At ss b x u ∧ 0 ≤ u := fun a c x t ⟨b, h3, h4⟩ ha t0 => by
    obtain ⟨b0, b1⟩ := mid (b := 0) h4
    obtain ⟨hx, _⟩ := step_of_at gr ha
    have hu := at_step g b0 b1 (x := (x : Int)) (by omega) hx
    rw [Int.toNat_natCast] at hu
    refine ⟨b, _, h3, h4, hu, ?_⟩
    by_cases z : 0 ≤ stepR ss b (x : Int)
    · exact z
    · exact absurd ⟨x, t, _, ha, hu, t0, (by show stepR ss b (x : Int) < 0; omega)⟩ (h _ h3)
  refine P29.cov_closed (fun e => ∃ b, Reach rs ss (p, q) (e.1, b) ∧ Reach ss us (q, r) (b, e.2)) ⟨q, .refl, .refl⟩ (fun e x t s he ha hb t0 s0 => ?_) (fun e he hbad => ?_)
  · obtain ⟨b, u, h3, h4, hu, u0⟩ := key e.1 e.2 x t he ha t0
    exact ⟨u, .step h3 ha hu t0 u0, .step h4 hu hb u0 s0⟩
  · obtain ⟨x, t, s, ha, hb, t0, s0⟩ := hbad
    obtain ⟨b, u, h3, h4, hu, u0⟩ := key e.1 e.2 x t he ha t0
    exact h2 _ h4 ⟨x, u, s, hu, hb, u0, s0⟩
/-- covers, with classes -/
def CovC (rs ss : List Rm) (p q : Int) : Prop := clsR rs p = clsR ss q ∧ Cov rs ss (p, q)
theorem covB_iff {rs ss : List Rm} {p q : Int} (p0 : 0 ≤ p) (p1 : p < (rs.length : Int)) (q0 : 0 ≤ q) (q1 : q < (ss.length : Int)) : covB rs ss (p, q) = true ↔ CovC rs ss p q := by
  obtain ⟨r, hr, _, _⟩ := room_at p0 p1
  obtain ⟨s, hs, _, _⟩ := room_at q0 q1
  unfold CovC
  rw [clsR_at hr, clsR_at hs]
  constructor
  · intro h
    cases Classical.em (r.1 = s.1 ∧ Cov rs ss (p, q)) with
    | inl z => exact z
    | inr z =>
      rw [covB_false hr hs (fun e hc => z ⟨e, hc⟩)] at h
      cases h
  · rintro ⟨a, b⟩
    exact covB_true hr hs a b
open Classical in
/-- alike: each covers the other one -/
noncomputable def alikeB (rs : List Rm) (p q : Int) : Bool := decide (CovC rs rs p q ∧ CovC rs rs q p)
open Classical in
theorem alike_iff {rs : List Rm} {p q : Int} : alikeB rs p q = true ↔ CovC rs rs p q ∧ CovC rs rs q p := by
  unfold alikeB
  exact decide_eq_true_iff
theorem covC_trans {web : List (List Int)} {many : Int} {rs : List Rm} (g : GoodRs web many rs) {p q r : Int} (q0 : 0 ≤ q) (q1 : q < (rs.length : Int)) (h : CovC rs rs p q) (h2 : CovC rs rs q r) : CovC rs rs p r := ⟨h.1.trans h2.1, cov_trans g g q0 q1 h.2 h2.2⟩
/-- what is left of the rooms: a part closed under its steps -/
structure LiveOk (rs : List Rm) (live : List Int) : Prop where
  nd : live.Nodup
  rg : ∀ k ∈ live, 0 ≤ k ∧ k < (rs.length : Int)
  clo : ∀ k ∈ live, ∀ x t, At (strip rs) k x t → 0 ≤ t → t ∈ live
/-- the first that is alike -/
noncomputable def headOf (rs : List Rm) (live : List Int) (p : Int) : Int := ((live.filter fun q => alikeB rs p q)[0]?).getD 0
theorem head_in {rs : List Rm} {live : List Int} {p : Int} (hp : p ∈ live) : headOf rs live p ∈ live ∧ alikeB rs p (headOf rs live p) = true ∧ (live.filter fun q => alikeB rs p q)[0]? = some (headOf rs live p) := by
  have h0 : p ∈ live.filter fun q => alikeB rs p q := List.mem_filter.mpr ⟨hp, alike_iff.mpr ⟨⟨rfl, cov_refl⟩, rfl, cov_refl⟩⟩
  unfold headOf
  cases e : live.filter fun q => alikeB rs p q with
  | nil => rw [e] at h0; simp at h0
  | cons a l =>
    have ha : a ∈ live.filter fun q => alikeB rs p q := by rw [e]; simp
    obtain ⟨h1, h2⟩ := List.mem_filter.mp ha
    exact ⟨h1, h2, rfl⟩
theorem head_head {web : List (List Int)} {many : Int} {rs : List Rm} (g : GoodRs web many rs) {live : List Int} (rg : ∀ k ∈ live, 0 ≤ k ∧ k < (rs.length : Int)) {p : Int} (hp : p ∈ live) : headOf rs live (headOf rs live p) = headOf rs live p := by
  obtain ⟨h1, h2, _⟩ := head_in (rs := rs) hp
  obtain ⟨a1, a2⟩ := alike_iff.mp h2
  obtain ⟨p0, p1⟩ := rg p hp
  obtain ⟨q0, q1⟩ := rg _ h1
  have : (live.filter fun q => alikeB rs (headOf rs live p) q) = live.filter fun q => alikeB rs p q := by
    refine List.filter_congr fun q hq => ?_
    have hiff : alikeB rs (headOf rs live p) q = true ↔ alikeB rs p q = true := by
      rw [alike_iff, alike_iff]
      constructor
      · rintro ⟨b1, b2⟩
        exact ⟨covC_trans g q0 q1 a1 b1, covC_trans g q0 q1 b2 a2⟩
      · rintro ⟨b1, b2⟩
        exact ⟨covC_trans g p0 p1 a2 b1, covC_trans g p0 p1 b2 a1⟩
    cases h3 : alikeB rs (headOf rs live p) q <;> cases h4 : alikeB rs p q <;> simp_all
  unfold headOf at this ⊢
  rw [this]
/-- the rooms of a least book -/
noncomputable def leastR (rs : List Rm) (live : List Int) : List Rm :=
  let sp := live.filter fun p => headOf (strip rs) live p == p
  sp.map fun k => (clsR rs k, (rowOf (strip rs) k).map fun t => if 0 ≤ t then ((sp.idxOf (headOf (strip rs) live t) : Nat) : Int) else -1)
theorem strip_cls {rs : List Rm} {k : Int} (k0 : 0 ≤ k) (k1 : k < (rs.length : Int)) : clsR (strip rs) k = clsR rs k := by
  obtain ⟨r, hr, _, _⟩ := room_at k0 k1
  rw [clsR_at hr, clsR_at (strip_row hr)]
theorem leastR_len {rs : List Rm} {live : List Int} : (leastR rs live).length ≤ live.length := by
  unfold leastR
  simp only [List.length_map]
  exact List.length_filter_le _ _
theorem least_spot {web : List (List Int)} {many : Int} {rs : List Rm} (g : GoodRs web many rs) {live : List Int} (lo : LiveOk rs live) {t : Int} (ht : t ∈ live) : headOf (strip rs) live t ∈ live.filter fun p => headOf (strip rs) live p == p := by
  have rg : ∀ k ∈ live, 0 ≤ k ∧ k < ((strip rs).length : Int) := fun k hk => by rw [strip_len]; exact lo.rg k hk
  refine List.mem_filter.mpr ⟨(head_in ht).1, ?_⟩
  rw [head_head (strip_good g) rg ht]
  simp
theorem leastR_good {web : List (List Int)} {many : Int} {rs : List Rm} (g : GoodRs web many rs) {live : List Int} (lo : LiveOk rs live) : GoodRs web many (leastR rs live) := fun r hr => by
  have gs := strip_good g
  unfold leastR at hr ⊢
  generalize hsp : live.filter (fun p => headOf (strip rs) live p == p) = sp at hr ⊢
  obtain ⟨k, hk, rfl⟩ := List.mem_map.mp hr
  have hkl : k ∈ live := by rw [← hsp] at hk; exact (List.mem_filter.mp hk).1
  obtain ⟨k0, k1⟩ := lo.rg k hkl
  obtain ⟨rm, e, hrm, _⟩ := room_at (rs := strip rs) k0 (by rw [strip_len]; exact k1)
  have gr := gs rm hrm
  have ec : clsR rs k = rm.1 := by rw [← strip_cls k0 k1]; exact clsR_at e
  have er := rowOf_at e
  refine ⟨by rw [ec]; exact gr.lo, by rw [ec]; exact gr.hi, by simp only [List.length_map, er]; exact gr.len, fun x t hx ht => ?_⟩
  simp only [er, List.getElem?_map] at hx
  obtain ⟨y, hy, hz⟩ := Option.map_eq_some_iff.mp hx
  by_cases q : 0 ≤ y
  · rw [if_pos q] at hz
    subst hz
    have hyl : y ∈ live := lo.clo k hkl x y ⟨k0, rm, e, hy⟩ q
    obtain ⟨h1, h2, _⟩ := head_in (rs := strip rs) hyl
    have hsp2 := least_spot g lo hyl
    rw [hsp] at hsp2
    have hlt := List.idxOf_lt_length_of_mem hsp2
    obtain ⟨z0, z1⟩ := lo.rg _ h1
    obtain ⟨y0, y1⟩ := lo.rg _ hyl
    simp only [List.map_map, List.length_map]
    refine ⟨by omega, ?_⟩
    rw [List.getD_eq_getElem?_getD, Int.toNat_natCast, List.getElem?_map, List.getElem?_eq_getElem hlt, List.getElem_idxOf hlt]
    show clsR rs (headOf (strip rs) live y) = stepW web (clsR rs k) (x : Int)
    rw [← strip_cls z0 z1, ← (alike_iff.mp h2).1.1, ec, ← (gr.tgt x y hy q).2]
    rfl
  · rw [if_neg q] at hz
    omega
end L29

set_option Elab.async false
set_option linter.all false
set_option maxRecDepth 100000
set_option maxHeartbeats 4000000
namespace L29
open PySem PySem.Spec PyProof.Rows L2 DL
open P29 (Pr Cov Reach Bad At Room)
def sp__law_least : aSp := fun ds M Q => ∃ web many rs, ds = [.list (dRooms rs)] ∧ GoodRs web many rs ∧ rs.length ≤ 30 ∧ many ≤ 200 ∧ ∀ live, LiveOk rs live → live.length ≤ rs.length → Q (.list (dRooms (leastR rs live))) M
noncomputable def headsD (rs : List Rm) (live l : List Int) : List (Key × D) := l.map fun k => (Sum.inl k, .int (headOf rs live k))
theorem heads_at {M : Mp} {pl : Addr} {rs : List Rm} {live l : List Int} {v : Int} (hM : M pl = some (.dK (headsD rs live l))) (hv : v ∈ l) : getDk M (.ref pl) (.int v) = some (some (.int (headOf rs live v))) := by
  rw [getDk_dK (kk := .inl v) hM rfl]
  congr 1
  unfold headsD valD
  rw [List.find?_map]
  clear hM
  induction l with
  | nil => simp at hv
  | cons a F ih =>
    by_cases q : a = v
    · subst q
      rw [List.find?_cons_of_pos (by simp)]
      rfl
    · rw [List.find?_cons_of_neg (by simpa using q)]
      exact ih ((List.mem_cons.mp hv).resolve_left (Ne.symm q))
theorem putD_heads {rs : List Rm} {live l : List Int} {v : Int} (h : v ∉ l) : putD (headsD rs live l) (.inl v) (.int (headOf rs live v)) = headsD rs live (l ++ [v]) := by
  unfold putD
  rw [if_neg]
  · simp [headsD]
  · intro e
    obtain ⟨kv, h1, h2⟩ := List.any_eq_true.mp e
    obtain ⟨p, hp, rfl⟩ := List.mem_map.mp h1
    have := of_decide_eq_true h2
    cases this
    exact h hp
theorem bools_map : ∀ bs : List Bool, bools (bs.map D.bl) = some bs
  | [] => rfl
  | b :: bs => by
    show (bools (bs.map D.bl)).map (b :: ·) = _
    rw [bools_map bs]
    rfl
theorem live_part {rs : List Rm} {found live : List Int} (hl : rs.length ≤ 100) (g : GoodSt (afterS rs)) (hf : HallsOk (afterS rs) found) (lo : LiveOk rs live) (c : Int) : LiveOk rs (live.filter fun k => decide (found.getD k.toNat 0 ≠ c)) := by
  have gl : (afterS rs).length = rs.length := by unfold afterS; rw [List.length_map]
  refine ⟨lo.nd.filter _, fun k hk => lo.rg k (List.mem_filter.mp hk).1, fun k hk x t ha t0 => ?_⟩
  obtain ⟨h1, h2⟩ := List.mem_filter.mp hk
  have htl := lo.clo k h1 x t ha t0
  obtain ⟨k0, k1⟩ := lo.rg k h1
  obtain ⟨t0', t1⟩ := lo.rg t htl
  refine List.mem_filter.mpr ⟨htl, ?_⟩
  obtain ⟨b1, b2⟩ := (strip_at t0).mp ha
  have hc : Cyc (succS (afterS rs)) k := ⟨t, (after_at k0 k1).mpr ⟨⟨x, b1⟩, t0⟩, b2.2⟩
  have h3 := (hf.cyc k k0 (by rw [gl]; exact k1)).mpr hc
  have h4 := (hf.scc k t k0 (by rw [gl]; exact k1) t0 (by rw [gl]; exact t1) h3).mpr b2
  rw [← h4]
  exact h2
section
variable {P : Program} {w : World} {K : PySem.W.Frag} {mg : Str → Option Value} {base : Heap} {a : Ad}
theorem ok__law_least (T : TX K mg a) : FnOk P w K mg base CX0 5 a.f__law_least a.fd__law_least ["cells"] (lift K 1 sp__law_least) := by
  refine okD (k := 4) T.fn__law_least sc__law_least rfl fun cdv A outer s H E hr => ⟨_, _, (dss_cons (ds_asg (de_tup (da_cons (de_call (ok__law_stripped T) (hr.mono (by decide)) (by rfl) T.mg__law_stripped T.kp__law_stripped T.bd__law_stripped pass0 (da_cons (dv 0) da_nil)) (da_cons (de_call (ok__law_room_halls T) (hr.mono (by decide)) (by rfl) T.mg__law_room_halls T.kp__law_room_halls T.bd__law_room_halls pass0 (da_cons (dv 0) da_nil)) da_nil))) (dg_tup (dgs_cons (dg_name (j := 1) sc__law_least.nd rfl (by first | exact .inl rfl | exact .inr rfl)) (dgs_cons (dg_name (j := 2) sc__law_least.nd rfl (by first | exact .inl rfl | exact .inr rfl)) dgs_nil))))
      (dss_cons (ds_setLc (j := 3) (own := [("k", 9)]) rfl sc__law_least.nd rfl rfl (sw_true rfl rfl rfl (by decide +kernel)) (di_range1 (by rfl) T.b_range (da_cons (de_callB call_lenA sl_len (by rfl) T.b_len (by decide +kernel) (da_cons (dv 1) da_nil)) da_nil)) (blkOk_by (by rfl)) (fun _ _ _ _ _ => (dg_name (j := 9) sc__law_least.nd rfl (by first | exact .inl rfl | exact .inr rfl))) (fun _ _ _ _ _ => (dts_one (dt_cmp op_ge s2_ge (de_ix (hu_of hr) (dv 2) (dv 9) (fun _ _ => rfl)) de_int (nomark _)))) (fun _ _ _ _ _ => (dv 9)) om_name)
      (dss_cons (ds_for (di_range1 (by rfl) T.b_range (da_cons (de_callB call_lenA sl_len (by rfl) T.b_len (by decide +kernel) (da_cons (dv 1) da_nil)) da_nil)) (dg_name (j := 4) sc__law_least.nd rfl (by first | exact .inl rfl | exact .inr rfl)) (dss_one (ds_for (di_seq (de_callTy call_list_of sl_list (by rfl) T.b_list (by decide +kernel) (da_cons (dv 3) da_nil))) (dg_name (j := 5) sc__law_least.nd rfl (by first | exact .inl rfl | exact .inr rfl)) (dss_one (ds_if (dt_tru (de_callB (cr_any rfl) sl_any (by rfl) T.b_any (by decide +kernel) (da_cons (de_lc (own := [("q", 10)]) rfl sc__law_least.nd (di_seq (dv 3)) (blkOk_by (by rfl)) (fun _ _ _ _ _ => (dg_name (j := 10) sc__law_least.nd rfl (by first | exact .inl rfl | exact .inr rfl))) (fun _ _ _ _ _ => dts_nil) (fun _ _ _ _ _ => (de_and (de_cmp (op_neD hr.units) s2_ne (de_ix (hu_of hr) (dv 2) (dv 10) (fun _ _ => rfl)) (de_ix (hu_of hr) (dv 2) (dv 5) (fun _ _ => rfl)) (nomark _)) (de_one (de_call (ok__law_covered T) (hr.mono (by decide)) (by rfl) T.mg__law_covered T.kp__law_covered T.bd__law_covered pass0 (da_cons (dv 1) (da_cons (dv 5) (da_cons (dv 1) (da_cons (dv 10) da_nil)))))))) om_name) da_nil))) (dss_cons (ds_setLc (j := 3) (own := [("k", 9)]) rfl sc__law_least.nd rfl rfl (sw_true rfl rfl rfl (by decide +kernel)) (di_seq (dv 3)) (blkOk_by (by rfl)) (fun _ _ _ _ _ => (dg_name (j := 9) sc__law_least.nd rfl (by first | exact .inl rfl | exact .inr rfl))) (fun _ _ _ _ _ => (dts_one (dt_cmp (op_neD hr.units) s2_ne (de_ix (hu_of hr) (dv 2) (dv 9) (fun _ _ => rfl)) (de_ix (hu_of hr) (dv 2) (dv 5) (fun _ _ => rfl)) (nomark _)))) (fun _ _ _ _ _ => (dv 9)) om_name)
      (dss_one ds_break)) dss_nil)) PassesOwn.never)) PassesOwn.never)
      (dss_cons (ds_set (j := 6) sc__law_least.nd rfl (by first | exact .inl rfl | exact .inr rfl) de_dnewK)
      (dss_cons (ds_for (di_seq (dv 3)) (dg_name (j := 5) sc__law_least.nd rfl (by first | exact .inl rfl | exact .inr rfl)) (dss_cons (ds_setLc (j := 7) (own := [("q", 10)]) rfl sc__law_least.nd rfl rfl (sw_true rfl rfl rfl (by decide +kernel)) (di_seq (dv 3)) (blkOk_by (by rfl)) (fun _ _ _ _ _ => (dg_name (j := 10) sc__law_least.nd rfl (by first | exact .inl rfl | exact .inr rfl))) (fun _ _ _ _ _ => (dts_one (DW.dt (dw_and (dt_tru (de_call (ok__law_covered T) (hr.mono (by decide)) (by rfl) T.mg__law_covered T.kp__law_covered T.bd__law_covered pass0 (da_cons (dv 1) (da_cons (dv 5) (da_cons (dv 1) (da_cons (dv 10) da_nil)))))) (dw_and1 (dt_tru (de_call (ok__law_covered T) (hr.mono (by decide)) (by rfl) T.mg__law_covered T.kp__law_covered T.bd__law_covered pass0 (da_cons (dv 1) (da_cons (dv 10) (da_cons (dv 1) (da_cons (dv 5) da_nil))))))))))) (fun _ _ _ _ _ => (dv 10)) om_name)
      (dss_one (ds_dput (hu_of hr) (dv 6) (dv 5) (de_ix (hu_of hr) (dv 7) de_int (fun _ _ => rfl))))) PassesOwn.never)
      (dss_cons (ds_set (j := 8) sc__law_least.nd rfl (by first | exact .inl rfl | exact .inr rfl) (de_lc (own := [("p", 5)]) rfl sc__law_least.nd (di_seq (dv 3)) (blkOk_by (by rfl)) (fun _ _ _ _ _ => (dg_name (j := 5) sc__law_least.nd rfl (by first | exact .inl rfl | exact .inr rfl))) (fun _ _ _ _ _ => (dts_one (dt_cmp (op_eqD hr.units) s2_eq (de_ix (hu_of hr) (dv 6) (dv 5) (fun _ _ => rfl)) (dv 5) (nomark _)))) (fun _ _ _ _ _ => (dv 5)) om_name))
      (dss_one (ds_ret (de_lc (own := [("p", 5)]) rfl sc__law_least.nd (di_seq (dv 8)) (blkOk_by (by rfl)) (fun _ _ _ _ _ => (dg_name (j := 5) sc__law_least.nd rfl (by first | exact .inl rfl | exact .inr rfl))) (fun _ _ _ _ _ => dts_nil) (fun _ _ _ _ _ => (de_tup (da_cons (de_ix (hu_of hr) (de_ix (hu_of hr) (dv 1) (dv 5) (fun _ _ => rfl)) de_int (fun _ _ => rfl)) (da_cons (de_callTy call_tuple_of sl_tuple (by rfl) T.b_tuple (by decide +kernel) (da_cons (de_lc (own := [("there", 11)]) rfl sc__law_least.nd (di_seq (de_ix (hu_of hr) (de_ix (hu_of hr) (dv 1) (dv 5) (fun _ _ => rfl)) de_int (fun _ _ => rfl))) (blkOk_by (by rfl)) (fun _ _ _ _ _ => (dg_name (j := 11) sc__law_least.nd rfl (by first | exact .inl rfl | exact .inr rfl))) (fun _ _ _ _ _ => dts_nil) (fun _ _ _ _ _ => (de_ifExp (dt_cmp op_ge s2_ge (dv 11) de_int (nomark _)) (de_bm PySem.F.plainAttrs_list PySem.F.slot_list_index PySem.F.type_list_index mt_index sm_index (.inl rfl) (dv 8) (da_cons (de_ix (hu_of hr) (dv 6) (dv 11) (fun _ _ => rfl)) da_nil)) (de_neg de_int))) om_name) da_nil)) da_nil)))) om_name))))))))), fun ds M Q hl h => ?_⟩
  obtain ⟨web, many, rs, rfl, gr, hrl, hmy, q⟩ := h
  have g := after_good gr (by omega) hmy
  have gs := strip_good gr
  have gl : (afterS rs).length = rs.length := by unfold afterS; rw [List.length_map]
  have sl := strip_len (rs := rs)
  walk_at "start"
  walk_at "go"
  refine ⟨web, many, rs, rfl, gr, by omega, hmy, ?_⟩
  walk_at "go"
  refine ⟨web, many, rs, rfl, gr, by omega, hmy, fun found hf => ?_⟩
  have hfl := hf.len
  rw [gl] at hfl
  have hat : ∀ v : Int, 0 ≤ v → v < (rs.length : Int) → atI (dInts found) v = some (.int (found.getD v.toNat 0)) := fun v v0 v1 => by
    obtain ⟨x, hx, _, ex⟩ := int_at (cs := found) v0 (by omega)
    rw [ex, getD_of hx]
  walk_at "go"
  refine go_lcI (fun i acc M3 => M = M3 ∧ ∃ L : List Int, acc = dInts L ∧ L.Nodup ∧ ∀ k, k ∈ L ↔ 0 ≤ k ∧ k < (i : Int) ∧ 0 ≤ found.getD k.toNat 0) ⟨rfl, [], rfl, .nil, fun k => ⟨fun h => by simp at h, fun h => by omega⟩⟩ (fun i d acc M3 KY KN hd hI hY hN => ?_) (fun acc M3 hI => ?_)
  · obtain ⟨rfl, L, rfl, hnd, hal⟩ := hI
    obtain ⟨hlt, rfl⟩ := rng_get hd
    simp only [List.length_map, Int.toNat_natCast] at hlt
    have hk := hat (0 + (i : Int)) (by omega) (by omega)
    rw [Int.zero_add] at hk ⊢
    walk_at "go"
    refine go_ite (fun e => ?_) (fun e => ?_)
    · have e := of_decide_eq_true e
      walk_at "go"
      refine hY (.int (i : Int)) _ ⟨rfl, L ++ [(i : Int)], by simp [dInts], List.nodup_append.mpr ⟨hnd, by simp, fun a ha b hb e => ?_⟩, fun k => ?_⟩
      · rcases List.mem_singleton.mp hb with rfl
        subst e
        have := ((hal _).mp ha).2.1
        omega
      · rw [List.mem_append, hal, List.mem_singleton]
        constructor
        · rintro (⟨h1, h2, h3⟩ | rfl)
          · exact ⟨h1, by omega, h3⟩
          · exact ⟨by omega, by omega, e⟩
        · rintro ⟨h1, h2, h3⟩
          by_cases z : k = (i : Int)
          · exact .inr z
          · exact .inl ⟨h1, by omega, h3⟩
    · have e := of_decide_eq_false e
      refine hN _ ⟨rfl, L, rfl, hnd, fun k => ?_⟩
      rw [hal]
      constructor
      · rintro ⟨h1, h2, h3⟩; exact ⟨h1, by omega, h3⟩
      · rintro ⟨h1, h2, h3⟩
        by_cases z : k = (i : Int)
        · subst z; exact absurd h3 e
        · exact ⟨h1, by omega, h3⟩
  obtain ⟨rfl, L, rfl, hnd, hal⟩ := hI
  rw [length_rng] at hal
  simp only [List.length_map, Int.toNat_natCast, sl] at hal
  have lo0 : LiveOk rs L := ⟨hnd, fun k hk => ⟨((hal k).mp hk).1, ((hal k).mp hk).2.1⟩, fun k hk x t ha t0 => by
    obtain ⟨k0, k1, kh⟩ := (hal k).mp hk
    obtain ⟨b1, b2⟩ := (strip_at t0).mp ha
    have ht := (good_wf gs).at ha
    rw [sl] at ht
    have hc := (hf.cyc k k0 (by rw [gl]; exact k1)).mp kh
    exact (hal t).mpr ⟨t0, ht, (hf.cyc t t0 (by rw [gl]; exact ht)).mpr (hc.scc b2)⟩⟩
  have lle : ∀ {live : List Int}, LiveOk rs live → live.length ≤ rs.length := fun lo => nodup_le lo.nd lo.rg
  walk_at "go"
  refine go_seqK (J := fun G' M' => ∃ (live : List Int) (x4 x5 x7 x9 x10 : Option D), G' = [some (.list (dRooms rs)), some (.list (dRooms (strip rs))), some (.list (dInts found)), some (.list (dInts live)), x4, x5, none, none, none, none, none, none] ∧ M = M' ∧ LiveOk rs live) (fun nx hk => ?_) (fun G' M' hJ => ?_)
  · walk_at "go"
    refine go_forI (fun i G' M' => ∃ (live : List Int) (x4 x5 x7 x9 x10 : Option D), G' = [some (.list (dRooms rs)), some (.list (dRooms (strip rs))), some (.list (dInts found)), some (.list (dInts live)), x4, x5, none, none, none, none, none, none] ∧ M = M' ∧ LiveOk rs live) ⟨L, _, _, none, none, none, rfl, rfl, lo0⟩ (fun i d G' M' nx' hd hI hn => ?_) (fun G' M' hI => hk _ _ hI)
    obtain ⟨live, x4, x5, _, _, _, rfl, rfl, lo⟩ := hI
    obtain ⟨hlt, rfl⟩ := rng_get hd
    have hll := lle lo
    walk_at "go"
    refine go_forI (fun j G' M' => ∃ (x5 : Option D), G' = [some (.list (dRooms rs)), some (.list (dRooms (strip rs))), some (.list (dInts found)), some (.list (dInts live)), some (.int (0 + (i : Int))), x5, none, none, none, none, none, none] ∧ M = M') ⟨_, rfl, rfl⟩ (fun j d G' M' nx2 hd2 hI hn2 => ?_) (fun G' M' hI => ?_)
    · obtain ⟨x5, rfl, rfl⟩ := hI
      rw [List.getElem?_map] at hd2
      obtain ⟨p, hp, rfl⟩ := Option.map_eq_some_iff.mp hd2
      obtain ⟨p0, p1⟩ := lo.rg p (List.mem_of_getElem? hp)
      have hkp := hat p p0 p1
      walk_at "goS"
      refine go_lcI (fun l acc M3 => M = M3 ∧ ∃ bs : List Bool, acc = bs.map .bl ∧ bs.length = l) ⟨rfl, [], rfl, rfl⟩ (fun l d acc M3 KY KN hd3 hI hY hN => ?_) (fun acc M3 hI => ?_)
      · obtain ⟨rfl, bs, rfl, hbl⟩ := hI
        rw [List.getElem?_map] at hd3
        obtain ⟨z, hz, rfl⟩ := Option.map_eq_some_iff.mp hd3
        obtain ⟨z0, z1⟩ := lo.rg z (List.mem_of_getElem? hz)
        have hkz := hat z z0 z1
        have out : ∀ b : Bool, KY (.bl b) M := fun b => hY _ _ ⟨rfl, bs ++ [b], by simp, by simp [hbl]⟩
        walk_at "goS"
        refine go_ite (fun e => ?_) (fun e => ?_)
        · walk_at "goS"
          refine ⟨many, strip rs, strip rs, p, z, rfl, good_two gs gs (by omega) (by omega) hmy p0 (by rw [sl]; exact p1) z0 (by rw [sl]; exact z1), ?_⟩
          exact out _
        · walk_at "goS"
          exact out _
      obtain ⟨rfl, bs, rfl, hbl⟩ := hI
      walk_at "goS"
      refine go_any rfl rfl (bools_map bs) ?_
      walk_at "goS"
      refine go_ite (fun e => ?_) (fun e => ?_)
      · walk_at "goS"
        refine go_lcI (fun l acc M3 => M = M3 ∧ acc = dInts ((live.take l).filter fun k => decide (found.getD k.toNat 0 ≠ found.getD p.toNat 0))) ⟨rfl, rfl⟩ (fun l d acc M3 KY KN hd3 hI hY hN => ?_) (fun acc M3 hI => ?_)
        · obtain ⟨rfl, rfl⟩ := hI
          rw [List.getElem?_map] at hd3
          obtain ⟨z, hz, rfl⟩ := Option.map_eq_some_iff.mp hd3
          obtain ⟨z0, z1⟩ := lo.rg z (List.mem_of_getElem? hz)
          have hkz := hat z z0 z1
          have step : (live.take (l + 1)).filter (fun k => decide (found.getD k.toNat 0 ≠ found.getD p.toNat 0)) = (live.take l).filter (fun k => decide (found.getD k.toNat 0 ≠ found.getD p.toNat 0)) ++ (if found.getD z.toNat 0 ≠ found.getD p.toNat 0 then [z] else []) := by
            rw [List.take_add_one, hz, List.filter_append]
            congr 1
            simp only [Option.toList_some, List.filter_cons, List.filter_nil]
            by_cases y : found.getD z.toNat 0 = found.getD p.toNat 0 <;> simp [y]
          walk_at "goS"
          refine go_ite (fun e => ?_) (fun e => ?_)
          · have e : found.getD z.toNat 0 ≠ found.getD p.toNat 0 := by simpa using e
            walk_at "goS"
            refine hY _ _ ⟨rfl, ?_⟩
            rw [step, if_pos e]
            simp [dInts]
          · have e : ¬ found.getD z.toNat 0 ≠ found.getD p.toNat 0 := by simpa using e
            refine hN _ ⟨rfl, ?_⟩
            rw [step, if_neg e, List.append_nil]
        obtain ⟨rfl, rfl⟩ := hI
        rw [List.length_map, List.take_length]
        walk_at "goS"
        exact hn _ _ ⟨_, _, _, none, none, none, rfl, rfl, live_part (by omega) g hf lo _⟩
      · exact hn2 _ _ ⟨_, rfl, rfl⟩
    · obtain ⟨x5, rfl, rfl⟩ := hI
      exact hn _ _ ⟨live, _, _, none, none, none, rfl, rfl, lo⟩
  obtain ⟨live, x4, x5, _, _, _, rfl, rfl, lo⟩ := hJ
  have hll := lle lo
  walk_at "go"
  intro ph hph
  have hedT : ∀ {k : Int}, k ∈ live → ∃ r, (strip rs)[k.toNat]? = some r ∧ atI (dRooms (strip rs)) k = some (dRoom r) ∧ r ∈ strip rs := fun {k} hk => by
    obtain ⟨k0, k1⟩ := lo.rg k hk
    obtain ⟨r, a, b, c⟩ := room_at (rs := strip rs) k0 (by rw [sl]; exact k1)
    exact ⟨r, a, c, b⟩
  have hcb : ∀ {k z : Int}, k ∈ live → z ∈ live → (covB (strip rs) (strip rs) (k, z) = true ↔ CovC (strip rs) (strip rs) k z) := fun {k z} hk hz => by
    obtain ⟨k0, k1⟩ := lo.rg k hk
    obtain ⟨z0, z1⟩ := lo.rg z hz
    exact covB_iff k0 (by rw [sl]; exact k1) z0 (by rw [sl]; exact z1)
  walk_at "go"
  refine go_seqK (J := fun G' M' => ∃ (x4 x5 x7 : Option D), G' = [some (.list (dRooms rs)), some (.list (dRooms (strip rs))), some (.list (dInts found)), some (.list (dInts live)), x4, x5, some (.ref ph), x7, none, none, none, none] ∧ Sub M M' ∧ M' ph = some (.dK (headsD (strip rs) live live))) (fun nx hk => ?_) (fun G' M' hJ => ?_)
  · walk_at "go"
    refine go_forI (fun i G' M' => ∃ (x4 x5 x7 : Option D), G' = [some (.list (dRooms rs)), some (.list (dRooms (strip rs))), some (.list (dInts found)), some (.list (dInts live)), x4, x5, some (.ref ph), x7, none, none, none, none] ∧ Sub M M' ∧ M' ph = some (.dK (headsD (strip rs) live (live.take i)))) ⟨_, _, _, rfl, sub_mupd (fun _ _ h => h) hph, mupd_same⟩ (fun i d G' M' nx' hd hI hn => ?_) (fun G' M' hI => ?_)
    · obtain ⟨x4, x5, x7, rfl, sb, c1⟩ := hI
      rw [List.getElem?_map] at hd
      obtain ⟨p, hp, rfl⟩ := Option.map_eq_some_iff.mp hd
      have hpm := List.mem_of_getElem? hp
      obtain ⟨p0, p1⟩ := lo.rg p hpm
      have hil := (List.getElem?_eq_some_iff.mp hp).1
      walk_at "goS"
      refine go_lcI (fun l acc M3 => M' = M3 ∧ acc = dInts ((live.take l).filter fun z => alikeB (strip rs) p z)) ⟨rfl, rfl⟩ (fun l d acc M3 KY KN hd3 hI hY hN => ?_) (fun acc M3 hI => ?_)
      · obtain ⟨rfl, rfl⟩ := hI
        rw [List.getElem?_map] at hd3
        obtain ⟨z, hz, rfl⟩ := Option.map_eq_some_iff.mp hd3
        have hzm := List.mem_of_getElem? hz
        obtain ⟨z0, z1⟩ := lo.rg z hzm
        have step : (live.take (l + 1)).filter (fun z => alikeB (strip rs) p z) = (live.take l).filter (fun z => alikeB (strip rs) p z) ++ (if alikeB (strip rs) p z = true then [z] else []) := by
          rw [List.take_add_one, hz, List.filter_append]
          congr 1
          simp only [Option.toList_some, List.filter_cons, List.filter_nil]
        walk_at "goS"
        refine ⟨many, strip rs, strip rs, p, z, rfl, good_two gs gs (by omega) (by omega) hmy p0 (by rw [sl]; exact p1) z0 (by rw [sl]; exact z1), ?_⟩
        walk_at "goS"
        refine go_ite (fun e => ?_) (fun e => ?_)
        · have e := (hcb hpm hzm).mp e
          walk_at "goS"
          refine ⟨many, strip rs, strip rs, z, p, rfl, good_two gs gs (by omega) (by omega) hmy z0 (by rw [sl]; exact z1) p0 (by rw [sl]; exact p1), ?_⟩
          walk_at "goS"
          refine go_ite (fun e2 => ?_) (fun e2 => ?_)
          · have e2 := (hcb hzm hpm).mp e2
            walk_at "goS"
            refine hY _ _ ⟨rfl, ?_⟩
            rw [step, if_pos (alike_iff.mpr ⟨e, e2⟩)]
            simp [dInts]
          · refine hN _ ⟨rfl, ?_⟩
            rw [step, if_neg (fun y => by rw [(hcb hzm hpm).mpr (alike_iff.mp y).2] at e2; cases e2), List.append_nil]
        · walk_at "goS"
          refine hN _ ⟨rfl, ?_⟩
          rw [step, if_neg (fun y => by rw [(hcb hpm hzm).mpr (alike_iff.mp y).1] at e; cases e), List.append_nil]
      obtain ⟨rfl, rfl⟩ := hI
      rw [List.length_map, List.take_length]
      have hh := (head_in (rs := strip rs) hpm).2.2
      have eh : atI (dInts (live.filter fun z => alikeB (strip rs) p z)) 0 = some (.int (headOf (strip rs) live p)) := by
        rw [atI_nn _ (by decide), List.getElem?_map]
        show Option.map D.int (live.filter fun z => alikeB (strip rs) p z)[0]? = _
        rw [hh]
        rfl
      walk_at "goS"
      refine go_kdputK (kk := .inl p) c1 (by simp only [headsD, List.length_map, List.length_take]; omega) rfl ?_
      rw [putD_heads (nodup_take lo.nd hp)]
      refine hn _ _ ⟨_, _, _, rfl, sub_mupd sb hph, ?_⟩
      rw [mupd_same, List.take_add_one, hp]
      rfl
    · obtain ⟨x4, x5, x7, rfl, sb, c1⟩ := hI
      rw [List.length_map, List.take_length] at c1
      exact hk _ _ ⟨_, _, _, rfl, sb, c1⟩
  obtain ⟨x4, x5, x7, rfl, sb, c1⟩ := hJ
  walk_at "go"
  refine go_lcI (fun l acc M3 => M' = M3 ∧ acc = dInts ((live.take l).filter fun p => headOf (strip rs) live p == p)) ⟨rfl, rfl⟩ (fun l d acc M3 KY KN hd3 hI hY hN => ?_) (fun acc M3 hI => ?_)
  · obtain ⟨rfl, rfl⟩ := hI
    rw [List.getElem?_map] at hd3
    obtain ⟨z, hz, rfl⟩ := Option.map_eq_some_iff.mp hd3
    have hzm := List.mem_of_getElem? hz
    have step : (live.take (l + 1)).filter (fun p => headOf (strip rs) live p == p) = (live.take l).filter (fun p => headOf (strip rs) live p == p) ++ (if (headOf (strip rs) live z == z) = true then [z] else []) := by
      rw [List.take_add_one, hz, List.filter_append]
      congr 1
      simp only [Option.toList_some, List.filter_cons, List.filter_nil]
    walk_at "go"
    refine go_ixGet (heads_at c1 hzm) ?_
    walk_at "go"
    refine go_ite (fun e => ?_) (fun e => ?_)
    · walk_at "go"
      refine hY _ _ ⟨rfl, ?_⟩
      rw [step, if_pos e]
      simp [dInts]
    · refine hN _ ⟨rfl, ?_⟩
      rw [step, if_neg (by rw [e]; exact Bool.false_ne_true), List.append_nil]
  obtain ⟨rfl, rfl⟩ := hI
  rw [List.length_map, List.take_length]
  have hsp : ∀ {t : Int}, t ∈ live → headOf (strip rs) live t ∈ live.filter fun p => headOf (strip rs) live p == p := fun ht => least_spot gr lo ht
  have hq : Q (.list (dRooms (leastR rs live))) M := q live lo hll
  unfold leastR at hq
  generalize hspe : live.filter (fun p => headOf (strip rs) live p == p) = sp at hsp hq
  have hspl : ∀ k ∈ sp, k ∈ live := fun k hk => by rw [← hspe] at hk; exact (List.mem_filter.mp hk).1
  have hspn : sp.length ≤ 30 := by
    have := List.length_filter_le (fun p => headOf (strip rs) live p == p) live
    rw [hspe] at this
    omega
  walk_at "go"
  refine go_lcI (fun l acc M3 => M' = M3 ∧ acc = dRooms ((sp.take l).map fun k => (clsR rs k, (rowOf (strip rs) k).map fun t => if 0 ≤ t then ((sp.idxOf (headOf (strip rs) live t) : Nat) : Int) else -1))) ⟨rfl, rfl⟩ (fun l d acc M3 KY KN hd3 hI hY hN => ?_) (fun acc M3 hI => ?_)
  · obtain ⟨rfl, rfl⟩ := hI
    rw [List.getElem?_map] at hd3
    obtain ⟨k, hk, rfl⟩ := Option.map_eq_some_iff.mp hd3
    have hkl := hspl k (List.mem_of_getElem? hk)
    obtain ⟨k0, k1⟩ := lo.rg k hkl
    obtain ⟨r, hr, er, hrm⟩ := hedT hkl
    have hrw := (gs r hrm).len
    walk_at "go"
    refine go_lcI (fun j acc M2 => M' = M2 ∧ acc = dInts ((r.2.take j).map fun t => if 0 ≤ t then ((sp.idxOf (headOf (strip rs) live t) : Nat) : Int) else -1)) ⟨rfl, rfl⟩ (fun j d acc M2 KY2 KN2 hd2 hI2 hY2 hN2 => ?_) (fun acc M2 hI2 => ?_)
    · obtain ⟨rfl, rfl⟩ := hI2
      rw [List.getElem?_map] at hd2
      obtain ⟨t, ht, rfl⟩ := Option.map_eq_some_iff.mp hd2
      walk_at "go"
      refine go_ite (fun e => ?_) (fun e => ?_)
      · have e := of_decide_eq_true e
        have htl : t ∈ live := lo.clo k hkl j t ⟨k0, r, hr, ht⟩ e
        walk_at "go"
        refine go_ixGet (heads_at c1 htl) ?_
        walk_at "go"
        refine go_index rfl rfl (intsD_ints' sp) (hsp htl) ?_
        refine hY2 _ _ ⟨rfl, ?_⟩
        rw [List.take_add_one, ht]
        simp [dInts, e]
      · have e := of_decide_eq_false e
        walk_at "go"
        refine hY2 _ _ ⟨rfl, ?_⟩
        rw [List.take_add_one, ht]
        simp [dInts, e]
    obtain ⟨rfl, rfl⟩ := hI2
    rw [List.length_map, List.take_length]
    walk_at "go"
    refine hY _ _ ⟨rfl, ?_⟩
    rw [List.take_add_one, hk]
    simp only [Option.toList_some, List.map_append, List.map_cons, List.map_nil, rowOf_at hr, ← strip_cls k0 k1, clsR_at hr]
    simp [dRooms, isLM, isL]
  obtain ⟨rfl, rfl⟩ := hI
  rw [List.length_map, List.take_length]
  exact DL.Fin.sub sb hq
end
end L29

set_option Elab.async false
set_option linter.all false
set_option maxRecDepth 100000
set_option maxHeartbeats 4000000
namespace L29
open PySem PySem.Spec PyProof.Rows L2 DL
open P29 (Pr Cov Reach Bad At Room)
theorem alive_mem {rs ss : List Rm} {p k : Int} {i : Nat} : k ∈ aliveF rs ss p i ↔ 0 ≤ k ∧ k < (i : Int) ∧ clsR ss k = clsR rs p := by
  unfold aliveF
  rw [List.mem_filter, List.mem_map, decide_eq_true_eq]
  constructor
  · rintro ⟨⟨n, hn, rfl⟩, h⟩
    have := List.mem_range.mp hn
    exact ⟨by omega, by omega, h⟩
  · rintro ⟨h0, h1, h2⟩
    exact ⟨⟨k.toNat, List.mem_range.mpr (by omega), by omega⟩, h2⟩
theorem alive_step {rs ss : List Rm} {p : Int} {i : Nat} : aliveF rs ss p (i + 1) = aliveF rs ss p i ++ (if clsR ss (i : Int) = clsR rs p then [(i : Int)] else []) := by
  unfold aliveF
  rw [List.range_succ, List.map_append, List.filter_append]
  congr 1
  simp only [List.map_cons, List.map_nil, List.filter_cons, List.filter_nil]
  by_cases z : clsR ss (i : Int) = clsR rs p <;> simp [z]
theorem cls_rg {web : List (List Int)} {many : Int} {rs : List Rm} (g : GoodRs web many rs) {p : Int} (p0 : 0 ≤ p) (p1 : p < (rs.length : Int)) : 0 ≤ clsR rs p ∧ clsR rs p < (web.length : Int) := by
  obtain ⟨r, hr, hrm, _⟩ := room_at p0 p1
  rw [clsR_at hr]
  exact ⟨(g r hrm).lo, (g r hrm).hi⟩
theorem KWord.cls {web : List (List Int)} {many : Int} {rs ss : List Rm} {p : Int} {w : List Int} (two : Two2 web many rs ss p) (kw : KWord many rs ss p w) : runW web (clsR rs p) w = clsR rs p := by
  have := (runR_ok two.gr w p kw.lt two.p0 two.p1 (by rw [kw.run]; exact two.p0)).2
  rw [← this, kw.run]
theorem iter_fix {h : Int → Int} {k : Int} (e : h k = k) : ∀ n, iter h n k = k
  | 0 => rfl
  | n + 1 => by
    show iter h n (h k) = k
    rw [e]
    exact iter_fix e n
theorem KWord.dead {web : List (List Int)} {many : Int} {rs ss : List Rm} {p : Int} {w : List Int} (gw : GoodWeb web many) (two : Two2 web many rs ss p) (kw : KWord many rs ss p w) : heldB web ss (clsR rs p) [] w = false := by
  obtain ⟨c0, c1⟩ := cls_rg two.gr two.p0 two.p1
  refine Bool.not_eq_true _ ▸ fun z => ?_
  obtain ⟨n, k, k0, k1, kc, hl⟩ := (heldB_iff gw two.gs c0 c1 (fun x hx => by simp at hx) kw.lt).mp z
  rw [show runW web (clsR rs p) [] = clsR rs p from rfl, iter_fix (kw.cls two)] at kc
  have h1 := kw.ng k k0 k1 kc
  have h2 : 0 ≤ runR ss k w := hl 1
  omega
theorem KWord.held {web : List (List Int)} {many : Int} {rs ss : List Rm} {p : Int} {w : List Int} (gw : GoodWeb web many) (two : Two2 web many rs ss p) (kw : KWord many rs ss p w) : heldB web rs (clsR rs p) [] w = true := by
  obtain ⟨c0, c1⟩ := cls_rg two.gr two.p0 two.p1
  refine (heldB_iff gw two.gr c0 c1 (fun x hx => by simp at hx) kw.lt).mpr ⟨0, p, two.p0, two.p1, rfl, fun j => ?_⟩
  rw [iter_fix (h := fun k => runR rs k w) kw.run]
  exact two.p0
theorem go_eqInts {cs : List Int} {M : Mp} {Q : QD} (q : Q (.bl cs.isEmpty) M) : fEq (.list (cs.map D.int)) (.list []) M Q := by
  refine ⟨eqOks_ints 8 cs, rfl, ?_⟩
  cases cs with
  | nil => exact q
  | cons => exact q
def sp__law_word_right (a : Ad) : aSp := fun ds M Q => ∃ web many rs ss p w, ds = [dWeb web, dBook a web ss, .list (dRooms ss), dBook a web rs, .list (dRooms rs), .int p, .list (dInts w)] ∧ GoodWeb web many ∧ Two2 web many rs ss p ∧ KWord many rs ss p w ∧ w.length ≤ 1000 ∧ Q (.bl true) M
section
variable {P : Program} {w : World} {K : PySem.W.Frag} {mg : Str → Option Value} {base : Heap} {a : Ad}
theorem ok__law_word_right (T : TX K mg a) : FnOk P w K mg base CX0 7 a.f__law_word_right a.fd__law_word_right ["web", "tome", "mine", "far", "theirs", "p", "path"] (lift K 7 (sp__law_word_right a)) := by
  refine okD (k := 6) T.fn__law_word_right sc__law_word_right rfl fun cdv A outer s H E hr => ⟨_, _, (dss_cons (ds_setLc (j := 7) (own := [("q", 9)]) rfl sc__law_word_right.nd rfl rfl (sw_true rfl rfl rfl (by decide +kernel)) (di_range1 (by rfl) T.b_range (da_cons (de_callB call_lenA sl_len (by rfl) T.b_len (by decide +kernel) (da_cons (dv 2) da_nil)) da_nil)) (blkOk_by (by rfl)) (fun _ _ _ _ _ => (dg_name (j := 9) sc__law_word_right.nd rfl (by first | exact .inl rfl | exact .inr rfl))) (fun _ _ _ _ _ => (dts_one (dt_cmp (op_eqD hr.units) s2_eq (de_ix (hu_of hr) (de_ix (hu_of hr) (dv 2) (dv 9) (fun _ _ => rfl)) de_int (fun _ _ => rfl)) (de_ix (hu_of hr) (de_ix (hu_of hr) (dv 4) (dv 5) (fun _ _ => rfl)) de_int (fun _ _ => rfl)) (nomark _)))) (fun _ _ _ _ _ => (dv 9)) om_name)
      (dss_cons (ds_if (DW.dt (dw_or (dt_not (dt_tru (de_callB call_isi sl_isi (by rfl) T.b_isinstance (by decide +kernel) (da_cons (dv 6) (da_cons (de_ty (n := "list") (by rfl) T.b_list) da_nil))))) (dw_or (dt_not (dt_tru (de_call (ok__law_letters T) (hr.mono (by decide)) (by rfl) T.mg__law_letters T.kp__law_letters T.bd__law_letters pass0 (da_cons (de_callTy call_tuple_of sl_tuple (by rfl) T.b_tuple (by decide +kernel) (da_cons (dv 6) da_nil)) (da_cons (de_callB call_lenA sl_len (by rfl) T.b_len (by decide +kernel) (da_cons (de_ix (hu_of hr) (dv 0) de_int (fun _ _ => rfl)) da_nil)) da_nil))))) (dw_or1 (dt_cmp (op_neD hr.units) s2_ne (de_call (ok__law_stepped T) (hr.mono (by decide)) (by rfl) T.mg__law_stepped T.kp__law_stepped T.bd__law_stepped pass0 (da_cons (dv 4) (da_cons (dv 5) (da_cons (dv 6) da_nil)))) (dv 5) (nomark _)))))) (dss_one (ds_ret de_bl)) dss_nil)
      (dss_cons (ds_if (dt_tru (de_lc (own := [("q", 9)]) rfl sc__law_word_right.nd (di_seq (dv 7)) (blkOk_by (by rfl)) (fun _ _ _ _ _ => (dg_name (j := 9) sc__law_word_right.nd rfl (by first | exact .inl rfl | exact .inr rfl))) (fun _ _ _ _ _ => (dts_one (dt_cmp op_ge s2_ge (de_call (ok__law_stepped T) (hr.mono (by decide)) (by rfl) T.mg__law_stepped T.kp__law_stepped T.bd__law_stepped pass0 (da_cons (dv 2) (da_cons (dv 9) (da_cons (dv 6) da_nil)))) de_int (nomark _)))) (fun _ _ _ _ _ => (dv 9)) om_name)) (dss_one (ds_ret de_bl)) dss_nil)
      (dss_cons (ds_if (dt_cmp (op_eqD hr.units) s2_eq (dv 6) (de_lst da_nil) (nomark _)) (dss_one (ds_ret (de_cmp (op_eqD hr.units) s2_eq (dv 7) (de_lst da_nil) (nomark _)))) dss_nil)
      (dss_cons (ds_set (j := 8) sc__law_word_right.nd rfl (by first | exact .inl rfl | exact .inr rfl) (de_lst (da_cons (de_call (ok__law_held T) (hr.mono (by decide)) (by rfl) T.mg__law_held T.kp__law_held T.bd__law_held pass0 (da_cons (dv 0) (da_cons (dv 2) (da_cons (de_ix (hu_of hr) (de_ix (hu_of hr) (dv 4) (dv 5) (fun _ _ => rfl)) de_int (fun _ _ => rfl)) (da_cons (de_lst da_nil) (da_cons (dv 6) da_nil)))))) (da_cons (de_call (ok__law_held T) (hr.mono (by decide)) (by rfl) T.mg__law_held T.kp__law_held T.bd__law_held pass0 (da_cons (dv 0) (da_cons (dv 4) (da_cons (de_ix (hu_of hr) (de_ix (hu_of hr) (dv 4) (dv 5) (fun _ _ => rfl)) de_int (fun _ _ => rfl)) (da_cons (de_lst da_nil) (da_cons (dv 6) da_nil)))))) da_nil))))
      (dss_one (ds_ret (de_and (de_cmp (op_eqD hr.units) s2_eq (dv 8) (de_lst (da_cons de_bl (da_cons de_bl da_nil))) (nomark _)) (de_one (de_call (ok__law_like T 6) (hr.mono (by decide)) (by rfl) T.mg__law_like T.kp__law_like T.bd__law_like pass0 (da_cons (de_lst (da_cons (de_call (ok_is_held T) (hr.mono (by decide)) (by rfl) T.mg_is_held T.kp_is_held T.bd_is_held pass0 (da_cons (dv 1) (da_cons (de_ix (hu_of hr) (de_ix (hu_of hr) (dv 4) (dv 5) (fun _ _ => rfl)) de_int (fun _ _ => rfl)) (da_cons (de_lst da_nil) (da_cons (dv 6) da_nil))))) (da_cons (de_call (ok_is_held T) (hr.mono (by decide)) (by rfl) T.mg_is_held T.kp_is_held T.bd_is_held pass0 (da_cons (dv 3) (da_cons (de_ix (hu_of hr) (de_ix (hu_of hr) (dv 4) (dv 5) (fun _ _ => rfl)) de_int (fun _ _ => rfl)) (da_cons (de_lst da_nil) (da_cons (dv 6) da_nil))))) da_nil))) (da_cons (dv 8) da_nil)))))))))))), fun ds M Q hl h => ?_⟩
  obtain ⟨web, many, rs, ss, p, w, rfl, gw, two, kw, hw, q⟩ := h
  have hlr := two.lr
  have hls := two.ls
  have gwl := gw.le
  obtain ⟨rp, hrp, hrpm, erp⟩ := room_at two.p0 two.p1
  have hclp : clsR rs p = rp.1 := clsR_at hrp
  walk_at "start"
  walk_at "go"
  refine go_lcI (fun i acc M' => M = M' ∧ acc = dInts (aliveF rs ss p i)) ⟨rfl, rfl⟩ (fun i d acc M' KY KN hd hI hY hN => ?_) (fun acc M' hI => ?_)
  · obtain ⟨rfl, rfl⟩ := hI
    obtain ⟨hlt, hdd⟩ := rng_get hd
    rw [Int.zero_add] at hdd
    subst hdd
    simp only [List.length_map] at hlt
    obtain ⟨r, hr, hrm, er⟩ := room_at (rs := ss) (i := (i : Int)) (by omega) (by omega)
    have hcl : clsR ss (i : Int) = r.1 := clsR_at hr
    walk_at "go"
    refine go_ite (fun e => ?_) (fun e => ?_)
    · have e : r.1 = rp.1 := by simpa using e
      walk_at "go"
      refine hY _ _ ⟨rfl, ?_⟩
      rw [alive_step, if_pos (by rw [hcl, hclp, e])]
      simp [dInts]
    · have e : r.1 ≠ rp.1 := by simpa using e
      refine hN _ ⟨rfl, ?_⟩
      rw [alive_step, if_neg (by rw [hcl, hclp]; exact e), List.append_nil]
  obtain ⟨rfl, rfl⟩ := hI
  have hal : (aliveF rs ss p ss.length).length ≤ ss.length := nodup_le ((List.Pairwise.map _ (fun a b (h : a ≠ b) => by omega) List.nodup_range).filter _) fun v hv => ⟨(alive_mem.mp hv).1, (alive_mem.mp hv).2.1⟩
  rw [length_rng, Int.toNat_natCast, List.length_map]
  obtain ⟨row, hrow, hrowm, hrowl, erow⟩ := web_at gw (i := 0) (by decide) (by have := List.length_pos_iff.mpr gw.ne; omega)
  have hl6 : (dInts w).length ≤ 1000000 := by rw [List.length_map]; omega
  walk_at "goS"
  refine ⟨many, w, by rw [List.length_map, hrowl]; rfl, kw.lt, by omega, ?_⟩
  walk_at "goS"
  refine ⟨web, many, rs, p, w, rfl, two.gr, two.p0, two.p1, kw.lt, ?_⟩
  rw [kw.run]
  walk_at "goS"
  refine go_ite (fun e => by simp at e) (fun _ => ?_)
  walk_at "goS"
  refine go_lcI (fun i acc M' => M = M' ∧ acc = []) ⟨rfl, rfl⟩ (fun i d acc M' KY KN hd hI hY hN => ?_) (fun acc M' hI => ?_)
  · obtain ⟨rfl, rfl⟩ := hI
    rw [List.getElem?_map] at hd
    obtain ⟨k, hk, rfl⟩ := Option.map_eq_some_iff.mp hd
    obtain ⟨k0, k1, kc⟩ := alive_mem.mp (List.mem_of_getElem? hk)
    have hng := kw.ng k k0 k1 kc
    walk_at "goS"
    refine ⟨web, many, ss, k, w, rfl, two.gs, k0, k1, kw.lt, ?_⟩
    walk_at "goS"
    refine go_ite (fun e => ?_) (fun e => hN _ ⟨rfl, rfl⟩)
    have := of_decide_eq_true e
    omega
  obtain ⟨rfl, rfl⟩ := hI
  walk_at "goS"
  refine go_eqInts ?_
  walk_at "goS"
  refine go_ite (fun e => ?_) (fun e => ?_)
  · have e : w = [] := by simpa using e
    have hne : aliveF rs ss p ss.length = [] := List.eq_nil_iff_forall_not_mem.mpr fun k hk => by
      obtain ⟨k0, k1, kc⟩ := alive_mem.mp hk
      exact kw.nil e k k0 k1 kc
    walk_at "goS"
    refine go_eqInts ?_
    rw [hne]
    walk_at "goS"
    exact Fin.of q
  obtain ⟨c0, c1⟩ := cls_rg two.gr two.p0 two.p1
  have lnil : Ltr many ([] : List Int) := fun x hx => by simp at hx
  walk_at "goS"
  refine ⟨web, many, ss, rp.1, [], w, _, rfl, rfl, gw, two.gs, by omega, by rw [← hclp]; exact c0, by rw [← hclp]; exact c1, lnil, kw.lt, hw, ?_⟩
  walk_at "goS"
  refine ⟨web, many, rs, rp.1, [], w, _, rfl, rfl, gw, two.gr, by omega, by rw [← hclp]; exact c0, by rw [← hclp]; exact c1, lnil, kw.lt, hw, ?_⟩
  rw [← hclp, kw.dead gw two, kw.held gw two]
  walk_at "goS"
  refine go_eqSame rfl rfl ?_
  walk_at "goS"
  refine ⟨web, many, ss, rp.1, [], w, _, rfl, rfl, gw, two.gs, by omega, by rw [← hclp]; exact c0, by rw [← hclp]; exact c1, lnil, kw.lt, hw, ?_⟩
  walk_at "goS"
  refine ⟨web, many, rs, rp.1, [], w, _, rfl, rfl, gw, two.gr, by omega, by rw [← hclp]; exact c0, by rw [← hclp]; exact c1, lnil, kw.lt, hw, ?_⟩
  rw [← hclp, kw.dead gw two, kw.held gw two]
  walk_at "goS"
  refine ⟨_, rfl, rfl, ?_⟩
  exact Fin.of q
end
end L29

set_option Elab.async false
set_option linter.all false
set_option maxRecDepth 100000
set_option maxHeartbeats 4000000
namespace L29
open PySem PySem.Spec PyProof.Rows L2 DL
open P29 (Pr Cov Reach Bad At Room)
/-- what was told is right -/
def Told (many : Int) (rs ss : List Rm) (p : Int) (d : D) : Prop :=
  (∃ q, d = .tup [.str "room", .int q] ∧ 0 ≤ q ∧ q < (ss.length : Int) ∧ clsR ss q = clsR rs p ∧ Cov (strip rs) ss (p, q)) ∨ ∃ w, d = .tup [.str "word", .list (dInts w)] ∧ KWord many rs ss p w ∧ w.length ≤ 1000
def sp__law_right (a : Ad) : aSp := fun ds M Q => ∃ web many rs ss p told, ds = [dWeb web, dBook a web ss, .list (dRooms ss), dBook a web rs, .list (dRooms rs), .int p, told] ∧ GoodWeb web many ∧ Two2 web many rs ss p ∧ Told many rs ss p told ∧ Q (.bl true) M
section
variable {P : Program} {w : World} {K : PySem.W.Frag} {mg : Str → Option Value} {base : Heap} {a : Ad}
theorem ok__law_right (T : TX K mg a) : FnOk P w K mg base CX0 8 a.f__law_right a.fd__law_right ["web", "tome", "mine", "far", "theirs", "p", "told"] (lift K 7 (sp__law_right a)) := by
  refine okD (k := 7) T.fn__law_right sc__law_right rfl fun cdv A outer s H E hr => ⟨_, _, (dss_cons (ds_asg (de_tup (da_cons (de_lc (own := [("q", 10)]) rfl sc__law_right.nd (di_range1 (by rfl) T.b_range (da_cons (de_callB call_lenA sl_len (by rfl) T.b_len (by decide +kernel) (da_cons (dv 2) da_nil)) da_nil)) (blkOk_by (by rfl)) (fun _ _ _ _ _ => (dg_name (j := 10) sc__law_right.nd rfl (by first | exact .inl rfl | exact .inr rfl))) (fun _ _ _ _ _ => (dts_one (dt_cmp (op_eqD hr.units) s2_eq (de_ix (hu_of hr) (de_ix (hu_of hr) (dv 2) (dv 10) (fun _ _ => rfl)) de_int (fun _ _ => rfl)) (de_ix (hu_of hr) (de_ix (hu_of hr) (dv 4) (dv 5) (fun _ _ => rfl)) de_int (fun _ _ => rfl)) (nomark _)))) (fun _ _ _ _ _ => (dv 10)) om_name) (da_cons (de_call (ok__law_stripped T) (hr.mono (by decide)) (by rfl) T.mg__law_stripped T.kp__law_stripped T.bd__law_stripped pass0 (da_cons (dv 4) da_nil)) da_nil))) (dg_tup (dgs_cons (dg_name (j := 7) sc__law_right.nd rfl (by first | exact .inl rfl | exact .inr rfl)) (dgs_cons (dg_name (j := 8) sc__law_right.nd rfl (by first | exact .inl rfl | exact .inr rfl)) dgs_nil))))
      (dss_cons (ds_setLc (j := 9) (own := [("q", 10)]) rfl sc__law_right.nd rfl rfl (sw_true rfl rfl rfl (by decide +kernel)) (di_seq (dv 7)) (blkOk_by (by rfl)) (fun _ _ _ _ _ => (dg_name (j := 10) sc__law_right.nd rfl (by first | exact .inl rfl | exact .inr rfl))) (fun _ _ _ _ _ => (dts_one (dt_tru (de_call (ok__law_covered T) (hr.mono (by decide)) (by rfl) T.mg__law_covered T.kp__law_covered T.bd__law_covered pass0 (da_cons (dv 8) (da_cons (dv 5) (da_cons (dv 2) (da_cons (dv 10) da_nil)))))))) (fun _ _ _ _ _ => (dv 10)) om_name)
      (dss_cons (ds_if (DW.dt (dw_or (dt_not (dt_tru (de_callB call_isi sl_isi (by rfl) T.b_isinstance (by decide +kernel) (da_cons (dv 6) (da_cons (de_ty (n := "tuple") (by rfl) T.b_tuple) da_nil))))) (dw_or1 (dt_cmp (op_neD hr.units) s2_ne (de_callB call_lenA sl_len (by rfl) T.b_len (by decide +kernel) (da_cons (dv 6) da_nil)) de_int (nomark _))))) (dss_one (ds_ret de_bl)) dss_nil)
      (dss_cons (ds_if (dt_tru (dv 9)) (dss_one (ds_ret (de_and (de_cmp (op_eqD hr.units) s2_eq (de_ix (hu_of hr) (dv 6) de_int (fun _ _ => rfl)) de_str (nomark _)) (de_and (de_callB call_isi sl_isi (by rfl) T.b_isinstance (by decide +kernel) (da_cons (de_ix (hu_of hr) (dv 6) de_int (fun _ _ => rfl)) (da_cons (de_ty (n := "int") (by rfl) T.b_int) da_nil))) (de_and (de_not (de_callB call_isi sl_isi (by rfl) T.b_isinstance (by decide +kernel) (da_cons (de_ix (hu_of hr) (dv 6) de_int (fun _ _ => rfl)) (da_cons (de_ty (n := "bool") (by rfl) T.b_bool) da_nil)))) (de_one (de_cmp (op_inA (hu_of hr)) s2_in (de_ix (hu_of hr) (dv 6) de_int (fun _ _ => rfl)) (dv 9) (by rfl)))))))) dss_nil)
      (dss_one (ds_ret (de_and (de_cmp (op_eqD hr.units) s2_eq (de_ix (hu_of hr) (dv 6) de_int (fun _ _ => rfl)) de_str (nomark _)) (de_one (de_call (ok__law_word_right T) (hr.mono (by decide)) (by rfl) T.mg__law_word_right T.kp__law_word_right T.bd__law_word_right pass0 (da_cons (dv 0) (da_cons (dv 1) (da_cons (dv 2) (da_cons (dv 3) (da_cons (dv 4) (da_cons (dv 5) (da_cons (de_ix (hu_of hr) (dv 6) de_int (fun _ _ => rfl)) da_nil)))))))))))))))), fun ds M Q hl h => ?_⟩
  obtain ⟨web, many, rs, ss, p, told, rfl, gw, two, ht, q⟩ := h
  have hlr := two.lr
  have hls := two.ls
  have gwl := gw.le
  obtain ⟨rp, hrp, hrpm, erp⟩ := room_at two.p0 two.p1
  have hclp : clsR rs p = rp.1 := clsR_at hrp
  walk_at "start"
  walk_at "go"
  refine go_lcI (fun i acc M' => M = M' ∧ acc = dInts (aliveF rs ss p i)) ⟨rfl, rfl⟩ (fun i d acc M' KY KN hd hI hY hN => ?_) (fun acc M' hI => ?_)
  · obtain ⟨rfl, rfl⟩ := hI
    obtain ⟨hlt, hdd⟩ := rng_get hd
    rw [Int.zero_add] at hdd
    subst hdd
    simp only [List.length_map] at hlt
    obtain ⟨r, hr, hrm, er⟩ := room_at (rs := ss) (i := (i : Int)) (by omega) (by omega)
    have hcl : clsR ss (i : Int) = r.1 := clsR_at hr
    walk_at "go"
    refine go_ite (fun e => ?_) (fun e => ?_)
    · have e : r.1 = rp.1 := by simpa using e
      walk_at "go"
      refine hY _ _ ⟨rfl, ?_⟩
      rw [alive_step, if_pos (by rw [hcl, hclp, e])]
      simp [dInts]
    · have e : r.1 ≠ rp.1 := by simpa using e
      refine hN _ ⟨rfl, ?_⟩
      rw [alive_step, if_neg (by rw [hcl, hclp]; exact e), List.append_nil]
  obtain ⟨rfl, rfl⟩ := hI
  rw [length_rng, Int.toNat_natCast, List.length_map]
  have hal : (aliveF rs ss p ss.length).length ≤ ss.length := nodup_le ((List.Pairwise.map _ (fun a b (h : a ≠ b) => by omega) List.nodup_range).filter _) fun v hv => ⟨(alive_mem.mp hv).1, (alive_mem.mp hv).2.1⟩
  walk_at "goS"
  refine ⟨web, many, rs, rfl, two.gr, by omega, two.m, ?_⟩
  walk_at "goS"
  have sl := strip_len (rs := rs)
  have gs := strip_good two.gr
  refine go_lcI (fun i acc M' => M = M' ∧ acc = dInts (((aliveF rs ss p ss.length).take i).filter fun k => covB (strip rs) ss (p, k))) ⟨rfl, rfl⟩ (fun i d acc M' KY KN hd hI hY hN => ?_) (fun acc M' hI => ?_)
  · obtain ⟨rfl, rfl⟩ := hI
    rw [List.getElem?_map] at hd
    obtain ⟨k, hk, rfl⟩ := Option.map_eq_some_iff.mp hd
    obtain ⟨k0, k1, kc⟩ := alive_mem.mp (List.mem_of_getElem? hk)
    have step : ((aliveF rs ss p ss.length).take (i + 1)).filter (fun k => covB (strip rs) ss (p, k)) = ((aliveF rs ss p ss.length).take i).filter (fun k => covB (strip rs) ss (p, k)) ++ (if covB (strip rs) ss (p, k) = true then [k] else []) := by
      rw [List.take_add_one, hk, List.filter_append]
      congr 1
      simp only [Option.toList_some, List.filter_cons, List.filter_nil]
    walk_at "goS"
    refine ⟨many, strip rs, ss, p, k, rfl, good_two gs two.gs (by omega) (by omega) two.m two.p0 (by rw [sl]; exact two.p1) k0 k1, ?_⟩
    walk_at "goS"
    refine go_ite (fun e => ?_) (fun e => ?_)
    · walk_at "goS"
      refine hY _ _ ⟨rfl, ?_⟩
      rw [step, if_pos e]
      simp [dInts]
    · refine hN _ ⟨rfl, ?_⟩
      rw [step, if_neg (by rw [e]; simp), List.append_nil]
  obtain ⟨rfl, rfl⟩ := hI
  rw [List.length_map, List.take_length]
  have hmem : ∀ k, k ∈ (aliveF rs ss p ss.length).filter (fun k => covB (strip rs) ss (p, k)) ↔ 0 ≤ k ∧ k < (ss.length : Int) ∧ clsR ss k = clsR rs p ∧ Cov (strip rs) ss (p, k) := fun k => by
    rw [List.mem_filter, alive_mem]
    constructor
    · rintro ⟨⟨a, b, c⟩, d⟩
      exact ⟨a, b, c, ((covB_iff two.p0 (by rw [sl]; exact two.p1) a b).mp d).2⟩
    · rintro ⟨a, b, c, d⟩
      exact ⟨⟨a, b, c⟩, (covB_iff two.p0 (by rw [sl]; exact two.p1) a b).mpr ⟨by rw [strip_cls two.p0 two.p1, c], d⟩⟩
  have hdl : ((aliveF rs ss p ss.length).filter (fun k => covB (strip rs) ss (p, k))).length ≤ 1000000 := Nat.le_trans (List.length_filter_le _ _) (by omega)
  generalize (aliveF rs ss p ss.length).filter (fun k => covB (strip rs) ss (p, k)) = due at hmem hdl ⊢
  rcases ht with ⟨k, rfl, k0, k1, kc, hc⟩ | ⟨w, rfl, kw, hw⟩
  · walk_at "goS"
    have hkd := (hmem k).mpr ⟨k0, k1, kc, hc⟩
    have hne : (!(dInts due).isEmpty) = true := by
      cases due with
      | nil => simp at hkd
      | cons => rfl
    refine go_ite (fun _ => ?_) (fun e => by rw [hne] at e; simp at e)
    walk_at "goS"
    refine go_eqS (by decide +kernel) (by decide +kernel) ?_
    walk_at "goS"
    refine go_inI rfl (flat_ints _) ?_
    rw [memD_ints, decide_eq_true hkd]
    walk_at "goS"
    exact Fin.of q
  · walk_at "goS"
    have hne : due = [] := List.eq_nil_iff_forall_not_mem.mpr fun k hk => by
      obtain ⟨a, b, c, d⟩ := (hmem k).mp hk
      exact kw.nc k a b c d
    subst hne
    refine go_ite (fun e => by simp at e) (fun _ => ?_)
    walk_at "goS"
    refine go_eqS (by decide +kernel) (by decide +kernel) ?_
    walk_at "goS"
    refine ⟨web, many, rs, ss, p, w, rfl, gw, two, kw, hw, ?_⟩
    exact Fin.of q
end
end L29

set_option Elab.async false
set_option linter.all false
set_option maxRecDepth 100000
set_option maxHeartbeats 4000000
namespace L29
open PySem PySem.Spec PyProof.Rows L2 DL
open P29 (Pr Cov Reach Bad At Room)
def sp__law_asked (a : Ad) : aSp := fun ds M Q => ∃ web many ss rs, ds = [dWeb web, .list (dRooms ss), .list (dRooms rs)] ∧ GoodWeb web many ∧ many ≤ 200 ∧ GoodRs web many ss ∧ GoodRs web many rs ∧ ss.length ≤ 6 ∧ rs.length ≤ 6 ∧ Q (.bl true) M
theorem mdel_new {M : Mp} {x : Addr} {c : MC} (h : M x = none) : mdel (mupd M x c) x = M := by
  funext y
  by_cases q : y = x
  · subst q; rw [mdel_same, h]
  · rw [mdel_ne q, mupd_ne q]
theorem plains_of {k : Nat} : ∀ {ds : List D}, (∀ d ∈ ds, plainN k d = true) → plainsN k ds = true
  | [], _ => rfl
  | d :: ds, h => by
    simp only [plainsN, Bool.and_eq_true]
    exact ⟨h d (by simp), plains_of fun e he => h e (by simp [he])⟩
theorem plain_ints {k : Nat} {w : List Int} : plainsN (k + 1) (dInts w) = true := plains_of fun d hd => by
  obtain ⟨t, _, rfl⟩ := List.mem_map.mp hd
  simp [plainN]
theorem plain_rooms {k : Nat} {rs : List Rm} (h : ∀ r ∈ rs, (r.2.length : Int) ≤ 1000) : plainsN (k + 2) (dRooms rs) = true := plains_of fun d hd => by
  obtain ⟨r, hr, rfl⟩ := List.mem_map.mp hd
  have hi : plainsN k (dInts r.2) = true := plains_of fun d hd => by
    obtain ⟨t, _, rfl⟩ := List.mem_map.mp hd
    simp [plainN]
  have := h r hr
  have hl : (dInts r.2).length ≤ 1000000 := by rw [List.length_map]; omega
  simp only [plainN, plainsN, List.length_cons, List.length_nil, hi, hl, decide_true, Bool.and_true, Bool.true_and]
  rfl
theorem plain_told {many : Int} {rs ss : List Rm} {p : Int} {d : D} (h : Told many rs ss p d) : plainN 5 d = true := by
  rcases h with ⟨k, rfl, _⟩ | ⟨w, rfl, _, hw⟩
  · have hs : PyData.strOk "room" = true := by decide +kernel
    simp only [plainN, plainsN, List.length_cons, List.length_nil, hs, decide_true, Bool.and_true, Bool.true_and]
    rfl
  · have hs : PyData.strOk "word" = true := by decide +kernel
    have hi : plainsN 3 (dInts w) = true := plain_ints
    have hl : (dInts w).length ≤ 1000000 := by rw [List.length_map]; omega
    simp only [plainN, plainsN, List.length_cons, List.length_nil, hi, hl, hs, decide_true, Bool.and_true, Bool.true_and]
    rfl
theorem KOk.of {web : List (List Int)} {many : Int} {rs ss : List Rm} {p : Int} {M : Mp} {Q : QD} (hrl : rs.length ≤ 6) (hsl : ss.length ≤ 6) (h : ∀ d, Told many rs ss p d → kF rs ss p = d → Q d M) : KOk web many rs ss p M Q := by
  refine ⟨fun q a b c d e => h _ (.inl ⟨q, rfl, a, b, c, d⟩) e, fun w kw e => h _ (.inr ⟨w, rfl, kw, ?_⟩) e⟩
  have h1 : rs.length * ss.length ≤ 6 * 6 := Nat.mul_le_mul hrl hsl
  have h2 : kB rs ss ≤ 43 := by
    show rs.length * ss.length + rs.length + 1 ≤ 43
    omega
  have h3 : ss.length * kB rs ss ≤ 6 * 43 := Nat.mul_le_mul hsl h2
  have := kw.le
  omega
section
variable {P : Program} {w : World} {K : PySem.W.Frag} {mg : Str → Option Value} {base : Heap} {a : Ad}
theorem ok__law_asked (T : TX K mg a) : FnOk P w K mg base CX0 9 a.f__law_asked a.fd__law_asked ["web", "mine", "theirs"] (lift K 3 (sp__law_asked a)) := by
  refine okD (k := 8) T.fn__law_asked sc__law_asked rfl fun cdv A outer s H E hr => ⟨_, _, (dss_cons (ds_par (i := 3) (j := 4) sc__law_asked.nd rfl rfl (da_cons (de_make T.mk_RoomBook (ok_RoomBook___init__ T) (hr.mono (by decide)) (by rfl) T.mg_RoomBook T.bd_RoomBook___init__ pass0 (da_cons (dv 0) (da_cons (dv 1) da_nil))) (da_cons (de_make T.mk_RoomBook (ok_RoomBook___init__ T) (hr.mono (by decide)) (by rfl) T.mg_RoomBook T.bd_RoomBook___init__ pass0 (da_cons (dv 0) (da_cons (dv 2) da_nil))) da_nil)))
      (dss_cons (ds_for (di_range1 (by rfl) T.b_range (da_cons (de_callB call_lenA sl_len (by rfl) T.b_len (by decide +kernel) (da_cons (dv 2) da_nil)) da_nil)) (dg_name (j := 5) sc__law_asked.nd rfl (by first | exact .inl rfl | exact .inr rfl)) (dss_cons (ds_set (j := 6) sc__law_asked.nd rfl (by first | exact .inl rfl | exact .inr rfl) (de_call (ok_killing_word T) (hr.mono (by decide)) (by rfl) T.mg_killing_word T.kp_killing_word T.bd_killing_word pass0 (da_cons (dv 3) (da_cons (dv 4) (da_cons (dv 5) da_nil)))))
      (dss_cons (ds_if (dt_not (dt_tru (de_call (ok__law_right T) (hr.mono (by decide)) (by rfl) T.mg__law_right T.kp__law_right T.bd__law_right pass0 (da_cons (dv 0) (da_cons (dv 3) (da_cons (dv 1) (da_cons (dv 4) (da_cons (dv 2) (da_cons (dv 5) (da_cons (dv 6) da_nil)))))))))) (dss_one (ds_ret de_bl)) dss_nil)
      (dss_one (ds_if (DW.dt (dw_and (dt_cmp (op_eqD hr.units) s2_eq (dv 5) de_int (nomark _)) (dw_and1 (dt_not (dt_tru (de_call (ok__law_like T 6) (hr.mono (by decide)) (by rfl) T.mg__law_like T.kp__law_like T.bd__law_like pass0 (da_cons (de_callK0 (kr_killing_word_k_0_room_other_book) (ok_killing_word T) (hr.mono (by decide)) (by rfl) T.mg_killing_word T.kp_killing_word T.kb_killing_word_k_0_room_other_book pass0 (dk_cons (dv 5) (dk_cons (dv 4) (dk_cons (dv 3) dk_nil)))) (da_cons (dv 6) da_nil)))))))) (dss_one (ds_ret de_bl)) dss_nil)))) PassesOwn.never)
      (dss_one (ds_ret (de_call (ok__law_like T 6) (hr.mono (by decide)) (by rfl) T.mg__law_like T.kp__law_like T.bd__law_like pass0 (da_cons (de_lst (da_cons (de_meth0 (dv 3) T.cl_RoomBook T.me_RoomBook_rooms (ok_RoomBook_rooms T) (hr.mono (by decide)) T.bd_RoomBook_rooms pass0) (da_cons (de_meth0 (dv 4) T.cl_RoomBook T.me_RoomBook_rooms (ok_RoomBook_rooms T) (hr.mono (by decide)) T.bd_RoomBook_rooms pass0) da_nil))) (da_cons (de_lst (da_cons (dv 1) (da_cons (dv 2) da_nil))) da_nil))))))), fun ds M Q hl h => ?_⟩
  obtain ⟨web, many, ss, rs, rfl, gw, hm, gs, gr, hsl, hrl, q⟩ := h
  have gwl := gw.le
  walk_at "start"
  walk_at "goS"
  intro x hx
  refine ⟨x, web, ss, rfl, by omega, by omega, mupd_same, rfl, _, mupd_same, ?_⟩
  rw [mupd_mupd, mdel_new hx]
  walk_at "goS"
  intro x hx
  refine ⟨x, web, rs, rfl, by omega, by omega, mupd_same, rfl, _, mupd_same, ?_⟩
  rw [mupd_mupd, mdel_new hx]
  walk_at "goS"
  refine go_forI (fun i G' M' => ∃ (x5 x6 : Option D), G' = [some (dWeb web), some (.list (dRooms ss)), some (.list (dRooms rs)), some (dBook a web ss), some (dBook a web rs), x5, x6] ∧ M = M') ⟨_, _, rfl, rfl⟩ (fun i d G' M' nx' hd hI hn => ?_) (fun G' M' hI => ?_)
  · obtain ⟨x5, x6, rfl, rfl⟩ := hI
    obtain ⟨hlt, hdd⟩ := rng_get hd
    rw [Int.zero_add] at hdd
    subst hdd
    simp only [List.length_map] at hlt
    have two : Two2 web many rs ss (i : Int) := ⟨gr, gs, by omega, by omega, hm, by omega, by omega⟩
    walk_at "goS"
    refine ⟨web, many, rs, ss, (i : Int), web, web, rfl, two, .of hrl hsl fun d ht he => ?_⟩
    walk_at "goS"
    refine ⟨web, many, rs, ss, (i : Int), d, rfl, gw, two, ht, ?_⟩
    walk_at "goS"
    refine go_ite (fun e => ?_) (fun e => ?_)
    · walk_at "goS"
      refine ⟨web, many, rs, ss, (i : Int), web, web, rfl, two, .of hrl hsl fun d2 ht2 he2 => ?_⟩
      have : d2 = d := by rw [← he2, he]
      subst this
      walk_at "goS"
      have pl := plain_told ht
      refine ⟨_, rfl, pl, ?_⟩
      walk_at "goS"
      exact hn _ _ ⟨_, _, rfl, rfl⟩
    · walk_at "goS"
      exact hn _ _ ⟨_, _, rfl, rfl⟩
  · obtain ⟨x5, x6, rfl, rfl⟩ := hI
    walk_at "go"
    refine ⟨web, ss, rfl, ?_⟩
    walk_at "go"
    refine ⟨web, rs, rfl, ?_⟩
    walk_at "go"
    have pl : plainN 5 (.list [.list (dRooms ss), .list (dRooms rs)]) = true := by
      have p1 := plain_rooms (k := 1) (rs := ss) (fun r hr => by have := (gs r hr).len; omega)
      have p2 := plain_rooms (k := 1) (rs := rs) (fun r hr => by have := (gr r hr).len; omega)
      have l1 : (dRooms ss).length ≤ 1000000 := by rw [List.length_map]; omega
      have l2 : (dRooms rs).length ≤ 1000000 := by rw [List.length_map]; omega
      simp only [plainN, plainsN, p1, p2, l1, l2, List.length_cons, List.length_nil, decide_true, Bool.and_true, Bool.true_and]
      rfl
    refine ⟨_, rfl, pl, ?_⟩
    exact Fin.of q
end
end L29

set_option Elab.async false
set_option linter.all false
set_option maxRecDepth 100000
set_option maxHeartbeats 4000000
namespace L29
open PySem PySem.Spec PyProof.Rows L2 DL
open P29 (Pr Cov Reach Bad At Room)
def sp_law : aSp := fun ds M Q => ∃ ns : List Int, ds = [.rol (ns.map .int)] ∧ ns.length ≤ 63 ∧ Q (.bl true) M
def deadR (many : Int) (n : Nat) : List Rm := (List.range n).map fun (k : Nat) => ((k : Int), List.replicate many.toNat (-1))
theorem dead_good {web : List (List Int)} {many : Int} (g : GoodWeb web many) : GoodRs web many (deadR many web.length) := fun r hr => by
  obtain ⟨k, hk, rfl⟩ := List.mem_map.mp hr
  have := List.mem_range.mp hk
  have hm := g.pos
  refine ⟨by show (0 : Int) ≤ (k : Int); omega, by show (k : Int) < _; omega, by show ((List.replicate many.toNat (-1 : Int)).length : Int) = many; rw [List.length_replicate]; omega, fun x t hx ht => ?_⟩
  have := List.mem_of_getElem? hx
  have := (List.mem_replicate.mp this).2
  omega
section
variable {P : Program} {w : World} {K : PySem.W.Frag} {mg : Str → Option Value} {base : Heap} {a : Ad}
theorem ok_law (T : TX K mg a) : FnOk P w K mg base CX0 10 a.f_law a.fd_law ["script"] (lift K 1 sp_law) := by
  refine okD (k := 9) T.fn_law sc_law rfl fun cdv A outer s H E hr => ⟨_, _, (dss_cons (ds_set (j := 1) sc_law.nd rfl (by first | exact .inl rfl | exact .inr rfl) (de_call (ok__law_bag T) (hr.mono (by decide)) (by rfl) T.mg__law_bag T.kp__law_bag T.bd__law_bag pass0 (da_cons (dv 0) da_nil)))
      (dss_cons (ds_set (j := 2) sc_law.nd rfl (by first | exact .inl rfl | exact .inr rfl) (de_call (ok__law_of T) (hr.mono (by decide)) (by rfl) T.mg__law_of T.kp__law_of T.bd__law_of pass0 (da_cons (dv 1) (da_cons (de_lst (da_cons de_int (da_cons de_int (da_cons de_int (da_cons de_int (da_cons de_int (da_cons de_int da_nil))))))) da_nil))))
      (dss_cons (ds_set (j := 3) sc_law.nd rfl (by first | exact .inl rfl | exact .inr rfl) (de_call (ok__law_class_web T) (hr.mono (by decide)) (by rfl) T.mg__law_class_web T.kp__law_class_web T.bd__law_class_web pass0 (da_cons (dv 1) (da_cons (dv 2) da_nil))))
      (dss_cons (ds_for (di_range1 (by rfl) T.b_range (da_cons de_int da_nil)) (dg_name (j := 4) sc_law.nd rfl (by first | exact .inl rfl | exact .inr rfl)) (dss_cons (ds_set (j := 5) sc_law.nd rfl (by first | exact .inl rfl | exact .inr rfl) (de_call (ok__law_cells T) (hr.mono (by decide)) (by rfl) T.mg__law_cells T.kp__law_cells T.bd__law_cells pass0 (da_cons (dv 1) (da_cons (dv 3) (da_cons (de_call (ok__law_of T) (hr.mono (by decide)) (by rfl) T.mg__law_of T.kp__law_of T.bd__law_of pass0 (da_cons (dv 1) (da_cons (de_lst (da_cons de_int (da_cons de_int (da_cons de_int (da_cons de_int (da_cons de_int (da_cons de_int (da_cons de_int da_nil)))))))) da_nil))) da_nil)))))
      (dss_cons (ds_set (j := 6) sc_law.nd rfl (by first | exact .inl rfl | exact .inr rfl) (de_call (ok__law_cells T) (hr.mono (by decide)) (by rfl) T.mg__law_cells T.kp__law_cells T.bd__law_cells pass0 (da_cons (dv 1) (da_cons (dv 3) (da_cons (de_add de_int (de_call (ok__law_draw T) (hr.mono (by decide)) (by rfl) T.mg__law_draw T.kp__law_draw T.bd__law_draw pass0 (da_cons (dv 1) (da_cons de_int da_nil)))) da_nil)))))
      (dss_cons (ds_if (DW.dt (dw_or (dt_cmp (op_eqD hr.units) s2_eq (dv 4) de_int (nomark _)) (dw_or1 (dt_not (dt_tru (dv 5)))))) (dss_one (ds_set (j := 6) sc_law.nd rfl (by first | exact .inl rfl | exact .inr rfl) (de_ifExp (dt_tru (dv 5)) (de_call (ok__law_bent T) (hr.mono (by decide)) (by rfl) T.mg__law_bent T.kp__law_bent T.bd__law_bent pass0 (da_cons (dv 1) (da_cons (dv 3) (da_cons (dv 5) da_nil)))) (de_call (ok__law_least T) (hr.mono (by decide)) (by rfl) T.mg__law_least T.kp__law_least T.bd__law_least pass0 (da_cons (dv 6) da_nil))))) dss_nil)
      (dss_cons (ds_if (DW.dt (dw_and (dt_cmp (op_eqD hr.units) s2_eq (dv 4) de_int (nomark _)) (dw_and1 (dt_tru (dv 5))))) (dss_one (ds_par (i := 5) (j := 6) sc_law.nd rfl rfl (da_cons (de_call (ok__law_bent T) (hr.mono (by decide)) (by rfl) T.mg__law_bent T.kp__law_bent T.bd__law_bent pass0 (da_cons (dv 1) (da_cons (dv 3) (da_cons (dv 5) da_nil)))) (da_cons (dv 5) da_nil)))) dss_nil)
      (dss_cons (ds_if (DW.dt (dw_or (dt_not (dt_tru (de_call (ok__law_asked T) (hr.mono (by decide)) (by rfl) T.mg__law_asked T.kp__law_asked T.bd__law_asked pass0 (da_cons (dv 3) (da_cons (dv 5) (da_cons (dv 6) da_nil)))))) (dw_or1 (dt_not (dt_tru (de_call (ok__law_asked T) (hr.mono (by decide)) (by rfl) T.mg__law_asked T.kp__law_asked T.bd__law_asked pass0 (da_cons (dv 3) (da_cons (dv 5) (da_cons (dv 5) da_nil))))))))) (dss_one (ds_ret de_bl)) dss_nil)
      (dss_one (ds_if (DW.dt (dw_and (dt_tru (dv 6)) (dw_and1 (dt_not (dt_tru (de_call (ok__law_asked T) (hr.mono (by decide)) (by rfl) T.mg__law_asked T.kp__law_asked T.bd__law_asked pass0 (da_cons (dv 3) (da_cons (de_lst da_nil) (da_cons (de_call (ok__law_kept T) (hr.mono (by decide)) (by rfl) T.mg__law_kept T.kp__law_kept T.bd__law_kept pass0 (da_cons (dv 6) (da_cons (de_lst (da_cons de_int da_nil)) da_nil))) da_nil))))))))) (dss_one (ds_ret de_bl)) dss_nil))))))) PassesOwn.never)
      (dss_cons (ds_setLc (j := 7) (own := [("spot", 8)]) rfl sc_law.nd rfl rfl (sw_true rfl rfl rfl (by decide +kernel)) (di_range1 (by rfl) T.b_range (da_cons (de_callB call_lenA sl_len (by rfl) T.b_len (by decide +kernel) (da_cons (dv 3) da_nil)) da_nil)) (blkOk_by (by rfl)) (fun _ _ _ _ _ => (dg_name (j := 8) sc_law.nd rfl (by first | exact .inl rfl | exact .inr rfl))) (fun _ _ _ _ _ => dts_nil) (fun _ _ _ _ _ => (de_tup (da_cons (dv 8) (da_cons (de_callTy call_tuple_of sl_tuple (by rfl) T.b_tuple (by decide +kernel) (da_cons (de_mul (de_lst (da_cons (de_neg de_int) da_nil)) (dv 2)) da_nil)) da_nil)))) om_name)
      (dss_one (ds_ret (de_and (de_call (ok__law_asked T) (hr.mono (by decide)) (by rfl) T.mg__law_asked T.kp__law_asked T.bd__law_asked pass0 (da_cons (dv 3) (da_cons (dv 7) (da_cons (de_call (ok__law_least T) (hr.mono (by decide)) (by rfl) T.mg__law_least T.kp__law_least T.bd__law_least pass0 (da_cons (de_call (ok__law_cells T) (hr.mono (by decide)) (by rfl) T.mg__law_cells T.kp__law_cells T.bd__law_cells pass0 (da_cons (dv 1) (da_cons (dv 3) (da_cons de_int da_nil)))) da_nil)) da_nil)))) (de_one (de_call (ok__law_asked T) (hr.mono (by decide)) (by rfl) T.mg__law_asked T.kp__law_asked T.bd__law_asked pass0 (da_cons (dv 3) (da_cons (de_lst da_nil) (da_cons (dv 7) da_nil))))))))))))), fun ds M Q hl h => ?_⟩
  obtain ⟨ns, rfl, hns, q⟩ := h
  walk_at "start"
  walk_at "go"
  refine ⟨ns, rfl, hns, fun b c hb0 hc => ?_⟩
  walk_at "go"
  have kk : Kp (mupd M b c) b (mupd M b c) := .refl ⟨c, mupd_same, hc⟩
  refine of_go kk (by simp) (by decide) (fun d c1 hd hc1 k1 => ?_)
  obtain ⟨many, rfl, hm0, hm1⟩ : ∃ n : Int, d = .int n ∧ 2 ≤ n ∧ n ≤ 4 := by
    simp at hd
    rcases hd with rfl | rfl | rfl | rfl | rfl | rfl <;> exact ⟨_, rfl, by decide, by decide⟩
  walk_at "go"
  refine ⟨b, many, rfl, by omega, by omega, k1.bag, fun web c2 w1 w2 w3 hc2 => ?_⟩
  have k2 := k1.draw hc2
  have gw : GoodWeb web many := ⟨w1, w2, w3, by omega, by omega⟩
  generalize mupd (mupd (mupd M b c) b c1) b c2 = M2 at k2 ⊢
  walk_at "go"
  have gwl := gw.le
  refine go_seqK (J := fun G' M' => ∃ (x4 x5 x6 : Option D), G' = [some (.rol (ns.map .int)), some (.ref b), some (.int many), some (dWeb web), x4, x5, x6, none, none] ∧ Kp (mupd M b c) b M') (fun nx hk => ?_) (fun G' M' hJ => ?_)
  · walk_at "go"
    refine go_forI (fun i G' M' => ∃ (x4 x5 x6 : Option D), G' = [some (.rol (ns.map .int)), some (.ref b), some (.int many), some (dWeb web), x4, x5, x6, none, none] ∧ Kp (mupd M b c) b M') ⟨_, _, _, rfl, k2⟩ (fun i d G' M' nx' hd hI hn => ?_) (fun G' M' hI => hk _ _ hI)
    obtain ⟨x4, x5, x6, rfl, k3⟩ := hI
    obtain ⟨hlt, rfl⟩ := rng_get hd
    walk_at "go"
    refine of_go k3 (by simp) (by decide) (fun d c3 hd3 hc3 k4 => ?_)
    obtain ⟨count, rfl, hn0, hn1⟩ : ∃ n : Int, d = .int n ∧ 0 ≤ n ∧ n ≤ 5 := by
      simp at hd3
      rcases hd3 with rfl | rfl | rfl | rfl | rfl | rfl | rfl <;> exact ⟨_, rfl, by decide, by decide⟩
    walk_at "go"
    refine ⟨b, web, many, count, rfl, gw, by omega, by omega, k4.bag, fun mine c5 hml hmg hc5 => ?_⟩
    have k5 := k4.draw hc5
    walk_at "go"
    refine draw_go k5 (by decide) (by decide) (fun n1 c6 n10 n11 g6 k6 => ?_)
    walk_at "go"
    refine ⟨b, web, many, 1 + n1, rfl, gw, by omega, by omega, k6.bag, fun ths c7 htl htg hc7 => ?_⟩
    have k7 := k6.draw hc7
    generalize mupd (mupd (mupd (mupd M' b c3) b c5) b c6) b c7 = M7 at k7 ⊢
    walk_at "go"
    refine go_seqK (J := fun G' M' => ∃ ths : List Rm, G' = [some (.rol (ns.map .int)), some (.ref b), some (.int many), some (dWeb web), some (.int (0 + (i : Int))), some (.list (dRooms mine)), some (.list (dRooms ths)), none, none] ∧ Kp (mupd M b c) b M' ∧ GoodRs web many ths ∧ ths.length ≤ 5) (fun nx1 hk1 => ?_) (fun G' M' hJ => ?_)
    · walk_at "go"
      refine go_ite (fun _ => ?_) (fun _ => ?_)
      · walk_at "goS"
        refine go_ite (fun e => ?_) (fun e => ?_)
        · walk_at "goS"
          refine ⟨b, web, many, mine, rfl, gw, by omega, hmg, k7.bag, fun bent c8 hbl hbg hc8 => ?_⟩
          walk_at "goS"
          exact hk1 _ _ ⟨bent, rfl, k7.draw hc8, hbg, by omega⟩
        · walk_at "goS"
          refine ⟨web, many, ths, rfl, htg, by omega, by omega, fun live lo hll => ?_⟩
          walk_at "goS"
          exact hk1 _ _ ⟨leastR ths live, rfl, k7, leastR_good htg lo, by have := leastR_len (rs := ths) (live := live); omega⟩
      · walk_at "goS"
        refine go_ite (fun _ => ?_) (fun _ => ?_)
        · walk_at "goS"
          refine go_ite (fun e => ?_) (fun e => ?_)
          · walk_at "goS"
            refine ⟨b, web, many, mine, rfl, gw, by omega, hmg, k7.bag, fun bent c8 hbl hbg hc8 => ?_⟩
            walk_at "goS"
            exact hk1 _ _ ⟨bent, rfl, k7.draw hc8, hbg, by omega⟩
          · walk_at "goS"
            refine ⟨web, many, ths, rfl, htg, by omega, by omega, fun live lo hll => ?_⟩
            walk_at "goS"
            exact hk1 _ _ ⟨leastR ths live, rfl, k7, leastR_good htg lo, by have := leastR_len (rs := ths) (live := live); omega⟩
        · exact hk1 _ _ ⟨ths, rfl, k7, htg, by omega⟩
    obtain ⟨ths, rfl, k8, htg, htl⟩ := hJ
    walk_at "go"
    refine go_seqK (J := fun G' M' => ∃ mine ths : List Rm, G' = [some (.rol (ns.map .int)), some (.ref b), some (.int many), some (dWeb web), some (.int (0 + (i : Int))), some (.list (dRooms mine)), some (.list (dRooms ths)), none, none] ∧ Kp (mupd M b c) b M' ∧ GoodRs web many mine ∧ GoodRs web many ths ∧ mine.length ≤ 5 ∧ ths.length ≤ 5) (fun nx1 hk1 => ?_) (fun G' M' hJ => ?_)
    · walk_at "go"
      refine go_ite (fun _ => ?_) (fun _ => hk1 _ _ ⟨mine, ths, rfl, k8, hmg, htg, by omega, htl⟩)
      walk_at "goS"
      refine go_ite (fun _ => ?_) (fun _ => hk1 _ _ ⟨mine, ths, rfl, k8, hmg, htg, by omega, htl⟩)
      walk_at "goS"
      refine ⟨b, web, many, mine, rfl, gw, by omega, hmg, k8.bag, fun bent c8 hbl hbg hc8 => ?_⟩
      walk_at "goS"
      exact hk1 _ _ ⟨bent, mine, rfl, k8.draw hc8, hbg, hmg, by omega, by omega⟩
    obtain ⟨mine, ths, rfl, k8, hmg, htg, hml, htl⟩ := hJ
    walk_at "goS"
    refine ⟨web, many, mine, ths, rfl, gw, by omega, hmg, htg, by omega, by omega, ?_⟩
    walk_at "goS"
    refine ⟨web, many, mine, mine, rfl, gw, by omega, hmg, hmg, by omega, by omega, ?_⟩
    walk_at "goS"
    refine go_ite (fun e => ?_) (fun e => ?_)
    · have h0 : 0 < ths.length := by
        cases ths with
        | nil => simp at e
        | cons => simp
      have hk0 : ∀ k ∈ ([0] : List Int), 0 ≤ k ∧ k < (ths.length : Int) := fun k hk => by
        rcases List.mem_singleton.mp hk with rfl
        omega
      walk_at "goS"
      refine ⟨web, many, ths, [0], rfl, htg, by omega, by simp, hk0, ?_⟩
      walk_at "goS"
      refine ⟨web, many, [], keptR ths [0], rfl, gw, by omega, fun r hr => by simp at hr, kept_good htg hk0, by simp, by rw [kept_len]; simp, ?_⟩
      walk_at "goS"
      exact hn _ _ ⟨_, _, _, rfl, k8⟩
    · walk_at "goS"
      exact hn _ _ ⟨_, _, _, rfl, k8⟩
  · obtain ⟨x4, x5, x6, rfl, k3⟩ := hJ
    walk_at "goS"
    refine go_lcI (fun i acc M2 => M' = M2 ∧ acc = dRooms (deadR many i)) ⟨rfl, rfl⟩ (fun i d acc M2 KY KN hd hI hY hN => ?_) (fun acc M2 hI => ?_)
    · obtain ⟨rfl, rfl⟩ := hI
      obtain ⟨hlt, hdd⟩ := rng_get hd
      rw [Int.zero_add] at hdd
      subst hdd
      walk_at "goS"
      refine hY _ _ ⟨rfl, ?_⟩
      rw [show deadR many (i + 1) = deadR many i ++ [((i : Int), List.replicate many.toNat (-1))] by unfold deadR; rw [List.range_succ, List.map_append]; rfl]
      rw [show (List.replicate many.toNat [D.int (-1)]).flatten = dInts (List.replicate many.toNat (-1)) by
        generalize many.toNat = n
        induction n with
        | zero => rfl
        | succ n ih => rw [List.replicate_succ, List.flatten_cons, ih, List.replicate_succ]; rfl]
      exact (List.map_append (f := dRoom) (l₁ := deadR many i) (l₂ := [((i : Int), List.replicate many.toNat (-1))])).symm
    obtain ⟨rfl, rfl⟩ := hI
    rw [length_rng, Int.toNat_natCast, List.length_map]
    have dg := dead_good gw
    have dl : (deadR many web.length).length = web.length := by simp [deadR]
    walk_at "goS"
    refine ⟨b, web, many, 4, rfl, gw, by omega, by omega, k3.bag, fun cells c5 hcl hcg hc5 => ?_⟩
    have k5 := k3.draw hc5
    walk_at "goS"
    refine ⟨web, many, cells, rfl, hcg, by omega, by omega, fun live lo hll => ?_⟩
    have ll := leastR_len (rs := cells) (live := live)
    walk_at "goS"
    refine ⟨web, many, deadR many web.length, leastR cells live, rfl, gw, by omega, dg, leastR_good hcg lo, by omega, by omega, ?_⟩
    walk_at "goS"
    refine ⟨web, many, [], deadR many web.length, rfl, gw, by omega, fun r hr => by simp at hr, dg, by simp, by omega, ?_⟩
    refine DL.Fin.sub (fun x d e => ?_) q
    have hx : x ≠ b := fun z => by subst z; rw [hb0] at e; cases e
    exact k5.2 x d hx (by rw [mupd_ne hx]; exact e)
end
end L29

set_option Elab.async false
set_option linter.all false
set_option maxRecDepth 100000
set_option maxHeartbeats 4000000
namespace L29
open PySem PySem.Spec PyProof.Rows L2 DL
theorem ints_in {K : PySem.W.Frag} {H : Hp} : ∀ ns : List Int, RelL K H (ns.map V.int) (ns.map D.int)
  | [] => .nil
  | n :: ns => .cons (.int n) (ints_in ns)
theorem law_in {K : PySem.W.Frag} {H : Hp} {a : Addr} {ns : List Int} (hl : ns.length ≤ 63) (_hO : Only H) (hS : SqL K H a (ns.map V.int)) : lift K 1 sp_law [.ref a] H (fun v _ => v = .bl true) fun _ _ _ => False :=
  ⟨[.rol (ns.map .int)], fun _ => none, H, fun d _ => d = .bl true, rfl, ⟨Same.refl H, fun _ _ h => by cases h⟩, .cons (.rol hS (ints_in ns)) .nil, ⟨ns, rfl, hl, rfl⟩, fun d v M' N' H' e _ _ r => by subst e; exact rel_bl r⟩
section
theorem kbn_killing_word_k_0_room_other_book {K : PySem.W.Frag} {kV dc pm : Value} {an : Option Addr} {cd ct : Value} : KBn K (PySem.W.fnOf "killing_word" "killing_word" (defArgs s_killing_word) (defBody s_killing_word) (defScope s_killing_word) .none kV dc pm an cd ct) ["book", "other", "room"] 0 ["room", "other", "book"] kg_killing_word_k_0_room_other_book kg_killing_word_k_0_room_other_book :=
  ⟨fun s us ws _ h1 h2 => match us, ws, h1, h2 with | [], [_, _, _], _, _ => .of_eq rfl, by
  intro vs us zs ws r1 r2
  cases r1 with
  | nil =>
    cases r2 with
    | nil => exact .nil
    | cons b0 r2 =>
      cases r2 with
      | nil => exact .nil
      | cons b1 r2 =>
        cases r2 with
        | nil => exact .nil
        | cons b2 r2 =>
          cases r2 with
          | nil => exact (.cons b2 (.cons b1 (.cons b0 .nil)))
          | cons _ _ => exact .nil
  | cons _ _ => cases r2 <;> exact .nil⟩
set_option maxHeartbeats 0 in
theorem all_mk {l : PySem.W.OpenLaw} {w : World} {K : PySem.W.Frag} {h : Heap} {mg : Str → Option Value} {fa f0 f1 f2 f3 f4 f5 f6 f7 f8 f9 f10 f11 f12 f13 f14 f15 f16 f17 f18 f19 f20 f21 f22 f23 f24 f25 f26 f27 f28 f29 f30 f31 f32 f33 f34 f35 C_RoomBook : Addr} (X : K.In h) (G : h.Ns mainGlobals mg) (hfa : mg "law" = some (.ref fa))
    {od0 an0 od1 an1 od2 an2 od3 an3 od4 an4 od5 an5 od6 an6 od7 an7 od8 an8 od9 an9 od10 an10 od11 an11 od12 an12 od13 an13 od14 an14 od15 an15 od16 an16 od17 an17 od18 an18 od19 an19 od20 an20 od21 an21 od22 an22 od23 an23 od24 an24 od25 an25 od26 an26 od27 an27 od28 an28 od29 an29 od30 an30 od31 an31 od32 an32 od33 an33 od34 an34 od35 an35 : Option Addr} {sl0 sl1 sl2 sl3 sl4 sl5 sl6 sl7 sl8 sl9 sl10 sl11 sl12 sl13 sl14 sl15 sl16 sl17 sl18 sl19 sl20 sl21 sl22 sl23 sl24 sl25 sl26 sl27 sl28 sl29 sl30 sl31 sl32 sl33 sl34 sl35 : Array (Option Value)} {oc0 kV0 dc0 pm0 cd0 ct0 oc1 kV1 dc1 pm1 cd1 ct1 oc2 kV2 dc2 pm2 cd2 ct2 oc3 kV3 dc3 pm3 cd3 ct3 oc4 kV4 dc4 pm4 cd4 ct4 oc5 kV5 dc5 pm5 cd5 ct5 oc6 kV6 dc6 pm6 cd6 ct6 oc7 kV7 dc7 pm7 cd7 ct7 oc8 kV8 dc8 pm8 cd8 ct8 oc9 kV9 dc9 pm9 cd9 ct9 oc10 kV10 dc10 pm10 cd10 ct10 oc11 kV11 dc11 pm11 cd11 ct11 oc12 kV12 dc12 pm12 cd12 ct12 oc13 kV13 dc13 pm13 cd13 ct13 oc14 kV14 dc14 pm14 cd14 ct14 oc15 kV15 dc15 pm15 cd15 ct15 oc16 kV16 dc16 pm16 cd16 ct16 oc17 kV17 dc17 pm17 cd17 ct17 oc18 kV18 dc18 pm18 cd18 ct18 oc19 kV19 dc19 pm19 cd19 ct19 oc20 kV20 dc20 pm20 cd20 ct20 oc21 kV21 dc21 pm21 cd21 ct21 oc22 kV22 dc22 pm22 cd22 ct22 oc23 kV23 dc23 pm23 cd23 ct23 oc24 kV24 dc24 pm24 cd24 ct24 oc25 kV25 dc25 pm25 cd25 ct25 oc26 kV26 dc26 pm26 cd26 ct26 oc27 kV27 dc27 pm27 cd27 ct27 oc28 kV28 dc28 pm28 cd28 ct28 oc29 kV29 dc29 pm29 cd29 ct29 oc30 kV30 dc30 pm30 cd30 ct30 oc31 kV31 dc31 pm31 cd31 ct31 oc32 kV32 dc32 pm32 cd32 ct32 oc33 kV33 dc33 pm33 cd33 ct33 oc34 kV34 dc34 pm34 cd34 ct34 oc35 kV35 dc35 pm35 cd35 ct35 : Value}
    (aC_RoomBook : PySem.W.nsIn K mainGlobals "RoomBook" = some (some (.ref C_RoomBook)))
    (a0 : PySem.W.nsIn K mainGlobals "first_walk" = some (some (.ref f0)))
    (l0 : K.lookup f0 = some ⟨oc0, od0, .func (PySem.W.fnOf "first_walk" "first_walk" (defArgs s_first_walk) (defBody s_first_walk) (defScope s_first_walk) .none kV0 dc0 pm0 an0 cd0 ct0), sl0⟩)
    (c0 : PySem.W.codeIn K cd0 "first_walk" = true)
    (k0 : PySem.W.keepIn K (.ref f0) = true)
    (a1 : PySem.W.nsIn K mainGlobals "walked" = some (some (.ref f1)))
    (l1 : K.lookup f1 = some ⟨oc1, od1, .func (PySem.W.fnOf "walked" "walked" (defArgs s_walked) (defBody s_walked) (defScope s_walked) .none kV1 dc1 pm1 an1 cd1 ct1), sl1⟩)
    (c1 : PySem.W.codeIn K cd1 "walked" = true)
    (k1 : PySem.W.keepIn K (.ref f1) = true)
    (a2 : PySem.W.nsIn K mainGlobals "shortest_way" = some (some (.ref f2)))
    (l2 : K.lookup f2 = some ⟨oc2, od2, .func (PySem.W.fnOf "shortest_way" "shortest_way" (defArgs s_shortest_way) (defBody s_shortest_way) (defScope s_shortest_way) .none kV2 dc2 pm2 an2 cd2 ct2), sl2⟩)
    (c2 : PySem.W.codeIn K cd2 "shortest_way" = true)
    (k2 : PySem.W.keepIn K (.ref f2) = true)
    (a3 : PySem.W.nsIn K mainGlobals "way_back" = some (some (.ref f3)))
    (l3 : K.lookup f3 = some ⟨oc3, od3, .func (PySem.W.fnOf "way_back" "way_back" (defArgs s_way_back) (defBody s_way_back) (defScope s_way_back) .none kV3 dc3 pm3 an3 cd3 ct3), sl3⟩)
    (c3 : PySem.W.codeIn K cd3 "way_back" = true)
    (k3 : PySem.W.keepIn K (.ref f3) = true)
    (a4 : PySem.W.nsIn K mainGlobals "stepped" = some (some (.ref f4)))
    (l4 : K.lookup f4 = some ⟨oc4, od4, .func (PySem.W.fnOf "stepped" "stepped" (defArgs s_stepped) (defBody s_stepped) (defScope s_stepped) .none kV4 dc4 pm4 an4 cd4 ct4), sl4⟩)
    (c4 : PySem.W.codeIn K cd4 "stepped" = true)
    (k4 : PySem.W.keepIn K (.ref f4) = true)
    (a5 : PySem.W.nsIn K mainGlobals "holds_row" = some (some (.ref f5)))
    (l5 : K.lookup f5 = some ⟨oc5, od5, .func (PySem.W.fnOf "holds_row" "holds_row" (defArgs s_holds_row) (defBody s_holds_row) (defScope s_holds_row) .none kV5 dc5 pm5 an5 cd5 ct5), sl5⟩)
    (c5 : PySem.W.codeIn K cd5 "holds_row" = true)
    (k5 : PySem.W.keepIn K (.ref f5) = true)
    (a6 : PySem.W.nsIn K mainGlobals "inner_steps" = some (some (.ref f6)))
    (l6 : K.lookup f6 = some ⟨oc6, od6, .func (PySem.W.fnOf "inner_steps" "inner_steps" (defArgs s_inner_steps) (defBody s_inner_steps) (defScope s_inner_steps) .none kV6 dc6 pm6 an6 cd6 ct6), sl6⟩)
    (c6 : PySem.W.codeIn K cd6 "inner_steps" = true)
    (k6 : PySem.W.keepIn K (.ref f6) = true)
    (a7 : PySem.W.nsIn K mainGlobals "killing_loop" = some (some (.ref f7)))
    (l7 : K.lookup f7 = some ⟨oc7, od7, .func (PySem.W.fnOf "killing_loop" "killing_loop" (defArgs s_killing_loop) (defBody s_killing_loop) (defScope s_killing_loop) .none kV7 dc7 pm7 an7 cd7 ct7), sl7⟩)
    (c7 : PySem.W.codeIn K cd7 "killing_loop" = true)
    (k7 : PySem.W.keepIn K (.ref f7) = true)
    (a8 : PySem.W.nsIn K mainGlobals "killing_or_room" = some (some (.ref f8)))
    (l8 : K.lookup f8 = some ⟨oc8, od8, .func (PySem.W.fnOf "killing_or_room" "killing_or_room" (defArgs s_killing_or_room) (defBody s_killing_or_room) (defScope s_killing_or_room) .none kV8 dc8 pm8 an8 cd8 ct8), sl8⟩)
    (c8 : PySem.W.codeIn K cd8 "killing_or_room" = true)
    (k8 : PySem.W.keepIn K (.ref f8) = true)
    (a9 : PySem.W.findIn K (.ref C_RoomBook) "__init__" = some (some (.ref f9)))
    (i9 : PySem.W.isFn K (.ref f9) = true)
    (l9 : K.lookup f9 = some ⟨oc9, od9, .func (PySem.W.fnOf "__init__" "RoomBook.__init__" (defArgs s_RoomBook___init__) (defBody s_RoomBook___init__) (defScope s_RoomBook___init__) .none kV9 dc9 pm9 an9 cd9 ct9), sl9⟩)
    (c9 : PySem.W.codeIn K cd9 "RoomBook.__init__" = true)
    (k9 : PySem.W.keepIn K (.ref f9) = true)
    (a10 : PySem.W.findIn K (.ref C_RoomBook) "walker" = some (some (.ref f10)))
    (i10 : PySem.W.isFn K (.ref f10) = true)
    (l10 : K.lookup f10 = some ⟨oc10, od10, .func (PySem.W.fnOf "walker" "RoomBook.walker" (defArgs s_RoomBook_walker) (defBody s_RoomBook_walker) (defScope s_RoomBook_walker) .none kV10 dc10 pm10 an10 cd10 ct10), sl10⟩)
    (c10 : PySem.W.codeIn K cd10 "RoomBook.walker" = true)
    (k10 : PySem.W.keepIn K (.ref f10) = true)
    (a11 : PySem.W.findIn K (.ref C_RoomBook) "rooms" = some (some (.ref f11)))
    (i11 : PySem.W.isFn K (.ref f11) = true)
    (l11 : K.lookup f11 = some ⟨oc11, od11, .func (PySem.W.fnOf "rooms" "RoomBook.rooms" (defArgs s_RoomBook_rooms) (defBody s_RoomBook_rooms) (defScope s_RoomBook_rooms) .none kV11 dc11 pm11 an11 cd11 ct11), sl11⟩)
    (c11 : PySem.W.codeIn K cd11 "RoomBook.rooms" = true)
    (k11 : PySem.W.keepIn K (.ref f11) = true)
    (a12 : PySem.W.nsIn K mainGlobals "is_held" = some (some (.ref f12)))
    (l12 : K.lookup f12 = some ⟨oc12, od12, .func (PySem.W.fnOf "is_held" "is_held" (defArgs s_is_held) (defBody s_is_held) (defScope s_is_held) .none kV12 dc12 pm12 an12 cd12 ct12), sl12⟩)
    (c12 : PySem.W.codeIn K cd12 "is_held" = true)
    (k12 : PySem.W.keepIn K (.ref f12) = true)
    (a13 : PySem.W.nsIn K mainGlobals "killing_word" = some (some (.ref f13)))
    (l13 : K.lookup f13 = some ⟨oc13, od13, .func (PySem.W.fnOf "killing_word" "killing_word" (defArgs s_killing_word) (defBody s_killing_word) (defScope s_killing_word) .none kV13 dc13 pm13 an13 cd13 ct13), sl13⟩)
    (c13 : PySem.W.codeIn K cd13 "killing_word" = true)
    (k13 : PySem.W.keepIn K (.ref f13) = true)
    (a14 : PySem.W.nsIn K mainGlobals "_law_bag" = some (some (.ref f14)))
    (l14 : K.lookup f14 = some ⟨oc14, od14, .func (PySem.W.fnOf "_law_bag" "_law_bag" (defArgs s__law_bag) (defBody s__law_bag) (defScope s__law_bag) .none kV14 dc14 pm14 an14 cd14 ct14), sl14⟩)
    (c14 : PySem.W.codeIn K cd14 "_law_bag" = true)
    (k14 : PySem.W.keepIn K (.ref f14) = true)
    (a15 : PySem.W.nsIn K mainGlobals "_law_draw" = some (some (.ref f15)))
    (l15 : K.lookup f15 = some ⟨oc15, od15, .func (PySem.W.fnOf "_law_draw" "_law_draw" (defArgs s__law_draw) (defBody s__law_draw) (defScope s__law_draw) .none kV15 dc15 pm15 an15 cd15 ct15), sl15⟩)
    (c15 : PySem.W.codeIn K cd15 "_law_draw" = true)
    (k15 : PySem.W.keepIn K (.ref f15) = true)
    (a16 : PySem.W.nsIn K mainGlobals "_law_of" = some (some (.ref f16)))
    (l16 : K.lookup f16 = some ⟨oc16, od16, .func (PySem.W.fnOf "_law_of" "_law_of" (defArgs s__law_of) (defBody s__law_of) (defScope s__law_of) .none kV16 dc16 pm16 an16 cd16 ct16), sl16⟩)
    (c16 : PySem.W.codeIn K cd16 "_law_of" = true)
    (k16 : PySem.W.keepIn K (.ref f16) = true)
    (a17 : PySem.W.nsIn K mainGlobals "_law_order" = some (some (.ref f17)))
    (l17 : K.lookup f17 = some ⟨oc17, od17, .func (PySem.W.fnOf "_law_order" "_law_order" (defArgs s__law_order) (defBody s__law_order) (defScope s__law_order) .none kV17 dc17 pm17 an17 cd17 ct17), sl17⟩)
    (c17 : PySem.W.codeIn K cd17 "_law_order" = true)
    (k17 : PySem.W.keepIn K (.ref f17) = true)
    (a18 : PySem.W.nsIn K mainGlobals "_law_halls" = some (some (.ref f18)))
    (l18 : K.lookup f18 = some ⟨oc18, od18, .func (PySem.W.fnOf "_law_halls" "_law_halls" (defArgs s__law_halls) (defBody s__law_halls) (defScope s__law_halls) .none kV18 dc18 pm18 an18 cd18 ct18), sl18⟩)
    (c18 : PySem.W.codeIn K cd18 "_law_halls" = true)
    (k18 : PySem.W.keepIn K (.ref f18) = true)
    (a19 : PySem.W.nsIn K mainGlobals "_law_along" = some (some (.ref f19)))
    (l19 : K.lookup f19 = some ⟨oc19, od19, .func (PySem.W.fnOf "_law_along" "_law_along" (defArgs s__law_along) (defBody s__law_along) (defScope s__law_along) .none kV19 dc19 pm19 an19 cd19 ct19), sl19⟩)
    (c19 : PySem.W.codeIn K cd19 "_law_along" = true)
    (k19 : PySem.W.keepIn K (.ref f19) = true)
    (a20 : PySem.W.nsIn K mainGlobals "_law_covered" = some (some (.ref f20)))
    (l20 : K.lookup f20 = some ⟨oc20, od20, .func (PySem.W.fnOf "_law_covered" "_law_covered" (defArgs s__law_covered) (defBody s__law_covered) (defScope s__law_covered) .none kV20 dc20 pm20 an20 cd20 ct20), sl20⟩)
    (c20 : PySem.W.codeIn K cd20 "_law_covered" = true)
    (k20 : PySem.W.keepIn K (.ref f20) = true)
    (a21 : PySem.W.nsIn K mainGlobals "_law_room_halls" = some (some (.ref f21)))
    (l21 : K.lookup f21 = some ⟨oc21, od21, .func (PySem.W.fnOf "_law_room_halls" "_law_room_halls" (defArgs s__law_room_halls) (defBody s__law_room_halls) (defScope s__law_room_halls) .none kV21 dc21 pm21 an21 cd21 ct21), sl21⟩)
    (c21 : PySem.W.codeIn K cd21 "_law_room_halls" = true)
    (k21 : PySem.W.keepIn K (.ref f21) = true)
    (a22 : PySem.W.nsIn K mainGlobals "_law_stripped" = some (some (.ref f22)))
    (l22 : K.lookup f22 = some ⟨oc22, od22, .func (PySem.W.fnOf "_law_stripped" "_law_stripped" (defArgs s__law_stripped) (defBody s__law_stripped) (defScope s__law_stripped) .none kV22 dc22 pm22 an22 cd22 ct22), sl22⟩)
    (c22 : PySem.W.codeIn K cd22 "_law_stripped" = true)
    (k22 : PySem.W.keepIn K (.ref f22) = true)
    (a23 : PySem.W.nsIn K mainGlobals "_law_kept" = some (some (.ref f23)))
    (l23 : K.lookup f23 = some ⟨oc23, od23, .func (PySem.W.fnOf "_law_kept" "_law_kept" (defArgs s__law_kept) (defBody s__law_kept) (defScope s__law_kept) .none kV23 dc23 pm23 an23 cd23 ct23), sl23⟩)
    (c23 : PySem.W.codeIn K cd23 "_law_kept" = true)
    (k23 : PySem.W.keepIn K (.ref f23) = true)
    (a24 : PySem.W.nsIn K mainGlobals "_law_least" = some (some (.ref f24)))
    (l24 : K.lookup f24 = some ⟨oc24, od24, .func (PySem.W.fnOf "_law_least" "_law_least" (defArgs s__law_least) (defBody s__law_least) (defScope s__law_least) .none kV24 dc24 pm24 an24 cd24 ct24), sl24⟩)
    (c24 : PySem.W.codeIn K cd24 "_law_least" = true)
    (k24 : PySem.W.keepIn K (.ref f24) = true)
    (a25 : PySem.W.nsIn K mainGlobals "_law_held" = some (some (.ref f25)))
    (l25 : K.lookup f25 = some ⟨oc25, od25, .func (PySem.W.fnOf "_law_held" "_law_held" (defArgs s__law_held) (defBody s__law_held) (defScope s__law_held) .none kV25 dc25 pm25 an25 cd25 ct25), sl25⟩)
    (c25 : PySem.W.codeIn K cd25 "_law_held" = true)
    (k25 : PySem.W.keepIn K (.ref f25) = true)
    (a26 : PySem.W.nsIn K mainGlobals "_law_class_web" = some (some (.ref f26)))
    (l26 : K.lookup f26 = some ⟨oc26, od26, .func (PySem.W.fnOf "_law_class_web" "_law_class_web" (defArgs s__law_class_web) (defBody s__law_class_web) (defScope s__law_class_web) .none kV26 dc26 pm26 an26 cd26 ct26), sl26⟩)
    (c26 : PySem.W.codeIn K cd26 "_law_class_web" = true)
    (k26 : PySem.W.keepIn K (.ref f26) = true)
    (a27 : PySem.W.nsIn K mainGlobals "_law_cells" = some (some (.ref f27)))
    (l27 : K.lookup f27 = some ⟨oc27, od27, .func (PySem.W.fnOf "_law_cells" "_law_cells" (defArgs s__law_cells) (defBody s__law_cells) (defScope s__law_cells) .none kV27 dc27 pm27 an27 cd27 ct27), sl27⟩)
    (c27 : PySem.W.codeIn K cd27 "_law_cells" = true)
    (k27 : PySem.W.keepIn K (.ref f27) = true)
    (a28 : PySem.W.nsIn K mainGlobals "_law_like" = some (some (.ref f28)))
    (l28 : K.lookup f28 = some ⟨oc28, od28, .func (PySem.W.fnOf "_law_like" "_law_like" (defArgs s__law_like) (defBody s__law_like) (defScope s__law_like) .none kV28 dc28 pm28 an28 cd28 ct28), sl28⟩)
    (c28 : PySem.W.codeIn K cd28 "_law_like" = true)
    (k28 : PySem.W.keepIn K (.ref f28) = true)
    (a29 : PySem.W.nsIn K mainGlobals "_law_letters" = some (some (.ref f29)))
    (l29 : K.lookup f29 = some ⟨oc29, od29, .func (PySem.W.fnOf "_law_letters" "_law_letters" (defArgs s__law_letters) (defBody s__law_letters) (defScope s__law_letters) .none kV29 dc29 pm29 an29 cd29 ct29), sl29⟩)
    (c29 : PySem.W.codeIn K cd29 "_law_letters" = true)
    (k29 : PySem.W.keepIn K (.ref f29) = true)
    (a30 : PySem.W.nsIn K mainGlobals "_law_bent" = some (some (.ref f30)))
    (l30 : K.lookup f30 = some ⟨oc30, od30, .func (PySem.W.fnOf "_law_bent" "_law_bent" (defArgs s__law_bent) (defBody s__law_bent) (defScope s__law_bent) .none kV30 dc30 pm30 an30 cd30 ct30), sl30⟩)
    (c30 : PySem.W.codeIn K cd30 "_law_bent" = true)
    (k30 : PySem.W.keepIn K (.ref f30) = true)
    (a31 : PySem.W.nsIn K mainGlobals "_law_stepped" = some (some (.ref f31)))
    (l31 : K.lookup f31 = some ⟨oc31, od31, .func (PySem.W.fnOf "_law_stepped" "_law_stepped" (defArgs s__law_stepped) (defBody s__law_stepped) (defScope s__law_stepped) .none kV31 dc31 pm31 an31 cd31 ct31), sl31⟩)
    (c31 : PySem.W.codeIn K cd31 "_law_stepped" = true)
    (k31 : PySem.W.keepIn K (.ref f31) = true)
    (a32 : PySem.W.nsIn K mainGlobals "_law_word_right" = some (some (.ref f32)))
    (l32 : K.lookup f32 = some ⟨oc32, od32, .func (PySem.W.fnOf "_law_word_right" "_law_word_right" (defArgs s__law_word_right) (defBody s__law_word_right) (defScope s__law_word_right) .none kV32 dc32 pm32 an32 cd32 ct32), sl32⟩)
    (c32 : PySem.W.codeIn K cd32 "_law_word_right" = true)
    (k32 : PySem.W.keepIn K (.ref f32) = true)
    (a33 : PySem.W.nsIn K mainGlobals "_law_right" = some (some (.ref f33)))
    (l33 : K.lookup f33 = some ⟨oc33, od33, .func (PySem.W.fnOf "_law_right" "_law_right" (defArgs s__law_right) (defBody s__law_right) (defScope s__law_right) .none kV33 dc33 pm33 an33 cd33 ct33), sl33⟩)
    (c33 : PySem.W.codeIn K cd33 "_law_right" = true)
    (k33 : PySem.W.keepIn K (.ref f33) = true)
    (a34 : PySem.W.nsIn K mainGlobals "_law_asked" = some (some (.ref f34)))
    (l34 : K.lookup f34 = some ⟨oc34, od34, .func (PySem.W.fnOf "_law_asked" "_law_asked" (defArgs s__law_asked) (defBody s__law_asked) (defScope s__law_asked) .none kV34 dc34 pm34 an34 cd34 ct34), sl34⟩)
    (c34 : PySem.W.codeIn K cd34 "_law_asked" = true)
    (k34 : PySem.W.keepIn K (.ref f34) = true)
    (a35 : PySem.W.nsIn K mainGlobals "law" = some (some (.ref f35)))
    (l35 : K.lookup f35 = some ⟨oc35, od35, .func (PySem.W.fnOf "law" "law" (defArgs s_law) (defBody s_law) (defScope s_law) .none kV35 dc35 pm35 an35 cd35 ct35), sl35⟩)
    (c35 : PySem.W.codeIn K cd35 "law" = true)
    (k35 : PySem.W.keepIn K (.ref f35) = true)
    (pg_RoomBook : PySem.W.plainGet K C_RoomBook Str.empty = true)
    (hd_RoomBook : PySem.W.hasDictIn K C_RoomBook = true)
    (po_RoomBook : PySem.W.plainOver K C_RoomBook = true)
    (sa_RoomBook : PySem.W.findIn K (.ref C_RoomBook) "__setattr__" = some (some (.builtin "object.__setattr__")))
    (mk_RoomBook : PySem.W.makesIn K C_RoomBook = true)
    (kc_RoomBook : PySem.W.keepIn K (.ref C_RoomBook) = true)
    (na_RoomBook__walker : PySem.W.findIn K (.ref C_RoomBook) "_walker" = some none)
    (na_RoomBook__rooms : PySem.W.findIn K (.ref C_RoomBook) "_rooms" = some none)
    (z_abs : PySem.W.nsIn K mainGlobals "abs" = some none)
    (z_all : PySem.W.nsIn K mainGlobals "all" = some none)
    (z_any : PySem.W.nsIn K mainGlobals "any" = some none)
    (z_bool : PySem.W.nsIn K mainGlobals "bool" = some none)
    (z_dict : PySem.W.nsIn K mainGlobals "dict" = some none)
    (z_enumerate : PySem.W.nsIn K mainGlobals "enumerate" = some none)
    (z_int : PySem.W.nsIn K mainGlobals "int" = some none)
    (z_isinstance : PySem.W.nsIn K mainGlobals "isinstance" = some none)
    (z_len : PySem.W.nsIn K mainGlobals "len" = some none)
    (z_list : PySem.W.nsIn K mainGlobals "list" = some none)
    (z_range : PySem.W.nsIn K mainGlobals "range" = some none)
    (z_str : PySem.W.nsIn K mainGlobals "str" = some none)
    (z_tuple : PySem.W.nsIn K mainGlobals "tuple" = some none)
    (z_zip : PySem.W.nsIn K mainGlobals "zip" = some none) :
    ∃ fd : FuncData, (∀ (s : Shared) (v : Value), BindsTo s fd ⟨[v], []⟩ [("script", v)]) ∧ ∀ base : Heap, K.In base → base.Ns mainGlobals mg → FnOk l.prog w K mg base CX0 10 fa fd ["script"] (lift K 1 sp_law) := by
  have e := hfa.symm.trans (PySem.W.mg_of X G a35)
  cases e
  have F0 := fun_mk (st := s_first_walk) l0 c0 k0
  have b0 := F0.binds (ps := ["after", "start"]) fun _ _ _ _ _ _ us hl => match us, hl with | [_, _], _ => rfl
  have F1 := fun_mk (st := s_walked) l1 c1 k1
  have b1 := F1.binds (ps := ["after", "start", "letters"]) fun _ _ _ _ _ _ us hl => match us, hl with | [_, _, _], _ => rfl
  have F2 := fun_mk (st := s_shortest_way) l2 c2 k2
  have b2 := F2.binds (ps := ["steps", "start", "goals"]) fun _ _ _ _ _ _ us hl => match us, hl with | [_, _, _], _ => rfl
  have F3 := fun_mk (st := s_way_back) l3 c3 k3
  have b3 := F3.binds (ps := ["came", "end"]) fun _ _ _ _ _ _ us hl => match us, hl with | [_, _], _ => rfl
  have F4 := fun_mk (st := s_stepped) l4 c4 k4
  have b4 := F4.binds (ps := ["rooms", "alive", "letters"]) fun _ _ _ _ _ _ us hl => match us, hl with | [_, _, _], _ => rfl
  have F5 := fun_mk (st := s_holds_row) l5 c5 k5
  have b5 := F5.binds (ps := ["walker", "rooms", "at_class", "beginning", "period"]) fun _ _ _ _ _ _ us hl => match us, hl with | [_, _, _, _, _], _ => rfl
  have F6 := fun_mk (st := s_inner_steps) l6 c6 k6
  have b6 := F6.binds (ps := ["rooms", "room"]) fun _ _ _ _ _ _ us hl => match us, hl with | [_, _], _ => rfl
  have F7 := fun_mk (st := s_killing_loop) l7 c7 k7
  have b7 := F7.binds (ps := ["steps", "room", "rooms", "start"]) fun _ _ _ _ _ _ us hl => match us, hl with | [_, _, _, _], _ => rfl
  have F8 := fun_mk (st := s_killing_or_room) l8 c8 k8
  have b8 := F8.binds (ps := ["rooms", "others", "room"]) fun _ _ _ _ _ _ us hl => match us, hl with | [_, _, _], _ => rfl
  have F9 := fun_mk (st := s_RoomBook___init__) l9 c9 k9
  have b9 := F9.binds (ps := ["self", "walker", "rooms"]) fun _ _ _ _ _ _ us hl => match us, hl with | [_, _, _], _ => rfl
  have F10 := fun_mk (st := s_RoomBook_walker) l10 c10 k10
  have b10 := F10.binds (ps := ["self"]) fun _ _ _ _ _ _ us hl => match us, hl with | [_], _ => rfl
  have F11 := fun_mk (st := s_RoomBook_rooms) l11 c11 k11
  have b11 := F11.binds (ps := ["self"]) fun _ _ _ _ _ _ us hl => match us, hl with | [_], _ => rfl
  have F12 := fun_mk (st := s_is_held) l12 c12 k12
  have b12 := F12.binds (ps := ["book", "at_class", "beginning", "period"]) fun _ _ _ _ _ _ us hl => match us, hl with | [_, _, _, _], _ => rfl
  have F13 := fun_mk (st := s_killing_word) l13 c13 k13
  have b13 := F13.binds (ps := ["book", "other", "room"]) fun _ _ _ _ _ _ us hl => match us, hl with | [_, _, _], _ => rfl
  have F14 := fun_mk (st := s__law_bag) l14 c14 k14
  have b14 := F14.binds (ps := ["script"]) fun _ _ _ _ _ _ us hl => match us, hl with | [_], _ => rfl
  have F15 := fun_mk (st := s__law_draw) l15 c15 k15
  have b15 := F15.binds (ps := ["bag", "sides"]) fun _ _ _ _ _ _ us hl => match us, hl with | [_, _], _ => rfl
  have F16 := fun_mk (st := s__law_of) l16 c16 k16
  have b16 := F16.binds (ps := ["bag", "things"]) fun _ _ _ _ _ _ us hl => match us, hl with | [_, _], _ => rfl
  have F17 := fun_mk (st := s__law_order) l17 c17 k17
  have b17 := F17.binds (ps := ["steps"]) fun _ _ _ _ _ _ us hl => match us, hl with | [_], _ => rfl
  have F18 := fun_mk (st := s__law_halls) l18 c18 k18
  have b18 := F18.binds (ps := ["steps"]) fun _ _ _ _ _ _ us hl => match us, hl with | [_], _ => rfl
  have F19 := fun_mk (st := s__law_along) l19 c19 k19
  have b19 := F19.binds (ps := ["web", "spot", "path"]) fun _ _ _ _ _ _ us hl => match us, hl with | [_, _, _], _ => rfl
  have F20 := fun_mk (st := s__law_covered) l20 c20 k20
  have b20 := F20.binds (ps := ["ours", "p", "yours", "q"]) fun _ _ _ _ _ _ us hl => match us, hl with | [_, _, _, _], _ => rfl
  have F21 := fun_mk (st := s__law_room_halls) l21 c21 k21
  have b21 := F21.binds (ps := ["cells"]) fun _ _ _ _ _ _ us hl => match us, hl with | [_], _ => rfl
  have F22 := fun_mk (st := s__law_stripped) l22 c22 k22
  have b22 := F22.binds (ps := ["cells"]) fun _ _ _ _ _ _ us hl => match us, hl with | [_], _ => rfl
  have F23 := fun_mk (st := s__law_kept) l23 c23 k23
  have b23 := F23.binds (ps := ["cells", "spots"]) fun _ _ _ _ _ _ us hl => match us, hl with | [_, _], _ => rfl
  have F24 := fun_mk (st := s__law_least) l24 c24 k24
  have b24 := F24.binds (ps := ["cells"]) fun _ _ _ _ _ _ us hl => match us, hl with | [_], _ => rfl
  have F25 := fun_mk (st := s__law_held) l25 c25 k25
  have b25 := F25.binds (ps := ["web", "cells", "spot", "lead", "turn"]) fun _ _ _ _ _ _ us hl => match us, hl with | [_, _, _, _, _], _ => rfl
  have F26 := fun_mk (st := s__law_class_web) l26 c26 k26
  have b26 := F26.binds (ps := ["bag", "many"]) fun _ _ _ _ _ _ us hl => match us, hl with | [_, _], _ => rfl
  have F27 := fun_mk (st := s__law_cells) l27 c27 k27
  have b27 := F27.binds (ps := ["bag", "web", "count"]) fun _ _ _ _ _ _ us hl => match us, hl with | [_, _, _], _ => rfl
  have F28 := fun_mk (st := s__law_like) l28 c28 k28
  have b28 := F28.binds (ps := ["found", "due"]) fun _ _ _ _ _ _ us hl => match us, hl with | [_, _], _ => rfl
  have F29 := fun_mk (st := s__law_letters) l29 c29 k29
  have b29 := F29.binds (ps := ["found", "many"]) fun _ _ _ _ _ _ us hl => match us, hl with | [_, _], _ => rfl
  have F30 := fun_mk (st := s__law_bent) l30 c30 k30
  have b30 := F30.binds (ps := ["bag", "web", "cells"]) fun _ _ _ _ _ _ us hl => match us, hl with | [_, _, _], _ => rfl
  have F31 := fun_mk (st := s__law_stepped) l31 c31 k31
  have b31 := F31.binds (ps := ["cells", "p", "path"]) fun _ _ _ _ _ _ us hl => match us, hl with | [_, _, _], _ => rfl
  have F32 := fun_mk (st := s__law_word_right) l32 c32 k32
  have b32 := F32.binds (ps := ["web", "tome", "mine", "far", "theirs", "p", "path"]) fun _ _ _ _ _ _ us hl => match us, hl with | [_, _, _, _, _, _, _], _ => rfl
  have F33 := fun_mk (st := s__law_right) l33 c33 k33
  have b33 := F33.binds (ps := ["web", "tome", "mine", "far", "theirs", "p", "told"]) fun _ _ _ _ _ _ us hl => match us, hl with | [_, _, _, _, _, _, _], _ => rfl
  have F34 := fun_mk (st := s__law_asked) l34 c34 k34
  have b34 := F34.binds (ps := ["web", "mine", "theirs"]) fun _ _ _ _ _ _ us hl => match us, hl with | [_, _, _], _ => rfl
  have F35 := fun_mk (st := s_law) l35 c35 k35
  have b35 := F35.binds (ps := ["script"]) fun _ _ _ _ _ _ us hl => match us, hl with | [_], _ => rfl
  have CL_RoomBook : Cls K C_RoomBook := ⟨pg_RoomBook, hd_RoomBook, po_RoomBook, sa_RoomBook⟩
  have T : TX K mg ⟨f0, (PySem.W.fnOf "first_walk" "first_walk" (defArgs s_first_walk) (defBody s_first_walk) (defScope s_first_walk) .none kV0 dc0 pm0 an0 cd0 ct0), f1, (PySem.W.fnOf "walked" "walked" (defArgs s_walked) (defBody s_walked) (defScope s_walked) .none kV1 dc1 pm1 an1 cd1 ct1), f2, (PySem.W.fnOf "shortest_way" "shortest_way" (defArgs s_shortest_way) (defBody s_shortest_way) (defScope s_shortest_way) .none kV2 dc2 pm2 an2 cd2 ct2), f3, (PySem.W.fnOf "way_back" "way_back" (defArgs s_way_back) (defBody s_way_back) (defScope s_way_back) .none kV3 dc3 pm3 an3 cd3 ct3), f4, (PySem.W.fnOf "stepped" "stepped" (defArgs s_stepped) (defBody s_stepped) (defScope s_stepped) .none kV4 dc4 pm4 an4 cd4 ct4), f5, (PySem.W.fnOf "holds_row" "holds_row" (defArgs s_holds_row) (defBody s_holds_row) (defScope s_holds_row) .none kV5 dc5 pm5 an5 cd5 ct5), f6, (PySem.W.fnOf "inner_steps" "inner_steps" (defArgs s_inner_steps) (defBody s_inner_steps) (defScope s_inner_steps) .none kV6 dc6 pm6 an6 cd6 ct6), f7, (PySem.W.fnOf "killing_loop" "killing_loop" (defArgs s_killing_loop) (defBody s_killing_loop) (defScope s_killing_loop) .none kV7 dc7 pm7 an7 cd7 ct7), f8, (PySem.W.fnOf "killing_or_room" "killing_or_room" (defArgs s_killing_or_room) (defBody s_killing_or_room) (defScope s_killing_or_room) .none kV8 dc8 pm8 an8 cd8 ct8), f9, (PySem.W.fnOf "__init__" "RoomBook.__init__" (defArgs s_RoomBook___init__) (defBody s_RoomBook___init__) (defScope s_RoomBook___init__) .none kV9 dc9 pm9 an9 cd9 ct9), f10, (PySem.W.fnOf "walker" "RoomBook.walker" (defArgs s_RoomBook_walker) (defBody s_RoomBook_walker) (defScope s_RoomBook_walker) .none kV10 dc10 pm10 an10 cd10 ct10), f11, (PySem.W.fnOf "rooms" "RoomBook.rooms" (defArgs s_RoomBook_rooms) (defBody s_RoomBook_rooms) (defScope s_RoomBook_rooms) .none kV11 dc11 pm11 an11 cd11 ct11), f12, (PySem.W.fnOf "is_held" "is_held" (defArgs s_is_held) (defBody s_is_held) (defScope s_is_held) .none kV12 dc12 pm12 an12 cd12 ct12), f13, (PySem.W.fnOf "killing_word" "killing_word" (defArgs s_killing_word) (defBody s_killing_word) (defScope s_killing_word) .none kV13 dc13 pm13 an13 cd13 ct13), f14, (PySem.W.fnOf "_law_bag" "_law_bag" (defArgs s__law_bag) (defBody s__law_bag) (defScope s__law_bag) .none kV14 dc14 pm14 an14 cd14 ct14), f15, (PySem.W.fnOf "_law_draw" "_law_draw" (defArgs s__law_draw) (defBody s__law_draw) (defScope s__law_draw) .none kV15 dc15 pm15 an15 cd15 ct15), f16, (PySem.W.fnOf "_law_of" "_law_of" (defArgs s__law_of) (defBody s__law_of) (defScope s__law_of) .none kV16 dc16 pm16 an16 cd16 ct16), f17, (PySem.W.fnOf "_law_order" "_law_order" (defArgs s__law_order) (defBody s__law_order) (defScope s__law_order) .none kV17 dc17 pm17 an17 cd17 ct17), f18, (PySem.W.fnOf "_law_halls" "_law_halls" (defArgs s__law_halls) (defBody s__law_halls) (defScope s__law_halls) .none kV18 dc18 pm18 an18 cd18 ct18), f19, (PySem.W.fnOf "_law_along" "_law_along" (defArgs s__law_along) (defBody s__law_along) (defScope s__law_along) .none kV19 dc19 pm19 an19 cd19 ct19), f20, (PySem.W.fnOf "_law_covered" "_law_covered" (defArgs s__law_covered) (defBody s__law_covered) (defScope s__law_covered) .none kV20 dc20 pm20 an20 cd20 ct20), f21, (PySem.W.fnOf "_law_room_halls" "_law_room_halls" (defArgs s__law_room_halls) (defBody s__law_room_halls) (defScope s__law_room_halls) .none kV21 dc21 pm21 an21 cd21 ct21), f22, (PySem.W.fnOf "_law_stripped" "_law_stripped" (defArgs s__law_stripped) (defBody s__law_stripped) (defScope s__law_stripped) .none kV22 dc22 pm22 an22 cd22 ct22), f23, (PySem.W.fnOf "_law_kept" "_law_kept" (defArgs s__law_kept) (defBody s__law_kept) (defScope s__law_kept) .none kV23 dc23 pm23 an23 cd23 ct23), f24, (PySem.W.fnOf "_law_least" "_law_least" (defArgs s__law_least) (defBody s__law_least) (defScope s__law_least) .none kV24 dc24 pm24 an24 cd24 ct24), f25, (PySem.W.fnOf "_law_held" "_law_held" (defArgs s__law_held) (defBody s__law_held) (defScope s__law_held) .none kV25 dc25 pm25 an25 cd25 ct25), f26, (PySem.W.fnOf "_law_class_web" "_law_class_web" (defArgs s__law_class_web) (defBody s__law_class_web) (defScope s__law_class_web) .none kV26 dc26 pm26 an26 cd26 ct26), f27, (PySem.W.fnOf "_law_cells" "_law_cells" (defArgs s__law_cells) (defBody s__law_cells) (defScope s__law_cells) .none kV27 dc27 pm27 an27 cd27 ct27), f28, (PySem.W.fnOf "_law_like" "_law_like" (defArgs s__law_like) (defBody s__law_like) (defScope s__law_like) .none kV28 dc28 pm28 an28 cd28 ct28), f29, (PySem.W.fnOf "_law_letters" "_law_letters" (defArgs s__law_letters) (defBody s__law_letters) (defScope s__law_letters) .none kV29 dc29 pm29 an29 cd29 ct29), f30, (PySem.W.fnOf "_law_bent" "_law_bent" (defArgs s__law_bent) (defBody s__law_bent) (defScope s__law_bent) .none kV30 dc30 pm30 an30 cd30 ct30), f31, (PySem.W.fnOf "_law_stepped" "_law_stepped" (defArgs s__law_stepped) (defBody s__law_stepped) (defScope s__law_stepped) .none kV31 dc31 pm31 an31 cd31 ct31), f32, (PySem.W.fnOf "_law_word_right" "_law_word_right" (defArgs s__law_word_right) (defBody s__law_word_right) (defScope s__law_word_right) .none kV32 dc32 pm32 an32 cd32 ct32), f33, (PySem.W.fnOf "_law_right" "_law_right" (defArgs s__law_right) (defBody s__law_right) (defScope s__law_right) .none kV33 dc33 pm33 an33 cd33 ct33), f34, (PySem.W.fnOf "_law_asked" "_law_asked" (defArgs s__law_asked) (defBody s__law_asked) (defScope s__law_asked) .none kV34 dc34 pm34 an34 cd34 ct34), fa, (PySem.W.fnOf "law" "law" (defArgs s_law) (defBody s_law) (defScope s_law) .none kV35 dc35 pm35 an35 cd35 ct35), C_RoomBook⟩ := {
    fn_first_walk := F0,
    bd_first_walk := b0,
    mg_first_walk := PySem.W.mg_of X G a0,
    kp_first_walk := k0,
    fn_walked := F1,
    bd_walked := b1,
    mg_walked := PySem.W.mg_of X G a1,
    kp_walked := k1,
    fn_shortest_way := F2,
    bd_shortest_way := b2,
    mg_shortest_way := PySem.W.mg_of X G a2,
    kp_shortest_way := k2,
    fn_way_back := F3,
    bd_way_back := b3,
    mg_way_back := PySem.W.mg_of X G a3,
    kp_way_back := k3,
    fn_stepped := F4,
    bd_stepped := b4,
    mg_stepped := PySem.W.mg_of X G a4,
    kp_stepped := k4,
    fn_holds_row := F5,
    bd_holds_row := b5,
    mg_holds_row := PySem.W.mg_of X G a5,
    kp_holds_row := k5,
    fn_inner_steps := F6,
    bd_inner_steps := b6,
    mg_inner_steps := PySem.W.mg_of X G a6,
    kp_inner_steps := k6,
    fn_killing_loop := F7,
    bd_killing_loop := b7,
    mg_killing_loop := PySem.W.mg_of X G a7,
    kp_killing_loop := k7,
    fn_killing_or_room := F8,
    bd_killing_or_room := b8,
    mg_killing_or_room := PySem.W.mg_of X G a8,
    kp_killing_or_room := k8,
    fn_RoomBook___init__ := F9,
    bd_RoomBook___init__ := b9,
    fn_RoomBook_walker := F10,
    bd_RoomBook_walker := b10,
    me_RoomBook_walker := ⟨a10, i10, k10⟩,
    fn_RoomBook_rooms := F11,
    bd_RoomBook_rooms := b11,
    me_RoomBook_rooms := ⟨a11, i11, k11⟩,
    fn_is_held := F12,
    bd_is_held := b12,
    mg_is_held := PySem.W.mg_of X G a12,
    kp_is_held := k12,
    fn_killing_word := F13,
    bd_killing_word := b13,
    mg_killing_word := PySem.W.mg_of X G a13,
    kp_killing_word := k13,
    fn__law_bag := F14,
    bd__law_bag := b14,
    mg__law_bag := PySem.W.mg_of X G a14,
    kp__law_bag := k14,
    fn__law_draw := F15,
    bd__law_draw := b15,
    mg__law_draw := PySem.W.mg_of X G a15,
    kp__law_draw := k15,
    fn__law_of := F16,
    bd__law_of := b16,
    mg__law_of := PySem.W.mg_of X G a16,
    kp__law_of := k16,
    fn__law_order := F17,
    bd__law_order := b17,
    mg__law_order := PySem.W.mg_of X G a17,
    kp__law_order := k17,
    fn__law_halls := F18,
    bd__law_halls := b18,
    mg__law_halls := PySem.W.mg_of X G a18,
    kp__law_halls := k18,
    fn__law_along := F19,
    bd__law_along := b19,
    mg__law_along := PySem.W.mg_of X G a19,
    kp__law_along := k19,
    fn__law_covered := F20,
    bd__law_covered := b20,
    mg__law_covered := PySem.W.mg_of X G a20,
    kp__law_covered := k20,
    fn__law_room_halls := F21,
    bd__law_room_halls := b21,
    mg__law_room_halls := PySem.W.mg_of X G a21,
    kp__law_room_halls := k21,
    fn__law_stripped := F22,
    bd__law_stripped := b22,
    mg__law_stripped := PySem.W.mg_of X G a22,
    kp__law_stripped := k22,
    fn__law_kept := F23,
    bd__law_kept := b23,
    mg__law_kept := PySem.W.mg_of X G a23,
    kp__law_kept := k23,
    fn__law_least := F24,
    bd__law_least := b24,
    mg__law_least := PySem.W.mg_of X G a24,
    kp__law_least := k24,
    fn__law_held := F25,
    bd__law_held := b25,
    mg__law_held := PySem.W.mg_of X G a25,
    kp__law_held := k25,
    fn__law_class_web := F26,
    bd__law_class_web := b26,
    mg__law_class_web := PySem.W.mg_of X G a26,
    kp__law_class_web := k26,
    fn__law_cells := F27,
    bd__law_cells := b27,
    mg__law_cells := PySem.W.mg_of X G a27,
    kp__law_cells := k27,
    fn__law_like := F28,
    bd__law_like := b28,
    mg__law_like := PySem.W.mg_of X G a28,
    kp__law_like := k28,
    fn__law_letters := F29,
    bd__law_letters := b29,
    mg__law_letters := PySem.W.mg_of X G a29,
    kp__law_letters := k29,
    fn__law_bent := F30,
    bd__law_bent := b30,
    mg__law_bent := PySem.W.mg_of X G a30,
    kp__law_bent := k30,
    fn__law_stepped := F31,
    bd__law_stepped := b31,
    mg__law_stepped := PySem.W.mg_of X G a31,
    kp__law_stepped := k31,
    fn__law_word_right := F32,
    bd__law_word_right := b32,
    mg__law_word_right := PySem.W.mg_of X G a32,
    kp__law_word_right := k32,
    fn__law_right := F33,
    bd__law_right := b33,
    mg__law_right := PySem.W.mg_of X G a33,
    kp__law_right := k33,
    fn__law_asked := F34,
    bd__law_asked := b34,
    mg__law_asked := PySem.W.mg_of X G a34,
    kp__law_asked := k34,
    fn_law := F35,
    bd_law := b35,
    mg_law := PySem.W.mg_of X G a35,
    kp_law := k35,
    mg_RoomBook := PySem.W.mg_of X G aC_RoomBook,
    cl_RoomBook := CL_RoomBook,
    mk_RoomBook := ⟨mk_RoomBook, a9, i9, kc_RoomBook⟩,
    na_RoomBook__walker := na_RoomBook__walker,
    na_RoomBook__rooms := na_RoomBook__rooms,
    b_abs := PySem.W.mg_none_of X G z_abs,
    b_all := PySem.W.mg_none_of X G z_all,
    b_any := PySem.W.mg_none_of X G z_any,
    b_bool := PySem.W.mg_none_of X G z_bool,
    b_dict := PySem.W.mg_none_of X G z_dict,
    b_enumerate := PySem.W.mg_none_of X G z_enumerate,
    b_int := PySem.W.mg_none_of X G z_int,
    b_isinstance := PySem.W.mg_none_of X G z_isinstance,
    b_len := PySem.W.mg_none_of X G z_len,
    b_list := PySem.W.mg_none_of X G z_list,
    b_range := PySem.W.mg_none_of X G z_range,
    b_str := PySem.W.mg_none_of X G z_str,
    b_tuple := PySem.W.mg_none_of X G z_tuple,
    b_zip := PySem.W.mg_none_of X G z_zip,
    kb_killing_word_k_0_room_other_book := kbn_killing_word_k_0_room_other_book }
  exact ⟨(PySem.W.fnOf "law" "law" (defArgs s_law) (defBody s_law) (defScope s_law) .none kV35 dc35 pm35 an35 cd35 ct35), fun s v => .of_eq rfl, fun base _ _ => ok_law T⟩

end
end L29

end

open PySem PySem.W PyProof.Rows
set_option maxHeartbeats 0 in
theorem PySem.Challenge.cw_sameforever_k30_whole_killing_words_holds : PySem.Challenge.rw_sameforever_k30_whole_killing_words.Holds := by
  w_on; o_law; k_head; (case hw => w_witness2)
  k_fill
  refine L2.walk_of (l := PySem.Challenge.rw_sameforever_k30_whole_killing_words) (n := 63) (k := 10) (x := "script") (CX := fun _ => L2.CX0) (sp := fun w => DL.lift _ 1 L29.sp_law) rfl (by decide) rfl ⟨rfl, by decide, by decide⟩ (fun w h Y => PySem.W.kIn_of Y) ?F (fun w H a ns hl hO hS => L29.law_in hl hO hS) (fun _ _ _ _ _ h => h)
  case F =>
    intro w mg fa h KX G hmg
    refine' L29.all_mk KX G hmg ?aC_RoomBook ?a0 ?l0 ?c0 ?k0 ?a1 ?l1 ?c1 ?k1 ?a2 ?l2 ?c2 ?k2 ?a3 ?l3 ?c3 ?k3 ?a4 ?l4 ?c4 ?k4 ?a5 ?l5 ?c5 ?k5 ?a6 ?l6 ?c6 ?k6 ?a7 ?l7 ?c7 ?k7 ?a8 ?l8 ?c8 ?k8 ?a9 ?i9 ?l9 ?c9 ?k9 ?a10 ?i10 ?l10 ?c10 ?k10 ?a11 ?i11 ?l11 ?c11 ?k11 ?a12 ?l12 ?c12 ?k12 ?a13 ?l13 ?c13 ?k13 ?a14 ?l14 ?c14 ?k14 ?a15 ?l15 ?c15 ?k15 ?a16 ?l16 ?c16 ?k16 ?a17 ?l17 ?c17 ?k17 ?a18 ?l18 ?c18 ?k18 ?a19 ?l19 ?c19 ?k19 ?a20 ?l20 ?c20 ?k20 ?a21 ?l21 ?c21 ?k21 ?a22 ?l22 ?c22 ?k22 ?a23 ?l23 ?c23 ?k23 ?a24 ?l24 ?c24 ?k24 ?a25 ?l25 ?c25 ?k25 ?a26 ?l26 ?c26 ?k26 ?a27 ?l27 ?c27 ?k27 ?a28 ?l28 ?c28 ?k28 ?a29 ?l29 ?c29 ?k29 ?a30 ?l30 ?c30 ?k30 ?a31 ?l31 ?c31 ?k31 ?a32 ?l32 ?c32 ?k32 ?a33 ?l33 ?c33 ?k33 ?a34 ?l34 ?c34 ?k34 ?a35 ?l35 ?c35 ?k35 ?pg_RoomBook ?hd_RoomBook ?po_RoomBook ?sa_RoomBook ?mk_RoomBook ?kc_RoomBook ?na_RoomBook__walker ?na_RoomBook__rooms ?z_abs ?z_all ?z_any ?z_bool ?z_dict ?z_enumerate ?z_int ?z_isinstance ?z_len ?z_list ?z_range ?z_str ?z_tuple ?z_zip
    (case aC_RoomBook => k_is); (case a0 => k_is); (case l0 => k_is); (case c0 => k_is); (case k0 => k_is); (case a1 => k_is); (case l1 => k_is); (case c1 => k_is); (case k1 => k_is); (case a2 => k_is); (case l2 => k_is); (case c2 => k_is); (case k2 => k_is); (case a3 => k_is); (case l3 => k_is); (case c3 => k_is); (case k3 => k_is); (case a4 => k_is); (case l4 => k_is); (case c4 => k_is); (case k4 => k_is); (case a5 => k_is); (case l5 => k_is); (case c5 => k_is); (case k5 => k_is); (case a6 => k_is); (case l6 => k_is); (case c6 => k_is); (case k6 => k_is); (case a7 => k_is); (case l7 => k_is); (case c7 => k_is); (case k7 => k_is); (case a8 => k_is); (case l8 => k_is); (case c8 => k_is); (case k8 => k_is); (case a9 => k_is); (case i9 => k_is); (case l9 => k_is); (case c9 => k_is); (case k9 => k_is); (case a10 => k_is); (case i10 => k_is); (case l10 => k_is); (case c10 => k_is); (case k10 => k_is); (case a11 => k_is); (case i11 => k_is); (case l11 => k_is); (case c11 => k_is); (case k11 => k_is); (case a12 => k_is); (case l12 => k_is); (case c12 => k_is); (case k12 => k_is); (case a13 => k_is); (case l13 => k_is); (case c13 => k_is); (case k13 => k_is); (case a14 => k_is); (case l14 => k_is); (case c14 => k_is); (case k14 => k_is); (case a15 => k_is); (case l15 => k_is); (case c15 => k_is); (case k15 => k_is); (case a16 => k_is); (case l16 => k_is); (case c16 => k_is); (case k16 => k_is); (case a17 => k_is); (case l17 => k_is); (case c17 => k_is); (case k17 => k_is); (case a18 => k_is); (case l18 => k_is); (case c18 => k_is); (case k18 => k_is); (case a19 => k_is); (case l19 => k_is); (case c19 => k_is); (case k19 => k_is); (case a20 => k_is); (case l20 => k_is); (case c20 => k_is); (case k20 => k_is); (case a21 => k_is); (case l21 => k_is); (case c21 => k_is); (case k21 => k_is); (case a22 => k_is); (case l22 => k_is); (case c22 => k_is); (case k22 => k_is); (case a23 => k_is); (case l23 => k_is); (case c23 => k_is); (case k23 => k_is); (case a24 => k_is); (case l24 => k_is); (case c24 => k_is); (case k24 => k_is); (case a25 => k_is); (case l25 => k_is); (case c25 => k_is); (case k25 => k_is); (case a26 => k_is); (case l26 => k_is); (case c26 => k_is); (case k26 => k_is); (case a27 => k_is); (case l27 => k_is); (case c27 => k_is); (case k27 => k_is); (case a28 => k_is); (case l28 => k_is); (case c28 => k_is); (case k28 => k_is); (case a29 => k_is); (case l29 => k_is); (case c29 => k_is); (case k29 => k_is); (case a30 => k_is); (case l30 => k_is); (case c30 => k_is); (case k30 => k_is); (case a31 => k_is); (case l31 => k_is); (case c31 => k_is); (case k31 => k_is); (case a32 => k_is); (case l32 => k_is); (case c32 => k_is); (case k32 => k_is); (case a33 => k_is); (case l33 => k_is); (case c33 => k_is); (case k33 => k_is); (case a34 => k_is); (case l34 => k_is); (case c34 => k_is); (case k34 => k_is); (case a35 => k_is); (case l35 => k_is); (case c35 => k_is); (case k35 => k_is); (case pg_RoomBook => k_is); (case hd_RoomBook => k_is); (case po_RoomBook => k_is); (case sa_RoomBook => k_is); (case mk_RoomBook => k_is); (case kc_RoomBook => k_is); (case na_RoomBook__walker => k_is); (case na_RoomBook__rooms => k_is); (case z_abs => k_is); (case z_all => k_is); (case z_any => k_is); (case z_bool => k_is); (case z_dict => k_is); (case z_enumerate => k_is); (case z_int => k_is); (case z_isinstance => k_is); (case z_len => k_is); (case z_list => k_is); (case z_range => k_is); (case z_str => k_is); (case z_tuple => k_is); (case z_zip => k_is)
